import PyProof.Rows.All
import Wide.All
import OpenK.AllK
import Wide.FinOn
import HandS.ForMost
import HandS.ForExc
import HandS.ExcInit
import KE.KExcSuper
import KE.KSuper
import HandS.Deep
import HandS.TupAny
import HandS.TupMul
import HandS.IsInst
import HandS.Wide
import HandS.Strs
import HandS.Text
import HandS.TupLen
import HandS.ExcField
import HandS.Star
import HandS.Property
import HandS.OwnEq
import HandS.Defaults
import HandS.MakeKwOnly
import HandS.Comp
import HandS.Keys
import PyProof.EnumMake
import PyProof.Draws
import HandS.Zip0
import HandS.Zip
import HandS.Walk
import PyProof.ZipIter
import HandS.Iter
import HandS.DictComp
import HandS.Small
import HandS.CallSlots
import KE.KExcIs
import HandS.Style
import HandS.List
import HandS.SortInts
import HandS.More
import KE.KSortTupAny
import PyProof.EqAt
import PyProof.EqKinds
import PyProof.TupleCall
import HandS.Base
import HandS.Call
import HandS.Set
import HandS.Conv
import HandS.WordsExc
import HandS.HeadHook1
import HandS.Ends
import HandS.Head0
import HandS.Head1
import HandS.Head2
import HandS.HeadEnd
import HandS.HeadHook2
import HandS.HeadHook4
import Open.Row
import KE.KStateDown
import Lean
import PySem.Challenge.RW_carriedin_k01_rules_refused
set_option Elab.async false
set_option linter.all false
set_option maxRecDepth 100000
set_option maxHeartbeats 4000000
/-! CyExc: an own exception (over ValueError) whose __init__ says super().__init__(text) and stores its one field. -/
namespace Cy
open PySem L2 PySem.W PySem.Calls PyProof.Rows
section
variable {prog : Program} {w : World} {A : Around} {E : Value → Shared → Prop} {h : Heap} {g : Array GenState} {d : Drawn} {t : Nat} {os : OsState}
abbrev veI : String := "ValueError.__init__"
theorem mw_call {nm q : Str} {C N u e t0 : Addr} {bs bm : List Value} {hdct : Bool} {sn : List Str} {sub : List Value} {ab : Bool} {col : Option Bool} {dd : Option Addr} {k0 k1 k2 k3 k5 : Option Value} {rest : List Value} {Q : Value → Shared → Prop}
    (hC : h.get? C = some (excClassObj nm q C N bs bm hdct sn sub ab col dd k0 k1 k2 k3 k5 "ValueError.__new__")) (he : h.get? e = some (excObj C t0 none .none)) (hu : h.get? u = some (kxs_mw veI e)) (hz : rest.length ≤ sizeLine)
    (hq : ∀ h' t', (∀ b o, b ≠ e → h.get? b = some o → h'.get? b = some o) → h'.get? e = some (excObj C t' none .none) → Q .none ⟨h', g, d, t, os⟩) : wpAny (model prog w) A (call (.ref u) rest) Q E ⟨h, g, d, t, os⟩ := by
  refine wpAny_call (codeAny_of_tree (show wpAny _ A.in1 (callAny (.ref u) ⟨rest, []⟩) _ _ _ from ?_))
  simp only [callAny]
  refine wpAny_bind (wpAny_load hu (?_ : wpAny _ _ _ _ _ _))
  simp only [kxs_mw, show (Value.type "method-wrapper" == Value.type "method" || Value.type "method-wrapper" == Value.type "builtin_function_or_method" || Value.type "method-wrapper" == Value.type "method-wrapper") = true by decide, if_true]
  refine KFB.if_so (by decide) (wpAny_bind (check_bound_init F.excBase_ValueError.toExcCallFacts hC he rfl (wpAny_bind (wpAny_pure (wpAny_pure ⟨plainId_quiet F.excBase_ValueError.init.plain _, codeAny_builtin F.excBase_ValueError.initEntry ?_⟩)))))
  exact exc_init_tree (cls := .ref C) (t0 := t0) (dv := none) (c2 := .none) (c3 := .none) (b4 := .bool false) he hz fun h' k e1 _ => hq h' _ k e1
end
end Cy

set_option Elab.async false
set_option linter.all false
set_option maxRecDepth 100000
set_option maxHeartbeats 4000000
/-! CyExc2: the body of an own exception's __init__. -/
namespace Cy
open PySem L2 PySem.W PySem.Calls PyProof.Rows
/-- super().__init__(text); self.fld = fld -/
def iniB (tx fl : Str) (n0 : Nat) (p0 p1 p2 p3 p4 p5 p6 p7 p8 p9 : Pos) : List Stmt :=
  [.Expr (.Call (.Attribute (.Call (.Name "super" p0) [] [] p1) "__init__" p2) [.Constant (.str tx) n0 p3] [] p4) p5,
   .Assign [.Attribute (.Name "self" p6) fl p7] (.Name fl p8) p9]
theorem meth_evalB {o : Expr} {m : Str} {apos pos p3 : Pos} {k : Const} {n0 : Nat} {env : PySem.Env} (hp : (apos.endLine == pos.line) = true) :
    eval (.Call (.Attribute o m apos) [.Constant k n0 p3] [] pos) env = (do
      let ov ← attributeBase o m env (eval o env)
      standAt apos.atName
      let (f, first) ← holding [ov] (getMethod ov m (do return (← importBound o env).getD true))
      callWith pos f first (backTo pos (starEach [.Constant k n0 p3] env)) []) := by
  have e1 : methodCallForm ([Expr.Constant k n0 p3].length + ([] : List Keyword).length) (backTo pos (starEach [.Constant k n0 p3] env)) (backToKw pos (keywordEach [] env)) = true := by
    unfold methodCallForm
    rfl
  show (attributeBase o m env (eval o env) >>= fun ov => standAt apos.atName >>= fun _ => methodCall o m apos pos env ov ([Expr.Constant k n0 p3].length + ([] : List Keyword).length) (backTo pos (starEach [.Constant k n0 p3] env)) (backToKw pos (keywordEach [] env))) = _
  unfold methodCall calleeOf methodCallPos
  simp only [e1, hp, Bool.not_true, Bool.false_or, if_true, pure_bind]
  rfl
/-- what is told of the text around such an __init__ -/
structure IniK (prog : Program) (K : Frag) (C f : Addr) (fd : FuncData) (fl : Str) : Prop where
  ex : ∃ (name qual tx : Str) (n0 : Nat) (p0 p1 p2 p3 p4 p5 p6 p7 p8 p9 : Pos) (params : Arguments) (scope : Scope) (dV kV doc pm ct oc : Value) (an od : Option Addr) (osl : Array (Option Value)) (cc cda : Addr) (ar : Arg)
      (vs : Array Value) (file : Str) (tf : Tok) (ccl cl : Value) (cdd cld : Option Addr) (ccs csl : Array (Option Value)),
    fd = ksFn name qual params (iniB tx fl n0 p0 p1 p2 p3 p4 p5 p6 p7 p8 p9) scope dV kV doc pm an (.ref cda) ct cc ∧ K.lookup f = some ⟨oc, od, .func fd, osl⟩ ∧
    codeIn K (.ref cda) qual = true ∧ K.lookup cda = some ⟨ccl, cdd, .fields vs, ccs⟩ ∧ vs[2]? = some (.str file tf) ∧ ((prog.main.file : Str) == file) = true ∧ (p2.endLine == p4.line) = true ∧
    K.lookup cc = some ⟨cl, cld, .cell (some (.ref C)), csl⟩ ∧ (params.posonlyargs ++ params.args).head? = some ar ∧ ar.arg = "self" ∧
    scope.kind = .function ∧ scope.isCoroutine = false ∧ scope.isGenerator = false ∧ (∀ x ∈ scope.names, x.2 ≠ .cell) ∧
    scope.names.lookup ("super" : Str) = some .globalImplicit ∧ scope.names.lookup ("__class__" : Str) = some .free ∧ scope.names.lookup ("self" : Str) = some .local ∧ scope.names.lookup fl = some .local
  fl1 : (fl == ("__debug__" : Str)) = false
  fl2 : fl ≠ "self"
  sup : nsIn K mainGlobals "super" = some none
  top : (prog.main.scope.names.lookup ("super" : Str)).isSome = false
  opq : nsIn K cStatics "thirdparty.any" = some none
  cls : OexC K C
  ini : ∃ cd, clsIn K C = some cd ∧ alongIn K "__init__" ((cd.mro.dropWhile (· != .ref C)).drop 1) = some (some (.builtin veI))
  sub : mroIn K C (.ref C) = some true
  ve : subIn K (.ref C) (.type "ValueError") = some true
  noF : findIn K (.ref C) fl = some none

section
variable {prog : Program} {w : World} {A : Around} {E : Value → Shared → Prop} {s : Shared} {K : Frag} {C f a t1 : Addr} {fd : FuncData} {fl : Str} {u : Value} {args : Args} {R : Result → Shared → Prop} {mg : Str → Option Value}
theorem init_raw (T : IniK prog K C f fd fl) (X : K.In s.heap) (lim : s.heap.NoLimit) (hg : s.heap.Ns mainGlobals mg) (hb : ∃ mb, s.heap.Ns builtinsNs mb ∧ ∀ x : Str, x ≠ "__name__" → mb x = bootBuiltins x)
    (hroom : A.depth < recursionLimit) (hbind : BindsTo s fd args [(("self" : Str), Value.ref a), (fl, u)]) (he : s.heap.get? a = some (excObj C t1 none .none)) (hKa : K.lookup a = none)
    (hq : ∀ s' dx, s'.os = s.os → s'.gens = s.gens → (∀ b o, b ≠ a → s.heap.get? b = some o → s'.heap.get? b = some o) → s.heap.objs.size ≤ dx → dx ≠ a → (∃ t2, s'.heap.get? a = some (excObj C t2 (some dx) .none)) →
      s'.heap.Ns1 dx (fun y => if y = fl then some u else none) → R (.ok (.ret .none)) s') : codeAny (model prog w) A (.call (.ref f) args) R s := by
  obtain ⟨name, qual, tx, n0, p0, p1, p2, p3, p4, p5, p6, p7, p8, p9, params, scope, dV, kV, doc, pm, ct, oc, an, od, osl, cc, cda, ar, vs, file, tf, ccl, cl, cdd, cld, ccs, csl, efd, lk, hcd, lcd, hvs, hfile, hpp, lcc, har, harn, hk, hco, hgen, hcell, ks, kc, kself, kfl⟩ := T.ex
  subst efd
  obtain ⟨nm, q, N, bs, bm, sn, sub, ab, col, dd, k0, k1, k2, k3, k5, hC, hbm⟩ := T.cls.cls
  obtain ⟨cd, hcl, hal⟩ := T.ini
  have hcl' : clsIn K C = some { name := nm, bases := bs, mro := .ref C :: bm, ns := N, qualname := q, hasDict := true, slotNames := sn, subclasses := sub, abstract := ab, collection := col, hasDel := false } := by unfold clsIn; rw [hC] <;> rfl
  have hself : [(("self" : Str), Value.ref a), (fl, u)].reverse.lookup ("self" : Str) = some (.ref a) := by
    have e : (("self" : Str) == fl) = false := by simpa using fun z => T.fl2 z.symm
    simp [List.lookup, e]
  have hflv : [(("self" : Str), Value.ref a), (fl, u)].reverse.lookup fl = some u := by simp [List.lookup]
  obtain ⟨h0, g, d, t, os⟩ := s
  refine ks_codeAny_call_defAt hroom (X _ _ lk) rfl lim (codeRec_of X hcd) rfl hbind hcell (fun y hy => ?_) (fun h1 hns k1' => ?_) hco hgen hk
  · simp only [List.mem_cons, List.mem_nil_iff, or_false] at hy
    rcases hy with rfl | rfl
    · exact kself
    · exact kfl
  have X1 : K.In h1 := X.keeps k1'
  have fin : ∀ (Ex : Value → Shared → Prop) (h3 : Heap) (t2 : Nat) (t' : Addr), (∀ b o, b ≠ a → h1.get? b = some o → h3.get? b = some o) → h3.get? a = some (excObj C t' none .none) →
      _root_.PySem.wpAt (model prog w) (A.deeper (ksEnv qual scope h0.objs.size f (.ref cda) cc)) (.func (iniB tx fl n0 p0 p1 p2 p3 p4 p5 p6 p7 p8 p9) (ksEnv qual scope h0.objs.size f (.ref cda) cc))
        (execs [.Assign [.Attribute (.Name "self" p6) fl p7] (.Name fl p8) p9] (ksEnv qual scope h0.objs.size f (.ref cda) cc)) (fun f s' => R (.ok (.ret (match f with | .ret v => v | _ => .none))) s') Ex ⟨h3, g, d, t2, os⟩ := fun Ex h3 t2 t' k3 e3 => by
    have nL : h0.objs.size ≠ a := fun z => Nat.lt_irrefl _ (by rw [← z] at he; exact Heap.lt_size he)
    have X3 : K.In h3 := fun b o q => k3 b o (fun z => by rw [z, hKa] at q; cases q) (k1' b o (X b o q))
    have hns3 : h3.Ns h0.objs.size (fun x => [(("self" : Str), Value.ref a), (fl, u)].reverse.lookup x) := hns.at fun o e => k3 _ _ nL e
    refine ks_wpAt_execs_cons (wpAt_of_wpAny (plainObj_wpAny_Assign_Attribute (wpAny_Name (wpAny_loadName_local hk kfl hns3 hflv (wpAny_Name (wpAny_loadName_local hk kself hns3 hself ?_))) T.fl1) rfl))
    refine set_plain X3 (od := none) ⟨e3, rfl, rfl, trivial⟩ T.cls.sa ?_
    refine PySem.HandSPX.exc_osa X3 e3 hcl' (show PySem.HandSPX.refsVE (.ref C :: bm) = true from hbm) rfl T.noF (fun h' tk' dx k4 dn dne hx hnx => ?_)
    refine wpAt_of_wpAny (wpAny_execs_nil ?_)
    exact hq _ dx rfl rfl (fun b o n q => k4 b o n (k3 b o n (k1' b o q))) (Nat.le_trans (Nat.le_of_lt hns3.lt) dn) dne ⟨_, hx⟩ hnx
  have hin : interactive (ksEnv qual scope h0.objs.size f (.ref cda) cc) = false := by unfold interactive; simp [hk]
  refine ks_wpAt_execs_cons (ks_wpAt_Expr_any (ks_wpAt_MethodCall ?_ (meth_evalB hpp)) hin rfl)
  refine ks_wpAt_super_base (env := ksEnv qual scope h0.objs.size f (.ref cda) cc) ks kc rfl rfl (X1 _ _ lk) rfl har rfl (X1 _ _ lcd) rfl hvs hfile T.top ?_
  obtain ⟨mb, hb1, hb2⟩ := hb
  refine ks_loadName_global hk ks (loadGlobal_builtin (env := ksEnv qual scope h0.objs.size f (.ref cda) cc) (hg.at fun o e => k1' _ _ e) (mg_none_of X hg T.sup) (hb1.at fun o e => k1' _ _ e) ((hb2 _ (by decide)).trans (by decide +kernel)) ⟨rfl, ?_⟩)
  refine wpAny_loadName_free hk kc rfl ⟨_, X1 _ _ lcc, rfl⟩ ?_
  refine wpAny_loadName_local hk (by rw [harn]; exact kself) hns (by rw [harn]; exact hself) ?_
  refine ks_wpAny_isType_cls (X1 _ _ hC) rfl ⟨rfl, ?_⟩
  refine ks_wpAny_call_super (X1 _ _ hC) rfl (k1' _ _ he) rfl (fun c e => by cases e) (looks_mroIn X1 T.sub) (fun h2 e2 k2 => ?_)
  have X2 : K.In h2 := X1.keeps k2
  have he2 : h2.get? a = some (excObj C t1 none .none) := k2 _ _ (k1' _ _ he)
  have hne : a ≠ C := fun z => by
    have q := X _ _ hC
    rw [← z, he] at q
    cases q
  have it : InstAt h2 a (excObj C t1 none .none) C none := ⟨he2, rfl, rfl, trivial⟩
  have hmr : Looks (model prog w) h2 (mroOf (.ref C)) cd.mro := (looks_clsIn X2 hcl).andThen .now
  refine kxs_getMethod kxs_ValueError e2 (looks_opaque X2 T.opq) hmr rfl X2 hal (it.type.andThen (looks_subIn X2 T.ve)) hne rfl ?_
  refine kxs_callWith (i := veI) (x := a) rfl ?_
  show wpAny _ _ (evalArgs _ true ((false, eval (.Constant (.str tx) n0 p3) (ksEnv qual scope h0.objs.size f (.ref cda) cc)) :: []) []) _ _ _
  have hu : (h2.push (kxs_mw veI a)).get? h2.objs.size = some (kxs_mw veI a) := Heap.get?_push_size _ rfl
  refine evalArgs_plain (spliced_cons (wpAny_Constant_str (spliced_nil ⟨hu, ?_⟩)))
  refine mw_call (Heap.get?_push_of_some _ (X2 _ _ hC)) (Heap.get?_push_of_some _ he2) hu (by simp [sizeLine_eq]) fun h3 t' k3 e3 => ?_
  exact fin _ _ _ _ (fun b o n q => k3 _ _ n (Heap.get?_push_of_some _ (k2 _ _ q))) e3
end
end Cy
namespace Cy
open PySem L2 PySem.W PySem.Calls PyProof.Rows
/-- such an __init__, as a promise -/
def spI (C : Addr) (fl : Str) : Sp := fun vs H Q _ => ∃ a v, vs = [V.ref a, v] ∧ H a = some (exo a C none) ∧ ∀ dx, H dx = none → dx ≠ a → Q .non (upd (upd H dx (exd dx [(fl, v)])) a (exo a C (some dx)))
theorem fn_init {P : Program} {w : World} {K : Frag} {mg : Str → Option Value} {base : Heap} {CX : CXT} {k : Nat} {C f : Addr} {fd : FuncData} {fl : Str} (T : IniK P K C f fd fl) : FnOk P w K mg base CX k f fd ["self", fl] (spI C fl) := by
  refine ⟨fun vs H Q E ⟨a, v, e, _⟩ => by rw [e]; rfl, fun A outer s H args us vs Q E hr e0 hb r hsp => ?_⟩
  obtain ⟨a, v, rfl, hH, hQ⟩ := hsp
  cases r with
  | cons r1 r2 =>
  rename_i u1 ul
  cases r2 with
  | cons r3 r4 =>
  rename_i u ul2
  cases r4
  have e1 : u1 = Value.ref a := r1
  subst e1
  obtain ⟨t1, he⟩ := exo_at e0.hok hH
  have up : ∀ b o, base.get? b = some o → s.heap.get? b = some o := fun b o q => (e0.bs b o q).1
  have hKa : K.lookup a = none := by
    cases z : K.lookup a with
    | none => rfl
    | some o =>
      have q := (e0.bs a o (e0.mod.kin a o z)).2
      rw [hH] at q
      cases q
  obtain ⟨mb, hb1, hb2⟩ := e0.mod.blt
  refine init_raw T (e0.mod.kin.keeps up) (e0.mod.nolimit.keeps up) (e0.mod.glob.at fun o q => up _ _ q) ⟨mb, hb1.at fun o q => up _ _ q, hb2⟩ hr.depth hb he hKa ?_
  intro s' dx hos hge keep fresh dne ⟨t2, hx⟩ hn
  have hnd : H dx = none := e0.hok.fresh fresh
  have nd : ∀ {b : Addr} {o : Obj}, s.heap.get? b = some o → b ≠ dx := fun {b o} q z => Nat.lt_irrefl _ (Nat.lt_of_lt_of_le (Heap.lt_size q) (z ▸ fresh))
  have na : ∀ {b : Addr}, H b = none → b ≠ a := fun {b} n z => by
    rw [z, hH] at n
    cases n
  refine ⟨V.non, upd (upd H dx (exd dx [(fl, v)])) a (exo a C (some dx)), hos, by rw [hge]; exact e0.bare, ?_, ?_, rfl, hQ dx hnd dne⟩
  · exact {
      keep := fun b o q n _ _ => keep b o (na n) q
      slot := fun b o q n _ _ => ⟨o.slots, keep b o (na n) q⟩
      free := fun b o q n _ => by
        rw [upd_ne (na n), upd_ne (nd q)]
        exact n
      there := fun b o q _ => by
        by_cases z : b = a
        · exact z ▸ ⟨_, hx⟩
        · exact ⟨o, keep b o z q⟩
      tups := fun b xs q => by
        rw [upd_ne (at_ne hH q exo_tup), upd_ne (ne_of_none q hnd)]
        exact q
      frzs := fun b o z q => by
        rw [upd_ne (at_ne hH q exo_frz), upd_ne (ne_of_none q hnd)]
        exact q
      tbls := fun b ps q => ⟨#[], by
        rw [upd_ne (at_ne hH q exo_tbl), upd_ne (ne_of_none q hnd), q]
        simp⟩ }
  · intro b o q
    by_cases z : b = a
    · subst z
      rw [upd_same] at q
      cases q
      exact exo_ok hx
    · rw [upd_ne z] at q
      by_cases y : b = dx
      · subst y
        rw [upd_same] at q
        cases q
        exact exd_ok hn (relO_put (fs := []) r3 fun _ => True.intro)
      · rw [upd_ne y] at q
        refine (e0.hok b o q).stay (fun c ob hc st => keep c ob (hc.elim (fun e => by rw [e]; exact z) fun e => at_ne hH e exo_own) st) (fun c hc => ?_) (fun c xs hc => ?_)
        · rw [upd_ne (at_ne hH hc exo_own), upd_ne (ne_of_none hc hnd)]
          exact hc
        · rw [upd_ne (at_ne hH hc exo_tup), upd_ne (ne_of_none hc hnd)]
          exact hc
end Cy

set_option Elab.async false
set_option linter.all false
set_option maxRecDepth 100000
set_option maxHeartbeats 2000000
/-! CyBase: data by value, tokens, the small language, its evaluator. No machine in sight. -/
namespace Cy
open PySem

inductive D where
  | non | bl (b : Bool) | int (i : Int) | str (x : Str)
  | tup (xs : List D) | lst (xs : List D) | dict (t : Bool) (ks vs : List D) | obj (c : Nat) (fs : List D)
/-- a value: by value, or a token of a mutable object -/
inductive W where
  | v (d : D) | t (n : Nat)
/-- what a token stands for -/
inductive C where
  | lst (ws : List W) | dict (t : Bool) (ks : List D) (ws : List W) | obj (c : Nat) (ws : List W) | dead
abbrev Env := List (Option W)
abbrev Store := List C

inductive R (α : Type) where
  | ok (a : α) (m : Store) | ex (c : Nat) (ds : List D) (m : Store) | bad
namespace R
def bind {α β : Type} : R α → (α → Store → R β) → R β
  | ok a m, k => k a m
  | ex c ds m, _ => ex c ds m
  | bad, _ => bad
/-- within a comprehension nothing is raised -/
def noex {α : Type} : R α → R α
  | ok a m => ok a m
  | _ => bad
end R
abbrev FnT := List W → Store → R W
structure Fns where
  fn : Nat → FnT
  glob : Nat → D
  fuel : Nat

/-- sizes of lists and texts that are made -/
abbrev LIM : Nat := 10000000

/-! ### operations on data -/
mutual
def eqB : D → D → Bool
  | .non, .non => true
  | .bl a, .bl b => a == b
  | .bl a, .int j => (if a then 1 else 0) == j
  | .int i, .bl b => i == (if b then 1 else 0)
  | .int i, .int j => i == j
  | .str x, .str y => x == y
  | .tup xs, .tup ys => eqBs xs ys
  | .lst xs, .lst ys => eqBs xs ys
  | _, _ => false
def eqBs : List D → List D → Bool
  | [], [] => true
  | x :: xs, y :: ys => eqB x y && eqBs xs ys
  | _, _ => false
end
mutual
/-- no dict, no object within -/
def plain : D → Bool
  | .dict _ _ _ => false
  | .obj _ _ => false
  | .tup xs => plains xs
  | .lst xs => plains xs
  | _ => true
def plains : List D → Bool
  | [] => true
  | x :: xs => plain x && plains xs
end
mutual
def dep : D → Nat
  | .tup xs => deps xs + 1
  | .lst xs => deps xs + 1
  | _ => 0
def deps : List D → Nat
  | [] => 0
  | x :: xs => max (dep x) (deps xs)
end
/-- keys of dicts: ints and texts, or tuples of them -/
def flatK : D → Bool
  | .int _ => true
  | .str _ => true
  | _ => false
def keyB : D → D → Bool
  | .int i, .int j => i == j
  | .str x, .str y => x == y
  | .tup xs, .tup ys => eqBs xs ys
  | _, _ => false
def isI : D → Bool
  | .int _ => true
  | _ => false
/-- a tuple of ints -/
def intsD (xs : List D) : Bool := !xs.isEmpty && xs.all isI
/-- a key of a dict of its kind: ints and texts, or tuples of ints -/
def keyOk (t : Bool) (d : D) : Bool := match t, d with
  | false, d => flatK d
  | true, .tup xs => intsD xs
  | true, _ => false
def findK {α : Type} : List D → List α → D → Option α
  | k :: ks, v :: vs, x => if keyB k x then some v else findK ks vs x
  | _, _, _ => none
def putK {α : Type} (ks : List D) (vs : List α) (x : D) (y : α) : List D × List α :=
  if (ks.any fun k => keyB k x) = true then (ks, List.zipWith (fun k v => if keyB k x then y else v) ks vs) else (ks ++ [x], vs ++ [y])

def eqO (a b : D) : Option Bool :=
  if plain a && plain b && decide (dep a ≤ 60) && decide (dep b ≤ 60) then some (eqB a b) else none

inductive BO | add | sub | mul | fdiv | mod | pow
  deriving DecidableEq
inductive CO | eq | ne | lt | le | gt | ge | in_ | nin | is_ | isnot
  deriving DecidableEq

def addD : D → D → Option D
  | .int i, .int j => some (.int (i + j))
  | .str x, .str y => if x.length + y.length ≤ LIM then some (.str (x ++ y)) else none
  | .tup xs, .tup ys => if xs.length + ys.length ≤ LIM then some (.tup (xs ++ ys)) else none
  | .lst xs, .lst ys => if xs.length + ys.length ≤ LIM then some (.lst (xs ++ ys)) else none
  | _, _ => none
def mulS (x : Str) (k : Int) : Str := if k < 1 then Str.empty else if (k == 1 || x.length == 0) = true then x else ⟨(List.replicate k.toNat x.cps).foldl (· ++ ·) #[]⟩
def binD : BO → D → D → Option D
  | .add, a, b => addD a b
  | .sub, .int i, .int j => some (.int (i - j))
  | .mul, .int i, .int j => if (-(2 ^ 64) < i ∧ i < 2 ^ 64) ∨ (-(2 ^ 64) < j ∧ j < 2 ^ 64) then some (.int (i * j)) else none
  | .mul, .tup xs, .int k => if 2 ≤ k ∧ k ≤ 1000 ∧ xs.length ≤ 1000 then some (.tup (List.replicate k.toNat xs).flatten) else none
  | .mul, .lst xs, .int k => if 0 ≤ k ∧ k ≤ 1000 ∧ xs.length ≤ 1000 then some (.lst (List.replicate k.toNat xs).flatten) else none
  | .mul, .str x, .int k => if x.length ≤ 1000 ∧ 0 ≤ k ∧ k ≤ 10000 then some (.str (mulS x k)) else none
  | .fdiv, .int i, .int j => if 0 < j ∧ j < 1073741824 then some (.int (i / j)) else none
  | .mod, .int i, .int j => if 0 < j then some (.int (i % j)) else none
  | .pow, .int i, .int j => if 0 ≤ j ∧ j ≤ 1000 ∧ i.natAbs < 2 ^ 64 then some (.int (i ^ j.toNat)) else none
  | _, _, _ => none
def cmpI : CO → Int → Int → Option Bool
  | .lt, i, j => some (decide (i < j))
  | .le, i, j => some (decide (i ≤ j))
  | .gt, i, j => some (decide (j < i))
  | .ge, i, j => some (decide (j ≤ i))
  | _, _, _ => none
def inD (x : D) : D → Option Bool
  | .tup ys => if plain x && plains ys && decide (dep x ≤ 60) && decide (deps ys ≤ 60) then some (ys.any fun y => eqB y x) else none
  | .lst ys => if plain x && plains ys && decide (dep x ≤ 60) && decide (deps ys ≤ 60) then some (ys.any fun y => eqB y x) else none
  | .str z => match x with
    | .str y => if y.length = 1 then some (decide (y.cps.getD 0 0 ∈ z.cps.toList)) else none
    | _ => none
  | .dict t ks vs => if keyOk t x then some (findK ks vs x).isSome else none
  | _ => none
def cmpD : CO → D → D → Option Bool
  | .eq, a, b => eqO a b
  | .ne, a, b => (eqO a b).map (!·)
  | .in_, a, b => inD a b
  | .nin, a, b => (inD a b).map (!·)
  | .is_, a, .non => some (match a with | .non => true | _ => false)
  | .isnot, a, .non => some (match a with | .non => false | _ => true)
  | o, .int i, .int j => cmpI o i j
  | _, _, _ => none

def ixD : D → D → Option D
  | .tup xs, .int i => (L2.ixN xs.length i).bind fun k => xs[k]?
  | .lst xs, .int i => (L2.ixN xs.length i).bind fun k => xs[k]?
  | .dict t ks vs, k => if keyOk t k then findK ks vs k else none
  | _, _ => none
def cutL {α : Type} (xs : List α) (lo hi : Option Int) : List α := (xs.drop (HT.sIx xs.length 0 lo)).take (HT.sIx xs.length xs.length hi - HT.sIx xs.length 0 lo)
def slD : D → Option Int → Option Int → Option D
  | .tup xs, lo, hi => some (.tup (cutL xs lo hi))
  | .lst xs, lo, hi => some (.lst (cutL xs lo hi))
  | _, _, _ => none

/-! ### the store -/
def allV : List W → Option (List D)
  | [] => some []
  | .v d :: ws => (allV ws).map (d :: ·)
  | .t _ :: _ => none
def snapC : C → Option D
  | .lst ws => (allV ws).map .lst
  | .dict t ks ws => (allV ws).map (.dict t ks)
  | _ => none
/-- what is there to be read now -/
def snap (m : Store) : W → Option D
  | .v d => some d
  | .t n => (m[n]?).bind snapC
def isNon : W → Bool
  | .v .non => true
  | _ => false

/-! ### the language -/
inductive Ty | non | int | bool | str | tuple | list | dict | cls (c : Nat)
  deriving DecidableEq
/-- built-in functions of values -/
inductive BF | len | all | any | int | max | min | sorted | tuple | list | lenset | dlist | dsorted
  deriving DecidableEq
/-- methods of texts, lists, dicts that change nothing -/
inductive MF | join | partition | split | index | get | items
  deriving DecidableEq
/-- methods that change a list or a dict -/
inductive XF | append | extend | insert | clear | reverse
  deriving DecidableEq

mutual
inductive G where
  | n (i : Nat)
  | tup (gs : GL)
inductive GL where
  | nil | cons (g : G) (gs : GL)
end
mutual
inductive E where
  | c (d : D)
  | var (i : Nat)
  | glob (g : Nat)
  | neg (a : E)
  | not_ (a : E)
  | bin (op : BO) (a b : E)
  | cat (a b : E)
  | cmp (op : CO) (a b : E)
  | eqo (c f : Nat) (a b : E)
  | chain (o1 o2 : CO) (a b c : E)
  | and_ (es : EL)
  | or_ (es : EL)
  | ifx (c a b : E)
  | tup (es : EL)
  | lst (m : Bool) (es : EL)
  | dict (m : Bool) (kt : Bool) (ks vs : EL)
  | dictS (a k x : E)
  | ix (a b : E)
  | no
  | sl (a lo hi : E)
  | rev (a : E)
  | fld (c : Nat) (a : E) (i : Nat)
  | call (f : Nat) (es : EL)
  | callk (f : Nat) (es : EL) (k : E)
  | make (m : Bool) (c f : Nat) (es : EL)
  | meth (c f : Nat) (o : E) (es : EL)
  | prop (c f : Nat) (o : E)
  | leno (c f : Nat) (o : E)
  | bi (b : BF) (m : Bool) (es : EL)
  | rng (a b : E)
  | isi (o : E) (ts : List Ty)
  | sm (f : MF) (o : E) (es : EL)
  | comp (m : Bool) (g : G) (it : IT) (cs : EL) (elt : E)
  | dcomp (kt : Bool) (g : G) (it : IT) (cs : EL) (k x : E)
  | lens (a : E)
  | nev
inductive EL where
  | nil | cons (e : E) (es : EL) | star (e : E) (es : EL)
/-- what a loop walks -/
inductive IT where
  | seq (e : E) | chars (e : E) | rng (a b : E) | enum (e : E) | zip (a b : E) | keys (e : E)
end

/-- the one call whose exceptions are caught -/
inductive TX where
  | call (f : Nat) (es : EL) | make (c f : Nat) (es : EL) | meth (c f : Nat) (o : E) (es : EL)
/-- what an except suite stores: of the caught error's field -/
inductive HX where
  | f | c (d : D) | lst (h : HX) | tup (d : D) (h : HX) | isi (c : Nat) (h : HX)
/-- except c as (name at j): (name at i) = x -/
structure HD where
  c : Nat
  i : Nat
  j : Nat
  x : HX
mutual
inductive S where
  | asg (i : Nat) (e : E)
  | asgG (g : G) (e : E)
  | par (is : List Nat) (es : EL)
  | parG (gs : GL) (es : EL)
  | fset (c : Nat) (o : E) (i : Nat) (e : E)
  | iset (o k e : E)
  | iset2 (o k o2 k2 e e2 : E)
  | mut (f : XF) (o : E) (es : EL)
  | pop (i : Nat) (o : E)
  | expr (e : E)
  | if_ (c : E) (a b : SL)
  | for_ (g : G) (it : IT) (b : SL)
  | while_ (c : E) (b : SL)
  | ret (e : E)
  | ret0
  | raise (c : Nat) (es : EL)
  | try_ (t : Option Nat) (b : TX) (rest : SL) (kn : List Nat) (hs : List HD)
  | pass
  | aug (i : Nat) (e : E)
  | frz (i : Nat)
  | nev
inductive SL where
  | nil | cons (s : S) (ss : SL)
end

def getS : Nat → Env → Option W
  | _, [] => none
  | 0, w :: _ => w
  | n + 1, _ :: ws => getS n ws
def setS : Nat → W → Env → Env
  | _, _, [] => []
  | 0, w, _ :: ws => some w :: ws
  | n + 1, w, u :: ws => u :: setS n w ws
def clrS : Nat → Env → Env
  | _, [] => []
  | 0, _ :: ws => none :: ws
  | n + 1, u :: ws => u :: clrS n ws

def ofO {α : Type} (o : Option α) (m : Store) : R α := match o with
  | some a => .ok a m
  | none => .bad
def ofB (o : Option Bool) (m : Store) : R W := match o with
  | some b => .ok (.v (.bl b)) m
  | none => .bad
def ofD (o : Option D) (m : Store) : R W := match o with
  | some d => .ok (.v d) m
  | none => .bad
/-- by value, read now -/
def asD {α : Type} (w : W) (m : Store) (k : D → R α) : R α := match snap m w with
  | some d => k d
  | none => .bad

/-- by a bool -/
def ifW {α : Type} (w : W) (t f : R α) : R α := match w with
  | .v (.bl q) => bif q then t else f
  | _ => .bad
def intsW {α : Type} (x y : W) (k : Int → Int → R α) : R α := match x, y with
  | .v (.int i), .v (.int j) => k i j
  | _, _ => .bad
def onI {α : Type} (x : W) (k : Int → R α) : R α := match x with
  | .v (.int i) => k i
  | _ => .bad
def onB {α : Type} (x : W) (k : Bool → R α) : R α := match x with
  | .v (.bl i) => k i
  | _ => .bad
def onO {α β : Type} (o : Option α) (k : α → R β) : R β := match o with
  | some a => k a
  | none => .bad
def onV {α : Type} (x : W) (k : D → R α) : R α := match x with
  | .v d => k d
  | _ => .bad
def tyOf (m : Store) : W → Option Ty
  | .v (.bl _) => some .bool
  | .v (.int _) => some .int
  | .v (.str _) => some .str
  | .v (.tup _) => some .tuple
  | .v (.lst _) => some .list
  | .v (.dict _ _ _) => some .dict
  | .v (.obj c _) => some (.cls c)
  | .v .non => some .non
  | .t n => match m[n]? with
    | some (.lst _) => some .list
    | some (.dict _ _ _) => some .dict
    | some (.obj c _) => some (.cls c)
    | _ => none
def isTy (t u : Ty) : Bool := match t with
  | .bool => decide (u = .bool) || decide (u = .int)
  | t => decide (t = u)

mutual
/-- stores w at a target: only by value tuples are unpacked -/
def asgG : G → W → Env → Option Env
  | .n i, w, env => some (setS i w env)
  | .tup gs, .v (.tup ds), env => asgGL gs (ds.map .v) env
  | .tup _, _, _ => none
def asgGL : GL → List W → Env → Option Env
  | .nil, [], env => some env
  | .cons g gs, w :: ws, env => (asgG g w env).bind (asgGL gs ws)
  | _, _, _ => none
end
mutual
def clrG : G → Env → Env
  | .n i, env => clrS i env
  | .tup gs, env => clrGL gs env
def clrGL : GL → Env → Env
  | .nil, env => env
  | .cons g gs, env => clrG g (clrGL gs env)
end

/-- a fold that may end -/
def foldR {α β : Type} (f : α → β → Store → R α) : List β → α → Store → R α
  | [], a, m => .ok a m
  | b :: bs, a, m => (f a b m).bind fun a' m' => foldR f bs a' m'

/-! sorted: ints, texts, tuples of ints -/
def leStr (x y : Str) : Bool := !decide (y.cps.toList < x.cps.toList)
def intsOf : List D → Option (List Int)
  | [] => some []
  | .int i :: ds => (intsOf ds).map (i :: ·)
  | _ :: _ => none
def strsOf : List D → Option (List Str)
  | [] => some []
  | .str i :: ds => (strsOf ds).map (i :: ·)
  | _ :: _ => none
def kD : L2.Key → D
  | .inl i => .int i
  | .inr x => .str x
def kOf : D → Option L2.Key
  | .int i => some (.inl i)
  | .str x => some (.inr x)
  | _ => none
def keysOf : List D → Option (List L2.Key)
  | [] => some []
  | d :: ds => (kOf d).bind fun k => (keysOf ds).map (k :: ·)
/-- tuples of ints and texts -/
def ktups : List D → Option (List (List L2.Key))
  | [] => some []
  | .tup xs :: ds => (keysOf xs).bind fun ks => (ktups ds).map (ks :: ·)
  | _ :: _ => none
def ltK : L2.Key → L2.Key → Bool
  | .inl i, .inl j => decide (i < j)
  | .inr x, .inr y => decide (x.cps.toList < y.cps.toList)
  | .inl _, .inr _ => true
  | .inr _, .inl _ => false
def ltKs : List L2.Key → List L2.Key → Bool
  | [], [] => false
  | [], _ :: _ => true
  | _ :: _, [] => false
  | x :: r, y :: t => ltK x y || (!ltK y x && ltKs r t)
def leKs (a b : List L2.Key) : Bool := !ltKs b a
def isS : L2.Key → Bool
  | .inl _ => false
  | .inr _ => true
/-- tuples of one shape -/
def shOk (ts : List (List L2.Key)) : Bool := ts.all fun u => !u.isEmpty && (u.map isS == (ts.headD []).map isS)
def sortL (ds : List D) : Option (List D) :=
  match intsOf ds with
  | some is => some ((is.mergeSort fun a b => decide (a ≤ b)).map .int)
  | none => match strsOf ds with
    | some xs => if xs.length < 64 then some ((xs.mergeSort leStr).map .str) else none
    | none => match ktups ds with
      | some ts => if shOk ts then some ((ts.mergeSort leKs).map fun t => .tup (t.map kD)) else none
      | none => none
def sortK (ks : List D) : Option (List D) :=
  match intsOf ks with
  | some is => some ((is.mergeSort fun a b => decide (a ≤ b)).map .int)
  | none => (strsOf ks).map fun xs => (xs.mergeSort leStr).map .str
def boolsOf : List D → Option (List Bool)
  | [] => some []
  | .bl i :: ds => (boolsOf ds).map (i :: ·)
  | _ :: _ => none
def lenD : D → Option Nat
  | .tup xs => some xs.length
  | .lst xs => some xs.length
  | .dict _ ks _ => some ks.length
  | .str x => if x.length ≤ LIM then some x.length else none
  | _ => none
/-- what is walked: the items -/
def seqD : D → Option (List D)
  | .tup xs => some xs
  | .lst xs => some xs
  | _ => none
def charsD : D → Option (List D)
  | .str x => if x.length ≤ LIM then some (x.cps.toList.map fun c => .str ⟨#[c]⟩) else none
  | _ => none
/-- how many different ones there are among the first -/
def dis (xs : List Str) : Nat → Nat
  | 0 => 0
  | i + 1 => if (xs.take i).any (· == xs.getD i Str.empty) then dis xs i else dis xs i + 1
def bfD : BF → List D → Option D
  | .len, [d] => (lenD d).map fun n : Nat => .int (n : Int)
  | .all, [.lst ds] => (boolsOf ds).map fun bs => .bl (bs.all id)
  | .any, [.lst ds] => (boolsOf ds).map fun bs => .bl (bs.any id)
  | .int, [.int i] => some (.int i)
  | .int, [.bl b] => some (.int (if b then 1 else 0))
  | .max, [.int i, .int j] => some (.int (if j > i then j else i))
  | .min, [.lst ds] => match intsOf ds with
    | some (i :: is) => some (.int (is.foldl min i))
    | _ => none
  | .tuple, [d] => (seqD d).map .tup
  | _, _ => none
def lensD : D → Option D
  | .tup ds => (strsOf ds).bind fun xs => if xs.length ≤ 1000 then some (.int (dis xs xs.length : Nat)) else none
  | _ => none
/-- those that make a list -/
def bfL : BF → List D → Option (List D)
  | .list, [d] => seqD d
  | .sorted, [.lst ds] => sortL ds
  | .sorted, [.dict false ks _] => if ks.length < 64 then sortK ks else none
  | .dlist, [.dict _ ks _] => some ks
  | _, _ => none
def idxOfD (x : D) : List D → Nat → Option Nat
  | [], _ => none
  | y :: ys, n => if eqB y x then some n else idxOfD x ys (n + 1)
def mfD : MF → D → List D → Option D
  | .join, .str sep, [d] => match seqD d with
    | some ds => (strsOf ds).bind fun xs => if (xs.map (·.length)).sum + xs.length * sep.length ≤ LIM then some (.str (Txt.join sep xs)) else none
    | none => none
  | .partition, .str x, [.str y] => if 0 < y.length ∧ x.length ≤ LIM then
      (let p := Txt.partition x y; some (.tup [.str p.1, .str p.2.1, .str p.2.2])) else none
  | .split, .str x, [.str y] => if 0 < y.length ∧ x.length ≤ LIM then some (.lst ((Txt.split x y).map .str)) else none
  | .index, .lst xs, [d] => if plain d && plains xs && decide (dep d ≤ 60) && decide (deps xs ≤ 60) then (idxOfD d xs 0).map fun n : Nat => .int (n : Int) else none
  | .get, .dict t ks vs, [k, d] => if keyOk t k then some ((findK ks vs k).getD d) else none
  | .items, .dict _ ks vs, [] => some (.lst (List.zipWith (fun k v => .tup [k, v]) ks vs))
  | _, _, _ => none

def asDs (m : Store) : List W → Option (List D)
  | [] => some []
  | w :: ws => (snap m w).bind fun d => (asDs m ws).map (d :: ·)
def optI : D → Option (Option Int)
  | .non => some none
  | .int i => some (some i)
  | _ => none

def cmpW (op : CO) (x y : W) (m : Store) : R W := match op, y with
  | .is_, .v .non => .ok (.v (.bl (isNon x))) m
  | .isnot, .v .non => .ok (.v (.bl (!isNon x))) m
  | _, _ => asD x m fun d => asD y m fun e => ofB (cmpD op d e) m
def putD (d k x : D) : Option D := match d with
  | .dict t ks vs => if keyOk t k then some (.dict t (putK ks vs k x).1 (putK ks vs k x).2) else none
  | _ => none
def revD : D → Option D
  | .lst xs => some (.lst xs.reverse)
  | _ => none
def keysD : D → Option (List D)
  | .dict _ ks _ => some ks
  | _ => none
/-- a new list: by value, or a token -/
def newL (tk : Bool) (ws : List W) (m : Store) : R W :=
  if LIM < ws.length then .bad else
  if tk then .ok (.t m.length) (m ++ [.lst ws]) else match allV ws with
    | some ds => .ok (.v (.lst ds)) m
    | none => .bad
def newT (ws : List W) (m : Store) : R W :=
  if LIM < ws.length then .bad else match allV ws with
    | some ds => .ok (.v (.tup ds)) m
    | none => .bad
def newD (tk t : Bool) (ks : List D) (ws : List W) (m : Store) : R W :=
  if tk then .ok (.t m.length) (m ++ [.dict t ks ws]) else match allV ws with
    | some ds => .ok (.v (.dict t ks ds)) m
    | none => .bad
def dispD (tk kt : Bool) (kds : List D) (ws : List W) (m : Store) : R W :=
  if kt = false ∧ kds.all flatK = true ∧ kds.Pairwise (fun a b => keyB a b = false) ∧ kds.length = ws.length then newD tk false kds ws m else
  if kds.isEmpty ∧ ws.isEmpty then newD tk true [] [] m else .bad
def bfR (b : BF) (tk : Bool) (ds : List D) (m : Store) : R W := match bfL b ds with
  | some xs => newL tk (xs.map .v) m
  | none => ofD (bfD b ds) m
/-- a field read -/
def fldW (c i : Nat) (m : Store) : W → Option W
  | .v (.obj c' ds) => if c = c' then (ds[i]?).map .v else none
  | .t n => match m[n]? with
    | some (.obj c' ws) => if c = c' then ws[i]? else none
    | _ => none
  | _ => none
def isCls (c : Nat) (m : Store) : W → Bool
  | .v (.obj c' _) => decide (c = c')
  | .t n => match m[n]? with
    | some (.obj c' _) => decide (c = c')
    | _ => false
  | _ => false
def isTup : W → Bool
  | .v (.tup _) => true
  | _ => false
def ixW (m : Store) (w : W) (k : D) : Option W := match w with
  | .v d => (ixD d k).map .v
  | .t n => match m[n]? with
    | some (.lst ws) => match k with
      | .int i => (L2.ixN ws.length i).bind fun j => ws[j]?
      | _ => none
    | some (.dict t ks ws) => if keyOk t k then findK ks ws k else none
    | _ => none
/-- the items of a token list too -/
def walkW (m : Store) (w : W) : Option (List W) := match w with
  | .v d => (seqD d).map (·.map .v)
  | .t n => match m[n]? with
    | some (.lst ws) => some ws
    | _ => none
def lstW (m : Store) (w : W) : Option (List W) := match w with
  | .v (.lst ds) => some (ds.map .v)
  | .t n => match m[n]? with
    | some (.lst ws) => some ws
    | _ => none
  | _ => none
/-- the receiver of a method that changes nothing -/
def recv (f : MF) (m : Store) (w : W) : Bool := match f, w with
  | .join, .v (.str _) => true
  | .partition, .v (.str _) => true
  | .split, .v (.str _) => true
  | .index, w => (lstW m w).isSome
  | .get, .v (.dict _ _ _) => true
  | .items, .v (.dict _ _ _) => true
  | .get, .t n => match m[n]? with
    | some (.dict _ _ _) => true
    | _ => false
  | .items, .t n => match m[n]? with
    | some (.dict _ _ _) => true
    | _ => false
  | _, _ => false
def rngD (i j : Int) : List D := (List.range (j - i).toNat).map fun k : Nat => .int (i + k)
def rngL (i j : Int) : List W := (rngD i j).map .v
/-- two lists, or two tuples -/
def zipD : D → D → Option (List D)
  | .tup xs, .tup ys => if xs.length ≤ LIM then some (List.zipWith (fun x y => .tup [x, y]) xs ys) else none
  | .lst xs, .lst ys => if xs.length ≤ LIM then some (List.zipWith (fun x y => .tup [x, y]) xs ys) else none
  | .tup xs, .lst ys => if xs.length ≤ LIM then some (List.zipWith (fun x y => .tup [x, y]) xs ys) else none
  | _, _ => none

/-- tokens only of the first n places -/
def lowW (n : Nat) : W → Bool
  | .v _ => true
  | .t i => decide (i < n)
def lowC (n : Nat) : C → Bool
  | .lst ws => ws.all (lowW n)
  | .dict _ _ ws => ws.all (lowW n)
  | .obj _ ws => ws.all (lowW n)
  | .dead => true
open Classical in
/-- back to the first n tokens: where they stand as they stood, or know no others; else all is kept -/
noncomputable def trunc {α : Type} (m0 m' : Store) (k : Store → R α) : R α :=
  if m'.take m0.length = m0 then k m0 else if (m'.take m0.length).all (lowC m0.length) = true then k (m'.take m0.length) else k m'
open Classical in
/-- the same, nothing else -/
noncomputable def truncS {α : Type} (m0 m' : Store) (k : Store → R α) : R α :=
  if m'.take m0.length = m0 then k m0 else if (m'.take m0.length).all (lowC m0.length) = true then k (m'.take m0.length) else .bad
/-- all by value: own tokens are frozen -/
def frzL : List W → Store → Option (List D × Store)
  | [], m => some ([], m)
  | .v d :: ws, m => (frzL ws m).map fun p => (d :: p.1, p.2)
  | .t n :: ws, m => match m[n]? with
    | some c => match snapC c with
      | some d => (frzL ws (m.set n .dead)).map fun p => (d :: p.1, p.2)
      | none => none
    | none => none
/-- an object is made: its __init__ runs over a token; at its end it is by value, or stays a token -/
noncomputable def made (F : Fns) (tk : Bool) (c f : Nat) (ws : List W) (m : Store) : R W :=
  match F.fn f (.t m.length :: ws) (m ++ [.obj c []]) with
  | .ok (.v .non) m' => if tk then .ok (.t m.length) m' else match m'[m.length]? with
    | some (.obj c' us) => if c = c' then match frzL us m' with
      | some (ds, m2) => truncS m m2 fun m1 => .ok (.v (.obj c ds)) m1
      | none => .bad else .bad
    | _ => .bad
  | .ok _ _ => .bad
  | .ex c ds m' => truncS m m' fun m1 => .ex c ds m1
  | .bad => .bad

/-- a part of a slice: nothing, or an int -/
def poR (e : E) (m : Store) (r : R W) : R (Option Int) := match e with
  | .no => .ok none m
  | _ => r.bind fun w m => onI w fun i => .ok (some i) m
mutual
noncomputable def ev (F : Fns) : E → Env → Store → R W
  | .c d, _, m => .ok (.v d) m
  | .var i, env, m => ofO (getS i env) m
  | .glob g, _, m => .ok (.v (F.glob g)) m
  | .neg a, env, m => (ev F a env m).bind fun w m => onI w fun i => .ok (.v (.int (-i))) m
  | .not_ a, env, m => (ev F a env m).bind fun w m => onB w fun b => .ok (.v (.bl (!b))) m
  | .bin op a b, env, m => (ev F a env m).bind fun x m => (ev F b env m).bind fun y m => asD x m fun d => asD y m fun e => ofD (binD op d e) m
  | .cat a b, env, m => (ev F a env m).bind fun x m => (ev F b env m).bind fun y m => onO (lstW m x) fun ws => onO (lstW m y) fun us => newL true (ws ++ us) m
  | .cmp op a b, env, m => (ev F a env m).bind fun x m => (ev F b env m).bind fun y m => cmpW op x y m
  | .eqo c f a b, env, m => (ev F a env m).bind fun x m => (ev F b env m).bind fun y m => if isCls c m x && (isCls c m y || isTup y) then (F.fn f [x, y] m).noex else .bad
  | .chain o1 o2 a b c, env, m => (ev F a env m).bind fun x m => (ev F b env m).bind fun y m => asD x m fun d => asD y m fun e => onO (cmpD o1 d e) fun q => bif q then (ev F c env m).bind fun z m => asD y m fun e => asD z m fun g => ofB (cmpD o2 e g) m else .ok (.v (.bl false)) m
  | .and_ es, env, m => evAnd F es env m
  | .or_ es, env, m => evOr F es env m
  | .ifx c a b, env, m => (ev F c env m).bind fun w m => ifW w (ev F a env m) (ev F b env m)
  | .tup es, env, m => (evL F es env m).bind newT
  | .lst tk es, env, m => (evL F es env m).bind (newL tk)
  | .dict tk kt ks vs, env, m => (evL F ks env m).bind fun kw m => (evL F vs env m).bind fun ws m => onO (asDs m kw) fun kds => dispD tk kt kds ws m
  | .dictS a k x, env, m => (ev F a env m).bind fun aw m => (ev F k env m).bind fun kw m => (ev F x env m).bind fun xw m => asD aw m fun ad => asD kw m fun kd => onV xw fun xd => ofD (putD ad kd xd) m
  | .ix a b, env, m => (ev F a env m).bind fun x m => (ev F b env m).bind fun y m => asD y m fun k => ofO (ixW m x k) m
  | .no, _, m => .ok (.v .non) m
  | .sl a lo hi, env, m => (ev F a env m).bind fun x m => (poR lo m (ev F lo env m)).bind fun l m => (poR hi m (ev F hi env m)).bind fun h m => asD x m fun d => ofD (slD d l h) m
  | .rev a, env, m => (ev F a env m).bind fun x m => asD x m fun d => ofD (revD d) m
  | .fld c a i, env, m => (ev F a env m).bind fun x m => ofO (fldW c i m x) m
  | .call f es, env, m => (evL F es env m).bind fun ws m => F.fn f ws m
  | .callk f es k, env, m => (evL F es env m).bind fun ws m => (ev F k env m).bind fun w m => F.fn f (ws ++ [w]) m
  | .make tk c f es, env, m => (evL F es env m).bind fun ws m => made F tk c f ws m
  | .meth c f o es, env, m => (ev F o env m).bind fun x m => if isCls c m x then (evL F es env m).bind fun ws m => F.fn f (x :: ws) m else .bad
  | .prop c f o, env, m => (ev F o env m).bind fun x m => if isCls c m x then (F.fn f [x] m).noex else .bad
  | .leno c f o, env, m => (ev F o env m).bind fun x m => if isCls c m x then (F.fn f [x] m).noex.bind fun w m => onI w fun n => if 0 ≤ n ∧ n < 1000000000 then .ok (.v (.int n)) m else .bad else .bad
  | .bi b tk es, env, m => (evL F es env m).bind fun ws m => onO (asDs m ws) fun ds => bfR b tk ds m
  | .rng a b, env, m => (ev F a env m).bind fun x m => (ev F b env m).bind fun y m => intsW x y fun i j => if -1000000 ≤ i ∧ i ≤ 1000000 ∧ -1000000 ≤ j ∧ j ≤ 1000000 then newL false (rngL i j) m else .bad
  | .isi o ts, env, m => (ev F o env m).bind fun w m => onO (tyOf m w) fun t => .ok (.v (.bl (ts.any (isTy t)))) m
  | .sm f o es, env, m => (ev F o env m).bind fun x m => if recv f m x then (evL F es env m).bind fun ws m => asD x m fun d => onO (asDs m ws) fun ds => ofD (mfD f d ds) m else .bad
  | .comp tk g it cs elt, env, m => (evIT F it env m).bind fun items m =>
      (foldR (fun acc w m => onO (asgG g (.v w) (clrG g env)) fun env' => (evAnd F cs env' m).bind fun b m =>
        ifW b ((ev F elt env' m).bind fun y m => .ok (acc ++ [y]) m) (.ok acc m)) items ([] : List W) m).noex.bind (newL tk)
  | .dcomp kt g it cs k x, env, m => (evIT F it env m).bind fun items m =>
      (foldR (fun acc w m => onO (asgG g (.v w) (clrG g env)) fun env' => (evAnd F cs env' m).bind fun b m =>
        ifW b ((ev F k env' m).bind fun y m => (ev F x env' m).bind fun z m => onV y fun kd => if keyOk kt kd then .ok (putK acc.1 acc.2 kd z) m else .bad) (.ok acc m)) items (([], []) : List D × List W) m).noex.bind fun a m => newD false kt a.1 a.2 m
  | .lens a, env, m => (ev F a env m).bind fun w m => asD w m fun d => ofD (lensD d) m
  | .nev, _, _ => .bad
noncomputable def evL (F : Fns) : EL → Env → Store → R (List W)
  | .nil, _, m => .ok [] m
  | .cons e es, env, m => (ev F e env m).bind fun w m => (evL F es env m).bind fun ws m => .ok (w :: ws) m
  | .star e es, env, m => (ev F e env m).bind fun w m => onO (walkW m w) fun us => (evL F es env m).bind fun ws m => .ok (us ++ ws) m
/-- all so, from the left; none is so -/
noncomputable def evAnd (F : Fns) : EL → Env → Store → R W
  | .nil, _, m => .ok (.v (.bl true)) m
  | .cons e es, env, m => (ev F e env m).bind fun w m => ifW w (evAnd F es env m) (.ok (.v (.bl false)) m)
  | .star _ _, _, _ => .bad
noncomputable def evOr (F : Fns) : EL → Env → Store → R W
  | .nil, _, m => .ok (.v (.bl false)) m
  | .cons e es, env, m => (ev F e env m).bind fun w m => ifW w (.ok (.v (.bl true)) m) (evOr F es env m)
  | .star _ _, _, _ => .bad
noncomputable def evIT (F : Fns) : IT → Env → Store → R (List D)
  | .seq e, env, m => (ev F e env m).bind fun w m => onV w fun d => ofO (seqD d) m
  | .chars e, env, m => (ev F e env m).bind fun w m => onV w fun d => ofO (charsD d) m
  | .rng a b, env, m => (ev F a env m).bind fun x m => (ev F b env m).bind fun y m => intsW x y fun i j => if -1000000 ≤ i ∧ i ≤ 1000000 ∧ -1000000 ≤ j ∧ j ≤ 1000000 then .ok (rngD i j) m else .bad
  | .enum e, env, m => (ev F e env m).bind fun w m => onV w fun d => onO (seqD d) fun ds => .ok ((List.zipIdx ds).map fun p => .tup [.int (p.2 : Nat), p.1]) m
  | .zip a b, env, m => (ev F a env m).bind fun x m => (ev F b env m).bind fun y m => onV x fun d => onV y fun e => ofO (zipD d e) m
  | .keys e, env, m => (ev F e env m).bind fun w m => onV w fun d => ofO (keysD d) m
end

inductive RS where
  | nx (env : Env) (m : Store) | brk (env : Env) (m : Store) | cnt (env : Env) (m : Store) | ret (w : W) (m : Store) | ex (c : Nat) (ds : List D) (m : Store) | bad
def RS.of {α : Type} (r : R α) (k : α → Store → RS) : RS := match r with
  | .ok a m => k a m
  | .ex c ds m => .ex c ds m
  | .bad => .bad
def RS.then (r : RS) (k : Env → Store → RS) : RS := match r with
  | .nx env m => k env m
  | r => r
def onS {α : Type} (o : Option α) (k : α → RS) : RS := match o with
  | some a => k a
  | none => .bad
def ifS (w : W) (t f : RS) : RS := match w with
  | .v (.bl q) => bif q then t else f
  | _ => .bad
def popW (m : Store) (x : W) : Option (W × Store) := match x with
  | .t n => match m[n]? with
    | some (.lst ws) => match ws.getLast? with
      | some w => some (w, m.set n (.lst ws.dropLast))
      | none => none
    | _ => none
  | _ => none
def augW (o : W) (w : W) : Option W := match o, w with
  | .v (.int a), .v (.int b) => some (.v (.int (a + b)))
  | _, _ => none
def frzW (m : Store) (o : Option W) : Option (W × Store) := match o with
  | some (.t n) => match m[n]? with
    | some c => match snapC c with
      | some d => some (.v d, m.set n .dead)
      | none => none
    | none => none
  | some (.v d) => some (.v d, m)
  | _ => none
/-- a loop over items -/
def loopS (body : Env → Store → RS) (g : G) : List D → Env → Store → RS
  | [], env, m => .nx env m
  | w :: ws, env, m => onS (asgG g (.v w) env) fun env' => match body env' m with
      | .nx e m' => loopS body g ws e m'
      | .cnt e m' => loopS body g ws e m'
      | .brk e m' => .nx e m'
      | r => r
def whileS (test : Env → Store → R W) (body : Env → Store → RS) : Nat → Env → Store → RS
  | 0, _, _ => .bad
  | n + 1, env, m => RS.of (test env m) fun w m => ifS w (match body env m with
      | .nx e m' => whileS test body n e m'
      | .cnt e m' => whileS test body n e m'
      | .brk e m' => .nx e m'
      | r => r) (.nx env m)
def asgList : List Nat → List W → Env → Option Env
  | [], [], env => some env
  | i :: is, w :: ws, env => (asgList is ws env).map (setS i w)
  | _, _, _ => none
def setTok (m : Store) (n : Nat) (c : C) : Store := m.set n c
/-- o[k] = w -/
def isetW (m : Store) (o : W) (k : D) (w : W) : Option Store := match o with
  | .t n => match m[n]? with
    | some (.lst ws) => match k with
      | .int i => (L2.ixN ws.length i).map fun j => m.set n (.lst (ws.set j w))
      | _ => none
    | some (.dict t ks ws) => if keyOk t k ∧ ks.length < LIM then some (m.set n (.dict t (putK ks ws k w).1 (putK ks ws k w).2)) else none
    | _ => none
  | _ => none
def fsetW (m : Store) (c i : Nat) (o : W) (w : W) : Option Store := match o with
  | .t n => match m[n]? with
    | some (.obj c' ws) => if c = c' then
        (if i < ws.length then some (m.set n (.obj c (ws.set i w))) else if i = ws.length then some (m.set n (.obj c (ws ++ [w]))) else none) else none
    | _ => none
  | _ => none
def mutL (m : Store) (f : XF) (ws as : List W) : Option (List W) := match f, as with
  | .append, [w] => if ws.length < LIM then some (ws ++ [w]) else none
  | .extend, [w] => match lstW m w with
    | some us => if ws.length + us.length < LIM then some (ws ++ us) else none
    | none => none
  | .insert, [.v (.int i), w] => if 0 ≤ i ∧ i ≤ ws.length ∧ ws.length < LIM then some (ws.take i.toNat ++ w :: ws.drop i.toNat) else none
  | .clear, [] => some []
  | .reverse, [] => some ws.reverse
  | _, _ => none
def mutW (m : Store) (f : XF) (o : W) (as : List W) : Option Store := match o with
  | .t n => match m[n]? with
    | some (.lst ws) => (mutL m f ws as).map fun us => m.set n (.lst us)
    | _ => none
  | _ => none
def isLst (m : Store) : W → Bool
  | .t n => match m[n]? with
    | some (.lst _) => true
    | _ => false
  | _ => false

def pairW : W → Option (D × D)
  | .v (.tup [a, b]) => some (a, b)
  | _ => none
def RS.noex : RS → RS
  | .ex _ _ _ => .bad
  | r => r
noncomputable def evTX (F : Fns) : TX → Env → Store → R W
  | .call f es, env, m => (evL F es env m).noex.bind fun ws m => F.fn f ws m
  | .make c f es, env, m => (evL F es env m).noex.bind fun ws m => made F false c f ws m
  | .meth c f o es, env, m => (ev F o env m).noex.bind fun x m => if isCls c m x then (evL F es env m).noex.bind fun ws m => F.fn f (x :: ws) m else .bad
def storeO (t : Option Nat) (w : W) (env : Env) : Env := match t with
  | some i => setS i w env
  | none => env
def hxV : HX → D → D
  | .f, e => e
  | .c d, _ => d
  | .lst h, e => .lst [hxV h e]
  | .tup d h, e => .tup [d, hxV h e]
  | .isi _ h, e => hxV h e
def catchL (n : Nat) (e : D) (env : Env) (m : Store) : List HD → RS
  | [] => .ex n [e] m
  | h :: hs => if n = h.c then if h.j < env.length then .nx (clrS h.j (setS h.i (.v (hxV h.x e)) env)) m else .bad else catchL n e env m hs
def catchS (kn : List Nat) (hs : List HD) (n : Nat) (ds : List D) (env : Env) (m : Store) : RS := match ds with
  | [e] => if kn.contains n = true then catchL n e env m hs else .bad
  | _ => .bad
def tryS (r : R W) (k : W → Store → RS) (h : Nat → List D → Store → RS) : RS := match r with
  | .ok w m => k w m
  | .ex n ds m => h n ds m
  | .bad => .bad
mutual
noncomputable def evS (F : Fns) : S → Env → Store → RS
  | .asg i e, env, m => RS.of (ev F e env m) fun w m => .nx (setS i w env) m
  | .asgG g e, env, m => RS.of (ev F e env m) fun w m => onS (asgG g w env) fun env' => .nx env' m
  | .par is es, env, m => RS.of (evL F es env m) fun ws m => onS (asgList is ws env) fun env' => .nx env' m
  | .parG gs es, env, m => RS.of (evL F es env m) fun ws m => onS (asgGL gs ws env) fun env' => .nx env' m
  | .fset c o i e, env, m => RS.of (ev F e env m) fun w m => RS.of (ev F o env m) fun x m => onS (fsetW m c i x w) fun m' => .nx env m'
  | .iset o k e, env, m => RS.of (ev F e env m) fun w m => RS.of (ev F o env m) fun x m => RS.of (ev F k env m) fun kw m => onS (snap m kw) fun kd => onS (isetW m x kd w) fun m' => .nx env m'
  | .iset2 o k o2 k2 e e2, env, m => RS.of ((evL F (.cons e (.cons e2 .nil)) env m).bind newT) fun t m => onS (pairW t) fun p =>
      RS.of (ev F o env m) fun x m => RS.of (ev F k env m) fun kw m => onS (snap m kw) fun kd => onS (isetW m x kd (.v p.1)) fun m =>
        RS.of (ev F o2 env m) fun x2 m => RS.of (ev F k2 env m) fun kw2 m => onS (snap m kw2) fun kd2 => onS (isetW m x2 kd2 (.v p.2)) fun m => .nx env m
  | .mut f o es, env, m => RS.of (ev F o env m) fun x m => if isLst m x = true then RS.of (evL F es env m) fun ws m => onS (mutW m f x ws) fun m' => .nx env m' else .bad
  | .pop i o, env, m => RS.of (ev F o env m) fun x m => onS (popW m x) fun p => .nx (setS i p.1 env) p.2
  | .expr e, env, m => RS.of (ev F e env m) fun _ m => .nx env m
  | .if_ c a b, env, m => RS.of (ev F c env m) fun w m => ifS w (evSL F a env m) (evSL F b env m)
  | .for_ g it b, env, m => RS.of (evIT F it env m) fun ws m => loopS (evSL F b) g ws env m
  | .while_ c b, env, m => whileS (ev F c) (evSL F b) F.fuel env m
  | .ret e, env, m => RS.of (ev F e env m) fun w m => .ret w m
  | .ret0, _, m => .ret (.v .non) m
  | .raise c es, env, m => RS.of (evL F es env m) fun ws m => onS (allV ws) fun ds => .ex c ds m
  | .try_ t b rest kn hs, env, m => tryS (evTX F b env m) (fun w m => (evSL F rest (storeO t w env) m).noex) fun n ds m => catchS kn hs n ds env m
  | .pass, env, m => .nx env m
  | .aug i e, env, m => onS (getS i env) fun o => RS.of (ev F e env m) fun w m => onS (augW o w) fun u => .nx (setS i u env) m
  | .frz i, env, m => onS (frzW m (getS i env)) fun p => .nx (setS i p.1 env) p.2
  | .nev, _, _ => .bad
noncomputable def evSL (F : Fns) : SL → Env → Store → RS
  | .nil, env, m => .nx env m
  | .cons s ss, env, m => (evS F s env m).then fun env m => evSL F ss env m
end

structure Def where
  np : Nat
  nv : Nat
  body : SL
noncomputable def fin (m0 : Store) (w : W) (m : Store) : R W := match w with
  | .v d => trunc m0 m fun m1 => .ok (.v d) m1
  | .t n => .ok (.t n) m
noncomputable def finS (m : Store) : RS → R W
  | .ret w m' => fin m w m'
  | .nx _ m' => trunc m m' fun m1 => .ok (.v .non) m1
  | .ex c ds m' => trunc m m' fun m1 => .ex c ds m1
  | _ => .bad
noncomputable def evDef (F : Fns) (d : Def) : FnT := fun args m =>
  if args.length = d.np then finS m (evSL F d.body (args.map some ++ List.replicate (d.nv - d.np) none) m) else .bad
/-- a text: its defs, its constants -/
structure Tab where
  df : Nat → Option Def
  glob : Nat → D
  fuel : Nat
/-- what the defs of a table mean, n calls deep -/
noncomputable def sem (T : Tab) : Nat → Nat → FnT
  | 0, _ => fun _ _ => .bad
  | n + 1, f => match T.df f with
    | some d => evDef ⟨sem T n, T.glob, T.fuel⟩ d
    | none => fun _ _ => .bad
noncomputable abbrev Fs (T : Tab) (n : Nat) : Fns := ⟨sem T n, T.glob, T.fuel⟩
end Cy

set_option Elab.async false
set_option linter.all false
set_option maxRecDepth 100000
set_option maxHeartbeats 2000000
/-! CyRel: how data and tokens stand for what is in the abstract heap; runs; readings. -/
namespace Cy
open PySem L2
open PySem.PyData (strOk)

/-! ### data by value -/
def kOk : Key → Prop
  | .inl _ => True
  | .inr x => strOk x = true
/-- where the classes stand; their fields' names -/
structure Cl where
  K : PySem.W.Frag
  ca : Nat → Addr
  fl : Nat → List Str
  cs : List Nat
mutual
inductive Rep (c : Cl) (B : Hp) : V → D → Prop
  | non : Rep c B .non .non
  | bl (b : Bool) : Rep c B (.bl b) (.bl b)
  | int (i : Int) : Rep c B (.int i) (.int i)
  | str {x : Str} (h : strOk x = true) : Rep c B (.str x) (.str x)
  | tup {a : Addr} {xs : List V} {ds : List D} (h : SqT c.K B a xs) (hi : intsD ds = true → B a = some (.tup xs)) (r : Reps c B xs ds) : Rep c B (.ref a) (.tup ds)
  | lst {a : Addr} {xs : List V} {ds : List D} (h : Rd B a (.lst xs)) (r : Reps c B xs ds) : Rep c B (.ref a) (.lst ds)
  | dK {a : Addr} {kvs : List (Key × V)} {vs : List D} (h : B a = some (.dK kvs)) (hk : ∀ p ∈ kvs, kOk p.1) (r : Reps c B (kvs.map (·.2)) vs) : Rep c B (.ref a) (.dict false (kvs.map fun p => kD p.1) vs)
  | dT {a : Addr} {kvs : List (List Key × V)} {vs : List D} (h : B a = some (.dT kvs)) (hk : ∀ p ∈ kvs, ∀ k ∈ p.1, kOk k) (r : Reps c B (kvs.map (·.2)) vs) : Rep c B (.ref a) (.dict true (kvs.map fun p => .tup (p.1.map kD)) vs)
  | obj {a dx : Addr} {n : Nat} {xs : List V} {ds : List D} (h : B a = some (.ins (c.ca n) dx ((c.fl n).zip xs))) (hl : xs.length ≤ (c.fl n).length ∧ n ∈ c.cs) (r : Reps c B xs ds) : Rep c B (.ref a) (.obj n ds)
inductive Reps (c : Cl) (B : Hp) : List V → List D → Prop
  | nil : Reps c B [] []
  | cons {v : V} {vs : List V} {d : D} {ds : List D} (h : Rep c B v d) (r : Reps c B vs ds) : Reps c B (v :: vs) (d :: ds)
end

theorem seq_mono {K : PySem.W.Frag} {B B' : Hp} {a : Addr} {xs : List V} (e : Same B B') (h : SqT K B a xs) : SqT K B' a xs := by
  rcases h with (h | ⟨o, h⟩) | h
  · exact .inl (.inl (e _ _ h))
  · exact .inl (.inr ⟨o, e _ _ h⟩)
  · exact .inr h
theorem rd_mono {B B' : Hp} {a : Addr} {u : HO} (e : Same B B') (h : Rd B a u) : Rd B' a u := by
  rcases h with h | ⟨o, h⟩
  · exact .inl (e _ _ h)
  · exact .inr ⟨o, e _ _ h⟩
mutual
theorem Rep.mono {c : Cl} {B B' : Hp} (e : Same B B') : ∀ {v : V} {d : D}, Rep c B v d → Rep c B' v d
  | _, _, .non => .non
  | _, _, .bl b => .bl b
  | _, _, .int i => .int i
  | _, _, .str h => .str h
  | _, _, .tup h hi r => .tup (seq_mono e h) (fun z => e _ _ (hi z)) (Reps.mono e r)
  | _, _, .lst h r => .lst (rd_mono e h) (Reps.mono e r)
  | _, _, .dK h hk r => .dK (e _ _ h) hk (Reps.mono e r)
  | _, _, .dT h hk r => .dT (e _ _ h) hk (Reps.mono e r)
  | _, _, .obj h hl r => .obj (e _ _ h) hl (Reps.mono e r)
theorem Reps.mono {c : Cl} {B B' : Hp} (e : Same B B') : ∀ {vs : List V} {ds : List D}, Reps c B vs ds → Reps c B' vs ds
  | _, _, .nil => .nil
  | _, _, .cons h r => .cons (Rep.mono e h) (Reps.mono e r)
end
theorem Reps.length {c : Cl} {B : Hp} : ∀ {vs : List V} {ds : List D}, Reps c B vs ds → vs.length = ds.length
  | _, _, .nil => rfl
  | _, _, .cons _ r => by simp [Reps.length r]
theorem Reps.append {c : Cl} {B : Hp} : ∀ {vs us : List V} {ds es : List D}, Reps c B vs ds → Reps c B us es → Reps c B (vs ++ us) (ds ++ es)
  | _, _, _, _, .nil, s => s
  | _, _, _, _, .cons h r, s => .cons h (Reps.append r s)
theorem Reps.get {c : Cl} {B : Hp} : ∀ {vs : List V} {ds : List D} {i : Nat} {d : D}, Reps c B vs ds → ds[i]? = some d → ∃ v, vs[i]? = some v ∧ Rep c B v d
  | _, _, _, _, .nil, e => by simp at e
  | _, _, 0, _, .cons h _, e => by simp at e; subst e; exact ⟨_, rfl, h⟩
  | _, _, i + 1, _, .cons _ r, e => by
    obtain ⟨v, e1, e2⟩ := Reps.get (i := i) r (by simpa using e)
    exact ⟨v, by simpa using e1, e2⟩
theorem Reps.take {c : Cl} {B : Hp} : ∀ {vs : List V} {ds : List D} (n : Nat), Reps c B vs ds → Reps c B (vs.take n) (ds.take n)
  | _, _, 0, _ => .nil
  | _, _, _ + 1, .nil => .nil
  | _, _, n + 1, .cons h r => .cons h (Reps.take n r)
theorem Reps.drop {c : Cl} {B : Hp} : ∀ {vs : List V} {ds : List D} (n : Nat), Reps c B vs ds → Reps c B (vs.drop n) (ds.drop n)
  | _, _, 0, r => r
  | _, _, _ + 1, .nil => .nil
  | _, _, n + 1, .cons _ r => Reps.drop n r
theorem Reps.reverse {c : Cl} {B : Hp} : ∀ {vs : List V} {ds : List D}, Reps c B vs ds → Reps c B vs.reverse ds.reverse
  | _, _, .nil => .nil
  | _, _, .cons h r => by rw [List.reverse_cons, List.reverse_cons]; exact (Reps.reverse r).append (.cons h .nil)

/-! ### tokens -/
def hide (H : Hp) (l : List Addr) : Hp := fun a => if a ∈ l then none else H a
def live : List Addr → Store → List Addr
  | a :: ta, .dead :: m => live ta m
  | a :: ta, _ :: m => a :: live ta m
  | _, _ => []
abbrev view (H : Hp) (ta : List Addr) (m : Store) : Hp := hide H (live ta m)
theorem hide_sub (H : Hp) (l : List Addr) : Same (hide H l) H := fun a o h => by
  unfold hide at h
  split at h
  · cases h
  · exact h
theorem hide_of {H : Hp} {l : List Addr} {a : Addr} {o : HO} (h : H a = some o) (n : a ∉ l) : hide H l a = some o := by
  unfold hide; rw [if_neg n]; exact h
theorem hide_not {H : Hp} {l : List Addr} {a : Addr} {o : HO} (h : hide H l a = some o) : a ∉ l ∧ H a = some o := by
  unfold hide at h
  split at h
  · cases h
  · exact ⟨by assumption, h⟩

def Wr (c : Cl) (B : Hp) (ta : List Addr) (v : V) : W → Prop
  | .v d => Rep c B v d
  | .t n => ∃ a, ta[n]? = some a ∧ v = .ref a
def Wrs (c : Cl) (B : Hp) (ta : List Addr) : List V → List W → Prop
  | [], [] => True
  | v :: vs, w :: ws => Wr c B ta v w ∧ Wrs c B ta vs ws
  | _, _ => False
def TokOk (c : Cl) (B H : Hp) (ta : List Addr) (a : Addr) : C → Prop
  | .lst ws => ∃ xs, H a = some (.lst xs) ∧ Wrs c B ta xs ws
  | .dict t ks ws => (t = false ∧ ∃ kvs : List (Key × V), H a = some (.dK kvs) ∧ ks = kvs.map (fun p => kD p.1) ∧ (∀ p ∈ kvs, kOk p.1) ∧ Wrs c B ta (kvs.map (·.2)) ws) ∨
      t = true ∧ ∃ kvs : List (List Key × V), H a = some (.dT kvs) ∧ ks = kvs.map (fun p => .tup (p.1.map kD)) ∧ (∀ p ∈ kvs, ∀ k ∈ p.1, kOk k) ∧ Wrs c B ta (kvs.map (·.2)) ws
  | .obj n ws => ∃ dx xs, H a = some (.ins (c.ca n) dx ((c.fl n).zip xs)) ∧ (xs.length ≤ (c.fl n).length ∧ n ∈ c.cs) ∧ Wrs c B ta xs ws
  | .dead => True
structure Toks (c : Cl) (H : Hp) (ta : List Addr) (m : Store) : Prop where
  len : ta.length = m.length
  nd : ta.Nodup
  has : ∀ a ∈ ta, ∃ o, H a = some o
  ok : ∀ (i : Nat) (k : C) (a : Addr), m[i]? = some k → ta[i]? = some a → TokOk c (view H ta m) H ta a k

theorem Wr.mono {c : Cl} {B B' : Hp} {ta ta' : List Addr} (e : Same B B') (p : ta <+: ta') {v : V} : ∀ {w : W}, Wr c B ta v w → Wr c B' ta' v w
  | .v _, h => Rep.mono e h
  | .t n, ⟨a, h1, h2⟩ => ⟨a, by
      obtain ⟨t, rfl⟩ := p
      rw [List.getElem?_append_left]
      · exact h1
      · exact (List.getElem?_eq_some_iff.mp h1).1, h2⟩
theorem Wrs.mono {c : Cl} {B B' : Hp} {ta ta' : List Addr} (e : Same B B') (p : ta <+: ta') : ∀ {vs : List V} {ws : List W}, Wrs c B ta vs ws → Wrs c B' ta' vs ws
  | [], [], _ => trivial
  | _ :: _, _ :: _, ⟨h, r⟩ => ⟨Wr.mono e p h, Wrs.mono e p r⟩
theorem Wrs.length {c : Cl} {B : Hp} {ta : List Addr} : ∀ {vs : List V} {ws : List W}, Wrs c B ta vs ws → vs.length = ws.length
  | [], [], _ => rfl
  | _ :: _, _ :: _, ⟨_, r⟩ => by simp [Wrs.length r]
theorem Wrs.append {c : Cl} {B : Hp} {ta : List Addr} : ∀ {vs us : List V} {ws xs : List W}, Wrs c B ta vs ws → Wrs c B ta us xs → Wrs c B ta (vs ++ us) (ws ++ xs)
  | [], _, [], _, _, s => s
  | _ :: _, _, _ :: _, _, ⟨h, r⟩, s => ⟨h, Wrs.append r s⟩
theorem Wrs.get {c : Cl} {B : Hp} {ta : List Addr} : ∀ {vs : List V} {ws : List W} {i : Nat} {w : W}, Wrs c B ta vs ws → ws[i]? = some w → ∃ v, vs[i]? = some v ∧ Wr c B ta v w
  | [], [], _, _, _, e => by simp at e
  | v :: _, _ :: _, 0, _, ⟨h, _⟩, e => by simp at e; subst e; exact ⟨v, rfl, h⟩
  | _ :: _, _ :: _, i + 1, _, ⟨_, r⟩, e => by
    obtain ⟨v, e1, e2⟩ := Wrs.get (i := i) r (by simpa using e)
    exact ⟨v, by simpa using e1, e2⟩
theorem Wrs.getV {c : Cl} {B : Hp} {ta : List Addr} : ∀ {vs : List V} {ws : List W} {i : Nat} {v : V}, Wrs c B ta vs ws → vs[i]? = some v → ∃ w, ws[i]? = some w ∧ Wr c B ta v w
  | [], [], _, _, _, e => by simp at e
  | _ :: _, w :: _, 0, _, ⟨h, _⟩, e => by simp at e; subst e; exact ⟨w, rfl, h⟩
  | _ :: _, _ :: _, i + 1, _, ⟨_, r⟩, e => by
    obtain ⟨v, e1, e2⟩ := Wrs.getV (i := i) r (by simpa using e)
    exact ⟨v, by simpa using e1, e2⟩
theorem Wrs.set {c : Cl} {B : Hp} {ta : List Addr} {v : V} {w : W} (h : Wr c B ta v w) : ∀ {vs : List V} {ws : List W} (i : Nat), Wrs c B ta vs ws → Wrs c B ta (vs.set i v) (ws.set i w)
  | [], [], _, _ => trivial
  | _ :: _, _ :: _, 0, ⟨_, r⟩ => ⟨h, r⟩
  | _ :: _, _ :: _, i + 1, ⟨q, r⟩ => ⟨q, Wrs.set h i r⟩
theorem Wrs.take {c : Cl} {B : Hp} {ta : List Addr} : ∀ {vs : List V} {ws : List W} (n : Nat), Wrs c B ta vs ws → Wrs c B ta (vs.take n) (ws.take n)
  | [], [], _, _ => by simp [Wrs]
  | _ :: _, _ :: _, 0, _ => trivial
  | _ :: _, _ :: _, n + 1, ⟨h, r⟩ => ⟨h, Wrs.take n r⟩
theorem Wrs.drop {c : Cl} {B : Hp} {ta : List Addr} : ∀ {vs : List V} {ws : List W} (n : Nat), Wrs c B ta vs ws → Wrs c B ta (vs.drop n) (ws.drop n)
  | [], [], _, _ => by simp [Wrs]
  | _ :: _, _ :: _, 0, h => h
  | _ :: _, _ :: _, n + 1, ⟨_, r⟩ => Wrs.drop n r
theorem Wrs.reverse {c : Cl} {B : Hp} {ta : List Addr} : ∀ {vs : List V} {ws : List W}, Wrs c B ta vs ws → Wrs c B ta vs.reverse ws.reverse
  | [], [], _ => trivial
  | _ :: _, _ :: _, ⟨h, r⟩ => by rw [List.reverse_cons, List.reverse_cons]; exact (Wrs.reverse r).append ⟨h, trivial⟩
theorem Wrs.of {c : Cl} {B : Hp} {ta : List Addr} : ∀ {vs : List V} {ds : List D}, Reps c B vs ds → Wrs c B ta vs (ds.map .v)
  | _, _, .nil => trivial
  | _, _, .cons h r => ⟨h, Wrs.of r⟩
theorem Wrs.all {c : Cl} {B : Hp} {ta : List Addr} : ∀ {vs : List V} {ws : List W} {ds : List D}, Wrs c B ta vs ws → allV ws = some ds → Reps c B vs ds
  | [], [], _, _, e => by cases e; exact .nil
  | _ :: _, .v d :: ws, _, ⟨h, r⟩, e => by
    simp only [allV] at e
    cases q : allV ws with
    | none => rw [q] at e; cases e
    | some es => rw [q] at e; cases e; exact .cons h (Wrs.all r q)
  | _ :: _, .t _ :: _, _, _, e => by cases e
theorem allV_eq : ∀ {ws : List W} {ds : List D}, allV ws = some ds → ws = ds.map .v
  | [], _, e => by cases e; rfl
  | .v d :: ws, _, e => by
    simp only [allV] at e
    cases q : allV ws with
    | none => rw [q] at e; cases e
    | some es => rw [q] at e; cases e; rw [allV_eq q]; rfl
  | .t _ :: _, _, e => by cases e

/-! ### a step: what stood by value stands, the tokens are known -/
structure Post (c : Cl) (B : Hp) (ta : List Addr) (H' : Hp) (ta' : List Addr) (m' : Store) : Prop where
  toks : Toks c H' ta' m'
  pre : ta <+: ta'
  ext : Same B (view H' ta' m')
theorem Post.refl {c : Cl} {H : Hp} {ta : List Addr} {m : Store} (t : Toks c H ta m) : Post c (view H ta m) ta H ta m := ⟨t, List.prefix_refl _, Same.refl _⟩
theorem Post.trans {c : Cl} {B H1 H2 : Hp} {ta ta1 ta2 : List Addr} {m1 m2 : Store} (a : Post c B ta H1 ta1 m1) (b : Post c (view H1 ta1 m1) ta1 H2 ta2 m2) : Post c B ta H2 ta2 m2 :=
  ⟨b.toks, a.pre.trans b.pre, a.ext.trans b.ext⟩
/-- an error behind a run: its own dict holds the one field -/
structure ExAt (c : Cl) (fe : Nat → Str) (H' : Hp) (B' : Hp) (n : Nat) (ds : List D) (d : Addr) : Prop where
  at_ : ∃ x e, ds = [e] ∧ (H' d = some (.xd [(fe n, x)])) ∧ Rep c B' x e
/-- a run: what is wanted of its end -/
def Run {α : Type} (c : Cl) (fe : Nat → Str) (EW : XK) (B : Hp) (ta : List Addr) (r : R α) (k : α → Store → Hp → List Addr → Prop) : Prop :=
  match r with
  | .ok a m' => ∀ H' ta', Post c B ta H' ta' m' → k a m' H' ta'
  | .ex n ds m' => ∀ d H' ta', Post c B ta H' ta' m' → ExAt c fe H' (view H' ta' m') n ds d → EW (.ref (c.ca n)) (some d) H'
  | .bad => False
section
variable {α β : Type} {c : Cl} {fe : Nat → Str} {EW : XK} {B : Hp} {ta : List Addr}
theorem Run.mono {r : R α} {k k' : α → Store → Hp → List Addr → Prop} (h : Run c fe EW B ta r k) (f : ∀ a m' H' ta', Post c B ta H' ta' m' → k a m' H' ta' → k' a m' H' ta') : Run c fe EW B ta r k' := by
  cases r with
  | ok a m => exact fun H' ta' p => f a m H' ta' p (h H' ta' p)
  | ex n ds m => exact h
  | bad => exact h
theorem Run.bind {r : R α} {f : α → Store → R β} {k : β → Store → Hp → List Addr → Prop} (h : Run c fe EW B ta (r.bind f) k) :
    Run c fe EW B ta r fun a m1 H1 ta1 => Run c fe EW (view H1 ta1 m1) ta1 (f a m1) k := by
  cases r with
  | ok a m =>
    intro H1 ta1 p1
    have h : Run c fe EW B ta (f a m) k := h
    generalize f a m = q at h ⊢
    cases q with
    | ok b m2 => exact fun H2 ta2 p2 => h H2 ta2 (p1.trans p2)
    | ex n ds m2 => exact fun d H2 ta2 p2 e => h d H2 ta2 (p1.trans p2) e
    | bad => exact h
  | ex n ds m => exact h
  | bad => exact h
/-- at a state: the run may end here -/
theorem Run.here {H : Hp} {m : Store} {a : α} {k : α → Store → Hp → List Addr → Prop} (t : Toks c H ta m) (h : Run c fe EW (view H ta m) ta (R.ok a m) k) : k a m H ta := h H ta (Post.refl t)
theorem Run.at {H' : Hp} {m' : Store} {ta' : List Addr} {a : α} {k : α → Store → Hp → List Addr → Prop} (h : Run c fe EW B ta (R.ok a m') k) (p : Post c B ta H' ta' m') : k a m' H' ta' := h H' ta' p
end

/-! ### a situation: names and tokens -/
structure Sit (c : Cl) (σ : L2.St) (H : Hp) (env : Env) (m : Store) (ta : List Addr) : Prop where
  len : env.length = σ.length
  env : ∀ i w, getS i env = some w → ∃ v, σ[i]? = some (some v) ∧ Wr c (view H ta m) ta v w
  toks : Toks c H ta m
theorem Sit.step {c : Cl} {σ : L2.St} {H H' : Hp} {env : Env} {m m' : Store} {ta ta' : List Addr} (s : Sit c σ H env m ta) (p : Post c (view H ta m) ta H' ta' m') : Sit c σ H' env m' ta' :=
  ⟨s.len, fun i w e => let ⟨v, h1, h2⟩ := s.env i w e; ⟨v, h1, h2.mono p.ext p.pre⟩, p.toks⟩
theorem setS_length : ∀ (i : Nat) (w : W) (env : Env), (setS i w env).length = env.length
  | 0, _, [] => rfl
  | _ + 1, _, [] => rfl
  | 0, _, _ :: _ => rfl
  | i + 1, w, _ :: ws => by simp [setS, setS_length i w ws]
theorem getS_setS : ∀ (i j : Nat) (w : W) (env : Env), getS j (setS i w env) = if j = i ∧ i < env.length then some w else getS j env
  | 0, j, w, [] => by cases j <;> simp [setS, getS]
  | i + 1, j, w, [] => by cases j <;> simp [setS, getS]
  | 0, 0, w, _ :: _ => by simp [setS, getS]
  | 0, j + 1, w, _ :: _ => by simp [setS, getS]
  | i + 1, 0, w, _ :: _ => by simp [setS, getS]
  | i + 1, j + 1, w, _ :: ws => by simp [setS, getS, getS_setS i j w ws]
theorem getS_lt : ∀ {i : Nat} {env : Env} {w : W}, getS i env = some w → i < env.length
  | 0, [], _, h => by cases h
  | _ + 1, [], _, h => by cases h
  | 0, _ :: _, _, _ => by simp
  | i + 1, _ :: ws, w, h => by have := getS_lt (i := i) (env := ws) h; simp; omega
theorem clrS_length : ∀ (i : Nat) (env : Env), (clrS i env).length = env.length
  | 0, [] => rfl
  | _ + 1, [] => rfl
  | 0, _ :: _ => rfl
  | i + 1, _ :: ws => by simp [clrS, clrS_length i ws]
theorem getS_clrS : ∀ (i j : Nat) (env : Env), getS j (clrS i env) = if j = i then none else getS j env
  | 0, j, [] => by cases j <;> simp [clrS, getS]
  | i + 1, j, [] => by cases j <;> simp [clrS, getS]
  | 0, 0, _ :: _ => by simp [clrS, getS]
  | 0, j + 1, _ :: _ => by simp [clrS, getS]
  | i + 1, 0, _ :: _ => by simp [clrS, getS]
  | i + 1, j + 1, _ :: ws => by simp [clrS, getS, getS_clrS i j ws]
theorem Sit.set {c : Cl} {σ : L2.St} {H : Hp} {env : Env} {m : Store} {ta : List Addr} {i : Nat} {v : V} {w : W} (s : Sit c σ H env m ta) (h : Wr c (view H ta m) ta v w) : Sit c (σ.set i (some v)) H (setS i w env) m ta := by
  refine ⟨by rw [setS_length, List.length_set]; exact s.len, fun j u e => ?_, s.toks⟩
  rw [getS_setS] at e
  split at e
  · rename_i q
    cases e
    refine ⟨v, ?_, h⟩
    rw [q.1, List.getElem?_set_self]
    rw [← s.len]; exact q.2
  · rename_i q
    obtain ⟨v', h1, h2⟩ := s.env j u e
    refine ⟨v', ?_, h2⟩
    by_cases hj : j = i
    · have := getS_lt e
      exact (q ⟨hj, hj ▸ this⟩).elim
    · rw [List.getElem?_set_ne (Ne.symm hj)]; exact h1
/-- σ may know more -/
theorem Sit.wipe1 {c : Cl} {σ σ' : L2.St} {H : Hp} {env : Env} {m : Store} {ta : List Addr} (s : Sit c σ H env m ta) (hl : σ'.length = σ.length) (h : ∀ i w v, getS i env = some w → σ[i]? = some (some v) → σ'[i]? = some (some v)) : Sit c σ' H env m ta :=
  ⟨s.len.trans hl.symm, fun i w e => let ⟨v, h1, h2⟩ := s.env i w e; ⟨v, h i w v e h1, h2⟩, s.toks⟩

/-! ### readings -/
structure Sy where
  c : Cl
  fe : Nat → Str
  F : Fns
def tE (y : Sy) (EW : XK) (e : E) : TE := fun σ H Q => ∃ env m ta, Sit y.c σ H env m ta ∧ Run y.c y.fe EW (view H ta m) ta (ev y.F e env m) fun w m' H' ta' => ∀ v, Wr y.c (view H' ta' m') ta' v w → Q v H'
def tT (y : Sy) (EW : XK) (e : E) : TT := fun σ H Q => ∃ env m ta, Sit y.c σ H env m ta ∧ Run y.c y.fe EW (view H ta m) ta (ev y.F e env m) fun w m' H' ta' => ∃ b, w = .v (.bl b) ∧ Q b H'
def tL (y : Sy) (EW : XK) (es : EL) : TA := fun σ H Q => ∃ env m ta, Sit y.c σ H env m ta ∧ Run y.c y.fe EW (view H ta m) ta (evL y.F es env m) fun ws m' H' ta' => ∀ vs, Wrs y.c (view H' ta' m') ta' vs ws → Q vs H'

theorem _root_.L2.PE.imp {X : Cx} {e : Expr} {t t' : TE} (h : PE X e t) (w : ∀ σ H Q, t' σ H Q → t σ H Q) : PE X e t' := ⟨fun pins s σ H Q I q => h.run pins s σ H Q I (w σ H Q q)⟩
theorem _root_.L2.PT.imp {X : Cx} {e : Expr} {t t' : TT} (h : PT X e t) (w : ∀ σ H Q, t' σ H Q → t σ H Q) : PT X e t' := ⟨fun pins s σ H Q I q => h.run pins s σ H Q I (w σ H Q q)⟩
theorem _root_.L2.PA.imp {X : Cx} {e : List Expr} {t t' : TA} (h : PA X e t) (w : ∀ σ H Q, t' σ H Q → t σ H Q) : PA X e t' := ⟨fun pos pins s σ H Q I q => h.run pos pins s σ H Q I (w σ H Q q)⟩
theorem _root_.L2.PS.imp {X : Cx} {e : Stmt} {t t' : TS} (h : PS X e t) (w : ∀ D σ H, t' D σ H → t D σ H) : PS X e t' := ⟨fun pins s σ H D I q => h.run pins s σ H D I (w D σ H q)⟩
theorem _root_.L2.PSs.imp {X : Cx} {e : List Stmt} {t t' : TS} (h : PSs X e t) (w : ∀ D σ H, t' D σ H → t D σ H) : PSs X e t' := ⟨fun pins s σ H D I q => h.run pins s σ H D I (w D σ H q)⟩
theorem rep_bl {c : Cl} {B : Hp} {v : V} {b : Bool} (h : Rep c B v (.bl b)) : v = .bl b := by cases h; rfl
theorem rep_int {c : Cl} {B : Hp} {v : V} {b : Int} (h : Rep c B v (.int b)) : v = .int b := by cases h; rfl
theorem rep_non {c : Cl} {B : Hp} {v : V} (h : Rep c B v .non) : v = .non := by cases h; rfl
theorem rep_str {c : Cl} {B : Hp} {v : V} {b : Str} (h : Rep c B v (.str b)) : v = .str b ∧ strOk b = true := by cases h; exact ⟨rfl, by assumption⟩
/-- a test by its value -/
theorem test_of {X : Cx} {y : Sy} {EW : XK} {x : Expr} {e : E} (h : PE X x (tE y EW e)) (he : ∀ whole, isTrue x X.env whole = (do let v ← whole; standAt x.pos; holding [v] (truthy v))) : PT X x (tT y EW e) :=
  (pt_val h he).imp fun σ H Q ⟨env, m, ta, s, r⟩ => ⟨env, m, ta, s, r.mono fun w m' H' ta' p ⟨b, e1, q⟩ v hv => by
    subst e1
    exact ⟨b, rep_bl hv, q⟩⟩

/-! ### a new object, by value or as a token -/
theorem live_sub : ∀ {ta : List Addr} {m : Store} {a : Addr}, a ∈ live ta m → a ∈ ta
  | b :: ta, k :: m, a, h => by
    cases k with
    | dead => exact List.mem_cons_of_mem _ (live_sub (m := m) h)
    | lst ws => rcases List.mem_cons.mp h with rfl | h; exact List.mem_cons_self; exact List.mem_cons_of_mem _ (live_sub (m := m) h)
    | dict t ks ws => rcases List.mem_cons.mp h with rfl | h; exact List.mem_cons_self; exact List.mem_cons_of_mem _ (live_sub (m := m) h)
    | obj n ws => rcases List.mem_cons.mp h with rfl | h; exact List.mem_cons_self; exact List.mem_cons_of_mem _ (live_sub (m := m) h)
  | [], _, _, h => by cases h
  | _ :: _, [], _, h => by cases h
theorem live_app : ∀ {ta : List Addr} {m : Store} {a : Addr} {k : C}, ta.length = m.length → k ≠ C.dead → live (ta ++ [a]) (m ++ [k]) = live ta m ++ [a]
  | [], [], a, k, _, hk => by cases k <;> first | rfl | exact absurd rfl hk
  | b :: ta, q :: m, a, k, h, hk => by
    have ih := live_app (ta := ta) (m := m) (a := a) (k := k) (by simpa using h) hk
    cases q <;> simp [live, ih]
  | [], _ :: _, _, _, h, _ => by simp at h
  | _ :: _, [], _, _, h, _ => by simp at h
theorem live_get : ∀ {ta : List Addr} {m : Store} {i : Nat} {a : Addr} {k : C}, ta[i]? = some a → m[i]? = some k → k ≠ C.dead → a ∈ live ta m
  | b :: ta, q :: m, 0, a, k, h1, h2, hk => by
    simp at h1 h2; subst h1; subst h2
    cases q <;> first | exact List.mem_cons_self | exact absurd rfl hk
  | b :: ta, q :: m, i + 1, a, k, h1, h2, hk => by
    have := live_get (ta := ta) (m := m) (i := i) (by simpa using h1) (by simpa using h2) hk
    cases q <;> first | exact List.mem_cons_of_mem _ this | exact this
  | [], _, _, _, _, h, _, _ => by simp at h
  | _ :: _, [], _, _, _, _, h, _ => by simp at h
/-- what lives has a place -/
theorem live_has : ∀ {ta : List Addr} {m : Store} {a : Addr}, a ∈ live ta m → ∃ (i : Nat) (k : C), ta[i]? = some a ∧ m[i]? = some k ∧ k ≠ C.dead
  | b :: ta, k :: m, a, h => by
    cases k with
    | dead => obtain ⟨i, k, h1, h2, h3⟩ := live_has (ta := ta) (m := m) h; exact ⟨i + 1, k, by simpa using h1, by simpa using h2, h3⟩
    | lst ws =>
      rcases List.mem_cons.mp h with rfl | h
      · exact ⟨0, _, rfl, rfl, by simp⟩
      · obtain ⟨i, k, h1, h2, h3⟩ := live_has (ta := ta) (m := m) h; exact ⟨i + 1, k, by simpa using h1, by simpa using h2, h3⟩
    | dict t ks ws =>
      rcases List.mem_cons.mp h with rfl | h
      · exact ⟨0, _, rfl, rfl, by simp⟩
      · obtain ⟨i, k, h1, h2, h3⟩ := live_has (ta := ta) (m := m) h; exact ⟨i + 1, k, by simpa using h1, by simpa using h2, h3⟩
    | obj n ws =>
      rcases List.mem_cons.mp h with rfl | h
      · exact ⟨0, _, rfl, rfl, by simp⟩
      · obtain ⟨i, k, h1, h2, h3⟩ := live_has (ta := ta) (m := m) h; exact ⟨i + 1, k, by simpa using h1, by simpa using h2, h3⟩
  | [], _, _, h => by cases h
  | _ :: _, [], _, h => by cases h
theorem TokOk.there {c : Cl} {B H : Hp} {ta : List Addr} {a : Addr} : ∀ {k : C}, TokOk c B H ta a k → k ≠ C.dead → ∃ o, H a = some o
  | .lst _, ⟨_, h, _⟩, _ => ⟨_, h⟩
  | .dict _ _ _, h, _ => by
    rcases h with ⟨_, _, h, _⟩ | ⟨_, _, h, _⟩
    · exact ⟨_, h⟩
    · exact ⟨_, h⟩
  | .obj _ _, ⟨_, _, h, _⟩, _ => ⟨_, h⟩
  | .dead, _, h => absurd rfl h
theorem Toks.there {c : Cl} {H : Hp} {ta : List Addr} {m : Store} (t : Toks c H ta m) {a : Addr} (h : a ∈ live ta m) : ∃ o, H a = some o := by
  obtain ⟨i, k, h1, h2, h3⟩ := live_has h
  exact (t.ok i k a h2 h1).there h3
theorem TokOk.mono {c : Cl} {B B' H H' : Hp} {ta ta' : List Addr} {a : Addr} (e : Same B B') (p : ta <+: ta') (h : H' a = H a) : ∀ {k : C}, TokOk c B H ta a k → TokOk c B' H' ta' a k
  | .lst _, ⟨xs, h1, h2⟩ => ⟨xs, h.trans h1, h2.mono e p⟩
  | .dict _ _ _, q => by
    rcases q with ⟨t, kvs, h1, h2, h3, h4⟩ | ⟨t, kvs, h1, h2, h3, h4⟩
    · exact .inl ⟨t, kvs, h.trans h1, h2, h3, h4.mono e p⟩
    · exact .inr ⟨t, kvs, h.trans h1, h2, h3, h4.mono e p⟩
  | .obj _ _, ⟨dx, xs, h1, h2, h3⟩ => ⟨dx, xs, h.trans h1, h2, h3.mono e p⟩
  | .dead, _ => trivial
/-- a new object by value -/
theorem post_new {c : Cl} {H : Hp} {ta : List Addr} {m : Store} {p : Addr} {o : HO} (t : Toks c H ta m) (hp : H p = none) : Post c (view H ta m) ta (upd H p o) ta m ∧ view (upd H p o) ta m p = some o := by
  have np : p ∉ live ta m := fun z => by obtain ⟨o, e⟩ := t.there z; rw [hp] at e; cases e
  have ext : Same (view H ta m) (view (upd H p o) ta m) := fun a u h => by
    obtain ⟨h1, h2⟩ := hide_not h
    exact hide_of (by rw [upd_ne (ne_of_none h2 hp)]; exact h2) h1
  refine ⟨⟨⟨t.len, t.nd, fun a ha => ?_, fun i k a h1 h2 => ?_⟩, List.prefix_refl _, ext⟩, hide_of upd_same np⟩
  · obtain ⟨u, hu⟩ := t.has a ha
    exact ⟨u, by rw [upd_ne (ne_of_none hu hp)]; exact hu⟩
  by_cases hk : k = .dead
  · subst hk; trivial
  · have q := t.ok i k a h1 h2
    obtain ⟨u, hu⟩ := q.there hk
    exact q.mono ext (List.prefix_refl _) (upd_ne (ne_of_none hu hp))
/-- a new object as a token -/
theorem post_tok {c : Cl} {H : Hp} {ta : List Addr} {m : Store} {p : Addr} {o : HO} {k : C} (t : Toks c H ta m) (hp : H p = none) (hk : k ≠ C.dead) (ok : TokOk c (view H ta m) (upd H p o) ta p k) :
    Post c (view H ta m) ta (upd H p o) (ta ++ [p]) (m ++ [k]) := by
  have ext : Same (view H ta m) (view (upd H p o) (ta ++ [p]) (m ++ [k])) := fun a u h => by
    obtain ⟨h1, h2⟩ := hide_not h
    have ne := ne_of_none h2 hp
    refine hide_of (by rw [upd_ne ne]; exact h2) ?_
    rw [live_app t.len hk]
    intro z
    rcases List.mem_append.mp z with z | z
    · exact h1 z
    · exact ne (by simpa using z)
  have pre : ta <+: ta ++ [p] := ⟨[p], rfl⟩
  have hn : p ∉ ta := fun z => by obtain ⟨u, hu⟩ := t.has p z; rw [hp] at hu; cases hu
  refine ⟨⟨by simp [t.len], ?_, fun a ha => ?_, fun i q a h1 h2 => ?_⟩, pre, ext⟩
  · rw [List.nodup_append]
    refine ⟨t.nd, by simp, fun a ha b hb => ?_⟩
    have : b = p := by simpa using hb
    subst this
    exact fun e => hn (e ▸ ha)
  · rcases List.mem_append.mp ha with ha | ha
    · obtain ⟨u, hu⟩ := t.has a ha
      exact ⟨u, by rw [upd_ne (ne_of_none hu hp)]; exact hu⟩
    · have : a = p := by simpa using ha
      exact ⟨o, by rw [this]; exact upd_same⟩
  · by_cases hi : i < m.length
    · rw [List.getElem?_append_left hi] at h1
      rw [List.getElem?_append_left (by rw [t.len]; exact hi)] at h2
      by_cases hq : q = .dead
      · subst hq; trivial
      · have z := t.ok i q a h1 h2
        obtain ⟨u, hu⟩ := z.there hq
        exact z.mono ext pre (upd_ne (ne_of_none hu hp))
    · have : i = m.length := by
        have := (List.getElem?_eq_some_iff.mp h1).1
        simp at this; omega
      subst this
      rw [List.getElem?_append_right (Nat.le_refl _)] at h1
      rw [← t.len, List.getElem?_append_right (Nat.le_refl _)] at h2
      simp at h1 h2
      subst h1; subst h2
      exact ok.mono ext pre rfl
/-! ### what is there to be read now: by value, or a token's content; its parts by value -/
inductive Snap (c : Cl) (B H : Hp) : V → D → Prop
  | val {v : V} {d : D} (h : Rep c B v d) : Snap c B H v d
  | lst {a : Addr} {xs : List V} {ds : List D} (h : H a = some (.lst xs)) (r : Reps c B xs ds) : Snap c B H (.ref a) (.lst ds)
  | dK {a : Addr} {kvs : List (Key × V)} {vs : List D} (h : H a = some (.dK kvs)) (hk : ∀ p ∈ kvs, kOk p.1) (r : Reps c B (kvs.map (·.2)) vs) : Snap c B H (.ref a) (.dict false (kvs.map fun p => kD p.1) vs)
  | dT {a : Addr} {kvs : List (List Key × V)} {vs : List D} (h : H a = some (.dT kvs)) (hk : ∀ p ∈ kvs, ∀ k ∈ p.1, kOk k) (r : Reps c B (kvs.map (·.2)) vs) : Snap c B H (.ref a) (.dict true (kvs.map fun p => .tup (p.1.map kD)) vs)
theorem Snap.full {c : Cl} {B H : Hp} {v : V} {d : D} (e : Same B H) (s : Snap c B H v d) : Rep c H v d := by
  cases s with
  | val h => exact h.mono e
  | lst h r => exact .lst (.inl h) (Reps.mono e r)
  | dK h hk r => exact .dK h hk (Reps.mono e r)
  | dT h hk r => exact .dT h hk (Reps.mono e r)
theorem snap_of {c : Cl} {H : Hp} {ta : List Addr} {m : Store} {v : V} {w : W} {d : D} (t : Toks c H ta m) (h : Wr c (view H ta m) ta v w) (e : snap m w = some d) : Snap c (view H ta m) H v d := by
  cases w with
  | v d' => cases e; exact .val h
  | t n =>
    obtain ⟨a, h1, rfl⟩ := h
    simp only [snap] at e
    cases q : m[n]? with
    | none => rw [q] at e; cases e
    | some k =>
      rw [q] at e
      have z := t.ok n k a q h1
      cases k with
      | lst ws =>
        obtain ⟨xs, h2, h3⟩ := z
        simp only [Option.bind, snapC] at e
        cases q2 : allV ws with
        | none => rw [q2] at e; cases e
        | some ds => rw [q2] at e; cases e; exact .lst h2 (h3.all q2)
      | dict t ks ws =>
        simp only [Option.bind, snapC] at e
        cases q2 : allV ws with
        | none => rw [q2] at e; cases e
        | some ds =>
          rw [q2] at e; cases e
          rcases z with ⟨rfl, kvs, h2, rfl, h4, h5⟩ | ⟨rfl, kvs, h2, rfl, h4, h5⟩
          · exact .dK h2 h4 (h5.all q2)
          · exact .dT h2 h4 (h5.all q2)
      | obj n ws => cases e
      | dead => cases e
/-- what an operation may hand back as g: something that stands by value, or a new object -/
def New (c : Cl) (B H : Hp) (Q : VK) (g : D) : Prop :=
  (∀ v, Rep c B v g → Q v H) ∧ ∀ p o, H p = none → (∀ B', Same B B' → B' p = some o → Rep c B' (.ref p) g) → Q (.ref p) (upd H p o)
theorem New.of {c : Cl} {fe : Nat → Str} {EW : XK} {H : Hp} {ta : List Addr} {m : Store} {Q : VK} {g : D} (t : Toks c H ta m)
    (r : Run c fe EW (view H ta m) ta (R.ok (W.v g) m) fun w m' H' ta' => ∀ v, Wr c (view H' ta' m') ta' v w → Q v H') : New c (view H ta m) H Q g := by
  refine ⟨fun v h => r.here t v h, fun p o hp h => ?_⟩
  obtain ⟨p1, p2⟩ := post_new (o := o) t hp
  exact r.at p1 _ (h _ p1.ext p2)
theorem view_sub (H : Hp) (ta : List Addr) (m : Store) : Same (view H ta m) H := hide_sub _ _
end Cy

set_option Elab.async false
set_option linter.all false
set_option maxRecDepth 100000
set_option maxHeartbeats 2000000
/-! CyOps: the operations on data, as the hand layer's rules by values. -/
namespace Cy
open PySem L2
open PySem.PyData (strOk)

/-! ### equality -/
mutual
def pd : D → PyData
  | .non => .none
  | .bl b => .bool b
  | .int i => .int i
  | .str x => .str x
  | .tup xs => .tuple (pds xs)
  | .lst xs => .list (pds xs)
  | .dict _ _ _ => .dict []
  | .obj _ _ => .dict []
def pds : List D → List PyData
  | [] => []
  | x :: xs => pd x :: pds xs
end
theorem pds_map : ∀ xs : List D, pds xs = xs.map pd
  | [] => rfl
  | x :: xs => by simp [pds, pds_map xs]
mutual
theorem eqv_pd : ∀ a b : D, PyData.eqv (pd a) (pd b) = eqB a b
  | .non, b => by cases b <;> simp [pd, PyData.eqv, eqB]
  | .bl _, b => by cases b <;> simp [pd, PyData.eqv, eqB]
  | .int _, b => by cases b <;> simp [pd, PyData.eqv, eqB]
  | .str _, b => by cases b <;> simp [pd, PyData.eqv, eqB]
  | .tup xs, b => by
    cases b with
    | tup ys => simp [pd, PyData.eqv, eqB, eqv_pds xs ys]
    | _ => simp [pd, PyData.eqv, eqB]
  | .lst xs, b => by
    cases b with
    | lst ys => simp [pd, PyData.eqv, eqB, eqv_pds xs ys]
    | _ => simp [pd, PyData.eqv, eqB]
  | .dict _ _ _, b => by cases b <;> simp [pd, PyData.eqv, eqB]
  | .obj _ _, b => by cases b <;> simp [pd, PyData.eqv, eqB]
theorem eqv_pds : ∀ xs ys : List D, PyData.eqvAll (pds xs) (pds ys) = eqBs xs ys
  | [], [] => by simp [pds, PyData.eqvAll, eqBs]
  | [], _ :: _ => by simp [pds, PyData.eqvAll, eqBs]
  | _ :: _, [] => by simp [pds, PyData.eqvAll, eqBs]
  | x :: xs, y :: ys => by simp [pds, PyData.eqvAll, eqBs, eqv_pd x y, eqv_pds xs ys]
end
mutual
theorem Rep.dp {c : Cl} {H : Hp} : ∀ {v : V} {d : D}, Rep c H v d → plain d = true → Dp c.K H v (pd d)
  | _, _, .non, _ => .non
  | _, _, .bl b, _ => .bl b
  | _, _, .int i, _ => .int i
  | _, _, .str _, _ => .str _
  | _, _, .tup h _ r, p => .tup h (Reps.dp r (by simpa [plain] using p))
  | _, _, .lst h r, p => .lst (.inl h) (Reps.dp r (by simpa [plain] using p))
  | _, _, .dK _ _ _, p => by simp [plain] at p
  | _, _, .dT _ _ _, p => by simp [plain] at p
  | _, _, .obj _ _ _, p => by simp [plain] at p
theorem Reps.dp {c : Cl} {H : Hp} : ∀ {vs : List V} {ds : List D}, Reps c H vs ds → plains ds = true → DpAll c.K H vs (pds ds)
  | _, _, .nil, _ => .nil
  | _, _, .cons h r, p => by
    simp only [plains, Bool.and_eq_true] at p
    exact .cons (Rep.dp h p.1) (Reps.dp r p.2)
end
mutual
theorem Rep.lay {c : Cl} {H : Hp} : ∀ {v : V} {d : D}, Rep c H v d → plain d = true → (pd d).canLay0 = true
  | _, _, .non, _ => by simp [pd, PyData.canLay0]
  | _, _, .bl b, _ => by simp [pd, PyData.canLay0]
  | _, _, .int i, _ => by simp [pd, PyData.canLay0]
  | _, _, .str h, _ => by simp [pd, PyData.canLay0, h]
  | _, _, .tup _ _ r, p => by simp only [pd, PyData.canLay0]; exact Reps.lay r (by simpa [plain] using p)
  | _, _, .lst _ r, p => by simp only [pd, PyData.canLay0]; exact Reps.lay r (by simpa [plain] using p)
  | _, _, .dK _ _ _, p => by simp [plain] at p
  | _, _, .dT _ _ _, p => by simp [plain] at p
  | _, _, .obj _ _ _, p => by simp [plain] at p
theorem Reps.lay {c : Cl} {H : Hp} : ∀ {vs : List V} {ds : List D}, Reps c H vs ds → plains ds = true → PyData.canLayAll0 (pds ds) = true
  | _, _, .nil, _ => by simp [pds, PyData.canLayAll0]
  | _, _, .cons h r, p => by
    simp only [plains, Bool.and_eq_true] at p
    simp [pds, PyData.canLayAll0, Rep.lay h p.1, Reps.lay r p.2]
end
mutual
theorem dep_pd : ∀ d : D, plain d = true → (pd d).depth ≤ dep d
  | .non, _ => by simp [pd, PyData.depth]
  | .bl _, _ => by simp [pd, PyData.depth]
  | .int _, _ => by simp [pd, PyData.depth]
  | .str _, _ => by simp [pd, PyData.depth]
  | .tup xs, p => by have := dep_pds xs (by simpa [plain] using p); simp [pd, PyData.depth, dep]; omega
  | .lst xs, p => by have := dep_pds xs (by simpa [plain] using p); simp [pd, PyData.depth, dep]; omega
  | .dict _ _ _, p => by simp [plain] at p
  | .obj _ _, p => by simp [plain] at p
theorem dep_pds : ∀ ds : List D, plains ds = true → PyData.depthAll (pds ds) ≤ deps ds
  | [], _ => by simp [pds, PyData.depthAll]
  | x :: xs, p => by
    simp only [plains, Bool.and_eq_true] at p
    have h1 := dep_pd x p.1
    have h2 := dep_pds xs p.2
    simp only [pds, PyData.depthAll, deps]
    omega
end
theorem shaped_of {c : Cl} {H : Hp} {v : V} {d : D} (h : Rep c H v d) (p : plain d = true) (q : dep d ≤ 60) : SeqAt.shaped (pd d) = true := by
  unfold SeqAt.shaped
  rw [h.lay p, Bool.true_and, decide_eq_true_eq]
  exact Nat.le_trans (dep_pd d p) (by omega)

theorem strOk_append {x y : Str} (h1 : strOk x = true) (h2 : strOk y = true) : strOk (x ++ y) = true := by
  unfold strOk at *
  rw [Array.all_eq_true_iff_forall_mem] at *
  intro c hc
  have : c ∈ x.cps ++ y.cps := hc
  rcases Array.mem_append.mp this with h | h
  · exact h1 c h
  · exact h2 c h
theorem Reps.flat {c : Cl} {B : Hp} {vs : List V} {ds : List D} (r : Reps c B vs ds) : ∀ k : Nat, Reps c B (List.replicate k vs).flatten (List.replicate k ds).flatten
  | 0 => .nil
  | k + 1 => by rw [List.replicate_succ, List.replicate_succ, List.flatten_cons, List.flatten_cons]; exact r.append (Reps.flat r k)
theorem lim_size {n : Nat} (h : n ≤ LIM) : n ≤ sizeLine := by rw [sizeLine_eq]; exact Nat.le_trans h (by decide)
theorem Snap.int {c : Cl} {B H : Hp} {v : V} {i : Int} (s : Snap c B H v (.int i)) : v = .int i := by
  cases s with
  | val h => exact rep_int h
theorem Snap.str {c : Cl} {B H : Hp} {v : V} {i : Str} (s : Snap c B H v (.str i)) : v = .str i ∧ strOk i = true := by
  cases s with
  | val h => exact rep_str h
theorem Snap.bl {c : Cl} {B H : Hp} {v : V} {i : Bool} (s : Snap c B H v (.bl i)) : v = .bl i := by
  cases s with
  | val h => exact rep_bl h
theorem Snap.non {c : Cl} {B H : Hp} {v : V} (s : Snap c B H v .non) : v = .non := by
  cases s with
  | val h => exact rep_non h
theorem Snap.tup {c : Cl} {B H : Hp} {v : V} {ds : List D} (s : Snap c B H v (.tup ds)) : ∃ a xs, v = .ref a ∧ SqT c.K B a xs ∧ (intsD ds = true → B a = some (.tup xs)) ∧ Reps c B xs ds := by
  cases s with
  | val h => cases h with | tup h hi r => exact ⟨_, _, rfl, h, hi, r⟩
theorem Snap.list {c : Cl} {B H : Hp} {v : V} {ds : List D} (e : Same B H) (s : Snap c B H v (.lst ds)) : ∃ a xs, v = .ref a ∧ Rd H a (.lst xs) ∧ Reps c B xs ds := by
  cases s with
  | val h => cases h with | lst h r => exact ⟨_, _, rfl, rd_mono e h, r⟩
  | lst h r => exact ⟨_, _, rfl, .inl h, r⟩
/-- a list that is read: its object -/
theorem lstR {X : Cx} {pins : List (Addr × Obj)} {σ : L2.St} {H : Hp} {s : Shared} {l : Addr} {xs : List V} (I : Inv X pins σ H s) (h : Rd H l (.lst xs)) :
    xs.length ≤ sizeLine ∧ ∃ (its : List Value) (n : Nat), Vals xs its ∧ xs.length = its.length ∧ s.heap.get? l = some { cls := .type "list", data := .seq its.toArray n } := by
  obtain ⟨z, its, n, r, e⟩ := h.ok I.hok
  exact ⟨z, its, n, r, r.length, e⟩
def rCatL : R2 := fun x y H Q => ∃ l b xs zs, x = .ref l ∧ y = .ref b ∧ Rd H l (.lst xs) ∧ Rd H b (.lst zs) ∧ xs.length + zs.length ≤ sizeLine ∧ ∀ p, H p = none → Q (.ref p) (upd H p (.lst (xs ++ zs)))
theorem op_catL {X : Cx} : OpR X (binaryOp .Add) rCatL := by
  intro pins s σ H x y v u Q I rx ry h
  obtain ⟨l, b, xs, zs, rfl, rfl, hH, hB, hz, q⟩ := h
  cases rx
  cases ry
  obtain ⟨z, its, n, r, hl, e⟩ := lstR I hH
  obtain ⟨z2, its2, n2, r2, hl2, e2⟩ := lstR I hB
  refine PySem.P.add_list e e2 ?_ (by rw [List.size_toArray, List.size_toArray]; omega)
  have ea : its.toArray ++ its2.toArray = (its ++ its2).toArray := by simp
  rw [ea]
  exact ⟨.ref _, _, I.lnew (t' := s.toks) (r.append r2) (by rw [List.length_append]; omega), rfl, q _ I.fresh⟩

theorem foldl_app {p : Nat → Bool} {x : Array Nat} (h : x.all p = true) : ∀ (k : Nat) (acc : Array Nat), acc.all p = true → ((List.replicate k x).foldl (· ++ ·) acc).all p = true
  | 0, acc, ha => ha
  | k + 1, acc, ha => by
    rw [List.replicate_succ, List.foldl_cons]
    refine foldl_app h k _ ?_
    rw [Array.all_append, ha, h]
    rfl
theorem foldl_len (x : Array Nat) : ∀ (k : Nat) (acc : Array Nat), ((List.replicate k x).foldl (· ++ ·) acc).size = acc.size + k * x.size
  | 0, acc => by simp
  | k + 1, acc => by
    rw [List.replicate_succ, List.foldl_cons, foldl_len x k, Array.size_append, Nat.succ_mul]
    omega
theorem foldl_size {x : Str} {k : Int} (h : x.length ≤ 1000 ∧ k ≤ 10000) : Str.length ⟨(List.replicate k.toNat x.cps).foldl (· ++ ·) #[]⟩ ≤ sizeLine := by
  show ((List.replicate k.toNat x.cps).foldl (· ++ ·) #[]).size ≤ sizeLine
  rw [foldl_len, sizeLine_eq]
  have h1 : k.toNat * x.cps.size ≤ 10000 * 1000 := Nat.mul_le_mul (by omega) h.1
  have : (#[] : Array Nat).size = 0 := rfl
  omega
theorem strOk_mulS {x : Str} (h : strOk x = true) (k : Int) : strOk (mulS x k) = true := by
  unfold mulS
  split
  · simp [strOk, Str.empty]
  · split
    · exact h
    · exact foldl_app h _ _ (by simp)
open PySem.Spec PyProof.Rows in
theorem tuple_mulE (l : Addr) (items : Array Value) (n : Nat) (dd : Option Addr) (sl : Array (Option Value)) (x : Int) (u : Tok) (c0 : (decide (x < -(2 ^ 63)) || decide (x ≥ 2 ^ 63)) = false) (c1 : (items.isEmpty || x == 1) = true) :
    Meets (Builtin.«tuple.__mul__» ⟨[.ref l, .int x u], []⟩) (fun _ R s => s.heap.get? l = some { cls := .type "tuple", dict := dd, data := .seq items n, slots := sl } ∧ R (.ok (.ret (Value.ref l))) s) :=
  .of_wp fun prog w A R s h => by
    obtain ⟨hp, g, d, tk, os⟩ := s
    obtain ⟨hl, h⟩ := h
    have f1 := AutoSeq1.idx_int
    wp_walk using wpAny_loadPart' hl
    refine wpAny_ite_false (decide_eq_false (by rw [c0]; exact Bool.false_ne_true)) ?_
    wp_walk using wpAny_loadPart' hl
    exact ⟨_, rfl, h⟩
/-- the empty tuple, times a number -/
def rRepE (K : PySem.W.Frag) : R2 := fun x y H Q => ∃ a k, x = V.ref a ∧ y = V.int k ∧ SqT K H a [] ∧ 2 ≤ k ∧ k ≤ 1000 ∧ Q (.ref a) H
open PySem.Spec PyProof.Rows in
theorem op_repE {X : Cx} : OpR X (binaryOp .Mult) (rRepE X.K) := by
  intro pins st sg Hp x y xv yv QQ I hxv hyv hh
  obtain ⟨a, k, rfl, rfl, hsq, k1, k2, fin⟩ := hh
  cases hxv
  obtain ⟨tok, rfl⟩ := hyv
  obtain ⟨ws, rel, ⟨⟨oc, od, odat, osl⟩, got, hcl, m, hdat⟩, -⟩ := I.tuple hsq
  cases rel
  simp only at hcl hdat
  subst hcl hdat
  refine wpAny_binaryOp_repeat_ref (T := "tuple") (U := "int") (by decide) ⟨_, got, rfl⟩ (fun st' => typeIs_int st' k tok) noFill_tuple_mul F.fills_int_mul F.slot_int_rmul repeat_tuple F.slot_int_index.lookup ?_
  refine call_meets F.slot_int_rmul (typeIs_int st k tok) F.entry_int_rmul (F.args_int_rmul_2 _ _) (int_rmul_tuple k tok a _ m od osl) ⟨got, rfl, ⟨_, got, rfl⟩, ?_⟩
  refine call_meets F.slot_tuple_mul ⟨_, got, rfl⟩ F.entry_tuple_mul (F.args_tuple_mul_2 _ _) (tuple_mulE a _ m od osl k tok (by rw [decide_eq_false (by omega), decide_eq_false (by omega)]; rfl) (by simp)) ⟨got, ?_⟩
  exact ⟨.ref a, Hp, I, rfl, fin⟩
/-- a list that is read, times a number of 0 to 1000 -/
def rRepR : R2 := fun x y H Q => ∃ a k xs, x = V.ref a ∧ y = V.int k ∧ Rd H a (.lst xs) ∧ 0 ≤ k ∧ k ≤ 1000 ∧ xs.length ≤ 1000 ∧ ∀ p, H p = none → Q (.ref p) (upd H p (.lst (List.replicate k.toNat xs).flatten))
theorem op_repR {X : Cx} : OpR X (binaryOp .Mult) rRepR := by
  intro pins st sg Hp x y xv yv QQ I hxv hyv hh
  obtain ⟨a, k, xs, rfl, rfl, hrd, k0, k1, k2, fin⟩ := hh
  cases hxv
  obtain ⟨tok, rfl⟩ := hyv
  obtain ⟨-, ws, m, rel, got⟩ := hrd.ok I.hok
  have lw : ws.length = xs.length := rel.length.symm
  have kn : k.toNat ≤ 1000 := by omega
  have small : ws.toArray.size * k.toNat ≤ 1000 * 1000 := by
    rw [List.size_toArray, lw]; exact Nat.mul_le_mul k2 kn
  have line : (1000 * 1000 : Nat) ≤ sizeLine := by rw [sizeLine_eq]; decide
  have notbig : ¬ ws.toArray.size * k.toNat > (2 ^ 63 - 1) / 8 := by
    have h8 : (1000 * 1000 : Nat) ≤ (2 ^ 63 - 1) / 8 := by decide
    omega
  have fits : ¬ (!Builtin.List.listFitsIndex k) = true := by rw [fitsIndex_both (by omega) (by omega)]; simp
  have short : ¬ Builtin.List.listTooLong (ws.toArray.size * k.toNat) = true := by rw [notLongL (Nat.le_trans small line)]; simp
  have made : List.foldl (fun p q => p ++ q) #[] (List.replicate (if ws.toArray.isEmpty = true then 0 else k.toNat) ws.toArray) = (List.replicate k.toNat ws).flatten.toArray := by
    have each : ∀ j : Nat, List.foldl (fun p q => p ++ q) #[] (List.replicate j ws.toArray) = (List.replicate j ws).flatten.toArray := fun j => by simpa using foldl_rep ws j []
    rw [each]
    cases ws with
    | nil => simp
    | cons _ _ => rw [if_neg (by simp)]
  refine wpAny_binaryOp_repeat_ref (T := "list") (U := "int") (by decide) ⟨_, got, rfl⟩ (fun st' => typeIs_int st' k tok) noFill_list_mul F.fills_int_mul F.slot_int_rmul repeat_list F.slot_int_index.lookup ?_
  refine call_meets F.slot_int_rmul (typeIs_int st k tok) F.entry_int_rmul (F.args_int_rmul_2 _ _) (int___rmul___int_list k tok a ws.toArray m) ⟨got, rfl, ⟨_, got, rfl⟩, ?_⟩
  refine call_meets F.slot_list_mul ⟨_, got, rfl⟩ F.entry_list_mul (F.args_list_mul_2 _ _) (AutoListH.list___mul___list_int_3 a ws.toArray m k tok fits notbig short) ⟨got, ?_⟩
  rw [made]
  refine ⟨.ref _, _, I.lnew (t' := st.toks) (rel.rep k.toNat) ?_, rfl, fin _ I.fresh⟩
  rw [PyProof.Rows.lm_len_rep_flat]
  have := Nat.mul_le_mul kn k2
  omega
def opOf : BO → Operator
  | .add => .Add | .sub => .Sub | .mul => .Mult | .fdiv => .FloorDiv | .mod => .Mod | .pow => .Pow
def rBin (c : Cl) (op : BO) : R2 := fun x y H Q => ∃ B d e g, Same B H ∧ Snap c B H x d ∧ Snap c B H y e ∧ binD op d e = some g ∧ New c B H Q g
theorem op_bin {X : Cx} {c : Cl} (hK : X.K = c.K) : ∀ op : BO, OpR X (binaryOp (opOf op)) (rBin c op) := by
  intro op pins s σ H x y v u Q I rx ry h
  obtain ⟨B, d, e, g, sm, hx, hy, hg, q⟩ := h
  cases op with
  | add =>
    simp only [binD] at hg
    cases d <;> cases e <;> simp only [addD, Option.some.injEq, reduceCtorEq] at hg
    · subst hg
      obtain rfl := hx.int
      obtain rfl := hy.int
      exact op_add pins s σ H _ _ v u Q I rx ry ⟨_, _, rfl, rfl, q.1 _ (.int _)⟩
    · rename_i i j
      obtain ⟨rfl, h1⟩ := hx.str
      obtain ⟨rfl, h2⟩ := hy.str
      split at hg
      · rename_i hl
        cases hg
        exact op_add_str pins s σ H _ _ v u Q I rx ry ⟨_, _, rfl, rfl, lim_size hl, q.1 _ (.str (strOk_append h1 h2))⟩
      · cases hg
    · rename_i ds es
      obtain ⟨a, xs, rfl, h1, i1, r1⟩ := hx.tup
      obtain ⟨b, ys, rfl, h2, i2, r2⟩ := hy.tup
      split at hg
      · rename_i hl
        cases hg
        refine op_catA pins s σ H _ _ v u Q I rx ry ⟨a, b, xs, ys, rfl, rfl, hK ▸ seq_mono sm h1, hK ▸ seq_mono sm h2, lim_size (by rw [r1.length, r2.length]; exact hl), fun e0 => ?_, fun _ e0 => ?_, fun _ _ p hp => ?_⟩
        · subst e0
          cases r1
          exact q.1 _ (.tup h2 i2 r2)
        · subst e0
          cases r2
          exact q.1 _ (by rw [List.append_nil]; exact .tup h1 i1 r1)
        · exact q.2 p _ hp fun B' e1 e2 => .tup (.inl (.inl e2)) (fun _ => e2) ((Reps.mono e1 r1).append (Reps.mono e1 r2))
      · cases hg
    · rename_i ds es
      obtain ⟨a, xs, rfl, h1, r1⟩ := hx.list sm
      obtain ⟨b, ys, rfl, h2, r2⟩ := hy.list sm
      split at hg
      · rename_i hl
        cases hg
        exact op_catL pins s σ H _ _ v u Q I rx ry ⟨a, b, xs, ys, rfl, rfl, h1, h2, lim_size (by rw [r1.length, r2.length]; exact hl), fun p hp =>
          q.2 p _ hp fun B' e1 e2 => .lst (.inl e2) ((Reps.mono e1 r1).append (Reps.mono e1 r2))⟩
      · cases hg
  | sub =>
    cases d <;> cases e <;> simp only [binD, Option.some.injEq, reduceCtorEq] at hg
    subst hg
    obtain rfl := hx.int
    obtain rfl := hy.int
    exact op_sub pins s σ H _ _ v u Q I rx ry ⟨_, _, rfl, rfl, q.1 _ (.int _)⟩
  | mul =>
    cases d <;> cases e <;> simp only [binD, Option.some.injEq, reduceCtorEq] at hg
    · obtain rfl := hx.int
      obtain rfl := hy.int
      split at hg
      · rename_i hc
        cases hg
        exact op_mul pins s σ H _ _ v u Q I rx ry ⟨_, _, rfl, rfl, hc, q.1 _ (.int _)⟩
      · cases hg
    · rename_i x k
      obtain ⟨rfl, h1⟩ := hx.str
      obtain rfl := hy.int
      split at hg
      · rename_i hc
        cases hg
        obtain ⟨t, rfl⟩ := rx
        obtain ⟨t', rfl⟩ := ry
        have q1 := q.1 _ (.str (strOk_mulS h1 k))
        refine PySem.P.mul_str (by rw [decide_eq_false (by omega), decide_eq_false (by omega)]; rfl) (fun h2 _ => ?_) (fun _ _ => ?_) ?_
        · have hk : 1 ≤ k := by omega
          have : (x.length : Int) ≤ 1000 := by omega
          have h3 : (1000 : Int) ≤ (2 ^ 63 - 1) / k := (Int.le_ediv_iff_mul_le (by omega)).mpr (by omega)
          omega
        · have : x.length * k.toNat ≤ 1000 * 10000 := Nat.mul_le_mul hc.1 (by omega)
          show decide (_ > sizeLine) = false
          rw [sizeLine_eq]
          exact decide_eq_false (by omega)
        · unfold mulS at q1
          split
          · rename_i h3
            rw [if_pos h3] at q1
            exact ⟨by decide, .str _, H, I.tok _, ⟨_, rfl⟩, q1⟩
          · rename_i h3
            rw [if_neg h3] at q1
            split
            · rename_i h4
              rw [if_pos h4] at q1
              exact ⟨.str _, H, I, ⟨_, rfl⟩, q1⟩
            · rename_i h4
              rw [if_neg h4] at q1
              exact ⟨foldl_size (by omega), .str _, H, I.tok _, ⟨_, rfl⟩, q1⟩
      · cases hg
    · rename_i ds k
      obtain ⟨a, xs, rfl, h1, i1, r1⟩ := hx.tup
      obtain rfl := hy.int
      split at hg
      · rename_i hc
        cases hg
        by_cases hn : xs = []
        · subst hn
          cases r1
          have e0 : (List.replicate k.toNat ([] : List D)).flatten = [] := by simp
          refine op_repE pins s σ H _ _ v u Q I rx ry ⟨a, k, rfl, rfl, hK ▸ seq_mono sm h1, hc.1, hc.2.1, ?_⟩
          have q1 := q.1 (.ref a) 
          rw [e0] at q1
          exact q1 (.tup h1 i1 .nil)
        · exact op_repT pins s σ H _ _ v u Q I rx ry ⟨a, k, xs, rfl, rfl, hK ▸ seq_mono sm h1, hn, hc.1, hc.2.1, by rw [r1.length]; exact hc.2.2, fun p hp =>
            q.2 p _ hp fun B' e1 e2 => .tup (.inl (.inl e2)) (fun _ => e2) ((Reps.mono e1 r1).flat _)⟩
      · cases hg
    · rename_i ds k
      obtain ⟨a, xs, rfl, h1, r1⟩ := hx.list sm
      obtain rfl := hy.int
      split at hg
      · rename_i hc
        cases hg
        exact op_repR pins s σ H _ _ v u Q I rx ry ⟨a, k, xs, rfl, rfl, h1, hc.1, hc.2.1, by rw [r1.length]; exact hc.2.2, fun p hp =>
          q.2 p _ hp fun B' e1 e2 => .lst (.inl e2) ((Reps.mono e1 r1).flat _)⟩
      · cases hg
  | fdiv =>
    cases d <;> cases e <;> simp only [binD, Option.some.injEq, reduceCtorEq] at hg
    obtain rfl := hx.int
    obtain rfl := hy.int
    split at hg
    · rename_i hc
      cases hg
      exact op_fdiv pins s σ H _ _ v u Q I rx ry ⟨_, _, rfl, rfl, hc, q.1 _ (.int _)⟩
    · cases hg
  | mod =>
    cases d <;> cases e <;> simp only [binD, Option.some.injEq, reduceCtorEq] at hg
    obtain rfl := hx.int
    obtain rfl := hy.int
    split at hg
    · rename_i hc
      cases hg
      exact op_mod pins s σ H _ _ v u Q I rx ry ⟨_, _, rfl, rfl, hc, q.1 _ (.int _)⟩
    · cases hg
  | pow =>
    cases d <;> cases e <;> simp only [binD, Option.some.injEq, reduceCtorEq] at hg
    obtain rfl := hx.int
    obtain rfl := hy.int
    split at hg
    · rename_i hc
      cases hg
      exact op_pow pins s σ H _ _ v u Q I rx ry ⟨_, _, rfl, rfl, ⟨hc.1, by omega, hc.2.2⟩, q.1 _ (.int _)⟩
    · cases hg

/-! ### comparisons -/
def coOf : CO → CmpOp
  | .eq => .Eq | .ne => .NotEq | .lt => .Lt | .le => .LtE | .gt => .Gt | .ge => .GtE | .in_ => .In | .nin => .NotIn | .is_ => .Is | .isnot => .IsNot
theorem keyB_k (k j : Key) : keyB (kD k) (kD j) = decide (k = j) := by
  cases k <;> cases j <;> simp [kD, keyB] <;> exact Bool.beq_eq_decide_eq _ _
theorem eqBs_k : ∀ ks js : List Key, eqBs (ks.map kD) (js.map kD) = decide (ks = js)
  | [], [] => by simp [eqBs]
  | [], _ :: _ => by simp [eqBs]
  | _ :: _, [] => by simp [eqBs]
  | k :: ks, j :: js => by
    have : eqB (kD k) (kD j) = decide (k = j) := by cases k <;> cases j <;> simp [kD, eqB] <;> exact Bool.beq_eq_decide_eq _ _
    simp [eqBs, this, eqBs_k ks js]
theorem keyB_t (ks js : List Key) : keyB (.tup (ks.map kD)) (.tup (js.map kD)) = decide (ks = js) := eqBs_k ks js
theorem keyB_kt (k : Key) (js : List D) : keyB (kD k) (.tup js) = false := by cases k <;> rfl
theorem keyB_tk (k : Key) (js : List D) : keyB (.tup js) (kD k) = false := by cases k <;> rfl
/-- a key that is told by a datum -/
theorem key_of {c : Cl} {B : Hp} {v : V} {d : D} (h : Rep c B v d) (hk : flatK d = true) : ∃ k, v = kV k ∧ d = kD k ∧ kOk k := by
  cases h <;> simp [flatK] at hk
  · exact ⟨.inl _, rfl, rfl, trivial⟩
  · exact ⟨.inr _, rfl, rfl, by assumption⟩
theorem keys_of {c : Cl} {B : Hp} : ∀ {vs : List V} {ds : List D}, Reps c B vs ds → ds.all flatK = true → ∃ ks : List Key, vs = ks.map kV ∧ ds = ks.map kD ∧ ∀ k ∈ ks, kOk k
  | _, _, .nil, _ => ⟨[], rfl, rfl, by simp⟩
  | _, _, .cons h r, p => by
    simp only [List.all_cons, Bool.and_eq_true] at p
    obtain ⟨k, rfl, rfl, hk⟩ := key_of h p.1
    obtain ⟨ks, rfl, rfl, hks⟩ := keys_of r p.2
    refine ⟨k :: ks, rfl, rfl, fun j hj => ?_⟩
    rcases List.mem_cons.mp hj with rfl | hj
    · exact hk
    · exact hks j hj
theorem find_k {α : Type} (k : Key) : ∀ (kvs : List (Key × V)) (vs : List α), kvs.length = vs.length → (findK (kvs.map fun p => kD p.1) vs (kD k)).isSome = (valV kvs k).isSome
  | [], vs, _ => by cases vs <;> rfl
  | p :: kvs, v :: vs, h => by
    have ih := find_k k kvs vs (by simpa using h)
    simp only [List.map_cons, findK, keyB_k]
    unfold valV at ih ⊢
    rw [List.find?_cons]
    by_cases e : p.1 = k
    · simp [e]
    · rw [decide_eq_false e]; simpa using ih
  | _ :: _, [], h => by simp at h

theorem ints_of {c : Cl} {B : Hp} : ∀ {vs : List V} {ds : List D}, Reps c B vs ds → ds.all isI = true → ∃ ks : List Key, vs = ks.map kV ∧ ds = ks.map kD ∧ ∀ k ∈ ks, kOk k
  | _, _, .nil, _ => ⟨[], rfl, rfl, by simp⟩
  | _, _, .cons h r, p => by
    simp only [List.all_cons, Bool.and_eq_true] at p
    obtain ⟨ks, rfl, rfl, hks⟩ := ints_of r p.2
    cases h <;> simp [isI] at p
    rename_i i
    refine ⟨.inl i :: ks, rfl, rfl, fun j hj => ?_⟩
    rcases List.mem_cons.mp hj with rfl | hj
    · trivial
    · exact hks j hj
theorem find_t {α : Type} (k : List Key) : ∀ (kvs : List (List Key × V)) (vs : List α), kvs.length = vs.length → (findK (kvs.map fun p => D.tup (p.1.map kD)) vs (.tup (k.map kD))).isSome = (valV kvs k).isSome
  | [], vs, _ => by cases vs <;> rfl
  | p :: kvs, v :: vs, h => by
    have ih := find_t k kvs vs (by simpa using h)
    simp only [List.map_cons, findK, keyB_t]
    unfold valV at ih ⊢
    rw [List.find?_cons]
    by_cases e : p.1 = k
    · simp [e]
    · rw [decide_eq_false e]; simpa using ih
  | _ :: _, [], h => by simp at h
theorem find_kt {α : Type} (k : Key) : ∀ (kvs : List (List Key × V)) (vs : List α), findK (kvs.map fun p => D.tup (p.1.map kD)) vs (kD k) = none
  | [], vs => by cases vs <;> rfl
  | p :: kvs, [] => rfl
  | p :: kvs, v :: vs => by simp only [List.map_cons, findK, keyB_tk]; exact find_kt k kvs vs
theorem find_tk {α : Type} (k : List D) : ∀ (kvs : List (Key × V)) (vs : List α), findK (kvs.map fun p => kD p.1) vs (.tup k) = none
  | [], vs => by cases vs <;> rfl
  | p :: kvs, [] => rfl
  | p :: kvs, v :: vs => by simp only [List.map_cons, findK, keyB_kt]; exact find_tk k kvs vs
/-- the kinds of a dict that is read -/
theorem Snap.dict {c : Cl} {B H : Hp} {v : V} {t : Bool} {ks vs : List D} (e : Same B H) (s : Snap c B H v (.dict t ks vs)) : ∃ a, v = .ref a ∧
    ((t = false ∧ ∃ kvs : List (Key × V), H a = some (.dK kvs) ∧ ks = kvs.map (fun p => kD p.1) ∧ (∀ p ∈ kvs, kOk p.1) ∧ Reps c B (kvs.map (·.2)) vs) ∨
     t = true ∧ ∃ kvs : List (List Key × V), H a = some (.dT kvs) ∧ ks = kvs.map (fun p => .tup (p.1.map kD)) ∧ (∀ p ∈ kvs, ∀ k ∈ p.1, kOk k) ∧ Reps c B (kvs.map (·.2)) vs) := by
  generalize hg : D.dict t ks vs = g at s
  cases s with
  | val h =>
    cases h with
    | dK h hk r => cases hg; exact ⟨_, rfl, .inl ⟨rfl, _, e _ _ h, rfl, hk, r⟩⟩
    | dT h hk r => cases hg; exact ⟨_, rfl, .inr ⟨rfl, _, e _ _ h, rfl, hk, r⟩⟩
    | _ => cases hg
  | lst _ _ => cases hg
  | dK h hk r => cases hg; exact ⟨_, rfl, .inl ⟨rfl, _, h, rfl, hk, r⟩⟩
  | dT h hk r => cases hg; exact ⟨_, rfl, .inr ⟨rfl, _, h, rfl, hk, r⟩⟩
/-- a key that is told: a plain one, or a tuple of ints -/
theorem Snap.keyF {c : Cl} {B H : Hp} {v : V} {d : D} (e : Same B H) (s : Snap c B H v d) (hk : keyOk false d = true) : ∃ k, v = kV k ∧ d = kD k ∧ kOk k := by
  have h := s.full e
  cases h <;> simp [keyOk, flatK] at hk
  · exact ⟨.inl _, rfl, rfl, trivial⟩
  · exact ⟨.inr _, rfl, rfl, by assumption⟩
theorem Snap.keyT {c : Cl} {B H : Hp} {v : V} {d : D} (e : Same B H) (s : Snap c B H v d) (hk : keyOk true d = true) : ∃ (a : Addr) (ks : List Key), v = .ref a ∧ H a = some (.tup (ks.map kV)) ∧ d = .tup (ks.map kD) ∧ ∀ k ∈ ks, kOk k := by
  have h := s.full e
  cases h <;> simp [keyOk] at hk
  · rename_i a xs ds hs hi r
    have q := hi hk
    unfold intsD at hk
    simp only [Bool.and_eq_true] at hk
    obtain ⟨ks, rfl, rfl, h3⟩ := ints_of r hk.2
    exact ⟨a, ks, rfl, q, rfl, h3⟩
def rCmp (c : Cl) (op : CO) : R2 := fun x y H Q => ∃ B d e b, Same B H ∧ Snap c B H x d ∧ Snap c B H y e ∧ cmpD op d e = some b ∧ Q (.bl b) H
theorem not_map {o : Option Bool} {b : Bool} (h : o.map (!·) = some b) : ∃ b', o = some b' ∧ b = !b' := by
  cases o with
  | none => cases h
  | some x => cases h; exact ⟨x, rfl, rfl⟩
theorem plains_pd {c : Cl} {H : Hp} {vs : List V} {ds : List D} (r : Reps c H vs ds) (p : plains ds = true) (x : D) : (pds ds).any (fun z => PyData.eqv z (pd x)) = ds.any (fun y => eqB y x) := by
  rw [pds_map, List.any_map]
  congr 1
  funext y
  exact eqv_pd y x
section
variable {X : Cx} {c : Cl} {pins : List (Addr × Obj)} {σ : L2.St} {H B : Hp} {s : Shared} {x y : V} {v u : Value} {Q : VK}
theorem cmp_in (hK : X.K = c.K) (hu : X.A.units + 80 < cLine) (I : Inv X pins σ H s) (rx : RelV x v) (ry : RelV y u) (sm : Same B H) {d e : D} {b : Bool} (hx : Snap c B H x d) (hy : Snap c B H y e) (h : inD d e = some b) :
    (∀ q : VK, q (.bl b) H → wpAny (model X.prog X.w) X.A (compareOp .In v u) (EP X pins σ q) X.xe s) ∧ ∀ q : VK, q (.bl (!b)) H → wpAny (model X.prog X.w) X.A (compareOp .NotIn v u) (EP X pins σ q) X.xe s := by
  have fx := hx.full sm
  have fy := hy.full sm
  cases e with
  | tup ys =>
    simp only [inD] at h
    split at h
    · rename_i hc
      simp only [Bool.and_eq_true, decide_eq_true_eq] at hc
      cases h
      obtain ⟨as, r1⟩ := Dp.reads I (pd d) x v (hK ▸ fx.dp hc.1.1.1) rx
      obtain ⟨bs, r2⟩ := Dp.reads I (pd (.tup ys)) y u (hK ▸ fy.dp (by simpa [plain] using hc.1.1.2)) ry
      have sd := shaped_of fx hc.1.1.1 hc.1.2
      cases fy with
      | tup hs hi r =>
        have lay := r.lay hc.1.1.2
        have en := plains_pd r hc.1.1.2 d
        exact ⟨fun q hq => SeqAt.in_tuple_reads r2 r1 lay (SeqAt.canLay_of_shaped sd) (PyProof.Rows.room_in_shaped sd (by omega)) ⟨.bl _, H, I, rfl, by rw [en]; exact hq⟩,
          fun q hq => SeqAt.notIn_tuple_reads r2 r1 lay (SeqAt.canLay_of_shaped sd) (PyProof.Rows.room_in_shaped sd (by omega)) ⟨.bl _, H, I, rfl, by rw [en]; exact hq⟩⟩
    · cases h
  | lst ys =>
    simp only [inD] at h
    split at h
    · rename_i hc
      simp only [Bool.and_eq_true, decide_eq_true_eq] at hc
      cases h
      obtain ⟨as, r1⟩ := Dp.reads I (pd d) x v (hK ▸ fx.dp hc.1.1.1) rx
      obtain ⟨bs, r2⟩ := Dp.reads I (pd (.lst ys)) y u (hK ▸ fy.dp (by simpa [plain] using hc.1.1.2)) ry
      have sd := shaped_of fx hc.1.1.1 hc.1.2
      cases fy with
      | lst hs r =>
        have lay := r.lay hc.1.1.2
        have en := plains_pd r hc.1.1.2 d
        exact ⟨fun q hq => SeqAt.in_list_reads r2 r1 lay (SeqAt.canLay_of_shaped sd) (PyProof.Rows.room_in_shaped sd (by omega)) ⟨.bl _, H, I, rfl, by rw [en]; exact hq⟩,
          fun q hq => SeqAt.notIn_list_reads r2 r1 lay (SeqAt.canLay_of_shaped sd) (PyProof.Rows.room_in_shaped sd (by omega)) ⟨.bl _, H, I, rfl, by rw [en]; exact hq⟩⟩
    · cases h
  | str z =>
    obtain ⟨rfl, _⟩ := hy.str
    cases d <;> simp only [inD, reduceCtorEq] at h
    rename_i w
    obtain ⟨rfl, _⟩ := hx.str
    split at h
    · rename_i hl
      cases h
      have : w = ⟨#[w.cps.getD 0 0]⟩ := by
        obtain ⟨cp⟩ := w
        have hl : cp.size = 1 := hl
        have : cp = #[cp.getD 0 0] := by
          apply Array.ext (by simpa using hl)
          intro i h1 h2
          have : i = 0 := by omega
          subst this
          simp [Array.getD, h1]
        exact congrArg Str.mk this
      exact ⟨fun q hq => op_in_sign pins s σ H _ _ v u q I rx ry ⟨w.cps.getD 0 0, z, congrArg V.str this, rfl, hq⟩,
        fun q hq => op_notIn_sign pins s σ H _ _ v u q I rx ry ⟨w.cps.getD 0 0, z, congrArg V.str this, rfl, hq⟩⟩
    · cases h
  | dict ks vs =>
    simp only [inD] at h
    split at h
    · rename_i hk
      cases h
      obtain ⟨a, rfl, hd⟩ := hy.dict sm
      cases (show u = Value.ref a from ry)
      rcases hd with ⟨rfl, kvs, e1, rfl, _, r⟩ | ⟨rfl, kvs, e1, rfl, _, r⟩
      · obtain ⟨k, rfl, rfl, _⟩ := hx.keyF sm hk
        have en := find_k k kvs _ (by have := r.length; simpa using this)
        rw [en]
        exact ⟨fun q hq => d_in (by omega) I (.k e1) rx fun s3 I3 => ⟨.bl _, H, I3, rfl, hq⟩, fun q hq => d_notIn (by omega) I (.k e1) rx fun s3 I3 => ⟨.bl _, H, I3, rfl, hq⟩⟩
      · obtain ⟨b, kk, rfl, hb, rfl, _⟩ := hx.keyT sm hk
        have en := find_t kk kvs _ (by have := r.length; simpa using this)
        rw [en]
        exact ⟨fun q hq => d_in (by omega) I (.t e1 hb) rx fun s3 I3 => ⟨.bl _, H, I3, rfl, hq⟩, fun q hq => d_notIn (by omega) I (.t e1 hb) rx fun s3 I3 => ⟨.bl _, H, I3, rfl, hq⟩⟩
    · cases h
  | _ => simp [inD] at h
end

theorem op_cmp {X : Cx} {c : Cl} (hK : X.K = c.K) (hu : X.A.units + 80 < cLine) : ∀ op : CO, OpR X (compareOp (coOf op)) (rCmp c op) := by
  intro op pins s σ H x y v u Q I rx ry h
  obtain ⟨B, d, e, b, sm, hx, hy, hb, q⟩ := h
  have eqs : ∀ b', eqO d e = some b' → plain d = true ∧ plain e = true ∧ dep d ≤ 60 ∧ dep e ≤ 60 ∧ b' = eqB d e := fun b' h => by
    unfold eqO at h
    split at h
    · rename_i hc
      simp only [Bool.and_eq_true, decide_eq_true_eq] at hc
      cases h
      exact ⟨hc.1.1.1, hc.1.1.2, hc.1.2, hc.2, rfl⟩
    · cases h
  have fx := hx.full sm
  have fy := hy.full sm
  cases op with
  | eq =>
    obtain ⟨p1, p2, p3, p4, rfl⟩ := eqs b hb
    exact op_eqD (by omega) pins s σ H x y v u Q I rx ry ⟨pd d, pd e, hK ▸ fx.dp p1, hK ▸ fy.dp p2, shaped_of fx p1 p3, shaped_of fy p2 p4, by rw [eqv_pd]; exact q⟩
  | ne =>
    obtain ⟨b', hb', rfl⟩ := not_map hb
    obtain ⟨p1, p2, p3, p4, rfl⟩ := eqs b' hb'
    exact op_neD (by omega) pins s σ H x y v u Q I rx ry ⟨pd d, pd e, hK ▸ fx.dp p1, hK ▸ fy.dp p2, shaped_of fx p1 p3, shaped_of fy p2 p4, by rw [eqv_pd]; exact q⟩
  | in_ => exact (cmp_in hK hu I rx ry sm hx hy hb).1 Q q
  | nin =>
    obtain ⟨b', hb', rfl⟩ := not_map hb
    exact (cmp_in hK hu I rx ry sm hx hy hb').2 Q q
  | lt =>
    cases d <;> cases e <;> simp only [cmpD, cmpI, Option.some.injEq, reduceCtorEq] at hb
    subst hb
    obtain rfl := hx.int
    obtain rfl := hy.int
    exact op_lt pins s σ H _ _ v u Q I rx ry ⟨_, _, rfl, rfl, q⟩
  | le =>
    cases d <;> cases e <;> simp only [cmpD, cmpI, Option.some.injEq, reduceCtorEq] at hb
    subst hb
    obtain rfl := hx.int
    obtain rfl := hy.int
    exact op_le pins s σ H _ _ v u Q I rx ry ⟨_, _, rfl, rfl, q⟩
  | gt =>
    cases d <;> cases e <;> simp only [cmpD, cmpI, Option.some.injEq, reduceCtorEq] at hb
    subst hb
    obtain rfl := hx.int
    obtain rfl := hy.int
    exact op_gt pins s σ H _ _ v u Q I rx ry ⟨_, _, rfl, rfl, q⟩
  | ge =>
    cases d <;> cases e <;> simp only [cmpD, cmpI, Option.some.injEq, reduceCtorEq] at hb
    subst hb
    obtain rfl := hx.int
    obtain rfl := hy.int
    exact op_ge pins s σ H _ _ v u Q I rx ry ⟨_, _, rfl, rfl, q⟩
  | is_ =>
    cases e <;> (try (cases d <;> simp only [cmpD, cmpI, reduceCtorEq] at hb; done))
    obtain rfl := hy.non
    refine op_isN pins s σ H _ _ v u Q I rx ry ⟨rfl, ?_⟩
    have : decide (x = V.non) = b := by
      cases d <;> simp only [cmpD, Option.some.injEq] at hb <;> subst hb <;> cases fx <;> simp
    rw [this]; exact q
  | isnot =>
    cases e <;> (try (cases d <;> simp only [cmpD, cmpI, reduceCtorEq] at hb; done))
    obtain rfl := hy.non
    refine op_notN pins s σ H _ _ v u Q I rx ry ⟨rfl, ?_⟩
    have : (!decide (x = V.non)) = b := by
      cases d <;> simp only [cmpD, Option.some.injEq] at hb <;> subst hb <;> cases fx <;> simp
    rw [this]; exact q
end Cy

set_option Elab.async false
set_option linter.all false
set_option maxRecDepth 100000
set_option maxHeartbeats 2000000
/-! CyOps2: subscripts, slices, built-in functions, isinstance, methods of texts and lists, by values. -/
namespace Cy
open PySem L2
open PySem.PyData (strOk)

/-! ### subscripts -/
def rIxD : R2 := fun x y H Q => ∃ a v, x = .ref a ∧ DGet H a y (some v) ∧ Q v H
theorem ix_dict {X : Cx} (hu : X.A.units + 1 < cLine) : IxR X rIxD := by
  intro value slice pins s σ H x y v u Q I rx ry h hs
  obtain ⟨a, z, rfl, g, q⟩ := h
  cases rx
  exact PyProof.Rows.tail_any (dict_typeIs I g) PySem.F.slot_dict_getitem.lookup (d_getItem hu I g ry fun w' s' I' r' => ⟨z, H, I', r', q⟩) hs
def rIxW (K : PySem.W.Frag) : R2 := fun x y H Q => rIxL K x y H Q ∨ rIxT K x y H Q ∨ rIxD x y H Q
theorem ix_any {X : Cx} (hu : X.A.units + 1 < cLine) : IxR X (rIxW X.K) := ix_list.or (ix_tup.or (ix_dict hu))
theorem find_val {c : Cl} {B : Hp} {ta : List Addr} (k : Key) : ∀ {kvs : List (Key × V)} {ws : List W} {w : W}, Wrs c B ta (kvs.map (·.2)) ws → findK (kvs.map fun p => kD p.1) ws (kD k) = some w → ∃ v, valV kvs k = some v ∧ Wr c B ta v w
  | [], [], _, _, e => by cases e
  | p :: kvs, w0 :: ws, w, ⟨h, r⟩, e => by
    simp only [List.map_cons, findK, keyB_k] at e
    by_cases q : p.1 = k
    · rw [decide_eq_true q] at e
      simp only [if_true, Option.some.injEq] at e
      subst e
      exact ⟨p.2, valV_pos q, h⟩
    · rw [decide_eq_false q] at e
      simp only [Bool.false_eq_true, if_false] at e
      rw [valV_neg q]
      exact find_val k r e
theorem find_valT {c : Cl} {B : Hp} {ta : List Addr} (k : List Key) : ∀ {kvs : List (List Key × V)} {ws : List W} {w : W}, Wrs c B ta (kvs.map (·.2)) ws → findK (kvs.map fun p => D.tup (p.1.map kD)) ws (.tup (k.map kD)) = some w → ∃ v, valV kvs k = some v ∧ Wr c B ta v w
  | [], [], _, _, e => by cases e
  | p :: kvs, w0 :: ws, w, ⟨h, r⟩, e => by
    simp only [List.map_cons, findK, keyB_t] at e
    by_cases q : p.1 = k
    · rw [decide_eq_true q] at e
      simp only [if_true, Option.some.injEq] at e
      subst e
      exact ⟨p.2, valV_pos q, h⟩
    · rw [decide_eq_false q] at e
      simp only [Bool.false_eq_true, if_false] at e
      rw [valV_neg q]
      exact find_valT k r e
theorem findK_map (ks : List D) : ∀ (vs : List D) (x : D), findK ks (vs.map W.v) x = (findK ks vs x).map W.v := by
  induction ks with
  | nil => intro vs x; cases vs <;> rfl
  | cons k ks ih =>
    intro vs x
    cases vs with
    | nil => rfl
    | cons v vs =>
      simp only [List.map_cons, findK]
      split
      · rfl
      · exact ih vs x
/-- what stands there is read -/
theorem ix_ok {c : Cl} {K : PySem.W.Frag} (hK : K = c.K) {H : Hp} {ta : List Addr} {m : Store} {x y : V} {w w' : W} {k : D} {Q : VK} (t : Toks c H ta m) (hx : Wr c (view H ta m) ta x w) (hy : Snap c (view H ta m) H y k) (h : ixW m w k = some w')
    (q : ∀ v, Wr c (view H ta m) ta v w' → Q v H) : rIxW K x y H Q := by
  have sm := view_sub H ta m
  cases w with
  | v d =>
    simp only [ixW] at h
    cases e : ixD d k with
    | none => rw [e] at h; cases h
    | some g =>
      rw [e] at h
      cases h
      cases d <;> simp only [ixD, reduceCtorEq] at e
      · rename_i ds
        cases k <;> simp only [reduceCtorEq] at e
        rename_i i
        obtain rfl := hy.int
        cases hx with
        | tup hs hi r =>
          obtain ⟨j, e1, e2⟩ := Option.bind_eq_some_iff.mp e
          obtain ⟨v, e3, e4⟩ := r.get e2
          refine .inr (.inl ⟨_, _, _, _, rfl, rfl, hK ▸ seq_mono sm hs, ?_, q v e4⟩)
          unfold atI
          rw [r.length, e1]
          exact e3
      · rename_i ds
        cases k <;> simp only [reduceCtorEq] at e
        rename_i i
        obtain rfl := hy.int
        cases hx with
        | lst hs r =>
          obtain ⟨j, e1, e2⟩ := Option.bind_eq_some_iff.mp e
          obtain ⟨v, e3, e4⟩ := r.get e2
          refine .inl ⟨_, _, _, _, rfl, rfl, .inl (rd_mono sm hs), ?_, q v e4⟩
          unfold atI
          rw [r.length, e1]
          exact e3
      · rename_i tb ks vs
        split at e
        · rename_i hk
          obtain ⟨a, rfl, hd⟩ := (Snap.val (H := H) hx).dict sm
          have e' : findK ks (vs.map W.v) k = some (.v g) := by rw [findK_map, e]; rfl
          rcases hd with ⟨rfl, kvs, e1, rfl, _, r⟩ | ⟨rfl, kvs, e1, rfl, _, r⟩
          · obtain ⟨kk, rfl, rfl, _⟩ := hy.keyF sm hk
            obtain ⟨v, e3, e4⟩ := find_val kk (Wrs.of (ta := ta) r) e'
            exact .inr (.inr ⟨a, v, rfl, by rw [← e3]; exact .k e1, q v e4⟩)
          · obtain ⟨b, kk, rfl, hb, rfl, _⟩ := hy.keyT sm hk
            obtain ⟨v, e3, e4⟩ := find_valT kk (Wrs.of (ta := ta) r) e'
            exact .inr (.inr ⟨a, v, rfl, by rw [← e3]; exact .t e1 hb, q v e4⟩)
        · cases e
  | t n =>
    obtain ⟨a, h1, rfl⟩ := hx
    simp only [ixW] at h
    cases e : m[n]? with
    | none => rw [e] at h; cases h
    | some o =>
      rw [e] at h
      have z := t.ok n o a e h1
      cases o with
      | lst ws =>
        obtain ⟨xs, h2, h3⟩ := z
        cases k <;> simp only [reduceCtorEq] at h
        rename_i i
        obtain rfl := hy.int
        obtain ⟨j, e1, e2⟩ := Option.bind_eq_some_iff.mp h
        obtain ⟨v, e3, e4⟩ := h3.get e2
        refine .inl ⟨_, _, _, _, rfl, rfl, .inl (.inl h2), ?_, q v e4⟩
        unfold atI
        rw [h3.length, e1]
        exact e3
      | dict tb ks ws =>
        simp only at h
        split at h
        · rename_i hk
          rcases z with ⟨rfl, kvs, e1, rfl, _, r⟩ | ⟨rfl, kvs, e1, rfl, _, r⟩
          · obtain ⟨kk, rfl, rfl, _⟩ := hy.keyF sm hk
            obtain ⟨v, e3, e4⟩ := find_val kk r h
            exact .inr (.inr ⟨a, v, rfl, by rw [← e3]; exact .k e1, q v e4⟩)
          · obtain ⟨b, kk, rfl, hb, rfl, _⟩ := hy.keyT sm hk
            obtain ⟨v, e3, e4⟩ := find_valT kk r h
            exact .inr (.inr ⟨a, v, rfl, by rw [← e3]; exact .t e1 hb, q v e4⟩)
        · cases h
      | obj _ _ => cases h
      | dead => cases h

/-! ### slices -/
theorem Reps.cut {c : Cl} {B : Hp} {vs : List V} {ds : List D} (r : Reps c B vs ds) (lo hi : Option Int) : Reps c B (cutV vs lo hi) (cutL ds lo hi) := by
  unfold cutV cutL
  rw [r.length]
  exact (r.drop _).take _
theorem cut_all {α : Type} {xs : List α} {lo hi : Option Int} (h1 : HT.sIx xs.length 0 lo = 0) (h2 : HT.sIx xs.length xs.length hi = xs.length) : cutL xs lo hi = xs := by
  unfold cutL
  rw [h1, h2, List.drop_zero, Nat.sub_zero, List.take_length]
def rSlW (K : PySem.W.Frag) : V → Option Int → Option Int → Hp → VK → Prop := fun x lo hi H Q => rSlL K x lo hi H Q ∨ rSlA K x lo hi H Q
theorem sl_any {X : Cx} : SlR X (rSlW X.K) := sl_list.or sl_tupA
theorem sl_ok {c : Cl} {K : PySem.W.Frag} (hK : K = c.K) {B H : Hp} {x : V} {d g : D} {lo hi : Option Int} {Q : VK} (sm : Same B H) (hx : Snap c B H x d) (h : slD d lo hi = some g) (q : New c B H Q g) : rSlW K x lo hi H Q := by
  cases d <;> simp only [slD, Option.some.injEq, reduceCtorEq] at h
  · subst h
    obtain ⟨a, xs, rfl, h1, i1, r⟩ := hx.tup
    refine .inr ⟨a, xs, rfl, hK ▸ seq_mono sm h1, fun ⟨e1, e2⟩ => ?_, fun _ p hp => ?_⟩
    · rw [r.length] at e1 e2
      refine q.1 _ ?_
      rw [cut_all e1 e2]
      exact .tup h1 i1 r
    · exact q.2 p _ hp fun B' e1 e2 => .tup (.inl (.inl e2)) (fun _ => e2) ((Reps.mono e1 r).cut lo hi)
  · subst h
    obtain ⟨a, xs, rfl, h1, r⟩ := hx.list sm
    exact .inl ⟨a, xs, rfl, .inl h1, fun p hp => q.2 p _ hp fun B' e1 e2 => .lst (.inl e2) ((Reps.mono e1 r).cut lo hi)⟩

/-! ### built-in functions of values -/
theorem bools_of {c : Cl} {B : Hp} : ∀ {vs : List V} {ds : List D} {bs : List Bool}, Reps c B vs ds → boolsOf ds = some bs → vs = bs.map V.bl
  | _, _, _, .nil, e => by cases e; rfl
  | _, _, _, .cons h r, e => by
    cases h <;> simp only [boolsOf, reduceCtorEq] at e
    obtain ⟨b, e1, rfl⟩ := Option.map_eq_some_iff.mp e
    rw [List.map_cons, ← bools_of r e1]
theorem strs_of {c : Cl} {B : Hp} : ∀ {vs : List V} {ds : List D} {bs : List Str}, Reps c B vs ds → strsOf ds = some bs → vs = bs.map V.str ∧ ∀ x ∈ bs, strOk x = true
  | _, _, _, .nil, e => by cases e; exact ⟨rfl, by simp⟩
  | _, _, _, .cons h r, e => by
    cases h <;> simp only [strsOf, reduceCtorEq] at e
    obtain ⟨b, e1, rfl⟩ := Option.map_eq_some_iff.mp e
    obtain ⟨e2, e3⟩ := strs_of r e1
    refine ⟨by rw [List.map_cons, ← e2], fun x hx => ?_⟩
    rcases List.mem_cons.mp hx with rfl | hx
    · assumption
    · exact e3 x hx
/-- len of a tuple, a list, a text, a dict -/
def rLen (K : PySem.W.Frag) : List V → Hp → VK → Prop := fun xs H Q => ∃ n : Nat, Q (.int n) H ∧ ((∃ p ys, xs = [.ref p] ∧ (SqL K H p ys ∨ SqT K H p ys) ∧ ys.length = n) ∨ (∃ z : Str, xs = [.str z] ∧ z.length ≤ sizeLine ∧ z.length = n) ∨ (∃ a, ∃ kvs : List (Key × V), xs = [.ref a] ∧ H a = some (.dK kvs) ∧ kvs.length = n) ∨ (∃ a, ∃ kvs : List (List Key × V), xs = [.ref a] ∧ H a = some (.dT kvs) ∧ kvs.length = n))
theorem cr_len {X : Cx} : CallR X (.builtin "len") (rLen X.K) := by
  intro pins s σ H xs us Q I r h
  obtain ⟨n, q, h | h | h | h⟩ := h
  · obtain ⟨p, ys, e, hs, rfl⟩ := h
    exact call_len_seq pins s σ H xs us Q I r ⟨p, ys, e, hs, q⟩
  · obtain ⟨z, e, hz, rfl⟩ := h
    exact call_len_str pins s σ H xs us Q I r ⟨z, e, hz, q⟩
  · obtain ⟨a, kvs, e, hk, rfl⟩ := h
    exact call_lenD pins s σ H xs us Q I r ⟨a, kvs, e, hk, q⟩
  · obtain ⟨a, kvs, e, hk, rfl⟩ := h
    exact call_len_dT pins s σ H xs us Q I r ⟨a, kvs, e, hk, q⟩
end Cy

set_option Elab.async false
set_option linter.all false
set_option maxRecDepth 100000
set_option maxHeartbeats 2000000
/-! CySound: what a text must be for the evaluator to tell what it does: chk; the facts; expressions. -/
namespace Cy
open PySem L2
open PySem.PyData (strOk)

/-- what is known of the text's names -/
structure Lk where
  fns : List (Nat × Str)
  clss : List (Nat × Str)
  flds : List (Nat × List Str)
  meths : List (Nat × Nat × Str)
  props : List (Nat × Nat × Str)
  globs : List (Nat × Str)
  lens : List (Nat × Nat)
  eqs : List (Nat × Nat)
  errs : List (Nat × Str × Str)
  ebase : List (Nat × Str)
  file : Str
  kfns : List (Nat × Str × Nat) := []
/-- the one keyword-only parameter -/
def KW : Str := "events"
/-- a def of n parameters and that one -/
def KBind (K : PySem.W.Frag) (fd : FuncData) (ps : List Str) (n : Nat) : Prop := ps.length = n + 1 ∧ KBn K fd ps n [KW] (fun us ws => us ++ ws) (fun vs zs => vs ++ zs) ∧ Binds K fd ps [.none]

/-- a def's promise: the evaluator's meaning -/
def spF (y : Sy) (F : FnT) (np : Nat) : Sp := fun vs H Q EW => vs.length = np ∧ ∃ ws m ta, Toks y.c H ta m ∧ Wrs y.c (view H ta m) ta vs ws ∧
  Run y.c y.fe EW (view H ta m) ta (F ws m) fun w m' H' ta' => ∀ v, Wr y.c (view H' ta' m') ta' v w → Q v H'

def tyVal (c : Cl) : Ty → Value
  | .non => .type "NoneType"
  | .int => .type "int"
  | .bool => .type "bool"
  | .str => .type "str"
  | .tuple => .type "tuple"
  | .list => .type "list"
  | .dict => .type "dict"
  | .cls n => .ref (c.ca n)
def okTy (L : Lk) : Ty → Bool
  | .cls n => (L.clss.map (·.1)).contains n
  | _ => true

def bltNames : List Str := ["len", "all", "any", "int", "max", "min", "sorted", "tuple", "list", "set", "isinstance", "range", "enumerate", "zip", "str", "bool", "dict"]
/-- what is known of an own exception, the Frag alone -/
structure ErrF (P : Program) (K : PySem.W.Frag) (a : Addr) (fl : Str) : Prop where
  cls : OexC K a
  ini : ∃ f fd, PySem.W.findIn K (.ref a) "__init__" = some (some (.ref f)) ∧ PySem.W.typeIn K (.ref f) = some (.type "function") ∧ Binds K fd ["self", fl] [] ∧ IniK P K a f fd fl
  xf : XfC K a
  nof : PySem.W.findIn K (.ref a) fl = some none
  isC : (PySem.W.clsIn K a).isSome = true
  cl : PySem.W.findIn K (.ref a) "__class__" = some (some (.builtin "object.__class__"))
  ob : PySem.W.mroIn K a (.type "object") = some true
/-- .. and the text -/
structure ErrK (y : Sy) (X : Cx) (c : Nat) (n fl : Str) : Prop where
  fe : y.fe c = fl
  mg : X.mg n = some (.ref (y.c.ca c))
  f : ErrF X.prog X.K (y.c.ca c) fl
/-- the facts of the text behind its top -/
structure Lnk (L : Lk) (y : Sy) (X : Cx) (lv : Nat) : Prop where
  hK : X.K = y.c.K
  hcs : L.clss.map (·.1) = y.c.cs
  fn : ∀ f x, (f, x) ∈ L.fns → ∃ a fd ps, X.mg x = some (.ref a) ∧ PySem.W.keepIn X.K (.ref a) = true ∧ Binds X.K fd ps [] ∧ FnOk X.prog X.w X.K X.mg X.base (L2.CX X.prog X.w) lv a fd ps (spF y (y.F.fn f) ps.length) ∧ ∀ ws m, ws.length ≠ ps.length → y.F.fn f ws m = .bad
  kfn : ∀ f x n, (f, x, n) ∈ L.kfns → ∃ a fd ps, KBind X.K fd ps n ∧ X.mg x = some (.ref a) ∧ PySem.W.keepIn X.K (.ref a) = true ∧ FnOk X.prog X.w X.K X.mg X.base (L2.CX X.prog X.w) lv a fd ps (spF y (y.F.fn f) ps.length) ∧ ∀ ws m, ws.length ≠ ps.length → y.F.fn f ws m = .bad
  cls : ∀ c x, (c, x) ∈ L.clss → X.mg x = some (.ref (y.c.ca c)) ∧ PySem.W.findIn X.K (.ref (y.c.ca c)) "__class__" = some (some (.builtin "object.__class__")) ∧ PySem.W.mroIn X.K (y.c.ca c) (.type "object") = some true ∧ Cls X.K (y.c.ca c)
  gcls : PySem.W.specialIn X.K (.builtin "object.__class__") "__get__" = some (some (.builtin "getset_descriptor.__get__")) ∧ PySem.W.takesIn X.K (.builtin "object.__class__") = some true
  fld : ∀ c fs, (c, fs) ∈ L.flds → y.c.fl c = fs ∧ Cls X.K (y.c.ca c) ∧ fs.Nodup ∧ fs.length ≤ 100 ∧ ∀ f ∈ fs, NoAttr X.K (y.c.ca c) f
  meth : ∀ c f x, (c, f, x) ∈ L.meths → Cls X.K (y.c.ca c) ∧ x ∉ y.c.fl c ∧ ∃ a fd ps, Meth X.K (y.c.ca c) x a ∧ Binds X.K fd ps [] ∧ FnOk X.prog X.w X.K X.mg X.base (L2.CX X.prog X.w) lv a fd ps (spF y (y.F.fn f) ps.length) ∧ ∀ ws m, ws.length ≠ ps.length → y.F.fn f ws m = .bad
  init : ∀ c f, (c, f, ("__init__" : Str)) ∈ L.meths → ∃ a fd ps, Mk X.K (y.c.ca c) a ∧ Binds X.K fd ps [] ∧ FnOk X.prog X.w X.K X.mg X.base (L2.CX X.prog X.w) lv a fd ps (spF y (y.F.fn f) ps.length) ∧ ∀ ws m, ws.length ≠ ps.length → y.F.fn f ws m = .bad
  prop : ∀ c f x, (c, f, x) ∈ L.props → Cls X.K (y.c.ca c) ∧ ∃ a p fd ps, PropOf X.K (y.c.ca c) x p a ∧ Binds X.K fd ps [] ∧ FnOk X.prog X.w X.K X.mg X.base (L2.CX X.prog X.w) lv a fd ps (spF y (y.F.fn f) ps.length) ∧ ∀ ws m, ws.length ≠ ps.length → y.F.fn f ws m = .bad
  lens : ∀ c f, (c, f) ∈ L.lens → ∃ a fd ps, PySem.W.findIn X.K (.ref (y.c.ca c)) "__len__" = some (some (.ref a)) ∧ PySem.W.isFn X.K (.ref a) = true ∧ Binds X.K fd ps [] ∧ FnOk X.prog X.w X.K X.mg X.base (L2.CX X.prog X.w) lv a fd ps (spF y (y.F.fn f) ps.length) ∧ ∀ ws m, ws.length ≠ ps.length → y.F.fn f ws m = .bad
  eqs : ∀ c f, (c, f) ∈ L.eqs → PySem.W.subIn X.K (.type "tuple") (.ref (y.c.ca c)) = some false ∧ ∃ a fd ps, PySem.W.findIn X.K (.ref (y.c.ca c)) "__eq__" = some (some (.ref a)) ∧ PySem.W.isFn X.K (.ref a) = true ∧ Binds X.K fd ps [] ∧ FnOk X.prog X.w X.K X.mg X.base (L2.CX X.prog X.w) lv a fd ps (spF y (y.F.fn f) ps.length) ∧ ∀ ws m, ws.length ≠ ps.length → y.F.fn f ws m = .bad
  err : ∀ c n fl, (c, n, fl) ∈ L.errs → ErrK y X c n fl
  hier : ∀ c n fl d z fm, (c, n, fl) ∈ L.errs → (d, z, fm) ∈ L.errs → PySem.W.exmOne X.K (.ref (y.c.ca c)) (.ref (y.c.ca d)) = some (c == d)
  ebase : ∀ b n, (b, n) ∈ L.ebase → X.mg n = some (.ref (y.c.ca b)) ∧ ∀ c n fl, (c, n, fl) ∈ L.errs → PySem.W.kitOne X.K (.ref (y.c.ca c)) (.ref (y.c.ca b)) = some true
  glob : ∀ g x, (g, x) ∈ L.globs → ∃ v u, X.mg x = some u ∧ RelV v u ∧ ∀ B, Rep y.c B v (y.F.glob g)
  bt : ∀ x ∈ bltNames, X.mg x = none
  kit : ∀ t u, okTy L t = true → okTy L u = true → PySem.W.kitOne X.K (tyVal y.c t) (tyVal y.c u) = some (isTy t u)
/-- the context of a body, or of a comprehension's block -/
structure XOk (L : Lk) (y : Sy) (N : List Str) (lv : Nat) (sc : Scope) (X : Cx) (EW : XK) : Prop where
  hN : X.N = N
  nd : N.Nodup
  sc : X.env.scope = sc
  calm : X.calm = true
  room : Room (lv + 1) X.A
  pass : Passes (L2.CX X.prog X.w) X EW
  lnk : Lnk L y X lv
section
variable {L : Lk} {y : Sy} {N : List Str} {lv : Nat} {sc : Scope} {X : Cx} {EW : XK}
theorem XOk.room0 (o : XOk L y N lv sc X EW) : Room lv X.A := o.room.mono (Nat.le_succ _)
theorem XOk.units (o : XOk L y N lv sc X EW) : X.A.units + 80 < cLine := by have := o.room.un; omega

/-! ### chk: does this E stand for that text? -/
def visB (sc : Scope) (x : Str) : Bool := match sc.names.lookup x with
  | some .local => true
  | some .cell => true
  | some .free => true
  | _ => false
def glB (sc : Scope) (x : Str) : Bool := match sc.names.lookup x with
  | some .globalImplicit => true
  | _ => false
theorem vis_of {sc : Scope} {x : Str} (h : visB sc x = true) : Vis sc x := by
  unfold visB at h
  unfold Vis
  split at h <;> simp_all
theorem gl_of (o : XOk L y N lv sc X EW) {x : Str} (h : glB sc x = true) : Gl X x := by
  unfold glB at h
  unfold Gl Env.kindOf
  rw [o.sc]
  split at h <;> simp_all
def constB : D → Const → Bool
  | .non, .none => true
  | .bl b, .bool c => b == c
  | .int i, .int j => i == j
  | .str x, .str z => x == z && strOk x
  | _, _ => false
def nstar : Expr → Bool
  | .Starred _ _ => false
  | _ => true
theorem star_cons {e : Expr} {es : List Expr} {env : PySem.Env} (h : nstar e = true) : starEach (e :: es) env = (false, eval e env) :: starEach es env := by
  cases e <;> first | rfl | (simp [nstar] at h)
def boB : BO → Operator → Bool
  | .add, .Add => true | .sub, .Sub => true | .mul, .Mult => true | .fdiv, .FloorDiv => true | .mod, .Mod => true | .pow, .Pow => true
  | _, _ => false
theorem bo_of {o : BO} {p : Operator} (h : boB o p = true) : p = opOf o := by cases o <;> cases p <;> first | rfl | (simp [boB] at h)
def coB : CO → CmpOp → Bool
  | .eq, .Eq => true | .ne, .NotEq => true | .lt, .Lt => true | .le, .LtE => true | .gt, .Gt => true | .ge, .GtE => true | .in_, .In => true | .nin, .NotIn => true | .is_, .Is => true | .isnot, .IsNot => true
  | _, _ => false
theorem co_of {o : CO} {p : CmpOp} (h : coB o p = true) : p = coOf o := by cases o <;> cases p <;> first | rfl | (simp [coB] at h)
def plainIxB : Expr → Bool
  | .Slice _ _ _ _ => false
  | _ => true
theorem plainIx_of {e : Expr} (h : plainIxB e = true) : PlainIx e := by
  cases e <;> first | (intro _ _; rfl) | (simp [plainIxB] at h)

/-! ### one lemma for each kind of expression -/
variable {x l r : Expr} {a b c : E} {pos : Pos}
theorem s_const {d : D} {k : Const} {n : Nat} (h : constB d k = true) : PE X (.Constant k n pos) (tE y EW (.c d)) := by
  have fin : ∀ {v : V}, (∀ B, Rep y.c B v d) → ∀ σ H Q, tE y EW (.c d) σ H Q → tC v σ H Q := fun {v} hv σ H Q ⟨env, m, ta, s, r⟩ => r.here s.toks v (hv _)
  cases d <;> cases k <;> simp [constB] at h
  · exact pe_non.imp (fin fun _ => .non)
  · subst h; exact pe_bl.imp (fin fun _ => .bl _)
  · subst h; exact pe_int.imp (fin fun _ => .int _)
  · obtain ⟨rfl, h2⟩ := h; exact pe_str.imp (fin fun _ => .str h2)
theorem s_var {i : Nat} {n : Str} (o : XOk L y N lv sc X EW) (h1 : N[i]? = some n) (h2 : visB sc n = true) (h3 : (n == ("__debug__" : Str)) = false) (h4 : (n == ("__classdict__" : Str)) = false) : PE X (.Name n pos) (tE y EW (.var i)) := by
  refine (pe_var (i := i) (by rw [o.hN]; exact h1) (by rw [o.sc]; exact vis_of h2) h3 h4).imp fun σ H Q ⟨env, m, ta, s, r⟩ => ?_
  simp only [ev] at r
  cases e : getS i env with
  | none => rw [e] at r; exact r.elim
  | some w =>
    rw [e] at r
    obtain ⟨v, h1, h2⟩ := s.env i w e
    exact ⟨v, h1, r.here s.toks v h2⟩
theorem s_glob {g : Nat} {n : Str} (o : XOk L y N lv sc X EW) (h1 : (g, n) ∈ L.globs) (h2 : glB sc n = true) (h3 : (n == ("__debug__" : Str)) = false) : PE X (.Name n pos) (tE y EW (.glob g)) := by
  obtain ⟨v, u, e1, e2, e3⟩ := o.lnk.glob g n h1
  exact (pe_glob (gl_of o h2) e1 e2 h3).imp fun σ H Q ⟨env, m, ta, s, r⟩ => r.here s.toks v (e3 _)
theorem s_neg (ha : PE X x (tE y EW a)) : PE X (.UnaryOp .USub x pos) (tE y EW (.neg a)) := by
  refine (pe_un un_neg ha).imp fun σ H Q ⟨env, m, ta, s, r⟩ => ⟨env, m, ta, s, ?_⟩
  simp only [ev] at r
  refine r.bind.mono fun w m1 H1 ta1 p r1 v hv => ?_
  cases w with
  | t n => exact r1.elim
  | v d =>
    cases d <;> first | exact r1.elim | skip
    obtain rfl := rep_int hv
    exact ⟨_, rfl, r1.here p.toks _ (.int _)⟩
theorem s_not (ha : PT X x (tT y EW a)) (hv : PE X x (tE y EW a)) : PE X (.UnaryOp .Not x pos) (tE y EW (.not_ a)) ∧ PT X (.UnaryOp .Not x pos) (tT y EW (.not_ a)) := by
  constructor
  · refine (pe_not hv).imp fun σ H Q ⟨env, m, ta, s, r⟩ => ⟨env, m, ta, s, ?_⟩
    simp only [ev] at r
    refine r.bind.mono fun w m1 H1 ta1 p r1 v hv => ?_
    cases w with
    | t n => exact r1.elim
    | v d =>
      cases d <;> first | exact r1.elim | skip
      obtain rfl := rep_bl hv
      exact ⟨_, rfl, r1.here p.toks _ (.bl _)⟩
  · refine (pt_not ha).imp fun σ H Q ⟨env, m, ta, s, r⟩ => ⟨env, m, ta, s, ?_⟩
    simp only [ev] at r
    refine r.bind.mono fun w m1 H1 ta1 p r1 => ?_
    cases w with
    | t n => exact r1.elim
    | v d =>
      cases d <;> first | exact r1.elim | skip
      obtain ⟨b, e, q⟩ := r1.here p.toks
      cases e
      exact ⟨_, rfl, q⟩
/-- read now -/
theorem asD_run {α : Type} {c : Cl} {fe : Nat → Str} {B : Hp} {ta : List Addr} {w : W} {m : Store} {f : D → R α} {k : α → Store → Hp → List Addr → Prop} (h : Run c fe EW B ta (asD w m f) k) : ∃ d, snap m w = some d ∧ Run c fe EW B ta (f d) k := by
  unfold asD at h
  cases e : snap m w with
  | none => rw [e] at h; exact h.elim
  | some d => rw [e] at h; exact ⟨d, rfl, h⟩
theorem onO_run {α β : Type} {c : Cl} {fe : Nat → Str} {B : Hp} {ta : List Addr} {o : Option β} {f : β → R α} {k : α → Store → Hp → List Addr → Prop} (h : Run c fe EW B ta (onO o f) k) : ∃ d, o = some d ∧ Run c fe EW B ta (f d) k := by
  cases o with
  | none => exact h.elim
  | some d => exact ⟨d, rfl, h⟩
theorem ofD_run {c : Cl} {fe : Nat → Str} {B : Hp} {ta : List Addr} {o : Option D} {m : Store} {k : W → Store → Hp → List Addr → Prop} (h : Run c fe EW B ta (ofD o m) k) : ∃ d, o = some d ∧ Run c fe EW B ta (.ok (.v d) m) k := by
  cases o with
  | none => exact h.elim
  | some d => exact ⟨d, rfl, h⟩
theorem ofB_run {c : Cl} {fe : Nat → Str} {B : Hp} {ta : List Addr} {o : Option Bool} {m : Store} {k : W → Store → Hp → List Addr → Prop} (h : Run c fe EW B ta (ofB o m) k) : ∃ d, o = some d ∧ Run c fe EW B ta (.ok (.v (.bl d)) m) k := by
  cases o with
  | none => exact h.elim
  | some d => exact ⟨d, rfl, h⟩
theorem ofO_run {α : Type} {c : Cl} {fe : Nat → Str} {B : Hp} {ta : List Addr} {o : Option α} {m : Store} {k : α → Store → Hp → List Addr → Prop} (h : Run c fe EW B ta (ofO o m) k) : ∃ d, o = some d ∧ Run c fe EW B ta (.ok d m) k := by
  cases o with
  | none => exact h.elim
  | some d => exact ⟨d, rfl, h⟩
theorem s_bin {op : BO} (o : XOk L y N lv sc X EW) (ha : PE X l (tE y EW a)) (hb : PE X r (tE y EW b)) : PE X (.BinOp l (opOf op) r pos) (tE y EW (.bin op a b)) := by
  refine (pe_op (op_bin (c := y.c) o.lnk.hK op) ha hb).imp fun σ H Q ⟨env, m, ta, s, r⟩ => ⟨env, m, ta, s, ?_⟩
  simp only [ev] at r
  refine r.bind.mono fun w m1 H1 ta1 p r1 v hv => ⟨env, m1, ta1, s.step p, ?_⟩
  refine r1.bind.mono fun u m2 H2 ta2 p2 r2 z hz => ?_
  obtain ⟨d, e1, r2⟩ := asD_run r2
  obtain ⟨e, e2, r2⟩ := asD_run r2
  obtain ⟨g, e3, r2⟩ := ofD_run r2
  exact ⟨_, d, e, g, view_sub _ _ _, snap_of p2.toks (hv.mono p2.ext p2.pre) e1, snap_of p2.toks hz e2, e3, New.of p2.toks r2⟩
theorem cmpW_run {op : CO} {c : Cl} {fe : Nat → Str} {H : Hp} {ta : List Addr} {x y : W} {m : Store} {k : W → Store → Hp → List Addr → Prop} {v u : V} (t : Toks c H ta m) (hx : Wr c (view H ta m) ta v x) (hy : Wr c (view H ta m) ta u y)
    (h : Run c fe EW (view H ta m) ta (cmpW op x y m) k) : ((op = .is_ ∨ op = .isnot) ∧ u = .non ∧ ∃ b, Run c fe EW (view H ta m) ta (.ok (.v (.bl b)) m) k ∧ b = (if op = .is_ then decide (v = .non) else !decide (v = .non))) ∨
      ∃ b d e, snap m x = some d ∧ snap m y = some e ∧ cmpD op d e = some b ∧ Run c fe EW (view H ta m) ta (.ok (.v (.bl b)) m) k := by
  have isn : isNon x = decide (v = .non) := by
    cases x with
    | t n => obtain ⟨a, _, rfl⟩ := hx; rfl
    | v d => cases hx <;> rfl
  have gen : ∀ {h : Run c fe EW (view H ta m) ta (asD x m fun d => asD y m fun e => ofB (cmpD op d e) m) k}, ∃ b d e, snap m x = some d ∧ snap m y = some e ∧ cmpD op d e = some b ∧ Run c fe EW (view H ta m) ta (.ok (.v (.bl b)) m) k := fun {h} => by
    obtain ⟨d, e1, h⟩ := asD_run h
    obtain ⟨e, e2, h⟩ := asD_run h
    obtain ⟨b, e3, h⟩ := ofB_run h
    exact ⟨b, d, e, e1, e2, e3, h⟩
  unfold cmpW at h
  split at h
  · cases hy
    exact .inl ⟨.inl rfl, rfl, _, h, by rw [if_pos rfl]; exact isn⟩
  · cases hy
    exact .inl ⟨.inr rfl, rfl, _, h, by rw [if_neg (by decide), isn]⟩
  · exact .inr (gen (h := h))
def rCmpW (c : Cl) (op : CO) : R2 := fun x y H Q => ((op = .is_ ∨ op = .isnot) ∧ y = .non ∧ Q (.bl (if op = .is_ then decide (x = .non) else !decide (x = .non))) H) ∨ rCmp c op x y H Q
theorem op_cmpW {X : Cx} {c : Cl} (hK : X.K = c.K) (hu : X.A.units + 80 < cLine) (op : CO) : OpR X (compareOp (coOf op)) (rCmpW c op) := by
  intro pins s σ H x y v u Q I rx ry h
  rcases h with ⟨ho, rfl, q⟩ | h
  · rcases ho with rfl | rfl
    · exact op_isN pins s σ H _ _ v u Q I rx ry ⟨rfl, q⟩
    · exact op_notN pins s σ H _ _ v u Q I rx ry ⟨rfl, q⟩
  · exact op_cmp hK hu op pins s σ H x y v u Q I rx ry h
theorem s_cmp {op : CO} (o : XOk L y N lv sc X EW) (ha : PE X l (tE y EW a)) (hb : PE X r (tE y EW b)) (hm : behindInMarks (coOf op) r = false) :
    PE X (.Compare l [coOf op] [r] pos) (tE y EW (.cmp op a b)) ∧ PT X (.Compare l [coOf op] [r] pos) (tT y EW (.cmp op a b)) := by
  constructor
  · refine (pe_cmpR (op_cmpW (c := y.c) o.lnk.hK o.units op) ha hb hm).imp fun σ H Q ⟨env, m, ta, s, r⟩ => ⟨env, m, ta, s, ?_⟩
    simp only [ev] at r
    refine r.bind.mono fun w m1 H1 ta1 p r1 v hv => ⟨env, m1, ta1, s.step p, ?_⟩
    refine r1.bind.mono fun u m2 H2 ta2 p2 r2 z hz => ?_
    have hv2 := hv.mono p2.ext p2.pre
    rcases cmpW_run p2.toks hv2 hz r2 with ⟨ho, rfl, b, r3, rfl⟩ | ⟨b, d, e, e1, e2, e3, r3⟩
    · exact .inl ⟨ho, rfl, r3.here p2.toks _ (.bl _)⟩
    · exact .inr ⟨_, d, e, b, view_sub _ _ _, snap_of p2.toks hv2 e1, snap_of p2.toks hz e2, e3, r3.here p2.toks _ (.bl _)⟩
  · refine (pt_cmpR (op_cmpW (c := y.c) o.lnk.hK o.units op) ha hb hm).imp fun σ H Q ⟨env, m, ta, s, r⟩ => ⟨env, m, ta, s, ?_⟩
    simp only [ev] at r
    refine r.bind.mono fun w m1 H1 ta1 p r1 v hv => ⟨env, m1, ta1, s.step p, ?_⟩
    refine r1.bind.mono fun u m2 H2 ta2 p2 r2 z hz => ?_
    have hv2 := hv.mono p2.ext p2.pre
    rcases cmpW_run p2.toks hv2 hz r2 with ⟨ho, rfl, b, r3, rfl⟩ | ⟨b, d, e, e1, e2, e3, r3⟩
    · obtain ⟨b', e, q⟩ := r3.here p2.toks
      cases e
      exact .inl ⟨ho, rfl, _, rfl, q⟩
    · obtain ⟨b', e', q⟩ := r3.here p2.toks
      cases e'
      exact .inr ⟨_, d, e, b, view_sub _ _ _, snap_of p2.toks hv2 e1, snap_of p2.toks hz e2, e3, _, rfl, q⟩
end
end Cy

set_option Elab.async false
set_option linter.all false
set_option maxRecDepth 100000
set_option maxHeartbeats 2000000
/-! CySound2: expressions, further. -/
namespace Cy
open PySem L2
open PySem.PyData (strOk)
section
variable {L : Lk} {y : Sy} {N : List Str} {lv : Nat} {sc : Scope} {X : Cx} {EW : XK} {x l r : Expr} {xs : List Expr} {a b c : E} {es : EL} {pos : Pos}

/-- a run's value is a truth value -/
theorem Run.bl_here {H : Hp} {ta : List Addr} {m : Store} {b : Bool} {Q : Bool → Hp → Prop} (t : Toks y.c H ta m) (h : Run y.c y.fe EW (view H ta m) ta (R.ok (W.v (.bl b)) m) fun w m' H' ta' => ∃ b, w = .v (.bl b) ∧ Q b H') : Q b H := by
  obtain ⟨b', e, q⟩ := h.here t
  cases e
  exact q
theorem s_chain {o1 o2 : CO} (o : XOk L y N lv sc X EW) (ha : PE X x (tE y EW a)) (hb : PE X l (tE y EW b)) (hc : PE X r (tE y EW c)) (hm : lastMarks [coOf o1, coOf o2] [l, r] = false) :
    PE X (.Compare x [coOf o1, coOf o2] [l, r] pos) (tE y EW (.chain o1 o2 a b c)) ∧ PT X (.Compare x [coOf o1, coOf o2] [l, r] pos) (tT y EW (.chain o1 o2 a b c)) := by
  constructor
  · refine (pe_chain (op_cmp (c := y.c) o.lnk.hK o.units o1) (op_cmp (c := y.c) o.lnk.hK o.units o2) ha hb hc hm).imp fun σ H Q ⟨env, m, ta, s, r⟩ => ⟨env, m, ta, s, ?_⟩
    simp only [ev] at r
    refine r.bind.mono fun w m1 H1 ta1 p r1 v hv => ⟨env, m1, ta1, s.step p, ?_⟩
    refine r1.bind.mono fun u m2 H2 ta2 p2 r2 z hz => ?_
    have hv2 := hv.mono p2.ext p2.pre
    obtain ⟨d, e1, r2⟩ := asD_run r2
    obtain ⟨e, e2, r2⟩ := asD_run r2
    obtain ⟨q, e3, r2⟩ := onO_run r2
    refine ⟨_, d, e, q, view_sub _ _ _, snap_of p2.toks hv2 e1, snap_of p2.toks hz e2, e3, q, rfl, ?_⟩
    cases q with
    | false => exact iteF (r2.here p2.toks _ (.bl _))
    | true =>
      refine iteT ⟨env, m2, ta2, (s.step p).step p2, ?_⟩
      refine r2.bind.mono fun w3 m3 H3 ta3 p3 r3 v3 hv3 => ?_
      obtain ⟨e', e4, r3⟩ := asD_run r3
      obtain ⟨g, e5, r3⟩ := asD_run r3
      obtain ⟨b4, e6, r3⟩ := ofB_run r3
      exact ⟨_, e', g, b4, view_sub _ _ _, snap_of p3.toks (hz.mono p3.ext p3.pre) e4, snap_of p3.toks hv3 e5, e6, r3.here p3.toks _ (.bl _)⟩
  · refine (pt_chain (op_cmp (c := y.c) o.lnk.hK o.units o1) (op_cmp (c := y.c) o.lnk.hK o.units o2) ha hb hc hm).imp fun σ H Q ⟨env, m, ta, s, r⟩ => ⟨env, m, ta, s, ?_⟩
    simp only [ev] at r
    refine r.bind.mono fun w m1 H1 ta1 p r1 v hv => ⟨env, m1, ta1, s.step p, ?_⟩
    refine r1.bind.mono fun u m2 H2 ta2 p2 r2 z hz => ?_
    have hv2 := hv.mono p2.ext p2.pre
    obtain ⟨d, e1, r2⟩ := asD_run r2
    obtain ⟨e, e2, r2⟩ := asD_run r2
    obtain ⟨q, e3, r2⟩ := onO_run r2
    refine ⟨_, d, e, q, view_sub _ _ _, snap_of p2.toks hv2 e1, snap_of p2.toks hz e2, e3, q, rfl, ?_⟩
    cases q with
    | false => exact iteF ⟨_, rfl, Run.bl_here p2.toks r2⟩
    | true =>
      refine iteT ⟨env, m2, ta2, (s.step p).step p2, ?_⟩
      refine r2.bind.mono fun w3 m3 H3 ta3 p3 r3 v3 hv3 => ?_
      obtain ⟨e', e4, r3⟩ := asD_run r3
      obtain ⟨g, e5, r3⟩ := asD_run r3
      obtain ⟨b4, e6, r3⟩ := ofB_run r3
      exact ⟨_, e', g, b4, view_sub _ _ _, snap_of p3.toks (hz.mono p3.ext p3.pre) e4, snap_of p3.toks hv3 e5, e6, _, rfl, Run.bl_here p3.toks r3⟩

/-! ### and, or: lists of operands -/
def tAn (y : Sy) (EW : XK) (es : EL) : TE := fun σ H Q => ∃ env m ta, Sit y.c σ H env m ta ∧ Run y.c y.fe EW (view H ta m) ta (evAnd y.F es env m) fun w m' H' ta' => ∀ v, Wr y.c (view H' ta' m') ta' v w → Q v H'
def tOn (y : Sy) (EW : XK) (es : EL) : TE := fun σ H Q => ∃ env m ta, Sit y.c σ H env m ta ∧ Run y.c y.fe EW (view H ta m) ta (evOr y.F es env m) fun w m' H' ta' => ∀ v, Wr y.c (view H' ta' m') ta' v w → Q v H'
def tAt (y : Sy) (EW : XK) (es : EL) : TT := fun σ H Q => ∃ env m ta, Sit y.c σ H env m ta ∧ Run y.c y.fe EW (view H ta m) ta (evAnd y.F es env m) fun w m' H' ta' => ∃ b, w = .v (.bl b) ∧ Q b H'
def tOt (y : Sy) (EW : XK) (es : EL) : TT := fun σ H Q => ∃ env m ta, Sit y.c σ H env m ta ∧ Run y.c y.fe EW (view H ta m) ta (evOr y.F es env m) fun w m' H' ta' => ∃ b, w = .v (.bl b) ∧ Q b H'
theorem ifW_run {α : Type} {c : Cl} {fe : Nat → Str} {B : Hp} {ta : List Addr} {w : W} {t f : R α} {k : α → Store → Hp → List Addr → Prop} (h : Run c fe EW B ta (ifW w t f) k) : ∃ q, w = .v (.bl q) ∧ Run c fe EW B ta (bif q then t else f) k := by
  cases w with
  | t n => exact h.elim
  | v d => cases d <;> first | exact h.elim | exact ⟨_, rfl, h⟩
theorem s_and1 (ha : PE X x (tE y EW a)) : PE X (.BoolOp .And [x] pos) (tAn y EW (.cons a .nil)) := (pe_one ha).imp fun σ H Q ⟨env, m, ta, s, r⟩ => ⟨env, m, ta, s, by
  simp only [evAnd] at r
  refine r.bind.mono fun w m1 H1 ta1 p r1 v hv => ?_
  obtain ⟨q, rfl, r1⟩ := ifW_run r1
  obtain rfl := rep_bl hv
  cases q <;> exact r1.here p.toks _ (.bl _)⟩
theorem s_or1 (ha : PE X x (tE y EW a)) : PE X (.BoolOp .Or [x] pos) (tOn y EW (.cons a .nil)) := (pe_one ha).imp fun σ H Q ⟨env, m, ta, s, r⟩ => ⟨env, m, ta, s, by
  simp only [evOr] at r
  refine r.bind.mono fun w m1 H1 ta1 p r1 v hv => ?_
  obtain ⟨q, rfl, r1⟩ := ifW_run r1
  obtain rfl := rep_bl hv
  cases q <;> exact r1.here p.toks _ (.bl _)⟩
theorem s_andC (ha : PE X x (tE y EW a)) (hb : PE X (.BoolOp .And (l :: xs) pos) (tAn y EW es)) : PE X (.BoolOp .And (x :: l :: xs) pos) (tAn y EW (.cons a es)) := (pe_and ha hb).imp fun σ H Q ⟨env, m, ta, s, r⟩ => ⟨env, m, ta, s, by
  simp only [evAnd] at r
  refine r.bind.mono fun w m1 H1 ta1 p r1 v hv => ?_
  obtain ⟨q, rfl, r1⟩ := ifW_run r1
  obtain rfl := rep_bl hv
  refine ⟨q, rfl, ?_⟩
  cases q
  · exact iteF (r1.here p.toks _ (.bl _))
  · exact iteT ⟨env, m1, ta1, s.step p, r1⟩⟩
theorem s_orC (ha : PE X x (tE y EW a)) (hb : PE X (.BoolOp .Or (l :: xs) pos) (tOn y EW es)) : PE X (.BoolOp .Or (x :: l :: xs) pos) (tOn y EW (.cons a es)) := (pe_or ha hb).imp fun σ H Q ⟨env, m, ta, s, r⟩ => ⟨env, m, ta, s, by
  simp only [evOr] at r
  refine r.bind.mono fun w m1 H1 ta1 p r1 v hv => ?_
  obtain ⟨q, rfl, r1⟩ := ifW_run r1
  obtain rfl := rep_bl hv
  refine ⟨q, rfl, ?_⟩
  cases q
  · exact iteF ⟨env, m1, ta1, s.step p, r1⟩
  · exact iteT (r1.here p.toks _ (.bl _))⟩
theorem s_and1t (ha : PT X x (tT y EW a)) : PW X (.BoolOp .And [x] pos) (tAt y EW (.cons a .nil)) := ⟨fun wh pins s σ H Q I ⟨env, m, ta, st, r⟩ => (pw_and1 ha).run wh pins s σ H Q I ⟨env, m, ta, st, by
  simp only [evAnd] at r
  refine r.bind.mono fun w m1 H1 ta1 p r1 => ?_
  obtain ⟨q, rfl, r1⟩ := ifW_run r1
  refine ⟨q, rfl, ?_⟩
  cases q <;> exact Run.bl_here p.toks r1⟩⟩
theorem s_or1t (ha : PT X x (tT y EW a)) : PW X (.BoolOp .Or [x] pos) (tOt y EW (.cons a .nil)) := ⟨fun wh pins s σ H Q I ⟨env, m, ta, st, r⟩ => (pw_or1 ha).run wh pins s σ H Q I ⟨env, m, ta, st, by
  simp only [evOr] at r
  refine r.bind.mono fun w m1 H1 ta1 p r1 => ?_
  obtain ⟨q, rfl, r1⟩ := ifW_run r1
  refine ⟨q, rfl, ?_⟩
  cases q <;> exact Run.bl_here p.toks r1⟩⟩
theorem s_andCt (ha : PT X x (tT y EW a)) (hb : PW X (.BoolOp .And (l :: xs) pos) (tAt y EW es)) : PW X (.BoolOp .And (x :: l :: xs) pos) (tAt y EW (.cons a es)) := ⟨fun wh pins s σ H Q I ⟨env, m, ta, st, r⟩ => (pw_and ha hb).run wh pins s σ H Q I ⟨env, m, ta, st, by
  simp only [evAnd] at r
  refine r.bind.mono fun w m1 H1 ta1 p r1 => ?_
  obtain ⟨q, rfl, r1⟩ := ifW_run r1
  refine ⟨q, rfl, ?_⟩
  cases q
  · exact iteF (Run.bl_here p.toks r1)
  · exact iteT ⟨env, m1, ta1, st.step p, r1⟩⟩⟩
theorem s_orCt (ha : PT X x (tT y EW a)) (hb : PW X (.BoolOp .Or (l :: xs) pos) (tOt y EW es)) : PW X (.BoolOp .Or (x :: l :: xs) pos) (tOt y EW (.cons a es)) := ⟨fun wh pins s σ H Q I ⟨env, m, ta, st, r⟩ => (pw_or ha hb).run wh pins s σ H Q I ⟨env, m, ta, st, by
  simp only [evOr] at r
  refine r.bind.mono fun w m1 H1 ta1 p r1 => ?_
  obtain ⟨q, rfl, r1⟩ := ifW_run r1
  refine ⟨q, rfl, ?_⟩
  cases q
  · exact iteF ⟨env, m1, ta1, st.step p, r1⟩
  · exact iteT (Run.bl_here p.toks r1)⟩⟩
theorem s_ifx (hc : PT X x (tT y EW c)) (ha : PE X l (tE y EW a)) (hb : PE X r (tE y EW b)) : PE X (.IfExp x l r pos) (tE y EW (.ifx c a b)) := (pe_ifExp hc ha hb).imp fun σ H Q ⟨env, m, ta, s, r⟩ => ⟨env, m, ta, s, by
  simp only [ev] at r
  refine r.bind.mono fun w m1 H1 ta1 p r1 => ?_
  obtain ⟨q, rfl, r1⟩ := ifW_run r1
  refine ⟨q, rfl, ?_⟩
  cases q
  · exact iteF ⟨env, m1, ta1, s.step p, r1⟩
  · exact iteT ⟨env, m1, ta1, s.step p, r1⟩⟩

/-! ### argument lists, displays -/
theorem s_nil : PA X [] (tL y EW .nil) := pa_nil.imp fun σ H Q ⟨env, m, ta, s, r⟩ => r.here s.toks [] trivial
theorem s_cons (ha : PE X x (tE y EW a)) (hb : PA X xs (tL y EW es)) (hn : nstar x = true) : PA X (x :: xs) (tL y EW (.cons a es)) := (pa_cons ha hb (star_cons hn)).imp fun σ H Q ⟨env, m, ta, s, r⟩ => ⟨env, m, ta, s, by
  simp only [evL] at r
  refine r.bind.mono fun w m1 H1 ta1 p r1 v hv => ⟨env, m1, ta1, s.step p, ?_⟩
  refine r1.bind.mono fun ws m2 H2 ta2 p2 r2 vs hvs => ?_
  exact r2.here p2.toks (v :: vs) ⟨hv.mono p2.ext p2.pre, hvs⟩⟩
/-- what is walked: a tuple or a list, by value or a token -/
theorem walk_of {c : Cl} {H : Hp} {ta : List Addr} {m : Store} {v : V} {w : W} {us : List W} (t : Toks c H ta m) (h : Wr c (view H ta m) ta v w) (e : walkW m w = some us) :
    ∃ a xs, v = .ref a ∧ (SqT c.K (view H ta m) a xs ∨ Rd H a (.lst xs)) ∧ Wrs c (view H ta m) ta xs us := by
  cases w with
  | v d =>
    simp only [walkW] at e
    obtain ⟨ds, e1, rfl⟩ := Option.map_eq_some_iff.mp e
    cases d <;> simp only [seqD, reduceCtorEq, Option.some.injEq] at e1
    · subst e1
      cases h with | tup hs hi r => exact ⟨_, _, rfl, .inl hs, Wrs.of r⟩
    · subst e1
      cases h with | lst hs r => exact ⟨_, _, rfl, .inr (rd_mono (view_sub _ _ _) hs), Wrs.of r⟩
  | t n =>
    obtain ⟨a, h1, rfl⟩ := h
    simp only [walkW] at e
    cases q : m[n]? with
    | none => rw [q] at e; cases e
    | some k =>
      rw [q] at e
      have z := t.ok n k a q h1
      cases k <;> simp only [reduceCtorEq, Option.some.injEq] at e
      subst e
      obtain ⟨xs, h2, h3⟩ := z
      exact ⟨a, xs, rfl, .inr (.inl h2), h3⟩
theorem lst_of {c : Cl} {H : Hp} {ta : List Addr} {m : Store} {v : V} {w : W} {us : List W} (t : Toks c H ta m) (h : Wr c (view H ta m) ta v w) (e : lstW m w = some us) :
    ∃ a xs, v = .ref a ∧ Rd H a (.lst xs) ∧ Wrs c (view H ta m) ta xs us := by
  cases w with
  | v d =>
    cases d <;> simp only [lstW, reduceCtorEq, Option.some.injEq] at e
    subst e
    cases h with | lst hs r => exact ⟨_, _, rfl, rd_mono (view_sub _ _ _) hs, Wrs.of r⟩
  | t n =>
    obtain ⟨a, h1, rfl⟩ := h
    simp only [lstW] at e
    cases q : m[n]? with
    | none => rw [q] at e; cases e
    | some k =>
      rw [q] at e
      have z := t.ok n k a q h1
      cases k <;> simp only [reduceCtorEq, Option.some.injEq] at e
      subst e
      obtain ⟨xs, h2, h3⟩ := z
      exact ⟨a, xs, rfl, .inl h2, h3⟩
theorem s_star {p' : Pos} (o : XOk L y N lv sc X EW) (ha : PE X x (tE y EW a)) (hb : PA X xs (tL y EW es)) : PA X (.Starred x p' :: xs) (tL y EW (.star a es)) := (StX.pa_star ha hb).imp fun σ H Q ⟨env, m, ta, s, r⟩ => ⟨env, m, ta, s, by
  simp only [evL] at r
  refine r.bind.mono fun w m1 H1 ta1 p r1 v hv => ?_
  obtain ⟨us, e1, r1⟩ := onO_run r1
  obtain ⟨a, ys, rfl, h1, h2⟩ := walk_of p.toks hv e1
  refine ⟨a, ys, rfl, ?_, env, m1, ta1, s.step p, ?_⟩
  · rcases h1 with h1 | h1
    · exact .inl (o.lnk.hK ▸ seq_mono (view_sub _ _ _) h1)
    · exact .inr (.inl h1)
  · refine r1.bind.mono fun ws m2 H2 ta2 p2 r2 vs hvs => ?_
    exact r2.here p2.toks (ys ++ vs) ((h2.mono p2.ext p2.pre).append hvs)⟩
theorem newT_run {c : Cl} {fe : Nat → Str} {B : Hp} {ta : List Addr} {ws : List W} {m : Store} {k : W → Store → Hp → List Addr → Prop} (h : Run c fe EW B ta (newT ws m) k) : ∃ ds, ws.length ≤ LIM ∧ allV ws = some ds ∧ Run c fe EW B ta (.ok (.v (.tup ds)) m) k := by
  unfold newT at h
  split at h
  · exact h.elim
  · rename_i hl
    split at h
    · exact ⟨_, by omega, by assumption, h⟩
    · exact h.elim
theorem newL_run {c : Cl} {fe : Nat → Str} {B : Hp} {ta : List Addr} {tk : Bool} {ws : List W} {m : Store} {k : W → Store → Hp → List Addr → Prop} (h : Run c fe EW B ta (newL tk ws m) k) :
    ws.length ≤ LIM ∧ ((tk = true ∧ Run c fe EW B ta (.ok (.t m.length) (m ++ [.lst ws])) k) ∨ ∃ ds, tk = false ∧ allV ws = some ds ∧ Run c fe EW B ta (.ok (.v (.lst ds)) m) k) := by
  unfold newL at h
  split at h
  · exact h.elim
  · rename_i hl
    refine ⟨by omega, ?_⟩
    split at h
    · exact .inl ⟨by assumption, h⟩
    · rename_i ht
      split at h
      · exact .inr ⟨_, by simpa using ht, by assumption, h⟩
      · exact h.elim
/-- a new list laid: by value, or a token -/
theorem lay_list {c : Cl} {fe : Nat → Str} {H : Hp} {ta : List Addr} {tk : Bool} {ws : List W} {m : Store} {Q : VK} {xs : List V} (t : Toks c H ta m) (hx : Wrs c (view H ta m) ta xs ws)
    (h : Run c fe EW (view H ta m) ta (newL tk ws m) fun w m' H' ta' => ∀ v, Wr c (view H' ta' m') ta' v w → Q v H') : xs.length ≤ sizeLine ∧ ∀ p, H p = none → Q (.ref p) (upd H p (.lst xs)) := by
  obtain ⟨hl, h⟩ := newL_run h
  refine ⟨lim_size (by rw [hx.length]; exact hl), fun p hp => ?_⟩
  rcases h with ⟨_, h⟩ | ⟨ds, _, e, h⟩
  · refine h.at (post_tok t hp (by simp) ⟨xs, upd_same, hx⟩) (.ref p) ⟨p, ?_, rfl⟩
    rw [List.getElem?_append_right (by rw [t.len]; exact Nat.le_refl _), t.len, Nat.sub_self]
    rfl
  · obtain ⟨p1, p2⟩ := post_new (o := .lst xs) t hp
    exact h.at p1 (.ref p) (.lst (.inl p2) (Reps.mono p1.ext (hx.all e)))
theorem s_tup {k : Nat} (ha : PA X xs (tL y EW es)) : PE X (.Tuple xs k pos) (tE y EW (.tup es)) := (pe_tup ha).imp fun σ H Q ⟨env, m, ta, s, r⟩ => ⟨env, m, ta, s, by
  simp only [ev] at r
  refine r.bind.mono fun ws m1 H1 ta1 p r1 vs hvs => ?_
  obtain ⟨ds, hl, e, r1⟩ := newT_run r1
  refine ⟨lim_size (by rw [hvs.length]; exact hl), fun q hq => ?_⟩
  obtain ⟨p1, p2⟩ := post_new (o := .tup vs) p.toks hq
  exact r1.at p1 (.ref q) (.tup (.inl (.inl p2)) (fun _ => p2) (Reps.mono p1.ext (hvs.all e)))⟩
theorem s_lst {tk : Bool} (ha : PA X xs (tL y EW es)) : PE X (.List xs pos) (tE y EW (.lst tk es)) := (pe_lst ha).imp fun σ H Q ⟨env, m, ta, s, r⟩ => ⟨env, m, ta, s, by
  simp only [ev] at r
  exact r.bind.mono fun ws m1 H1 ta1 p r1 vs hvs => lay_list p.toks hvs r1⟩
theorem s_cat (o : XOk L y N lv sc X EW) (ha : PE X l (tE y EW a)) (hb : PE X r (tE y EW b)) : PE X (.BinOp l .Add r pos) (tE y EW (.cat a b)) := by
  refine (pe_op op_catL ha hb).imp fun σ H Q ⟨env, m, ta, s, r⟩ => ⟨env, m, ta, s, ?_⟩
  simp only [ev] at r
  refine r.bind.mono fun w m1 H1 ta1 p r1 v hv => ⟨env, m1, ta1, s.step p, ?_⟩
  refine r1.bind.mono fun u m2 H2 ta2 p2 r2 z hz => ?_
  obtain ⟨ws, e1, r2⟩ := onO_run r2
  obtain ⟨us, e2, r2⟩ := onO_run r2
  obtain ⟨a, xs, rfl, h1, w1⟩ := lst_of p2.toks (hv.mono p2.ext p2.pre) e1
  obtain ⟨b, zs, rfl, h2, w2⟩ := lst_of p2.toks hz e2
  have q := lay_list p2.toks (w1.append w2) r2
  rw [List.length_append] at q
  exact ⟨a, b, xs, zs, rfl, rfl, h1, h2, q.1, q.2⟩
theorem s_ix (o : XOk L y N lv sc X EW) (ha : PE X l (tE y EW a)) (hb : PE X r (tE y EW b)) (hs : plainIxB r = true) : PE X (.Subscript l r pos) (tE y EW (.ix a b)) := by
  refine (pe_ix (ix_any (by have := o.units; omega)) ha hb (plainIx_of hs)).imp fun σ H Q ⟨env, m, ta, s, r⟩ => ⟨env, m, ta, s, ?_⟩
  simp only [ev] at r
  refine r.bind.mono fun w m1 H1 ta1 p r1 v hv => ⟨env, m1, ta1, s.step p, ?_⟩
  refine r1.bind.mono fun u m2 H2 ta2 p2 r2 z hz => ?_
  obtain ⟨k, e1, r2⟩ := asD_run r2
  obtain ⟨w', e2, r2⟩ := ofO_run r2
  exact ix_ok o.lnk.hK p2.toks (hv.mono p2.ext p2.pre) (snap_of p2.toks hz e1) e2 fun v' hv' => r2.here p2.toks v' hv'
end
end Cy

set_option Elab.async false
set_option linter.all false
set_option maxRecDepth 100000
set_option maxHeartbeats 2000000
/-! CySound3: slices, fields, calls. -/
namespace Cy
open PySem L2
open PySem.PyData (strOk)
section
variable {L : Lk} {y : Sy} {N : List Str} {lv : Nat} {sc : Scope} {X : Cx} {EW : XK} {x l r : Expr} {xs : List Expr} {a b c : E} {es : EL} {pos : Pos}

/-! ### slices -/
/-- a part of a slice: left out, or an int -/
def poB : E → Option Expr → Bool
  | .no, none => true
  | .no, some _ => false
  | _, none => false
  | _, some _ => true
def tP (y : Sy) (EW : XK) (e : E) : TO := fun σ H Q => ∃ env m ta, Sit y.c σ H env m ta ∧ Run y.c y.fe EW (view H ta m) ta (poR e m (ev y.F e env m)) fun o m' H' ta' => Q o H'
theorem onI_run {α : Type} {c : Cl} {fe : Nat → Str} {B : Hp} {ta : List Addr} {w : W} {f : Int → R α} {k : α → Store → Hp → List Addr → Prop} (h : Run c fe EW B ta (onI w f) k) : ∃ i, w = .v (.int i) ∧ Run c fe EW B ta (f i) k := by
  cases w with
  | t n => exact h.elim
  | v d => cases d <;> first | exact h.elim | exact ⟨_, rfl, h⟩
theorem s_po {p : Option Expr} (h : ∀ x, p = some x → PE X x (tE y EW a)) (hb : poB a p = true) : PO X p (tP y EW a) := by
  cases p with
  | none =>
    have e : a = .no := by cases a <;> first | rfl | (simp [poB] at hb)
    subst e
    exact ⟨fun pins s σ H Q I ⟨env, m, ta, st, r⟩ => po_none.run pins s σ H Q I (r.here st.toks)⟩
  | some x =>
    have e : ∀ m r, poR a m r = r.bind fun w m => onI w fun i => .ok (some i) m := fun m r => by cases a <;> first | rfl | (simp [poB] at hb)
    exact ⟨fun pins s σ H Q I ⟨env, m, ta, st, r⟩ => (po_some (h x rfl)).run pins s σ H Q I (by
      rw [e] at r
      refine ⟨env, m, ta, st, r.bind.mono fun w m1 H1 ta1 p r1 v hv => ?_⟩
      obtain ⟨i, rfl, r1⟩ := onI_run r1
      exact ⟨i, rep_int hv, r1.here p.toks⟩)⟩
theorem s_sl {lo hi : Option Expr} {p2 : Pos} (o : XOk L y N lv sc X EW) (ha : PE X x (tE y EW a)) (hb : ∀ x, lo = some x → PE X x (tE y EW b)) (hc : ∀ x, hi = some x → PE X x (tE y EW c)) (pb : poB b lo = true) (pc : poB c hi = true) :
    PE X (.Subscript x (.Slice lo hi none p2) pos) (tE y EW (.sl a b c)) := by
  refine (pe_slice sl_any ha (s_po hb pb) (s_po hc pc)).imp fun σ H Q ⟨env, m, ta, s, r⟩ => ⟨env, m, ta, s, ?_⟩
  simp only [ev] at r
  refine r.bind.mono fun w m1 H1 ta1 p1 r1 v hv => ⟨env, m1, ta1, s.step p1, ?_⟩
  refine r1.bind.mono fun lo m2 H2 ta2 p2 r2 => ⟨env, m2, ta2, (s.step p1).step p2, ?_⟩
  refine r2.bind.mono fun hi m3 H3 ta3 p3 r3 => ?_
  obtain ⟨d, e1, r3⟩ := asD_run r3
  obtain ⟨g, e2, r3⟩ := ofD_run r3
  exact sl_ok o.lnk.hK (view_sub _ _ _) (snap_of p3.toks ((hv.mono p2.ext p2.pre).mono p3.ext p3.pre) e1) e2 (New.of p3.toks r3)

/-! ### fields -/
def abB : Expr → Bool
  | .Call (.Name _ _) [] [] _ => false
  | _ => true
theorem ab_of {o : Expr} {f : Str} {env : PySem.Env} {w : Sem Value} (h : abB o = true) : attributeBase o f env w = w := by
  unfold attributeBase
  split
  · simp [abB] at h
  · rfl
theorem zip_get : ∀ {fs : List Str} {xs : List V} {i : Nat} {f : Str} {v : V}, fs.Nodup → fs[i]? = some f → xs[i]? = some v → (fs.zip xs).lookup f = some v
  | [], _, _, _, _, _, h, _ => by simp at h
  | _ :: _, [], _, _, _, _, _, h => by simp at h
  | g :: fs, z :: xs, 0, f, v, nd, h1, h2 => by
    simp at h1 h2; subst h1; subst h2
    simp [List.zip_cons_cons, List.lookup_cons]
  | g :: fs, z :: xs, i + 1, f, v, nd, h1, h2 => by
    have h1' : fs[i]? = some f := by simpa using h1
    have ne : (f == g) = false := by
      have := (List.nodup_cons.mp nd).1
      exact beq_eq_false_iff_ne.mpr fun e => this (e ▸ List.mem_of_getElem? h1')
    rw [List.zip_cons_cons, List.lookup_cons, ne]
    exact zip_get (List.nodup_cons.mp nd).2 h1' (by simpa using h2)
theorem zip_none : ∀ {fs : List Str} {xs : List V} {f : Str}, f ∉ fs → (fs.zip xs).lookup f = none
  | [], _, _, _ => by simp
  | _ :: _, [], _, _ => by simp
  | g :: fs, z :: xs, f, h => by
    have ne : (f == g) = false := beq_eq_false_iff_ne.mpr fun e => h (e ▸ List.mem_cons_self)
    rw [List.zip_cons_cons, List.lookup_cons, ne]
    exact zip_none fun z => h (List.mem_cons_of_mem _ z)
/-- an object of a class, by value or as a token -/
theorem obj_of {c : Cl} {H : Hp} {ta : List Addr} {m : Store} {v : V} {w : W} {n : Nat} (t : Toks c H ta m) (h : Wr c (view H ta m) ta v w) (e : isCls n m w = true) :
    ∃ a dx ys, v = .ref a ∧ H a = some (.ins (c.ca n) dx ((c.fl n).zip ys)) := by
  cases w with
  | v d =>
    cases d <;> simp only [isCls, reduceCtorEq, decide_eq_true_eq, Bool.false_eq_true] at e
    subst e
    cases h with | obj h hl r => exact ⟨_, _, _, rfl, view_sub _ _ _ _ _ h⟩
  | t i =>
    obtain ⟨a, h1, rfl⟩ := h
    simp only [isCls] at e
    split at e
    · rename_i n' ws q
      have e : n = n' := by simpa using e
      subst e
      obtain ⟨dx, ys, h2, _⟩ := t.ok i _ a q h1
      exact ⟨a, dx, ys, rfl, h2⟩
    · cases e
theorem s_fld {n i : Nat} {f : Str} {fs : List Str} (o : XOk L y N lv sc X EW) (ha : PE X x (tE y EW a)) (hf : (n, fs) ∈ L.flds) (hi : fs[i]? = some f) (hb : abB x = true) : PE X (.Attribute x f pos) (tE y EW (.fld n a i)) := by
  obtain ⟨e1, hc, nd, hl, na⟩ := o.lnk.fld n fs hf
  refine (pe_fld ha (ab_of hb)).imp fun σ H Q ⟨env, m, ta, s, r⟩ => ⟨env, m, ta, s, ?_⟩
  simp only [ev] at r
  refine r.bind.mono fun w m1 H1 ta1 p r1 v hv => ?_
  obtain ⟨w', e2, r2⟩ := ofO_run r1
  cases w with
  | v d =>
    cases d <;> simp only [fldW, reduceCtorEq] at e2
    split at e2
    · rename_i n' ds q
      subst q
      obtain ⟨d', e3, rfl⟩ := Option.map_eq_some_iff.mp e2
      cases hv with
      | obj h hl r =>
        obtain ⟨v', e4, e5⟩ := r.get e3
        exact ⟨_, _, _, _, v', rfl, view_sub _ _ _ _ _ h, hc, na f (List.mem_of_getElem? hi), zip_get (e1 ▸ nd) (e1 ▸ hi) e4, r2.here p.toks v' e5⟩
    · cases e2
  | t j =>
    obtain ⟨a, h1, rfl⟩ := hv
    simp only [fldW] at e2
    split at e2
    · rename_i n' ws q
      split at e2
      · rename_i q2
        subst q2
        obtain ⟨dx, ys, h2, h3, h4⟩ := p.toks.ok j _ a q h1
        obtain ⟨v', e4, e5⟩ := h4.get e2
        exact ⟨_, _, _, _, v', rfl, h2, hc, na f (List.mem_of_getElem? hi), zip_get (e1 ▸ nd) (e1 ▸ hi) e4, r2.here p.toks v' e5⟩
      · cases e2
    · cases e2

/-! ### calls -/
/-- no star among the arguments -/
def nstars : List Expr → Bool
  | [] => true
  | e :: es => nstar e && nstars es
theorem any_of {pos : Pos} {env : PySem.Env} : ∀ {es : List Expr}, nstars es = true → (backTo pos (starEach es env)).any (·.1) = false
  | [], _ => rfl
  | e :: es, h => by
    simp only [nstars, Bool.and_eq_true] at h
    rw [star_cons h.1]
    have := any_of (pos := pos) (env := env) h.2
    unfold backTo at this ⊢
    simpa using this
theorem sp_of {f : Nat} {np : Nat} {H : Hp} {ta : List Addr} {m : Store} {ws : List W} {vs : List V} {Q : VK} (t : Toks y.c H ta m) (hv : Wrs y.c (view H ta m) ta vs ws) (ar : ∀ ws m, ws.length ≠ np → y.F.fn f ws m = .bad)
    (r : Run y.c y.fe EW (view H ta m) ta (y.F.fn f ws m) fun w m' H' ta' => ∀ v, Wr y.c (view H' ta' m') ta' v w → Q v H') : spF y (y.F.fn f) np vs H Q EW := by
  refine ⟨?_, ws, m, ta, t, hv, r⟩
  rw [hv.length]
  by_cases h : ws.length = np
  · exact h
  · rw [ar ws m h] at r
    exact r.elim
theorem s_call0 {f : Nat} {n : Str} {p : Pos} (o : XOk L y N lv sc X EW) (hf : (f, n) ∈ L.fns) (hg : glB sc n = true) (hd : (n == ("__debug__" : Str)) = false) : PE X (.Call (.Name n p) [] [] pos) (tE y EW (.call f .nil)) := by
  obtain ⟨a, fd, ps, e1, e2, e3, F, ar⟩ := o.lnk.fn f n hf
  refine (pe_call0 F o.room0 (gl_of o hg) e1 e2 e3 .nil o.pass hd).imp fun σ H Q ⟨env, m, ta, s, r⟩ => ?_
  exact sp_of (ws := []) (vs := []) s.toks trivial ar r
theorem s_call {f : Nat} {n : Str} {p : Pos} (o : XOk L y N lv sc X EW) (hf : (f, n) ∈ L.fns) (hg : glB sc n = true) (hd : (n == ("__debug__" : Str)) = false) (ha : PA X (x :: xs) (tL y EW es)) (h1 : nstar x = true) (h2 : nstars xs = true) : PE X (.Call (.Name n p) (x :: xs) [] pos) (tE y EW (.call f es)) := by
  obtain ⟨a, fd, ps, e1, e2, e3, F, ar⟩ := o.lnk.fn f n hf
  refine (pe_call F o.room0 (gl_of o hg) e1 e2 e3 .nil o.pass ha hd (star_cons h1) (any_of h2)).imp fun σ H Q ⟨env, m, ta, s, r⟩ => ⟨env, m, ta, s, ?_⟩
  simp only [ev] at r
  exact r.bind.mono fun ws m1 H1 ta1 p r1 vs hvs => by
    show spF y (y.F.fn f) ps.length (vs ++ []) H1 Q EW
    rw [List.append_nil]
    exact sp_of p.toks hvs ar r1
/-! methods -/
theorem backTo_len {pos : Pos} {env : PySem.Env} : ∀ {es : List Expr}, nstars es = true → (backTo pos (starEach es env)).all (fun x => !x.1) = true
  | [], _ => rfl
  | e :: es, h => by
    simp only [nstars, Bool.and_eq_true] at h
    rw [star_cons h.1]
    have := backTo_len (pos := pos) (env := env) h.2
    unfold backTo at this ⊢
    simpa using this
theorem meth_eval {o : Expr} {m : Str} {apos pos : Pos} {es : List Expr} {env : PySem.Env} (ab : abB o = true) (hn : nstars es = true) (hl : es.length < 30) (hp : (apos.endLine == pos.line) = true) :
    eval (.Call (.Attribute o m apos) es [] pos) env = (do
      let ov ← eval o env
      standAt apos.atName
      let (f, first) ← holding [ov] (getMethod ov m (do return (← importBound o env).getD true))
      callWith pos f first (backTo pos (starEach es env)) (backToKw pos (keywordEach [] env))) := by
  have e1 : methodCallForm (es.length + ([] : List Keyword).length) (backTo pos (starEach es env)) (backToKw pos (keywordEach [] env)) = true := by
    unfold methodCallForm
    rw [backTo_len hn]
    have : (backToKw pos (keywordEach [] env)) = [] := rfl
    rw [this]
    simpa using hl
  show (do
    let ov ← attributeBase o m env (eval o env)
    standAt apos.atName
    methodCall o m apos pos env ov (es.length + ([] : List Keyword).length) (backTo pos (starEach es env)) (backToKw pos (keywordEach [] env))) = _
  rw [ab_of ab]
  unfold methodCall calleeOf methodCallPos
  simp only [e1, hp, Bool.not_true, Bool.false_or, if_true, pure_bind]
theorem s_meth0 {n f : Nat} {mn : Str} {apos : Pos} (o : XOk L y N lv sc X EW) (hm : (n, f, mn) ∈ L.meths) (hi : (mn == ("__init__" : Str)) = false) (ha : PE X x (tE y EW a)) (ab : abB x = true) (hp : (apos.endLine == pos.line) = true) :
    PE X (.Call (.Attribute x mn apos) [] [] pos) (tE y EW (.meth n f a .nil)) := by
  obtain ⟨hc, hnf, ad, fd, ps, M, B, F, ar⟩ := o.lnk.meth n f mn hm
  refine (pe_meth0 ha hc M F o.room0 B .nil o.pass (meth_eval ab rfl (by decide) hp)).imp fun σ H Q ⟨env, m, ta, s, r⟩ => ⟨env, m, ta, s, ?_⟩
  simp only [ev] at r
  refine r.bind.mono fun w m1 H1 ta1 p r1 v hv => ?_
  split at r1
  · rename_i hcl
    obtain ⟨a, dx, ys, rfl, h1⟩ := obj_of p.toks hv hcl
    refine ⟨a, dx, _, rfl, h1, zip_none hnf, ?_⟩
    exact sp_of (ws := [w]) (vs := [.ref a]) p.toks ⟨hv, trivial⟩ ar r1
  · exact r1.elim
theorem s_meth {n f : Nat} {mn : Str} {apos : Pos} (o : XOk L y N lv sc X EW) (hm : (n, f, mn) ∈ L.meths) (ha : PE X l (tE y EW a)) (ab : abB l = true) (hp : (apos.endLine == pos.line) = true)
    (hs : PA X (x :: xs) (tL y EW es)) (h1 : nstar x = true) (h2 : nstars xs = true) (hl : (x :: xs).length < 30) : PE X (.Call (.Attribute l mn apos) (x :: xs) [] pos) (tE y EW (.meth n f a es)) := by
  obtain ⟨hc, hnf, ad, fd, ps, M, B, F, ar⟩ := o.lnk.meth n f mn hm
  refine (pe_meth ha hc M F o.room0 B .nil o.pass hs (star_cons h1) (any_of h2) (meth_eval ab (by simp [nstars, h1, h2]) hl hp)).imp fun σ H Q ⟨env, m, ta, s, r⟩ => ⟨env, m, ta, s, ?_⟩
  simp only [ev] at r
  refine r.bind.mono fun w m1 H1 ta1 p r1 v hv => ?_
  split at r1
  · rename_i hcl
    obtain ⟨a, dx, ys, rfl, h1⟩ := obj_of p.toks hv hcl
    refine ⟨a, dx, _, rfl, h1, zip_none hnf, env, m1, ta1, s.step p, ?_⟩
    refine r1.bind.mono fun ws m2 H2 ta2 p2 r2 vs hvs => ?_
    show spF y (y.F.fn f) ps.length (.ref a :: (vs ++ [])) H2 Q EW
    rw [List.append_nil]
    exact sp_of (ws := w :: ws) (vs := .ref a :: vs) p2.toks ⟨hv.mono p2.ext p2.pre, hvs⟩ ar r2
  · exact r1.elim
end
end Cy

set_option Elab.async false
set_option linter.all false
set_option maxRecDepth 100000
set_option maxHeartbeats 2000000
/-! CyFrz: own lists and dicts are frozen. -/
namespace Cy
open PySem L2
open PySem.PyData (strOk)
theorem live_dead : ∀ {ta : List Addr} {m : Store} {n : Nat} {b : Addr}, b ∈ live ta (m.set n .dead) → b ∈ live ta m
  | [], _, _, _, h => by simp [live] at h
  | _ :: _, [], _, _, h => by simp [live] at h
  | a :: ta, q :: m, 0, b, h => by
    have h : b ∈ live ta m := h
    cases q <;> first | exact h | exact List.mem_cons_of_mem _ h
  | a :: ta, q :: m, n + 1, b, h => by
    have ih := live_dead (ta := ta) (m := m) (n := n) (b := b)
    cases q <;> simp only [List.set_cons_succ, live, List.mem_cons] at h ⊢ <;> first | exact ih h | exact h.imp id ih
theorem live_gone : ∀ {ta : List Addr} {m : Store} {n : Nat} {a : Addr}, ta.Nodup → ta[n]? = some a → a ∉ live ta (m.set n .dead)
  | [], _, _, _, _, h => by simp at h
  | _ :: _, [], _, _, _, _ => by simp [live]
  | b :: ta, q :: m, 0, a, nd, h => by
    simp at h; subst h
    exact fun z => (List.nodup_cons.mp nd).1 (live_sub (m := m) z)
  | b :: ta, q :: m, n + 1, a, nd, h => by
    have h' : ta[n]? = some a := by simpa using h
    have ih := live_gone (ta := ta) (m := m) (n := n) (List.nodup_cons.mp nd).2 h'
    have ne : a ≠ b := fun e => (List.nodup_cons.mp nd).1 (e ▸ List.mem_of_getElem? h')
    cases q <;> simp only [List.set_cons_succ, live, List.mem_cons, not_or] <;> first | exact ih | exact ⟨ne, ih⟩
theorem post_frz {c : Cl} {H : Hp} {ta : List Addr} {m : Store} {n : Nat} {a : Addr} {d : D} {k : C} (t : Toks c H ta m) (hm : m[n]? = some k) (ha : ta[n]? = some a) (hd : snapC k = some d) :
    Post c (view H ta m) ta H ta (m.set n .dead) ∧ Rep c (view H ta (m.set n .dead)) (.ref a) d := by
  have ext : Same (view H ta m) (view H ta (m.set n .dead)) := fun b u h => by
    obtain ⟨h1, h2⟩ := hide_not h
    exact hide_of h2 fun z => h1 (live_dead z)
  have vw : ∀ {o}, H a = some o → view H ta (m.set n .dead) a = some o := fun h => hide_of h (live_gone t.nd ha)
  refine ⟨⟨⟨by rw [List.length_set]; exact t.len, t.nd, t.has, fun i q b h1 h2 => ?_⟩, List.prefix_refl _, ext⟩, ?_⟩
  · by_cases e : i = n
    · subst e
      have hlt := (List.getElem?_eq_some_iff.mp hm).1
      rw [List.getElem?_set_self hlt] at h1
      cases h1
      trivial
    · rw [List.getElem?_set_ne (Ne.symm e)] at h1
      exact (t.ok i q b h1 h2).mono ext (List.prefix_refl _) rfl
  · have z := t.ok n k a hm ha
    cases k with
    | lst ws =>
      obtain ⟨xs, h2, h3⟩ := z
      obtain ⟨ds, q2, rfl⟩ := Option.map_eq_some_iff.mp hd
      exact .lst (.inl (vw h2)) (Reps.mono ext (h3.all q2))
    | dict t ks ws =>
      obtain ⟨ds, q2, rfl⟩ := Option.map_eq_some_iff.mp hd
      rcases z with ⟨rfl, kvs, h2, rfl, h4, h5⟩ | ⟨rfl, kvs, h2, rfl, h4, h5⟩
      · exact .dK (vw h2) h4 (Reps.mono ext (h5.all q2))
      · exact .dT (vw h2) h4 (Reps.mono ext (h5.all q2))
    | obj n ws => cases hd
    | dead => cases hd

theorem frz_run {c : Cl} {H : Hp} {ta : List Addr} : ∀ {us : List W} {vs : List V} {m m2 : Store} {ds : List D}, Toks c H ta m → Wrs c (view H ta m) ta vs us → frzL us m = some (ds, m2) → Post c (view H ta m) ta H ta m2 ∧ Reps c (view H ta m2) vs ds ∧ m2.length = m.length
  | [], [], m, m2, ds, t, _, e => by cases e; exact ⟨Post.refl t, .nil, rfl⟩
  | .v d :: us, v :: vs, m, m2, ds, t, ⟨h, r⟩, e => by
    obtain ⟨⟨es, m3⟩, e1, e2⟩ := Option.map_eq_some_iff.mp (show (frzL us m).map (fun p => (d :: p.1, p.2)) = some (ds, m2) from e)
    cases e2
    obtain ⟨p1, r1, l1⟩ := frz_run t r e1
    exact ⟨p1, .cons (Rep.mono p1.ext h) r1, l1⟩
  | .t n :: us, v :: vs, m, m2, ds, t, ⟨h, r⟩, e => by
    simp only [frzL] at e
    split at e
    · rename_i k hm
      split at e
      · rename_i d hd
        obtain ⟨⟨es, m3⟩, e1, e2⟩ := Option.map_eq_some_iff.mp e
        cases e2
        obtain ⟨a, ha, rfl⟩ := h
        obtain ⟨p1, q1⟩ := post_frz t hm ha hd
        obtain ⟨p2, r2, l2⟩ := frz_run p1.toks (r.mono p1.ext p1.pre) e1
        exact ⟨p1.trans p2, .cons (Rep.mono p2.ext q1) r2, by rw [l2, List.length_set]⟩
      · cases e
    · cases e
  | [], _ :: _, _, _, _, _, h, _ => h.elim
  | _ :: _, [], _, _, _, _, h, _ => by
    rename_i w us m m2 ds t
    cases w <;> exact h.elim
end Cy

set_option Elab.async false
set_option linter.all false
set_option maxRecDepth 100000
set_option maxHeartbeats 2000000
/-! CySound4: properties, own len and ==, making objects, built-in functions, isinstance, methods of texts. -/
namespace Cy
open PySem L2
open PySem.PyData (strOk)
section
variable {L : Lk} {y : Sy} {N : List Str} {lv : Nat} {sc : Scope} {X : Cx} {EW : XK} {x l r : Expr} {xs : List Expr} {a b c : E} {es : EL} {pos : Pos}

theorem noex_run {α : Type} {c : Cl} {fe : Nat → Str} {B : Hp} {ta : List Addr} {r : R α} {k : α → Store → Hp → List Addr → Prop} (h : Run c fe EW B ta r.noex k) : Run c fe E0 B ta r k := by
  cases r with
  | ok a m => exact h
  | ex n ds m => exact h.elim
  | bad => exact h
theorem s_prop {n f : Nat} {mn : Str} (o : XOk L y N lv sc X EW) (hm : (n, f, mn) ∈ L.props) (ha : PE X x (tE y EW a)) (ab : abB x = true) : PE X (.Attribute x mn pos) (tE y EW (.prop n f a)) := by
  obtain ⟨hc, ad, pa, fd, ps, M, B, F, ar⟩ := o.lnk.prop n f mn hm
  refine (pe_prop ha hc M F o.room B .nil passL (ab_of ab)).imp fun σ H Q ⟨env, m, ta, s, r⟩ => ⟨env, m, ta, s, ?_⟩
  simp only [ev] at r
  refine r.bind.mono fun w m1 H1 ta1 p r1 v hv => ?_
  split at r1
  · rename_i hcl
    obtain ⟨a, dx, ys, rfl, h1⟩ := obj_of p.toks hv hcl
    exact ⟨a, dx, _, rfl, h1, sp_of (ws := [w]) (vs := [.ref a]) p.toks ⟨hv, trivial⟩ ar (noex_run r1)⟩
  · exact r1.elim

/-! ### truncated stores -/
theorem live_take : ∀ (n : Nat) (ta : List Addr) (m : Store) (a : Addr), a ∈ live (ta.take n) (m.take n) → a ∈ live ta m
  | 0, _, _, _, h => by simp [live] at h
  | n + 1, [], _, _, h => by simp [live] at h
  | n + 1, _ :: _, [], _, h => by simp [live] at h
  | n + 1, b :: ta, k :: m, a, h => by
    have ih := live_take n ta m a
    rw [List.take_succ_cons, List.take_succ_cons] at h
    cases k with
    | dead => exact ih h
    | lst ws => rcases List.mem_cons.mp h with e | h; exact List.mem_cons.mpr (.inl e); exact List.mem_cons.mpr (.inr (ih h))
    | dict t ks ws => rcases List.mem_cons.mp h with e | h; exact List.mem_cons.mpr (.inl e); exact List.mem_cons.mpr (.inr (ih h))
    | obj n ws => rcases List.mem_cons.mp h with e | h; exact List.mem_cons.mpr (.inl e); exact List.mem_cons.mpr (.inr (ih h))
theorem view_take (H : Hp) (ta : List Addr) (m : Store) (n : Nat) : Same (view H ta m) (view H (ta.take n) (m.take n)) := fun a o h => by
  obtain ⟨h1, h2⟩ := hide_not h
  exact hide_of h2 fun z => h1 (live_take n ta m a z)
end
theorem Wr.low {c : Cl} {B B' : Hp} {ta : List Addr} {n : Nat} {v : V} {w : W} (e : Same B B') (h : Wr c B ta v w) (l : lowW n w = true) : Wr c B' (ta.take n) v w := by
  cases w with
  | v d => exact Rep.mono e h
  | t i =>
    obtain ⟨a, h1, h2⟩ := h
    have : i < n := by simpa [lowW] using l
    exact ⟨a, by rw [List.getElem?_take_of_lt this]; exact h1, h2⟩
theorem Wrs.low {c : Cl} {B B' : Hp} {ta : List Addr} {n : Nat} (e : Same B B') : ∀ {vs : List V} {ws : List W}, Wrs c B ta vs ws → ws.all (lowW n) = true → Wrs c B' (ta.take n) vs ws
  | [], [], _, _ => trivial
  | _ :: _, _ :: _, ⟨h, r⟩, l => by
    simp only [List.all_cons, Bool.and_eq_true] at l
    exact ⟨h.low e l.1, r.low e l.2⟩
theorem TokOk.low {c : Cl} {B B' H : Hp} {ta : List Addr} {n : Nat} {a : Addr} (e : Same B B') : ∀ {k : C}, TokOk c B H ta a k → lowC n k = true → TokOk c B' H (ta.take n) a k
  | .lst _, ⟨xs, h1, h2⟩, l => ⟨xs, h1, h2.low e l⟩
  | .dict _ _ _, q, l => by
    rcases q with ⟨t, kvs, h1, h2, h3, h4⟩ | ⟨t, kvs, h1, h2, h3, h4⟩
    · exact .inl ⟨t, kvs, h1, h2, h3, h4.low e l⟩
    · exact .inr ⟨t, kvs, h1, h2, h3, h4.low e l⟩
  | .obj _ _, ⟨dx, xs, h1, h2, h3⟩, l => ⟨dx, xs, h1, h2, h3.low e l⟩
  | .dead, _, _ => trivial
theorem Toks.take {c : Cl} {H : Hp} {ta : List Addr} {m : Store} (t : Toks c H ta m) {n : Nat} (h : (m.take n).all (lowC n) = true) : Toks c H (ta.take n) (m.take n) := by
  refine ⟨by simp [t.len], t.nd.sublist (List.take_sublist _ _), fun a ha => t.has a (List.mem_of_mem_take ha), fun i k a h1 h2 => ?_⟩
  have hi : i < n := by
    have := (List.getElem?_eq_some_iff.mp h1).1
    simp at this
    omega
  rw [List.getElem?_take_of_lt hi] at h1 h2
  refine (t.ok i k a h1 h2).low (view_take H ta m n) ?_
  rw [List.all_eq_true] at h
  refine h k (List.mem_of_getElem? (i := i) ?_)
  rw [List.getElem?_take_of_lt hi]; exact h1
theorem Post.take {c : Cl} {B H' : Hp} {ta ta' : List Addr} {m' : Store} (p : Post c B ta H' ta' m') (h : (m'.take ta.length).all (lowC ta.length) = true) : Post c B ta H' (ta'.take ta.length) (m'.take ta.length) := by
  refine ⟨p.toks.take h, ?_, p.ext.trans (view_take _ _ _ _)⟩
  obtain ⟨t, rfl⟩ := p.pre
  rw [List.take_left']
  · exact List.prefix_refl _
  · rfl
theorem Wrs.lowd {c : Cl} {B : Hp} {ta : List Addr} : ∀ {vs : List V} {ws : List W}, Wrs c B ta vs ws → ws.all (lowW ta.length) = true
  | [], [], _ => rfl
  | v :: _, w :: _, ⟨h, r⟩ => by
    rw [List.all_cons, Wrs.lowd r, Bool.and_true]
    cases w with
    | v d => rfl
    | t i =>
      obtain ⟨a, h1, _⟩ := h
      exact decide_eq_true (List.getElem?_eq_some_iff.mp h1).1
theorem TokOk.lowd {c : Cl} {B H : Hp} {ta : List Addr} {a : Addr} : ∀ {k : C}, TokOk c B H ta a k → lowC ta.length k = true
  | .lst _, ⟨_, _, h⟩ => h.lowd
  | .dict _ _ _, q => by
    rcases q with ⟨_, _, _, _, _, h⟩ | ⟨_, _, _, _, _, h⟩
    · exact h.lowd
    · exact h.lowd
  | .obj _ _, ⟨_, _, _, _, h⟩ => h.lowd
  | .dead, _ => rfl
theorem Toks.lowd {c : Cl} {H : Hp} {ta : List Addr} {m : Store} (t : Toks c H ta m) : m.all (lowC m.length) = true := by
  rw [List.all_eq_true]
  intro k hk
  obtain ⟨i, hi⟩ := List.getElem?_of_mem hk
  have hl : i < ta.length := by rw [t.len]; exact (List.getElem?_eq_some_iff.mp hi).1
  rw [← t.len]
  exact (t.ok i k ta[i] hi (List.getElem?_eq_getElem hl)).lowd
/-- behind a call: the callee's own tokens are forgotten -/
theorem truncS_run {α : Type} {c : Cl} {fe : Nat → Str} {EW : XK} {H0 H' B B' : Hp} {ta ta' ta2 : List Addr} {m0 m' : Store} {k : Store → R α} {K : α → Store → Hp → List Addr → Prop} (t : Toks c H0 ta m0) (p : Post c B ta H' ta' m')
    (h : Run c fe EW B' ta2 (truncS m0 m' k) K) : Post c B ta H' (ta'.take ta.length) (m'.take ta.length) ∧ Run c fe EW B' ta2 (k (m'.take ta.length)) K := by
  unfold truncS at h
  rw [← t.len] at h
  split at h
  · rename_i q
    refine ⟨p.take ?_, by rw [q]; exact h⟩
    rw [q, t.len]
    exact t.lowd
  · split at h
    · exact ⟨p.take (by assumption), h⟩
    · exact h.elim
theorem trunc_run {α : Type} {c : Cl} {fe : Nat → Str} {EW : XK} {H0 H' B B' : Hp} {ta ta' ta2 : List Addr} {m0 m' : Store} {k : Store → R α} {K : α → Store → Hp → List Addr → Prop} (t : Toks c H0 ta m0) (p : Post c B ta H' ta' m')
    (h : Run c fe EW B' ta2 (trunc m0 m' k) K) : ∃ ta3 m3, Post c B ta H' ta3 m3 ∧ Same (view H' ta' m') (view H' ta3 m3) ∧ Run c fe EW B' ta2 (k m3) K := by
  unfold trunc at h
  rw [← t.len] at h
  split at h
  · rename_i q
    refine ⟨_, _, p.take ?_, view_take _ _ _ _, by rw [q]; exact h⟩
    rw [q, t.len]
    exact t.lowd
  · split at h
    · exact ⟨_, _, p.take (by assumption), view_take _ _ _ _, h⟩
    · exact ⟨ta', m', p, fun _ _ z => z, h⟩

section
variable {L : Lk} {y : Sy} {N : List Str} {lv : Nat} {sc : Scope} {X : Cx} {EW : XK} {x l r : Expr} {xs : List Expr} {a b c : E} {es : EL} {pos : Pos}
/-- an object is made -/
theorem made_run {n f np : Nat} {tk : Bool} {H : Hp} {ta : List Addr} {m : Store} {ws : List W} {vs : List V} {Q : VK} (t : Toks y.c H ta m) (hv : Wrs y.c (view H ta m) ta vs ws) (ar : ∀ ws m, ws.length ≠ np → y.F.fn f ws m = .bad)
    (h : Run y.c y.fe EW (view H ta m) ta (made y.F tk n f ws m) fun w m' H' ta' => ∀ v, Wr y.c (view H' ta' m') ta' v w → Q v H') {p dx : Addr} (hp : H p = none) (hd : H dx = none) (hne : dx ≠ p) (hcs : n ∈ y.c.cs) :
    spF y (y.F.fn f) np (.ref p :: vs) (upd (upd H dx (.own p)) p (.ins (y.c.ca n) dx [])) (fun v H2 => v = .non ∧ Q (.ref p) H2) EW := by
  obtain ⟨p1, _⟩ := post_new (o := .own p) t hd
  have hp1 : (upd H dx (.own p)) p = none := by rw [upd_ne (Ne.symm hne)]; exact hp
  have p2 := post_tok (o := .ins (y.c.ca n) dx []) (k := .obj n []) p1.toks hp1 (by simp) ⟨dx, [], by rw [upd_same, List.zip_nil_right], ⟨Nat.zero_le _, hcs⟩, trivial⟩
  have p3 := p1.trans p2
  have hself : Wr y.c (view (upd (upd H dx (.own p)) p (.ins (y.c.ca n) dx [])) (ta ++ [p]) (m ++ [.obj n []])) (ta ++ [p]) (.ref p) (.t m.length) := ⟨p, by
    rw [List.getElem?_append_right (by rw [t.len]; exact Nat.le_refl _), t.len, Nat.sub_self]; rfl, rfl⟩
  refine sp_of (ws := .t m.length :: ws) p3.toks ⟨hself, hv.mono p3.ext p3.pre⟩ ar ?_
  unfold made at h
  generalize y.F.fn f (.t m.length :: ws) (m ++ [.obj n []]) = r at h ⊢
  cases r with
  | bad => exact h.elim
  | ex n' ds m' =>
    intro d H' ta' p4 e
    have p5 := p3.trans p4
    obtain ⟨p6, r⟩ := truncS_run (EW := EW) t p5 h
    refine r d H' (ta'.take ta.length) p6 ?_
    obtain ⟨x, e', h1, h2, h3⟩ := e.at_
    exact ⟨⟨x, e', h1, h2, h3.mono (view_take _ _ _ _)⟩⟩
  | ok w m' =>
    intro H' ta' p4 v hv4
    have p5 := p3.trans p4
    have hta : ta'[m.length]? = some p := by
      obtain ⟨t', e⟩ := p4.pre
      rw [← e, List.append_assoc, List.getElem?_append_right (by rw [t.len]; exact Nat.le_refl _), t.len, Nat.sub_self]
      rfl
    cases w with
    | t j => exact h.elim
    | v d =>
      cases d <;> first | exact h.elim | skip
      obtain rfl := rep_non hv4
      refine ⟨rfl, ?_⟩
      dsimp only at h
      split at h
      · exact h.at p5 (.ref p) ⟨p, hta, rfl⟩
      · split at h
        · rename_i c' us hm
          split at h
          · rename_i hc
            subst hc
            split at h
            · rename_i ds m2 hds
              obtain ⟨dx', ys, h1, h2, h3⟩ := p4.toks.ok _ _ p hm hta
              obtain ⟨pF, rF, lF⟩ := frz_run p4.toks h3 hds
              obtain ⟨p6, r⟩ := truncS_run (EW := EW) t (p5.trans pF) h
              refine r.at p6 (.ref p) (.obj (xs := ys) (dx := dx') (hide_of h1 fun z => ?_) h2 (Reps.mono (view_take _ _ _ _) rF))
              -- p is none of the first tokens
              have z1 := List.getElem?_of_mem (live_sub z)
              obtain ⟨j, hj⟩ := z1
              have hjl : j < ta.length := by
                have := (List.getElem?_eq_some_iff.mp hj).1
                simp at this
                omega
              rw [List.getElem?_take_of_lt hjl] at hj
              have e1 := List.getElem?_eq_some_iff.mp hj
              have e2 := List.getElem?_eq_some_iff.mp hta
              have := (List.getElem_inj p4.toks.nd).mp (e1.2.trans e2.2.symm)
              rw [← t.len] at this
              omega
            · exact h.elim
          · exact h.elim
        · exact h.elim
theorem s_make {n f : Nat} {tk : Bool} {cn : Str} {p : Pos} (o : XOk L y N lv sc X EW) (hc : (n, cn) ∈ L.clss) (hf : (n, f, ("__init__" : Str)) ∈ L.meths) (hg : glB sc cn = true) (hd : (cn == ("__debug__" : Str)) = false) (ha : PA X (x :: xs) (tL y EW es)) (h1 : nstar x = true) (h2 : nstars xs = true) :
    PE X (.Call (.Name cn p) (x :: xs) [] pos) (tE y EW (.make tk n f es)) := by
  obtain ⟨e1, _⟩ := o.lnk.cls n cn hc
  have hcs : n ∈ y.c.cs := by rw [← o.lnk.hcs]; exact List.mem_map.mpr ⟨_, hc, rfl⟩
  obtain ⟨ad, fd, ps, M, B, F, ar⟩ := o.lnk.init n f hf
  refine (pe_make M F o.room (gl_of o hg) e1 B .nil o.pass ha hd (star_cons h1) (any_of h2)).imp fun σ H Q ⟨env, m, ta, s, r⟩ => ⟨env, m, ta, s, ?_⟩
  simp only [ev] at r
  refine r.bind.mono fun ws m1 H1 ta1 p1 r1 vs hvs q dx hq hdx hne => ?_
  rw [List.append_nil]
  exact made_run p1.toks hvs ar r1 hq hdx hne hcs

/-! ### own len, own == -/
def rLenO (K : PySem.W.Frag) (C : Addr) (sp : Sp) : List V → Hp → VK → Prop := fun xs H Q => ∃ a dx fs, xs = [.ref a] ∧ H a = some (.ins C dx fs) ∧ sp [.ref a] H (fun v H' => ∃ n : Int, v = .int n ∧ (0 ≤ n ∧ n < 2 ^ 63) ∧ Q (.int n) H') E0
theorem cr_lenO {k : Nat} {f C : Addr} {fd : FuncData} {ps : List Str} {sp : Sp} (F : FnOk X.prog X.w X.K X.mg X.base (L2.CX X.prog X.w) k f fd ps sp) (hr : Room (k + 1) X.A) (hb : Binds X.K fd ps [])
    (hs : PySem.W.findIn X.K (.ref C) "__len__" = some (some (.ref f))) (hf : PySem.W.isFn X.K (.ref f) = true) : CallR X (.builtin "len") (rLenO X.K C sp) := by
  intro pins s σ H xs us Q I r h
  obtain ⟨a, dx, fs, rfl, ha, h⟩ := h
  obtain ⟨u, rfl, ru⟩ := vals1 r
  cases ru
  obtain ⟨mA, J, _⟩ := ins_get I.hok ha
  obtain ⟨od, J, _⟩ := J.look
  obtain ⟨m, hF⟩ := I.fr
  refine PySem.W.len_K hF I.ok.mod.kin J hs hf ?_
  have hl := F.len _ _ _ _ h
  have e0 : Env0 X.prog X.w X.K X.mg X.base X.A.in1 X.stack s H := I.env0.in1
  refine wpAny_call (codeAny_mono (F.run X.A.in1 X.stack s H ⟨[.ref a], []⟩ [.ref a] [.ref a] _ E0 hr.in1 e0 (by
    have := hb s [.ref a] I.kIn (by simpa using hl)
    simpa using this) (.cons rfl .nil) h) fun r s' hq => ?_)
  cases r with
  | error e => exact passL pins σ H s e s' I hq
  | ok fl =>
    cases fl with
    | ret w =>
      obtain ⟨z, H', I', rz, n, rfl, hn, q⟩ := I.after hq
      obtain ⟨tt, rfl⟩ := rz
      exact ⟨hn, .int n, H', I'.tok _, ⟨_, rfl⟩, q⟩
    | next => exact False.elim hq
    | brk => exact False.elim hq
    | cont => exact False.elim hq
theorem o_bt (o : XOk L y N lv sc X EW) {n : Str} (h : bltNames.contains n = true) : X.mg n = none := o.lnk.bt n (by simpa using h)
theorem one_run {env : Env} {B : Hp} {ta : List Addr} {m : Store} {P : List V → Hp → Prop} (h : Run y.c y.fe EW B ta (ev y.F a env m) fun w m1 H1 ta1 => ∀ v, Wr y.c (view H1 ta1 m1) ta1 v w → P [v] H1) :
    Run y.c y.fe EW B ta (evL y.F (.cons a .nil) env m) fun ws m1 H1 ta1 => ∀ vs, Wrs y.c (view H1 ta1 m1) ta1 vs ws → P vs H1 := by
  simp only [evL]
  generalize ev y.F a env m = q at h ⊢
  cases q with
  | bad => exact h
  | ex n ds m1 => exact h
  | ok w m1 =>
    intro H1 ta1 p1 vs hvs
    cases vs with
    | nil => exact hvs.elim
    | cons v vs =>
      cases vs with
      | nil => exact h.at p1 v hvs.1
      | cons _ _ => exact hvs.2.elim
theorem s_leno {n f : Nat} {p : Pos} (o : XOk L y N lv sc X EW) (hf : (n, f) ∈ L.lens) (hg : glB sc "len" = true) (ha : PA X [x] (tL y EW (.cons a .nil))) (h1 : nstar x = true) : PE X (.Call (.Name "len" p) [x] [] pos) (tE y EW (.leno n f a)) := by
  obtain ⟨ad, fd, ps, e1, e2, B, F, ar⟩ := o.lnk.lens n f hf
  refine (pe_callB (cr_lenO F o.room B e1 e2) (gl_of o hg) (o_bt o (by decide +kernel)) PySem.boot_len ha (by decide) (by decide) (star_cons h1) rfl).imp fun σ H Q ⟨env, m, ta, s, r⟩ => ⟨env, m, ta, s, one_run (P := fun vs H1 => rLenO X.K (y.c.ca n) (spF y (y.F.fn f) ps.length) vs H1 Q) ?_⟩
  simp only [ev] at r
  refine r.bind.mono fun w m1 H1 ta1 p1 r1 v hv => ?_
  split at r1
  · rename_i hcl
    obtain ⟨ad, dx, ys, rfl, h2⟩ := obj_of p1.toks hv hcl
    refine ⟨ad, dx, _, rfl, h2, sp_of (ws := [w]) (vs := [.ref ad]) p1.toks ⟨hv, trivial⟩ ar ?_⟩
    have r2 := r1.bind
    generalize y.F.fn f [w] m1 = q at r2 ⊢
    cases q with
    | bad => exact r2.elim
    | ex _ _ _ => exact r2.elim
    | ok u m2 =>
      intro H2 ta2 p2 v2 hv2
      obtain ⟨i, rfl, r3⟩ := onI_run (r2.at p2)
      obtain rfl := rep_int hv2
      split at r3
      · exact ⟨i, rfl, by omega, r3.here p2.toks _ (.int _)⟩
      · exact r3.elim
  · exact r1.elim
/-! own == -/
def rEqO (K : PySem.W.Frag) (C : Addr) (sp : Sp) : R2 := fun x y H Q => ∃ a dx fs, x = .ref a ∧ H a = some (.ins C dx fs) ∧ ((∃ b dy gs, y = .ref b ∧ H b = some (.ins C dy gs)) ∨ ∃ b ys, y = .ref b ∧ SqT K H b ys) ∧ sp [x, y] H Q E0
theorem op_eqO {k : Nat} {f C : Addr} {fd : FuncData} {ps : List Str} {sp : Sp} (F : FnOk X.prog X.w X.K X.mg X.base (L2.CX X.prog X.w) k f fd ps sp) (hr : Room k X.A) (hb : Binds X.K fd ps []) (ht : PySem.W.subIn X.K (.type "tuple") (.ref C) = some false)
    (hs : PySem.W.findIn X.K (.ref C) "__eq__" = some (some (.ref f))) (hf : PySem.W.isFn X.K (.ref f) = true) : OpR X (compareOp .Eq) (rEqO X.K C sp) := by
  intro pins s σ H x y v u Q I rx ry h
  obtain ⟨a, dx, fs, rfl, ha, hy, h⟩ := h
  cases rx
  obtain ⟨mA, J, _⟩ := ins_get I.hok ha
  obtain ⟨od, J, _⟩ := J.look
  obtain ⟨m, hF⟩ := I.fr
  have hl := F.len _ _ _ _ h
  have r2 : Vals [V.ref a, y] [Value.ref a, u] := .cons rfl (.cons ry .nil)
  show wpAny (model X.prog X.w) X.A (richCompare .Eq (.ref a) u) (EP X pins σ Q) X.xe s
  have fin : wpAny (model X.prog X.w) X.A (call (.ref f) [.ref a, u]) (PySem.W.CmpBack (EP X pins σ Q)) X.xe s := by
    refine wpAny_call (codeAny_mono (F.run X.A X.stack s H ⟨[.ref a, u], []⟩ [.ref a, u] [.ref a, y] Q E0 hr I.env0 (by
      have := hb s [.ref a, u] I.kIn (by simpa using hl)
      simpa using this) r2 h) fun r s' hq => ?_)
    cases r with
    | error e => exact passL pins σ H s e s' I hq
    | ok fl =>
      cases fl with
      | ret w =>
        obtain ⟨z, H', I', rz, q⟩ := I.after hq
        have : EP X pins σ Q w s' := ⟨z, H', I', rz, q⟩
        cases z with
        | non => cases rz; exact this
        | bl _ => cases rz; exact this
        | int _ => obtain ⟨t, rfl⟩ := rz; exact this
        | str _ => obtain ⟨t, rfl⟩ := rz; exact this
        | byt _ => obtain ⟨t, rfl⟩ := rz; exact this
        | flt _ => obtain ⟨t, rfl⟩ := rz; exact this
        | ref _ => cases rz; exact this
        | ty _ => cases rz; exact this
      | next => exact False.elim hq
      | brk => exact False.elim hq
      | cont => exact False.elim hq
  rcases hy with ⟨b, dy, gs, rfl, hb'⟩ | ⟨b, ys, rfl, hb'⟩
  · cases ry
    obtain ⟨mB, J', _⟩ := ins_get I.hok hb'
    obtain ⟨od', J', _⟩ := J'.look
    exact PySem.W.cmp_K (op := .Eq) (tb := .ref C) hr.units0 hF I.ok.mod.kin J J'.type (by simp [PySem.W.notFirst]) hs hf fin
  · cases ry
    obtain ⟨its, rv, ⟨ob, ho, hoc, _⟩, _⟩ := I.tuple hb'
    exact PySem.W.cmp_K (op := .Eq) (tb := .type "tuple") hr.units0 hF I.ok.mod.kin J (hoc ▸ (PySem.W.Looks.ld ho).andThen .now) (by simp [PySem.W.notFirst, ht]) hs hf fin
theorem s_eqo {n f : Nat} (o : XOk L y N lv sc X EW) (hf : (n, f) ∈ L.eqs) (ha : PE X l (tE y EW a)) (hb : PE X r (tE y EW b)) : PE X (.Compare l [.Eq] [r] pos) (tE y EW (.eqo n f a b)) ∧ PT X (.Compare l [.Eq] [r] pos) (tT y EW (.eqo n f a b)) := by
  obtain ⟨ht, ad, fd, ps, e1, e2, B, F, ar⟩ := o.lnk.eqs n f hf
  have op := op_eqO F o.room0 B ht e1 e2
  have key : ∀ {K : W → Store → Hp → List Addr → Prop} {Q : VK} {σ : L2.St} {H : Hp} {env : Env} {m : Store} {ta : List Addr}, Sit y.c σ H env m ta → (∀ b m' H' ta', K (.v (.bl b)) m' H' ta' → Q (.bl b) H') → (∀ w m' H' ta', K w m' H' ta' → ∀ v, Wr y.c (view H' ta' m') ta' v w → Q v H') →
      Run y.c y.fe EW (view H ta m) ta (ev y.F (.eqo n f a b) env m) K → tOp (rEqO X.K (y.c.ca n) (spF y (y.F.fn f) ps.length)) (tE y EW a) (tE y EW b) σ H Q := fun {K Q σ H env m ta} s _ hK r => by
    refine ⟨env, m, ta, s, ?_⟩
    simp only [ev] at r
    refine r.bind.mono fun w m1 H1 ta1 p r1 v hv => ⟨env, m1, ta1, s.step p, ?_⟩
    refine r1.bind.mono fun u m2 H2 ta2 p2 r2 z hz => ?_
    split at r2
    · rename_i hc
      simp only [Bool.and_eq_true, Bool.or_eq_true] at hc
      have hv2 := hv.mono p2.ext p2.pre
      obtain ⟨ad, dx, ys, rfl, h1⟩ := obj_of p2.toks hv2 hc.1
      refine ⟨ad, dx, _, rfl, h1, ?_, ?_⟩
      · rcases hc.2 with h | h
        · obtain ⟨bd, dy, zs, rfl, h2⟩ := obj_of p2.toks hz h
          exact .inl ⟨bd, dy, _, rfl, h2⟩
        · cases u with
          | t j => cases h
          | v d =>
            cases d <;> first | cases h | skip
            cases hz with | tup hs hi r => exact .inr ⟨_, _, rfl, o.lnk.hK ▸ seq_mono (view_sub _ _ _) hs⟩
      · exact sp_of (ws := [w, u]) (vs := [.ref ad, z]) p2.toks ⟨hv2, hz, trivial⟩ ar ((noex_run r2).mono fun w3 m3 H3 ta3 p3 k => hK w3 m3 H3 ta3 k)
    · exact r2.elim
  constructor
  · exact (pe_cmpR op ha hb (nomark _)).imp fun σ H Q ⟨env, m, ta, s, r⟩ => key s (fun b m' H' ta' k => k _ (.bl _)) (fun w m' H' ta' k => k) r
  · refine (pt_cmpR op ha hb (nomark _)).imp fun σ H Q ⟨env, m, ta, s, r⟩ => key (Q := fun x H' => ∃ k, x = .bl k ∧ Q k H') s (fun b m' H' ta' ⟨b', e, q⟩ => by cases e; exact ⟨_, rfl, q⟩) (fun w m' H' ta' ⟨b', e, q⟩ v hv => ?_) r
    subst e
    exact ⟨b', rep_bl hv, q⟩

/-! ### built-in functions -/
def Snaps (c : Cl) (B H : Hp) : List V → List D → Prop
  | [], [] => True
  | v :: vs, d :: ds => Snap c B H v d ∧ Snaps c B H vs ds
  | _, _ => False
theorem asDs_of {c : Cl} {H : Hp} {ta : List Addr} {m : Store} : ∀ {vs : List V} {ws : List W} {ds : List D}, Toks c H ta m → Wrs c (view H ta m) ta vs ws → asDs m ws = some ds → Snaps c (view H ta m) H vs ds
  | [], [], _, _, _, e => by cases e; trivial
  | v :: vs, w :: ws, _, t, ⟨h, r⟩, e => by
    simp only [asDs] at e
    obtain ⟨d, e1, e2⟩ := Option.bind_eq_some_iff.mp e
    obtain ⟨ds, e3, rfl⟩ := Option.map_eq_some_iff.mp e2
    exact ⟨snap_of t h e1, asDs_of t r e3⟩
theorem Snaps.one {c : Cl} {B H : Hp} {vs : List V} {d : D} (s : Snaps c B H vs [d]) : ∃ v, vs = [v] ∧ Snap c B H v d := by
  cases vs with
  | nil => exact s.elim
  | cons v vs =>
    cases vs with
    | nil => exact ⟨v, rfl, s.1⟩
    | cons _ _ => exact s.2.elim
theorem Snaps.two {c : Cl} {B H : Hp} {vs : List V} {d e : D} (s : Snaps c B H vs [d, e]) : ∃ v u, vs = [v, u] ∧ Snap c B H v d ∧ Snap c B H u e := by
  cases vs with
  | nil => exact s.elim
  | cons v vs =>
    obtain ⟨u, rfl, h⟩ := Snaps.one (vs := vs) s.2
    exact ⟨v, u, rfl, s.1, h⟩
/-- a built-in function: its python name, what is called -/
def bfB : BF → Str → Bool
  | .len, n => n == "len"
  | .all, n => n == "all"
  | .any, n => n == "any"
  | .int, n => n == "int"
  | .max, n => n == "max"
  | .tuple, n => n == "tuple"
  | .list, n => n == "list"
  | _, _ => false
theorem bf_no {c : Cl} {fe : Nat → Str} {B : Hp} {ta : List Addr} {bf : BF} {tk : Bool} {ds : List D} {m : Store} {k : W → Store → Hp → List Addr → Prop} (h : Run c fe EW B ta (bfR bf tk ds m) k) (hn : bfL bf ds = none) : ∃ d, bfD bf ds = some d ∧ Run c fe EW B ta (.ok (.v d) m) k := by
  unfold bfR at h
  rw [hn] at h
  exact ofD_run h
theorem s_bi {bf : BF} {tk : Bool} {n : Str} {p : Pos} (o : XOk L y N lv sc X EW) (hb : bfB bf n = true) (hg : glB sc n = true) (ha : PA X (x :: xs) (tL y EW es)) (h1 : nstar x = true) (h2 : nstars xs = true) : PE X (.Call (.Name n p) (x :: xs) [] pos) (tE y EW (.bi bf tk es)) := by
  have main : ∀ {r : List V → Hp → VK → Prop}, (∀ (H : Hp) (ta : List Addr) (m : Store) (vs : List V) (ds : List D) (Q : VK), Toks y.c H ta m → Snaps y.c (view H ta m) H vs ds →
      Run y.c y.fe EW (view H ta m) ta (bfR bf tk ds m) (fun w m' H' ta' => ∀ v, Wr y.c (view H' ta' m') ta' v w → Q v H') → r vs H Q) → ∀ σ H Q, tE y EW (.bi bf tk es) σ H Q → tCB r (tL y EW es) σ H Q := fun {r} hr σ H Q ⟨env, m, ta, s, rr⟩ => by
    refine ⟨env, m, ta, s, ?_⟩
    simp only [ev] at rr
    refine rr.bind.mono fun ws m1 H1 ta1 p1 r1 vs hvs => ?_
    obtain ⟨ds, e, r1⟩ := onO_run r1
    exact hr H1 ta1 m1 vs ds Q p1.toks (asDs_of p1.toks hvs e) r1
  have hd : ∀ {k : Str}, n = k → (k == ("__debug__" : Str)) = false → (n == ("__debug__" : Str)) = false := fun h q => h ▸ q
  cases bf <;> simp only [bfB, beq_iff_eq, Bool.false_eq_true] at hb <;> subst hb
  · -- len
    refine (pe_callB cr_len (gl_of o hg) (o_bt o (by decide +kernel)) PySem.boot_len ha (by decide) (by decide) (star_cons h1) (any_of h2)).imp (main fun H ta m vs ds Q t sn r => ?_)
    obtain ⟨d, e, r⟩ := bf_no r (by cases ds <;> rfl)
    have sm := view_sub H ta m
    rcases ds with _ | ⟨d0, _ | ⟨_, _⟩⟩ <;> simp only [bfD, reduceCtorEq] at e
    obtain ⟨k, e1, rfl⟩ := Option.map_eq_some_iff.mp e
    obtain ⟨v, rfl, sv⟩ := sn.one
    refine ⟨k, r.here t _ (.int _), ?_⟩
    cases d0 <;> simp only [lenD, reduceCtorEq, Option.some.injEq] at e1
    · obtain ⟨rfl, _⟩ := sv.str
      split at e1
      · cases e1; exact .inr (.inl ⟨_, rfl, lim_size (by assumption), rfl⟩)
      · cases e1
    · obtain ⟨a, ys, rfl, h3, _, r3⟩ := sv.tup
      exact .inl ⟨a, ys, rfl, .inr (o.lnk.hK ▸ seq_mono sm h3), r3.length.trans e1⟩
    · obtain ⟨a, ys, rfl, h3, r3⟩ := sv.list sm
      exact .inl ⟨a, ys, rfl, .inl (.inl h3), r3.length.trans e1⟩
    · obtain ⟨a, rfl, hd⟩ := sv.dict sm
      rcases hd with ⟨_, kvs, h3, rfl, _, _⟩ | ⟨_, kvs, h3, rfl, _, _⟩
      · exact .inr (.inr (.inl ⟨a, kvs, rfl, h3, by simpa using e1⟩))
      · exact .inr (.inr (.inr ⟨a, kvs, rfl, h3, by simpa using e1⟩))
  · -- all
    refine (pe_callB (cr_all o.calm) (gl_of o hg) (o_bt o (by decide +kernel)) PyProof.Rows.boot_all ha (by decide) (by decide) (star_cons h1) (any_of h2)).imp (main fun H ta m vs ds Q t sn r => ?_)
    obtain ⟨d, e, r⟩ := bf_no r (by cases ds <;> rfl)
    rcases ds with _ | ⟨d0, _ | ⟨_, _⟩⟩ <;> simp only [bfD, reduceCtorEq] at e
    cases d0 <;> simp only [bfD, reduceCtorEq] at e
    obtain ⟨bs, e1, rfl⟩ := Option.map_eq_some_iff.mp e
    obtain ⟨v, rfl, sv⟩ := sn.one
    obtain ⟨a, ys, rfl, h3, r3⟩ := sv.list (view_sub H ta m)
    obtain rfl := bools_of r3 e1
    exact ⟨a, bs, rfl, .inl h3, r.here t _ (.bl _)⟩
  · -- any
    refine (pe_callB (cr_any o.calm) (gl_of o hg) (o_bt o (by decide +kernel)) PyProof.Rows.boot_any ha (by decide) (by decide) (star_cons h1) (any_of h2)).imp (main fun H ta m vs ds Q t sn r => ?_)
    obtain ⟨d, e, r⟩ := bf_no r (by cases ds <;> rfl)
    rcases ds with _ | ⟨d0, _ | ⟨_, _⟩⟩ <;> simp only [bfD, reduceCtorEq] at e
    cases d0 <;> simp only [bfD, reduceCtorEq] at e
    obtain ⟨bs, e1, rfl⟩ := Option.map_eq_some_iff.mp e
    obtain ⟨v, rfl, sv⟩ := sn.one
    obtain ⟨a, ys, rfl, h3, r3⟩ := sv.list (view_sub H ta m)
    obtain rfl := bools_of r3 e1
    exact ⟨a, bs, rfl, .inl h3, r.here t _ (.bl _)⟩
  · -- int
    refine (pe_callTy call_int1 (gl_of o hg) (o_bt o (by decide +kernel)) (by decide +kernel) ha (by decide) (by decide) (star_cons h1) (any_of h2)).imp (main fun H ta m vs ds Q t sn r => ?_)
    obtain ⟨d, e, r⟩ := bf_no r (by cases ds <;> rfl)
    rcases ds with _ | ⟨d0, _ | ⟨_, _⟩⟩ <;> simp only [bfD, reduceCtorEq] at e
    cases d0 <;> simp only [bfD, reduceCtorEq, Option.some.injEq] at e
    · subst e
      obtain ⟨v, rfl, sv⟩ := sn.one
      obtain rfl := sv.bl
      exact .inr ⟨_, rfl, r.here t _ (.int _)⟩
    · subst e
      obtain ⟨v, rfl, sv⟩ := sn.one
      obtain rfl := sv.int
      exact .inl ⟨_, rfl, r.here t _ (.int _)⟩
  · -- max
    refine (pe_callB (call_max2 o.calm) (gl_of o hg) (o_bt o (by decide +kernel)) PyProof.Rows.boot_max ha (by decide) (by decide) (star_cons h1) (any_of h2)).imp (main fun H ta m vs ds Q t sn r => ?_)
    obtain ⟨d, e, r⟩ := bf_no r (by cases ds <;> rfl)
    rcases ds with _ | ⟨d0, _ | ⟨d1, _ | ⟨_, _⟩⟩⟩ <;> simp only [bfD, reduceCtorEq] at e
    cases d0 <;> cases d1 <;> simp only [bfD, reduceCtorEq, Option.some.injEq] at e
    subst e
    obtain ⟨v, u, rfl, sv, su⟩ := sn.two
    obtain rfl := sv.int
    obtain rfl := su.int
    exact ⟨_, _, rfl, r.here t _ (.int _)⟩
  · -- tuple
    refine (pe_callTy call_tuple_of (gl_of o hg) (o_bt o (by decide +kernel)) (by decide +kernel) ha (by decide) (by decide) (star_cons h1) (any_of h2)).imp (main fun H ta m vs ds Q t sn r => ?_)
    obtain ⟨d, e, r⟩ := bf_no r (by cases ds <;> rfl)
    rcases ds with _ | ⟨d0, _ | ⟨_, _⟩⟩ <;> simp only [bfD, reduceCtorEq] at e
    obtain ⟨es', e1, rfl⟩ := Option.map_eq_some_iff.mp e
    obtain ⟨v, rfl, sv⟩ := sn.one
    cases d0 <;> simp only [seqD, reduceCtorEq, Option.some.injEq] at e1 <;> subst e1
    · obtain ⟨a, ys, rfl, h3, i3, r3⟩ := sv.tup
      exact ⟨a, ys, rfl, .inr ⟨o.lnk.hK ▸ seq_mono (view_sub H ta m) h3, r.here t _ (.tup h3 i3 r3)⟩⟩
    · obtain ⟨a, ys, rfl, h3, r3⟩ := sv.list (view_sub H ta m)
      exact ⟨a, ys, rfl, .inl ⟨.inl h3, fun q hq => (New.of t r).2 q _ hq fun B' e1 e2 => .tup (.inl (.inl e2)) (fun _ => e2) (Reps.mono e1 r3)⟩⟩
  · -- list
    refine (pe_callTy call_list_of (gl_of o hg) (o_bt o (by decide +kernel)) (by decide +kernel) ha (by decide) (by decide) (star_cons h1) (any_of h2)).imp (main fun H ta m vs ds Q t sn r => ?_)
    rcases ds with _ | ⟨d0, _ | ⟨_, _⟩⟩ <;> simp only [bfR, bfL, bfD, ofD] at r
    · exact r.elim
    · obtain ⟨v, rfl, sv⟩ := sn.one
      cases d0 <;> simp only [seqD] at r <;> first | exact r.elim | skip
      · obtain ⟨a, ys, rfl, h3, i3, r3⟩ := sv.tup
        exact ⟨a, ys, rfl, .inr (o.lnk.hK ▸ seq_mono (view_sub H ta m) h3), (lay_list t (Wrs.of r3) r).2⟩
      · obtain ⟨a, ys, rfl, h3, r3⟩ := sv.list (view_sub H ta m)
        exact ⟨a, ys, rfl, .inl (.inl h3), (lay_list t (Wrs.of r3) r).2⟩
    · exact r.elim
end
end Cy

set_option Elab.async false
set_option linter.all false
set_option maxRecDepth 100000
set_option maxHeartbeats 2000000
/-! CySound5: isinstance, methods of texts and lists. -/
namespace Cy
open PySem L2
open PySem.PyData (strOk)
section
variable {L : Lk} {y : Sy} {N : List Str} {lv : Nat} {sc : Scope} {X : Cx} {EW : XK} {x l r : Expr} {xs : List Expr} {a b c : E} {es : EL} {pos : Pos}

/-- a value's type, as the layer tells it -/
theorem ty_of {H : Hp} {ta : List Addr} {m : Store} {v : V} {w : W} {t : Ty} (o : XOk L y N lv sc X EW) (tk : Toks y.c H ta m) (h : Wr y.c (view H ta m) ta v w) (e : tyOf m w = some t) (hc : okTy L t = true) : TyX X.K H v (tyVal y.c t) := by
  have sm := view_sub H ta m
  have ins : ∀ {a dx : Addr} {fs : List (Str × V)} {n : Nat}, H a = some (.ins (y.c.ca n) dx fs) → okTy L (.cls n) = true → TyX X.K H (.ref a) (.ref (y.c.ca n)) := fun {a dx fs n} h hn => by
    unfold okTy at hn
    have hn : n ∈ L.clss.map (·.1) := by simpa using hn
    obtain ⟨⟨n', cn⟩, hm, rfl⟩ := List.mem_map.mp hn
    obtain ⟨_, e1, e2, e3⟩ := o.lnk.cls n' cn hm
    exact .base (.ins h e3 e1 o.lnk.gcls.1 o.lnk.gcls.2 e2)
  cases w with
  | v d =>
    cases d <;> simp only [tyOf, Option.some.injEq] at e <;> subst e
    · cases h; exact .base .non
    · cases h; exact .base (.bl _)
    · cases h; exact .base (.int _)
    · cases h; exact .base (.str _)
    · cases h with
      | tup hs hi r =>
        rcases seq_mono sm hs with (h | ⟨ob, h⟩) | ⟨ob, its, n, h1, h2, _⟩
        · exact .base (.tup h)
        · exact .fTuple h
        · exact .kTuple (o.lnk.hK ▸ h1) h2
    · cases h with
      | lst hs r =>
        rcases rd_mono sm hs with h | ⟨ob, h⟩
        · exact .base (.lst h)
        · exact .base (.frz h)
    · cases h with
      | dK h _ _ => exact .base (.dK (sm _ _ h))
      | dT h _ _ => exact .base (.dT (sm _ _ h))
    · cases h with | obj h _ _ => exact ins (sm _ _ h) hc
  | t n =>
    obtain ⟨a, h1, rfl⟩ := h
    simp only [tyOf] at e
    split at e
    · rename_i ws q
      cases e
      obtain ⟨xs, h2, _⟩ := tk.ok n _ a q h1
      exact .base (.lst h2)
    · rename_i t ks ws q
      cases e
      rcases tk.ok n _ a q h1 with ⟨_, kvs, h2, _⟩ | ⟨_, kvs, h2, _⟩
      · exact .base (.dK h2)
      · exact .base (.dT h2)
    · rename_i c ws q
      cases e
      obtain ⟨dx, xs, h2, _⟩ := tk.ok n _ a q h1
      exact ins h2 hc
    · cases e
/-- a class as it is written -/
def tyB (L : Lk) (sc : Scope) : Ty → Expr → Bool
  | .int, .Name n _ => n == "int" && glB sc n
  | .bool, .Name n _ => n == "bool" && glB sc n
  | .str, .Name n _ => n == "str" && glB sc n
  | .tuple, .Name n _ => n == "tuple" && glB sc n
  | .list, .Name n _ => n == "list" && glB sc n
  | .dict, .Name n _ => n == "dict" && glB sc n
  | .cls c, .Name n _ => L.clss.contains (c, n) && glB sc n && !(n == "__debug__")
  | _, _ => false
def tyV' (c : Cl) : Ty → V
  | .non => .ty "NoneType"
  | .int => .ty "int"
  | .bool => .ty "bool"
  | .str => .ty "str"
  | .tuple => .ty "tuple"
  | .list => .ty "list"
  | .dict => .ty "dict"
  | .cls n => .ref (c.ca n)
theorem tyV_cls (c : Cl) (t : Ty) : ClsV (tyV' c t) (tyVal c t) := by cases t <;> first | exact .ty _ | exact .own _
theorem s_ty {t : Ty} (o : XOk L y N lv sc X EW) (h : tyB L sc t x = true) : PE X x (tC (tyV' y.c t)) ∧ okTy L t = true ∧ nstar x = true := by
  cases t <;> cases x <;> simp only [tyB, Bool.false_eq_true, Bool.and_eq_true, beq_iff_eq, Bool.not_eq_true'] at h
  · obtain ⟨rfl, h⟩ := h; exact ⟨pe_bltn (gl_of o h) (o_bt o (by decide +kernel)) (by decide +kernel) rfl, rfl, rfl⟩
  · obtain ⟨rfl, h⟩ := h; exact ⟨pe_bltn (gl_of o h) (o_bt o (by decide +kernel)) (by decide +kernel) rfl, rfl, rfl⟩
  · obtain ⟨rfl, h⟩ := h; exact ⟨pe_bltn (gl_of o h) (o_bt o (by decide +kernel)) (by decide +kernel) rfl, rfl, rfl⟩
  · obtain ⟨rfl, h⟩ := h; exact ⟨pe_bltn (gl_of o h) (o_bt o (by decide +kernel)) (by decide +kernel) rfl, rfl, rfl⟩
  · obtain ⟨rfl, h⟩ := h; exact ⟨pe_bltn (gl_of o h) (o_bt o (by decide +kernel)) (by decide +kernel) rfl, rfl, rfl⟩
  · obtain ⟨rfl, h⟩ := h; exact ⟨pe_bltn (gl_of o h) (o_bt o (by decide +kernel)) (by decide +kernel) rfl, rfl, rfl⟩
  · rename_i n cn p
    obtain ⟨⟨h1, h2⟩, h3⟩ := h
    have h1 : (n, cn) ∈ L.clss := by simpa using h1
    refine ⟨pe_glob (gl_of o h2) (o.lnk.cls n cn h1).1 rfl h3, ?_, rfl⟩
    unfold okTy
    simp only [List.contains_eq_mem, decide_eq_true_eq]
    exact List.mem_map.mpr ⟨_, h1, rfl⟩
theorem ok_ty {H : Hp} {ta : List Addr} {m : Store} {v : V} {w : W} {t : Ty} (o : XOk L y N lv sc X EW) (tk : Toks y.c H ta m) (h : Wr y.c (view H ta m) ta v w) (e : tyOf m w = some t) : okTy L t = true := by
  have cls : ∀ {n : Nat}, n ∈ y.c.cs → okTy L (.cls n) = true := fun {n} h => by
    unfold okTy
    rw [o.lnk.hcs]
    simpa using h
  cases w with
  | v d =>
    cases d <;> simp only [tyOf, Option.some.injEq] at e <;> subst e <;> first | rfl | skip
    cases h with | obj h hl _ => exact cls hl.2
  | t n =>
    obtain ⟨a, h1, rfl⟩ := h
    simp only [tyOf] at e
    split at e <;> first | (cases e; done) | skip
    · cases e; rfl
    · cases e; rfl
    · rename_i c ws q
      cases e
      obtain ⟨dx, xs, h2, h3, _⟩ := tk.ok n _ a q h1
      exact cls h3.2
theorem s_isi1 {t : Ty} {p : Pos} {T : Expr} (o : XOk L y N lv sc X EW) (hg : glB sc "isinstance" = true) (hT : tyB L sc t T = true) (ha : PE X x (tE y EW a)) (h1 : nstar x = true) : PE X (.Call (.Name "isinstance" p) [x, T] [] pos) (tE y EW (.isi a [t])) := by
  obtain ⟨hp, ht, hn⟩ := s_ty o hT
  refine (pe_callB call_isi (gl_of o hg) (o_bt o (by decide +kernel)) PyProof.Rows.boot_isinstance (pa_cons ha (pa_cons hp pa_nil (star_cons hn)) (star_cons h1)) (by decide) (by decide) (star_cons h1) (any_of (by simp [nstars, hn]))).imp fun σ H Q ⟨env, m, ta, s, r⟩ => ⟨env, m, ta, s, ?_⟩
  simp only [ev] at r
  refine r.bind.mono fun w m1 H1 ta1 p1 r1 v hv => ?_
  obtain ⟨t', e, r1⟩ := onO_run r1
  show rIsi X.K [v, tyV' y.c t] H1 Q
  have ok := ok_ty o p1.toks hv e
  refine ⟨v, _, _, _, isTy t' t, rfl, tyV_cls _ _, ty_of o p1.toks hv e ok, o.lnk.kit t' t ok ht, ?_⟩
  have := r1.here p1.toks (.bl (isTy t' t)) (by simp [Wr]; exact .bl _)
  exact this
/-- several classes -/
def tysB (L : Lk) (sc : Scope) : List Ty → List Expr → Bool
  | [], [] => true
  | t :: ts, x :: xs => tyB L sc t x && tysB L sc ts xs
  | _, _ => false
def tCs : List V → TA
  | [] => tNil
  | v :: vs => tCons (tC v) (tCs vs)
theorem tCs_run {σ : L2.St} {H : Hp} {Q : List V → Hp → Prop} : ∀ vs : List V, Q vs H → tCs vs σ H Q
  | [], h => h
  | v :: vs, h => tCs_run (Q := fun ws H' => Q (v :: ws) H') vs h
theorem s_tys (o : XOk L y N lv sc X EW) : ∀ {ts : List Ty} {xs : List Expr}, tysB L sc ts xs = true → PA X xs (tCs (ts.map (tyV' y.c))) ∧ (∀ t ∈ ts, okTy L t = true) ∧ xs.length = ts.length
  | [], [], _ => ⟨pa_nil, by simp, rfl⟩
  | t :: ts, x :: xs, h => by
    simp only [tysB, Bool.and_eq_true] at h
    obtain ⟨h1, h2, h3⟩ := s_ty o h.1
    obtain ⟨h4, h5, h6⟩ := s_tys o h.2
    refine ⟨pa_cons h1 h4 (star_cons h3), fun u hu => ?_, by simp [h6]⟩
    rcases List.mem_cons.mp hu with rfl | hu
    · exact h2
    · exact h5 u hu
theorem any_ty {t : Ty} (o : XOk L y N lv sc X EW) (ht : okTy L t = true) : ∀ ts : List Ty, (∀ u ∈ ts, okTy L u = true) → PySem.W.kitAny X.K (tyVal y.c t) (ts.map (tyVal y.c)) = some (ts.any (isTy t))
  | [], _ => kitAny_nil
  | u :: us, h => kitAny_cons (o.lnk.kit t u ht (h u List.mem_cons_self)) (fun e => by rw [List.any_cons, e, Bool.false_or]; exact any_ty o ht us fun v hv => h v (List.mem_cons_of_mem _ hv)) (fun e => by rw [List.any_cons, e]; rfl)
theorem cls_all (c : Cl) : ∀ ts : List Ty, Paired ClsV (ts.map (tyV' c)) (ts.map (tyVal c))
  | [] => .nil
  | t :: ts => .cons (tyV_cls c t) (cls_all c ts)
theorem s_isiN {ts : List Ty} {p tp : Pos} {k : Nat} (o : XOk L y N lv sc X EW) (hg : glB sc "isinstance" = true) (hT : tysB L sc ts xs = true) (hl : ts.length ≤ 10) (ha : PE X x (tE y EW a)) (h1 : nstar x = true) :
    PE X (.Call (.Name "isinstance" p) [x, .Tuple xs k tp] [] pos) (tE y EW (.isi a ts)) := by
  obtain ⟨hp, ht, hn⟩ := s_tys o hT
  refine (pe_callB call_isiT (gl_of o hg) (o_bt o (by decide +kernel)) PyProof.Rows.boot_isinstance (pa_cons ha (pa_cons (pe_tup hp) pa_nil rfl) (star_cons h1)) (by decide) (by decide) (star_cons h1) rfl).imp fun σ H Q ⟨env, m, ta, s, r⟩ => ⟨env, m, ta, s, ?_⟩
  simp only [ev] at r
  refine r.bind.mono fun w m1 H1 ta1 p1 r1 v hv => ?_
  obtain ⟨t', e, r1⟩ := onO_run r1
  have ok := ok_ty o p1.toks hv e
  refine tCs_run _ ⟨by rw [List.length_map]; exact Nat.le_trans hl (by decide), fun q hq => ?_⟩
  obtain ⟨p2, p3⟩ := post_new (o := .tup (ts.map (tyV' y.c))) p1.toks hq
  refine ⟨v, q, _, _, _, ts.any (isTy t'), rfl, upd_same, cls_all y.c ts, ty_of o p2.toks (hv.mono p2.ext p2.pre) e ok, any_ty o ok ts ht, ?_⟩
  exact r1.at p2 (.bl _) (.bl _)
end
end Cy

set_option Elab.async false
set_option linter.all false
set_option maxRecDepth 100000
set_option maxHeartbeats 2000000
/-! CySound6: methods of texts and lists that change nothing. -/
namespace Cy
open PySem L2
open PySem.PyData (strOk)

theorem strOk_iff {x : Str} : strOk x = true ↔ ∀ c ∈ x.cps, c < 0x110000 := by
  unfold strOk
  rw [Array.all_eq_true_iff_forall_mem]
  simp
theorem strOk_sub {x : Str} (h : strOk x = true) (i j : Nat) : strOk (Builtin.Str.strSub x i j) = true := by
  rw [strOk_iff] at h ⊢
  intro c hc
  exact h c (by
    have : c ∈ x.cps.extract i j := hc
    rw [Array.mem_extract_iff_getElem] at this
    obtain ⟨k, hk, rfl⟩ := this
    exact Array.getElem_mem _)
theorem strOk_empty : strOk Str.empty = true := by simp [strOk, Str.empty]
theorem strOk_glued {y : Str} (hy : strOk y = true) : ∀ {xs : List Str}, (∀ x ∈ xs, strOk x = true) → strOk (Txt.join y xs) = true := by
  intro xs h
  show strOk (Builtin.Str.glued y xs) = true
  have fold : ∀ (xs : List Str) (acc : Array Nat), (∀ x ∈ xs, strOk x = true) → (∀ c ∈ acc, c < 0x110000) → ∀ c ∈ xs.foldl (fun acc p => acc ++ y.cps ++ p.cps) acc, c < 0x110000 := by
    intro xs
    induction xs with
    | nil => intro acc _ h; exact h
    | cons x xs ih =>
      intro acc h1 h2
      rw [List.foldl_cons]
      refine ih _ (fun z hz => h1 z (List.mem_cons_of_mem _ hz)) fun c hc => ?_
      rcases Array.mem_append.mp hc with hc | hc
      · rcases Array.mem_append.mp hc with hc | hc
        · exact h2 c hc
        · exact strOk_iff.mp hy c hc
      · exact strOk_iff.mp (h1 x List.mem_cons_self) c hc
  rw [strOk_iff]
  cases xs with
  | nil => intro c hc; simp [Builtin.Str.glued, Str.empty] at hc
  | cons x xs => exact fold xs _ (fun z hz => h z (List.mem_cons_of_mem _ hz)) (strOk_iff.mp (h x List.mem_cons_self))
theorem strOk_split {x y : Str} (h : strOk x = true) : ∀ z ∈ Txt.split x y, strOk z = true := by
  unfold Txt.split
  intro z hz
  split at hz
  · rw [List.mem_singleton.mp hz]; exact h
  · split at hz
    · rw [List.mem_singleton.mp hz]; exact h
    · unfold Builtin.Str.partsBetween at hz
      obtain ⟨⟨i, j⟩, _, rfl⟩ := List.mem_map.mp hz
      exact strOk_sub h i j

theorem strOk_partition {x y : Str} (hx : strOk x = true) (hy : strOk y = true) : strOk (Txt.partition x y).1 = true ∧ strOk (Txt.partition x y).2.1 = true ∧ strOk (Txt.partition x y).2.2 = true := by
  unfold Txt.partition
  split
  · exact ⟨strOk_sub hx _ _, hy, strOk_sub hx _ _⟩
  · exact ⟨hx, strOk_empty, strOk_empty⟩
section
variable {L : Lk} {y : Sy} {N : List Str} {lv : Nat} {sc : Scope} {X : Cx} {EW : XK} {x l r : Expr} {xs : List Expr} {a b c : E} {es : EL} {pos : Pos}

/-- one argument, by its run -/
theorem one_arg {K : W → Store → Hp → List Addr → Prop} {B : Hp} {ta : List Addr} {env : Env} {m : Store} {f : List W → Store → R W} (h : Run y.c y.fe EW B ta ((evL y.F (.cons b .nil) env m).bind f) K) :
    Run y.c y.fe EW B ta (ev y.F b env m) fun w m1 H1 ta1 => Run y.c y.fe EW (view H1 ta1 m1) ta1 (f [w] m1) K := by
  have e : (evL y.F (.cons b .nil) env m).bind f = (ev y.F b env m).bind fun w m => f [w] m := by
    simp only [evL]
    cases ev y.F b env m <;> rfl
  rw [e] at h
  exact h.bind
theorem sm_str {f : MF} {r : V → List V → Hp → VK → Prop} (hf : f = .join ∨ f = .partition ∨ f = .split)
    (hr : ∀ (H : Hp) (ta : List Addr) (m : Store) (z : Str) (v : V) (d g : D) (Q : VK), Toks y.c H ta m → strOk z = true → Snap y.c (view H ta m) H v d → mfD f (.str z) [d] = some g → New y.c (view H ta m) H Q g → r (.str z) [v] H Q) :
    ∀ σ H Q, tE y EW (.sm f a (.cons b .nil)) σ H Q → tM1 r (tE y EW a) (tE y EW b) σ H Q := fun σ H Q ⟨env, m, ta, s, rr⟩ => by
  refine ⟨env, m, ta, s, ?_⟩
  simp only [ev] at rr
  refine rr.bind.mono fun w m1 H1 ta1 p1 r1 v hv => ?_
  split at r1
  · rename_i hc
    have : ∃ z, w = .v (.str z) := by
      cases w with
      | t n => rcases hf with rfl | rfl | rfl <;> simp [recv] at hc
      | v d => cases d <;> first | exact ⟨_, rfl⟩ | (rcases hf with rfl | rfl | rfl <;> simp [recv] at hc)
    obtain ⟨z, rfl⟩ := this
    obtain ⟨rfl, hz⟩ := rep_str hv
    refine ⟨⟨z, rfl⟩, env, m1, ta1, s.step p1, ?_⟩
    refine (one_arg r1).mono fun u m2 H2 ta2 p2 r2 v2 hv2 => ?_
    obtain ⟨d0, e0, r2⟩ := asD_run r2
    cases e0
    obtain ⟨ds, e1, r2⟩ := onO_run r2
    obtain ⟨g, e2, r3⟩ := ofD_run r2
    simp only [asDs] at e1
    obtain ⟨d, e3, e4⟩ := Option.bind_eq_some_iff.mp e1
    cases e4
    exact hr H2 ta2 m2 z v2 d g Q p2.toks hz (snap_of p2.toks hv2 e3) e2 (New.of p2.toks r3)
  · exact r1.elim
theorem strs_reps {c : Cl} {B : Hp} : ∀ {bs : List Str}, (∀ x ∈ bs, strOk x = true) → Reps c B (bs.map V.str) (bs.map D.str)
  | [], _ => .nil
  | b :: bs, h => .cons (.str (h b List.mem_cons_self)) (strs_reps fun x hx => h x (List.mem_cons_of_mem _ hx))
theorem s_sm1 {f : MF} {mn : Str} {apos : Pos} (o : XOk L y N lv sc X EW) (hf : (f = .join ∧ mn = "join") ∨ (f = .partition ∧ mn = "partition") ∨ (f = .split ∧ mn = "split")) (ha : PE X l (tE y EW a)) (hb : PE X r (tE y EW b)) (ab : abB l = true) (h1 : nstar r = true) (hp : (apos.endLine == pos.line) = true) :
    PE X (.Call (.Attribute l mn apos) [r] [] pos) (tE y EW (.sm f a (.cons b .nil))) := by
  have hs : starEach [r] X.env = [(false, eval r X.env)] := star_cons h1
  rcases hf with ⟨rfl, rfl⟩ | ⟨rfl, rfl⟩ | ⟨rfl, rfl⟩
  · refine (pe_join ha hb hs (ab_of ab) hp).imp (sm_str (.inl rfl) fun H ta m z v d g Q t hz sn e q => ?_)
    simp only [mfD] at e
    split at e
    · rename_i ds e1
      obtain ⟨bs, e2, e3⟩ := Option.bind_eq_some_iff.mp e
      split at e3
      · rename_i hl
        cases e3
        have fin : ∀ {vs : List V}, Reps y.c (view H ta m) vs ds → vs = bs.map V.str ∧ Q (.str (Txt.join z bs)) H := fun {vs} r => by
          obtain ⟨e4, e5⟩ := strs_of r e2
          exact ⟨e4, q.1 _ (.str (strOk_glued hz e5))⟩
        have lim : (bs.map (·.length)).sum + bs.length * z.length ≤ 16777216 := Nat.le_trans hl (by decide)
        cases d <;> simp only [seqD, reduceCtorEq, Option.some.injEq] at e1 <;> subst e1
        · obtain ⟨a, ys, rfl, h3, _, r3⟩ := sn.tup
          obtain ⟨rfl, q1⟩ := fin r3
          exact ⟨z, a, bs, rfl, rfl, .inr (o.lnk.hK ▸ seq_mono (view_sub _ _ _) h3), lim, q1⟩
        · obtain ⟨a, ys, rfl, h3, r3⟩ := sn.list (view_sub _ _ _)
          obtain ⟨rfl, q1⟩ := fin r3
          exact ⟨z, a, bs, rfl, rfl, .inl (.inl h3), lim, q1⟩
      · cases e3
    · cases e
  · refine (pe_partition ha hb hs (ab_of ab) hp).imp (sm_str (.inr (.inl rfl)) fun H ta m z v d g Q t hz sn e q => ?_)
    cases d <;> simp only [mfD, reduceCtorEq] at e
    obtain ⟨rfl, hw⟩ := sn.str
    split at e
    · rename_i w hl
      cases e
      obtain ⟨p1, p2, p3⟩ := strOk_partition hz hw
      exact ⟨z, w, rfl, rfl, by have := hl.1; simp; omega, lim_size hl.2, fun p hp => q.2 p _ hp fun B' e1 e2 => .tup (.inl (.inl e2)) (fun _ => e2) (.cons (.str p1) (.cons (.str p2) (.cons (.str p3) .nil)))⟩
    · cases e
  · refine (pe_split ha hb hs (ab_of ab) hp).imp (sm_str (.inr (.inr rfl)) fun H ta m z v d g Q t hz sn e q => ?_)
    cases d <;> simp only [mfD, reduceCtorEq] at e
    obtain ⟨rfl, hw⟩ := sn.str
    split at e
    · rename_i w hl
      cases e
      exact ⟨z, w, rfl, rfl, by have := hl.1; simp; omega, by rw [sizeLine_eq]; have : z.length ≤ 10000000 := hl.2; omega, fun p hp => q.2 p _ hp fun B' e1 e2 => .lst (.inl e2) (strs_reps (strOk_split hz))⟩
    · cases e
end
end Cy

set_option Elab.async false
set_option linter.all false
set_option maxRecDepth 100000
set_option maxHeartbeats 2000000
/-! CyComp: list comprehensions whose new list is not in the abstract heap while it grows (it is the block's own, as an iterator is). -/
namespace Cy
open PySem L2 PySem.Spec PyProof.Rows
section
variable {X : Cx}
def tLcH (wi : TI) (g : TG) (tt : TT) (te : TE) (vs : List Nat) : TE := fun σ H Q => wi σ H fun J H1 => ∃ W : Nat → Nat → List V → Hp → Prop, (∃ m, W 0 m [] H1) ∧ ∀ i m acc H, W i m acc H →
  (J.stop i H ∧ ∀ D, H D = none → Q (.ref D) (upd H D (.lst acc))) ∨ (J.go i H ∧ ∃ Nx : List V → Hp → Prop, (∀ acc' H', Nx acc' H' → ∃ m', m' < m ∧ W (i + 1) m' acc' H') ∧ ∀ x H', J.yld i H x H' → g x (wipe σ vs) H' fun σ2 H2 => wipe σ2 vs = wipe σ vs ∧ tt σ2 H2 fun b H3 =>
    if b = true then te σ2 H3 fun y H4 => acc.length < sizeLine ∧ Nx (acc ++ [y]) H4 else Nx acc H3)
theorem lcH_core {pins : List (Addr × Obj)} {s : Shared} {σ : L2.St} {H : Hp} {Q : VK} {elt tg iter : Expr} {ifs : List Expr} {scope : Scope} {own : List (Str × Nat)} {pos pos' : Pos} {wi : TI} {g : TG} {tt : TT} {te : TE} {use : Option (Value → Sem Unit)} {Qf : Value → Shared → Prop}
    (hc : X.calm = true) (hN : X.N.Nodup) (I : Inv X pins σ H s) (hi : PI X tg iter wi) (ok : BlkOk X.N X.env.scope scope own)
    (hg : ∀ (s : Shared) (H : Hp) (C : Addr) (cl : List (Str × Addr)) (fp : List Addr), PG (X.blk s H scope (compEnvC scope cl C X.env) fp) tg g) (ht : ∀ (s : Shared) (H : Hp) (C : Addr) (cl : List (Str × Addr)) (fp : List Addr), PTs (X.blk s H scope (compEnvC scope cl C X.env) fp) ifs tt)
    (he : ∀ (s : Shared) (H : Hp) (C : Addr) (cl : List (Str × Addr)) (fp : List Addr), PE (X.blk s H scope (compEnvC scope cl C X.env) fp) elt te) (hs : ∀ x, foldedSetIterable iter X.env x = pure x)
    (h : tLcH wi g tt te (own.map (·.2)) σ H Q)
    (hRR : ∀ D C s' m H', Inv X pins σ H' s' → Q (.ref D) H' → s'.heap.Ns C m → FpOk X pins H' C → compPost (model X.prog X.w) X.A X.xe use Qf (.ref D) C (.ok .next) s') :
    wpAny (model X.prog X.w) X.A (comprehension (.ListComp elt [⟨tg, iter, ifs, 0⟩] scope pos) scope X.env pos' (newList []) false (eval iter X.env) use) Qf X.xe s := by
  have hfree : ∀ y ∈ scope.names, y.2 = .free → ∃ c, X.env.cells.lookup y.1 = some c := fun y hy e => by
    rcases ok.free y hy e with k | k
    · exact I.ok.has _ (.inl k)
    · exact I.ok.has _ (.inr k)
  refine wpAny_comprehension_free (use := use) rfl hs (closure_ok hfree) ok.kind (fun y hy e => by rw [ok.uniq y hy, e])
    (thn (hi.run pins s σ H _ I h) fun xv s1 hx => thn hx fun itv s2 h2 => ?_)
  obtain ⟨it, fp, tn, J, H2, e, I2, T, st2, f2, W, ⟨m0, w0⟩, turn⟩ := h2
  subst e
  refine wpAny_newObj_type (newEnv_comp ?_) (by show 0 ≤ sizeLine; decide)
  generalize hD : s2.heap.objs.size = D
  have hDn : H2 D = none := I2.hok.fresh (Nat.le_of_eq hD)
  generalize hs3 : ({ s2 with heap := s2.heap.push { cls := .type "list", data := .seq ([] : List Value).toArray } } : Shared) = s3
  have h3 : s3.heap = s2.heap.push { cls := .type "list", data := .seq ([] : List Value).toArray } := by rw [← hs3]
  have I3 : Inv X pins σ H2 s3 := by
    rw [← hs3]
    exact I2.kept (t' := s2.toks) fun b o e => Heap.get?_push_of_some _ e
  have ob3 : s3.heap.get? D = some { cls := .type "list", data := .seq ([] : List Value).toArray } := by
    rw [h3, ← hD]
    exact Heap.get?_push_size _ rfl
  have sz : ∀ b ∈ fp, b < s2.heap.objs.size := fun b hb => by
    obtain ⟨o, e, _⟩ := T.obj _ _ st2 b hb
    exact Heap.lt_size e
  have neD : ∀ b ∈ fp, b ≠ D := fun b hb => by rw [← hD]; exact Nat.ne_of_lt (sz b hb)
  have fD : FpOk X pins H2 D ∧ D < s3.heap.objs.size := ⟨I2.fpOk (Nat.le_of_eq hD) hDn, Heap.lt_size ob3⟩
  have f3 : ∀ b ∈ D :: fp, FpOk X pins H2 b ∧ b < s3.heap.objs.size := fun b hb => by
    rcases List.mem_cons.mp hb with e | hb
    · rw [e]; exact fD
    · exact ⟨f2 b hb, by rw [h3, Heap.size_push]; exact Nat.lt_succ_of_lt (sz b hb)⟩
  have st3 : tn 0 s3.heap := T.keep _ _ _ st2 fun b _ o e => by rw [h3]; exact Heap.get?_push_of_some _ e
  have I4 := block_start I3 ok hN f3
  have pg := hg s3 H2 s3.heap.objs.size (cellsFrom (s3.heap.objs.size + 1) scope.names (cloFrom X.env.cells scope.names [])) (D :: fp)
  have pt := ht s3 H2 s3.heap.objs.size (cellsFrom (s3.heap.objs.size + 1) scope.names (cloFrom X.env.cells scope.names [])) (D :: fp)
  have pe := he s3 H2 s3.heap.objs.size (cellsFrom (s3.heap.objs.size + 1) scope.names (cloFrom X.env.cells scope.names [])) (D :: fp)
  show codeAny _ _ (.compStart (.ListComp elt [⟨tg, iter, ifs, 0⟩] scope pos) 0 (.ref it) (.ref D) (compEnvC scope (cellsFrom (s3.heap.objs.size + 1) scope.names (cloFrom X.env.cells scope.names [])) s3.heap.objs.size X.env)) (compPost (model X.prog X.w) X.A X.xe use Qf (.ref D) s3.heap.objs.size) { s3 with heap := pushCells (s3.heap.push { cls := .type "dict", data := .dict #[] }) scope.names }
  generalize hce : compEnvC scope (cellsFrom (s3.heap.objs.size + 1) scope.names (cloFrom X.env.cells scope.names [])) s3.heap.objs.size X.env = ce at I4 pg pt pe ⊢
  have cL : ce.locals = s3.heap.objs.size := by subst hce; rfl
  generalize hs4 : ({ s3 with heap := pushCells (s3.heap.push { cls := .type "dict", data := .dict #[] }) scope.names } : Shared) = s4 at I4 ⊢
  have k34 : ∀ b o, s3.heap.get? b = some o → s4.heap.get? b = some o := fun b o e => by rw [← hs4]; exact pushCells_keeps _ _ _ _ (Heap.get?_push_of_some _ e)
  have st4 : tn 0 s4.heap := T.keep _ _ _ st3 fun b _ o e => k34 b o e
  have stat : ∀ {pn : List (Addr × Obj)} {σ' : L2.St} {H' : Hp} {s' : Shared}, Inv (X.blk s3 H2 scope ce (D :: fp)) pn σ' H' s' → (∀ p ∈ pn, p.1 = D) → (∀ b ∈ fp, H' b = none) → ∀ b ∈ fp, FpOk (X.blk s3 H2 scope ce (D :: fp)) pn H' b := fun {pn σ' H' s'} I' hpn hn b hb =>
    ⟨hn b hb, (I'.ok.exf b (List.mem_cons_of_mem _ hb)).1, I'.ok.exfs b (List.mem_cons_of_mem _ hb), .inl (List.mem_cons_of_mem _ hb), fun x c e => (I'.ok.exf b (List.mem_cons_of_mem _ hb)).2 x c e, fun p hp => by
      have hp : p ∈ pn := by simpa using hp
      rw [hpn p hp]
      exact (neD b hb).symm⟩
  have statD : ∀ {pn : List (Addr × Obj)} {σ' : L2.St} {H' : Hp} {s' : Shared}, Inv (X.blk s3 H2 scope ce (D :: fp)) pn σ' H' s' → (∀ p ∈ pn, p.1 ≠ D) → H' D = none → FpOk (X.blk s3 H2 scope ce (D :: fp)) pn H' D := fun {pn σ' H' s'} I' hpn hn =>
    ⟨hn, (I'.ok.exf D List.mem_cons_self).1, I'.ok.exfs D List.mem_cons_self, .inl List.mem_cons_self, fun x c e => (I'.ok.exf D List.mem_cons_self).2 x c e, fun p hp => hpn p (by simpa using hp)⟩
  have loop : codeAny (model X.prog X.w) X.A (.compLoop (.ListComp elt [⟨tg, iter, ifs, 0⟩] scope pos) 0 (.ref it) (.ref D) ce) (compPost (model X.prog X.w) X.A X.xe use Qf (.ref D) s3.heap.objs.size) s4 := by
    refine compLoop_any (fun n s' => ∃ i H' acc, Inv (X.blk s3 H2 scope ce (D :: fp)) [] (wipe σ (own.map (·.2))) H' s' ∧ tn i s'.heap ∧ (∀ b ∈ fp, H' b = none) ∧ H' D = none ∧ (acc.length ≤ sizeLine ∧ ∃ (its : List Value) (nn : Nat), Vals acc its ∧ s'.heap.get? D = some { cls := .type "list", data := .seq its.toArray nn }) ∧ W i n acc H') ?_ m0
      ⟨0, H2, [], I4, st4, fun b hb => (f2 b hb).1, hDn, ⟨Nat.zero_le _, [], 0, .nil, k34 _ _ ob3⟩, w0⟩
    rintro n s5 ⟨i, H5, acc, I5, st5, n5, nD5, ⟨hl5, its, nn, rv5, ob5⟩, w5⟩
    have I5' : Inv (X.blk s3 H2 scope ce (D :: fp)) [(D, { cls := .type "list", data := .seq its.toArray nn })] (wipe σ (own.map (·.2))) H5 s5 := I5.pins_of fun p hp => by
      have e := List.mem_singleton.mp hp
      subst e
      exact ⟨ob5, nD5, (I5.ok.exf D List.mem_cons_self).1, I5.ok.exfs D List.mem_cons_self, fun v z => by cases z⟩
    have p1 : ∀ p ∈ [((D, { cls := .type "list", data := .seq its.toArray nn }) : Addr × Obj)], p.1 = D := fun p hp => by
      have e := List.mem_singleton.mp hp
      subst e
      rfl
    rcases turn i n acc H5 w5 with ⟨stop, qq⟩ | ⟨go, Nx, hNx, step⟩
    · have td := T.done (X.blk s3 H2 scope ce (D :: fp)) rfl rfl rfl hc i _ s5 _ H5 (fun _ _ => False) I5' (stat I5' p1 n5) st5 stop
      refine thnF td fun r s6 ⟨hr, I6⟩ => ?_
      subst hr
      have ob6 := (I6.pin (D, { cls := .type "list", data := .seq its.toArray nn }) (by simp)).1
      have I7 : Inv X pins σ H5 s6 := I3.call' (ch := D :: fp) I6.os I6.base I6.hok I6.bare fun b hb => ⟨(f3 b hb).1.2.2.2.1, (f3 b hb).1.2.1, (f3 b hb).1.2.2.2.2.1, (f3 b hb).1.2.2.2.2.2⟩
      have nC : H5 s3.heap.objs.size = none := by
        have z : H5 ce.locals = none := I6.free
        rw [cL] at z
        exact z
      obtain ⟨m, hn, _⟩ := I6.loc
      have hn : s6.heap.Ns ce.locals m := hn
      rw [cL] at hn
      have I8 : Inv X pins σ (upd H5 D (.lst acc)) s6 := I7.take (h' := s6.heap) (t' := s6.toks) (fun _ _ _ e => e) ⟨nD5, fD.1.2⟩ ⟨hl5, its, nn, rv5, ob6⟩
      exact hRR D s3.heap.objs.size s6 m _ I8 (qq D nD5) hn (I3.fpOk (Nat.le_refl _) (by rw [upd_ne (Nat.ne_of_gt fD.2)]; exact nC))
    · have ti := T.item (X.blk s3 H2 scope ce (D :: fp)) rfl rfl rfl hc i _ s5 _ H5 (fun _ _ => False) I5' (stat I5' p1 n5) st5 go
      refine thnF ti fun r s6 ⟨u, hr, h6⟩ => ?_
      subst hr
      refine thnF h6 fun _ s7 ⟨x, H7, I7, r7, y7, st7, n7⟩ => ?_
      have I7' := I7.pinned (stat I7 p1 n7) (T.obj _ _ st7)
      refine thnF (pg.run _ s7 _ H7 x u _ I7' r7 (step x H7 y7)) fun _ s8 ⟨σ8, H8, I8, hw8, q8⟩ => ?_
      refine thnF (pt.run _ s8 σ8 H8 _ I8 q8) fun b s9 ⟨H9, I9, q9⟩ => ?_
      have fin : ∀ {s' : Shared} {H' : Hp} {acc' : List V} {pn : List (Addr × Obj)}, Inv (X.blk s3 H2 scope ce (D :: fp)) (pn ++ pinsAt fp s7.heap) σ8 H' s' → H' D = none → (acc'.length ≤ sizeLine ∧ ∃ (its : List Value) (nn : Nat), Vals acc' its ∧ s'.heap.get? D = some { cls := .type "list", data := .seq its.toArray nn }) → Nx acc' H' →
          ∃ m, m < n ∧ ∃ i H' acc, Inv (X.blk s3 H2 scope ce (D :: fp)) [] (wipe σ (own.map (·.2))) H' s' ∧ tn i s'.heap ∧ (∀ b ∈ fp, H' b = none) ∧ H' D = none ∧ (acc.length ≤ sizeLine ∧ ∃ (its : List Value) (nn : Nat), Vals acc its ∧ s'.heap.get? D = some { cls := .type "list", data := .seq its.toArray nn }) ∧ W i m acc H' := fun {s' H' acc' pn} I' nD od nx => by
        obtain ⟨m', hm, w'⟩ := hNx acc' H' nx
        have pin' : ∀ b ∈ fp, ∀ o, s7.heap.get? b = some o → s'.heap.get? b = some o ∧ H' b = none := fun b hb o e =>
          let z := I'.pin (b, o) (List.mem_append_right _ (List.mem_append_right _ (mem_pinsAt hb e)))
          ⟨z.1, z.2.1⟩
        have hl : (wipe σ (own.map (·.2))).length = σ8.length := by rw [← hw8, wipe_length]
        refine ⟨m', hm, i + 1, H', acc', (I'.pins_of (pins' := []) (fun p hp => by cases hp)).weak hl (fun j v e => ?_), T.keep _ _ _ st7 fun b hb o e => (pin' b hb o e).1, fun b hb => ?_, nD, od, w'⟩
        · rw [← hw8] at e
          exact (wipe_some e).1
        · obtain ⟨o, e, _⟩ := T.obj _ _ st7 b hb
          exact (pin' b hb o e).2
      have pD : ∀ {s' : Shared} {H' : Hp}, Inv (X.blk s3 H2 scope ce (D :: fp)) ([((D, { cls := .type "list", data := .seq its.toArray nn }) : Addr × Obj)] ++ pinsAt fp s7.heap) σ8 H' s' → s'.heap.get? D = some { cls := .type "list", data := .seq its.toArray nn } ∧ H' D = none := fun I' => by
        have z := I'.pin (D, { cls := .type "list", data := .seq its.toArray nn }) (List.mem_append_right _ (List.mem_append_left _ (by simp)))
        exact ⟨z.1, z.2.1⟩
      cases b with
      | false =>
        simp only [Bool.false_eq_true, if_false] at q9 ⊢
        exact fin I9 (pD I9).2 ⟨hl5, its, nn, rv5, (pD I9).1⟩ q9
      | true =>
        simp only [if_true] at q9 ⊢
        refine thnF (pe.run _ s9 σ8 H9 _ I9 q9) fun z s10 ⟨yv, H10, I10, r10, hz10, nx⟩ => ?_
        obtain ⟨ob10, nD10⟩ := pD I10
        have hle := rv5.length
        refine append_at (hsz := by rw [List.size_toArray]; omega) ob10 fun h' sb ho' => ?_
        have I11 : Inv (X.blk s3 H2 scope ce (D :: fp)) ([] ++ pinsAt fp s7.heap) σ8 H10 s10 := I10.pins_of fun p hp => by
          have hp : p ∈ pinsAt fp s7.heap := by simpa using hp
          exact I10.pin p (List.mem_append_right _ (List.mem_append_right _ hp))
        have fd := statD I11 (fun p hp => by
          have hp : p ∈ pinsAt fp s7.heap := by simpa using hp
          exact neD p.1 (of_pinsAt hp).1) nD10
        obtain ⟨f0, f1, f2', f3', f4, f5⟩ := fd
        have I12 : Inv (X.blk s3 H2 scope ce (D :: fp)) ([] ++ pinsAt fp s7.heap) σ8 H10 { s10 with heap := h' } := I11.turned (t' := s10.toks) (fun b u hb q => (sb.2 b hb).trans q) f0 f1 f3' f4 f5
        exact fin I12 nD10 ⟨by rw [List.length_append]; exact hz10, its ++ [z], nn + 1, rv5.append (.cons r10 .nil), by
          show h'.get? D = _
          rw [ho']
          simp⟩ nx
  exact codeAny_compStart_list loop (T.self X.A 0 _ _ _ st4 loop)
/-- as a value -/
theorem pe_lcH {elt tg iter : Expr} {ifs : List Expr} {scope : Scope} {own : List (Str × Nat)} {pos : Pos} {wi : TI} {g : TG} {tt : TT} {te : TE} (hc : X.calm = true) (hN : X.N.Nodup) (hi : PI X tg iter wi) (ok : BlkOk X.N X.env.scope scope own)
    (hg : ∀ (s : Shared) (H : Hp) (C : Addr) (cl : List (Str × Addr)) (fp : List Addr), PG (X.blk s H scope (compEnvC scope cl C X.env) fp) tg g) (ht : ∀ (s : Shared) (H : Hp) (C : Addr) (cl : List (Str × Addr)) (fp : List Addr), PTs (X.blk s H scope (compEnvC scope cl C X.env) fp) ifs tt)
    (he : ∀ (s : Shared) (H : Hp) (C : Addr) (cl : List (Str × Addr)) (fp : List Addr), PE (X.blk s H scope (compEnvC scope cl C X.env) fp) elt te) (hs : ∀ x, foldedSetIterable iter X.env x = pure x) :
    PE X (.ListComp elt [⟨tg, iter, ifs, 0⟩] scope pos) (tLcH wi g tt te (own.map (·.2))) := by
  refine ⟨fun pins s σ H Q I h => ?_⟩
  rw [eval_ListComp]
  refine lcH_core hc hN I hi ok hg ht he hs h fun D C s' m H' I' q hn f => ⟨m, hn, fun h'' sb => ?_⟩
  obtain ⟨f0, f1, f2, f3, f4, f5⟩ := f
  exact ⟨.ref D, H', I'.turned (t' := s'.toks) (fun b o hb e => (sb.2 b hb).trans e) f0 f1 f3 f4 f5, rfl, q⟩
/-- name = [..] on one line, the name a local -/
theorem ps_setLcH {i : Nat} {y : Str} {py : Pos} {elt tg iter : Expr} {ifs : List Expr} {scope : Scope} {own : List (Str × Nat)} {pos spos : Pos} {wi : TI} {g : TG} {tt : TT} {te : TE} (hc : X.calm = true) (hN : X.N.Nodup) (hy : X.N[i]? = some y) (hyl : X.env.scope.names.lookup y = some .local)
    (hsw : swapsWith (.ListComp elt [⟨tg, iter, ifs, 0⟩] scope pos) (some (.Name y py)) spos.line X.env = pure true) (hi : PI X tg iter wi) (ok : BlkOk X.N X.env.scope scope own)
    (hg : ∀ (s : Shared) (H : Hp) (C : Addr) (cl : List (Str × Addr)) (fp : List Addr), PG (X.blk s H scope (compEnvC scope cl C X.env) fp) tg g) (ht : ∀ (s : Shared) (H : Hp) (C : Addr) (cl : List (Str × Addr)) (fp : List Addr), PTs (X.blk s H scope (compEnvC scope cl C X.env) fp) ifs tt)
    (he : ∀ (s : Shared) (H : Hp) (C : Addr) (cl : List (Str × Addr)) (fp : List Addr), PE (X.blk s H scope (compEnvC scope cl C X.env) fp) elt te) (hs : ∀ x, foldedSetIterable iter X.env x = pure x) :
    PS X (.Assign [.Name y py] (.ListComp elt [⟨tg, iter, ifs, 0⟩] scope pos) spos) (tAsg (tLcH wi g tt te (own.map (·.2))) (gName i)) := by
  refine ⟨fun pins s σ H D I h => ?_⟩
  rw [exec_Assign_Name_used _ _ _ _ hsw]
  refine wpAny_bind (wpAny_standAt (wpAny_bind ?_))
  show wpAny _ X.A (do let _ ← comprehension (.ListComp elt [⟨tg, iter, ifs, 0⟩] scope pos) scope X.env (firstIterPos [⟨tg, iter, ifs, 0⟩] pos) (newList []) false (eval iter X.env) (some (assign (.Name y py) X.env))) _ _ s
  have h : tLcH wi g tt te (own.map (·.2)) σ H (fun x H1 => gName i x σ H1 D.nx) := h
  refine wpAny_bind (thn (lcH_core (Qf := fun _ s' => SP X pins D .next s') hc hN I hi ok hg ht he hs h fun L C s' m H' I' q hn f => ?_) fun _ s' hq => wpAny_pure (wpAny_pure hq))
  show wpAny _ _ (assign (.Name y py) X.env (.ref L)) _ _ _
  refine wpAny_assign_Name (store_ok2 (v := V.ref L) I' hN hy (.inl hyl) rfl (fun s2 I2 ⟨a, sb, ha⟩ => ?_) (.inr hyl))
  obtain ⟨f0, f1, f2, f3, f4, f5⟩ := f
  have haC : C ≠ a := by
    rcases ha with z | z
    · rw [z]; exact f1
    · exact fun e => f4 y a z e.symm
  refine ⟨m, hn.sameBut sb haC, fun h3 sb3 => ?_⟩
  exact ⟨_, H', I2.turned (t' := s2.toks) (fun b o hb e => (sb3.2 b hb).trans e) f0 f1 f3 f4 f5, q⟩
end
end Cy

set_option Elab.async false
set_option linter.all false
set_option maxRecDepth 100000
set_option maxHeartbeats 2000000
/-! CyEnum: enumerate over a tuple. -/
namespace Cy
open PySem
open PySem.Sem (wp)
open AutoSeq1 (wpAny_loadPart')
theorem meets_enumT (l : Addr) (items : Array Value) (n : Nat) (dct : Option Addr) (sl : Array (Option Value)) :
    Meets (Builtin.«enumerate.__new__» ⟨[.type "enumerate", .ref l], []⟩) (fun _ R s => s.heap.get? l = some { cls := .type "tuple", dict := dct, data := .seq items n, slots := sl } ∧
      R (.ok (.ret (.ref (s.heap.push { cls := .type "tuple_iterator", data := .fields #[.ref l, .int 0 0] }).objs.size)))
        { s with heap := (s.heap.push { cls := .type "tuple_iterator", data := .fields #[.ref l, .int 0 0] }).push { cls := .type "enumerate", data := .fields #[.none, .bool false, .ref s.heap.objs.size, rawInt 0, .none, .none] } }) :=
  .of_wp fun prog w A R s h => by
    obtain ⟨hp, g, d, tk, os⟩ := s; obtain ⟨hl, h⟩ := h
    have hsub := sub_enumerate
    have hL : Heap.IsTuple (Shared.heap ⟨hp, g, d, tk, os⟩) l items := ⟨_, hl, rfl, n, rfl⟩
    wp_walk using wpAny_loadPart' hl
    refine wpAny_stack_any fun st => wpAny_pure ?_
    split
    · rename_i c _ _ _ _ _
      cases (c == Value.type "enumerate")
      · wp_walk using wpAny_loadPart' hl, wpAny_pyIter_tuple hL
        exact ⟨_, rfl, h⟩
      · wp_walk using wpAny_loadPart' hl, wpAny_pyIter_tuple hL
        exact ⟨_, rfl, h⟩
    · wp_walk using wpAny_loadPart' hl, wpAny_pyIter_tuple hL
      exact ⟨_, rfl, h⟩
section
variable {prog : Program} {w : PySem.World} {A : Around} {E : Value → Shared → Prop} {s : Shared}
theorem call_enumT {l : Addr} {items : Array Value} {Q : Value → Shared → Prop} (hL : s.heap.IsTuple l items)
    (h : ∀ h', IsEnum h' (s.heap.objs.size + 1) s.heap.objs.size 0 .none → h'.IsTupleIter s.heap.objs.size l 0 → h'.objs.size = s.heap.objs.size + 2 →
      (∀ b o, s.heap.get? b = some o → h'.get? b = some o) → Q (.ref (s.heap.objs.size + 1)) { s with heap := h' }) :
    wpAny (model prog w) A (call (.type "enumerate") [.ref l]) Q E s := by
  obtain ⟨⟨c, dct, dt, sl⟩, hl, hc, n, hd⟩ := hL
  replace hc : c = .type "tuple" := hc
  replace hd : dt = .seq items n := hd
  subst hc hd
  refine callType_new F.called_enumerate (by decide) (F.typeCall_enumerate_1 _) (F.newCall_enumerate_1 _) (fun obj => F.args_object_init_2 obj _) F.entry_enumerate_new
    (meets_enumT l items n dct sl) ⟨hl, ?_⟩
  have hz : (s.heap.push { cls := .type "tuple_iterator", data := .fields #[.ref l, .int 0 0] }).objs.size = s.heap.objs.size + 1 := Heap.size_push ..
  show _ ∧ _
  rw [hz]
  have he : IsEnum ((s.heap.push { cls := .type "tuple_iterator", data := .fields #[.ref l, .int 0 0] }).push
      { cls := .type "enumerate", data := .fields #[.none, .bool false, .ref s.heap.objs.size, rawInt 0, .none, .none] }) (s.heap.objs.size + 1) s.heap.objs.size 0 .none := by
    have := Heap.get?_push_size (s.heap.push { cls := .type "tuple_iterator", data := .fields #[.ref l, .int 0 0] })
      (o := { cls := .type "enumerate", data := .fields #[.none, .bool false, .ref s.heap.objs.size, rawInt 0, .none, .none] }) rfl
    rw [hz] at this; exact this
  refine ⟨⟨_, he, rfl⟩, h _ he ⟨_, Heap.get?_push_of_some _ (Heap.get?_push_size _ rfl), rfl, rfl⟩ (by rw [Heap.size_push, hz]) fun b o x => Heap.get?_push_of_some _ (Heap.get?_push_of_some _ x)⟩
/-- a tuple's iterator draws -/
theorem draws_tup {a it : Addr} {items : Array Value} (hh : A.handled = none) (ne : it ≠ a) : Draws prog w A it [it, a] items.size (fun i x => items[i]? = some x) (fun i h => h.IsTupleIter it a i ∧ h.IsTuple a items) where
  live := fun i h st => by obtain ⟨⟨o, e, _⟩, _⟩ := st; exact ⟨o, e⟩
  frame := fun i h h' st k => by
    obtain ⟨⟨o, e, c, d⟩, ⟨o2, e2, r⟩⟩ := st
    exact ⟨⟨o, k it (by simp) o e, c, d⟩, ⟨o2, k a (by simp) o2 e2, r⟩⟩
  item := fun i s Q E hi st hQ => by
    obtain ⟨u, hu⟩ : ∃ u, items[i]? = some u := ⟨items[i], by simp [hi]⟩
    refine RZ.nextOf_tuple_item st.1 st.2 hu fun h' st' sb => hQ u h' s.toks hu ⟨st', ?_⟩ sb
    obtain ⟨o2, e2, r⟩ := st.2
    exact ⟨o2, (sb.2 a (Ne.symm ne)).trans e2, r⟩
  done := fun s Q E st hE => RZ.nextOf_tuple_end hh st.1 st.2 (by simp) hE
end
open L2 PySem.Spec PyProof.Rows
/-- the tuple at a, each item in a new pair -/
def IteT (K : PySem.W.Frag) (a : Addr) : It :=
  ⟨fun i H => ∃ (xs : List V) (x : V), SqT K H a xs ∧ xs[i]? = some x, fun i H v H' => ∃ T x, v = .ref T ∧ H T = none ∧ H' = upd H T (.tup [.int (i : Nat), x]) ∧ ∀ xs, SqT K H a xs → xs[i]? = some x, fun i H => ∃ xs : List V, SqT K H a xs ∧ xs.length ≤ i⟩
theorem turn_enumT {P : Program} {w : PySem.World} {K : PySem.W.Frag} {elts : List Expr} {kk : Nat} {tpos : Pos} (a e it : Addr) :
    Turn P w K (.Tuple elts kk tpos) (IteT K a) [e, it] e (fun i h => (∃ old, IsEnum h e it ((i : Nat) : Int) old) ∧ h.IsTupleIter it a i ∧ e ≠ it ∧ it ≠ a ∧ e ≠ a) where
  mem := by simp
  obj := fun i h st b hb => by
    obtain ⟨⟨old, he⟩, ⟨o, ho, hc, hd⟩, _⟩ := st
    have e' : b = e ∨ b = it := by simpa using hb
    rcases e' with z | z
    · rw [z]; exact ⟨_, he, fun v q => nomatch q⟩
    · rw [z]; exact ⟨o, ho, fun v q => by rw [hd] at q; cases q⟩
  keep := fun i h h' st k => let ⟨⟨old, he⟩, hi, hne⟩ := st; ⟨⟨old, k e (by simp) _ he⟩, hi.at fun o q => k it (by simp) o q, hne⟩
  item := by
    intro X hP hw hK hc i pins s σ H E I hf st hg
    subst hP hw hK
    obtain ⟨⟨old, he⟩, hit, hne, hia, hea⟩ := st
    obtain ⟨xs, x, hq, hx⟩ := hg
    obtain ⟨its, rv, p, hz⟩ := I.tuple hq
    obtain ⟨u, hu, ru⟩ := rv.get hx
    have hel : e < s.heap.objs.size := Heap.lt_size he
    have hil : it < s.heap.objs.size := by obtain ⟨_, q, _⟩ := hit; exact Heap.lt_size q
    refine wpAny_pyNext_enum_itemD (draws_tup (A := X.A.in1) (items := its.toArray) (I.ok.hd hc) hia) he ⟨hit, p⟩ (by
      obtain ⟨hlt, _⟩ := List.getElem?_eq_some_iff.mp hu
      simpa using hlt) hne (by simp [hne, hea]) fun y h' tk hy ho st' hT hsz hk => ?_
    obtain rfl : u = y := by
      have hy : its.toArray[i]? = some y := hy
      simp at hy
      rw [hu] at hy
      exact Option.some.inj hy
    have hit' := st'.1
    refine ⟨_, rfl, wpAny_letOwnedTupleGo_enum (s := { s with heap := h', toks := tk + 1 }) ho fun h'' he' sb => ?_⟩
    have hT2 : h''.get? s.heap.objs.size = some { cls := .type "tuple", data := .seq #[.int i tk, u] } := (sb.2 _ (Nat.ne_of_gt hel)).trans hT
    have new : ObjOk X.prog X.w (upd H s.heap.objs.size (.tup [.int (i : Nat), x])) h'' s.heap.objs.size (.tup [.int (i : Nat), x]) :=
      ⟨by show 2 ≤ sizeLine; decide, [.int i tk, u], .cons ⟨_, rfl⟩ (.cons ru .nil), ⟨_, hT2, rfl, _, rfl⟩⟩
    have I1 : Inv X pins σ (upd H s.heap.objs.size (.tup [.int (i : Nat), x])) { s with heap := h'', toks := tk + 1 } :=
      I.turnedNew (ch := [e, it]) (fun b ob hb q => (sb.2 b (fun z => hb (by simp [z]))).trans (hk b ob (fun z => hb (by simp [z])) (fun z => hb (by simp [z])) q)) hf (Nat.le_refl _) new
    refine ⟨.ref s.heap.objs.size, _, I1, rfl, ⟨_, x, rfl, I.hok.fresh (Nat.le_refl _), rfl, fun ys hy => by rw [I.tuple_inj hy hq]; exact hx⟩, ⟨⟨u, ?_⟩, hit'.at fun o q => (sb.2 it (Ne.symm hne)).trans q, hne, hia, hea⟩, fun b hb => ?_⟩
    · have e1 : ((i + 1 : Nat) : Int) = (i : Int) + 1 := by omega
      rw [e1]; exact he'
    · have hb' : b < s.heap.objs.size := by
        have e' : b = e ∨ b = it := by simpa using hb
        rcases e' with z | z
        · rw [z]; exact hel
        · rw [z]; exact hil
      rw [upd_ne (Nat.ne_of_lt hb')]
      exact (hf b hb).1
  done := by
    intro X hP hw hK hc i pins s σ H E I hf st hg
    subst hP hw hK
    obtain ⟨⟨old, he⟩, hit, hne, hia, hea⟩ := st
    obtain ⟨xs, hq, hx⟩ := hg
    obtain ⟨its, rv, p, hz⟩ := I.tuple hq
    obtain ⟨f0, f1, f2, f3, f4, f5⟩ := hf it (by simp)
    have hl := rv.length
    have hT : s.TypeIs (.ref e) "enumerate" := ⟨_, he, rfl⟩
    unfold pyNext
    refine wpAny_bind (wpAny_attempt (wpAny_callSpecial?_slot (name := Str.ofString "__next__") hT F.slot_enumerate_next
      (wpAny_call_entry F.slot_enumerate_next hT F.entry_enumerate_next ?_ (F.args_enumerate_next_1 _))))
    show wpAny _ _ (field (.ref e) 2 >>= _) _ _ _
    refine wpAny_bind (wpAny_field he rfl (x := .ref it) rfl ?_)
    refine wpAny_bind (RZ.nextOf_tuple_end (A := X.A.in1) (items := its.toArray) (I.ok.hd hc) hit p (by simp; omega) fun h' x he' hx' => ?_)
    obtain ⟨o, ho, hcx⟩ := hx'
    refine wpAny_bind (wpAny_isInstance (T := "StopIteration") (b := true) ⟨o, ho, hcx⟩ isSubtype_stop ?_)
    exact wpAny_pure ⟨rfl, I.turned (t' := s.toks) (fun b o hb q => he' b o hb q) f0 f1 f3 f4 f5⟩
  self := fun A i s Q E st h => let ⟨⟨_, he⟩, _⟩ := st; wpAny_pyIter_enum he h
def iEnumA (K : PySem.W.Frag) (ta : TA) : TI := fun σ H R => ta σ H fun vs H1 => ∃ a xs, vs = [.ref a] ∧ ((SqL K H1 a xs ∧ (xs.length ≤ sizeLine → R (Ite K a) H1)) ∨ (SqT K H1 a xs ∧ (xs.length ≤ sizeLine → R (IteT K a) H1)))
theorem pi_enumA {X : Cx} {e : Expr} {ta : TA} {p pos tpos : Pos} {elts : List Expr} {kk : Nat} (hg : Gl X "enumerate") (hm : X.mg "enumerate" = none) (ha : PA X [e] ta) (hs : starEach [e] X.env = [(false, eval e X.env)] := by rfl) :
    PI X (.Tuple elts kk tpos) (.Call (.Name "enumerate" p) [e] [] pos) (iEnumA X.K ta) := by
  refine ⟨fun pins s σ H R I h => ?_⟩
  refine Call_ (ld_blt I hg hm boot_enumerate (PyProof.Rows.callWith_type1 (thn (ha.run pos pins s σ H _ I h) fun us s1 ⟨vs, H1, I1, r1, q1⟩ => ?_) hs rfl))
  obtain ⟨a, xs, ex, q⟩ := q1
  subst ex
  cases r1 with
  | cons r rr =>
    cases rr
    cases r
    have fr : ∀ b ∈ [s1.heap.objs.size + 1, s1.heap.objs.size], FpOk X pins H1 b := fun b hb => by
      have e' : b = s1.heap.objs.size + 1 ∨ b = s1.heap.objs.size := by simpa using hb
      have hle : s1.heap.objs.size ≤ b := by
        rcases e' with z | z
        · rw [z]; exact Nat.le_add_right _ _
        · rw [z]; exact Nat.le_refl _
      exact I1.fpOk hle (I1.hok.fresh hle)
    rcases q with ⟨hq, q⟩ | ⟨hq, q⟩
    · obtain ⟨its, rv, p', hz⟩ := I1.list hq
      refine call_enumerate_list p'.isList fun h' he hit hsz hk => wpAny_pyIter_enum he ?_
      have I2 : Inv X pins σ H1 { s1 with heap := h' } := I1.kept (t' := s1.toks) hk
      exact ⟨s1.heap.objs.size + 1, [s1.heap.objs.size + 1, s1.heap.objs.size], _, _, H1, rfl, I2, turn_enum a (s1.heap.objs.size + 1) s1.heap.objs.size, ⟨⟨.none, he⟩, hit, Nat.succ_ne_self _⟩, fr, q hz⟩
    · obtain ⟨its, rv, p', hz⟩ := I1.tuple hq
      have al : a < s1.heap.objs.size := p'.lt
      refine call_enumT (show s1.heap.IsTuple a its.toArray from p') fun h' he hit hsz hk => wpAny_pyIter_enum he ?_
      have I2 : Inv X pins σ H1 { s1 with heap := h' } := I1.kept (t' := s1.toks) hk
      exact ⟨s1.heap.objs.size + 1, [s1.heap.objs.size + 1, s1.heap.objs.size], _, _, H1, rfl, I2, turn_enumT a (s1.heap.objs.size + 1) s1.heap.objs.size, ⟨⟨.none, he⟩, hit, Nat.succ_ne_self _, Nat.ne_of_gt al, Nat.ne_of_gt (Nat.lt_succ_of_lt al)⟩, fr, q hz⟩
theorem walk_enumT {K : PySem.W.Frag} {a : Addr} {xs : List V} : L2.Walk (IteT K a) xs.length (fun H => SqT K H a xs) (YPair (fun i => some (.int (i : Nat))) (fun i => xs[i]?)) := by
  refine ⟨fun i _ hi q => ⟨xs, xs[i], q, by simp [hi]⟩, fun _ q => ⟨xs, q, Nat.le_refl _⟩, fun i H v H' _ q y => ?_⟩
  obtain ⟨T, x, h1, h2, h3, h4⟩ := y
  exact ⟨T, .int (i : Nat), x, h1, h2, h3, rfl, h4 xs q⟩
/-- a list or a tuple -/
def iSeq (K : PySem.W.Frag) (tl : TE) : TI := fun σ H R => tl σ H fun x H1 => ∃ a xs, x = .ref a ∧ ((SqL K H1 a xs ∧ (xs.length ≤ sizeLine → R (Itl K a) H1)) ∨ (SqT K H1 a xs ∧ (xs.length ≤ sizeLine → R (Itt K a) H1)))
theorem pi_seq {X : Cx} {tg l : Expr} {tl : TE} (hl : PE X l tl) : PI X tg l (iSeq X.K tl) := by
  refine ⟨fun pins s σ H R I h => ?_⟩
  refine thn (hl.run pins s σ H _ I h) fun v s1 ⟨x, H1, I1, r1, q1⟩ => ?_
  obtain ⟨a, xs, e, q⟩ := q1
  subst e
  cases r1
  have fr : ∀ b ∈ [s1.heap.objs.size], FpOk X pins H1 b := fun b hb => by
    have e : b = s1.heap.objs.size := by simpa using hb
    subst e
    exact I1.fpOk (Nat.le_refl _) (I1.hok.fresh (Nat.le_refl _))
  rcases q with ⟨hq, q⟩ | ⟨hq, q⟩
  · obtain ⟨its, rv, p, hz⟩ := I1.list hq
    refine wpAny_pyIter_list p.isList ?_
    exact ⟨s1.heap.objs.size, [s1.heap.objs.size], _, _, H1, rfl, I1.kept (t' := s1.toks) fun b o e => Heap.get?_push_of_some _ e, turn_list a _, ⟨_, Heap.get?_push_size _ rfl, rfl, rfl⟩, fr, q hz⟩
  · obtain ⟨its, rv, p, hz⟩ := I1.tuple hq
    refine wpAny_pyIter_tuple (show s1.heap.IsTuple a its.toArray from p) ?_
    exact ⟨s1.heap.objs.size, [s1.heap.objs.size], _, _, H1, rfl, I1.kept (t' := s1.toks) fun b o e => Heap.get?_push_of_some _ e, turn_tuple a _, ⟨_, Heap.get?_push_size _ rfl, rfl, rfl⟩, fr, q hz⟩
end Cy

set_option Elab.async false
set_option linter.all false
set_option maxRecDepth 100000
set_option maxHeartbeats 2000000
/-! CySound7: targets, what is walked, comprehensions. -/
namespace Cy
open PySem L2
open PySem.PyData (strOk)

theorem _root_.L2.PG.imp {X : Cx} {e : Expr} {t t' : TG} (h : PG X e t) (w : ∀ v σ H Q, t' v σ H Q → t v σ H Q) : PG X e t' := ⟨fun pins s σ H v u Q I r q => h.run pins s σ H v u Q I r (w v σ H Q q)⟩
theorem _root_.L2.PGs.imp {X : Cx} {e : List Expr} {t t' : TGs} (h : PGs X e t) (w : ∀ v σ H Q, t' v σ H Q → t v σ H Q) : PGs X e t' := ⟨fun pins s σ H v u Q I r q => h.run pins s σ H v u Q I r (w v σ H Q q)⟩
theorem _root_.L2.PI.imp {X : Cx} {tg e : Expr} {t t' : TI} (h : PI X tg e t) (w : ∀ σ H Q, t' σ H Q → t σ H Q) : PI X tg e t' := ⟨fun pins s σ H R I q => h.run pins s σ H R I (w σ H R q)⟩
theorem _root_.L2.PTs.imp {X : Cx} {e : List Expr} {t t' : TT} (h : PTs X e t) (w : ∀ σ H Q, t' σ H Q → t σ H Q) : PTs X e t' := ⟨fun pins s σ H R I q => h.run pins s σ H R I (w σ H R q)⟩
theorem Run.step {α : Type} {c : Cl} {fe : Nat → Str} {EW : XK} {B : Hp} {ta ta' : List Addr} {H' : Hp} {m' : Store} {r : R α} {k : α → Store → Hp → List Addr → Prop} (h : Run c fe EW B ta r k) (p : Post c B ta H' ta' m') : Run c fe EW (view H' ta' m') ta' r k := by
  cases r with
  | ok a m => exact fun H2 ta2 p2 => h H2 ta2 (p.trans p2)
  | ex n ds m => exact fun d H2 ta2 p2 e => h d H2 ta2 (p.trans p2) e
  | bad => exact h

/-! ### slots forgotten -/
theorem wipe_get (σ : L2.St) : ∀ (vs : List Nat) (j : Nat), (wipe σ vs)[j]? = if j ∈ vs then (σ[j]?).map (fun _ => none) else σ[j]?
  | [], j => by simp [wipe]
  | v :: vs, j => by
    unfold wipe
    by_cases hv : v = j
    · subst hv
      have hl := wipe_length σ vs
      by_cases hj : v < σ.length
      · rw [List.getElem?_set_self (by rw [hl]; exact hj)]
        simp [hj]
      · rw [List.getElem?_eq_none (by rw [List.length_set, hl]; omega)]
        simp [List.getElem?_eq_none (by omega : σ.length ≤ v)]
    · rw [List.getElem?_set_ne hv, wipe_get σ vs j]
      simp [Ne.symm hv]
theorem wipe_set {σ : L2.St} {i : Nat} {x : Option V} {vs : List Nat} (h : i ∈ vs) : wipe (σ.set i x) vs = wipe σ vs := by
  refine List.ext_getElem? fun j => ?_
  rw [wipe_get, wipe_get]
  by_cases hj : j = i
  · subst hj
    rw [if_pos h, if_pos h]
    by_cases hl : j < σ.length
    · rw [List.getElem?_set_self hl]; simp [hl]
    · rw [List.getElem?_eq_none (by rw [List.length_set]; omega), List.getElem?_eq_none (by omega)]
  · rw [List.getElem?_set_ne (Ne.symm hj)]
theorem wipe_wipe (σ : L2.St) (vs : List Nat) : wipe (wipe σ vs) vs = wipe σ vs := by
  refine List.ext_getElem? fun j => ?_
  rw [wipe_get, wipe_get]
  by_cases h : j ∈ vs
  · rw [if_pos h, if_pos h, Option.map_map]; rfl
  · rw [if_neg h]
mutual
def slots : G → List Nat
  | .n i => [i]
  | .tup gs => slotsL gs
def slotsL : GL → List Nat
  | .nil => []
  | .cons g gs => slots g ++ slotsL gs
end
mutual
theorem clr_len : ∀ (g : G) (env : Env), (clrG g env).length = env.length
  | .n i, env => clrS_length i env
  | .tup gs, env => clrL_len gs env
theorem clrL_len : ∀ (g : GL) (env : Env), (clrGL g env).length = env.length
  | .nil, env => rfl
  | .cons g gs, env => (clr_len g (clrGL gs env)).trans (clrL_len gs env)
end
mutual
theorem clr_get : ∀ (g : G) (env : Env) (i : Nat) (w : W), getS i (clrG g env) = some w → getS i env = some w ∧ i ∉ slots g
  | .n j, env, i, w, h => by
    simp only [clrG, getS_clrS] at h
    split at h
    · cases h
    · exact ⟨h, by simp [slots]; assumption⟩
  | .tup gs, env, i, w, h => clrL_get gs env i w h
theorem clrL_get : ∀ (g : GL) (env : Env) (i : Nat) (w : W), getS i (clrGL g env) = some w → getS i env = some w ∧ i ∉ slotsL g
  | .nil, env, i, w, h => ⟨h, by simp [slotsL]⟩
  | .cons g gs, env, i, w, h => by
    obtain ⟨h1, h2⟩ := clr_get g _ i w h
    obtain ⟨h3, h4⟩ := clrL_get gs env i w h1
    exact ⟨h3, by simp [slotsL]; exact ⟨h2, h4⟩⟩
end
theorem Sit.wipe {c : Cl} {σ : L2.St} {H : Hp} {env : Env} {m : Store} {ta : List Addr} (s : Sit c σ H env m ta) (g : G) : Sit c (wipe σ (slots g)) H (clrG g env) m ta := by
  refine ⟨by rw [clr_len, wipe_length]; exact s.len, fun i w e => ?_, s.toks⟩
  obtain ⟨h1, h2⟩ := clr_get g env i w e
  obtain ⟨v, h3, h4⟩ := s.env i w h1
  exact ⟨v, by rw [wipe_get, if_neg h2]; exact h3, h4⟩

/-! ### targets -/
def nmB (sc : Scope) (fb : Str → Bool) (x : Str) : Bool := match sc.names.lookup x with
  | some .local => true
  | some .cell => fb x
  | _ => false
mutual
def gB (N : List Str) (sc : Scope) (fb : Str → Bool) : G → Expr → Bool
  | .n i, .Name x _ => decide (N[i]? = some x) && nmB sc fb x
  | .tup gs, .Tuple es _ _ => gsB N sc fb gs es
  | _, _ => false
def gsB (N : List Str) (sc : Scope) (fb : Str → Bool) : GL → List Expr → Bool
  | .nil, [] => true
  | .cons g gs, e :: es => gB N sc fb g e && gsB N sc fb gs es
  | _, _ => false
end
def gT (y : Sy) (g : G) : TG := fun v σ H Q => ∃ w env m ta env', Sit y.c σ H env m ta ∧ Wr y.c (view H ta m) ta v w ∧ asgG g w env = some env' ∧
  ∀ σ', Sit y.c σ' H env' m ta → (∀ vs : List Nat, (∀ i ∈ slots g, i ∈ vs) → wipe σ' vs = wipe σ vs) → Q σ' H
def gTs (y : Sy) (g : GL) : TGs := fun vs σ H Q => ∃ ws env m ta env', Sit y.c σ H env m ta ∧ Wrs y.c (view H ta m) ta vs ws ∧ asgGL g ws env = some env' ∧
  ∀ σ', Sit y.c σ' H env' m ta → (∀ vs : List Nat, (∀ i ∈ slotsL g, i ∈ vs) → wipe σ' vs = wipe σ vs) → Q σ' H
section
variable {L : Lk} {y : Sy} {N : List Str} {lv : Nat} {sc : Scope} {X : Cx} {EW : XK} {x l r : Expr} {xs : List Expr} {a b c : E} {es : EL} {pos : Pos} {fb : Str → Bool}
theorem gs_each : ∀ {gs : GL} {es : List Expr} (env : PySem.Env), gsB N sc fb gs es = true → assignEach es env = es.map fun e => (false, assign e env)
  | .nil, [], _, _ => rfl
  | .cons g gs, e :: es, env, h => by
    simp only [gsB, Bool.and_eq_true] at h
    have ih := gs_each env h.2
    have h1 := h.1
    cases g <;> cases e <;> first | (simp [gB] at h1; done) | (show (false, assign _ env) :: assignEach es env = _; rw [ih]; rfl)
  | .nil, _ :: _, _, h => by simp [gsB] at h
  | .cons _ _, [], _, h => by simp [gsB] at h
theorem find_none : ∀ {es : List Expr} (env : PySem.Env), (es.map fun e => (false, assign e env)).findIdx? (·.1) = none
  | [], _ => rfl
  | e :: es, env => by
    have ih := find_none (es := es) env
    simp [List.findIdx?_cons] at ih ⊢
theorem g_n {i : Nat} {x : Expr} (h : gB N sc fb (.n i) x = true) : ∃ n p, x = .Name n p ∧ N[i]? = some n ∧ nmB sc fb n = true := by
  cases x <;> simp [gB] at h
  exact ⟨_, _, rfl, h⟩
theorem g_tup {gs : GL} {x : Expr} (h : gB N sc fb (.tup gs) x = true) : ∃ es k p, x = .Tuple es k p ∧ gsB N sc fb gs es = true := by
  cases x <;> simp [gB] at h
  exact ⟨_, _, _, rfl, h⟩
mutual
theorem s_g (o : XOk L y N lv sc X EW) (fo : ∀ x, fb x = true → X.fn x = true) : ∀ (g : G) {x : Expr}, gB N sc fb g x = true → PG X x (gT y g)
  | .n i, x, h => by
    obtain ⟨n, p, ex, h1, h2⟩ := g_n h
    subst ex
    have hl : (X.env.scope.names.lookup n = some .local) ∨ (X.env.scope.names.lookup n = some .cell ∧ X.fn n = true) := by
      rw [o.sc]
      have q := h2
      unfold nmB at q
      split at q
      · exact .inl (by assumption)
      · exact .inr ⟨by assumption, fo n q⟩
      · cases q
    refine (pg_name (i := i) (by rw [o.hN]; exact o.nd) (by rw [o.hN]; exact h1) (hl.elim .inl fun z => .inr z.1) (hl.elim .inr fun z => .inl z.2)).imp fun v σ H Q ⟨w, env, m, ta, env', s, hw, e, q⟩ => ?_
    simp only [asgG, Option.some.injEq] at e
    subst e
    exact q _ (s.set hw) fun vs hv => wipe_set (hv i (by simp [slots]))
  | .tup gs, x, h => by
    obtain ⟨es, k, p, ex, h⟩ := g_tup h
    subst ex
    have he := gs_each X.env h
    refine (pg_tup (n := es.length) o.calm (s_gs o fo gs h) (by rw [he]; simp) (by rw [he]; exact find_none _)).imp fun v σ H Q ⟨w, env, m, ta, env', s, hw, e, q⟩ => ?_
    cases w with
    | t n => simp [asgG] at e
    | v d =>
      cases d <;> simp only [asgG, reduceCtorEq] at e
      rename_i ds
      cases hw with
      | tup hs hi r =>
        have hlen : ∀ {gs : GL} {es : List Expr} {ws : List W} {env env' : Env}, gsB N sc fb gs es = true → asgGL gs ws env = some env' → ws.length = es.length := by
          intro gs
          induction gs using GL.rec (motive_1 := fun _ => True) with
          | n i => trivial
          | tup gs ih => trivial
          | nil =>
            intro es ws env env' h1 h2
            cases es with
            | nil => cases ws with
              | nil => rfl
              | cons _ _ => simp [asgGL] at h2
            | cons _ _ => simp [gsB] at h1
          | cons g gs ih1 ih =>
            intro es ws env env' h1 h2
            cases es with
            | nil => simp [gsB] at h1
            | cons e es =>
              cases ws with
              | nil => simp [asgGL] at h2
              | cons w ws =>
                simp only [gsB, Bool.and_eq_true] at h1
                simp only [asgGL] at h2
                obtain ⟨env1, _, h3⟩ := Option.bind_eq_some_iff.mp h2
                simp [ih h1.2 h3]
        have hlen' := hlen h e
        rw [List.length_map] at hlen'
        exact ⟨_, _, rfl, o.lnk.hK ▸ seq_mono (view_sub _ _ _) hs, r.length.trans hlen', _, env, m, ta, env', s, Wrs.of r, e, q⟩
theorem s_gs (o : XOk L y N lv sc X EW) (fo : ∀ x, fb x = true → X.fn x = true) : ∀ (g : GL) {xs : List Expr}, gsB N sc fb g xs = true → PGs X xs (gTs y g)
  | .nil, [], _ => pgs_nil.imp fun vs σ H Q ⟨ws, env, m, ta, env', s, hw, e, q⟩ => by
    cases ws with
    | cons _ _ => simp [asgGL] at e
    | nil =>
      cases vs with
      | cons _ _ => exact hw.elim
      | nil =>
        simp only [asgGL, Option.some.injEq] at e
        subst e
        exact ⟨rfl, q σ s fun _ _ => rfl⟩
  | .cons g gs, x :: xs, h => by
    have he := gs_each X.env h
    simp only [gsB, Bool.and_eq_true] at h
    have he2 := gs_each X.env h.2
    refine (pgs_cons (s_g o fo g h.1) (s_gs o fo gs h.2) (by rw [he, he2]; simp)).imp fun vs σ H Q ⟨ws, env, m, ta, env', s, hw, e, q⟩ => ?_
    cases ws with
    | nil => simp [asgGL] at e
    | cons w ws =>
      cases vs with
      | nil => exact hw.elim
      | cons v vs =>
        simp only [asgGL] at e
        obtain ⟨env1, e1, e2⟩ := Option.bind_eq_some_iff.mp e
        refine ⟨v, vs, rfl, w, env, m, ta, env1, s, hw.1, e1, fun σ1 s1 hv1 => ?_⟩
        refine ⟨ws, env1, m, ta, env', s1, hw.2, e2, fun σ2 s2 hv2 => q σ2 s2 fun us hu => ?_⟩
        rw [hv2 us fun i hi => hu i (by simp [slotsL, hi]), hv1 us fun i hi => hu i (by simp [slotsL, hi])]
  | .nil, _ :: _, h => by simp [gsB] at h
  | .cons _ _, [], h => by simp [gsB] at h
end
end
end Cy

set_option Elab.async false
set_option linter.all false
set_option maxRecDepth 100000
set_option maxHeartbeats 4000000
/-! CyZip: zip of a tuple and a list. -/
namespace Cy
open PySem PySem.Spec PyProof.Rows
section
variable {pg : Program} {wd : World} {A : Around} {Er : Value → Shared → Prop} {s : Shared} {z p q j1 j2 t l : Addr} {k : Nat} {xs ys : Array Value} {u v a b : Value}
/-- a step that gives a pair -/
theorem mz_step {Qv : Value → Shared → Prop} (D : ZipApart z p q j1 j2 t l) (hz : IsZip s.heap z p q .none) (hp : IsPair s.heap p (.ref j1) (.ref j2)) (hq : IsPair s.heap q a b) (it1 : s.heap.IsTupleIter j1 t k) (it2 : s.heap.IsListIter j2 l k) (ht : s.heap.IsTuple t xs) (hl : s.heap.IsList l ys) (hu : xs[k]? = some u) (hv : ys[k]? = some v)
    (fin : ∀ g, IsZip g z p q (rawInt s.heap.objs.size) → IsPair g q u v → g.IsTupleIter j1 t (k + 1) → g.IsListIter j2 l (k + 1) → IsPair g s.heap.objs.size u v → g.objs.size = s.heap.objs.size + 1 → (∀ c o, c ≠ z → c ≠ q → c ≠ j1 → c ≠ j2 → s.heap.get? c = some o → g.get? c = some o) → Qv (.ref s.heap.objs.size) { s with heap := g }) :
    wpAny (model pg wd) A (Builtin.«zip.__next__» ⟨[.ref z], []⟩) (fun r s' => ∃ x, r = .done (.ret x) ∧ Qv x s') Er s := by
  show wpAny _ _ (field (.ref z) 2 >>= _) _ _ _
  refine wpAny_bind (wpAny_field hz rfl (x := .bool false) rfl ?_); show wpAny _ _ (field (.ref z) 3 >>= _) _ _ _
  refine wpAny_bind (wpAny_field hz rfl (x := .ref p) rfl (wpAny_bind (wpAny_seqItems hp rfl ?_)))
  show wpAny _ _ (Builtin.SmallTypes.ownedTupleIsFree (.ref z) >>= _) _ _ _
  refine wpAny_bind ?_; unfold Builtin.SmallTypes.ownedTupleIsFree
  refine wpAny_bind (wpAny_field hz rfl (x := .none) rfl (wpAny_pure ?_)); simp only [if_true]
  refine wpAny_bind (wpAny_rule (wpAny_bind (wpAny_field hz rfl (x := .ref q) rfl (wpAny_bind (wpAny_setField_rec hz (by simp) fun g1 z1 b1 => ?_)))))
  replace z1 : IsZip g1 z p q .ellipsis := z1
  refine wpAny_bind ?_; simp only [List.zipIdx_cons, List.zipIdx_nil, List.forIn_cons, List.forIn_nil]
  -- the tuple's turn
  refine wpAny_bind (wpAny_bind (wpAny_onRaise ?_)); show wpAny _ _ (Builtin.SmallTypes.nextOf (.ref j1) >>= _) _ _ _
  refine wpAny_bind (RZ.nextOf_tuple_item (it1.extBut b1.extBut D.i1z) (ht.extBut b1.extBut D.l1z) hu fun g2 w1 b2 => wpAny_pure ?_)
  have q2 : IsPair g2 q a b := b2.extBut _ _ D.TOi1 (b1.extBut _ _ D.TOz hq)
  refine wpAny_bind (wpAny_seqItems q2 rfl (wpAny_bind (wpAny_updateSeq_pair q2 fun g3 q3 b3 => ?_)))
  replace q3 : IsPair g3 q u b := q3
  refine wpAny_bind (wpAny_letGo (wpAny_pure ?_))
  -- the list's turn
  refine wpAny_bind (wpAny_bind (wpAny_onRaise ?_)); show wpAny _ _ (Builtin.SmallTypes.nextOf (.ref j2) >>= _) _ _ _
  have up3 : ∀ c, c ≠ z → c ≠ q → c ≠ j1 → ∀ o, s.heap.get? c = some o → g3.get? c = some o := fun c c1 c2 c3 o e => b3.extBut _ _ c2 (b2.extBut _ _ c3 (b1.extBut _ _ c1 e))
  refine wpAny_bind (wpAny_nextOf_list_item (((it2.extBut b1.extBut D.i2z).extBut b2.extBut D.i12.symm).extBut b3.extBut D.TOi2.symm) (((hl.extBut b1.extBut D.l2z).extBut b2.extBut D.l2i1).extBut b3.extBut D.l2TO) hv fun g4 w2 b4 => wpAny_pure ?_)
  have q4 : IsPair g4 q u b := b4.extBut _ _ D.TOi2 q3
  refine wpAny_bind (wpAny_seqItems q4 rfl (wpAny_bind (wpAny_updateSeq_pair q4 fun g5 q5 b5 => ?_)))
  replace q5 : IsPair g5 q u v := q5
  refine wpAny_bind (wpAny_letGo (wpAny_pure (wpAny_pure ?_)))
  refine wpAny_bind (wpAny_seqItems q5 rfl (wpAny_bind (wpAny_newTuple ?_)))
  have sz : g5.objs.size = s.heap.objs.size := by rw [b5.1, b4.1, b3.1, b2.1, b1.1]
  have up5 : ∀ c, c ≠ q → c ≠ j2 → ∀ o, g3.get? c = some o → g5.get? c = some o := fun c c1 c2 o e => b5.extBut _ _ c1 (b4.extBut _ _ c2 e)
  have z5 : IsZip g5 z p q .ellipsis := up5 z D.TOz.symm D.i2z.symm _ (b3.extBut _ _ D.TOz.symm (b2.extBut _ _ D.i1z.symm z1))
  have r1 : g5.IsTupleIter j1 t (k + 1) := ((w1.extBut b3.extBut D.TOi1.symm).extBut b4.extBut D.i12).extBut b5.extBut D.TOi1.symm
  have r2 : g5.IsListIter j2 l (k + 1) := w2.extBut b5.extBut D.TOi2.symm
  have zl : z < g5.objs.size := Heap.lt_size z5
  show wpAny _ _ (Builtin.SmallTypes.ownedTupleHandOut (.ref z) (.ref g5.objs.size) >>= _) _ _ _
  refine wpAny_bind ?_; unfold Builtin.SmallTypes.ownedTupleHandOut
  have z6 : IsZip (g5.push { cls := .type "tuple", data := .seq #[u, v] }) z p q .ellipsis := Heap.get?_push_of_some _ z5
  refine wpAny_bind (wpAny_setField_rec z6 (by simp) fun g7 z7 b7 => ?_)
  replace z7 : IsZip g7 z p q (rawInt g5.objs.size) := z7
  refine wpAny_setField_rec z7 (by simp) fun g8 z8 b8 => ?_
  replace z8 : IsZip g8 z p q (rawInt g5.objs.size) := z8
  have up8 : ∀ c o, c ≠ z → g5.get? c = some o → g8.get? c = some o := fun c o c1 e => b8.extBut _ _ c1 (b7.extBut _ _ c1 (Heap.get?_push_of_some _ e))
  have n8 : IsPair g8 g5.objs.size u v := b8.extBut _ _ (Nat.ne_of_gt zl) (b7.extBut _ _ (Nat.ne_of_gt zl) (Heap.get?_push_size _ rfl))
  have s8 : g8.objs.size = g5.objs.size + 1 := by rw [b8.1, b7.1, Heap.size_push]
  rw [sz] at z8 n8 s8
  refine wpAny_pure ⟨_, rfl, ?_⟩
  show Qv (.ref g5.objs.size) _; rw [sz]
  exact fin g8 z8 (up8 _ _ D.TOz q5) (r1.at fun o e => up8 _ o D.i1z e) (r2.at fun o e => up8 _ o D.i2z e) n8 s8 fun c o c1 c2 c3 c4 e => up8 c o c1 (up5 c c2 c4 o (up3 c c1 c2 c3 o e))
/-- a step at the end -/
theorem mz_stop {Qf : Fin → Shared → Prop} (nh : A.handled = none) (D : ZipApart z p q j1 j2 t l) (hz : IsZip s.heap z p q .none) (hp : IsPair s.heap p (.ref j1) (.ref j2)) (hq : IsPair s.heap q a b) (it1 : s.heap.IsTupleIter j1 t k) (it2 : s.heap.IsListIter j2 l k) (ht : s.heap.IsTuple t xs) (hl : s.heap.IsList l ys) (he : xs[k]? = none ∨ ys[k]? = none)
    (fin : ∀ g e, (∀ c o, c ≠ z → c ≠ q → c ≠ j1 → c ≠ j2 → s.heap.get? c = some o → g.get? c = some o) → (∃ o, g.get? e = some o ∧ o.cls = .type "StopIteration") → Er (.ref e) { s with heap := g }) :
    wpAny (model pg wd) A (Builtin.«zip.__next__» ⟨[.ref z], []⟩) Qf Er s := by
  show wpAny _ _ (field (.ref z) 2 >>= _) _ _ _
  refine wpAny_bind (wpAny_field hz rfl (x := .bool false) rfl ?_); show wpAny _ _ (field (.ref z) 3 >>= _) _ _ _
  refine wpAny_bind (wpAny_field hz rfl (x := .ref p) rfl (wpAny_bind (wpAny_seqItems hp rfl ?_)))
  show wpAny _ _ (Builtin.SmallTypes.ownedTupleIsFree (.ref z) >>= _) _ _ _
  refine wpAny_bind ?_; unfold Builtin.SmallTypes.ownedTupleIsFree
  refine wpAny_bind (wpAny_field hz rfl (x := .none) rfl (wpAny_pure ?_)); simp only [if_true]
  refine wpAny_bind (wpAny_rule (wpAny_bind (wpAny_field hz rfl (x := .ref q) rfl (wpAny_bind (wpAny_setField_rec hz (by simp) fun g1 z1 b1 => ?_)))))
  replace z1 : IsZip g1 z p q .ellipsis := z1
  refine wpAny_bind ?_; simp only [List.zipIdx_cons, List.zipIdx_nil, List.forIn_cons, List.forIn_nil]
  refine wpAny_bind (wpAny_bind (wpAny_onRaise ?_)); show wpAny _ _ (Builtin.SmallTypes.nextOf (.ref j1) >>= _) _ _ _
  have apart : ∀ {g : Heap} {e : Addr} {o : Obj}, IsZip g z p q .ellipsis → g.get? e = some o → o.cls = .type "StopIteration" → e ≠ z := fun zz eo ec w => by subst w; rw [zz] at eo; cases eo; simp at ec
  cases hu : xs[k]? with
  | none =>
    refine wpAny_bind (RZ.nextOf_tuple_end nh (it1.extBut b1.extBut D.i1z) (ht.extBut b1.extBut D.l1z) hu fun g2 e b2 ⟨o, ho, hc⟩ => ?_)
    have z2 : IsZip g2 z p q .ellipsis := b2 _ _ D.i1z.symm z1
    exact wpAny_setField_rec z2 (by simp) fun g3 _ b3 => fin g3 e (fun c o c1 _ c3 _ x => b3.extBut _ _ c1 (b2 _ _ c3 (b1.extBut _ _ c1 x))) ⟨o, b3.extBut _ _ (apart z2 ho hc) ho, hc⟩
  | some u =>
    have hv : ys[k]? = none := by
      rcases he with h | h
      · rw [hu] at h; cases h
      · exact h
    refine wpAny_bind (RZ.nextOf_tuple_item (it1.extBut b1.extBut D.i1z) (ht.extBut b1.extBut D.l1z) hu fun g2 w1 b2 => wpAny_pure ?_)
    have q2 : IsPair g2 q a b := b2.extBut _ _ D.TOi1 (b1.extBut _ _ D.TOz hq)
    refine wpAny_bind (wpAny_seqItems q2 rfl (wpAny_bind (wpAny_updateSeq_pair q2 fun g3 q3 b3 => wpAny_bind (wpAny_letGo (wpAny_pure ?_)))))
    refine wpAny_bind (wpAny_bind (wpAny_onRaise ?_)); show wpAny _ _ (Builtin.SmallTypes.nextOf (.ref j2) >>= _) _ _ _
    refine wpAny_bind (wpAny_nextOf_list_end nh (((it2.extBut b1.extBut D.i2z).extBut b2.extBut D.i12.symm).extBut b3.extBut D.TOi2.symm) (((hl.extBut b1.extBut D.l2z).extBut b2.extBut D.l2i1).extBut b3.extBut D.l2TO) hv fun g4 e b4 ⟨o, ho, hc⟩ => ?_)
    have z4 : IsZip g4 z p q .ellipsis := b4 _ _ D.i2z.symm (b3.extBut _ _ D.TOz.symm (b2.extBut _ _ D.i1z.symm z1))
    exact wpAny_setField_rec z4 (by simp) fun g5 _ b5 => fin g5 e (fun c o c1 c2 c3 c4 x => b5.extBut _ _ c1 (b4 _ _ c4 (b3.extBut _ _ c2 (b2.extBut _ _ c3 (b1.extBut _ _ c1 x))))) ⟨o, b5.extBut _ _ (apart z4 ho hc) ho, hc⟩
theorem mz_next {Qo : Option Value → Shared → Prop} (D : ZipApart z p q j1 j2 t l) (hz : IsZip s.heap z p q .none) (hp : IsPair s.heap p (.ref j1) (.ref j2)) (hq : IsPair s.heap q a b) (it1 : s.heap.IsTupleIter j1 t k) (it2 : s.heap.IsListIter j2 l k) (ht : s.heap.IsTuple t xs) (hl : s.heap.IsList l ys) (hu : xs[k]? = some u) (hv : ys[k]? = some v)
    (fin : ∀ g, IsZip g z p q (rawInt s.heap.objs.size) → IsPair g q u v → g.IsTupleIter j1 t (k + 1) → g.IsListIter j2 l (k + 1) → IsPair g s.heap.objs.size u v → g.objs.size = s.heap.objs.size + 1 → (∀ c o, c ≠ z → c ≠ q → c ≠ j1 → c ≠ j2 → s.heap.get? c = some o → g.get? c = some o) → Qo (some (.ref s.heap.objs.size)) { s with heap := g }) :
    wpAny (model pg wd) A (pyNext (.ref z)) Qo Er s := by
  have ty : s.TypeIs (.ref z) "zip" := ⟨_, hz, rfl⟩
  unfold pyNext
  exact wpAny_bind (wpAny_attempt (wpAny_callSpecial?_slot (name := Str.ofString "__next__") ty F.slot_zip_next (wpAny_call_entry F.slot_zip_next ty F.entry_zip_next (mz_step D hz hp hq it1 it2 ht hl hu hv fun g e1 e2 e3 e4 e5 e6 e7 => wpAny_pure (fin g e1 e2 e3 e4 e5 e6 e7)) (F.args_zip_next_1 _))))
theorem mz_end {Qo : Option Value → Shared → Prop} (nh : A.handled = none) (D : ZipApart z p q j1 j2 t l) (hz : IsZip s.heap z p q .none) (hp : IsPair s.heap p (.ref j1) (.ref j2)) (hq : IsPair s.heap q a b) (it1 : s.heap.IsTupleIter j1 t k) (it2 : s.heap.IsListIter j2 l k) (ht : s.heap.IsTuple t xs) (hl : s.heap.IsList l ys) (he : xs[k]? = none ∨ ys[k]? = none)
    (fin : ∀ g, (∀ c o, c ≠ z → c ≠ q → c ≠ j1 → c ≠ j2 → s.heap.get? c = some o → g.get? c = some o) → Qo none { s with heap := g }) : wpAny (model pg wd) A (pyNext (.ref z)) Qo Er s := by
  have ty : s.TypeIs (.ref z) "zip" := ⟨_, hz, rfl⟩
  unfold pyNext
  refine wpAny_bind (wpAny_attempt (wpAny_callSpecial?_slot (name := Str.ofString "__next__") ty F.slot_zip_next (wpAny_call_entry F.slot_zip_next ty F.entry_zip_next (mz_stop nh D hz hp hq it1 it2 ht hl he fun g e kp ⟨o, ho, hc⟩ => ?_) (F.args_zip_next_1 _))))
  exact wpAny_bind (wpAny_isInstance (T := "StopIteration") (b := true) ⟨o, ho, hc⟩ isSubtype_stop (wpAny_pure (fin g kp)))
end
/-! ### the zip is made -/
abbrev mk1 (h : Heap) (t : Addr) : Heap := h.push { cls := .type "tuple_iterator", data := .fields #[.ref t, .int 0 0] }
abbrev mk2 (h : Heap) (t l : Addr) : Heap := (mk1 h t).push { cls := .type "list_iterator", data := .fields #[.ref l, .int 0 0] }
abbrev mk3 (h : Heap) (t l : Addr) : Heap := (mk2 h t l).push { cls := .type "tuple", data := .seq #[.ref h.objs.size, .ref (mk1 h t).objs.size] }
abbrev mk4 (h : Heap) (t l : Addr) : Heap := (mk3 h t l).push { cls := .type "tuple", data := .seq #[.none, .none] }
abbrev mk5 (h : Heap) (t l : Addr) : Heap := (mk4 h t l).push { cls := .type "zip", data := .fields #[.none, .bool false, .bool false, .ref (mk2 h t l).objs.size, .ref (mk3 h t l).objs.size] }
theorem mz_meets (t l : Addr) (xs ys : Array Value) : Meets (Builtin.«zip.__new__» ⟨[.type "zip", .ref t, .ref l], []⟩) (fun _ R s => s.heap.IsTuple t xs ∧ s.heap.IsList l ys ∧ R (.ok (.ret (.ref (mk4 s.heap t l).objs.size))) { s with heap := mk5 s.heap t l }) :=
  .of_wp fun prog w A R s h => by
    obtain ⟨hp, g, d, tk, os⟩ := s
    obtain ⟨ht, hl, h⟩ := h
    have sz := sub_zip
    have e1 : Heap.IsTuple (Shared.heap ⟨hp, g, d, tk, os⟩) t xs := ht
    have e2 : Heap.IsList (Shared.heap ⟨hp.push { cls := .type "tuple_iterator", data := .fields #[.ref t, .int 0 0] }, g, d, tk, os⟩) l ys := Heap.IsList.push hl _
    wp_walk using wpAny_pyIter_tuple e1, wpAny_pyIter_list e2
    exact ⟨_, rfl, h⟩
section
variable {pg : Program} {wd : World} {A : Around} {Er : Value → Shared → Prop} {s : Shared}
theorem mz_call {t l : Addr} {xs ys : Array Value} {Qv : Value → Shared → Prop} (ht : s.heap.IsTuple t xs) (hl : s.heap.IsList l ys)
    (fin : ∀ g, IsZip g (s.heap.objs.size + 4) (s.heap.objs.size + 2) (s.heap.objs.size + 3) .none → IsPair g (s.heap.objs.size + 2) (.ref s.heap.objs.size) (.ref (s.heap.objs.size + 1)) → IsPair g (s.heap.objs.size + 3) .none .none → g.IsTupleIter s.heap.objs.size t 0 → g.IsListIter (s.heap.objs.size + 1) l 0 →
      (∀ c o, s.heap.get? c = some o → g.get? c = some o) → Qv (.ref (s.heap.objs.size + 4)) { s with heap := g }) : wpAny (model pg wd) A (call (.type "zip") [.ref t, .ref l]) Qv Er s := by
  refine callType_new F.called_zip (by decide) (F.typeCall_zip_2 _ _) (F.newCall_zip_2 _ _) (fun o => F.args_object_init_3 o _ _) F.entry_zip_new (mz_meets t l xs ys) ⟨ht, hl, ?_⟩
  generalize hh : s.heap = h at fin ⊢
  have n1 : (mk1 h t).objs.size = h.objs.size + 1 := Heap.size_push ..
  have n2 : (mk2 h t l).objs.size = h.objs.size + 2 := by rw [Heap.size_push, n1]
  have n3 : (mk3 h t l).objs.size = h.objs.size + 3 := by rw [Heap.size_push, n2]
  have n4 : (mk4 h t l).objs.size = h.objs.size + 4 := by rw [Heap.size_push, n3]
  have up4 : ∀ {c o}, (mk4 h t l).get? c = some o → (mk5 h t l).get? c = some o := fun e => Heap.get?_push_of_some _ e
  have up3 : ∀ {c o}, (mk3 h t l).get? c = some o → (mk5 h t l).get? c = some o := fun e => up4 (Heap.get?_push_of_some _ e)
  have up2 : ∀ {c o}, (mk2 h t l).get? c = some o → (mk5 h t l).get? c = some o := fun e => up3 (Heap.get?_push_of_some _ e)
  have up1 : ∀ {c o}, (mk1 h t).get? c = some o → (mk5 h t l).get? c = some o := fun e => up2 (Heap.get?_push_of_some _ e)
  have a5 : (mk5 h t l).get? (mk4 h t l).objs.size = some _ := Heap.get?_push_size _ rfl
  have a4 : (mk5 h t l).get? (mk3 h t l).objs.size = some _ := up4 (Heap.get?_push_size _ rfl)
  have a3 : (mk5 h t l).get? (mk2 h t l).objs.size = some _ := up3 (Heap.get?_push_size _ rfl)
  have a2 : (mk5 h t l).get? (mk1 h t).objs.size = some _ := up2 (Heap.get?_push_size _ rfl)
  have a1 : (mk5 h t l).get? h.objs.size = some _ := up1 (Heap.get?_push_size _ rfl)
  show _ ∧ _
  rw [n2, n3, n4] at a5; rw [n1, n2] at a3; rw [n3] at a4; rw [n1] at a2; rw [n4]
  exact ⟨⟨_, a5, rfl⟩, fin _ a5 a3 a4 ⟨_, a1, rfl, rfl⟩ ⟨_, a2, rfl, rfl⟩ fun c o e => up1 (Heap.get?_push_of_some _ e)⟩
end
open L2
/-- the tuple at a and the list at b, item by item, in new pairs -/
def ItzM (K : PySem.W.Frag) (a b : Addr) : It :=
  ⟨fun i H => ∃ (xs ys : List V) (x y : V), SqT K H a xs ∧ SqL K H b ys ∧ xs[i]? = some x ∧ ys[i]? = some y,
   fun i H v H' => ∃ p x y, v = .ref p ∧ H p = none ∧ H' = upd H p (.tup [x, y]) ∧ (∀ xs, SqT K H a xs → xs[i]? = some x) ∧ ∀ ys, SqL K H b ys → ys[i]? = some y,
   fun i H => ∃ xs ys : List V, SqT K H a xs ∧ SqL K H b ys ∧ (xs.length ≤ i ∨ ys.length ≤ i)⟩
theorem turnM {P : Program} {w : World} {K : PySem.W.Frag} {elts : List Expr} {kk : Nat} {tpos : Pos} {a b z p q j1 j2 : Addr} (D : ZipApart z p q j1 j2 a b) :
    Turn P w K (.Tuple elts kk tpos) (ItzM K a b) [z, p, q, j1, j2] z (fun i h => IsZip h z p q .none ∧ IsPair h p (.ref j1) (.ref j2) ∧ (∃ x y, IsPair h q x y) ∧ h.IsTupleIter j1 a i ∧ h.IsListIter j2 b i) where
  mem := by simp
  obj := fun i h st c hc => by
    obtain ⟨hz, hp, ⟨x, y, hq⟩, ⟨o1, e1, _, d1⟩, ⟨o2, e2, _, d2⟩⟩ := st
    simp only [List.mem_cons, List.not_mem_nil, or_false] at hc
    rcases hc with rfl | rfl | rfl | rfl | rfl
    · exact ⟨_, hz, fun v q => nomatch q⟩
    · exact ⟨_, hp, fun v q => nomatch q⟩
    · exact ⟨_, hq, fun v q => nomatch q⟩
    · exact ⟨o1, e1, fun v q => by rw [d1] at q; cases q⟩
    · exact ⟨o2, e2, fun v q => by rw [d2] at q; cases q⟩
  keep := fun i h h' st k => by
    obtain ⟨hz, hp, ⟨x, y, hq⟩, h1, h2⟩ := st
    exact ⟨k z (by simp) _ hz, k p (by simp) _ hp, ⟨x, y, k q (by simp) _ hq⟩, h1.at fun o e => k j1 (by simp) o e, h2.at fun o e => k j2 (by simp) o e⟩
  item := by
    intro X hP hw hK hc i pins s σ H E I hf st hg
    subst hP hw hK
    obtain ⟨hz, hp, ⟨x0, y0, hq⟩, h1, h2⟩ := st
    obtain ⟨xs, ys, x, y, hx, hy, ex, ey⟩ := hg
    obtain ⟨us, ru, tu, _⟩ := I.tuple hx
    obtain ⟨vs, rv, lv, _⟩ := I.list hy
    obtain ⟨u, hu, r1⟩ := ru.get ex
    obtain ⟨v, hv, r2⟩ := rv.get ey
    have zl : z < s.heap.objs.size := Heap.lt_size hz
    refine mz_next D hz hp hq h1 h2 tu lv.isList (u := u) (v := v) (by simpa using hu) (by simpa using hv) fun g z' q' i1 i2 nw _ kp => ?_
    refine ⟨_, rfl, wpAny_letOwnedTupleGo_zip (s := { s with heap := g }) z' fun g2 z2 sb => ?_⟩
    have nw2 : g2.get? s.heap.objs.size = some { cls := .type "tuple", data := .seq #[u, v] } := (sb.2 _ (Nat.ne_of_gt zl)).trans nw
    have ok : ObjOk X.prog X.w (upd H s.heap.objs.size (.tup [x, y])) g2 s.heap.objs.size (.tup [x, y]) := ⟨by show 2 ≤ sizeLine; decide, [u, v], .cons r1 (.cons r2 .nil), ⟨_, nw2, rfl, _, rfl⟩⟩
    have I2 : Inv X pins σ (upd H s.heap.objs.size (.tup [x, y])) { s with heap := g2 } := I.turnedNew (t' := s.toks) (ch := [z, p, q, j1, j2]) (fun c o hb e => (sb.2 c (fun w => hb (by simp [w]))).trans (kp c o (fun w => hb (by simp [w])) (fun w => hb (by simp [w])) (fun w => hb (by simp [w])) (fun w => hb (by simp [w])) e)) hf (Nat.le_refl _) ok
    refine ⟨.ref s.heap.objs.size, _, I2, rfl, ⟨_, x, y, rfl, I.hok.fresh (Nat.le_refl _), rfl, fun l hl => by rw [I.tuple_inj hl hx]; exact ex, fun l hl => by rw [I.list_inj hl hy]; exact ey⟩, ⟨z2, ?_, ⟨u, v, ?_⟩, ?_, ?_⟩, fun c hcm => ?_⟩
    · exact (sb.2 _ D.TIz).trans (kp _ _ D.TIz D.TITO D.TIi1 D.TIi2 hp)
    · exact (sb.2 _ D.TOz).trans q'
    · exact i1.at fun o e => (sb.2 _ D.i1z).trans e
    · exact i2.at fun o e => (sb.2 _ D.i2z).trans e
    · have hlt : c < s.heap.objs.size := by
        simp only [List.mem_cons, List.not_mem_nil, or_false] at hcm
        rcases hcm with rfl | rfl | rfl | rfl | rfl
        · exact zl
        · exact Heap.lt_size hp
        · exact Heap.lt_size hq
        · obtain ⟨_, e1, _⟩ := h1; exact Heap.lt_size e1
        · obtain ⟨_, e2, _⟩ := h2; exact Heap.lt_size e2
      rw [upd_ne (Nat.ne_of_lt hlt)]; exact (hf c hcm).1
  done := by
    intro X hP hw hK hc i pins s σ H E I hf st hg
    subst hP hw hK
    obtain ⟨hz, hp, ⟨x0, y0, hq⟩, h1, h2⟩ := st
    obtain ⟨xs, ys, hx, hy, hend⟩ := hg
    obtain ⟨us, ru, tu, _⟩ := I.tuple hx
    obtain ⟨vs, rv, lv, _⟩ := I.list hy
    have l1 := ru.length; have l2 := rv.length
    have he : us.toArray[i]? = none ∨ vs.toArray[i]? = none := by
      rcases hend with e | e
      · exact .inl (by simp; omega)
      · exact .inr (by simp; omega)
    exact mz_end (I.ok.hd hc) D hz hp hq h1 h2 tu lv.isList he fun g kp => ⟨rfl, I.turnedL (t' := s.toks) (ch := [z, p, q, j1, j2]) (fun c o hb e => kp c o (fun w => hb (by simp [w])) (fun w => hb (by simp [w])) (fun w => hb (by simp [w])) (fun w => hb (by simp [w])) e) hf⟩
  self := fun A i s Q E st h => wpAny_pyIter_zip st.1 h
def iZipB (K : PySem.W.Frag) (ta : TA) : TI := fun σ H R => ta σ H fun vs H1 => ∃ a b xs ys, vs = [.ref a, .ref b] ∧ ((SqL K H1 a xs ∧ SqL K H1 b ys ∧ R (Itz K a b) H1) ∨ (SqT K H1 a xs ∧ SqT K H1 b ys ∧ R (RZ.ItzT K a b) H1) ∨ (SqT K H1 a xs ∧ SqL K H1 b ys ∧ R (ItzM K a b) H1))
theorem pi_zipB {X : Cx} {e e2 : Expr} {ta : TA} {p pos tpos : Pos} {elts : List Expr} {kk : Nat} (hg : Gl X "zip") (hm : X.mg "zip" = none) (ha : PA X [e, e2] ta)
    (hs : starEach [e, e2] X.env = (false, eval e X.env) :: starEach [e2] X.env) (hpl : (backTo pos (starEach [e2] X.env)).any (·.1) = false) : PI X (.Tuple elts kk tpos) (.Call (.Name "zip" p) [e, e2] [] pos) (iZipB X.K ta) := ⟨fun pins s σ H R I h => by
  refine Call_ (ld_blt I hg hm PyProof.Rows.boot_zip (PyProof.Rows.callWith_type1 (thn (ha.run pos pins s σ H _ I h) fun us s1 ⟨vs, H1, I1, r1, q1⟩ => ?_) hs hpl))
  obtain ⟨a, b, xs, ys, ex, q1⟩ := q1
  subst ex
  rcases r1 with _ | ⟨r, _ | ⟨r', ⟨⟩⟩⟩
  cases r; cases r'
  generalize hS : s1.heap.objs.size = S
  have free : ∀ c, c ∈ [S + 4, S + 2, S + 3, S, S + 1] → FpOk X pins H1 c := fun c hc => by
    have hle : s1.heap.objs.size ≤ c := by
      rw [hS]
      simp only [List.mem_cons, List.not_mem_nil, or_false] at hc
      rcases hc with rfl | rfl | rfl | rfl | rfl <;> first | exact Nat.le_add_right _ _ | exact Nat.le_refl _
    exact I1.fpOk hle (I1.hok.fresh hle)
  subst hS
  rcases q1 with ⟨hx, hy, w⟩ | ⟨hx, hy, w⟩ | ⟨hx, hy, w⟩
  · obtain ⟨us, ru, t1, _⟩ := I1.list hx
    obtain ⟨vs, rv, t2, _⟩ := I1.list hy
    refine call_zip_2 t1.isList t2.isList fun g hz hp hq i1 i2 _ kp => wpAny_pyIter_zip hz ?_
    exact ⟨_, _, _, _, H1, rfl, I1.kept (t' := s1.toks) kp, turn_zip (PySem.W.ktu_apart s1.heap.objs.size a b t1.lt t2.lt), ⟨hz, hp, ⟨_, _, hq⟩, i1, i2⟩, free, w⟩
  · obtain ⟨us, ru, t1, _⟩ := I1.tuple hx
    obtain ⟨vs, rv, t2, _⟩ := I1.tuple hy
    obtain ⟨o1, ho1, _⟩ := id t1; obtain ⟨o2, ho2, _⟩ := id t2
    refine RZ.call_zipT t1 t2 fun g hz hp hq i1 i2 _ kp => wpAny_pyIter_zip hz ?_
    exact ⟨_, _, _, _, H1, rfl, I1.kept (t' := s1.toks) kp, RZ.turn_zipT (PySem.W.ktu_apart s1.heap.objs.size a b (Heap.lt_size ho1) (Heap.lt_size ho2)), ⟨hz, hp, ⟨_, _, hq⟩, i1, i2⟩, free, w⟩
  · obtain ⟨us, ru, t1, _⟩ := I1.tuple hx
    obtain ⟨vs, rv, t2, _⟩ := I1.list hy
    obtain ⟨o1, ho1, _⟩ := id t1
    refine mz_call t1 t2.isList fun g hz hp hq i1 i2 kp => wpAny_pyIter_zip hz ?_
    exact ⟨_, _, _, _, H1, rfl, I1.kept (t' := s1.toks) kp, turnM (PySem.W.ktu_apart s1.heap.objs.size a b (Heap.lt_size ho1) t2.lt), ⟨hz, hp, ⟨_, _, hq⟩, i1, i2⟩, free, w⟩⟩
end Cy

set_option Elab.async false
set_option linter.all false
set_option maxRecDepth 100000
set_option maxHeartbeats 2000000
/-! CySound8: what is walked; comprehensions. -/
namespace Cy
open PySem L2
open PySem.PyData (strOk)
/-- a walk gives these -/
structure Wk (c : Cl) (B : Hp) (J : It) (ds : List D) : Prop where
  goes : ∀ i H, i < ds.length → Same B H → J.go i H
  stops : ∀ H, Same B H → J.stop ds.length H
  yields : ∀ i H x H', i < ds.length → Same B H → J.yld i H x H' → ∃ d, ds[i]? = some d ∧ ((H' = H ∧ Rep c B x d) ∨ ∃ T u v e f, x = .ref T ∧ H T = none ∧ H' = upd H T (.tup [u, v]) ∧ d = .tup [e, f] ∧ Rep c B u e ∧ Rep c B v f)
  len : ds.length ≤ sizeLine
def tIT (y : Sy) (EW : XK) (it : IT) : TI := fun σ H R => ∃ env m ta, Sit y.c σ H env m ta ∧ Run y.c y.fe EW (view H ta m) ta (evIT y.F it env m) fun ds m' H' ta' => ∀ J, Wk y.c (view H' ta' m') J ds → R J H'
section
variable {L : Lk} {y : Sy} {N : List Str} {lv : Nat} {sc : Scope} {X : Cx} {EW : XK} {x l r tg : Expr} {xs : List Expr} {a b c : E} {es : EL} {pos : Pos} {fb : Str → Bool}
theorem onV_run {α : Type} {c : Cl} {fe : Nat → Str} {B : Hp} {ta : List Addr} {w : W} {f : D → R α} {k : α → Store → Hp → List Addr → Prop} (h : Run c fe EW B ta (onV w f) k) : ∃ d, w = .v d ∧ Run c fe EW B ta (f d) k := by
  cases w with
  | t n => exact h.elim
  | v d => exact ⟨d, rfl, h⟩
theorem intsW_run {α : Type} {c : Cl} {fe : Nat → Str} {B : Hp} {ta : List Addr} {w u : W} {f : Int → Int → R α} {k : α → Store → Hp → List Addr → Prop} (h : Run c fe EW B ta (intsW w u f) k) : ∃ i j, w = .v (.int i) ∧ u = .v (.int j) ∧ Run c fe EW B ta (f i j) k := by
  cases w with
  | t n => exact h.elim
  | v d =>
    cases d <;> first | exact h.elim | skip
    cases u with
    | t n => exact h.elim
    | v d => cases d <;> first | exact h.elim | exact ⟨_, _, rfl, rfl, h⟩
theorem iteR_run {α : Type} {c : Cl} {fe : Nat → Str} {B : Hp} {ta : List Addr} {p : Prop} [Decidable p] {q : R α} {k : α → Store → Hp → List Addr → Prop} (h : Run c fe EW B ta (if p then q else .bad) k) : p ∧ Run c fe EW B ta q k := by
  split at h
  · exact ⟨by assumption, h⟩
  · exact h.elim
/-- walks of what stands by value -/
theorem wk_list {K : PySem.W.Frag} {c : Cl} {B : Hp} {a : Addr} {ys : List V} {ds : List D} (h : Rd B a (.lst ys)) (r : Reps c B ys ds) (hl : ys.length ≤ sizeLine) : Wk c B (Itl K a) ds := by
  have w := walk_list (K := K) (a := a) (xs := ys)
  have e := r.length
  refine ⟨fun i H hi s => w.goes i H (by omega) (.inl (rd_mono s h)), fun H s => e ▸ w.stops H (.inl (rd_mono s h)), fun i H x H' hi s q => ?_, by omega⟩
  obtain ⟨h1, h2⟩ := w.yields i H x H' (by omega) (.inl (rd_mono s h)) q
  obtain ⟨v, h3, h4⟩ := r.get (i := i) (d := ds[i]) (by simp [hi])
  rw [h2] at h3; cases h3
  exact ⟨ds[i], by simp [hi], .inl ⟨h1, h4⟩⟩
theorem wk_tup {c : Cl} {B : Hp} {a : Addr} {ys : List V} {ds : List D} (h : SqT c.K B a ys) (r : Reps c B ys ds) (hl : ys.length ≤ sizeLine) : Wk c B (Itt c.K a) ds := by
  have w := walk_tup (K := c.K) (a := a) (xs := ys)
  have e := r.length
  refine ⟨fun i H hi s => w.goes i H (by omega) (seq_mono s h), fun H s => e ▸ w.stops H (seq_mono s h), fun i H x H' hi s q => ?_, by omega⟩
  obtain ⟨h1, h2⟩ := w.yields i H x H' (by omega) (seq_mono s h) q
  obtain ⟨v, h3, h4⟩ := r.get (i := i) (d := ds[i]) (by simp [hi])
  rw [h2] at h3; cases h3
  exact ⟨ds[i], by simp [hi], .inl ⟨h1, h4⟩⟩
theorem zipIdx_get {ds : List D} {i : Nat} (hi : i < ds.length) : ((List.zipIdx ds).map fun p => D.tup [.int (p.2 : Nat), p.1])[i]? = some (.tup [.int (i : Nat), ds[i]]) := by
  simp [hi]
theorem wk_enumL {K : PySem.W.Frag} {c : Cl} {B : Hp} {a : Addr} {ys : List V} {ds : List D} (h : Rd B a (.lst ys)) (r : Reps c B ys ds) (hl : ys.length ≤ sizeLine) : Wk c B (Ite K a) ((List.zipIdx ds).map fun p => .tup [.int (p.2 : Nat), p.1]) := by
  have w := walk_enum (K := K) (a := a) (xs := ys)
  have e := r.length
  have el : ((List.zipIdx ds).map fun p => D.tup [.int (p.2 : Nat), p.1]).length = ds.length := by simp
  refine ⟨fun i H hi s => w.goes i H (by omega) (.inl (rd_mono s h)), fun H s => by rw [el, ← e]; exact w.stops H (.inl (rd_mono s h)), fun i H x H' hi s q => ?_, by omega⟩
  obtain ⟨T, u, v, h1, h2, h3, h4, h5⟩ := w.yields i H x H' (by omega) (.inl (rd_mono s h)) q
  have hi' : i < ds.length := by omega
  obtain ⟨v', h6, h7⟩ := r.get (i := i) (d := ds[i]) (by simp [hi'])
  have h5 : ys[i]? = some v := h5
  rw [h5] at h6; cases h6
  cases h4
  exact ⟨_, zipIdx_get hi', .inr ⟨T, _, _, _, _, h1, h2, h3, rfl, .int _, h7⟩⟩
theorem wk_enumT {c : Cl} {B : Hp} {a : Addr} {ys : List V} {ds : List D} (h : SqT c.K B a ys) (r : Reps c B ys ds) (hl : ys.length ≤ sizeLine) : Wk c B (IteT c.K a) ((List.zipIdx ds).map fun p => .tup [.int (p.2 : Nat), p.1]) := by
  have w := walk_enumT (K := c.K) (a := a) (xs := ys)
  have e := r.length
  have el : ((List.zipIdx ds).map fun p => D.tup [.int (p.2 : Nat), p.1]).length = ds.length := by simp
  refine ⟨fun i H hi s => w.goes i H (by omega) (seq_mono s h), fun H s => by rw [el, ← e]; exact w.stops H (seq_mono s h), fun i H x H' hi s q => ?_, by omega⟩
  obtain ⟨T, u, v, h1, h2, h3, h4, h5⟩ := w.yields i H x H' (by omega) (seq_mono s h) q
  have hi' : i < ds.length := by omega
  obtain ⟨v', h6, h7⟩ := r.get (i := i) (d := ds[i]) (by simp [hi'])
  have h5 : ys[i]? = some v := h5
  rw [h5] at h6; cases h6
  cases h4
  exact ⟨_, zipIdx_get hi', .inr ⟨T, _, _, _, _, h1, h2, h3, rfl, .int _, h7⟩⟩
theorem zip_get2 {xs ys : List D} {i : Nat} (h1 : i < xs.length) (h2 : i < ys.length) : (List.zipWith (fun x y => D.tup [x, y]) xs ys)[i]? = some (.tup [xs[i], ys[i]]) := by
  simp [List.getElem?_zipWith, h1, h2]
theorem wk_zipL {K : PySem.W.Frag} {c : Cl} {B : Hp} {a b : Addr} {ys zs : List V} {ds es : List D} (h : Rd B a (.lst ys)) (r : Reps c B ys ds) (h' : Rd B b (.lst zs)) (r' : Reps c B zs es) (hl : ds.length ≤ sizeLine) : Wk c B (Itz K a b) (List.zipWith (fun x y => .tup [x, y]) ds es) := by
  have w := walk_zip (K := K) (a := a) (b := b) (xs := ys) (ys := zs) rfl
  have e1 := r.length
  have e2 := r'.length
  have el : (List.zipWith (fun x y => D.tup [x, y]) ds es).length = min ys.length zs.length := by simp [e1, e2]
  refine ⟨fun i H hi s => w.goes i H (by omega) ⟨.inl (rd_mono s h), .inl (rd_mono s h')⟩, fun H s => by rw [el]; exact w.stops H ⟨.inl (rd_mono s h), .inl (rd_mono s h')⟩, fun i H x H' hi s q => ?_, by omega⟩
  obtain ⟨T, u, v, p1, p2, p3, p4, p5⟩ := w.yields i H x H' (by omega) ⟨.inl (rd_mono s h), .inl (rd_mono s h')⟩ q
  have i1 : i < ds.length := by omega
  have i2 : i < es.length := by omega
  obtain ⟨v1, q1, q2⟩ := r.get (i := i) (d := ds[i]) (by simp [i1])
  obtain ⟨v2, q3, q4⟩ := r'.get (i := i) (d := es[i]) (by simp [i2])
  have p4 : ys[i]? = some u := p4
  have p5 : zs[i]? = some v := p5
  rw [p4] at q1; cases q1
  rw [p5] at q3; cases q3
  exact ⟨_, zip_get2 i1 i2, .inr ⟨T, _, _, _, _, p1, p2, p3, rfl, q2, q4⟩⟩
theorem walk_zipT {K : PySem.W.Frag} {a b : Addr} {xs ys : List V} {n : Nat} (hn : n = min xs.length ys.length) : Walk (RZ.ItzT K a b) n (fun H => SqT K H a xs ∧ SqT K H b ys) (YPair (fun i => xs[i]?) (fun i => ys[i]?)) := by
  subst hn
  refine ⟨fun i _ hi q => ?_, fun _ q => ⟨xs, ys, q.1, q.2, by omega⟩, fun i H v H' _ q y => ?_⟩
  · have h1 : i < xs.length := by omega
    have h2 : i < ys.length := by omega
    exact ⟨xs, ys, xs[i], ys[i], q.1, q.2, by simp [h1], by simp [h2]⟩
  · obtain ⟨T, x, z, h1, h2, h3, h4, h5⟩ := y
    exact ⟨T, x, z, h1, h2, h3, h4 xs q.1, h5 ys q.2⟩
theorem wk_zipT {c : Cl} {B : Hp} {a b : Addr} {ys zs : List V} {ds es : List D} (h : SqT c.K B a ys) (r : Reps c B ys ds) (h' : SqT c.K B b zs) (r' : Reps c B zs es) (hl : ds.length ≤ sizeLine) : Wk c B (RZ.ItzT c.K a b) (List.zipWith (fun x y => .tup [x, y]) ds es) := by
  have w := walk_zipT (K := c.K) (a := a) (b := b) (xs := ys) (ys := zs) rfl
  have e1 := r.length
  have e2 := r'.length
  have el : (List.zipWith (fun x y => D.tup [x, y]) ds es).length = min ys.length zs.length := by simp [e1, e2]
  refine ⟨fun i H hi s => w.goes i H (by omega) ⟨seq_mono s h, seq_mono s h'⟩, fun H s => by rw [el]; exact w.stops H ⟨seq_mono s h, seq_mono s h'⟩, fun i H x H' hi s q => ?_, by omega⟩
  obtain ⟨T, u, v, p1, p2, p3, p4, p5⟩ := w.yields i H x H' (by omega) ⟨seq_mono s h, seq_mono s h'⟩ q
  have i1 : i < ds.length := by omega
  have i2 : i < es.length := by omega
  obtain ⟨v1, q1, q2⟩ := r.get (i := i) (d := ds[i]) (by simp [i1])
  obtain ⟨v2, q3, q4⟩ := r'.get (i := i) (d := es[i]) (by simp [i2])
  have p4 : ys[i]? = some u := p4
  have p5 : zs[i]? = some v := p5
  rw [p4] at q1; cases q1
  rw [p5] at q3; cases q3
  exact ⟨_, zip_get2 i1 i2, .inr ⟨T, _, _, _, _, p1, p2, p3, rfl, q2, q4⟩⟩
theorem walk_zipM {K : PySem.W.Frag} {a b : Addr} {xs ys : List V} {n : Nat} (hn : n = min xs.length ys.length) : Walk (ItzM K a b) n (fun H => SqT K H a xs ∧ SqL K H b ys) (YPair (fun i => xs[i]?) (fun i => ys[i]?)) := by
  subst hn
  refine ⟨fun i _ hi q => ?_, fun _ q => ⟨xs, ys, q.1, q.2, by omega⟩, fun i H v H' _ q y => ?_⟩
  · have h1 : i < xs.length := by omega
    have h2 : i < ys.length := by omega
    exact ⟨xs, ys, xs[i], ys[i], q.1, q.2, by simp [h1], by simp [h2]⟩
  · obtain ⟨T, x, z, h1, h2, h3, h4, h5⟩ := y
    exact ⟨T, x, z, h1, h2, h3, h4 xs q.1, h5 ys q.2⟩
theorem wk_zipM {c : Cl} {B : Hp} {a b : Addr} {ys zs : List V} {ds es : List D} (h : SqT c.K B a ys) (r : Reps c B ys ds) (h' : Rd B b (.lst zs)) (r' : Reps c B zs es) (hl : ds.length ≤ sizeLine) : Wk c B (ItzM c.K a b) (List.zipWith (fun x y => .tup [x, y]) ds es) := by
  have w := walk_zipM (K := c.K) (a := a) (b := b) (xs := ys) (ys := zs) rfl
  have e1 := r.length
  have e2 := r'.length
  have el : (List.zipWith (fun x y => D.tup [x, y]) ds es).length = min ys.length zs.length := by simp [e1, e2]
  refine ⟨fun i H hi s => w.goes i H (by omega) ⟨seq_mono s h, (.inl (rd_mono s h'))⟩, fun H s => by rw [el]; exact w.stops H ⟨seq_mono s h, (.inl (rd_mono s h'))⟩, fun i H x H' hi s q => ?_, by omega⟩
  obtain ⟨T, u, v, p1, p2, p3, p4, p5⟩ := w.yields i H x H' (by omega) ⟨seq_mono s h, (.inl (rd_mono s h'))⟩ q
  have i1 : i < ds.length := by omega
  have i2 : i < es.length := by omega
  obtain ⟨v1, q1, q2⟩ := r.get (i := i) (d := ds[i]) (by simp [i1])
  obtain ⟨v2, q3, q4⟩ := r'.get (i := i) (d := es[i]) (by simp [i2])
  have p4 : ys[i]? = some u := p4
  have p5 : zs[i]? = some v := p5
  rw [p4] at q1; cases q1
  rw [p5] at q3; cases q3
  exact ⟨_, zip_get2 i1 i2, .inr ⟨T, _, _, _, _, p1, p2, p3, rfl, q2, q4⟩⟩
theorem wk_range {c : Cl} {B : Hp} {i j : Int} (h : j - i ≤ 10000000) : Wk c B (Itr i (j - i).toNat) (rngD i j) := by
  have w := walk_range (lo := i) (n := (j - i).toNat)
  have el : (rngD i j).length = (j - i).toNat := by simp [rngD]
  refine ⟨fun k H hk s => w.goes k H (by omega) trivial, fun H s => el ▸ w.stops H trivial, fun k H x H' hk s q => ?_, lim_size (by rw [el]; show _ ≤ 10000000; omega)⟩
  obtain ⟨h1, h2⟩ := w.yields k H x H' (by omega) trivial q
  refine ⟨.int (i + k), ?_, .inl ⟨h1, by rw [h2]; exact .int _⟩⟩
  have hk' : k < (j - i).toNat := by omega
  simp [rngD, hk']
theorem wk_str {c : Cl} {B : Hp} {z : Str} (ok : strOk z = true) (hl : z.length ≤ LIM) : Wk c B (Its z) (z.cps.toList.map fun c => .str ⟨#[c]⟩) := by
  have w := walk_str (z := z)
  have el : (z.cps.toList.map fun c => D.str ⟨#[c]⟩).length = z.cps.size := by simp
  refine ⟨fun k H hk s => w.goes k H (by omega) trivial, fun H s => el ▸ w.stops H trivial, fun k H x H' hk s q => ?_, lim_size (by rw [el]; exact hl)⟩
  obtain ⟨h1, cc, h2, h3⟩ := w.yields k H x H' (by omega) trivial q
  refine ⟨.str ⟨#[cc]⟩, ?_, .inl ⟨h1, ?_⟩⟩
  · rw [List.getElem?_map, Array.getElem?_toList, h2]; rfl
  · rw [h3]
    refine .str ?_
    have hm : cc ∈ z.cps := Array.mem_of_getElem? h2
    rw [strOk_iff] at ok ⊢
    intro d hd
    have : d = cc := by simpa using hd
    subst this
    exact ok d hm
theorem i_seq (o : XOk L y N lv sc X EW) (h : PE X x (tE y EW a)) : PI X tg x (tIT y EW (.seq a)) := (pi_seq h).imp fun σ H R ⟨env, m, ta, s, r⟩ => ⟨env, m, ta, s, by
  simp only [evIT] at r
  refine r.bind.mono fun w m1 H1 ta1 p1 r1 v hv => ?_
  obtain ⟨d, rfl, r1⟩ := onV_run r1
  obtain ⟨ds, e, r1⟩ := ofO_run r1
  have q := r1.here p1.toks
  cases d <;> simp only [seqD, reduceCtorEq, Option.some.injEq] at e
  · subst e
    cases hv with | tup hs hi r => exact ⟨_, _, rfl, .inr ⟨o.lnk.hK ▸ seq_mono (view_sub _ _ _) hs, fun hl => q _ (o.lnk.hK ▸ wk_tup hs r hl)⟩⟩
  · subst e
    cases hv with | lst hs r => exact ⟨_, _, rfl, .inl ⟨.inl (rd_mono (view_sub _ _ _) hs), fun hl => q _ (wk_list hs r hl)⟩⟩⟩
theorem i_chars (h : PE X x (tE y EW a)) : PI X tg x (tIT y EW (.chars a)) := (pi_str h).imp fun σ H R ⟨env, m, ta, s, r⟩ => ⟨env, m, ta, s, by
  simp only [evIT] at r
  refine r.bind.mono fun w m1 H1 ta1 p1 r1 v hv => ?_
  obtain ⟨d, rfl, r1⟩ := onV_run r1
  obtain ⟨ds, e, r1⟩ := ofO_run r1
  have q := r1.here p1.toks
  cases d <;> simp only [charsD, reduceCtorEq] at e
  split at e
  · cases e
    obtain ⟨rfl, ok⟩ := rep_str hv
    exact ⟨_, rfl, q _ (wk_str ok (by assumption))⟩
  · cases e⟩
theorem two_arg {α : Type} {y : Sy} {B : Hp} {ta : List Addr} {env : Env} {m : Store} {K : α → Store → Hp → List Addr → Prop} {f : W → W → Store → R α} (h : Run y.c y.fe EW B ta ((ev y.F a env m).bind fun x m => (ev y.F b env m).bind fun z m => f x z m) K) :
    Run y.c y.fe EW B ta (evL y.F (.cons a (.cons b .nil)) env m) fun ws m1 H1 ta1 => ∃ x z, ws = [x, z] ∧ Run y.c y.fe EW (view H1 ta1 m1) ta1 (f x z m1) K := by
  simp only [evL]
  generalize ev y.F a env m = q at h ⊢
  cases q with
  | bad => exact h
  | ex _ _ _ => exact h
  | ok w m1 =>
    show Run y.c y.fe EW B ta (((ev y.F b env m1).bind fun w m => R.ok [w] m).bind fun ws m => R.ok (w :: ws) m) _
    have h : Run y.c y.fe EW B ta ((ev y.F b env m1).bind fun z m => f w z m) K := h
    generalize ev y.F b env m1 = q at h ⊢
    cases q with
    | bad => exact h
    | ex _ _ _ => exact h
    | ok u m2 => exact fun H2 ta2 p2 => ⟨_, _, rfl, Run.step h p2⟩
theorem i_rng2 {p : Pos} (o : XOk L y N lv sc X EW) (hg : glB sc "range" = true) (ha : PE X l (tE y EW a)) (hb : PE X r (tE y EW b)) (h1 : nstar l = true) (h2 : nstar r = true) : PI X tg (.Call (.Name "range" p) [l, r] [] pos) (tIT y EW (.rng a b)) :=
  (pi_range2 (gl_of o hg) (o_bt o (by decide +kernel)) (s_cons ha (s_cons hb s_nil h2) h1) (by rw [star_cons h1, star_cons h2]; rfl) (by rw [star_cons h2]; rfl)).imp fun σ H R ⟨env, m, ta, s, rr⟩ => ⟨env, m, ta, s, by
  simp only [evIT] at rr
  refine (two_arg rr).mono fun ws m1 H1 ta1 p1 ⟨w, u, e, r1⟩ vs hvs => ?_
  subst e
  obtain ⟨i, j, rfl, rfl, r1⟩ := intsW_run r1
  obtain ⟨hl, r1⟩ := iteR_run r1
  have q := r1.here p1.toks
  rcases vs with _ | ⟨v1, _ | ⟨v2, _ | ⟨_, _⟩⟩⟩ <;> first | exact hvs.elim | exact hvs.2.elim | exact hvs.2.2.elim | skip
  obtain rfl := rep_int hvs.1
  obtain rfl := rep_int hvs.2.1
  exact ⟨i, j, rfl, ⟨by omega, by omega, by omega, by omega⟩, q _ (wk_range (by omega))⟩⟩
theorem i_rng1 {p : Pos} (o : XOk L y N lv sc X EW) (hg : glB sc "range" = true) (hb : PE X r (tE y EW b)) (h2 : nstar r = true) : PI X tg (.Call (.Name "range" p) [r] [] pos) (tIT y EW (.rng (.c (.int 0)) b)) :=
  (pi_range1 (gl_of o hg) (o_bt o (by decide +kernel)) (s_cons hb s_nil h2) (by rw [star_cons h2]; rfl)).imp fun σ H R ⟨env, m, ta, s, rr⟩ => ⟨env, m, ta, s, by
  simp only [evIT] at rr
  refine one_run (P := fun vs H1 => ∃ j : Int, vs = [.int j] ∧ -(2 ^ 62) ≤ j ∧ j < 2 ^ 62 ∧ R (Itr 0 j.toNat) H1) ?_
  have r0 := Run.bind rr
  simp only [ev] at r0
  refine (Run.bind (r0.here s.toks)).mono fun w m1 H1 ta1 p1 r1 v hv => ?_
  obtain ⟨i, j, e, rfl, r1⟩ := intsW_run r1
  cases e
  obtain ⟨hl, r1⟩ := iteR_run r1
  have q := r1.here p1.toks
  obtain rfl := rep_int hv
  have := q _ (wk_range (by omega))
  rw [Int.sub_zero] at this
  exact ⟨j, rfl, by omega, by omega, this⟩⟩
theorem i_enum {p tpos : Pos} {elts : List Expr} {kk : Nat} (o : XOk L y N lv sc X EW) (hg : glB sc "enumerate" = true) (ha : PE X x (tE y EW a)) (h1 : nstar x = true) : PI X (.Tuple elts kk tpos) (.Call (.Name "enumerate" p) [x] [] pos) (tIT y EW (.enum a)) :=
  (pi_enumA (gl_of o hg) (o_bt o (by decide +kernel)) (s_cons ha s_nil h1) (by rw [star_cons h1]; rfl)).imp fun σ H R ⟨env, m, ta, s, rr⟩ => ⟨env, m, ta, s, by
  simp only [evIT] at rr
  refine one_run (P := fun vs H1 => ∃ a xs, vs = [.ref a] ∧ ((SqL X.K H1 a xs ∧ (xs.length ≤ sizeLine → R (Ite X.K a) H1)) ∨ (SqT X.K H1 a xs ∧ (xs.length ≤ sizeLine → R (IteT X.K a) H1)))) ?_
  refine rr.bind.mono fun w m1 H1 ta1 p1 r1 v hv => ?_
  obtain ⟨d, rfl, r1⟩ := onV_run r1
  obtain ⟨ds, e, r1⟩ := onO_run r1
  have q := r1.here p1.toks
  cases d <;> simp only [seqD, reduceCtorEq, Option.some.injEq] at e
  · subst e
    cases hv with | tup hs hi r => exact ⟨_, _, rfl, .inr ⟨o.lnk.hK ▸ seq_mono (view_sub _ _ _) hs, fun hl => q _ (o.lnk.hK ▸ wk_enumT hs r hl)⟩⟩
  · subst e
    cases hv with | lst hs r => exact ⟨_, _, rfl, .inl ⟨.inl (rd_mono (view_sub _ _ _) hs), fun hl => q _ (wk_enumL hs r hl)⟩⟩⟩
theorem i_zip {p tpos : Pos} {elts : List Expr} {kk : Nat} (o : XOk L y N lv sc X EW) (hg : glB sc "zip" = true) (ha : PE X l (tE y EW a)) (hb : PE X r (tE y EW b)) (h1 : nstar l = true) (h2 : nstar r = true) : PI X (.Tuple elts kk tpos) (.Call (.Name "zip" p) [l, r] [] pos) (tIT y EW (.zip a b)) :=
  (pi_zipB (gl_of o hg) (o_bt o (by decide +kernel)) (s_cons ha (s_cons hb s_nil h2) h1) (by rw [star_cons h1]) (any_of (es := [r]) (by simp [nstars, h2]))).imp fun σ H R ⟨env, m, ta, s, rr⟩ => ⟨env, m, ta, s, by
  simp only [evIT] at rr
  refine (two_arg rr).mono fun ws m1 H1 ta1 p1 ⟨w, u, e, r1⟩ vs hvs => ?_
  subst e
  obtain ⟨d, ed, r1⟩ := onV_run r1
  obtain ⟨d2, ed2, r1⟩ := onV_run r1
  subst ed
  subst ed2
  obtain ⟨ds, e, r1⟩ := ofO_run r1
  have q := r1.here p1.toks
  rcases vs with _ | ⟨v1, _ | ⟨v2, _ | ⟨_, _⟩⟩⟩ <;> first | exact hvs.elim | exact hvs.2.elim | exact hvs.2.2.elim | skip
  have q1 := hvs.1
  have q2 := hvs.2.1
  have sm := view_sub H1 ta1 m1
  cases d <;> cases d2 <;> simp only [zipD, reduceCtorEq] at e
  · split at e
    · cases e
      rename_i hl
      cases q1 with | tup hs hi r => cases q2 with | tup hs2 hi2 r2 => exact ⟨_, _, _, _, rfl, .inr (.inl ⟨o.lnk.hK ▸ seq_mono sm hs, o.lnk.hK ▸ seq_mono sm hs2, q _ (o.lnk.hK ▸ wk_zipT hs r hs2 r2 (lim_size hl))⟩)⟩
    · cases e
  · split at e
    · cases e
      rename_i hl
      cases q1 with | tup hs hi r => cases q2 with | lst hs2 r2 => exact ⟨_, _, _, _, rfl, .inr (.inr ⟨o.lnk.hK ▸ seq_mono sm hs, .inl (rd_mono sm hs2), q _ (o.lnk.hK ▸ wk_zipM hs r hs2 r2 (lim_size hl))⟩)⟩
    · cases e
  · split at e
    · cases e
      rename_i hl
      cases q1 with | lst hs r => cases q2 with | lst hs2 r2 => exact ⟨_, _, _, _, rfl, .inl ⟨.inl (rd_mono sm hs), .inl (rd_mono sm hs2), q _ (wk_zipL hs r hs2 r2 (lim_size hl))⟩⟩
    · cases e⟩
end
end Cy

set_option Elab.async false
set_option linter.all false
set_option maxRecDepth 100000
set_option maxHeartbeats 2000000
/-! CySound9: list comprehensions. -/
namespace Cy
open PySem L2
open PySem.PyData (strOk)
def ownOf (N : List Str) (g : G) : List (Str × Nat) := (slots g).map fun i => ((N[i]?).getD Str.empty, i)
theorem own_slots (N : List Str) (g : G) : (ownOf N g).map (·.2) = slots g := by
  unfold ownOf
  rw [List.map_map]
  have : ((fun x : Str × Nat => x.2) ∘ fun i => ((N[i]?).getD Str.empty, i)) = id := rfl
  rw [this, List.map_id]
def cellB (scope : Scope) (x : Str) : Bool := scope.names.lookup x == some .cell
def notSet : Expr → Bool
  | .Set _ _ _ => false
  | _ => true
theorem folded_of {e : Expr} {env : PySem.Env} (h : notSet e = true) (x : Value) : foldedSetIterable e env x = pure x := by
  cases e <;> first | rfl | (simp [notSet] at h)
section
variable {L : Lk} {y : Sy} {N : List Str} {lv : Nat} {sc : Scope} {X : Cx} {EW : XK} {x l r tg : Expr} {xs : List Expr} {a b c : E} {es : EL} {pos : Pos} {fb : Str → Bool}
theorem XOk.blk (o : XOk L y N lv sc X EW) (s : Shared) (H : Hp) (scope : Scope) (C : Addr) (cl : List (Str × Addr)) (fp : List Addr) : XOk L y N lv (relS scope sc) (X.blk s H scope (compEnvC scope cl C X.env) fp) E0 :=
  ⟨o.hN, o.nd, by rw [← o.sc]; rfl, o.calm, o.room, passL, ⟨o.lnk.hK, o.lnk.hcs, o.lnk.fn, o.lnk.kfn, o.lnk.cls, o.lnk.gcls, o.lnk.fld, o.lnk.meth, o.lnk.init, o.lnk.prop, o.lnk.lens, o.lnk.eqs, (fun c n fl h => ⟨(o.lnk.err c n fl h).fe, (o.lnk.err c n fl h).mg, (o.lnk.err c n fl h).f⟩), o.lnk.hier, o.lnk.ebase, o.lnk.glob, o.lnk.bt, o.lnk.kit⟩⟩
/-- a turn of a walk: the state is as it was, the item is there -/
theorem walk_step {c : Cl} {B : Hp} {J : It} {ds : List D} {i : Nat} {H H' : Hp} {ta : List Addr} {m : Store} {v : V} (w : Wk c B J ds) (hi : i < ds.length) (t : Toks c H ta m) (sb : Same B (view H ta m)) (hy : J.yld i H v H') :
    ∃ d, ds[i]? = some d ∧ Post c (view H ta m) ta H' ta m ∧ Rep c (view H' ta m) v d := by
  obtain ⟨d, h1, h2⟩ := w.yields i H v H' hi (sb.trans (view_sub _ _ _)) hy
  refine ⟨d, h1, ?_⟩
  rcases h2 with ⟨rfl, h3⟩ | ⟨T, u, z, e, f, rfl, hT, rfl, rfl, h3, h4⟩
  · exact ⟨Post.refl t, h3.mono sb⟩
  · obtain ⟨p1, p2⟩ := post_new (o := .tup [u, z]) t hT
    exact ⟨p1, .tup (.inl (.inl p2)) (fun _ => p2) (.cons (h3.mono (sb.trans p1.ext)) (.cons (h4.mono (sb.trans p1.ext)) .nil))⟩
theorem comp_imp {g : G} {it : IT} {cs : EL} {e : E} {tk : Bool} : ∀ σ H Q, tE y EW (.comp tk g it cs e) σ H Q → tLcH (tIT y EW it) (gT y g) (tAt y E0 cs) (tE y E0 e) (slots g) σ H Q := fun σ H Q ⟨env, m, ta, s, rr⟩ => by
  refine ⟨env, m, ta, s, ?_⟩
  simp only [ev] at rr
  refine rr.bind.mono fun ds m1 H1 ta1 p1 r1 J wk => ?_
  have s1 := s.step p1
  have r2 := noex_run (Run.bind r1)
  clear r1 rr
  generalize hK : (fun (a : List W) (m1 : Store) (H1 : Hp) (ta1 : List Addr) => Run y.c y.fe EW (view H1 ta1 m1) ta1 (newL tk a m1) fun w m' H' ta' => ∀ (v : V), Wr y.c (view H' ta' m') ta' v w → Q v H') = K at r2
  let turn := fun (acc : List W) (w : D) (m : Store) => onO (asgG g (.v w) (clrG g env)) fun env' => (evAnd y.F cs env' m).bind fun b m => ifW b ((ev y.F e env' m).bind fun z m => R.ok (acc ++ [z]) m) (R.ok acc m)
  have r2 : Run y.c y.fe E0 (view H1 ta1 m1) ta1 (foldR turn ds [] m1) K := r2
  refine ⟨fun i n acc H => n = ds.length - i ∧ i ≤ ds.length ∧ acc.length ≤ i ∧ ∃ m ta ws, Sit y.c (wipe σ (slots g)) H (clrG g env) m ta ∧ Wrs y.c (view H ta m) ta acc ws ∧ Same (view H1 ta1 m1) (view H ta m) ∧ Run y.c y.fe E0 (view H ta m) ta (foldR turn (ds.drop i) ws m) K,
    ⟨ds.length, by simp, Nat.zero_le _, Nat.zero_le _, m1, ta1, [], s1.wipe g, trivial, Same.refl _, r2⟩, ?_⟩
  rintro i n acc H2 ⟨rfl, hi, hacc, m2, ta2, ws, s2, hw, sb, r3⟩
  by_cases hlt : i < ds.length
  · refine .inr ⟨wk.goes i H2 hlt (sb.trans (view_sub _ _ _)), fun acc' H' => (i + 1 ≤ ds.length ∧ acc'.length ≤ i + 1 ∧ ∃ m ta ws, Sit y.c (wipe σ (slots g)) H' (clrG g env) m ta ∧ Wrs y.c (view H' ta m) ta acc' ws ∧ Same (view H1 ta1 m1) (view H' ta m) ∧ Run y.c y.fe E0 (view H' ta m) ta (foldR turn (ds.drop (i + 1)) ws m) K),
      fun acc' H' h => ⟨ds.length - (i + 1), by omega, rfl, h⟩, fun v H3 hy => ?_⟩
    obtain ⟨d, hd, p3, hv⟩ := walk_step wk hlt s2.toks sb hy
    have hdrop : ds.drop i = d :: ds.drop (i + 1) := by
      rw [List.drop_eq_getElem_cons hlt]
      rw [List.getElem?_eq_getElem hlt] at hd
      cases hd; rfl
    rw [hdrop] at r3
    have r4 : Run y.c y.fe E0 (view H2 ta2 m2) ta2 ((turn ws d m2).bind fun a' m' => foldR turn (ds.drop (i + 1)) a' m') K := r3
    obtain ⟨env', e1, r5⟩ := onO_run (Run.bind r4)
    have s3 := s2.step p3
    refine ⟨.v d, clrG g env, m2, ta2, env', s3, hv, e1, fun σ3 s3' hwp => ⟨by rw [hwp (slots g) fun _ h => h, wipe_wipe], env', m2, ta2, s3', ?_⟩⟩
    refine ((Run.bind r5).step p3).mono fun w m4 H4 ta4 p4 r6 => ?_
    obtain ⟨q, rfl, r6⟩ := ifW_run r6
    refine ⟨q, rfl, ?_⟩
    have s4 := s3.step p4
    cases q with
    | false =>
      refine iteF ⟨hlt, by omega, m4, ta4, ws, s4, (hw.mono p3.ext p3.pre).mono p4.ext p4.pre, (sb.trans p3.ext).trans p4.ext, ?_⟩
      exact r6.here p4.toks
    | true =>
      refine iteT ⟨env', m4, ta4, s3'.step p4, ?_⟩
      refine (Run.bind r6).mono fun z m5 H5 ta5 p5 r7 v5 hv5 => ?_
      refine ⟨Nat.lt_of_lt_of_le (Nat.lt_of_le_of_lt hacc hlt) wk.len, hlt, by rw [List.length_append]; simpa using hacc, m5, ta5, ws ++ [z], s4.step p5, Wrs.append (((hw.mono p3.ext p3.pre).mono p4.ext p4.pre).mono p5.ext p5.pre) ⟨hv5, trivial⟩, ((sb.trans p3.ext).trans p4.ext).trans p5.ext, ?_⟩
      exact r7.here p5.toks
  · have ei : i = ds.length := by omega
    subst ei
    refine .inl ⟨wk.stops H2 (sb.trans (view_sub _ _ _)), ?_⟩
    rw [List.drop_length] at r3
    have r4 : Run y.c y.fe E0 (view H2 ta2 m2) ta2 (R.ok ws m2) K := r3
    have k := r4.here s2.toks
    rw [← hK] at k
    exact (lay_list s2.toks hw k).2
theorem s_comp {g : G} {it : IT} {cs : EL} {e : E} {tk : Bool} {elt iter : Expr} {ifs : List Expr} {scope : Scope} (o : XOk L y N lv sc X EW) (hi : PI X tg iter (tIT y EW it)) (hns : notSet iter = true) (hb : blkC N sc scope (ownOf N g) = true)
    (hg : gB N (relS scope sc) (cellB scope) g tg = true)
    (ht : ∀ X', XOk L y N lv (relS scope sc) X' E0 → (∀ x, cellB scope x = true → X'.fn x = true) → PTs X' ifs (tAt y E0 cs))
    (he : ∀ X', XOk L y N lv (relS scope sc) X' E0 → (∀ x, cellB scope x = true → X'.fn x = true) → PE X' elt (tE y E0 e)) : PE X (.ListComp elt [⟨tg, iter, ifs, 0⟩] scope pos) (tE y EW (.comp tk g it cs e)) := by
  have ok : BlkOk X.N X.env.scope scope (ownOf N g) := by rw [o.hN, o.sc]; exact blkOk_by hb
  refine (pe_lcH o.calm (by rw [o.hN]; exact o.nd) hi ok (fun s H C cl fp => s_g (o.blk s H scope C cl fp) (fun x h => h) g hg) (fun s H C cl fp => ht _ (o.blk s H scope C cl fp) fun x h => h) (fun s H C cl fp => he _ (o.blk s H scope C cl fp) fun x h => h) (folded_of hns)).imp fun σ H Q h => ?_
  rw [own_slots]
  exact comp_imp σ H Q h
end
end Cy

set_option Elab.async false
set_option linter.all false
set_option maxRecDepth 100000
set_option maxHeartbeats 2000000
/-! CyComp2: dict comprehensions of the same kind; keys ints or texts. -/
namespace Cy
open PySem L2 PySem.Spec PyProof.Rows
section
variable {X : Cx}
/-- the dict at D, as the machine holds it -/
def DkAt (X : Cx) (h : Heap) (D : Addr) (acc : List (Key × V)) : Prop := acc.length ≤ sizeLine ∧ (D == sysModules) = false ∧ ∃ vs, KV acc vs ∧ h.DictOf (mixKind X.prog X.w) D vs
theorem DkAt.obj {X : Cx} {h : Heap} {D : Addr} {acc : List (Key × V)} (d : DkAt X h D acc) : ∃ o, h.get? D = some o ∧ ∀ v, o.data ≠ .cell v := by
  obtain ⟨_, _, vs, _, o, es, ep, ho, _, hd, _⟩ := d
  exact ⟨o, ho, fun v z => by rw [hd] at z; cases z⟩
theorem DkAt.at {X : Cx} {h h' : Heap} {D : Addr} {acc : List (Key × V)} (d : DkAt X h D acc) (e : h'.get? D = h.get? D) : DkAt X h' D acc := by
  obtain ⟨h1, h2, vs, h3, o, es, ep, ho, r⟩ := d
  exact ⟨h1, h2, vs, h3, o, es, ep, e.trans ho, r⟩
def tDcH (wi : TI) (g : TG) (tt : TT) (tk tv : TE) (vs : List Nat) : TE := fun σ H Q => wi σ H fun J H1 => ∃ W : Nat → Nat → List (Key × V) → Hp → Prop, (∃ m, W 0 m [] H1) ∧ ∀ i m acc H, W i m acc H →
  (J.stop i H ∧ ∀ D, H D = none → Q (.ref D) (upd H D (.dK acc))) ∨ (J.go i H ∧ ∃ Nx : List (Key × V) → Hp → Prop, (∀ acc' H', Nx acc' H' → ∃ m', m' < m ∧ W (i + 1) m' acc' H') ∧ ∀ x H', J.yld i H x H' → g x (wipe σ vs) H' fun σ2 H2 => wipe σ2 vs = wipe σ vs ∧ tt σ2 H2 fun b H3 =>
    if b = true then tk σ2 H3 fun y H4 => tv σ2 H4 fun z H5 => ∃ k, y = kV k ∧ acc.length < sizeLine ∧ Nx (L2.putK acc k z) H5 else Nx acc H3)
theorem dcH_core {pins : List (Addr × Obj)} {s : Shared} {σ : L2.St} {H : Hp} {Q : VK} {kx vx tg iter : Expr} {ifs : List Expr} {scope : Scope} {own : List (Str × Nat)} {pos pos' : Pos} {wi : TI} {g : TG} {tt : TT} {tk tv : TE} {use : Option (Value → Sem Unit)} {Qf : Value → Shared → Prop}
    (hc : X.calm = true) (hN : X.N.Nodup) (I : Inv X pins σ H s) (hi : PI X tg iter wi) (ok : BlkOk X.N X.env.scope scope own)
    (hg : ∀ (s : Shared) (H : Hp) (C : Addr) (cl : List (Str × Addr)) (fp : List Addr), PG (X.blk s H scope (compEnvC scope cl C X.env) fp) tg g) (ht : ∀ (s : Shared) (H : Hp) (C : Addr) (cl : List (Str × Addr)) (fp : List Addr), PTs (X.blk s H scope (compEnvC scope cl C X.env) fp) ifs tt)
    (hk : ∀ (s : Shared) (H : Hp) (C : Addr) (cl : List (Str × Addr)) (fp : List Addr), PE (X.blk s H scope (compEnvC scope cl C X.env) fp) kx tk)
    (he : ∀ (s : Shared) (H : Hp) (C : Addr) (cl : List (Str × Addr)) (fp : List Addr), PE (X.blk s H scope (compEnvC scope cl C X.env) fp) vx tv) (hs : ∀ x, foldedSetIterable iter X.env x = pure x)
    (h : tDcH wi g tt tk tv (own.map (·.2)) σ H Q)
    (hRR : ∀ D C s' m H', Inv X pins σ H' s' → Q (.ref D) H' → s'.heap.Ns C m → FpOk X pins H' C → compPost (model X.prog X.w) X.A X.xe use Qf (.ref D) C (.ok .next) s') :
    wpAny (model X.prog X.w) X.A (comprehension (.DictComp kx vx [⟨tg, iter, ifs, 0⟩] scope pos) scope X.env pos' newDict false (eval iter X.env) use) Qf X.xe s := by
  have hfree : ∀ y ∈ scope.names, y.2 = .free → ∃ c, X.env.cells.lookup y.1 = some c := fun y hy e => by
    rcases ok.free y hy e with k | k
    · exact I.ok.has _ (.inl k)
    · exact I.ok.has _ (.inr k)
  refine wpAny_comprehension_free (use := use) rfl hs (closure_ok hfree) ok.kind (fun y hy e => by rw [ok.uniq y hy, e])
    (thn (hi.run pins s σ H _ I h) fun xv s1 hx => thn hx fun itv s2 h2 => ?_)
  obtain ⟨it, fp, tn, J, H2, e, I2, T, st2, f2, W, ⟨m0, w0⟩, turn⟩ := h2
  subst e
  refine wpAny_newObj_type (newEnv_comp ?_)
  generalize hD : s2.heap.objs.size = D
  have hDn : H2 D = none := I2.hok.fresh (Nat.le_of_eq hD)
  generalize hs3 : ({ s2 with heap := s2.heap.push { cls := .type "dict", data := .dict #[] } } : Shared) = s3
  have h3 : s3.heap = s2.heap.push { cls := .type "dict", data := .dict #[] } := by rw [← hs3]
  have I3 : Inv X pins σ H2 s3 := by
    rw [← hs3]
    exact I2.kept (t' := s2.toks) fun b o e => Heap.get?_push_of_some _ e
  have dk3 : DkAt X s3.heap D [] := by
    rw [h3, ← hD]
    exact ⟨Nat.zero_le _, beq_eq_false_iff_ne.mpr (Ne.symm (Nat.ne_of_lt I2.big)), [], .nil, Heap.DictOf.new s2.heap⟩
  have sz : ∀ b ∈ fp, b < s2.heap.objs.size := fun b hb => by
    obtain ⟨o, e, _⟩ := T.obj _ _ st2 b hb
    exact Heap.lt_size e
  have neD : ∀ b ∈ fp, b ≠ D := fun b hb => by rw [← hD]; exact Nat.ne_of_lt (sz b hb)
  have fD : FpOk X pins H2 D ∧ D < s3.heap.objs.size := ⟨I2.fpOk (Nat.le_of_eq hD) hDn, by obtain ⟨o, e, _⟩ := dk3.obj; exact Heap.lt_size e⟩
  have f3 : ∀ b ∈ D :: fp, FpOk X pins H2 b ∧ b < s3.heap.objs.size := fun b hb => by
    rcases List.mem_cons.mp hb with e | hb
    · rw [e]; exact fD
    · exact ⟨f2 b hb, by rw [h3, Heap.size_push]; exact Nat.lt_succ_of_lt (sz b hb)⟩
  have st3 : tn 0 s3.heap := T.keep _ _ _ st2 fun b _ o e => by rw [h3]; exact Heap.get?_push_of_some _ e
  have I4 := block_start I3 ok hN f3
  have pg := hg s3 H2 s3.heap.objs.size (cellsFrom (s3.heap.objs.size + 1) scope.names (cloFrom X.env.cells scope.names [])) (D :: fp)
  have pt := ht s3 H2 s3.heap.objs.size (cellsFrom (s3.heap.objs.size + 1) scope.names (cloFrom X.env.cells scope.names [])) (D :: fp)
  have pk := hk s3 H2 s3.heap.objs.size (cellsFrom (s3.heap.objs.size + 1) scope.names (cloFrom X.env.cells scope.names [])) (D :: fp)
  have pe := he s3 H2 s3.heap.objs.size (cellsFrom (s3.heap.objs.size + 1) scope.names (cloFrom X.env.cells scope.names [])) (D :: fp)
  show codeAny _ _ (.compStart (.DictComp kx vx [⟨tg, iter, ifs, 0⟩] scope pos) 0 (.ref it) (.ref D) (compEnvC scope (cellsFrom (s3.heap.objs.size + 1) scope.names (cloFrom X.env.cells scope.names [])) s3.heap.objs.size X.env)) (compPost (model X.prog X.w) X.A X.xe use Qf (.ref D) s3.heap.objs.size) { s3 with heap := pushCells (s3.heap.push { cls := .type "dict", data := .dict #[] }) scope.names }
  generalize hce : compEnvC scope (cellsFrom (s3.heap.objs.size + 1) scope.names (cloFrom X.env.cells scope.names [])) s3.heap.objs.size X.env = ce at I4 pg pt pk pe ⊢
  have cL : ce.locals = s3.heap.objs.size := by subst hce; rfl
  generalize hs4 : ({ s3 with heap := pushCells (s3.heap.push { cls := .type "dict", data := .dict #[] }) scope.names } : Shared) = s4 at I4 ⊢
  have k34 : ∀ b o, s3.heap.get? b = some o → s4.heap.get? b = some o := fun b o e => by rw [← hs4]; exact pushCells_keeps _ _ _ _ (Heap.get?_push_of_some _ e)
  have st4 : tn 0 s4.heap := T.keep _ _ _ st3 fun b _ o e => k34 b o e
  have stat : ∀ {pn : List (Addr × Obj)} {σ' : L2.St} {H' : Hp} {s' : Shared}, Inv (X.blk s3 H2 scope ce (D :: fp)) pn σ' H' s' → (∀ p ∈ pn, p.1 = D) → (∀ b ∈ fp, H' b = none) → ∀ b ∈ fp, FpOk (X.blk s3 H2 scope ce (D :: fp)) pn H' b := fun {pn σ' H' s'} I' hpn hn b hb =>
    ⟨hn b hb, (I'.ok.exf b (List.mem_cons_of_mem _ hb)).1, I'.ok.exfs b (List.mem_cons_of_mem _ hb), .inl (List.mem_cons_of_mem _ hb), fun x c e => (I'.ok.exf b (List.mem_cons_of_mem _ hb)).2 x c e, fun p hp => by
      have hp : p ∈ pn := by simpa using hp
      rw [hpn p hp]
      exact (neD b hb).symm⟩
  have statD : ∀ {pn : List (Addr × Obj)} {σ' : L2.St} {H' : Hp} {s' : Shared}, Inv (X.blk s3 H2 scope ce (D :: fp)) pn σ' H' s' → (∀ p ∈ pn, p.1 ≠ D) → H' D = none → FpOk (X.blk s3 H2 scope ce (D :: fp)) pn H' D := fun {pn σ' H' s'} I' hpn hn =>
    ⟨hn, (I'.ok.exf D List.mem_cons_self).1, I'.ok.exfs D List.mem_cons_self, .inl List.mem_cons_self, fun x c e => (I'.ok.exf D List.mem_cons_self).2 x c e, fun p hp => hpn p (by simpa using hp)⟩
  have loop : codeAny (model X.prog X.w) X.A (.compLoop (.DictComp kx vx [⟨tg, iter, ifs, 0⟩] scope pos) 0 (.ref it) (.ref D) ce) (compPost (model X.prog X.w) X.A X.xe use Qf (.ref D) s3.heap.objs.size) s4 := by
    refine compLoop_anyD (fun n s' => ∃ i H' acc, Inv (X.blk s3 H2 scope ce (D :: fp)) [] (wipe σ (own.map (·.2))) H' s' ∧ tn i s'.heap ∧ (∀ b ∈ fp, H' b = none) ∧ H' D = none ∧ DkAt X s'.heap D acc ∧ W i n acc H') ?_ m0
      ⟨0, H2, [], I4, st4, fun b hb => (f2 b hb).1, hDn, dk3.at (by obtain ⟨o, e, _⟩ := dk3.obj; rw [e]; exact k34 _ _ e), w0⟩
    rintro n s5 ⟨i, H5, acc, I5, st5, n5, nD5, dk5, w5⟩
    obtain ⟨ob, ob5, ncell⟩ := dk5.obj
    have I5' : Inv (X.blk s3 H2 scope ce (D :: fp)) [(D, ob)] (wipe σ (own.map (·.2))) H5 s5 := I5.pins_of fun p hp => by
      have e := List.mem_singleton.mp hp
      subst e
      exact ⟨ob5, nD5, (I5.ok.exf D List.mem_cons_self).1, I5.ok.exfs D List.mem_cons_self, ncell⟩
    have p1 : ∀ p ∈ [((D, ob) : Addr × Obj)], p.1 = D := fun p hp => by
      have e := List.mem_singleton.mp hp
      subst e
      rfl
    rcases turn i n acc H5 w5 with ⟨stop, qq⟩ | ⟨go, Nx, hNx, step⟩
    · have td := T.done (X.blk s3 H2 scope ce (D :: fp)) rfl rfl rfl hc i _ s5 _ H5 (fun _ _ => False) I5' (stat I5' p1 n5) st5 stop
      refine thnF td fun r s6 ⟨hr, I6⟩ => ?_
      subst hr
      have ob6 := (I6.pin (D, ob) (by simp)).1
      have I7 : Inv X pins σ H5 s6 := I3.call' (ch := D :: fp) I6.os I6.base I6.hok I6.bare fun b hb => ⟨(f3 b hb).1.2.2.2.1, (f3 b hb).1.2.1, (f3 b hb).1.2.2.2.2.1, (f3 b hb).1.2.2.2.2.2⟩
      have nC : H5 s3.heap.objs.size = none := by
        have z : H5 ce.locals = none := I6.free
        rw [cL] at z
        exact z
      obtain ⟨m, hn, _⟩ := I6.loc
      have hn : s6.heap.Ns ce.locals m := hn
      rw [cL] at hn
      have I8 : Inv X pins σ (upd H5 D (.dK acc)) s6 := I7.take (h' := s6.heap) (t' := s6.toks) (fun _ _ _ e => e) ⟨nD5, fD.1.2⟩ (dk5.at (ob6.trans ob5.symm))
      exact hRR D s3.heap.objs.size s6 m _ I8 (qq D nD5) hn (I3.fpOk (Nat.le_refl _) (by rw [upd_ne (Nat.ne_of_gt fD.2)]; exact nC))
    · have ti := T.item (X.blk s3 H2 scope ce (D :: fp)) rfl rfl rfl hc i _ s5 _ H5 (fun _ _ => False) I5' (stat I5' p1 n5) st5 go
      refine thnF ti fun r s6 ⟨u, hr, h6⟩ => ?_
      subst hr
      refine thnF h6 fun _ s7 ⟨x, H7, I7, r7, y7, st7, n7⟩ => ?_
      have I7' := I7.pinned (stat I7 p1 n7) (T.obj _ _ st7)
      refine thnF (pg.run _ s7 _ H7 x u _ I7' r7 (step x H7 y7)) fun _ s8 ⟨σ8, H8, I8, hw8, q8⟩ => ?_
      refine thnF (pt.run _ s8 σ8 H8 _ I8 q8) fun b s9 ⟨H9, I9, q9⟩ => ?_
      have fin : ∀ {s' : Shared} {H' : Hp} {acc' : List (Key × V)} {pn : List (Addr × Obj)}, Inv (X.blk s3 H2 scope ce (D :: fp)) (pn ++ pinsAt fp s7.heap) σ8 H' s' → H' D = none → DkAt X s'.heap D acc' → Nx acc' H' →
          ∃ m, m < n ∧ ∃ i H' acc, Inv (X.blk s3 H2 scope ce (D :: fp)) [] (wipe σ (own.map (·.2))) H' s' ∧ tn i s'.heap ∧ (∀ b ∈ fp, H' b = none) ∧ H' D = none ∧ DkAt X s'.heap D acc ∧ W i m acc H' := fun {s' H' acc' pn} I' nD od nx => by
        obtain ⟨m', hm, w'⟩ := hNx acc' H' nx
        have pin' : ∀ b ∈ fp, ∀ o, s7.heap.get? b = some o → s'.heap.get? b = some o ∧ H' b = none := fun b hb o e =>
          let z := I'.pin (b, o) (List.mem_append_right _ (List.mem_append_right _ (mem_pinsAt hb e)))
          ⟨z.1, z.2.1⟩
        have hl : (wipe σ (own.map (·.2))).length = σ8.length := by rw [← hw8, wipe_length]
        refine ⟨m', hm, i + 1, H', acc', (I'.pins_of (pins' := []) (fun p hp => by cases hp)).weak hl (fun j v e => ?_), T.keep _ _ _ st7 fun b hb o e => (pin' b hb o e).1, fun b hb => ?_, nD, od, w'⟩
        · rw [← hw8] at e
          exact (wipe_some e).1
        · obtain ⟨o, e, _⟩ := T.obj _ _ st7 b hb
          exact (pin' b hb o e).2
      have pD : ∀ {s' : Shared} {H' : Hp}, Inv (X.blk s3 H2 scope ce (D :: fp)) ([((D, ob) : Addr × Obj)] ++ pinsAt fp s7.heap) σ8 H' s' → s'.heap.get? D = some ob ∧ H' D = none := fun I' => by
        have z := I'.pin (D, ob) (List.mem_append_right _ (List.mem_append_left _ (by simp)))
        exact ⟨z.1, z.2.1⟩
      cases b with
      | false =>
        simp only [Bool.false_eq_true, if_false] at q9 ⊢
        exact fin I9 (pD I9).2 (dk5.at ((pD I9).1.trans ob5.symm)) q9
      | true =>
        simp only [if_true] at q9 ⊢
        refine thnF (pk.run _ s9 σ8 H9 _ I9 q9) fun zk s10 ⟨yk, H10, I10, r10, q10⟩ => ?_
        refine thnF (pe.run _ s10 σ8 H10 _ I10 q10) fun z s11 ⟨yv, H11, I11, r11, k, ek, hz11, nx⟩ => ?_
        subst ek
        obtain ⟨ob11, nD11⟩ := pD I11
        obtain ⟨hl, hd, vs, rel, dd⟩ := dk5.at (h' := s11.heap) (ob11.trans ob5.symm)
        have hzv : vs.length ≤ sizeLine := by rw [← rel.length]; exact hl
        have hl' : (L2.putK acc k yv).length ≤ sizeLine := by have := length_putK acc k yv; omega
        refine wpAny_dictSet_pairs (hsz := hzv) (kV_is r10) dd fun h' dd' sb => ?_
        have I12 : Inv (X.blk s3 H2 scope ce (D :: fp)) ([] ++ pinsAt fp s7.heap) σ8 H11 s11 := I11.pins_of fun p hp => by
          have hp : p ∈ pinsAt fp s7.heap := by simpa using hp
          exact I11.pin p (List.mem_append_right _ (List.mem_append_right _ hp))
        have fd := statD I12 (fun p hp => by
          have hp : p ∈ pinsAt fp s7.heap := by simpa using hp
          exact neD p.1 (of_pinsAt hp).1) nD11
        obtain ⟨f0, f1, f2', f3', f4, f5⟩ := fd
        have I13 : Inv (X.blk s3 H2 scope ce (D :: fp)) ([] ++ pinsAt fp s7.heap) σ8 H11 { s11 with heap := h', toks := s11.toks + 1 } := I12.turned (t' := s11.toks + 1) (fun b u hb q => (sb.2 b hb).trans q) f0 f1 f3' f4 f5
        exact fin I13 nD11 ⟨hl', hd, _, rel.put k r11, dd'⟩ nx
  exact codeAny_compStart_dict loop (T.self X.A 0 _ _ _ st4 loop)
/-- as a value -/
theorem pe_dcH {kx vx tg iter : Expr} {ifs : List Expr} {scope : Scope} {own : List (Str × Nat)} {pos : Pos} {wi : TI} {g : TG} {tt : TT} {tk tv : TE} (hc : X.calm = true) (hN : X.N.Nodup) (hi : PI X tg iter wi) (ok : BlkOk X.N X.env.scope scope own)
    (hg : ∀ (s : Shared) (H : Hp) (C : Addr) (cl : List (Str × Addr)) (fp : List Addr), PG (X.blk s H scope (compEnvC scope cl C X.env) fp) tg g) (ht : ∀ (s : Shared) (H : Hp) (C : Addr) (cl : List (Str × Addr)) (fp : List Addr), PTs (X.blk s H scope (compEnvC scope cl C X.env) fp) ifs tt)
    (hk : ∀ (s : Shared) (H : Hp) (C : Addr) (cl : List (Str × Addr)) (fp : List Addr), PE (X.blk s H scope (compEnvC scope cl C X.env) fp) kx tk)
    (he : ∀ (s : Shared) (H : Hp) (C : Addr) (cl : List (Str × Addr)) (fp : List Addr), PE (X.blk s H scope (compEnvC scope cl C X.env) fp) vx tv) (hs : ∀ x, foldedSetIterable iter X.env x = pure x) :
    PE X (.DictComp kx vx [⟨tg, iter, ifs, 0⟩] scope pos) (tDcH wi g tt tk tv (own.map (·.2))) := by
  refine ⟨fun pins s σ H Q I h => ?_⟩
  rw [arm_eval_DictComp]
  refine dcH_core hc hN I hi ok hg ht hk he hs h fun D C s' m H' I' q hn f => ⟨m, hn, fun h'' sb => ?_⟩
  obtain ⟨f0, f1, f2, f3, f4, f5⟩ := f
  exact ⟨.ref D, H', I'.turned (t' := s'.toks) (fun b o hb e => (sb.2 b hb).trans e) f0 f1 f3 f4 f5, rfl, q⟩
/-- name = [..] on one line, the name a local -/
theorem ps_setDcH {i : Nat} {y : Str} {py : Pos} {kx vx tg iter : Expr} {ifs : List Expr} {scope : Scope} {own : List (Str × Nat)} {pos spos : Pos} {wi : TI} {g : TG} {tt : TT} {tk tv : TE} (hc : X.calm = true) (hN : X.N.Nodup) (hy : X.N[i]? = some y) (hyl : X.env.scope.names.lookup y = some .local)
    (hsw : swapsWith (.DictComp kx vx [⟨tg, iter, ifs, 0⟩] scope pos) (some (.Name y py)) spos.line X.env = pure true) (hi : PI X tg iter wi) (ok : BlkOk X.N X.env.scope scope own)
    (hg : ∀ (s : Shared) (H : Hp) (C : Addr) (cl : List (Str × Addr)) (fp : List Addr), PG (X.blk s H scope (compEnvC scope cl C X.env) fp) tg g) (ht : ∀ (s : Shared) (H : Hp) (C : Addr) (cl : List (Str × Addr)) (fp : List Addr), PTs (X.blk s H scope (compEnvC scope cl C X.env) fp) ifs tt)
    (hk : ∀ (s : Shared) (H : Hp) (C : Addr) (cl : List (Str × Addr)) (fp : List Addr), PE (X.blk s H scope (compEnvC scope cl C X.env) fp) kx tk)
    (he : ∀ (s : Shared) (H : Hp) (C : Addr) (cl : List (Str × Addr)) (fp : List Addr), PE (X.blk s H scope (compEnvC scope cl C X.env) fp) vx tv) (hs : ∀ x, foldedSetIterable iter X.env x = pure x) :
    PS X (.Assign [.Name y py] (.DictComp kx vx [⟨tg, iter, ifs, 0⟩] scope pos) spos) (tAsg (tDcH wi g tt tk tv (own.map (·.2))) (gName i)) := by
  refine ⟨fun pins s σ H D I h => ?_⟩
  rw [exec_Assign_Name_used _ _ _ _ hsw]
  refine wpAny_bind (wpAny_standAt (wpAny_bind ?_))
  show wpAny _ X.A (do let _ ← comprehension (.DictComp kx vx [⟨tg, iter, ifs, 0⟩] scope pos) scope X.env (firstIterPos [⟨tg, iter, ifs, 0⟩] pos) newDict false (eval iter X.env) (some (assign (.Name y py) X.env))) _ _ s
  have h : tDcH wi g tt tk tv (own.map (·.2)) σ H (fun x H1 => gName i x σ H1 D.nx) := h
  refine wpAny_bind (thn (dcH_core (Qf := fun _ s' => SP X pins D .next s') hc hN I hi ok hg ht hk he hs h fun L C s' m H' I' q hn f => ?_) fun _ s' hq => wpAny_pure (wpAny_pure hq))
  show wpAny _ _ (assign (.Name y py) X.env (.ref L)) _ _ _
  refine wpAny_assign_Name (store_ok2 (v := V.ref L) I' hN hy (.inl hyl) rfl (fun s2 I2 ⟨a, sb, ha⟩ => ?_) (.inr hyl))
  obtain ⟨f0, f1, f2, f3, f4, f5⟩ := f
  have haC : C ≠ a := by
    rcases ha with z | z
    · rw [z]; exact f1
    · exact fun e => f4 y a z e.symm
  refine ⟨m, hn.sameBut sb haC, fun h3 sb3 => ?_⟩
  exact ⟨_, H', I2.turned (t' := s2.toks) (fun b o hb e => (sb3.2 b hb).trans e) f0 f1 f3 f4 f5, q⟩
theorem sw_trueD {kx vx : Expr} {gs : List Comprehension} {scope : Scope} {pos py : Pos} {y : Str} {l : Nat} {env : PySem.Env} (hk : env.scope.kind = .function) (hy : env.scope.names.lookup y = some .local) (hl : (py.line == pos.line) = true)
    (ha : (scope.names.any fun (n, k) => n == y && (k == .local || k == .cell)) = false) : swapsWith (.DictComp kx vx gs scope pos) (some (.Name y py)) l env = pure true := by
  have ky : env.kindOf y = some .local := hy
  have hb : env.blockKind = .function := by unfold PySem.Env.blockKind; rw [hk]; rfl
  unfold swapsWith
  simp only [hb, ky, ha, Expr.pos, hl]
  rfl
end
end Cy

set_option Elab.async false
set_option linter.all false
set_option maxRecDepth 100000
set_option maxHeartbeats 2000000
/-! CySound10: statements. -/
namespace Cy
open PySem L2
open PySem.PyData (strOk)
/-- a statement's run -/
def RunS (c : Cl) (fe : Nat → Str) (EW : XK) (D : Ends) (B : Hp) (ta : List Addr) (r : RS) : Prop := match r with
  | .nx env m => ∀ σ' H' ta', Post c B ta H' ta' m → Sit c σ' H' env m ta' → D.nx σ' H'
  | .brk env m => ∀ σ' H' ta', Post c B ta H' ta' m → Sit c σ' H' env m ta' → D.bk σ' H'
  | .cnt env m => ∀ σ' H' ta', Post c B ta H' ta' m → Sit c σ' H' env m ta' → D.ct σ' H'
  | .ret w m => ∀ H' ta' v, Post c B ta H' ta' m → Wr c (view H' ta' m) ta' v w → D.rt v H'
  | .ex n ds m => ∀ d H' ta', Post c B ta H' ta' m → ExAt c fe H' (view H' ta' m) n ds d → EW (.ref (c.ca n)) (some d) H'
  | .bad => False
section
variable {α : Type} {c : Cl} {fe : Nat → Str} {EW : XK} {D : Ends} {B : Hp} {ta : List Addr}
theorem RunS.step {r : RS} {H' : Hp} {ta' : List Addr} {m' : Store} (h : RunS c fe EW D B ta r) (p : Post c B ta H' ta' m') : RunS c fe EW D (view H' ta' m') ta' r := by
  cases r with
  | nx env m => exact fun σ2 H2 ta2 p2 s => h σ2 H2 ta2 (p.trans p2) s
  | brk env m => exact fun σ2 H2 ta2 p2 s => h σ2 H2 ta2 (p.trans p2) s
  | cnt env m => exact fun σ2 H2 ta2 p2 s => h σ2 H2 ta2 (p.trans p2) s
  | ret w m => exact fun H2 ta2 v p2 s => h H2 ta2 v (p.trans p2) s
  | ex n ds m => exact fun d H2 ta2 p2 s => h d H2 ta2 (p.trans p2) s
  | bad => exact h
theorem RunS.of {r : R α} {k : α → Store → RS} (h : RunS c fe EW D B ta (RS.of r k)) : Run c fe EW B ta r fun a m1 H1 ta1 => RunS c fe EW D (view H1 ta1 m1) ta1 (k a m1) := by
  cases r with
  | ok a m => exact fun H1 ta1 p => RunS.step h p
  | ex n ds m => exact h
  | bad => exact h
/-- where the next statement begins -/
def NxS (c : Cl) (fe : Nat → Str) (EW : XK) (D : Ends) (k : Env → Store → RS) : L2.St → Hp → Prop := fun σ H => ∃ env m ta, Sit c σ H env m ta ∧ RunS c fe EW D (view H ta m) ta (k env m)
theorem RunS.then {r : RS} {k : Env → Store → RS} (h : RunS c fe EW D B ta (r.then k)) : RunS c fe EW { D with nx := NxS c fe EW D k } B ta r := by
  cases r with
  | nx env m => exact fun σ2 H2 ta2 p s => ⟨env, m, ta2, s, RunS.step (r := k env m) h p⟩
  | brk env m => exact h
  | cnt env m => exact h
  | ret w m => exact h
  | ex n ds m => exact h
  | bad => exact h
theorem RunS.nx {σ : L2.St} {H : Hp} {env : Env} {m : Store} (s : Sit c σ H env m ta) (h : RunS c fe EW D (view H ta m) ta (.nx env m)) : D.nx σ H := h σ H ta (Post.refl s.toks) s
theorem onS_run {o : Option α} {f : α → RS} (h : RunS c fe EW D B ta (onS o f)) : ∃ a, o = some a ∧ RunS c fe EW D B ta (f a) := by
  cases o with
  | none => exact h.elim
  | some a => exact ⟨a, rfl, h⟩
theorem ifS_run {w : W} {t f : RS} (h : RunS c fe EW D B ta (ifS w t f)) : ∃ q, w = .v (.bl q) ∧ RunS c fe EW D B ta (bif q then t else f) := by
  cases w with
  | t n => exact h.elim
  | v d => cases d <;> first | exact h.elim | exact ⟨_, rfl, h⟩
end

/-! ### a token written -/
theorem live_set : ∀ {ta : List Addr} {m : Store} {n : Nat} {k k' : C}, m[n]? = some k → k ≠ C.dead → k' ≠ C.dead → live ta (m.set n k') = live ta m
  | [], _, _, _, _, _, _, _ => by simp [live]
  | _ :: _, [], _, _, _, h, _, _ => by simp at h
  | a :: ta, q :: m, 0, k, k', h, h1, h2 => by
    simp at h; subst h
    cases q <;> cases k' <;> first | rfl | exact absurd rfl h1 | exact absurd rfl h2
  | a :: ta, q :: m, n + 1, k, k', h, h1, h2 => by
    have ih := live_set (ta := ta) (m := m) (n := n) (k := k) (k' := k') (by simpa using h) h1 h2
    cases q <;> simp [live, ih]
theorem nodup_get {ta : List Addr} (nd : ta.Nodup) {i j : Nat} {a : Addr} (h1 : ta[i]? = some a) (h2 : ta[j]? = some a) : i = j := by
  obtain ⟨p1, e1⟩ := List.getElem?_eq_some_iff.mp h1
  obtain ⟨p2, e2⟩ := List.getElem?_eq_some_iff.mp h2
  exact (List.getElem_inj nd).mp (e1.trans e2.symm)
theorem post_set {c : Cl} {H : Hp} {ta : List Addr} {m : Store} {n : Nat} {k k' : C} {a : Addr} {o : HO} (t : Toks c H ta m) (hm : m[n]? = some k) (hk : k ≠ C.dead) (ha : ta[n]? = some a) (hk' : k' ≠ C.dead)
    (ok : TokOk c (view H ta m) (upd H a o) ta a k') : Post c (view H ta m) ta (upd H a o) ta (m.set n k') := by
  have lv := live_set (ta := ta) hm hk hk'
  have hl := live_get ha hm hk
  have ext : Same (view H ta m) (view (upd H a o) ta (m.set n k')) := fun b u h => by
    obtain ⟨h1, h2⟩ := hide_not h
    have ne : b ≠ a := fun e => h1 (e ▸ hl)
    exact hide_of (by rw [upd_ne ne]; exact h2) (by rw [lv]; exact h1)
  refine ⟨⟨by rw [List.length_set]; exact t.len, t.nd, fun b hb => ?_, fun i q b h1 h2 => ?_⟩, List.prefix_refl _, ext⟩
  · by_cases e : b = a
    · exact ⟨o, by rw [e]; exact upd_same⟩
    · obtain ⟨u, hu⟩ := t.has b hb
      exact ⟨u, by rw [upd_ne e]; exact hu⟩
  · by_cases e : i = n
    · subst e
      rw [ha] at h2; cases h2
      have hlt := (List.getElem?_eq_some_iff.mp hm).1
      rw [List.getElem?_set_self hlt] at h1
      cases h1
      exact ok.mono ext (List.prefix_refl _) rfl
    · rw [List.getElem?_set_ne (Ne.symm e)] at h1
      have ne : b ≠ a := fun q => e (nodup_get t.nd (q ▸ h2) ha)
      exact (t.ok i q b h1 h2).mono ext (List.prefix_refl _) (upd_ne ne)

/-! ### readings of statements -/
def tS (y : Sy) (EW : XK) (s : S) : TS := fun D σ H => NxS y.c y.fe EW D (evS y.F s) σ H
def tSs (y : Sy) (EW : XK) (s : SL) : TS := fun D σ H => NxS y.c y.fe EW D (evSL y.F s) σ H
section
variable {L : Lk} {y : Sy} {N : List Str} {lv : Nat} {sc : Scope} {X : Cx} {EW : XK} {x l r tg : Expr} {xs : List Expr} {a b c : E} {es : EL} {pos : Pos} {fb : Str → Bool} {st : Stmt} {sts : List Stmt} {s : S} {ss : SL}
theorem setS_self : ∀ {i : Nat} {env : Env} {w : W}, getS i env = some w → setS i w env = env
  | _, [], _, h => by simp [getS] at h
  | 0, u :: env, w, h => by
    have h : u = some w := h
    rw [h]; rfl
  | i + 1, u :: env, w, h => by
    have h : getS i env = some w := h
    show u :: setS i w env = _
    rw [setS_self h]
theorem ss_nil : PSs X [] (tSs y EW .nil) := pss_nil.imp fun D σ H ⟨env, m, ta, s, r⟩ => RunS.nx s r
theorem ss_cons (h1 : PS X st (tS y EW s)) (h2 : PSs X sts (tSs y EW ss)) : PSs X (st :: sts) (tSs y EW (.cons s ss)) := (pss_cons h1 h2).imp fun D σ H ⟨env, m, ta, s, r⟩ => ⟨env, m, ta, s, RunS.then r⟩
theorem ss_one (h1 : PS X st (tS y EW s)) : PSs X [st] (tSs y EW (.cons s .nil)) := ss_cons h1 ss_nil
theorem ss_frz {i : Nat} (h : PSs X sts (tSs y EW ss)) : PSs X sts (tSs y EW (.cons (.frz i) ss)) := h.imp fun D σ H ⟨env, m, ta, s, r⟩ => by
  have r : RunS y.c y.fe EW D (view H ta m) ta ((onS (frzW m (getS i env)) fun p => RS.nx (setS i p.1 env) p.2).then fun env m => evSL y.F ss env m) := r
  cases e : frzW m (getS i env) with
  | none => rw [e] at r; exact r.elim
  | some p =>
    rw [e] at r
    have r : RunS y.c y.fe EW D (view H ta m) ta (evSL y.F ss (setS i p.1 env) p.2) := r
    unfold frzW at e
    split at e
    · rename_i n hg
      split at e
      · rename_i k hm
        split at e
        · rename_i d hd
          cases e
          obtain ⟨v, h1, h2⟩ := s.env i _ hg
          obtain ⟨a, ha, rfl⟩ := h2
          obtain ⟨p1, p2⟩ := post_frz s.toks hm ha hd
          refine ⟨_, _, ta, ?_, r.step p1⟩
          have s1 := s.step p1
          have s2 := s1.set (i := i) (v := .ref a) (w := .v d) p2
          have : σ.set i (some (.ref a)) = σ := by
            refine List.ext_getElem? fun j => ?_
            by_cases hj : i = j
            · subst hj
              rw [List.getElem?_set_self (List.getElem?_eq_some_iff.mp h1).1, h1]
            · rw [List.getElem?_set_ne hj]
          rw [this] at s2
          exact s2
        · cases e
      · cases e
    · rename_i d hg
      cases e
      refine ⟨env, m, ta, s, ?_⟩
      rw [setS_self hg] at r
      exact r
    · cases e
theorem st_nev : PS X st (tS y EW .nev) := ps_never.imp fun D σ H ⟨env, m, ta, s, r⟩ => r
theorem st_pass : PS X (.Pass pos) (tS y EW .pass) := ps_pass.imp fun D σ H ⟨env, m, ta, s, r⟩ => RunS.nx s r
theorem st_ret (h : PE X x (tE y EW a)) : PS X (.Return (some x) pos) (tS y EW (.ret a)) := (ps_ret h).imp fun D σ H ⟨env, m, ta, s, r⟩ => ⟨env, m, ta, s, (RunS.of r).mono fun w m1 H1 ta1 p r1 v hv => r1 H1 ta1 v (Post.refl p.toks) hv⟩
theorem st_ret0 : PS X (.Return none pos) (tS y EW .ret0) := ps_retN.imp fun D σ H ⟨env, m, ta, s, r⟩ => r H ta .non (Post.refl s.toks) .non
def noComp : Expr → Bool
  | .ListComp _ _ _ _ => false
  | .SetComp _ _ _ _ => false
  | .DictComp _ _ _ _ _ => false
  | _ => true
theorem sw_no {e : Expr} {t : Option Expr} {l : Nat} {env : PySem.Env} (h : noComp e = true) : swapsWith e t l env = pure false := by
  cases e <;> first | rfl | (simp [noComp] at h)
theorem st_expr (h : PE X x (tE y EW a)) (hn : noComp x = true) : PS X (.Expr x pos) (tS y EW (.expr a)) := (ps_expr h (sw_no hn)).imp fun D σ H ⟨env, m, ta, s, r⟩ => ⟨env, m, ta, s, (RunS.of r).mono fun w m1 H1 ta1 p r1 v hv => RunS.nx (s.step p) r1⟩
theorem st_if {t f : SL} {ts fs : List Stmt} (hc : PT X x (tT y EW c)) (h1 : PSs X ts (tSs y EW t)) (h2 : PSs X fs (tSs y EW f)) : PS X (.If x ts fs pos) (tS y EW (.if_ c t f)) := (ps_if hc h1 h2).imp fun D σ H ⟨env, m, ta, s, r⟩ => ⟨env, m, ta, s, (RunS.of r).mono fun w m1 H1 ta1 p r1 => by
  obtain ⟨q, rfl, r1⟩ := ifS_run r1
  refine ⟨q, rfl, ?_⟩
  cases q
  · exact iteF ⟨env, m1, ta1, s.step p, r1⟩
  · exact iteT ⟨env, m1, ta1, s.step p, r1⟩⟩
/-! assignments -/
theorem nm_of (o : XOk L y N lv sc X EW) (fo : ∀ x, fb x = true → X.fn x = true) {n : Str} (h : nmB sc fb n = true) : (X.env.scope.names.lookup n = some .local) ∨ (X.env.scope.names.lookup n = some .cell ∧ X.fn n = true) := by
  rw [o.sc]
  unfold nmB at h
  split at h
  · exact .inl (by assumption)
  · exact .inr ⟨by assumption, fo n h⟩
  · cases h
theorem asg_imp {i : Nat} {te : TE} (h : ∀ σ H Q, tE y EW a σ H Q → te σ H Q) : ∀ D σ H, tS y EW (.asg i a) D σ H → tAsg te (gName i) D σ H := fun D σ H ⟨env, m, ta, s, r⟩ => h σ H _ ⟨env, m, ta, s, (RunS.of r).mono fun w m1 H1 ta1 p r1 v hv => RunS.nx ((s.step p).set hv) r1⟩
theorem st_asg {i : Nat} {n : Str} {p : Pos} (o : XOk L y N lv sc X EW) (fo : ∀ x, fb x = true → X.fn x = true) (hi : N[i]? = some n) (hn : nmB sc fb n = true) (h : PE X x (tE y EW a)) (hx : noComp x = true) : PS X (.Assign [.Name n p] x pos) (tS y EW (.asg i a)) := by
  have hl := nm_of o fo hn
  exact (ps_set (i := i) (by rw [o.hN]; exact o.nd) (by rw [o.hN]; exact hi) (hl.elim .inl fun z => .inr z.1) h (sw_no hx) (hl.elim .inr fun z => .inl z.2)).imp (asg_imp fun σ H Q q => q)
/-- name = [..] on one line, the name a plain local that the comprehension does not take for its own -/
theorem st_asgC {i : Nat} {n : Str} {p cpos : Pos} {g : G} {it : IT} {cs : EL} {e : E} {tk : Bool} {elt iter : Expr} {ifs : List Expr} {scope : Scope} (o : XOk L y N lv sc X EW) (hi' : N[i]? = some n) (hn : sc.names.lookup n = some .local) (hl : (p.line == cpos.line) = true)
    (ha : (scope.names.any fun (z, k) => z == n && (k == .local || k == .cell)) = false)
    (hk : sc.kind = .function) (hi : PI X tg iter (tIT y EW it)) (hns : notSet iter = true) (hb : blkC N sc scope (ownOf N g) = true) (hg : gB N (relS scope sc) (cellB scope) g tg = true)
    (ht : ∀ X', XOk L y N lv (relS scope sc) X' E0 → (∀ x, cellB scope x = true → X'.fn x = true) → PTs X' ifs (tAt y E0 cs))
    (he : ∀ X', XOk L y N lv (relS scope sc) X' E0 → (∀ x, cellB scope x = true → X'.fn x = true) → PE X' elt (tE y E0 e)) : PS X (.Assign [.Name n p] (.ListComp elt [⟨tg, iter, ifs, 0⟩] scope cpos) pos) (tS y EW (.asg i (.comp tk g it cs e))) := by
  have ok : BlkOk X.N X.env.scope scope (ownOf N g) := by rw [o.hN, o.sc]; exact blkOk_by hb
  refine (ps_setLcH o.calm (by rw [o.hN]; exact o.nd) (by rw [o.hN]; exact hi') (by rw [o.sc]; exact hn) (sw_true (by rw [o.sc]; exact hk) (by rw [o.sc]; exact hn) hl ha) hi ok (fun s H C cl fp => s_g (o.blk s H scope C cl fp) (fun x h => h) g hg) (fun s H C cl fp => ht _ (o.blk s H scope C cl fp) fun x h => h) (fun s H C cl fp => he _ (o.blk s H scope C cl fp) fun x h => h) (folded_of hns)).imp (asg_imp fun σ H Q q => ?_)
  rw [own_slots]
  exact comp_imp σ H Q q
def notTup : Expr → Bool
  | .Tuple _ _ _ => false
  | _ => true
theorem sws_no {t e : Expr} {l : Nat} {env : PySem.Env} (h : noComp e = true) : swapsWithSole [t] e l env = pure false := sw_no h
theorem sst_no {t e : Expr} {env : PySem.Env} (h : notTup e = true) : swappedStores [t] e env = pure none := by
  cases e <;> first | (cases t <;> rfl) | (simp [notTup] at h)
theorem st_asgG {g : G} (o : XOk L y N lv sc X EW) (fo : ∀ x, fb x = true → X.fn x = true) (hg : gB N sc fb g tg = true) (h : PE X x (tE y EW a)) (hx : noComp x = true) (hx2 : notTup x = true) : PS X (.Assign [tg] x pos) (tS y EW (.asgG g a)) := by
  refine (ps_asg h (s_g o fo g hg) (sws_no hx) (sst_no hx2) ?_).imp fun D σ H ⟨env, m, ta, s, r⟩ => ⟨env, m, ta, s, (RunS.of r).mono fun w m1 H1 ta1 p r1 v hv => ?_⟩
  · cases g with
    | n i => obtain ⟨n, p, ex, _⟩ := g_n hg; subst ex; rfl
    | tup gs => obtain ⟨es, k, p, ex, _⟩ := g_tup hg; subst ex; rfl
  · obtain ⟨env', e1, r2⟩ := onS_run r1
    exact ⟨w, env, m1, ta1, env', s.step p, hv, e1, fun σ' s' _ => RunS.nx s' r2⟩
end
end Cy

set_option Elab.async false
set_option linter.all false
set_option maxRecDepth 100000
set_option maxHeartbeats 2000000
/-! CySound11: loops, fields and items written, lists changed. -/
namespace Cy
open PySem L2
open PySem.PyData (strOk)
theorem putF_set {z : V} : ∀ {fs : List Str} {xs : List V} {i : Nat} {f : Str}, fs.Nodup → fs[i]? = some f → i < xs.length → putF f z (fs.zip xs) = fs.zip (xs.set i z)
  | [], _, _, _, _, h, _ => by simp at h
  | _ :: _, [], _, _, _, _, h => by simp at h
  | g :: fs, v :: xs, 0, f, _, h, _ => by
    simp at h; subst h
    simp [putF]
  | g :: fs, v :: xs, i + 1, f, nd, h, hl => by
    have h' : fs[i]? = some f := by simpa using h
    have ne : g ≠ f := fun e => (List.nodup_cons.mp nd).1 (e ▸ List.mem_of_getElem? h')
    simp only [List.zip_cons_cons, putF, if_neg ne, List.set_cons_succ]
    rw [putF_set (List.nodup_cons.mp nd).2 h' (by simpa using hl)]
theorem putF_new {z : V} : ∀ {fs : List Str} {xs : List V} {i : Nat} {f : Str}, fs.Nodup → fs[i]? = some f → i = xs.length → putF f z (fs.zip xs) = fs.zip (xs ++ [z])
  | [], _, _, _, _, h, _ => by simp at h
  | g :: fs, [], i, f, _, h, hl => by
    simp at hl; subst hl
    simp at h; subst h
    simp [putF]
  | g :: fs, v :: xs, 0, f, _, h, hl => by simp at hl
  | g :: fs, v :: xs, i + 1, f, nd, h, hl => by
    have h' : fs[i]? = some f := by simpa using h
    have ne : g ≠ f := fun e => (List.nodup_cons.mp nd).1 (e ▸ List.mem_of_getElem? h')
    simp only [List.zip_cons_cons, putF, if_neg ne, List.cons_append]
    rw [putF_new (List.nodup_cons.mp nd).2 h' (by simpa using hl)]
section
variable {L : Lk} {y : Sy} {N : List Str} {lv : Nat} {sc : Scope} {X : Cx} {EW : XK} {x l r tg : Expr} {xs : List Expr} {a b c : E} {es : EL} {pos : Pos} {fb : Str → Bool} {st : Stmt} {sts : List Stmt} {s : S} {ss : SL}
theorem st_for {g : G} {it : IT} (hp : PassesOwn (model X.prog X.w) X.A X.env X.xe) (o : XOk L y N lv sc X EW) (fo : ∀ x, fb x = true → X.fn x = true) (hi : PI X tg x (tIT y EW it)) (hg : gB N sc fb g tg = true) (hb : PSs X sts (tSs y EW ss)) (hns : notSet x = true) :
    PS X (.For tg x sts [] pos) (tS y EW (.for_ g it ss)) := (ps_for hp o.calm hi (s_g o fo g hg) hb (folded_of hns)).imp fun D σ H ⟨env, m, ta, s, r⟩ => by
  refine ⟨env, m, ta, s, (RunS.of r).mono fun ds m1 H1 ta1 p r1 J wk => ?_⟩
  have s1 := s.step p
  refine ⟨fun i n σ H => n = ds.length - i ∧ i ≤ ds.length ∧ ∃ env m ta, Sit y.c σ H env m ta ∧ Same (view H1 ta1 m1) (view H ta m) ∧ RunS y.c y.fe EW D (view H ta m) ta (loopS (evSL y.F ss) g (ds.drop i) env m), ⟨ds.length, by simp, Nat.zero_le _, env, m1, ta1, s1, Same.refl _, r1⟩, ?_⟩
  clear r1 r s1 s
  rintro i n σ2 H2 ⟨rfl, hi, env2, m2, ta2, s2, sb, r3⟩
  by_cases hlt : i < ds.length
  · refine .inr ⟨wk.goes i H2 hlt (sb.trans (view_sub _ _ _)), fun σ H => (i + 1 ≤ ds.length ∧ ∃ env m ta, Sit y.c σ H env m ta ∧ Same (view H1 ta1 m1) (view H ta m) ∧ RunS y.c y.fe EW D (view H ta m) ta (loopS (evSL y.F ss) g (ds.drop (i + 1)) env m)),
      fun σ' H' h => ⟨ds.length - (i + 1), by omega, rfl, h⟩, fun v H3 hy => ?_⟩
    obtain ⟨d, hd, p3, hv⟩ := walk_step wk hlt s2.toks sb hy
    have hdrop : ds.drop i = d :: ds.drop (i + 1) := by
      rw [List.drop_eq_getElem_cons hlt]
      rw [List.getElem?_eq_getElem hlt] at hd
      cases hd; rfl
    rw [hdrop] at r3
    obtain ⟨env', e1, r5⟩ := onS_run r3
    refine ⟨.v d, env2, m2, ta2, env', s2.step p3, hv, e1, fun σ3 s3 _ => ⟨env', m2, ta2, s3, ?_⟩⟩
    have r6 := r5.step p3
    generalize evSL y.F ss env' m2 = q at r6 ⊢
    cases q with
    | nx e m' => exact fun σ' H' ta' p' s' => ⟨hlt, e, m', ta', s', (sb.trans p3.ext).trans p'.ext, RunS.step r6 p'⟩
    | cnt e m' => exact fun σ' H' ta' p' s' => ⟨hlt, e, m', ta', s', (sb.trans p3.ext).trans p'.ext, RunS.step r6 p'⟩
    | brk e m' => exact r6
    | ret w m' => exact r6
    | ex n ds m' => exact r6
    | bad => exact r6
  · have ei : i = ds.length := by omega
    subst ei
    rw [List.drop_length] at r3
    exact .inl ⟨wk.stops H2 (sb.trans (view_sub _ _ _)), RunS.nx s2 r3⟩
theorem st_while (hp : PassesOwn (model X.prog X.w) X.A X.env X.xe) (hc : PT X x (tT y EW c)) (hb : PSs X sts (tSs y EW ss)) : PS X (.While x sts [] pos) (tS y EW (.while_ c ss)) := (ps_while hp hc hb).imp fun D σ H ⟨env, m, ta, s, r⟩ => by
  refine ⟨fun n σ H => ∃ env m ta, Sit y.c σ H env m ta ∧ RunS y.c y.fe EW D (view H ta m) ta (whileS (ev y.F c) (evSL y.F ss) n env m), ⟨y.F.fuel, env, m, ta, s, r⟩, ?_⟩
  clear r s
  rintro n σ2 H2 ⟨env2, m2, ta2, s2, r2⟩
  cases n with
  | zero => exact r2.elim
  | succ n =>
    refine ⟨env2, m2, ta2, s2, (RunS.of r2).mono fun w m3 H3 ta3 p3 r3 => ?_⟩
    obtain ⟨q, rfl, r3⟩ := ifS_run r3
    refine ⟨q, rfl, ?_⟩
    cases q with
    | false => exact iteF (RunS.nx (s2.step p3) r3)
    | true =>
      refine iteT ⟨fun σ H => ∃ env m ta, Sit y.c σ H env m ta ∧ RunS y.c y.fe EW D (view H ta m) ta (whileS (ev y.F c) (evSL y.F ss) n env m), fun σ' H' h => ⟨n, Nat.lt_succ_self _, h⟩, env2, m3, ta3, s2.step p3, ?_⟩
      have r4 : RunS y.c y.fe EW D (view H3 ta3 m3) ta3 (match evSL y.F ss env2 m3 with
        | .nx e m' => whileS (ev y.F c) (evSL y.F ss) n e m'
        | .cnt e m' => whileS (ev y.F c) (evSL y.F ss) n e m'
        | .brk e m' => .nx e m'
        | r => r) := r3
      generalize evSL y.F ss env2 m3 = q at r4 ⊢
      cases q with
      | nx e m' => exact fun σ' H' ta' p' s' => ⟨e, m', ta', s', RunS.step r4 p'⟩
      | cnt e m' => exact fun σ' H' ta' p' s' => ⟨e, m', ta', s', RunS.step r4 p'⟩
      | brk e m' => exact r4
      | ret w m' => exact r4
      | ex n ds m' => exact r4
      | bad => exact r4
theorem st_aug {i : Nat} {n : Str} {p : Pos} (o : XOk L y N lv sc X EW) (fo : ∀ x, fb x = true → X.fn x = true) (hi : N[i]? = some n) (hn : nmB sc fb n = true) (h : PE X x (tE y EW a)) : PS X (.AugAssign (.Name n p) .Add x pos) (tS y EW (.aug i a)) := by
  have hl := nm_of o fo hn
  refine (ps_aug (i := i) (by rw [o.hN]; exact o.nd) (by rw [o.hN]; exact hi) (hl.elim .inl fun z => .inr z.1) h ip_add (hl.elim .inr fun z => .inl z.2)).imp fun D σ H ⟨env, m, ta, s, r⟩ => ?_
  obtain ⟨u, e, r⟩ := onS_run r
  obtain ⟨v0, h1, h2⟩ := s.env i u e
  refine ⟨v0, h1, env, m, ta, s, (RunS.of r).mono fun w m1 H1 ta1 p r2 v hv => ?_⟩
  obtain ⟨u', e2, r3⟩ := onS_run r2
  have h3 := h2.mono p.ext p.pre
  cases u with
  | t _ => simp [augW] at e2
  | v d =>
    cases w with
    | t _ => cases d <;> simp [augW] at e2
    | v d2 =>
      cases d <;> cases d2 <;> simp [augW] at e2
      subst e2
      exact ⟨_, _, rep_int h3, rep_int hv, RunS.nx ((s.step p).set (v := .int _) (w := .v (.int _)) (Rep.int _)) r3⟩
/-! fields -/
theorem st_fset {n i : Nat} {f : Str} {fs : List Str} {p : Pos} (o : XOk L y N lv sc X EW) (ha : PE X x (tE y EW a)) (hb : PE X r (tE y EW b)) (hf : (n, fs) ∈ L.flds) (hi : fs[i]? = some f) (hx : noComp r = true) : PS X (.Assign [.Attribute x f p] r pos) (tS y EW (.fset n a i b)) := by
  obtain ⟨e1, hc, nd, hl, na⟩ := o.lnk.fld n fs hf
  refine (ps_fld ha hb (sw_no hx)).imp fun D σ H ⟨env, m, ta, s, rr⟩ => ⟨env, m, ta, s, (RunS.of rr).mono fun w m1 H1 ta1 p1 r1 v hv => ?_⟩
  refine ⟨env, m1, ta1, s.step p1, (RunS.of r1).mono fun u m2 H2 ta2 p2 r2 z hz => ?_⟩
  obtain ⟨m3, e3, r3⟩ := onS_run r2
  unfold fsetW at e3
  split at e3
  · rename_i k
    split at e3
    · rename_i c' ws hm
      split at e3
      · rename_i ec
        subst ec
        obtain ⟨ad, h1, rfl⟩ := hz
        obtain ⟨dx, ys, h2, h3, h4⟩ := p2.toks.ok k _ ad hm h1
        have hlen := h4.length
        have zl : ((y.c.fl n).zip ys).length < 1000 := by rw [List.length_zip]; rw [e1]; omega
        have hv2 := hv.mono p2.ext p2.pre
        have fin : ∀ {ys' : List V} {ws' : List W}, putF f v ((y.c.fl n).zip ys) = (y.c.fl n).zip ys' → ys'.length ≤ (y.c.fl n).length → Wrs y.c (view H2 ta2 m2) ta2 ys' ws' → RunS y.c y.fe EW D (view H2 ta2 m2) ta2 (.nx env (m2.set k (.obj n ws'))) → D.nx σ (upd H2 ad (.ins (y.c.ca n) dx (putF f v ((y.c.fl n).zip ys)))) := fun {ys' ws'} q1 q2 q3 q4 => by
          rw [q1]
          have p3 := post_set (o := .ins (y.c.ca n) dx ((y.c.fl n).zip ys')) (k' := .obj n ws') p2.toks hm (by simp) h1 (by simp) ⟨dx, ys', upd_same, ⟨q2, h3.2⟩, q3⟩
          exact RunS.nx (((s.step p1).step p2).step p3) (q4.step p3)
        refine ⟨ad, _, dx, _, rfl, h2, hc, na f (List.mem_of_getElem? hi), zl, ?_⟩
        split at e3
        · rename_i hlt
          cases e3
          exact fin (putF_set (e1 ▸ nd) (e1 ▸ hi) (by omega)) (by rw [List.length_set]; exact h3.1) (Wrs.set hv2 i h4) r3
        · split at e3
          · rename_i hq
            cases e3
            refine fin (putF_new (e1 ▸ nd) (e1 ▸ hi) (by omega)) ?_ (ws' := ws ++ [w]) (h4.append ⟨hv2, trivial⟩) r3
            have := (List.getElem?_eq_some_iff.mp hi).1
            rw [e1, List.length_append]
            simp
            omega
          · cases e3
      · cases e3
    · cases e3
  · cases e3
end
end Cy

set_option Elab.async false
set_option linter.all false
set_option maxRecDepth 100000
set_option maxHeartbeats 2000000
/-! CySound12: items written, lists changed, pairs stored. -/
namespace Cy
open PySem L2
open PySem.PyData (strOk)
theorem Wrs.upd {κ : Type} [DecidableEq κ] {f : κ → D} (hf : ∀ a b, keyB (f a) (f b) = decide (a = b)) {c : Cl} {B : Hp} {ta : List Addr} {v : V} {w : W} (k : κ) (hv : Wr c B ta v w) : ∀ {kvs : List (κ × V)} {ws : List W}, Wrs c B ta (kvs.map (·.2)) ws →
    Wrs c B ta ((kvs.map fun kv => if kv.1 = k then (kv.1, v) else kv).map (·.2)) (List.zipWith (fun q z => if keyB q (f k) then w else z) (kvs.map fun p => f p.1) ws)
  | [], [], _ => trivial
  | kv :: kvs, w0 :: ws, ⟨h, r⟩ => by
    refine ⟨?_, Wrs.upd hf k hv r⟩
    show Wr c B ta (if kv.1 = k then (kv.1, v) else kv).2 (if keyB (f kv.1) (f k) then w else w0)
    rw [hf]
    by_cases e : kv.1 = k
    · rw [if_pos e, if_pos (by simpa using e)]; exact hv
    · rw [if_neg e, if_neg (by simpa using e)]; exact h
theorem put_rel {κ : Type} [DecidableEq κ] {f : κ → D} (hf : ∀ a b, keyB (f a) (f b) = decide (a = b)) {c : Cl} {B : Hp} {ta : List Addr} {v : V} {w : W} (k : κ) (hv : Wr c B ta v w) {kvs : List (κ × V)} {ws : List W} (r : Wrs c B ta (kvs.map (·.2)) ws) :
    (putK (kvs.map fun p => f p.1) ws (f k) w).1 = (L2.putK kvs k v).map (fun p => f p.1) ∧ Wrs c B ta ((L2.putK kvs k v).map (·.2)) (putK (kvs.map fun p => f p.1) ws (f k) w).2 := by
  have e : ((kvs.map fun p => f p.1).any fun q => keyB q (f k)) = kvs.any fun kv => decide (kv.1 = k) := by
    rw [List.any_map]
    congr 1
    funext kv
    exact hf _ _
  unfold putK L2.putK
  rw [e]
  split
  · refine ⟨?_, Wrs.upd hf k hv r⟩
    show _ = (kvs.map _).map _
    rw [List.map_map]
    refine List.map_congr_left fun kv _ => ?_
    show f kv.1 = f (if kv.1 = k then (kv.1, v) else kv).1
    split <;> rfl
  · refine ⟨by simp, ?_⟩
    rw [List.map_append]
    exact r.append ⟨hv, trivial⟩
theorem put_keys {κ : Type} [DecidableEq κ] {P : κ → Prop} {v : V} {k : κ} {kvs : List (κ × V)} (h : ∀ p ∈ kvs, P p.1) (hk : P k) : ∀ p ∈ L2.putK kvs k v, P p.1 := by
  unfold L2.putK
  split
  · intro p hp
    obtain ⟨q, hq, rfl⟩ := List.mem_map.mp hp
    split
    · exact h q hq
    · exact h q hq
  · intro p hp
    rcases List.mem_append.mp hp with hp | hp
    · exact h p hp
    · rw [List.mem_singleton.mp hp]; exact hk
def rSetA : TSet := fun o i v H Q => rSetL o i v H Q ∨ rSetD o i v H Q
theorem set_any {X : Cx} (hu : X.A.units + 1 < cLine) : PSet X rSetA := by
  intro pins s σ H o i v ov iv u Q I ro ri rv h
  rcases h with h | h
  · exact set_list pins s σ H o i v ov iv u Q I ro ri rv h
  · exact set_dict hu pins s σ H o i v ov iv u Q I ro ri rv h
theorem iset_ok {c : Cl} {H : Hp} {ta : List Addr} {m m' : Store} {x v k : V} {w wx : W} {kd : D} {Q : Hp → Prop} (t : Toks c H ta m) (hx : Wr c (view H ta m) ta x wx) (hk : Snap c (view H ta m) H k kd) (hv : Wr c (view H ta m) ta v w) (e : isetW m wx kd w = some m')
    (q : ∀ H', Post c (view H ta m) ta H' ta m' → Q H') : rSetA x k v H Q := by
  unfold isetW at e
  split at e
  · rename_i n
    obtain ⟨a, ha, rfl⟩ := hx
    split at e
    · rename_i ws hm
      split at e
      · rename_i i
        obtain rfl := hk.int
        obtain ⟨j, e1, rfl⟩ := Option.map_eq_some_iff.mp e
        obtain ⟨xs, h1, h2⟩ := t.ok n _ a hm ha
        refine .inl ⟨a, xs, i, j, rfl, rfl, h1, by rw [h2.length]; exact e1, q _ ?_⟩
        exact post_set t hm (by simp) ha (by simp) ⟨_, upd_same, Wrs.set hv j h2⟩
      · cases e
    · rename_i tb ks ws hm
      split at e
      · rename_i hc
        cases e
        have sm := view_sub H ta m
        rcases t.ok n _ a hm ha with ⟨rfl, kvs, h1, rfl, h3, h4⟩ | ⟨rfl, kvs, h1, rfl, h3, h4⟩
        · obtain ⟨kk, rfl, rfl, hkk⟩ := hk.keyF sm hc.1
          obtain ⟨p1, p2⟩ := put_rel keyB_k kk hv h4
          have hl : kvs.length < sizeLine := by
            have := hc.2
            rw [List.length_map] at this
            rw [sizeLine_eq]
            have : kvs.length < 10000000 := this
            omega
          refine .inr ⟨a, _, rfl, DPut.k h1 hl, q _ ?_⟩
          exact post_set t hm (by simp) ha (by simp) (.inl ⟨rfl, _, upd_same, p1, put_keys h3 hkk, p2⟩)
        · obtain ⟨b, kk, rfl, hb, rfl, hkk⟩ := hk.keyT sm hc.1
          obtain ⟨p1, p2⟩ := put_rel keyB_t kk hv h4
          have hl : kvs.length < sizeLine := by
            have := hc.2
            rw [List.length_map] at this
            rw [sizeLine_eq]
            have : kvs.length < 10000000 := this
            omega
          refine .inr ⟨a, _, rfl, DPut.t h1 hb hl, q _ ?_⟩
          exact post_set t hm (by simp) ha (by simp) (.inr ⟨rfl, _, upd_same, p1, put_keys (P := fun k => ∀ z ∈ k, kOk z) h3 hkk, p2⟩)
      · cases e
    · cases e
  · cases e
section
variable {L : Lk} {y : Sy} {N : List Str} {lv : Nat} {sc : Scope} {X : Cx} {EW : XK} {x l r tg : Expr} {xs : List Expr} {a b c : E} {es : EL} {pos : Pos} {fb : Str → Bool} {st : Stmt} {sts : List Stmt} {s : S} {ss : SL}
theorem asub {o i : Expr} {p : Pos} {env : PySem.Env} (h : plainIxB i = true) (v : Value) : assign (.Subscript o i p) env v = (do
      let ov ← holding [v] (eval o env)
      let iv ← holding [v, ov] (eval i env)
      standAt p
      holding [v, ov, iv] (setItem ov iv v)
      release [v, ov, iv] []) := by
  cases i <;> first | rfl | (simp [plainIxB] at h)
theorem st_iset {p : Pos} (o : XOk L y N lv sc X EW) (ha : PE X x (tE y EW a)) (hb : PE X l (tE y EW b)) (hc : PE X r (tE y EW c)) (hl : plainIxB l = true) (hx : noComp r = true) (hx2 : notTup r = true) : PS X (.Assign [.Subscript x l p] r pos) (tS y EW (.iset a b c)) := by
  refine (ps_asg hc (pg_sub ha hb (set_any (by have := o.units; omega)) (asub hl)) (sws_no hx) (sst_no hx2)).imp fun D σ H ⟨env, m, ta, s, r0⟩ => ⟨env, m, ta, s, (RunS.of r0).mono fun w m1 H1 ta1 p1 r1 v hv => ?_⟩
  refine ⟨env, m1, ta1, s.step p1, (RunS.of r1).mono fun u m2 H2 ta2 p2 r2 z hz => ?_⟩
  refine ⟨env, m2, ta2, (s.step p1).step p2, (RunS.of r2).mono fun kw m3 H3 ta3 p3 r3 k hk => ?_⟩
  obtain ⟨kd, e1, r4⟩ := onS_run r3
  obtain ⟨m4, e2, r5⟩ := onS_run r4
  exact iset_ok p3.toks (hz.mono p3.ext p3.pre) (snap_of p3.toks hk e1) ((hv.mono p2.ext p2.pre).mono p3.ext p3.pre) e2 fun H' p4 => RunS.nx ((((s.step p1).step p2).step p3).step p4) (r5.step p4)
/-! methods that change a list -/
theorem tyV_list {c : Cl} {K : PySem.W.Frag} {H : Hp} {ta : List Addr} {m : Store} {x : V} {n : Nat} {ws : List W} (t : Toks c H ta m) (hx : Wr c (view H ta m) ta x (.t n)) (hm : m[n]? = some (.lst ws)) : tyV K "list" x H := by
  obtain ⟨a, ha, rfl⟩ := hx
  obtain ⟨xs, h1, _⟩ := t.ok n _ a hm ha
  exact .inl ⟨rfl, xs, .inl (.inl h1)⟩
theorem iteS_run {c : Cl} {fe : Nat → Str} {D : Ends} {B : Hp} {ta : List Addr} {p : Prop} [Decidable p] {q : RS} (h : RunS c fe EW D B ta (if p then q else .bad)) : p ∧ RunS c fe EW D B ta q := by
  split at h
  · exact ⟨by assumption, h⟩
  · exact h.elim
theorem isLst_of {m : Store} {w : W} (h : isLst m w = true) : ∃ n ws, w = .t n ∧ m[n]? = some (.lst ws) := by
  unfold isLst at h
  split at h
  · split at h
    · exact ⟨_, _, rfl, by assumption⟩
    · cases h
  · cases h
/-- a method of a list token -/
theorem mut_imp {f : XF} {r : V → List V → Hp → VK → Prop} (hr : ∀ (H : Hp) (ta : List Addr) (m : Store) (n : Nat) (ad : Addr) (ws us as : List W) (ys vs : List V) (Q : VK), Toks y.c H ta m → m[n]? = some (.lst ws) → ta[n]? = some ad → H ad = some (.lst ys) → Wrs y.c (view H ta m) ta ys ws → Wrs y.c (view H ta m) ta vs as →
      mutL m f ws as = some us → (∀ zs, Wrs y.c (view H ta m) ta zs us → Q .non (upd H ad (.lst zs))) → r (.ref ad) vs H Q) :
    ∀ D σ H, tS y EW (.mut f a es) D σ H → tDrop (tBM X.K "list" r (tE y EW a) (tL y EW es)) D σ H := fun D σ H ⟨env, m, ta, s, r0⟩ => ⟨env, m, ta, s, (RunS.of r0).mono fun w m1 H1 ta1 p1 r1 v hv => by
  obtain ⟨hL, r1⟩ := iteS_run r1
  obtain ⟨n, ws, rfl, hm⟩ := isLst_of hL
  refine ⟨tyV_list p1.toks hv hm, env, m1, ta1, s.step p1, (RunS.of r1).mono fun as m2 H2 ta2 p2 r2 vs hvs => ?_⟩
  obtain ⟨m3, e, r3⟩ := onS_run r2
  obtain ⟨ad, ha, rfl⟩ := hv.mono p2.ext p2.pre
  simp only [mutW] at e
  split at e
  · rename_i ws2 hm2
    obtain ⟨us, e2, rfl⟩ := Option.map_eq_some_iff.mp e
    obtain ⟨ys, q1, q2⟩ := p2.toks.ok n _ ad hm2 ha
    refine hr H2 ta2 m2 n ad ws2 us as ys vs _ p2.toks hm2 ha q1 q2 hvs e2 fun zs hz => ?_
    have p3 := post_set (o := .lst zs) (k' := .lst us) p2.toks hm2 (by simp) ha (by simp) ⟨_, upd_same, hz⟩
    exact RunS.nx (((s.step p1).step p2).step p3) (r3.step p3)
  · cases e⟩
theorem mut_imp0 {f : XF} {r : V → List V → Hp → VK → Prop} (hr : ∀ (H : Hp) (ta : List Addr) (m : Store) (n : Nat) (ad : Addr) (ws us : List W) (ys : List V) (Q : VK), Toks y.c H ta m → m[n]? = some (.lst ws) → ta[n]? = some ad → H ad = some (.lst ys) → Wrs y.c (view H ta m) ta ys ws →
      mutL m f ws [] = some us → (∀ zs, Wrs y.c (view H ta m) ta zs us → Q .non (upd H ad (.lst zs))) → r (.ref ad) [] H Q) :
    ∀ D σ H, tS y EW (.mut f a .nil) D σ H → tDrop (tBM0 X.K "list" r (tE y EW a)) D σ H := fun D σ H ⟨env, m, ta, s, r0⟩ => ⟨env, m, ta, s, (RunS.of r0).mono fun w m1 H1 ta1 p1 r1 v hv => by
  obtain ⟨hL, r1⟩ := iteS_run r1
  obtain ⟨n, ws, rfl, hm⟩ := isLst_of hL
  have r2 := (RunS.of r1).here p1.toks
  obtain ⟨m3, e, r3⟩ := onS_run r2
  have tv := tyV_list (K := X.K) p1.toks hv hm
  obtain ⟨ad, ha, rfl⟩ := hv
  simp only [mutW] at e
  split at e
  · rename_i ws2 hm2
    obtain ⟨us, e2, rfl⟩ := Option.map_eq_some_iff.mp e
    obtain ⟨ys, q1, q2⟩ := p1.toks.ok n _ ad hm2 ha
    refine ⟨tv, hr H1 ta1 m1 n ad ws2 us ys _ p1.toks hm2 ha q1 q2 e2 fun zs hz => ?_⟩
    have p3 := post_set (o := .lst zs) (k' := .lst us) p1.toks hm2 (by simp) ha (by simp) ⟨_, upd_same, hz⟩
    exact RunS.nx ((s.step p1).step p3) (r3.step p3)
  · cases e⟩
theorem st_append {apos cpos : Pos} (ha : PE X x (tE y EW a)) (hb : PE X r (tE y EW b)) (ab : abB x = true) (h1 : nstar r = true) (hp : (apos.endLine == cpos.line) = true) :
    PS X (.Expr (.Call (.Attribute x "append" apos) [r] [] cpos) pos) (tS y EW (.mut .append a (.cons b .nil))) := by
  refine (ps_expr (pe_bm F.plainAttrs_list F.slot_list_append F.type_list_append mt_append ha (s_cons hb s_nil h1) (ab_of ab) (by rw [star_cons h1]; rfl) hp (star_cons h1) (any_of (es := []) rfl)) (sw_no rfl)).imp (mut_imp fun H ta m n ad ws us as ys vs Q t hm had hH q2 q3 e k => ?_)
  rcases as with _ | ⟨w, _ | ⟨_, _⟩⟩ <;> simp only [mutL, reduceCtorEq] at e
  split at e
  · rename_i hl
    cases e
    rcases vs with _ | ⟨v1, _ | ⟨_, _⟩⟩ <;> first | exact q3.elim | exact q3.2.elim | skip
    refine ⟨ad, ys, v1, rfl, rfl, hH, ?_, k _ (q2.append ⟨q3.1, trivial⟩)⟩
    have : ws.length < 10000000 := hl
    rw [q2.length, sizeLine_eq]; omega
  · cases e
theorem st_clear {apos cpos : Pos} (ha : PE X x (tE y EW a)) (ab : abB x = true) (hp : (apos.endLine == cpos.line) = true) :
    PS X (.Expr (.Call (.Attribute x "clear" apos) [] [] cpos) pos) (tS y EW (.mut .clear a .nil)) := by
  refine (ps_expr (pe_bm0 F.plainAttrs_list F.slot_list_clear F.type_list_clear mt_clear ha (ab_of ab) hp) (sw_no rfl)).imp (mut_imp0 fun H ta m n ad ws us ys Q t hm had hH q2 e k => ?_)
  cases e
  exact ⟨ad, ys, rfl, rfl, hH, k [] trivial⟩
theorem st_reverse {apos cpos : Pos} (ha : PE X x (tE y EW a)) (ab : abB x = true) (hp : (apos.endLine == cpos.line) = true) :
    PS X (.Expr (.Call (.Attribute x "reverse" apos) [] [] cpos) pos) (tS y EW (.mut .reverse a .nil)) := by
  refine (ps_expr (pe_bm0 F.plainAttrs_list F.slot_list_reverse F.type_list_reverse mt_reverse ha (ab_of ab) hp) (sw_no rfl)).imp (mut_imp0 fun H ta m n ad ws us ys Q t hm had hH q2 e k => ?_)
  cases e
  exact ⟨ad, ys, rfl, rfl, hH, k _ q2.reverse⟩
/-! a pair stored: plain local names -/
def parB (sc : Scope) (n1 n2 : Str) (p1 p2 : Pos) (x z : Expr) : Bool :=
  (match sc.names.lookup n1 with | some .local => true | _ => false) && (match sc.names.lookup n2 with | some .local => true | _ => false) && (p2.line == p1.line) && !(n1 == n2) && nstar x && nstar z && !(foldedForSure 8 x && foldedForSure 8 z) && !(constantsAlone 8 x && constantsAlone 8 z)
theorem st_par {i j k k' : Nat} {n1 n2 : Str} {p1 p2 pt pt' : Pos} (o : XOk L y N lv sc X EW) (hk : sc.kind = .function) (hi : N[i]? = some n1) (hj : N[j]? = some n2) (hij : i ≠ j) (ha : PE X l (tE y EW a)) (hb : PE X r (tE y EW b)) (h : parB sc n1 n2 p1 p2 l r = true) :
    PS X (.Assign [.Tuple [.Name n1 p1, .Name n2 p2] k pt] (.Tuple [l, r] k' pt') pos) (tS y EW (.par [i, j] (.cons a (.cons b .nil)))) := by
  unfold parB at h
  simp only [Bool.and_eq_true, Bool.not_eq_true', beq_iff_eq] at h
  obtain ⟨⟨⟨⟨⟨⟨⟨h1, h2⟩, h3⟩, h4⟩, h5⟩, h6⟩, h7⟩, h8⟩ := h
  have l1 : X.env.scope.names.lookup n1 = some .local := by
    rw [o.sc]
    split at h1
    · assumption
    · cases h1
  have l2 : X.env.scope.names.lookup n2 = some .local := by
    rw [o.sc]
    split at h2
    · assumption
    · cases h2
  have hw : swappedStores [.Tuple [.Name n1 p1, .Name n2 p2] k pt] (.Tuple [l, r] k' pt') X.env = pure (some [n1, n2]) := by
    have bk : X.env.blockKind = .function := by unfold PySem.Env.blockKind; rw [o.sc, hk]; rfl
    have k1 : X.env.kindOf n1 = some .local := l1
    have k2 : X.env.kindOf n2 = some .local := l2
    unfold swappedStores
    simp only [bk, k1, k2, h3, List.length_cons, List.length_nil, List.filterMap_cons, List.filterMap_nil, List.head?_cons, Option.map_some, Option.getD_some, PySem.Expr.pos]
    have h7' : ([l, r].all (foldedForSure 8)) = false := by simpa [List.all_cons] using h7
    have h8' : ([l, r].all (constantsAlone 8)) = false := by simpa [List.all_cons] using h8
    have hne : n1 ≠ n2 := fun e => by rw [e] at h4; simp at h4
    have hne' : (n2 == n1) = false := beq_eq_false_iff_ne.mpr (Ne.symm hne)
    simp [h7', h8', List.eraseDups_cons, hne']
    rintro (h | h)
    · exfalso
      cases l <;> first | (simp [nstar] at h5; done) | (cases h; done)
    · exfalso
      cases r <;> first | (simp [nstar] at h6; done) | (cases h; done)
  refine (ps_par o.calm (by rw [o.hN]; exact o.nd) (by rw [o.hN]; exact hi) (by rw [o.hN]; exact hj) hij l1 l2 (s_cons ha (s_cons hb s_nil h6) h5) hw rfl).imp fun D σ H ⟨env, m, ta, s, r0⟩ => ⟨env, m, ta, s, (RunS.of r0).mono fun ws m1 H1 ta1 p r1 vs hvs => ?_⟩
  obtain ⟨env', e, r2⟩ := onS_run r1
  rcases ws with _ | ⟨w1, _ | ⟨w2, _ | ⟨_, _⟩⟩⟩ <;> simp [asgList] at e
  subst e
  rcases vs with _ | ⟨v1, _ | ⟨v2, _ | ⟨_, _⟩⟩⟩ <;> first | exact hvs.elim | exact hvs.2.elim | exact hvs.2.2.elim | skip
  refine ⟨v1, v2, rfl, ?_⟩
  rw [List.set_comm _ _ hij]
  exact RunS.nx (((s.step p).set (i := j) hvs.2.1).set (i := i) hvs.1) r2
end
end Cy

set_option Elab.async false
set_option linter.all false
set_option maxRecDepth 100000
set_option maxHeartbeats 2000000
/-! CySound13: dict comprehensions by value, keys ints or texts. -/
namespace Cy
open PySem L2
open PySem.PyData (strOk)
section
variable {L : Lk} {y : Sy} {N : List Str} {lv : Nat} {sc : Scope} {X : Cx} {EW : XK} {x l r tg : Expr} {xs : List Expr} {a b c : E} {es : EL} {pos : Pos} {fb : Str → Bool}
theorem newD_run {c : Cl} {fe : Nat → Str} {B : Hp} {ta : List Addr} {tk t : Bool} {ks : List D} {ws : List W} {m : Store} {k : W → Store → Hp → List Addr → Prop} (h : Run c fe EW B ta (newD tk t ks ws m) k) :
    (tk = true ∧ Run c fe EW B ta (.ok (.t m.length) (m ++ [.dict t ks ws])) k) ∨ ∃ ds, tk = false ∧ allV ws = some ds ∧ Run c fe EW B ta (.ok (.v (.dict t ks ds)) m) k := by
  unfold newD at h
  split at h
  · exact .inl ⟨by assumption, h⟩
  · rename_i ht
    split at h
    · exact .inr ⟨_, by simpa using ht, by assumption, h⟩
    · exact h.elim
theorem len_put {κ : Type} [DecidableEq κ] (kvs : List (κ × V)) (k : κ) (v : V) : (L2.putK kvs k v).length ≤ kvs.length + 1 := length_putK kvs k v
theorem dcomp_imp {g : G} {it : IT} {cs : EL} {ek e : E} : ∀ σ H Q, tE y EW (.dcomp false g it cs ek e) σ H Q → tDcH (tIT y EW it) (gT y g) (tAt y E0 cs) (tE y E0 ek) (tE y E0 e) (slots g) σ H Q := fun σ H Q ⟨env, m, ta, s, rr⟩ => by
  refine ⟨env, m, ta, s, ?_⟩
  simp only [ev] at rr
  refine rr.bind.mono fun ds m1 H1 ta1 p1 r1 J wk => ?_
  have s1 := s.step p1
  have r2 := noex_run (Run.bind r1)
  clear r1 rr
  generalize hK : (fun (a : List D × List W) (m1 : Store) (H1 : Hp) (ta1 : List Addr) => Run y.c y.fe EW (view H1 ta1 m1) ta1 (newD false false a.1 a.2 m1) fun w m' H' ta' => ∀ (v : V), Wr y.c (view H' ta' m') ta' v w → Q v H') = K at r2
  let turn := fun (acc : List D × List W) (w : D) (m : Store) => onO (asgG g (.v w) (clrG g env)) fun env' => (evAnd y.F cs env' m).bind fun b m => ifW b ((ev y.F ek env' m).bind fun u m => (ev y.F e env' m).bind fun z m => onV u fun kd => if keyOk false kd = true then R.ok (putK acc.1 acc.2 kd z) m else .bad) (R.ok acc m)
  have r2 : Run y.c y.fe E0 (view H1 ta1 m1) ta1 (foldR turn ds ([], []) m1) K := r2
  refine ⟨fun i n acc H => n = ds.length - i ∧ i ≤ ds.length ∧ acc.length ≤ i ∧ (∀ p ∈ acc, kOk p.1) ∧ ∃ m ta ws, Sit y.c (wipe σ (slots g)) H (clrG g env) m ta ∧ Wrs y.c (view H ta m) ta (acc.map (·.2)) ws ∧ Same (view H1 ta1 m1) (view H ta m) ∧ Run y.c y.fe E0 (view H ta m) ta (foldR turn (ds.drop i) (acc.map (fun p => kD p.1), ws) m) K,
    ⟨ds.length, by simp, Nat.zero_le _, Nat.zero_le _, by simp, m1, ta1, [], s1.wipe g, trivial, Same.refl _, r2⟩, ?_⟩
  rintro i n acc H2 ⟨rfl, hi, hacc, hok, m2, ta2, ws, s2, hw, sb, r3⟩
  by_cases hlt : i < ds.length
  · refine .inr ⟨wk.goes i H2 hlt (sb.trans (view_sub _ _ _)), fun acc' H' => (i + 1 ≤ ds.length ∧ acc'.length ≤ i + 1 ∧ (∀ p ∈ acc', kOk p.1) ∧ ∃ m ta ws, Sit y.c (wipe σ (slots g)) H' (clrG g env) m ta ∧ Wrs y.c (view H' ta m) ta (acc'.map (·.2)) ws ∧ Same (view H1 ta1 m1) (view H' ta m) ∧ Run y.c y.fe E0 (view H' ta m) ta (foldR turn (ds.drop (i + 1)) (acc'.map (fun p => kD p.1), ws) m) K),
      fun acc' H' h => ⟨ds.length - (i + 1), by omega, rfl, h⟩, fun v H3 hy => ?_⟩
    obtain ⟨d, hd, p3, hv⟩ := walk_step wk hlt s2.toks sb hy
    have hdrop : ds.drop i = d :: ds.drop (i + 1) := by
      rw [List.drop_eq_getElem_cons hlt]
      rw [List.getElem?_eq_getElem hlt] at hd
      cases hd; rfl
    rw [hdrop] at r3
    have r4 : Run y.c y.fe E0 (view H2 ta2 m2) ta2 ((turn (acc.map (fun p => kD p.1), ws) d m2).bind fun a' m' => foldR turn (ds.drop (i + 1)) a' m') K := r3
    obtain ⟨env', e1, r5⟩ := onO_run (Run.bind r4)
    have s3 := s2.step p3
    refine ⟨.v d, clrG g env, m2, ta2, env', s3, hv, e1, fun σ3 s3' hwp => ⟨by rw [hwp (slots g) fun _ h => h, wipe_wipe], env', m2, ta2, s3', ?_⟩⟩
    refine ((Run.bind r5).step p3).mono fun w m4 H4 ta4 p4 r6 => ?_
    obtain ⟨q, rfl, r6⟩ := ifW_run r6
    refine ⟨q, rfl, ?_⟩
    have s4 := s3.step p4
    cases q with
    | false =>
      refine iteF ⟨hlt, by omega, hok, m4, ta4, ws, s4, (hw.mono p3.ext p3.pre).mono p4.ext p4.pre, (sb.trans p3.ext).trans p4.ext, ?_⟩
      exact r6.here p4.toks
    | true =>
      refine iteT ⟨env', m4, ta4, s3'.step p4, ?_⟩
      refine (Run.bind r6).mono fun u m5 H5 ta5 p5 r7 v5 hv5 => ?_
      refine ⟨env', m5, ta5, (s3'.step p4).step p5, ?_⟩
      refine (Run.bind r7).mono fun z m6 H6 ta6 p6 r8 v6 hv6 => ?_
      obtain ⟨kd, rfl, r8⟩ := onV_run r8
      obtain ⟨hk, r8⟩ := iteR_run r8
      obtain ⟨kk, rfl, rfl, hkk⟩ := key_of hv5 hk
      have hw6 := ((hw.mono p3.ext p3.pre).mono p4.ext p4.pre).mono p5.ext p5.pre |>.mono p6.ext p6.pre
      obtain ⟨q1, q2⟩ := put_rel keyB_k kk hv6 hw6
      refine ⟨kk, rfl, Nat.lt_of_lt_of_le (Nat.lt_of_le_of_lt hacc hlt) wk.len, hlt, Nat.le_trans (len_put acc kk v6) (by omega), put_keys hok hkk, m6, ta6, _, (s4.step p5).step p6, q2, (((sb.trans p3.ext).trans p4.ext).trans p5.ext).trans p6.ext, ?_⟩
      have r9 := r8.here p6.toks
      rw [← q1]
      exact r9
  · have ei : i = ds.length := by omega
    subst ei
    refine .inl ⟨wk.stops H2 (sb.trans (view_sub _ _ _)), fun p hp => ?_⟩
    rw [List.drop_length] at r3
    have r4 : Run y.c y.fe E0 (view H2 ta2 m2) ta2 (R.ok (acc.map (fun p => kD p.1), ws) m2) K := r3
    have k := r4.here s2.toks
    rw [← hK] at k
    rcases newD_run k with ⟨q, _⟩ | ⟨es, _, e2, k⟩
    · cases q
    · obtain ⟨p1, p2⟩ := post_new (o := .dK acc) s2.toks hp
      exact k.at p1 _ (.dK p2 hok (Reps.mono p1.ext (hw.all e2)))
theorem s_dcomp {g : G} {it : IT} {cs : EL} {ek e : E} {kx vx iter : Expr} {ifs : List Expr} {scope : Scope} (o : XOk L y N lv sc X EW) (hi : PI X tg iter (tIT y EW it)) (hns : notSet iter = true) (hb : blkC N sc scope (ownOf N g) = true)
    (hg : gB N (relS scope sc) (cellB scope) g tg = true)
    (ht : ∀ X', XOk L y N lv (relS scope sc) X' E0 → (∀ x, cellB scope x = true → X'.fn x = true) → PTs X' ifs (tAt y E0 cs))
    (hk : ∀ X', XOk L y N lv (relS scope sc) X' E0 → (∀ x, cellB scope x = true → X'.fn x = true) → PE X' kx (tE y E0 ek))
    (he : ∀ X', XOk L y N lv (relS scope sc) X' E0 → (∀ x, cellB scope x = true → X'.fn x = true) → PE X' vx (tE y E0 e)) : PE X (.DictComp kx vx [⟨tg, iter, ifs, 0⟩] scope pos) (tE y EW (.dcomp false g it cs ek e)) := by
  have ok : BlkOk X.N X.env.scope scope (ownOf N g) := by rw [o.hN, o.sc]; exact blkOk_by hb
  refine (pe_dcH o.calm (by rw [o.hN]; exact o.nd) hi ok (fun s H C cl fp => s_g (o.blk s H scope C cl fp) (fun x h => h) g hg) (fun s H C cl fp => ht _ (o.blk s H scope C cl fp) fun x h => h) (fun s H C cl fp => hk _ (o.blk s H scope C cl fp) fun x h => h) (fun s H C cl fp => he _ (o.blk s H scope C cl fp) fun x h => h) (folded_of hns)).imp fun σ H Q h => ?_
  rw [own_slots]
  exact dcomp_imp σ H Q h
end
end Cy

set_option Elab.async false
set_option linter.all false
set_option maxRecDepth 100000
set_option maxHeartbeats 4000000
/-! CyExc3: raise. -/
namespace Cy
open PySem L2
open PySem.PyData (strOk)
section
variable {L : Lk} {y : Sy} {N : List Str} {lv : Nat} {sc : Scope} {X : Cx} {EW : XK} {x : Expr} {a : E} {p pos pos2 : Pos}
theorem passes_no : Passes (L2.CX X.prog X.w) X (fun _ _ _ => False) := fun _ _ _ _ _ _ _ c => by
  obtain ⟨_, _, _, _, _, _, _, _, _, _, _, _, h⟩ := c
  exact h.elim
theorem st_raise {c : Nat} {n fl : Str} (o : XOk L y N lv sc X EW) (tk : Takes X fun cls d _ H => EW cls d H) (hk : (c, n, fl) ∈ L.errs) (hg : glB sc n = true) (h2 : (n == ("__debug__" : Str)) = false) (h1 : nstar x = true) (ha : PE X x (tE y EW a)) :
    PS X (.Raise (some (.Call (.Name n p) [x] [] pos)) none pos2) (tS y EW (.raise c (.cons a .nil))) := by
  have K := o.lnk.err c n fl hk
  obtain ⟨ia, fd, i1, i2, i3, i4⟩ := K.f.ini
  refine (ps_raise o.calm tk (pmk_oex K.f.cls i1 i2 (fn_init (k := lv) i4) o.room i3 .nil passes_no (gl_of o hg) K.mg (pa_cons ha pa_nil (star_cons h1)) h2 (star_cons h1) rfl)).imp fun D σ H ⟨env, m, ta, s, r⟩ => ?_
  have r1 : RunS y.c y.fe EW D (view H ta m) ta (RS.of ((ev y.F a env m).bind fun w m => R.ok [w] m) fun ws m => onS (allV ws) fun ds => .ex c ds m) := r
  refine ⟨env, m, ta, s, (r1.of.bind).mono fun w m1 H1 ta1 q1 r2 v hv => ?_⟩
  have r3 : RunS y.c y.fe EW D (view H1 ta1 m1) ta1 (onS (allV [w]) fun ds => .ex c ds m1) := r2.at (Post.refl q1.toks)
  obtain ⟨ds, e, r4⟩ := onS_run r3
  cases w with
  | t k => cases e
  | v d =>
    have e : some [d] = some ds := e
    cases e
    refine ⟨by simp, fun b hb => ⟨b, v, rfl, upd_same, fun dx hd hn => ⟨rfl, dx, [(fl, v)], upd_same, ?_, ?_, ?_⟩⟩⟩
    · rw [upd_ne hn, upd_same]
    · rw [upd_ne hn] at hd
      exact hd
    · rw [upd_ne hn] at hd
      have eH : upd (del (upd (upd (upd H1 b (exo b (y.c.ca c) none)) dx (exd dx [(fl, v)])) b (exo b (y.c.ca c) (some dx))) b) dx (.xd [(fl, v)]) = upd H1 dx (.xd [(fl, v)]) := by
        funext z
        by_cases h : z = dx
        · subst h
          rw [upd_same, upd_same]
        · rw [upd_ne h, upd_ne h]
          by_cases h' : z = b
          · subst h'
            rw [del_same, hb]
          · rw [del_ne h', upd_ne h', upd_ne h, upd_ne h']
      rw [eH]
      obtain ⟨p1, p2⟩ := post_new (o := HO.xd [(fl, v)]) q1.toks hd
      have hv : Rep y.c (view H1 ta1 m1) v d := hv
      exact r4 dx _ ta1 p1 ⟨⟨v, d, rfl, by rw [K.fe]; exact upd_same, hv.mono p1.ext⟩⟩
end
end Cy

set_option Elab.async false
set_option linter.all false
set_option maxRecDepth 100000
set_option maxHeartbeats 4000000
/-! CyTry: a method called, an object made, where what is raised is wished for at the caller's slots. -/
namespace Cy
open PySem L2
section
variable {X : Cx} {CX : CXT} {k : Nat} {f C : Addr} {fd : FuncData} {ps : List Str} {sp : Sp} {G : L2.St → XK} {x m : Str} {p pos apos : Pos} {e o : Expr} {es : List Expr} {ta : TE} {t : TA}
def tMethS (C : Addr) (m : Str) (sp : Sp) (G : L2.St → XK) (ta : TE) (t : TA) : TE := fun σ H Q =>
  ta σ H fun x H1 => ∃ a dx fs, x = .ref a ∧ H1 a = some (.ins C dx fs) ∧ fs.lookup m = none ∧ t σ H1 fun vs H2 => sp (.ref a :: vs) H2 Q (G σ)
theorem pe_methS {pl : Sem Bool} (he : PE X o ta) (c : Cls X.K C) (hm : Meth X.K C m f) (F : FnOk X.prog X.w X.K X.mg X.base CX k f fd ps sp) (room : Room k X.A) (B : Binds X.K fd ps []) (pass : ∀ σ, PassesAt CX X σ (G σ)) (ha : PA X (e :: es) t)
    (hst : starEach (e :: es) X.env = (false, eval e X.env) :: starEach es X.env) (hpl : (backTo pos (starEach es X.env)).any (·.1) = false)
    (ht : eval (.Call (.Attribute o m apos) (e :: es) [] pos) X.env = (do
      let z ← eval o X.env
      standAt apos.atName
      let (g, first) ← holding [z] (getMethod z m pl)
      callWith pos g first (backTo pos (starEach (e :: es) X.env)) (backToKw pos (keywordEach [] X.env)))) :
    PE X (.Call (.Attribute o m apos) (e :: es) [] pos) (tMethS C m sp G ta t) := by
  constructor
  intro pins s σ H Q I q0
  apply PySem.W.methodCall_KW (pl := pl) _ ht
  apply thn (he.run pins s σ H _ I q0)
  intro u s1 h1
  obtain ⟨v, H1, I1, rx, a, dx, fs, rfl, ea, l, q⟩ := h1
  obtain rfl : u = Value.ref a := rx
  apply getmeth_ok I1 ea c hm l
  apply PySem.W.callWith_K (first := [.ref a]) (h₀ := X.base) I.ok.mod.kin hm.kp _ hst hpl
  apply thn (ha.run pos pins s1 σ H1 _ I1 q)
  intro us s2 h2
  obtain ⟨vs, H2, I2, r, q2⟩ := h2
  exact ⟨I2.kIn, run_fnS (us := .ref a :: us) (vs := .ref a :: vs) F room B (pass σ) I2 (.cons rfl r) q2⟩
def tMakeS (C : Addr) (sp : Sp) (G : L2.St → XK) (t : TA) : TE := fun σ H Q => t σ H fun vs H1 =>
  ∀ x dx, H1 x = none → H1 dx = none → dx ≠ x → sp (.ref x :: vs) (upd (upd H1 dx (.own x)) x (.ins C dx [])) (fun v H2 => v = .non ∧ Q (.ref x) H2) (G σ)
theorem pe_makeS (M : Mk X.K C f) (F : FnOk X.prog X.w X.K X.mg X.base CX k f fd ps sp) (room : Room (k + 1) X.A) (hg : Gl X x) (hm : X.mg x = some (.ref C)) (B : Binds X.K fd ps []) (pass : ∀ σ, PassesAt CX X σ (G σ))
    (ha : PA X (e :: es) t) (hdb : (x == ("__debug__" : Str)) = false) (hst : starEach (e :: es) X.env = (false, eval e X.env) :: starEach es X.env) (hpl : (backTo pos (starEach es X.env)).any (·.1) = false) :
    PE X (.Call (.Name x p) (e :: es) [] pos) (tMakeS C sp G t) := by
  constructor
  intro pins s σ H Q I q0
  apply wpAny_Call_Name_kw (ld_glob I hg hm _ hdb)
  apply PySem.W.callWith_K (h₀ := X.base) I.ok.mod.kin M.kp _ hst hpl
  apply thn (ha.run pos pins s σ H _ I q0)
  intro us s1 h1
  obtain ⟨vs, H1, I1, r, q⟩ := h1
  refine ⟨I1.kIn, ?_⟩
  have hq := q (s1.heap.objs.size + 1) s1.heap.objs.size (I1.hok.fresh (Nat.le_succ _)) (I1.hok.fresh (Nat.le_refl _)) (Nat.ne_of_lt (Nat.lt_succ_self _))
  have J := Inv.made (C := C) I1
  have r2 : Vals (V.ref (s1.heap.objs.size + 1) :: vs) (Value.ref (s1.heap.objs.size + 1) :: us) := .cons rfl r
  have hl : (Value.ref (s1.heap.objs.size + 1) :: us).length = ps.length := by
    rw [← r2.length]
    exact F.len _ _ _ _ hq
  have bd := B _ (Value.ref (s1.heap.objs.size + 1) :: us) J.kIn (by simpa using hl)
  rw [List.append_nil] at bd
  apply wpAny_call
  apply make_map (f := f) I1.kIn M.makes M.init (beq_iff_eq.mp M.fn)
  apply codeAny_mono (F.run _ X.stack _ _ _ _ _ _ (G σ) (room.make C us []) (J.env0.make C us []) bd r2 hq)
  intro res s' hr
  cases res with
  | error er => exact pass σ pins _ _ er s' J hr
  | ok fl =>
    cases fl with
    | next => exact hr.elim
    | brk => exact hr.elim
    | cont => exact hr.elim
    | ret u =>
      obtain ⟨v, H', I3, rv, rfl, q3⟩ := J.after hr
      exact ⟨rv, ⟨V.ref (s1.heap.objs.size + 1), H', I3, rfl, q3⟩⟩
end
end Cy

set_option Elab.async false
set_option linter.all false
set_option maxRecDepth 100000
set_option maxHeartbeats 4000000
/-! CyTry2: the one call of a try body; what its except suite stores. -/
namespace Cy
open PySem L2
open PySem.PyData (strOk)
theorem noexb_run {α β : Type} {c : Cl} {fe : Nat → Str} {EW : XK} {B : Hp} {ta : List Addr} {r : R α} {f : α → Store → R β} {k : β → Store → Hp → List Addr → Prop} (h : Run c fe EW B ta (r.noex.bind f) k) :
    Run c fe E0 B ta r fun a m1 H1 ta1 => Run c fe EW (view H1 ta1 m1) ta1 (f a m1) k := by
  cases r with
  | ok a m => exact (Run.bind (r := .ok a m) h)
  | ex n ds m => exact h.elim
  | bad => exact h.elim
def tX (y : Sy) (G : L2.St → XK) (b : TX) : TE := fun σ H Q => ∃ env m ta, Sit y.c σ H env m ta ∧ Run y.c y.fe (G σ) (view H ta m) ta (evTX y.F b env m) fun w m' H' ta' => ∀ v, Wr y.c (view H' ta' m') ta' v w → Q v H'
section
variable {L : Lk} {y : Sy} {N : List Str} {lv : Nat} {sc : Scope} {X : Cx} {EW : XK} {G : L2.St → XK} {x l r : Expr} {xs : List Expr} {a : E} {es : EL} {p pos pos2 : Pos}
theorem x_call {f : Nat} {n : Str} (o : XOk L y N lv sc X E0) (pass : ∀ σ, PassesAt (L2.CX X.prog X.w) X σ (G σ)) (hf : (f, n) ∈ L.fns) (hg : glB sc n = true) (hd : (n == ("__debug__" : Str)) = false) (ha : PA X (x :: xs) (tL y E0 es)) (h1 : nstar x = true) (h2 : nstars xs = true) :
    PE X (.Call (.Name n p) (x :: xs) [] pos) (tX y G (.call f es)) := by
  obtain ⟨ad, fd, ps, e1, e2, e3, F, ar⟩ := o.lnk.fn f n hf
  exact (pe_callS F o.room0 (gl_of o hg) e1 e2 e3 pass ha hd (star_cons h1) (any_of h2)).imp fun σ H Q ⟨env, m, ta, s, r⟩ => ⟨env, m, ta, s, (noexb_run r).mono fun ws m1 H1 ta1 q r1 vs hvs => sp_of q.toks hvs ar r1⟩
theorem x_meth {n f : Nat} {mn : Str} {apos : Pos} (o : XOk L y N lv sc X E0) (pass : ∀ σ, PassesAt (L2.CX X.prog X.w) X σ (G σ)) (hm : (n, f, mn) ∈ L.meths) (ha : PE X l (tE y E0 a)) (ab : abB l = true) (hp : (apos.endLine == pos.line) = true)
    (hs : PA X (x :: xs) (tL y E0 es)) (h1 : nstar x = true) (h2 : nstars xs = true) (hl : (x :: xs).length < 30) : PE X (.Call (.Attribute l mn apos) (x :: xs) [] pos) (tX y G (.meth n f a es)) := by
  obtain ⟨hc, hnf, ad, fd, ps, M, B, F, ar⟩ := o.lnk.meth n f mn hm
  refine (pe_methS ha hc M F o.room0 B pass hs (star_cons h1) (any_of h2) (meth_eval ab (by simp [nstars, h1, h2]) hl hp)).imp fun σ H Q ⟨env, m, ta, s, r⟩ => ⟨env, m, ta, s, (noexb_run r).mono fun w m1 H1 ta1 q1 r1 v hv => ?_⟩
  split at r1
  · rename_i hcl
    obtain ⟨b, dx, ys, rfl, k1⟩ := obj_of q1.toks hv hcl
    exact ⟨b, dx, _, rfl, k1, zip_none hnf, env, m1, ta1, s.step q1, (noexb_run r1).mono fun ws m2 H2 ta2 q2 r2 vs hvs => sp_of (ws := w :: ws) (vs := .ref b :: vs) q2.toks ⟨hv.mono q2.ext q2.pre, hvs⟩ ar r2⟩
  · exact r1.elim
theorem x_make {n f : Nat} {cn : Str} (o : XOk L y N lv sc X E0) (pass : ∀ σ, PassesAt (L2.CX X.prog X.w) X σ (G σ)) (hc : (n, cn) ∈ L.clss) (hf : (n, f, ("__init__" : Str)) ∈ L.meths) (hg : glB sc cn = true) (hd : (cn == ("__debug__" : Str)) = false)
    (ha : PA X (x :: xs) (tL y E0 es)) (h1 : nstar x = true) (h2 : nstars xs = true) : PE X (.Call (.Name cn p) (x :: xs) [] pos) (tX y G (.make n f es)) := by
  obtain ⟨e1, _⟩ := o.lnk.cls n cn hc
  have hcs : n ∈ y.c.cs := by rw [← o.lnk.hcs]; exact List.mem_map.mpr ⟨_, hc, rfl⟩
  obtain ⟨ad, fd, ps, M, B, F, ar⟩ := o.lnk.init n f hf
  exact (pe_makeS M F o.room (gl_of o hg) e1 B pass ha hd (star_cons h1) (any_of h2)).imp fun σ H Q ⟨env, m, ta, s, r⟩ => ⟨env, m, ta, s, (noexb_run r).mono fun ws m1 H1 ta1 p1 r1 vs hvs q dx hq hdx hne => made_run p1.toks hvs ar r1 hq hdx hne hcs⟩
end
/-! ### the except suite -/
/-- what the suite knows: the error at slot j, its class, its field -/
def tH (y : Sy) (j : Nat) (a : Addr) (cls : Value) (d : Option Addr) (c : Nat) (h : HX) : TE := fun σ H Q => σ[j]? = some (some (.ref a)) ∧ cls = .ref (y.c.ca c) ∧
  ∃ m ta dd x e, Toks y.c H ta m ∧ d = some dd ∧ H dd = some (.xd [(y.fe c, x)]) ∧ Rep y.c (view H ta m) x e ∧ ∀ v H', Post y.c (view H ta m) ta H' ta m → Rep y.c (view H' ta m) v (hxV h e) → Q v H'
section
variable {L : Lk} {y : Sy} {N : List Str} {lv : Nat} {sc : Scope} {X : Cx} {EW : XK} {x l r : Expr} {pos : Pos}
variable {j c : Nat} {a : Addr} {oe : Obj} {cls : Value} {d : Option Addr} {pn : List (Addr × Obj)} {nm cn fl : Str}
theorem h_f {n : Str} {p : Pos} (o : XOk L y N lv sc X EW) (hk : (c, cn, fl) ∈ L.errs) (hj : N[j]? = some n) (hv : visB sc n = true) (h1 : (n == ("__debug__" : Str)) = false) (h2 : (n == ("__classdict__" : Str)) = false)
    (hz : Zc cls d oe) (hf : ∃ vs, oe.data = .fields vs) : PE (X.suite a ((a, oe) :: pn)) (.Attribute (.Name n p) fl pos) (tH y j a cls d c .f) := by
  have K := o.lnk.err c cn fl hk
  refine (pe_xf K.f.xf K.f.nof hz hf (pe_var (i := j) (by show X.N[j]? = _; rw [o.hN]; exact hj) (by show Vis X.env.scope n; rw [o.sc]; exact vis_of hv) h1 h2) rfl).imp fun σ H Q ⟨g1, g2, m, ta, dd, x, e, t, e1, e2, hr, q⟩ => ?_
  exact ⟨_, g1, rfl, g2, dd, _, x, e1, e2, by rw [K.fe]; simp [List.lookup], q x H (Post.refl t) hr⟩
theorem const_pe {k : Const} {n0 : Nat} {e0 : D} {Y : Cx} (h : constB e0 k = true) : ∃ v, PE Y (.Constant k n0 pos) (tC v) ∧ ∀ B, Rep y.c B v e0 := by
  cases e0 <;> cases k <;> simp [constB] at h
  · exact ⟨_, pe_non, fun _ => .non⟩
  · subst h; exact ⟨_, pe_bl, fun _ => .bl _⟩
  · subst h; exact ⟨_, pe_int, fun _ => .int _⟩
  · obtain ⟨rfl, h2⟩ := h; exact ⟨_, pe_str, fun _ => .str h2⟩
theorem h_c {k : Const} {n0 : Nat} {e0 : D} {Y : Cx} (h : constB e0 k = true) : PE Y (.Constant k n0 pos) (tH y j a cls d c (.c e0)) := by
  obtain ⟨v, hp, hv⟩ := const_pe (y := y) (n0 := n0) (pos := pos) (Y := Y) h
  exact hp.imp fun σ H Q ⟨_, _, m, ta, dd, x, e, t, _, _, _, q⟩ => q v H (Post.refl t) (hv _)
theorem h_lst {h : HX} {Y : Cx} (ih : PE Y r (tH y j a cls d c h)) (h1 : nstar r = true) : PE Y (.List [r] pos) (tH y j a cls d c (.lst h)) := by
  refine (pe_lst (pa_cons ih pa_nil (star_cons h1))).imp fun σ H Q ⟨g1, g2, m, ta, dd, x, e, t, e1, e2, hr, q⟩ => ⟨g1, g2, m, ta, dd, x, e, t, e1, e2, hr, fun v H' p hv => ⟨by show 1 ≤ sizeLine; rw [sizeLine_eq]; decide, fun b hb => ?_⟩⟩
  obtain ⟨p1, p2⟩ := post_new (o := HO.lst [v]) p.toks hb
  exact q _ _ (p.trans p1) (.lst (.inl p2) (.cons (hv.mono p1.ext) .nil))
theorem h_tup {h : HX} {k : Const} {n0 k0 : Nat} {e0 : D} {pc : Pos} {Y : Cx} (hc : constB e0 k = true) (ih : PE Y r (tH y j a cls d c h)) (h1 : nstar r = true) : PE Y (.Tuple [.Constant k n0 pc, r] k0 pos) (tH y j a cls d c (.tup e0 h)) := by
  obtain ⟨v0, hp, hv0⟩ := const_pe (y := y) (n0 := n0) (pos := pc) (Y := Y) hc
  refine (pe_tup (pa_cons hp (pa_cons ih pa_nil (star_cons h1)) (star_cons rfl))).imp fun σ H Q ⟨g1, g2, m, ta, dd, x, e, t, e1, e2, hr, q⟩ => ⟨g1, g2, m, ta, dd, x, e, t, e1, e2, hr, fun v H' p hv => ⟨by show 2 ≤ sizeLine; rw [sizeLine_eq]; decide, fun b hb => ?_⟩⟩
  obtain ⟨p1, p2⟩ := post_new (o := HO.tup [v0, v]) p.toks hb
  exact q _ _ (p.trans p1) (.tup (.inl (.inl p2)) (fun _ => p2) (.cons (hv0 _) (.cons (hv.mono p1.ext) .nil)))
/-- isinstance of the caught error -/
def rIs (K : PySem.W.Frag) (D a : Addr) (d : Option Addr) : List V → Hp → VK → Prop := fun xs H Q => ∃ (z : V) (cv : Value) (b : Bool), xs = [.ref a, z] ∧ (∀ u, RelV z u → u = cv) ∧ PySem.W.kitOne K (.ref D) cv = some b ∧ (∃ dd fs, d = some dd ∧ H dd = some (.xd fs)) ∧ Q (.bl b) H
theorem call_isD {D : Addr} {P : Program} (K : ErrF P X.K D fl) (hn : PySem.W.specialIn X.K (.builtin "object.__class__") "__get__" = some (some (.builtin "getset_descriptor.__get__"))) (ht : PySem.W.takesIn X.K (.builtin "object.__class__") = some true)
    (hz : Zc (.ref D) d oe) (hf : ∃ vs, oe.data = .fields vs) : CallR (X.suite a ((a, oe) :: pn)) (.builtin "isinstance") (rIs X.K D a d) := by
  intro pins s σ H xs us Q I rv h
  obtain ⟨z, cv, b, rfl, hcv, e, ⟨dd, fs, rfl, hd⟩, q⟩ := h
  cases rv with
  | cons rx rr =>
    cases rr with
    | cons rt rr =>
      cases rr
      cases rx
      obtain rfl := hcv _ rt
      have P0 := (I.pin (a, oe) (List.mem_append_left _ List.mem_cons_self)).1
      obtain ⟨vs, hv⟩ := hf
      have hx : ObjOk X.prog X.w H s.heap dd (.xd fs) := I.hok dd _ hd
      obtain ⟨mA, hns, _⟩ := hx
      obtain ⟨od, ho, _⟩ := lookIn_ns hns
      have J : PySem.W.InstAt s.heap a oe D (some od) := ⟨P0, hz.1, by unfold PySem.W.notCls; rw [hv] <;> rfl, by rw [hz.2]; exact ho⟩
      exact PySem.W.kia_one (PySem.W.kitx_exc K.isC K.xf.ga K.xf.gg K.xf.exC K.cl hn ht K.ob) I.kIn J e (fun z => nomatch z) fun tk => ⟨.bl b, H, I.kept (t' := tk) fun _ _ z => z, rfl, q⟩
theorem h_isi {h : HX} {n cb : Str} {b : Nat} {p p1 p2 cp : Pos} {tb : TE} (o : XOk L y N lv sc X EW) (hk : (c, cn, fl) ∈ L.errs) (hb : (b, cb) ∈ L.ebase) (hj : N[j]? = some n) (hv : visB sc n = true) (h1 : (n == ("__debug__" : Str)) = false) (h2 : (n == ("__classdict__" : Str)) = false)
    (h3 : glB sc "isinstance" = true) (h4 : glB sc cb = true) (h5 : (cb == ("__debug__" : Str)) = false) (hz : Zc (.ref (y.c.ca c)) d oe) (hf : ∃ vs, oe.data = .fields vs)
    (ih : PE (X.suite a ((a, oe) :: pn)) l (tH y j a (.ref (y.c.ca c)) d c h)) (hr : PE (X.suite a ((a, oe) :: pn)) r tb) :
    PE (X.suite a ((a, oe) :: pn)) (.IfExp (.Call (.Name "isinstance" p) [.Name n p1, .Name cb p2] [] cp) l r pos) (tH y j a (.ref (y.c.ca c)) d c (.isi b h)) := by
  obtain ⟨e1, e2⟩ := o.lnk.ebase b cb hb
  have K := o.lnk.err c cn fl hk
  have hg : Gl X cb := gl_of o h4
  have hi : Gl X "isinstance" := gl_of o h3
  have pc : PE (X.suite a ((a, oe) :: pn)) (.Call (.Name "isinstance" p) [.Name n p1, .Name cb p2] [] cp) _ :=
    pe_callB (call_isD K.f o.lnk.gcls.1 o.lnk.gcls.2 hz hf) hi (o_bt o (by decide +kernel)) PyProof.Rows.boot_isinstance
      (pa_cons (pe_var (i := j) (by show X.N[j]? = _; rw [o.hN]; exact hj) (by show Vis X.env.scope n; rw [o.sc]; exact vis_of hv) h1 h2) (pa_cons (pe_glob (X := X.suite a ((a, oe) :: pn)) (v := .ref (y.c.ca b)) hg e1 rfl h5) pa_nil rfl) rfl) (by decide) (by decide) rfl rfl
  refine (pe_ifExp (pt_val pc (fun _ => rfl)) ih hr).imp fun σ H Q ⟨g1, g2, m, ta, dd, x, e, t, q1, q2, hr, q⟩ => ?_
  refine ⟨_, g1, .ref (y.c.ca b), _, true, rfl, fun u hu => hu, e2 c cn fl hk, ⟨dd, _, q1, q2⟩, true, rfl, ?_⟩
  exact iteT ⟨g1, g2, m, ta, dd, x, e, t, q1, q2, hr, q⟩
end
end Cy

set_option Elab.async false
set_option linter.all false
set_option maxRecDepth 100000
set_option maxHeartbeats 4000000
/-! CyTry3: try: one call, except one class as a name: one store. -/
namespace Cy
open PySem L2
open PySem.PyData (strOk)
/-- the other branch, never taken -/
def elB : Expr → Bool
  | .Constant .none _ _ => true
  | .Constant (.bool _) _ _ => true
  | .Constant (.int _) _ _ => true
  | .Constant (.str _) _ _ => true
  | .UnaryOp .USub (.Constant (.int _) _ _) _ => true
  | _ => false
def cHX (L : Lk) (N : List Str) (sc : Scope) (fl : Str) (j : Nat) : HX → Expr → Bool
  | .f, x => match x with
    | .Attribute (.Name n _) f _ => decide (N[j]? = some n) && visB sc n && !(n == ("__debug__" : Str)) && !(n == ("__classdict__" : Str)) && decide (f = fl)
    | _ => false
  | .c d, x => match x with
    | .Constant k _ _ => constB d k
    | _ => false
  | .lst h, x => match x with
    | .List [r] _ => nstar r && cHX L N sc fl j h r
    | _ => false
  | .tup d h, x => match x with
    | .Tuple [.Constant k _ _, r] _ _ => constB d k && nstar r && cHX L N sc fl j h r
    | _ => false
  | .isi b h, x => match x with
    | .IfExp (.Call (.Name i _) [.Name n _, .Name cb _] [] _) l r _ => decide (i = ("isinstance" : Str)) && decide ((b, cb) ∈ L.ebase) && decide (N[j]? = some n) && visB sc n && !(n == ("__debug__" : Str)) && !(n == ("__classdict__" : Str)) &&
        glB sc "isinstance" && glB sc cb && !(cb == ("__debug__" : Str)) && elB r && cHX L N sc fl j h l
    | _ => false
section
variable {L : Lk} {y : Sy} {N : List Str} {lv : Nat} {sc : Scope} {X : Cx} {EW : XK} {x l r : Expr} {pos : Pos}
theorem el_pe {Y : Cx} : ∀ {r : Expr}, elB r = true → ∃ tb, PE Y r tb := by
  intro r h
  unfold elB at h
  split at h
  · exact ⟨_, pe_non⟩
  · exact ⟨_, pe_bl⟩
  · exact ⟨_, pe_int⟩
  · exact ⟨_, pe_str⟩
  · rename_i i k p p2
    exact ⟨_, s_neg (y := ⟨⟨[], fun _ => 0, fun _ => [], []⟩, fun _ => Str.empty, ⟨fun _ _ _ => .bad, fun _ => .non, 0⟩⟩) (EW := E0) (s_const (d := .int i) (by simp [constB]))⟩
  · cases h
variable {j c : Nat} {a : Addr} {oe : Obj} {d : Option Addr} {pn : List (Addr × Obj)} {cn fl : Str}
theorem s_HX (o : XOk L y N lv sc X EW) (hk : (c, cn, fl) ∈ L.errs) (hz : Zc (.ref (y.c.ca c)) d oe) (hf : ∃ vs, oe.data = .fields vs) : ∀ (h : HX) {x : Expr}, cHX L N sc fl j h x = true → PE (X.suite a ((a, oe) :: pn)) x (tH y j a (.ref (y.c.ca c)) d c h) := by
  intro h
  induction h with
  | f =>
    intro x q
    unfold cHX at q
    split at q <;> try cases q
    simp only [Bool.and_eq_true, decide_eq_true_eq, Bool.not_eq_true'] at q
    obtain ⟨⟨⟨⟨q1, q2⟩, q3⟩, q4⟩, rfl⟩ := q
    exact h_f o hk q1 q2 q3 q4 hz hf
  | c d =>
    intro x q
    unfold cHX at q
    split at q <;> try cases q
    exact h_c q
  | lst h ih =>
    intro x q
    unfold cHX at q
    split at q <;> try cases q
    simp only [Bool.and_eq_true] at q
    exact h_lst (ih q.2) q.1
  | tup d h ih =>
    intro x q
    unfold cHX at q
    split at q <;> try cases q
    simp only [Bool.and_eq_true] at q
    exact h_tup q.1.1 (ih q.2) q.1.2
  | isi b h ih =>
    intro x q
    unfold cHX at q
    split at q <;> try cases q
    simp only [Bool.and_eq_true, decide_eq_true_eq, Bool.not_eq_true'] at q
    obtain ⟨⟨⟨⟨⟨⟨⟨⟨⟨⟨rfl, q1⟩, q2⟩, q3⟩, q4⟩, q5⟩, q6⟩, q7⟩, q8⟩, q9⟩, q10⟩ := q
    obtain ⟨tb, hr⟩ := el_pe (Y := X.suite a ((a, oe) :: pn)) q9
    exact h_isi o hk q1 q2 q3 q4 q5 q6 q7 q8 hz hf (ih q10) hr
end
end Cy

set_option Elab.async false
set_option linter.all false
set_option maxRecDepth 100000
set_option maxHeartbeats 2000000
/-! CyMore: extend, index, three names stored, two items stored. -/
namespace Cy
open PySem L2
open PySem.PyData (strOk)
/-- list.extend by a list that may be read only -/
def rExtR : V → List V → Hp → VK → Prop := fun x vs H Q => ∃ l b xs zs, x = .ref l ∧ vs = [.ref b] ∧ H l = some (.lst xs) ∧ Rd H b (.lst zs) ∧ xs.length + zs.length ≤ sizeLine ∧ Q .non (upd H l (.lst (xs ++ zs)))
theorem mt_extR {X : Cx} : MtM X "list.extend" rExtR := by
  intro pins s σ H x vs v us Q I rx rv h
  obtain ⟨l, b, xs, zs, rfl, rfl, hH, hB, hz, q⟩ := h
  cases rx
  obtain ⟨u, rfl, ru⟩ := rv.one
  cases ru
  obtain ⟨z, its, n, r, hl, e⟩ := I.lstM hH
  obtain ⟨z2, its2, n2, r2, e2⟩ := hB.ok I.hok
  have hl2 := r2.length
  have hsz : its.toArray.size + its2.toArray.size ≤ sizeLine := by rw [List.size_toArray, List.size_toArray]; omega
  have hlong : ¬ (!its.toArray.isEmpty && Builtin.List.listTooLong (its.toArray.size + its2.toArray.size)) = true := by
    have : Builtin.List.listTooLong (its.toArray.size + its2.toArray.size) = false := by
      unfold Builtin.List.listTooLong
      exact decide_eq_false (by omega)
    rw [this, Bool.and_false]
    exact Bool.false_ne_true
  refine call_meets F.slot_list_extend ⟨_, e, rfl⟩ F.entry_list_extend (F.args_list_extend_2 _ _)
    (AutoSeq1.list_extend_list_list_0 l its.toArray n b its2.toArray n2 hlong (by rw [List.size_toArray]; omega) (by omega)) ⟨e, e2, ?_⟩
  refine ⟨.non, _, I.lset (its' := its ++ its2) hH e (by simp) (r.append r2) ?_, rfl, q⟩
  rw [List.length_append]
  omega
section
variable {L : Lk} {y : Sy} {N : List Str} {lv : Nat} {sc : Scope} {X : Cx} {EW : XK} {x l r tg : Expr} {xs : List Expr} {a b c : E} {es : EL} {pos : Pos} {fb : Str → Bool}
theorem st_extend {apos cpos : Pos} (ha : PE X x (tE y EW a)) (hb : PE X r (tE y EW b)) (ab : abB x = true) (h1 : nstar r = true) (hp : (apos.endLine == cpos.line) = true) :
    PS X (.Expr (.Call (.Attribute x "extend" apos) [r] [] cpos) pos) (tS y EW (.mut .extend a (.cons b .nil))) := by
  refine (ps_expr (pe_bm F.plainAttrs_list F.slot_list_extend F.type_list_extend mt_extR ha (s_cons hb s_nil h1) (ab_of ab) (by rw [star_cons h1]; rfl) hp (star_cons h1) (any_of (es := []) rfl)) (sw_no rfl)).imp (mut_imp fun H ta m n ad ws us as ys vs Q t hm had hH q2 q3 e k => ?_)
  rcases as with _ | ⟨w, _ | ⟨_, _⟩⟩ <;> simp only [mutL, reduceCtorEq] at e
  split at e
  · rename_i zs hz
    split at e
    · rename_i hl
      cases e
      rcases vs with _ | ⟨v1, _ | ⟨_, _⟩⟩ <;> first | exact q3.elim | exact q3.2.elim | skip
      obtain ⟨q3, _⟩ := q3
      have hl : ws.length + zs.length < 10000000 := hl
      have hq := q2.length
      unfold lstW at hz
      split at hz
      · rename_i ds
        cases hz
        have rp : Rep y.c (view H ta m) v1 (.lst ds) := q3
        cases rp with
        | lst h rr =>
          rename_i b0 xs0
          refine ⟨ad, b0, ys, xs0, rfl, rfl, hH, rd_mono (view_sub _ _ _) h, ?_, k _ (q2.append (Wrs.of rr))⟩
          have := rr.length
          rw [List.length_map] at hl
          rw [hq, this, sizeLine_eq]; omega
      · rename_i n2
        obtain ⟨b0, hb0, rfl⟩ := q3
        split at hz
        · rename_i ws2 hm2
          cases hz
          obtain ⟨xs0, g1, g2⟩ := t.ok n2 _ b0 hm2 hb0
          refine ⟨ad, b0, ys, xs0, rfl, rfl, hH, .inl g1, ?_, k _ (q2.append g2)⟩
          have := g2.length
          rw [hq, this, sizeLine_eq]; omega
        · cases hz
      · cases hz
    · cases e
  · cases e
theorem pds_get : ∀ (ds : List D) (j : Nat), (pds ds)[j]? = (ds[j]?).map pd
  | [], j => by simp [pds]
  | d :: ds, 0 => by simp [pds]
  | d :: ds, j + 1 => by simp [pds, pds_get ds j]
theorem idx_at {x : D} : ∀ {ds : List D} {n j : Nat}, idxOfD x ds n = some j → n ≤ j ∧ ∃ z, ds[j - n]? = some z ∧ eqB z x = true ∧ ∀ i z', i < j - n → ds[i]? = some z' → eqB z' x = false
  | [], _, _, h => by cases h
  | d :: ds, n, j, h => by
    unfold idxOfD at h
    split at h
    · rename_i q
      cases h
      refine ⟨Nat.le_refl _, d, by simp, q, fun i z' hi => by omega⟩
    · rename_i q
      obtain ⟨h1, z, h2, h3, h4⟩ := idx_at h
      have e : j - n = (j - (n + 1)) + 1 := by omega
      refine ⟨by omega, z, by rw [e]; simpa using h2, h3, fun i z' hi hz => ?_⟩
      cases i with
      | zero => simp at hz; subst hz; simpa using q
      | succ i => exact h4 i z' (by omega) (by simpa using hz)
theorem tyV_lstD {c : Cl} {H : Hp} {v : V} {ds : List D} (h : Rep c H v (.lst ds)) : tyV c.K "list" v H := by
  cases h with
  | lst h r => exact .inl ⟨rfl, _, .inl h⟩
theorem s_index {apos : Pos} (o : XOk L y N lv sc X EW) (ha : PE X l (tE y EW a)) (hb : PE X r (tE y EW b)) (ab : abB l = true) (h1 : nstar r = true) (hp : (apos.endLine == pos.line) = true) :
    PE X (.Call (.Attribute l "index" apos) [r] [] pos) (tE y EW (.sm .index a (.cons b .nil))) := by
  refine (pe_bm F.plainAttrs_list F.slot_list_index F.type_list_index (mt_indexD (by have := o.units; omega)) ha (s_cons hb s_nil h1) (ab_of ab) (by rw [star_cons h1]; rfl) hp (star_cons h1) (any_of (es := []) rfl)).imp fun σ H Q ⟨env, m, ta, s, rr⟩ => ⟨env, m, ta, s, ?_⟩
  simp only [ev] at rr
  refine rr.bind.mono fun w m1 H1 ta1 p1 r1 v hv => ?_
  obtain ⟨hL, r1⟩ := iteR_run r1
  have ty : tyV X.K "list" v H1 := by
    unfold recv at hL
    cases w with
    | v d =>
      cases d <;> simp [lstW] at hL
      rw [o.lnk.hK]
      exact tyV_lstD (Rep.mono (view_sub _ _ _) hv)
    | t n =>
      simp only [lstW] at hL
      split at hL
      · exact tyV_list p1.toks hv (by assumption)
      · cases hL
  refine ⟨ty, env, m1, ta1, s.step p1, r1.bind.mono fun ws m2 H2 ta2 p2 r2 vs hvs => ?_⟩
  obtain ⟨d, e1, r3⟩ := asD_run r2
  obtain ⟨ds, e2, r4⟩ := onO_run r3
  obtain ⟨g, e3, r5⟩ := ofD_run r4
  have sv := snap_of p2.toks (hv.mono p2.ext p2.pre) e1
  have ss := asDs_of p2.toks hvs e2
  rcases ds with _ | ⟨d1, _ | ⟨_, _⟩⟩
  · cases d <;> simp [mfD] at e3
  · obtain ⟨v1, rfl, s1⟩ := ss.one
    cases d <;> simp only [mfD, reduceCtorEq] at e3
    rename_i ys
    split at e3
    · rename_i hc
      simp only [Bool.and_eq_true, decide_eq_true_eq] at hc
      obtain ⟨⟨⟨c1, c2⟩, c3⟩, c4⟩ := hc
      obtain ⟨j, e4, rfl⟩ := Option.map_eq_some_iff.mp e3
      obtain ⟨_, z, z1, z2, z3⟩ := idx_at e4
      have fl := sv.full (view_sub _ _ _)
      have f1 := s1.full (view_sub _ _ _)
      have pl : plain (.lst ys) = true := by simpa [plain] using c2
      have hv2 : ∃ ad, v = .ref ad := by cases fl with | lst h r => exact ⟨_, rfl⟩
      obtain ⟨ad, rfl⟩ := hv2
      have dp := fl.dp pl
      have dp1 := f1.dp c1
      rw [← o.lnk.hK] at dp dp1
      have sh : SeqAt.shaped (pd (.lst ys)) = true := by
        have e : dep (.lst ys) = deps ys + 1 := rfl
        unfold SeqAt.shaped
        rw [fl.lay pl, Bool.true_and, decide_eq_true_eq]
        exact Nat.le_trans (dep_pd _ pl) (by omega)
      refine ⟨ad, v1, pd d1, pds ys, j, pd z, rfl, rfl, dp, dp1, sh, shaped_of f1 c1 c3, by rw [pds_get]; rw [Nat.sub_zero] at z1; rw [z1]; rfl, by rw [eqv_pd]; exact z2, fun i z' hi hz' => ?_, ?_⟩
      · rw [pds_get] at hz'
        obtain ⟨z0, g1, rfl⟩ := Option.map_eq_some_iff.mp hz'
        rw [eqv_pd]
        exact z3 i z0 (by omega) g1
      · exact (New.of p2.toks r5).1 _ (.int _)
    · cases e3
  · cases d <;> simp [mfD] at e3
end
end Cy

set_option Elab.async false
set_option linter.all false
set_option maxRecDepth 100000
set_option maxHeartbeats 2000000
/-! CyMore2: three names stored, two items stored. -/
namespace Cy
open PySem L2
open PySem.PyData (strOk)
section
variable {L : Lk} {y : Sy} {N : List Str} {lv : Nat} {sc : Scope} {X : Cx} {EW : XK} {x l r z tg : Expr} {xs : List Expr} {a b c : E} {es : EL} {pos : Pos} {fb : Str → Bool}
def locB (sc : Scope) (n : Str) : Bool := match sc.names.lookup n with | some .local => true | _ => false
theorem locB_of {sc : Scope} {n : Str} (h : locB sc n = true) : sc.names.lookup n = some .local := by
  unfold locB at h
  split at h
  · assumption
  · cases h
def par3B (sc : Scope) (n1 n2 n3 : Str) (p1 p2 p3 : Pos) (x z u : Expr) : Bool :=
  locB sc n1 && locB sc n2 && locB sc n3 && (p2.line == p1.line) && (p3.line == p1.line) && !(n1 == n2) && !(n1 == n3) && !(n2 == n3) && nstar x && nstar z && nstar u && !(foldedForSure 8 x && foldedForSure 8 z && foldedForSure 8 u) && !(constantsAlone 8 x && constantsAlone 8 z && constantsAlone 8 u)
theorem st_par3 {i j q k k' : Nat} {n1 n2 n3 : Str} {p1 p2 p3 pt pt' : Pos} (o : XOk L y N lv sc X EW) (hk : sc.kind = .function) (hi : N[i]? = some n1) (hj : N[j]? = some n2) (hq : N[q]? = some n3) (hij : i ≠ j) (hiq : i ≠ q) (hjq : j ≠ q) (ha : PE X l (tE y EW a)) (hb : PE X r (tE y EW b)) (hc : PE X z (tE y EW c)) (h : par3B sc n1 n2 n3 p1 p2 p3 l r z = true) :
    PS X (.Assign [.Tuple [.Name n1 p1, .Name n2 p2, .Name n3 p3] k pt] (.Tuple [l, r, z] k' pt') pos) (tS y EW (.par [i, j, q] (.cons a (.cons b (.cons c .nil))))) := by
  unfold par3B at h
  simp only [Bool.and_eq_true, Bool.not_eq_true', beq_iff_eq] at h
  obtain ⟨⟨⟨⟨⟨⟨⟨⟨⟨⟨⟨⟨h1, h2⟩, h3⟩, h4⟩, h5⟩, h6⟩, h7⟩, h8⟩, h9⟩, h10⟩, h11⟩, h12⟩, h13⟩ := h
  have l1 : X.env.scope.names.lookup n1 = some .local := by rw [o.sc]; exact locB_of h1
  have l2 : X.env.scope.names.lookup n2 = some .local := by rw [o.sc]; exact locB_of h2
  have l3 : X.env.scope.names.lookup n3 = some .local := by rw [o.sc]; exact locB_of h3
  have hw : swappedStores [.Tuple [.Name n1 p1, .Name n2 p2, .Name n3 p3] k pt] (.Tuple [l, r, z] k' pt') X.env = pure (some [n1, n2, n3]) := by
    have bk : X.env.blockKind = .function := by unfold PySem.Env.blockKind; rw [o.sc, hk]; rfl
    have k1 : X.env.kindOf n1 = some .local := l1
    have k2 : X.env.kindOf n2 = some .local := l2
    have k3 : X.env.kindOf n3 = some .local := l3
    unfold swappedStores
    simp only [bk, k1, k2, k3, h4, h5, List.length_cons, List.length_nil, List.filterMap_cons, List.filterMap_nil, List.head?_cons, Option.map_some, Option.getD_some, PySem.Expr.pos]
    have h7' : ([l, r, z].all (foldedForSure 8)) = false := by simpa [List.all_cons, Bool.and_assoc] using h12
    have h8' : ([l, r, z].all (constantsAlone 8)) = false := by simpa [List.all_cons, Bool.and_assoc] using h13
    have ne1 : (n2 == n1) = false := beq_eq_false_iff_ne.mpr (fun e => by rw [e] at h6; simp at h6)
    have ne2 : (n3 == n1) = false := beq_eq_false_iff_ne.mpr (fun e => by rw [e] at h7; simp at h7)
    have ne3 : (n3 == n2) = false := beq_eq_false_iff_ne.mpr (fun e => by rw [e] at h8; simp at h8)
    simp [h7', h8', List.eraseDups_cons, ne1, ne2, ne3]
    rintro (h | h | h)
    · exfalso
      cases l <;> first | (simp [nstar] at h9; done) | (cases h; done)
    · exfalso
      cases r <;> first | (simp [nstar] at h10; done) | (cases h; done)
    · exfalso
      cases z <;> first | (simp [nstar] at h11; done) | (cases h; done)
  refine (ps_par3 o.calm (by rw [o.hN]; exact o.nd) (by rw [o.hN]; exact hi) (by rw [o.hN]; exact hj) (by rw [o.hN]; exact hq) hij hiq hjq l1 l2 l3 (s_cons ha (s_cons hb (s_cons hc s_nil h11) h10) h9) hw rfl).imp fun D σ H ⟨env, m, ta, s, r0⟩ => ⟨env, m, ta, s, (RunS.of r0).mono fun ws m1 H1 ta1 p r1 vs hvs => ?_⟩
  obtain ⟨env', e, r2⟩ := onS_run r1
  rcases ws with _ | ⟨w1, _ | ⟨w2, _ | ⟨w3, _ | ⟨_, _⟩⟩⟩⟩ <;> simp [asgList] at e
  subst e
  rcases vs with _ | ⟨v1, _ | ⟨v2, _ | ⟨v3, _ | ⟨_, _⟩⟩⟩⟩ <;> first | exact hvs.elim | exact hvs.2.elim | exact hvs.2.2.elim | exact hvs.2.2.2.elim | skip
  refine ⟨v1, v2, v3, rfl, ?_⟩
  have := RunS.nx ((((s.step p).set (i := q) hvs.2.2.1).set (i := j) hvs.2.1).set (i := i) hvs.1) r2
  rw [List.set_comm _ _ (Ne.symm hjq), List.set_comm _ _ (Ne.symm hiq)] at this
  rw [List.set_comm _ _ hij]
  exact this
theorem sws_tup {ts : Expr} {es : List Expr} {k : Nat} {p : Pos} {ln : Nat} {env : PySem.Env} : swapsWithSole [ts] (.Tuple es k p) ln env = pure false := sws_no rfl
theorem sst_sub {o1 i1 o2 i2 : Expr} {q1 q2 p pt : Pos} {k k' : Nat} {env : PySem.Env} (e : Expr) (es : List Expr) : swappedStores [.Tuple [.Subscript o1 i1 q1, .Subscript o2 i2 q2] k p] (.Tuple (e :: es) k' pt) env = pure none := by
  unfold swappedStores
  simp only [List.length_cons, List.length_nil, List.filterMap_cons, List.filterMap_nil]
  split
  · rfl
  · split
    · rfl
    · simp
theorem pairW_of {w : W} {p : D × D} (h : pairW w = some p) : w = .v (.tup [p.1, p.2]) := by
  unfold pairW at h
  split at h
  · cases h; rfl
  · cases h
theorem st_iset2 {o1 i1 o2 i2 : Expr} {a1 b1 a2 b2 : E} {q1 q2 p pt : Pos} {k k' : Nat} (o : XOk L y N lv sc X EW) (h1 : PE X o1 (tE y EW a1)) (h2 : PE X i1 (tE y EW b1)) (h3 : PE X o2 (tE y EW a2)) (h4 : PE X i2 (tE y EW b2)) (hl : PE X l (tE y EW a)) (hr : PE X r (tE y EW b))
    (n1 : nstar l = true) (n2 : nstar r = true) (k1 : plainIxB i1 = true) (k2 : plainIxB i2 = true) :
    PS X (.Assign [.Tuple [.Subscript o1 i1 q1, .Subscript o2 i2 q2] k p] (.Tuple [l, r] k' pt) pos) (tS y EW (.iset2 a1 b1 a2 b2 a b)) := by
  have hu : X.A.units + 1 < cLine := by have := o.units; omega
  refine (ps_asg (s_tup (s_cons hl (s_cons hr s_nil n2) n1)) (pg_tup (n := 2) o.calm (pgs_cons (pg_sub h1 h2 (set_any hu) (asub k1)) (pgs_cons (pg_sub h3 h4 (set_any hu) (asub k2)) pgs_nil)) rfl rfl) sws_tup (sst_sub _ _)).imp fun D σ H ⟨env, m, ta, s, r0⟩ => ⟨env, m, ta, s, ?_⟩
  have r0 : RunS y.c y.fe EW D (view H ta m) ta (RS.of (ev y.F (.tup (.cons a (.cons b .nil))) env m) fun t m => onS (pairW t) fun p =>
      RS.of (ev y.F a1 env m) fun x m => RS.of (ev y.F b1 env m) fun kw m => onS (snap m kw) fun kd => onS (isetW m x kd (.v p.1)) fun m =>
        RS.of (ev y.F a2 env m) fun x2 m => RS.of (ev y.F b2 env m) fun kw2 m => onS (snap m kw2) fun kd2 => onS (isetW m x2 kd2 (.v p.2)) fun m => .nx env m) := r0
  refine (RunS.of r0).mono fun w m1 H1 ta1 p1 r1 v hv => ?_
  obtain ⟨⟨d1, d2⟩, e1, r1⟩ := onS_run r1
  obtain rfl := pairW_of e1
  have hv : Rep y.c (view H1 ta1 m1) v (.tup [d1, d2]) := hv
  cases hv with
  | tup hs hi rr =>
    rename_i ad vs
    cases rr with
    | cons g1 rr =>
      cases rr with
      | cons g2 rr =>
        cases rr
        refine ⟨ad, _, rfl, o.lnk.hK ▸ seq_mono (view_sub _ _ _) hs, rfl, _, _, rfl, ?_⟩
        refine ⟨env, m1, ta1, s.step p1, (RunS.of r1).mono fun u m2 H2 ta2 p2 r2 z hz => ?_⟩
        refine ⟨env, m2, ta2, (s.step p1).step p2, (RunS.of r2).mono fun kw m3 H3 ta3 p3 r3 kv hk => ?_⟩
        obtain ⟨kd, e2, r4⟩ := onS_run r3
        obtain ⟨m4, e3, r5⟩ := onS_run r4
        refine iset_ok p3.toks (hz.mono p3.ext p3.pre) (snap_of p3.toks hk e2) (w := .v d1) ((g1.mono p2.ext).mono p3.ext) e3 fun H' p4 => ?_
        have s4 := (((s.step p1).step p2).step p3).step p4
        refine ⟨_, _, rfl, ?_⟩
        have r5 := r5.step p4
        refine ⟨env, m4, ta3, s4, (RunS.of r5).mono fun u2 m5 H5 ta5 p5 r6 z2 hz2 => ?_⟩
        refine ⟨env, m5, ta5, s4.step p5, (RunS.of r6).mono fun kw2 m6 H6 ta6 p6 r7 kv2 hk2 => ?_⟩
        obtain ⟨kd2, e4, r8⟩ := onS_run r7
        obtain ⟨m7, e5, r9⟩ := onS_run r8
        refine iset_ok p6.toks (hz2.mono p6.ext p6.pre) (snap_of p6.toks hk2 e4) (w := .v d2) (((((g2.mono p2.ext).mono p3.ext).mono p4.ext).mono p5.ext).mono p6.ext) e5 fun H' p7 => ?_
        exact ⟨rfl, RunS.nx ((((s4.step p5).step p6).step p7)) (r9.step p7)⟩
end
end Cy

set_option Elab.async false
set_option linter.all false
set_option maxRecDepth 100000
set_option maxHeartbeats 4000000
/-! CyMore3: empty dict displays. -/
namespace Cy
open PySem L2
open PySem.PyData (strOk)
section
variable {L : Lk} {y : Sy} {N : List Str} {lv : Nat} {sc : Scope} {X : Cx} {EW : XK} {x l r : Expr} {a b : E} {pos : Pos}
theorem dict0_run {c : Cl} {fe : Nat → Str} {H : Hp} {ta : List Addr} {m : Store} {Q : VK} {tk t : Bool} {o : HO} (tt : Toks c H ta m)
    (ok : ∀ p, TokOk c (view H ta m) (upd H p o) ta p (.dict t [] [])) (rp : ∀ B p, B p = some o → Rep c B (.ref p) (.dict t [] []))
    (h : Run c fe EW (view H ta m) ta (newD tk t [] [] m) fun w m' H' ta' => ∀ v, Wr c (view H' ta' m') ta' v w → Q v H') (p : Addr) (hp : H p = none) : Q (.ref p) (upd H p o) := by
  rcases newD_run h with ⟨_, h⟩ | ⟨ds, _, e, h⟩
  · refine h.at (post_tok tt hp (by simp) (ok p)) (.ref p) ⟨p, ?_, rfl⟩
    rw [List.getElem?_append_right (by rw [tt.len]; exact Nat.le_refl _), tt.len, Nat.sub_self]
    rfl
  · cases e
    obtain ⟨p1, p2⟩ := post_new (o := o) tt hp
    exact h.at p1 (.ref p) (rp _ p p2)
theorem s_dict0 {tk t : Bool} : PE X (.Dict [] [] pos) (tE y EW (.dict tk t .nil .nil)) := by
  cases t with
  | false =>
    refine pe_dnewK.imp fun σ H Q ⟨env, m, ta, s, r⟩ => ?_
    have r : Run y.c y.fe EW (view H ta m) ta (newD tk false [] [] m) fun w m' H' ta' => ∀ v, Wr y.c (view H' ta' m') ta' v w → Q v H' := by
      simpa [ev, evL, R.bind, asDs, onO, dispD] using r
    exact dict0_run (o := .dK []) s.toks (fun p => .inl ⟨rfl, [], upd_same, rfl, by simp, trivial⟩) (fun B p h => .dK (kvs := []) h (by simp) .nil) r
  | true =>
    refine pe_dnewT.imp fun σ H Q ⟨env, m, ta, s, r⟩ => ?_
    have r : Run y.c y.fe EW (view H ta m) ta (newD tk true [] [] m) fun w m' H' ta' => ∀ v, Wr y.c (view H' ta' m') ta' v w → Q v H' := by
      simpa [ev, evL, R.bind, asDs, onO, dispD] using r
    exact dict0_run (o := .dT []) s.toks (fun p => .inr ⟨rfl, [], upd_same, rfl, by simp, trivial⟩) (fun B p h => .dT (kvs := []) h (by simp) .nil) r
variable {es : EL} {xs : List Expr} {c : E} {z : Expr}
theorem st_insert {apos cpos : Pos} (ha : PE X x (tE y EW a)) (hb : PE X r (tE y EW b)) (hc : PE X z (tE y EW c)) (ab : abB x = true) (h1 : nstar r = true) (h2 : nstar z = true) (hp : (apos.endLine == cpos.line) = true) :
    PS X (.Expr (.Call (.Attribute x "insert" apos) [r, z] [] cpos) pos) (tS y EW (.mut .insert a (.cons b (.cons c .nil)))) := by
  refine (ps_expr (pe_bm F.plainAttrs_list F.slot_list_insert F.type_list_insert mt_insert ha (s_cons hb (s_cons hc s_nil h2) h1) (ab_of ab) (by rw [star_cons h1, star_cons h2]; rfl) hp (star_cons h1) (any_of (es := [z]) (by simp [nstars, h2]))) (sw_no rfl)).imp (mut_imp fun H ta m n ad ws us as ys vs Q t hm had hH q2 q3 e k => ?_)
  rcases as with _ | ⟨w0, _ | ⟨w1, _ | ⟨_, _⟩⟩⟩ <;> simp only [mutL, reduceCtorEq] at e
  cases w0 with
  | t _ => simp only [mutL, reduceCtorEq] at e
  | v d0 =>
    cases d0 <;> simp only [mutL, reduceCtorEq] at e
    rename_i i
    split at e
    · rename_i hl
      cases e
      rcases vs with _ | ⟨v0, _ | ⟨v1, _ | ⟨_, _⟩⟩⟩ <;> first | exact q3.elim | exact q3.2.elim | exact q3.2.2.elim | skip
      obtain ⟨g0, g1, _⟩ := q3
      obtain rfl := rep_int g0
      have hq := q2.length
      obtain ⟨l1, l2, l3⟩ := hl
      refine ⟨ad, ys, i, v1, rfl, rfl, hH, ?_, l1, ?_, k _ ?_⟩
      · have l3 : ws.length < 10000000 := l3
        rw [hq, sizeLine_eq]
        omega
      · have l3 : ws.length < 10000000 := l3
        have l4 : (ws.length : Int) < 10000000 := Int.ofNat_lt.mpr l3
        omega
      · rw [List.append_assoc]
        have g2 : Wrs y.c (view H ta m) ta [v1] [w1] := ⟨g1, trivial⟩
        exact (q2.take _).append (g2.append (q2.drop _))
    · cases e
end
end Cy

set_option Elab.async false
set_option linter.all false
set_option maxRecDepth 100000
set_option maxHeartbeats 4000000
/-! CySortT: sorted lists of tuples of ints and texts, any number of them. -/
namespace Cy
open PySem L2 PySem.Spec PyProof.Rows
open PySem.PyData (strOk)
def kItem : Key → Int ⊕ List Nat
  | .inl i => .inl i
  | .inr x => .inr x.cps.toList
def ltI (a b : List Key) : Bool := lexLt itemOrd (a.map kItem) (b.map kItem)
/-- a tuple's keys have this shape, from a place on -/
def Shp (sh : Nat → Bool) : Nat → List Key → Prop
  | _, [] => True
  | i, k :: ks => isS k = sh i ∧ Shp sh (i + 1) ks
theorem tupItems_of {sh : Nat → Bool} : ∀ {ks : List Key} {its : List Value} {i : Nat}, Vals (ks.map kV) its → Shp sh i ks → tupItems sh i its = some (ks.map kItem)
  | [], its, i, r, _ => by cases r; rfl
  | k :: ks, its, i, r, h => by
    cases its with
    | nil => cases r
    | cons u us =>
      cases r with
      | cons r t =>
        have ih := tupItems_of t h.2
        cases k with
        | inl n =>
          obtain ⟨t', rfl⟩ := r
          have hs : sh i = false := h.1.symm
          simp [tupItems, hs, ih, kItem]
        | inr x =>
          obtain ⟨t', rfl⟩ := r
          have hs : sh i = true := h.1.symm
          simp [tupItems, hs, ih, kItem]
/-- a value that is a tuple with such keys -/
def TupK (h : Heap) (sh : Nat → Bool) (v : Value) (ks : List Key) : Prop := ∃ t its, v = .ref t ∧ IsTup h t its ∧ ks ≠ [] ∧ Vals (ks.map kV) its.toList ∧ Shp sh 0 ks
theorem TupK.keeps {h h' : Heap} {sh : Nat → Bool} {v : Value} {ks : List Key} (k : ∀ b o, h.get? b = some o → o.cls = .type "tuple" → h'.get? b = some o) (x : TupK h sh v ks) : TupK h' sh v ks := by
  obtain ⟨t, its, e, ⟨o, ho, hc, n, hd⟩, r⟩ := x
  exact ⟨t, its, e, ⟨o, k t o ho hc, hc, n, hd⟩, r⟩
theorem TupK.key {h : Heap} {sh : Nat → Bool} {v : Value} {ks : List Key} (x : TupK h sh v ks) : tupKey h sh v = some (ks.map kItem) := by
  obtain ⟨t, its, rfl, ⟨o, ho, hc, n, hd⟩, hne, r, hs⟩ := x
  unfold tupKey
  simp only [ho, hd]
  exact tupItems_of r hs
theorem tupsOf_of {h : Heap} {sh : Nat → Bool} : ∀ {vs : List Value}, (∀ v ∈ vs, ∃ ks, TupK h sh v ks) → ∃ fs, fs.length = vs.length ∧ TupsOf h sh vs fs
  | [], _ => ⟨[], rfl, .nil⟩
  | v :: vs, hv => by
    obtain ⟨fs, h1, h2⟩ := tupsOf_of (vs := vs) fun u hu => hv u (List.mem_cons_of_mem _ hu)
    obtain ⟨ks, t, its, rfl, ⟨o, ho, hc, n, hd⟩, hne, r, hs⟩ := hv v List.mem_cons_self
    cases ks with
    | nil => exact absurd rfl hne
    | cons k ks =>
      obtain ⟨f, us, he, rf⟩ : ∃ f us, its.toList = f :: us ∧ RelV (kV k) f := by
        cases q : its.toList with
        | nil => rw [q] at r; cases r
        | cons f us => rw [q] at r; cases r with | cons r t => exact ⟨f, us, rfl, r⟩
      refine ⟨f :: fs, by simp [h1], .cons ⟨t, o, its, n, rfl, ho, hc, hd, ?_, ?_, ?_⟩ h2⟩
      · have := congrArg (fun l : List Value => l[0]?) he
        simpa using this
      · intro h0
        cases k with
        | inl n => obtain ⟨t', rfl⟩ := rf; exact ⟨n, t', rfl⟩
        | inr x => have := hs.1; rw [h0] at this; cases this
      · intro h0
        cases k with
        | inl n => have := hs.1; rw [h0] at this; cases this
        | inr x => obtain ⟨t', rfl⟩ := rf; exact ⟨x, t', rfl⟩
section
variable {prog : Program} {w : World} {A : Around} {E : Value → Shared → Prop} {s : Shared}
def ltV (h : Heap) (sh : Nat → Bool) (v u : Value) : Bool := lexLt itemOrd ((tupKey h sh v).getD []) ((tupKey h sh u).getD [])
theorem swo_ltV (h : Heap) (sh : Nat → Bool) : SrtO.Swo (ltV h sh) := by
  refine ⟨fun x y q => ?_, fun x y z h1 h2 => ?_⟩
  · cases e : ltV h sh y x with
    | false => rfl
    | true =>
      have := lex_trans (O := itemOrd) _ _ _ (show lexLt itemOrd _ _ = true from q) (show lexLt itemOrd _ _ = true from e)
      rw [lex_irrefl] at this; cases this
  · cases e : ltV h sh z x with
    | false => rfl
    | true =>
      rcases lex_negTrans (O := itemOrd) _ ((tupKey h sh y).getD []) _ (show lexLt itemOrd _ _ = true from e) with q | q
      · rw [show lexLt itemOrd ((tupKey h sh z).getD []) ((tupKey h sh y).getD []) = ltV h sh z y from rfl, h2] at q; cases q
      · rw [show lexLt itemOrd ((tupKey h sh y).getD []) ((tupKey h sh x).getD []) = ltV h sh y x from rfl, h1] at q; cases q
theorem tups_sortableO {a : Addr} {vs : List Value} {sh : Nat → Bool} {h0 : Heap} (hl : 0 < vs.length) (hp : ∀ v ∈ vs, ∃ ks, TupK h0 sh v ks) (kk : ∀ b o, h0.get? b = some o → b ≠ a ∧ s.heap.get? b = some o) :
    SrtO.SortableO prog w A s a vs (ltV h0 sh) := by
  intro h' keep
  have kp : ∀ b o, h0.get? b = some o → o.cls = .type "tuple" → h'.get? b = some o := fun b o e _ => keep b o (kk b o e).1 (kk b o e).2
  obtain ⟨fs, h1, h2⟩ := tupsOf_of (h := h') (sh := sh) fun v hv => (hp v hv).imp fun ks x => x.keeps kp
  refine ⟨tuples' true, fun Q E hq => tup_kind (s := { s with heap := h' }) (by omega) h2 hq, fun p q hm hm' => ?_⟩
  obtain ⟨ks, x⟩ := hp _ hm
  obtain ⟨js, y⟩ := hp _ hm'
  refine tup_ltAt (s := { s with heap := h' }) (shape := sh) true A _ p.1 q.1 _ _ (x.keeps kp).key (y.keeps kp).key ⟨rfl, ?_⟩
  show lexLt itemOrd _ _ = lexLt itemOrd ((tupKey h0 sh p.1).getD []) ((tupKey h0 sh q.1).getD [])
  rw [x.key, y.key]; rfl
end
/-- sorted(xs), xs a list of tuples of ints and texts of one shape, any number of them -/
def rSortedA (K : PySem.W.Frag) : List V → Hp → VK → Prop := fun vs H Q => ∃ (a : Addr) (xs : List V) (sh : Nat → Bool), vs = [V.ref a] ∧ SqL K H a xs ∧
  (∀ x ∈ xs, ∃ t ks, x = V.ref t ∧ SqT K H t (ks.map kV) ∧ ks ≠ [] ∧ Shp sh 0 ks) ∧
  ∀ ys p, ys.Pairwise (fun x y => ∀ t u ks js, x = V.ref t → y = V.ref u → SqT K H t (ks.map kV) → SqT K H u (js.map kV) → Shp sh 0 ks → Shp sh 0 js → ks ≠ [] → js ≠ [] → ltI js ks = false) → ys.Perm xs → H p = none → Q (.ref p) (upd H p (.lst ys))
theorem cr_sortedA {X : Cx} : CallR X (.builtin "sorted") (rSortedA X.K) := by
  intro pins s σ H vs us Q I r h
  obtain ⟨a, xs, sh, rfl, hs, hx, q⟩ := h
  obtain ⟨its, rv, hl, hz⟩ := I.list hs
  obtain ⟨u, rfl, ru⟩ := vals1 r
  obtain rfl : u = Value.ref a := ru
  obtain ⟨e1, e2⟩ := refs_back rv fun x m => by
    obtain ⟨t, ks, e, _⟩ := hx x m
    exact ⟨t, e⟩
  have hp : ∀ v ∈ its, ∃ ks, TupK s.heap sh v ks := fun v hv => by
    obtain ⟨t, rfl⟩ := e2 v hv
    have hm : V.ref t ∈ xs := by rw [e1]; exact List.mem_map.mpr ⟨_, hv, rfl⟩
    obtain ⟨t', ks, e, ht, hne, hsh⟩ := hx _ hm
    cases e
    obtain ⟨its2, r2, it, _⟩ := I.tuple ht
    exact ⟨ks, t, its2.toArray, rfl, it, hne, by simpa using r2, hsh⟩
  refine SrtO.sorted_ord (swo_ltV s.heap sh) hl.isList (by rw [← rv.length]; exact hz) (fun h2 h₁ a' ha' kk => tups_sortableO (s := { s with heap := h₁ }) (by omega) hp kk) fun out h1 h2 => ?_
  have h3 : ∀ u ∈ out, ∃ a, u = Value.ref a := fun u hu => e2 u (h2.perm.mem_iff.mp hu)
  obtain ⟨ep, he'⟩ := PyProof.Rows.sortedAll_at s.heap its out.toArray
  have hperm : (out.map backV).Perm xs := by
    rw [e1]; exact h2.perm.map backV
  have hlen : (out.map backV).length ≤ sizeLine := by
    rw [hperm.length_eq]; exact hz
  refine ⟨.ref _, upd H (s.heap.objs.size + 1) (.lst (out.map backV)), I.laid (t' := s.toks) (fun _ _ => PyProof.Rows.sortedAll_old) (Nat.le_succ _) ⟨hlen, out, ep, vals_back h3, he'⟩, rfl, q _ _ ?_ hperm (I.hok.fresh (Nat.le_succ _))⟩
  rw [List.pairwise_map]
  refine List.Pairwise.imp_of_mem (fun {x y} hxm hym hlt => ?_) h1
  intro t u ks js ex ey ht hu hks hjs hk hj
  obtain ⟨t', rfl⟩ := h3 x hxm
  obtain ⟨u', rfl⟩ := h3 y hym
  cases ex
  cases ey
  obtain ⟨i1, r1, it1, _⟩ := I.tuple ht
  obtain ⟨i2, r2, it2, _⟩ := I.tuple hu
  have k1 : TupK s.heap sh (.ref t) ks := ⟨t, i1.toArray, rfl, it1, hk, by simpa using r1, hks⟩
  have k2 : TupK s.heap sh (.ref u) js := ⟨u, i2.toArray, rfl, it2, hj, by simpa using r2, hjs⟩
  have hlt : ltV s.heap sh (.ref u) (.ref t) = false := hlt
  unfold ltV at hlt
  rw [k1.key, k2.key] at hlt
  exact hlt
/-! ### by value -/
theorem kItem_inj {a b : Key} (h : kItem a = kItem b) : a = b := by
  cases a with
  | inl i => cases b with
    | inl j => simpa [kItem] using h
    | inr y => simp [kItem] at h
  | inr x => cases b with
    | inl j => simp [kItem] at h
    | inr y =>
      simp only [kItem, Sum.inr.injEq] at h
      congr 1
      exact congrArg Str.mk (by simpa using h)
theorem map_kItem_inj : ∀ {a b : List Key}, a.map kItem = b.map kItem → a = b
  | [], [], _ => rfl
  | [], _ :: _, h => by simp at h
  | _ :: _, [], h => by simp at h
  | x :: a, y :: b, h => by
    simp only [List.map_cons, List.cons.injEq] at h
    rw [kItem_inj h.1, map_kItem_inj h.2]
theorem ltK_eq (x y : Key) : itemLt (kItem x) (kItem y) = ltK x y := by cases x <;> cases y <;> rfl
theorem ltI_eq : ∀ a b : List Key, ltI a b = ltKs a b
  | [], [] => rfl
  | [], _ :: _ => rfl
  | _ :: _, [] => rfl
  | x :: r, y :: t => by
    have ih := ltI_eq r t
    show (itemLt (kItem x) (kItem y) || (!itemLt (kItem y) (kItem x) && ltI r t)) = (ltK x y || (!ltK y x && ltKs r t))
    rw [ltK_eq, ltK_eq, ih]
theorem leKs_trans (a b c : List Key) (h1 : leKs a b = true) (h2 : leKs b c = true) : leKs a c = true := by
  simp only [leKs, Bool.not_eq_true', ← ltI_eq] at *
  cases e : ltI c a with
  | false => rfl
  | true =>
    rcases lex_negTrans (O := itemOrd) (c.map kItem) (b.map kItem) (a.map kItem) e with q | q
    · rw [show lexLt itemOrd (c.map kItem) (b.map kItem) = ltI c b from rfl, h2] at q; cases q
    · rw [show lexLt itemOrd (b.map kItem) (a.map kItem) = ltI b a from rfl, h1] at q; cases q
theorem leKs_total (a b : List Key) : (leKs a b || leKs b a) = true := by
  simp only [leKs, ← ltI_eq]
  cases e : ltI b a with
  | false => rfl
  | true =>
    cases e2 : ltI a b with
    | false => rfl
    | true =>
      have := lex_trans (O := itemOrd) _ _ _ (show lexLt itemOrd (b.map kItem) (a.map kItem) = true from e) (show lexLt itemOrd (a.map kItem) (b.map kItem) = true from e2)
      rw [lex_irrefl] at this; cases this
theorem leKs_anti (a b : List Key) (h1 : leKs a b = true) (h2 : leKs b a = true) : a = b := by
  simp only [leKs, Bool.not_eq_true', ← ltI_eq] at h1 h2
  exact map_kItem_inj (lex_total (O := itemOrd) _ _ h2 h1)
theorem sortKs_uniq {is js : List (List Key)} (hp : js.Perm is) (hs : js.Pairwise fun a b => leKs a b = true) : js = is.mergeSort leKs := by
  have p2 : (is.mergeSort leKs).Pairwise (fun a b => leKs a b = true) := List.pairwise_mergeSort leKs_trans leKs_total is
  exact List.Perm.eq_of_pairwise (le := fun a b => leKs a b = true) (fun a b _ _ h1 h2 => leKs_anti a b h1 h2) hs p2 (hp.trans (List.mergeSort_perm _ _).symm)
theorem leStr_trans (a b c : Str) (h1 : leStr a b = true) (h2 : leStr b c = true) : leStr a c = true := by
  simp only [leStr, Bool.not_eq_true', decide_eq_false_iff_not] at *
  intro h
  have := strKind.negTrans c.cps.toList b.cps.toList a.cps.toList (decide_eq_true h)
  simp only [decide_eq_true_eq] at this
  rcases this with h | h
  · exact h2 h
  · exact h1 h
theorem leStr_total (a b : Str) : (leStr a b || leStr b a) = true := by
  have := leKs_total [.inr a] [.inr b]
  simpa [leKs, ltKs, ltK, leStr] using this
theorem leStr_anti (a b : Str) (h1 : leStr a b = true) (h2 : leStr b a = true) : a = b := by
  have := leKs_anti [.inr a] [.inr b] (by simpa [leKs, ltKs, ltK, leStr] using h1) (by simpa [leKs, ltKs, ltK, leStr] using h2)
  simpa using this
theorem ltCps_eq : ∀ a b : List Nat, ltCps a b = decide (a < b) := by
  exact PyProof.Rows.ltCps_eq
theorem rising_pw : ∀ (xs : List Str) (p : Str), risingS p xs = true → (p :: xs).Pairwise fun a b => leStr a b = true
  | [], p, _ => List.pairwise_singleton _ _
  | x :: r, p, h => by
    simp only [risingS, Bool.and_eq_true] at h
    have ih := rising_pw r x h.2
    have h1 : leStr p x = true := by
      have := h.1
      rw [ltCps_eq] at this
      exact this
    refine List.pairwise_cons.mpr ⟨fun y hy => ?_, ih⟩
    rcases List.mem_cons.mp hy with rfl | hy
    · exact h1
    · exact leStr_trans _ _ _ h1 ((List.pairwise_cons.mp ih).1 y hy)
theorem sortS_uniq {is js : List Str} (hp : js.Perm is) (hs : sortedS js = true) : js = is.mergeSort leStr := by
  have p1 : js.Pairwise fun a b => leStr a b = true := by
    cases js with
    | nil => exact List.Pairwise.nil
    | cons x r => exact rising_pw r x hs
  have p2 : (is.mergeSort leStr).Pairwise (fun a b => leStr a b = true) := List.pairwise_mergeSort leStr_trans leStr_total is
  exact List.Perm.eq_of_pairwise (le := fun a b => leStr a b = true) (fun a b _ _ h1 h2 => leStr_anti a b h1 h2) p1 p2 (hp.trans (List.mergeSort_perm _ _).symm)
theorem shp_of {l : List Bool} : ∀ {t : List Key} {i : Nat}, t.map isS = l.drop i → Shp (fun j => l.getD j false) i t
  | [], _, _ => trivial
  | k :: ks, i, h => by
    have hi : i < l.length := by
      have := congrArg List.length h
      simp at this
      omega
    rw [List.drop_eq_getElem_cons hi, List.map_cons, List.cons.injEq] at h
    exact ⟨by rw [h.1]; simp [hi], shp_of h.2⟩
theorem ktups_map : ∀ {ds : List D} {ts : List (List Key)}, ktups ds = some ts → ds = ts.map fun t => D.tup (t.map kD)
  | [], ts, h => by cases h; rfl
  | d :: ds, ts, h => by
    cases d <;> simp only [ktups, reduceCtorEq] at h
    obtain ⟨ks, h1, h2⟩ := Option.bind_eq_some_iff.mp h
    obtain ⟨us, h3, rfl⟩ := Option.map_eq_some_iff.mp h2
    have kd : ∀ {ds : List D} {ks : List Key}, keysOf ds = some ks → ds = ks.map kD := by
      intro ds
      induction ds with
      | nil => intro ks h; cases h; rfl
      | cons d ds ih =>
        intro ks h
        obtain ⟨k, h1, h2⟩ := Option.bind_eq_some_iff.mp h
        obtain ⟨us, h3, rfl⟩ := Option.map_eq_some_iff.mp h2
        rw [List.map_cons, ← ih h3]
        cases d <;> simp only [kOf, reduceCtorEq] at h1 <;> cases h1 <;> rfl
    rw [List.map_cons, ← ktups_map h3, ← kd h1]
theorem kD_of : ∀ ks : List Key, keysOf (ks.map kD) = some ks
  | [] => rfl
  | k :: ks => by
    have ih := kD_of ks
    cases k <;> simp [keysOf, kD, kOf, ih]
theorem vals_kD {c : Cl} {B : Hp} : ∀ {vs : List V} {ks : List Key}, Reps c B vs (ks.map kD) → vs = ks.map kV
  | [], [], _ => rfl
  | _ :: _, [], r => by cases r
  | [], _ :: _, r => by cases r
  | v :: vs, k :: ks, r => by
    cases r with
    | cons h r =>
      rw [vals_kD r]
      cases k with
      | inl i => rw [rep_int h]; rfl
      | inr x => rw [(rep_str h).1]; rfl
theorem reps_perm {c : Cl} {B : Hp} {xs ys : List V} (p : ys.Perm xs) : ∀ {ds : List D}, Reps c B xs ds → ∃ es, es.Perm ds ∧ Reps c B ys es := by
  induction p with
  | nil => intro ds r; exact ⟨ds, List.Perm.refl _, r⟩
  | cons x p ih =>
    intro ds r
    cases r with
    | cons h r =>
      obtain ⟨es, h1, h2⟩ := ih r
      exact ⟨_ :: es, h1.cons _, .cons h h2⟩
  | swap x y l =>
    intro ds r
    cases r with
    | cons h r =>
      cases r with
      | cons h' r => exact ⟨_ :: _ :: _, List.Perm.swap _ _ _, .cons h' (.cons h r)⟩
  | trans p q ih1 ih2 =>
    intro ds r
    obtain ⟨es, h1, h2⟩ := ih2 r
    obtain ⟨fs, h3, h4⟩ := ih1 h2
    exact ⟨fs, h3.trans h1, h4⟩
def unT : D → List Key
  | .tup xs => (keysOf xs).getD []
  | _ => []
theorem perm_tups {es : List D} {ts : List (List Key)} (h : es.Perm (ts.map fun t => D.tup (t.map kD))) : ∃ us : List (List Key), us.Perm ts ∧ es = us.map fun t => D.tup (t.map kD) := by
  refine ⟨es.map unT, ?_, ?_⟩
  · have := h.map unT
    rw [List.map_map] at this
    rw [show (unT ∘ fun t => D.tup (t.map kD)) = id from funext fun t => by simp [unT, kD_of]] at this
    simpa using this
  · rw [List.map_map]
    have : ∀ e ∈ es, ((fun t => D.tup (t.map kD)) ∘ unT) e = e := fun e he => by
      obtain ⟨t, -, rfl⟩ := List.mem_map.mp (h.mem_iff.mp he)
      simp [unT, kD_of]
    conv => lhs; rw [← List.map_id es]
    exact (List.map_congr_left this).symm
/-- the machine's sort of tuples, told by value -/
theorem sorted_tuples {c : Cl} {B H : Hp} {xs : List V} {ts : List (List Key)} (sm : Same B H) (r : Reps c B xs (ts.map fun t => D.tup (t.map kD))) (hs : shOk ts = true) :
    ∃ sh : Nat → Bool, (∀ x ∈ xs, ∃ t ks, x = V.ref t ∧ SqT c.K H t (ks.map kV) ∧ ks ≠ [] ∧ Shp sh 0 ks) ∧
      ∀ ys, ys.Pairwise (fun x y => ∀ t u ks js, x = V.ref t → y = V.ref u → SqT c.K H t (ks.map kV) → SqT c.K H u (js.map kV) → Shp sh 0 ks → Shp sh 0 js → ks ≠ [] → js ≠ [] → ltI js ks = false) → ys.Perm xs → Reps c B ys ((ts.mergeSort leKs).map fun t => D.tup (t.map kD)) := by
  have ok : ∀ t ∈ ts, t ≠ [] ∧ Shp (fun j => ((ts.headD []).map isS).getD j false) 0 t := fun t ht => by
    have := List.all_eq_true.mp hs t ht
    simp only [Bool.and_eq_true, Bool.not_eq_true', beq_iff_eq] at this
    exact ⟨by intro e; rw [e] at this; simp at this, shp_of (by rw [this.2]; rfl)⟩
  have rep : ∀ {x : V} {t : List Key}, Rep c B x (.tup (t.map kD)) → ∃ a, x = V.ref a ∧ SqT c.K H a (t.map kV) := fun h => by
    cases h with
    | tup h hi r =>
      rw [vals_kD r] at h
      exact ⟨_, rfl, seq_mono sm h⟩
  refine ⟨fun j => ((ts.headD []).map isS).getD j false, fun x hx => ?_, fun ys hp hq => ?_⟩
  · obtain ⟨i, hi, rfl⟩ := List.getElem_of_mem hx
    have hl := r.length
    rw [List.length_map] at hl
    obtain ⟨v, h1, h2⟩ := r.get (i := i) (d := D.tup (ts[i].map kD)) (by simp [← hl, hi])
    have : v = xs[i] := by simpa [hi] using h1.symm
    subst this
    obtain ⟨a, e, h3⟩ := rep h2
    obtain ⟨o1, o2⟩ := ok ts[i] (List.getElem_mem _)
    exact ⟨a, ts[i], e, h3, o1, o2⟩
  · obtain ⟨es, h1, h2⟩ := reps_perm hq r
    obtain ⟨us, h3, rfl⟩ := perm_tups h1
    have : us = ts.mergeSort leKs := by
      refine sortKs_uniq h3 ?_
      rw [List.pairwise_iff_getElem] at hp ⊢
      intro i j hi hj hij
      have hl := h2.length
      rw [List.length_map] at hl
      have p := hp i j (by omega) (by omega) hij
      obtain ⟨v, q1, q2⟩ := h2.get (i := i) (d := D.tup (us[i].map kD)) (by simp [hi])
      obtain ⟨w, q3, q4⟩ := h2.get (i := j) (d := D.tup (us[j].map kD)) (by simp [hj])
      obtain ⟨a, e1, s1⟩ := rep q2
      obtain ⟨b, e2, s2⟩ := rep q4
      have w1 : ys[i]'(by omega) = V.ref a := by rw [← e1]; exact (List.getElem?_eq_some_iff.mp q1).2
      have w2 : ys[j]'(by omega) = V.ref b := by rw [← e2]; exact (List.getElem?_eq_some_iff.mp q3).2
      obtain ⟨o1, o2⟩ := ok us[i] (h3.mem_iff.mp (List.getElem_mem _))
      obtain ⟨o3, o4⟩ := ok us[j] (h3.mem_iff.mp (List.getElem_mem _))
      have := p a b us[i] us[j] w1 w2 s1 s2 o2 o4 o1 o3
      simp only [leKs, Bool.not_eq_true', ← ltI_eq]
      exact this
    rw [← this]
    exact h2
theorem strsK_of {c : Cl} {B : Hp} : ∀ {vs : List V} {ds : List D} {is : List Str}, Reps c B vs ds → strsOf ds = some is → vs = is.map V.str ∧ ∀ x ∈ is, strOk x = true
  | [], [], _, _, e => by cases e; exact ⟨rfl, by simp⟩
  | [], _ :: _, _, h, _ => by cases h
  | _ :: _, [], _, h, _ => by cases h
  | v :: vs, d :: ds, is, .cons h r, e => by
    cases d <;> simp only [strsOf, reduceCtorEq] at e
    obtain ⟨js, e1, rfl⟩ := Option.map_eq_some_iff.mp e
    obtain ⟨h1, h2⟩ := strsK_of r e1
    obtain ⟨rfl, h3⟩ := rep_str h
    exact ⟨by rw [h1]; rfl, by simpa using ⟨h3, h2⟩⟩
theorem reps_strs {c : Cl} {B : Hp} : ∀ is : List Str, (∀ x ∈ is, strOk x = true) → Reps c B (is.map V.str) (is.map D.str)
  | [], _ => .nil
  | i :: is, h => .cons (.str (h i (by simp))) (reps_strs is fun x hx => h x (List.mem_cons_of_mem _ hx))
theorem kstrs {kvs : List (Key × V)} {is : List Str} : strsOf (kvs.map fun p => kD p.1) = some is → kvs.map (·.1) = is.map Sum.inr := by
  induction kvs generalizing is with
  | nil => intro e; cases e; rfl
  | cons p kvs ih =>
    intro e
    obtain ⟨k, v⟩ := p
    cases k with
    | inr i =>
      obtain ⟨js, e1, rfl⟩ := Option.map_eq_some_iff.mp (show (strsOf (kvs.map fun p => kD p.1)).map (i :: ·) = some is from e)
      rw [List.map_cons, List.map_cons, ih e1]
    | inl z => cases e
end Cy

set_option Elab.async false
set_option linter.all false
set_option maxRecDepth 100000
set_option maxHeartbeats 4000000
/-! CyMore4: several names at once, sorted, min, lists turned round. -/
namespace Cy
open PySem L2
open PySem.PyData (strOk)
section
variable {L : Lk} {y : Sy} {N : List Str} {lv : Nat} {sc : Scope} {X : Cx} {EW : XK} {x l r : Expr} {xs ts : List Expr} {a b : E} {es : EL} {gs : GL} {pos : Pos} {fb : Str → Bool}
def nameAt (sc : Scope) (line : Nat) : Expr → Option Str
  | .Name n p => if sc.names.lookup n == some .local && p.line == line then some n else none
  | _ => none
/-- a tuple's items that the model stores one by one behind the tuple's making -/
def swB (sc : Scope) (ts vs : List Expr) : Bool :=
  !(ts.length == 2 || ts.length == 3) || vs.length != ts.length || (ts.filterMap (nameAt sc ((ts.head?.map (·.pos.line)).getD 0))).length != ts.length || vs.all (foldedForSure 8)
theorem sst_sw {env : PySem.Env} {k k' : Nat} {p p' : Pos} {vs : List Expr} (hs : env.scope = sc) (h : swB sc ts vs = true) : swappedStores [.Tuple ts k p] (.Tuple vs k' p') env = pure none := by
  unfold swappedStores
  dsimp only
  subst hs
  split
  · rfl
  · rename_i h1
    split
    · rfl
    · generalize hq : List.filterMap _ ts = q
      have e : ts.filterMap (nameAt env.scope ((ts.head?.map (·.pos.line)).getD 0)) = q := hq
      split
      · rfl
      · rename_i h2
        unfold swB at h
        rw [e] at h
        simp only [Bool.or_eq_true] at h
        have h3 : vs.all (foldedForSure 8) = true := by
          rcases h with ((h | h) | h) | h
          · exact absurd (by rw [h]; simp) h1
          · exact absurd (by rw [h]; simp) h1
          · exact absurd (by rw [h]; simp) h2
          · exact h
        rw [if_pos h3]
theorem asgGL_len : ∀ {gs : GL} {es : List Expr} {ws : List W} {env env' : Env}, gsB N sc fb gs es = true → asgGL gs ws env = some env' → ws.length = es.length
  | .nil, es, ws, env, env', h1, h2 => by
    cases es <;> simp only [gsB, Bool.false_eq_true] at h1
    cases ws <;> simp only [asgGL, reduceCtorEq] at h2
    rfl
  | .cons g gs, es, ws, env, env', h1, h2 => by
    cases es with
    | nil => simp only [gsB, Bool.false_eq_true] at h1
    | cons e es =>
      simp only [gsB, Bool.and_eq_true] at h1
      cases ws with
      | nil => simp only [asgGL, reduceCtorEq] at h2
      | cons w ws =>
        simp only [asgGL] at h2
        obtain ⟨e1, q1, q2⟩ := Option.bind_eq_some_iff.mp h2
        simp [asgGL_len h1.2 q2]
theorem st_parG {k k' : Nat} {p p' : Pos} (o : XOk L y N lv sc X EW) (fo : ∀ x, fb x = true → X.fn x = true) (hg : gsB N sc fb gs ts = true) (hl : ts.length ≤ 100) (h : PA X xs (tL y EW es)) (hw : swB sc ts xs = true) :
    PS X (.Assign [.Tuple ts k p] (.Tuple xs k' p') pos) (tS y EW (.parG gs es)) := by
  have he := gs_each X.env hg
  refine (ps_asg (pe_tup h) (pg_tup (n := ts.length) o.calm (s_gs o fo gs hg) (by rw [he]; simp) (by rw [he]; exact find_none _)) (sws_no rfl) (sst_sw o.sc hw) rfl).imp fun D σ H ⟨env, m, ta, s, r⟩ => ?_
  have r : RunS y.c y.fe EW D (view H ta m) ta (RS.of (evL y.F es env m) fun ws m => onS (asgGL gs ws env) fun env' => .nx env' m) := r
  refine ⟨env, m, ta, s, (RunS.of r).mono fun ws m1 H1 ta1 p1 r1 vs hvs => ?_⟩
  obtain ⟨env', e1, r2⟩ := onS_run r1
  have hlen := asgGL_len hg e1
  refine ⟨by rw [hvs.length, hlen, sizeLine_eq]; omega, fun q hq => ?_⟩
  obtain ⟨p2, q2⟩ := post_new (o := .tup vs) p1.toks hq
  refine ⟨q, vs, rfl, .inl (.inl upd_same), by rw [hvs.length, hlen], ws, env, m1, ta1, env', (s.step p1).step p2, hvs.mono p2.ext (List.prefix_refl _), e1, fun σ' s' _ => RunS.nx s' (r2.step p2)⟩
theorem s_revL {k : Nat} {p1 p2 p3 : Pos} (o : XOk L y N lv sc X EW) (h : PE X x (tE y EW a)) : PE X (.Subscript x (.Slice none none (some (.UnaryOp .USub (.Constant (.int 1) k p1) p2)) p3) pos) (tE y EW (.rev a)) := by
  refine (pe_revL h).imp fun σ H Q ⟨env, m, ta, s, r⟩ => ⟨env, m, ta, s, ?_⟩
  simp only [ev] at r
  refine r.bind.mono fun w m1 H1 ta1 p r1 v hv => ?_
  obtain ⟨d, e1, r2⟩ := asD_run r1
  obtain ⟨d', e2, r3⟩ := ofD_run r2
  have sn := snap_of p.toks hv e1
  cases d <;> simp only [revD, reduceCtorEq] at e2
  cases e2
  obtain ⟨a', ys, rfl, h3, r4⟩ := sn.list (view_sub H1 ta1 m1)
  refine ⟨a', ys, rfl, .inl h3, fun q hq => ?_⟩
  obtain ⟨p5, p6⟩ := post_new (o := .lst ys.reverse) p.toks hq
  exact r3.at p5 (.ref q) (.lst (.inl p6) (Reps.reverse (Reps.mono p5.ext r4)))
theorem intsV_of {c : Cl} {B : Hp} : ∀ {vs : List V} {ds : List D} {is : List Int}, Reps c B vs ds → intsOf ds = some is → vs = is.map V.int
  | [], [], _, _, e => by cases e; rfl
  | [], _ :: _, _, h, _ => by cases h
  | _ :: _, [], _, h, _ => by cases h
  | v :: vs, d :: ds, is, .cons h r, e => by
    cases d <;> simp only [intsOf, reduceCtorEq] at e
    obtain ⟨js, e1, rfl⟩ := Option.map_eq_some_iff.mp e
    rw [rep_int h, intsV_of r e1]
    rfl
theorem sort_uniq {is js : List Int} (hp : js.Perm is) (hs : js.Pairwise (· ≤ ·)) : js = is.mergeSort fun a b => decide (a ≤ b) := by
  have p2 : (is.mergeSort fun a b => decide (a ≤ b)).Pairwise (fun a b : Int => a ≤ b) := by
    have := List.pairwise_mergeSort (le := fun a b : Int => decide (a ≤ b)) (fun a b c h1 h2 => by simp only [decide_eq_true_eq] at *; omega) (fun a b => by simp only [Bool.or_eq_true, decide_eq_true_eq]; omega) is
    exact this.imp fun h => of_decide_eq_true h
  exact List.Perm.eq_of_pairwise (le := fun a b : Int => a ≤ b) (fun a b _ _ h1 h2 => Int.le_antisymm h1 h2) hs p2 (hp.trans (List.mergeSort_perm _ _).symm)
theorem reps_ints {c : Cl} {B : Hp} : ∀ is : List Int, Reps c B (is.map V.int) (is.map D.int)
  | [] => .nil
  | i :: is => .cons (.int i) (reps_ints is)
theorem kints {kvs : List (Key × V)} {is : List Int} : intsOf (kvs.map fun p => kD p.1) = some is → kvs.map (·.1) = is.map Sum.inl := by
  induction kvs generalizing is with
  | nil => intro e; cases e; rfl
  | cons p kvs ih =>
    intro e
    obtain ⟨k, v⟩ := p
    cases k with
    | inl i =>
      obtain ⟨js, e1, rfl⟩ := Option.map_eq_some_iff.mp (show (intsOf (kvs.map fun p => kD p.1)).map (i :: ·) = some is from e)
      rw [List.map_cons, List.map_cons, ih e1]
    | inr z => cases e
/-- several rules of one callee -/
theorem cr_or {f : Value} {r1 r2 : List V → Hp → VK → Prop} (h1 : CallR X f r1) (h2 : CallR X f r2) : CallR X f fun xs H Q => r1 xs H Q ∨ r2 xs H Q := by
  intro pins s σ H xs us Q I r h
  rcases h with h | h
  · exact h1 pins s σ H xs us Q I r h
  · exact h2 pins s σ H xs us Q I r h
def bfB2 : BF → Str → Bool
  | .sorted, n => n == "sorted"
  | .min, n => n == "min"
  | _, _ => false
theorem s_bi2 {bf : BF} {tk : Bool} {n : Str} {p : Pos} (o : XOk L y N lv sc X EW) (hb : bfB2 bf n = true) (hg : glB sc n = true) (ha : PA X [x] (tL y EW es)) (h1 : nstar x = true) : PE X (.Call (.Name n p) [x] [] pos) (tE y EW (.bi bf tk es)) := by
  have main : ∀ {r : List V → Hp → VK → Prop}, (∀ (H : Hp) (ta : List Addr) (m : Store) (vs : List V) (ds : List D) (Q : VK), Toks y.c H ta m → Snaps y.c (view H ta m) H vs ds →
      Run y.c y.fe EW (view H ta m) ta (bfR bf tk ds m) (fun w m' H' ta' => ∀ v, Wr y.c (view H' ta' m') ta' v w → Q v H') → r vs H Q) → ∀ σ H Q, tE y EW (.bi bf tk es) σ H Q → tCB r (tL y EW es) σ H Q := fun {r} hr σ H Q ⟨env, m, ta, s, rr⟩ => by
    refine ⟨env, m, ta, s, ?_⟩
    simp only [ev] at rr
    refine rr.bind.mono fun ws m1 H1 ta1 p1 r1 vs hvs => ?_
    obtain ⟨ds, e, r1⟩ := onO_run r1
    exact hr H1 ta1 m1 vs ds Q p1.toks (asDs_of p1.toks hvs e) r1
  cases bf <;> simp only [bfB2, beq_iff_eq, Bool.false_eq_true] at hb <;> subst hb
  · -- min
    refine (pe_callB (cr_min o.calm) (gl_of o hg) (o_bt o (by decide +kernel)) PyProof.Rows.boot_min ha (by decide) (by decide) (star_cons h1) rfl).imp (main fun H ta m vs ds Q t sn r => ?_)
    obtain ⟨d, e, r⟩ := bf_no r (by cases ds <;> rfl)
    rcases ds with _ | ⟨d0, _ | ⟨_, _⟩⟩ <;> simp only [bfD, reduceCtorEq] at e
    cases d0 <;> simp only [bfD, reduceCtorEq] at e
    obtain ⟨v, rfl, sv⟩ := sn.one
    obtain ⟨a, ys, rfl, h3, r3⟩ := sv.list (view_sub H ta m)
    split at e
    · rename_i i is hi
      cases e
      rw [intsV_of r3 hi] at h3
      refine ⟨a, i :: is, rfl, .inl h3, by simp, fun m' hm hle => ?_⟩
      have hf : ∀ (is : List Int) (i : Int), (is.foldl min i) ∈ i :: is ∧ ∀ j ∈ i :: is, is.foldl min i ≤ j := by
        intro is
        induction is with
        | nil => intro i; simp
        | cons k is ih =>
          intro i
          obtain ⟨q1, q2⟩ := ih (min i k)
          refine ⟨?_, fun j hj => ?_⟩
          · rcases List.mem_cons.mp q1 with q | q
            · rw [List.foldl_cons, q]
              rcases Int.le_total i k with z | z
              · rw [Int.min_eq_left z]; simp
              · rw [Int.min_eq_right z]; simp
            · exact List.mem_cons_of_mem _ (List.mem_cons_of_mem _ q)
          · have z := q2 (min i k) (by simp)
            rw [List.foldl_cons]
            rcases List.mem_cons.mp hj with rfl | hj
            · exact Int.le_trans z (Int.min_le_left _ _)
            · rcases List.mem_cons.mp hj with rfl | hj
              · exact Int.le_trans z (Int.min_le_right _ _)
              · exact q2 j (List.mem_cons_of_mem _ hj)
      obtain ⟨q1, q2⟩ := hf is i
      have : m' = is.foldl min i := Int.le_antisymm (hle _ q1) (q2 _ hm)
      rw [this]
      exact r.here t _ (.int _)
    · cases e
  · -- sorted
    refine (pe_callB (cr_or (cr_or cr_sortedI (call_sortedDI o.calm)) (cr_or cr_sortedA (cr_or cr_sortedS (call_sortedD o.calm)))) (gl_of o hg) (o_bt o (by decide +kernel)) PyProof.Rows.boot_sorted ha (by decide) (by decide) (star_cons h1) rfl).imp (main fun H ta m vs ds Q t sn r => ?_)
    rcases ds with _ | ⟨d0, _ | ⟨_, _⟩⟩
    · simp only [bfR, bfL, bfD, ofD] at r; exact r.elim
    · obtain ⟨v, rfl, sv⟩ := sn.one
      cases d0 with
      | lst ds =>
        simp only [bfR, bfL, bfD, ofD] at r
        obtain ⟨a, ys, rfl, h3, r3⟩ := sv.list (view_sub H ta m)
        unfold sortL at r
        cases hi : intsOf ds with
        | some is =>
          rw [hi] at r
          rw [intsV_of r3 hi] at h3
          refine .inl (.inl ⟨a, is, rfl, .inl h3, fun ns' q hp hs hq => ?_⟩)
          rw [sort_uniq hp hs]
          exact (lay_list t (Wrs.of (reps_ints _)) r).2 q hq
        | none =>
          rw [hi] at r
          cases hs : strsOf ds with
          | some is =>
            rw [hs] at r
            obtain ⟨h4, h5⟩ := strsK_of r3 hs
            rw [h4] at h3
            by_cases h64 : is.length < 64
            · simp only [if_pos h64] at r
              refine .inr (.inr (.inl ⟨a, is, rfl, .inl h3, h64, fun ns' q hp hs hq => ?_⟩))
              rw [sortS_uniq hp hs]
              exact (lay_list t (Wrs.of (reps_strs _ fun x hx => h5 x ((List.mergeSort_perm _ _).mem_iff.mp hx))) r).2 q hq
            · simp only [if_neg h64] at r; exact r.elim
          | none =>
            rw [hs] at r
            cases hk : ktups ds with
            | none => rw [hk] at r; exact r.elim
            | some ts =>
              rw [hk] at r
              by_cases hok : shOk ts = true
              · simp only [if_pos hok] at r
                have hd := ktups_map hk
                subst hd
                obtain ⟨sh, g1, g2⟩ := sorted_tuples (view_sub H ta m) r3 hok
                refine .inr (.inl ⟨a, ys, sh, rfl, .inl h3, fun x hx => ?_, fun zs q hp hq hn => ?_⟩)
                · obtain ⟨t', ks, e1, e2, e3⟩ := g1 x hx
                  exact ⟨t', ks, e1, o.lnk.hK ▸ e2, e3⟩
                · refine (lay_list t (Wrs.of (g2 zs (hp.imp fun {x y} hh => ?_) hq)) r).2 q hn
                  intro t' u' ks js e1 e2 s1 s2
                  exact hh t' u' ks js e1 e2 (o.lnk.hK ▸ s1) (o.lnk.hK ▸ s2)
              · simp only [if_neg hok] at r; exact r.elim
      | dict tt ks vs =>
        cases tt with
        | true => simp only [bfR, bfL, bfD, ofD] at r; exact r.elim
        | false =>
          simp only [bfR, bfL, bfD, ofD] at r
          obtain ⟨a, rfl, hd⟩ := sv.dict (view_sub H ta m)
          rcases hd with ⟨_, kvs, h3, rfl, hko, _⟩ | ⟨z, _⟩
          · by_cases h64 : (kvs.map fun p => kD p.1).length < 64
            · rw [if_pos h64] at r
              unfold sortK at r
              cases hi : intsOf (kvs.map fun p => kD p.1) with
              | some is =>
                rw [hi] at r
                have hk := kints hi
                refine .inl (.inr ⟨a, kvs, is, rfl, .inl h3, hk, ?_, fun ns' q hp hs hq => ?_⟩)
                · have := congrArg List.length hk
                  simp at this h64
                  omega
                · rw [sort_uniq hp hs]
                  exact (lay_list t (Wrs.of (reps_ints _)) r).2 q hq
              | none =>
                rw [hi] at r
                cases hs : strsOf (kvs.map fun p => kD p.1) with
                | none => rw [hs] at r; exact r.elim
                | some is =>
                  rw [hs] at r
                  have hk := kstrs hs
                  have hso : ∀ x ∈ is, strOk x = true := fun x hx => by
                    have : (Sum.inr x : Key) ∈ kvs.map (·.1) := by rw [hk]; exact List.mem_map.mpr ⟨x, hx, rfl⟩
                    obtain ⟨p, hp, e⟩ := List.mem_map.mp this
                    have := hko p hp
                    rw [e] at this
                    exact this
                  refine .inr (.inr (.inr ⟨a, kvs, is, rfl, .inl h3, hk, ?_, fun ns' q hp hs hq => ?_⟩))
                  · have := congrArg List.length hk
                    simp at this h64
                    omega
                  · rw [sortS_uniq hp hs]
                    exact (lay_list t (Wrs.of (reps_strs _ fun x hx => hso x ((List.mergeSort_perm _ _).mem_iff.mp hx))) r).2 q hq
            · rw [if_neg h64] at r
              exact r.elim
          · cases z
      | _ => simp only [bfR, bfL, bfD, ofD] at r; exact r.elim
    · simp only [bfR, bfL, bfD, ofD] at r; exact r.elim
end
end Cy

set_option Elab.async false
set_option linter.all false
set_option maxRecDepth 100000
set_option maxHeartbeats 4000000
/-! CyMore5: calls with the one keyword. -/
namespace Cy
open PySem L2
open PySem.PyData (strOk)
section
variable {L : Lk} {y : Sy} {N : List Str} {lv : Nat} {sc : Scope} {X : Cx} {EW : XK} {x l r : Expr} {xs ts : List Expr} {a b e : E} {es : EL} {gs : GL} {pos : Pos} {fb : Str → Bool}
theorem s_callk {f n : Nat} {nm : Str} {p kp : Pos} {kx : Expr} (o : XOk L y N lv sc X EW) (hf : (f, nm, n) ∈ L.kfns) (hg : glB sc nm = true) (hd : (nm == ("__debug__" : Str)) = false) (ha : PA X (x :: xs) (tL y EW es)) (hk : PE X kx (tE y EW e)) (h1 : nstar x = true) (h2 : nstars xs = true) :
    PE X (.Call (.Name nm p) (x :: xs) [⟨some KW, kx, kp⟩] pos) (tE y EW (.callk f es e)) := by
  obtain ⟨ad, fd, ps, ⟨l1, kb, _⟩, e1, e2, F, ar⟩ := o.lnk.kfn f nm n hf
  refine (pe_callN F o.room0 (gl_of o hg) e1 e2 kb o.pass ha (pk_cons hk pk_nil) rfl rfl hd (star_cons h1) ?_).imp fun σ H Q ⟨env, m, ta, s, r⟩ => ⟨env, m, ta, s, ?_⟩
  · rw [show (backToKw pos (keywordEach [⟨some KW, kx, kp⟩] X.env)).any (·.1.isNone) = false from rfl, Bool.or_false]
    exact any_of (es := x :: xs) (by simp [nstars, h1, h2])
  · simp only [ev] at r
    refine r.bind.mono fun ws m1 H1 ta1 p1 r1 vs hvs => ⟨env, m1, ta1, s.step p1, ?_⟩
    refine r1.bind.mono fun w m2 H2 ta2 p2 r2 v hv => ?_
    by_cases hl : (ws ++ [w]).length = ps.length
    · have hvs2 := hvs.mono p2.ext p2.pre
      have hl2 := hvs.length
      have z : Wrs y.c (view H2 ta2 m2) ta2 [v] [w] := ⟨hv, trivial⟩
      refine ⟨?_, rfl, sp_of p2.toks (hvs2.append z) ar r2⟩
      simp at hl; omega
    · rw [ar _ _ hl] at r2
      exact r2.elim
theorem s_callk0 {f n : Nat} {nm : Str} {p : Pos} (o : XOk L y N lv sc X EW) (hf : (f, nm, n) ∈ L.kfns) (hg : glB sc nm = true) (hd : (nm == ("__debug__" : Str)) = false) (ha : PA X (x :: xs) (tL y EW es)) (h1 : nstar x = true) (h2 : nstars xs = true) :
    PE X (.Call (.Name nm p) (x :: xs) [] pos) (tE y EW (.callk f es .no)) := by
  obtain ⟨ad, fd, ps, ⟨l1, _, kb⟩, e1, e2, F, ar⟩ := o.lnk.kfn f nm n hf
  refine (pe_call F o.room0 (gl_of o hg) e1 e2 kb (dvs := [.non]) (.cons rfl .nil) o.pass ha hd (star_cons h1) (any_of h2)).imp fun σ H Q ⟨env, m, ta, s, r⟩ => ⟨env, m, ta, s, ?_⟩
  simp only [ev] at r
  refine r.bind.mono fun ws m1 H1 ta1 p1 r1 vs hvs => ?_
  have z : Wrs y.c (view H1 ta1 m1) ta1 [V.non] [W.v .non] := ⟨.non, trivial⟩
  exact sp_of p1.toks (hvs.append z) ar r1
end
end Cy

set_option Elab.async false
set_option linter.all false
set_option maxRecDepth 100000
set_option maxHeartbeats 4000000
/-! CyLen: a set made of a tuple of texts, any number of them: how many it has. -/
namespace Cy
open PySem PySem.Spec PyProof.Rows
theorem dis_le (xs : List Str) : ∀ i, dis xs i ≤ i
  | 0 => Nat.le_refl _
  | i + 1 => by
    have := dis_le xs i
    unfold dis
    split <;> omega
section
variable {pg : Program} {wd : World} {B : Around} {Z : Result → Shared → Prop} {It : Addr} {pts wrs : List Addr} {Gs : Array GenState → Array GenState → Prop} {cnt : Nat} {Pr : Nat → Value → Prop} {At : Nat → Shared → Prop}
theorem lsLoop (V : WalksS pg wd B.in1 It pts wrs Gs cnt Pr At) (C : Addr) (nC : C ∉ pts) (xs : List Str) (lx : xs.length = cnt) (bd : cnt + 1 < scanBound) (val : ∀ i v, Pr i v → ∃ t, v = .str (xs.getD i Str.empty) t) :
    ∀ (left i : Nat) (z : Shared), cnt - i = left → i ≤ cnt → At i z → z.heap.SetOf (PySem.strKind pg wd) C (fun q => (xs.take i).any (· == q)) (dis xs i) →
      (∀ z', Moved (C :: wrs) Gs z z' → z'.heap.SetOf (PySem.strKind pg wd) C (fun q => (xs.take cnt).any (· == q)) (dis xs cnt) → Z (.ok (.ret .none)) z') →
      codeAny (model pg wd) B (.builtin "set.update.loop" ⟨[.ref C, .ref It], []⟩) Z z := by
  have nW : C ∉ wrs := fun q => nC (V.sub _ q)
  have up : ∀ a ∈ wrs, a ∈ C :: wrs := fun a q => List.mem_cons_of_mem _ q
  have move : ∀ {z z' : Shared} {T : Str → Bool} {m : Nat}, Moved wrs Gs z z' → z.heap.SetOf (PySem.strKind pg wd) C T m → z'.heap.SetOf (PySem.strKind pg wd) C T m := fun mv ⟨o, es, ep, t, ho, more⟩ => ⟨o, es, ep, t, mv.heap C _ nW ho, more⟩
  intro left
  induction left with
  | zero =>
    intro i z e1 e2 here S0 fin
    obtain rfl : i = cnt := by omega
    refine codeAny_builtin PyProof.Rows.F.entry_set_update_loop ?_; rw [Around.under_plainId PyProof.Rows.F.plain_set_update_loop _]
    show wpAny _ B.in1 (pyNext (.ref It) >>= _) _ _ z
    refine wpAny_bind (V.done z _ _ here fun z' mv => ?_)
    show wpAny _ B.in1 (ret Value.none) _ _ z'; exact wpAny_pure (fin z' (mv.mono up) (move mv S0))
  | succ left ih =>
    intro i z e1 e2 here S0 fin
    have lt : i < cnt := by omega
    refine codeAny_builtin PyProof.Rows.F.entry_set_update_loop ?_; rw [Around.under_plainId PyProof.Rows.F.plain_set_update_loop _]
    show wpAny _ B.in1 (pyNext (.ref It) >>= _) _ _ z
    refine wpAny_bind (V.item i z _ _ lt here fun v z' pv here' mv => ?_)
    obtain ⟨t, rfl⟩ := val i v pv
    have S1 := move mv S0
    show wpAny _ B.in1 (holding [Value.str (xs.getD i Str.empty) t] (setAdd C (.str (xs.getD i Str.empty) t)) >>= _) _ _ z'
    refine wpAny_bind (wpAny_holding ?_); unfold setAdd; refine wpAny_holding ?_
    refine wpAny_bind ((PySem.strKind pg wd).pyHash (k := xs.getD i Str.empty) (strKind_is _ _ _ _) ?_)
    have room := dis_le xs i
    refine wpAny_setAddHashed_of (knd := PySem.strKind pg wd) (s := { z' with toks := z'.toks + 1 }) (strKind_is _ _ _ _) rfl S1 (by omega) fun h2 sb S2 => ?_
    have S3 : h2.SetOf (PySem.strKind pg wd) C (fun q => (xs.take (i + 1)).any (· == q)) (dis xs (i + 1)) := by
      have tk : xs.take (i + 1) = xs.take i ++ [xs.getD i Str.empty] := by
        rw [List.take_succ, List.getD_eq_getElem?_getD, List.getElem?_eq_getElem (show i < xs.length by omega)]; rfl
      refine SetOf_congr S2 (fun q => ?_) rfl
      rw [tk, List.any_append]
      show ((xs.take i).any (· == q) || decide (q = xs.getD i Str.empty)) = ((xs.take i).any (· == q) || ((xs.getD i Str.empty == q) || false))
      congr 1
      rw [Bool.or_false]
      by_cases e : q = xs.getD i Str.empty
      · subst e; simp
      · rw [decide_eq_false e, beq_eq_false_iff_ne.mpr fun w => e w.symm]
    refine wpAny_pure ⟨plainId_quiet PyProof.Rows.F.plain_set_update_loop _, ih (i + 1) _ (by omega) lt (V.frame _ z' _ _ here' (Nat.le_succ _) fun b hb o e => ?_) S3 fun z2 m2 S4 => ?_⟩
    · rw [sb.2 b (fun q : b = C => nC (by rw [← q]; exact hb))]; exact e
    · refine fin z2 (Moved.trans V.gtrans ((mv.mono up).then_heap (Nat.le_succ _) fun b o hb e => ?_) m2) S4
      rw [sb.2 b (fun q : b = C => hb (by rw [q]; exact List.mem_cons_self))]; exact e
end
section
variable {pg : Program} {wd : World} {B : Around} {Er : Value → Shared → Prop} {z : Shared}
abbrev set0 (led : Bool) : Obj := { cls := .type "set", dict := none, data := .set #[] 0 (.fresh 0 0 led) }
set_option maxHeartbeats 3200000 in
/-- set(t), t a tuple of texts -/
theorem setTexts {t : Addr} {us : Array Value} {xs : List Str} {Qz : Value → Shared → Prop} (nh : B.handled = none) (tt : z.heap.IsTuple t us) (ss : PyProof.Rows.StrsAre us.toList xs) (bd : xs.length + 1 < scanBound)
    (k : ∀ (g : Heap) (tk : Nat), g.SetOf (PySem.strKind pg wd) z.heap.objs.size (fun q => xs.any (· == q)) (dis xs xs.length) → (∀ b o, b < z.heap.objs.size → z.heap.get? b = some o → g.get? b = some o) → Qz (.ref z.heap.objs.size) { z with heap := g, toks := tk }) :
    wpAny (model pg wd) B (call (.type "set") [.ref t]) Qz Er z := by
  have f1 := PySem.F.called_set.made; have f2 := PySem.F.called_set.sub; have f3 := PySem.F.called_set.notType
  have f4 := PySem.F.called_set.canCreate; have f5 := PySem.F.typeCall_set_1 (.ref t)
  obtain ⟨c0, c1, f6⟩ := PySem.F.called_set.mro
  refine wpAny_call (codeAny_of_tree ?_)
  show wpAny _ _ (callAny (.type "set") _) _ _ _
  refine wpAny_pure ⟨Code.quiet_builtin _ (by decide +kernel), codeAny_builtin PySem.F.entry_type_call ?_⟩
  rw [Around.under_plain (weight_type_call_type "set" [.ref t] []) rfl]
  repeat (any_goals (first | assumption | wp_step))
  refine codeAny_mono (code_set_new_1 (.ref t) (E := Er) (Q₁ := fun v z1 => ∃ led : Bool, v = .ref z.heap.objs.size ∧ z1 = { z with heap := z.heap.push (set0 led) }) fun led => ⟨led, rfl, rfl⟩) fun r z1 hr => ?_
  cases r with
  | error e => exact hr
  | ok fl => cases fl with
    | next => exact hr.elim
    | brk => exact hr.elim
    | cont => exact hr.elim
    | ret ob =>
      obtain ⟨led, rfl, rfl⟩ := hr
      have at0 : (z.heap.push (set0 led)).get? z.heap.objs.size = some (set0 led) := Heap.get?_push_size _ rfl
      have ty0 : Shared.TypeIs { z with heap := z.heap.push (set0 led) } (.ref z.heap.objs.size) "set" := ⟨_, at0, rfl⟩
      have g1 := PySem.F.called_set.init.lookup; have g2 := PySem.F.called_set.init.bind (.ref z.heap.objs.size)
      repeat (any_goals (first | assumption | wp_step))
      refine codeAny_mono (codeAny_call_builtin (R := wants (fun r z2 => r = .none ∧ ∃ g tk, z2 = { z with heap := g, toks := tk } ∧ g.SetOf (PySem.strKind pg wd) z.heap.objs.size (fun q => (xs.take us.size).any (· == q)) (dis xs us.size) ∧
          (∀ b o, b < z.heap.objs.size → z.heap.get? b = some o → g.get? b = some o)) Er) PySem.F.called_set.init.plain PySem.F.entry_set_init (check_set_init_1 ty0 ?_)) fun r2 z2 hr2 => ?_
      · obtain ⟨⟨oc, od, oz, os⟩, ho, hc, nn, hd⟩ := tt
        simp only at hc hd; subst hc hd
        have len : xs.length = us.size := by rw [← StrsAre.len_eq ss, Array.length_toList]
        have e1 := PySem.F.sub_tuple_set; have e2 := PySem.F.sub_tuple_frozenset; have e3 : (Value.type "tuple" == Value.type "dict") = false := by decide
        have tA : (z.heap.push (set0 led)).get? t = some { cls := .type "tuple", dict := od, data := .seq us nn, slots := os } := Heap.get?_push_of_some _ ho
        have tB : (z.heap.push (set0 led)).IsTuple t us := ⟨_, tA, rfl, nn, rfl⟩
        unfold Builtin.«set.__init__» noKeywords Builtin.Frozenset.updateFrom
        generalize hp : pyIter = PI
        wp_walk
        subst hp
        refine wpAny_pyIter_tuple tB (wpAny_bind (wpAny_runValue ?_))
        have lt0 : t < z.heap.objs.size := Heap.lt_size ho
        have szp : (z.heap.push (set0 led)).objs.size = z.heap.objs.size + 1 := Heap.size_push ..
        have nI : t ≠ (z.heap.push (set0 led)).objs.size := by rw [szp]; exact Nat.ne_of_lt (Nat.lt_succ_of_lt lt0)
        have nS : z.heap.objs.size ∉ [(z.heap.push (set0 led)).objs.size, t] := by
          rw [szp]; simp only [List.mem_cons, List.not_mem_nil, or_false, not_or]; exact ⟨Nat.ne_of_lt (Nat.lt_succ_self _), Nat.ne_of_gt lt0⟩
        refine lsLoop ((Walks.tuple (show B.in1.in1.in1.handled = none by simp [nh]) _ t nI us).toS) z.heap.objs.size nS xs len (by omega) (fun i v hv => SS.strs_at ss i v (by rw [Array.getElem?_toList]; exact hv)) (us.size - 0) 0 _ (by omega) (Nat.zero_le _) ⟨⟨_, Heap.get?_push_size _ rfl, rfl, rfl⟩, (tB.push _)⟩ ?hs ?hf
        case hs =>
          have at1 : ((z.heap.push (set0 led)).push { cls := .type "tuple_iterator", data := .fields #[.ref t, .int 0 0] }).get? z.heap.objs.size = some (set0 led) := Heap.get?_push_of_some _ at0
          exact SetOf_congr ((setObjOf_fresh (knd := PySem.strKind pg wd) led).setOf at1 (by unfold scanBound; omega)) (fun _ => rfl) rfl
        case hf =>
          rintro ⟨g, gg, dd, tk, oo⟩ mv S1
          obtain rfl : gg = z.gens := mv.gens
          obtain rfl : dd = z.drawn := mv.drawn
          obtain rfl : oo = z.os := mv.os
          show wpAny _ _ _ _ _ _
          refine wpAny_pure ?_; show wpAny _ _ (ret Value.none) _ _ _
          refine wpAny_pure ⟨rfl, g, tk, rfl, S1, fun b o hb e => mv.heap b o ?_ (Heap.get?_push_of_some _ (Heap.get?_push_of_some _ e))⟩
          rw [szp]; simp only [List.mem_cons, List.not_mem_nil, or_false, not_or]; exact ⟨Nat.ne_of_lt hb, Nat.ne_of_lt (Nat.lt_succ_of_lt hb)⟩
      · cases r2 with
        | error e => exact hr2
        | ok fl2 => cases fl2 with
          | next => exact hr2.elim
          | brk => exact hr2.elim
          | cont => exact hr2.elim
          | ret r =>
            obtain ⟨rfl, g, tk, rfl, S1, kp⟩ := hr2
            repeat (any_goals (first | assumption | wp_step))
            have len : xs.length = us.size := by rw [← StrsAre.len_eq ss, Array.length_toList]
            rw [← len, List.take_length] at S1
            exact k g tk S1 kp
end
open L2
section
variable {L : Lk} {y : Sy} {N : List Str} {lv : Nat} {sc : Scope} {X : Cx} {EW : XK} {x : Expr} {a : E} {pos : Pos}
def tLenTx (K : PySem.W.Frag) (ta : TE) : TE := fun σ H Q => ta σ H fun v H1 => ∃ (t : Addr) (xs : List Str), v = .ref t ∧ SqT K H1 t (xs.map V.str) ∧ xs.length ≤ 1000 ∧ Q (.int (dis xs xs.length : Nat)) H1
theorem pe_lenTx {ta : TE} {p p2 q : Pos} (hc : X.calm = true) (hg : Gl X "len") (hm : X.mg "len" = none) (hg2 : Gl X "set") (hm2 : X.mg "set" = none) (ha : PE X x ta) (na : starEach [x] X.env = (false, eval x X.env) :: starEach [] X.env) :
    PE X (.Call (.Name "len" p) [.Call (.Name "set" p2) [x] [] q] [] pos) (tLenTx X.K ta) := ⟨fun pins s σ H Q I h => by
  refine Call_ (ld_blt I hg hm boot_len (PyProof.Rows.callWith_builtin1 (PyProof.Rows.args_cons ?_ rfl) rfl rfl))
  refine Call_ (ld_blt I hg2 hm2 boot_set (PyProof.Rows.callWith_type1 (PyProof.Rows.args_cons (thn (ha.run pins s σ H _ I h) fun v s1 ⟨w, H1, I1, r1, t, xs, ew, hq, hl, q1⟩ => PyProof.Rows.args_nil ?_) na) na rfl))
  subst ew; cases r1
  obtain ⟨us, rv, ht, hz⟩ := I1.tuple hq
  refine setTexts (I1.ok.hd hc) ht (by simpa using strsAre_of rv) (by unfold scanBound; omega) fun g tk S kp => PyProof.Rows.args_nil ?_
  have I2 : Inv X pins σ H1 { s1 with heap := g, toks := tk } := I1.kept fun b o e => kp b o (Heap.lt_size e) e
  obtain ⟨o, es, ep, tb, ho, hex, hd, _, _, _, hf, hn⟩ := S
  have := dis_le xs xs.length
  exact call_len_set ho hex hd hf (by rw [hn]; omega) ⟨.int (dis xs xs.length : Nat), H1, I2.tok _, ⟨_, by rw [hn]⟩, q1⟩⟩
theorem strsV_of {c : Cl} {B : Hp} : ∀ {vs : List V} {ds : List D} {xs : List Str}, Reps c B vs ds → strsOf ds = some xs → vs = xs.map V.str
  | _, _, _, .nil, e => by cases e; rfl
  | _, _, _, .cons (d := d) h r, e => by
    cases d <;> simp only [strsOf, reduceCtorEq] at e
    obtain ⟨js, e1, rfl⟩ := Option.map_eq_some_iff.mp e
    cases h
    rw [strsV_of r e1]
    rfl
theorem s_lens {p p2 q : Pos} (o : XOk L y N lv sc X EW) (hg : glB sc "len" = true) (hg2 : glB sc "set" = true) (ha : PE X x (tE y EW a)) (h1 : nstar x = true) : PE X (.Call (.Name "len" p) [.Call (.Name "set" p2) [x] [] q] [] pos) (tE y EW (.lens a)) := by
  refine (pe_lenTx o.calm (gl_of o hg) (o_bt o (by decide +kernel)) (gl_of o hg2) (o_bt o (by decide +kernel)) ha (star_cons h1)).imp fun σ H Q ⟨env, m, ta, s, r⟩ => ⟨env, m, ta, s, ?_⟩
  simp only [ev] at r
  refine r.bind.mono fun w m1 H1 ta1 p1 r1 v hv => ?_
  obtain ⟨d, e1, r2⟩ := asD_run r1
  obtain ⟨d', e2, r3⟩ := ofD_run r2
  have sv := snap_of p1.toks hv e1
  cases d <;> simp only [lensD, reduceCtorEq] at e2
  obtain ⟨xs, e3, e4⟩ := Option.bind_eq_some_iff.mp e2
  split at e4
  · cases e4
    obtain ⟨ad, ys, rfl, h3, i3, r4⟩ := sv.tup
    rw [strsV_of r4 e3] at h3
    exact ⟨ad, xs, rfl, o.lnk.hK ▸ seq_mono (view_sub H1 ta1 m1) h3, by assumption, r3.here p1.toks _ (.int _)⟩
  · cases e4
end
end Cy

set_option Elab.async false
set_option linter.all false
set_option maxRecDepth 100000
set_option maxHeartbeats 4000000
/-! CyRng: list(range(..)) as a value. -/
namespace Cy
open PySem L2
section
variable {L : Lk} {y : Sy} {N : List Str} {lv : Nat} {sc : Scope} {X : Cx} {EW : XK} {x l r : Expr} {a b : E} {pos p p2 q : Pos}
theorem reps_rg {c : Cl} {B : Hp} (i j : Int) : Reps c B (rgV i j) (rngD i j) := by
  unfold rgV rngD
  generalize List.range (j - i).toNat = R
  induction R with
  | nil => exact .nil
  | cons k R ih => exact .cons (.int _) ih
/-- both ends told, the list is made -/
theorem rng_made {H : Hp} {ta : List Addr} {m : Store} {i j : Int} {v : V} {Q : VK} (t : Toks y.c H ta m) (hv : v = .int j)
    (h : Run y.c y.fe EW (view H ta m) ta (if -1000000 ≤ i ∧ i ≤ 1000000 ∧ -1000000 ≤ j ∧ j ≤ 1000000 then newL false (rngL i j) m else .bad) fun w m' H' ta' => ∀ v, Wr y.c (view H' ta' m') ta' v w → Q v H') :
    RgOk i j ∧ ∀ q, H q = none → Q (.ref q) (upd H q (.lst (rgV i j))) := by
  obtain ⟨hl, h⟩ := iteR_run h
  have wr : Wrs y.c (view H ta m) ta (rgV i j) (rngL i j) := Wrs.of (reps_rg i j)
  exact ⟨⟨by omega, by omega, by omega, by omega, by omega⟩, (lay_list t wr h).2⟩
theorem s_rng1 (o : XOk L y N lv sc X EW) (hg : glB sc "list" = true) (hg2 : glB sc "range" = true) (hb : PE X r (tE y EW b)) (h1 : nstar r = true) : PE X (.Call (.Name "list" p) [.Call (.Name "range" p2) [r] [] q] [] pos) (tE y EW (.rng (.c (.int 0)) b)) := by
  refine (pe_listRg o.calm (gl_of o hg) (o_bt o (by decide +kernel)) (prg_1 (gl_of o hg2) (o_bt o (by decide +kernel)) hb (by rw [star_cons h1]))).imp fun σ H Q ⟨env, m, ta, s, rr⟩ => ⟨env, m, ta, s, ?_⟩
  simp only [ev] at rr
  refine (Run.bind (rr.bind.here s.toks)).mono fun w m1 H1 ta1 p1 r1 v hv => ?_
  obtain ⟨i, j, e, rfl, r1⟩ := intsW_run r1
  cases e
  obtain rfl := rep_int hv
  exact ⟨j, rfl, rng_made p1.toks rfl r1⟩
theorem s_rng2 (o : XOk L y N lv sc X EW) (hg : glB sc "list" = true) (hg2 : glB sc "range" = true) (ha : PE X l (tE y EW a)) (hb : PE X r (tE y EW b)) (h1 : nstar l = true) (h2 : nstar r = true) : PE X (.Call (.Name "list" p) [.Call (.Name "range" p2) [l, r] [] q] [] pos) (tE y EW (.rng a b)) := by
  refine (pe_listRg o.calm (gl_of o hg) (o_bt o (by decide +kernel)) (prg_2 (gl_of o hg2) (o_bt o (by decide +kernel)) ha hb (by rw [star_cons h1]) (by rw [star_cons h2]) (by rw [star_cons h2]; rfl))).imp fun σ H Q ⟨env, m, ta, s, rr⟩ => ⟨env, m, ta, s, ?_⟩
  simp only [ev] at rr
  refine rr.bind.mono fun w m1 H1 ta1 p1 r1 v hv => ⟨env, m1, ta1, s.step p1, ?_⟩
  refine (Run.bind r1).mono fun u m2 H2 ta2 p2 r2 v2 hv2 => ?_
  obtain ⟨i, j, rfl, rfl, r2⟩ := intsW_run r2
  obtain rfl := rep_int hv
  obtain rfl := rep_int hv2
  exact ⟨i, j, rfl, rfl, rng_made p2.toks rfl r2⟩
end
end Cy

set_option Elab.async false
set_option linter.all false
set_option maxRecDepth 100000
set_option maxHeartbeats 4000000
/-! CySound14: does an E stand for a text? chk, and why it is enough. -/
namespace Cy
open PySem L2
open PySem.PyData (strOk)
def isDbg (n : Str) : Bool := n == ("__debug__" : Str)
def smB : MF → Str → Bool
  | .join, n => n == "join"
  | .partition, n => n == "partition"
  | .split, n => n == "split"
  | .index, n => n == "index"
  | _, _ => false
def fldB (L : Lk) (c i : Nat) (f : Str) : Bool := L.flds.any fun p => p.1 == c && p.2[i]? == some f
mutual
def cE (L : Lk) (N : List Str) : Scope → E → Expr → Bool
  | sc, .c d, x => match x with
    | .Constant k _ _ => constB d k
    | _ => false
  | sc, .var i, x => match x with
    | .Name n _ => decide (N[i]? = some n) && visB sc n && !(isDbg n) && !(n == ("__classdict__" : Str))
    | _ => false
  | sc, .glob g, x => match x with
    | .Name n _ => decide ((g, n) ∈ L.globs) && glB sc n && !(isDbg n)
    | _ => false
  | sc, .neg a, x => match x with
    | .UnaryOp .USub z _ => cE L N sc a z
    | _ => false
  | sc, .not_ a, x => match x with
    | .UnaryOp .Not z _ => cE L N sc a z
    | _ => false
  | sc, .bin op a b, x => match x with
    | .BinOp l o r _ => boB op o && cE L N sc a l && cE L N sc b r
    | _ => false
  | sc, .cat a b, x => match x with
    | .BinOp l o r _ => boB .add o && cE L N sc a l && cE L N sc b r
    | _ => false
  | sc, .cmp op a b, x => match x with
    | .Compare l [o] [r] _ => coB op o && cE L N sc a l && cE L N sc b r && !(behindInMarks o r)
    | _ => false
  | sc, .eqo c f a b, x => match x with
    | .Compare l [o] [r] _ => coB .eq o && decide ((c, f) ∈ L.eqs) && cE L N sc a l && cE L N sc b r
    | _ => false
  | sc, .chain o1 o2 a b c, x => match x with
    | .Compare z [p1, p2] [l, r] _ => coB o1 p1 && coB o2 p2 && cE L N sc a z && cE L N sc b l && cE L N sc c r && !(lastMarks [p1, p2] [l, r])
    | _ => false
  | sc, .and_ es, x => match x with
    | .BoolOp .And xs _ => cB L N sc es xs
    | _ => false
  | sc, .or_ es, x => match x with
    | .BoolOp .Or xs _ => cB L N sc es xs
    | _ => false
  | sc, .ifx c a b, x => match x with
    | .IfExp t l r _ => cE L N sc c t && cE L N sc a l && cE L N sc b r
    | _ => false
  | sc, .tup es, x => match x with
    | .Tuple xs _ _ => cL L N sc es xs
    | _ => false
  | sc, .lst _ es, x => match x with
    | .List xs _ => cL L N sc es xs
    | _ => false
  | sc, .ix a b, x => match x with
    | .Subscript l r _ => plainIxB r && cE L N sc a l && cE L N sc b r
    | _ => false
  | sc, .sl a b c, x => match x with
    | .Subscript z (.Slice l h none _) _ => cE L N sc a z && poB b l && poB c h && (match l with
        | some q => cE L N sc b q
        | none => true) && (match h with
        | some q => cE L N sc c q
        | none => true)
    | _ => false
  | sc, .fld c a i, x => match x with
    | .Attribute z f _ => fldB L c i f && abB z && cE L N sc a z
    | _ => false
  | sc, .prop c f a, x => match x with
    | .Attribute z m _ => decide ((c, f, m) ∈ L.props) && abB z && cE L N sc a z
    | _ => false
  | sc, .call f es, x => match x with
    | .Call (.Name n _) xs [] _ => decide ((f, n) ∈ L.fns) && glB sc n && !(isDbg n) && nstars xs && cL L N sc es xs
    | _ => false
  | sc, .make _ c f es, x => match x with
    | .Call (.Name n _) (z :: xs) [] _ => decide ((c, n) ∈ L.clss) && decide ((c, f, ("__init__" : Str)) ∈ L.meths) && glB sc n && !(isDbg n) && nstar z && nstars xs && cL L N sc es (z :: xs)
    | _ => false
  | sc, .meth c f o es, x => match x with
    | .Call (.Attribute z m ap) xs [] p => decide ((c, f, m) ∈ L.meths) && !(m == ("__init__" : Str)) && abB z && (ap.endLine == p.line) && nstars xs && decide (xs.length < 30) && cE L N sc o z && cL L N sc es xs
    | _ => false
  | sc, .leno c f a, x => match x with
    | .Call (.Name n _) [z] [] _ => (n == ("len" : Str)) && decide ((c, f) ∈ L.lens) && glB sc n && nstar z && cE L N sc a z
    | _ => false
  | sc, .bi b _ es, x => match x with
    | .Call (.Name n _) (z :: xs) [] _ => (bfB b n || bfB2 b n && xs.isEmpty) && glB sc n && nstar z && nstars xs && cL L N sc es (z :: xs)
    | _ => false
  | sc, .isi a ts, x => match x with
    | .Call (.Name n _) [z, T] [] _ => (n == ("isinstance" : Str)) && glB sc n && nstar z && cE L N sc a z && (match T with
        | .Tuple us _ _ => tysB L sc ts us && decide (ts.length ≤ 10)
        | T => match ts with
          | [t] => tyB L sc t T
          | _ => false)
    | _ => false
  | sc, .sm f o es, x => match x with
    | .Call (.Attribute z m ap) [r] [] p => smB f m && abB z && nstar r && (ap.endLine == p.line) && cE L N sc o z && (match es with
        | .cons b .nil => cE L N sc b r
        | _ => false)
    | _ => false
  | sc, .comp _ g it cs e, x => match x with
    | .ListComp elt [⟨tg, iter, ifs, 0⟩] scope _ => notSet iter && blkC N sc scope (ownOf N g) && gB N (relS scope sc) (cellB scope) g tg && cI L N sc it tg iter && cT L N (relS scope sc) cs ifs && cE L N (relS scope sc) e elt
    | _ => false
  | sc, .dcomp kt g it cs k e, x => match x with
    | .DictComp kx vx [⟨tg, iter, ifs, 0⟩] scope _ => !kt && notSet iter && blkC N sc scope (ownOf N g) && gB N (relS scope sc) (cellB scope) g tg && cI L N sc it tg iter && cT L N (relS scope sc) cs ifs && cE L N (relS scope sc) k kx && cE L N (relS scope sc) e vx
    | _ => false
  | sc, .lens a, x => match x with
    | .Call (.Name n _) [.Call (.Name n2 _) [z] [] _] [] _ => (n == ("len" : Str)) && (n2 == ("set" : Str)) && glB sc n && glB sc n2 && nstar z && cE L N sc a z
    | _ => false
  | _, .nev, _ => true
  | _, .no, _ => false
  | _, .dict _ _ ks vs, x => match ks, vs with
    | .nil, .nil => (match x with
      | .Dict [] [] _ => true
      | _ => false)
    | _, _ => false
  | _, .dictS _ _ _, _ => false
  | sc, .rev a, x => match x with
    | .Subscript z (.Slice none none (some (.UnaryOp .USub (.Constant (.int 1) _ _) _)) _) _ => cE L N sc a z
    | _ => false
  | sc, .callk f es k, x => match x with
    | .Call (.Name n _) (z :: xs) [⟨some w, kx, _⟩] _ => (L.kfns.any fun p => p.1 == f && p.2.1 == n) && glB sc n && !(isDbg n) && nstar z && nstars xs && (w == KW) && cL L N sc es (z :: xs) && cE L N sc k kx
    | .Call (.Name n _) (z :: xs) [] _ => (L.kfns.any fun p => p.1 == f && p.2.1 == n) && glB sc n && !(isDbg n) && nstar z && nstars xs && cL L N sc es (z :: xs) && (match k with
      | .no => true
      | _ => false)
    | _ => false
  | sc, .rng a b, x => match x with
    | .Call (.Name n _) [.Call (.Name n2 _) [l, r] [] _] [] _ => (n == ("list" : Str)) && (n2 == ("range" : Str)) && glB sc n && glB sc n2 && nstar l && nstar r && cE L N sc a l && cE L N sc b r
    | .Call (.Name n _) [.Call (.Name n2 _) [r] [] _] [] _ => (n == ("list" : Str)) && (n2 == ("range" : Str)) && glB sc n && glB sc n2 && nstar r && (match a with
      | .c (.int i) => i == 0
      | _ => false) && cE L N sc b r
    | _ => false
def cL (L : Lk) (N : List Str) : Scope → EL → List Expr → Bool
  | _, .nil, xs => match xs with
    | [] => true
    | _ => false
  | sc, .cons e es, xs => match xs with
    | x :: xs => nstar x && cE L N sc e x && cL L N sc es xs
    | _ => false
  | sc, .star e es, xs => match xs with
    | .Starred x _ :: xs => cE L N sc e x && cL L N sc es xs
    | _ => false
/-- operands of and, or -/
def cB (L : Lk) (N : List Str) : Scope → EL → List Expr → Bool
  | _, .nil, _ => false
  | sc, .cons e es, xs => match xs with
    | [] => false
    | x :: ys => cE L N sc e x && (match ys with
      | [] => (match es with
        | .nil => true
        | _ => false)
      | y :: ys => cB L N sc es (y :: ys))
  | _, .star _ _, _ => false
/-- a comprehension's tests: none or one -/
def cT (L : Lk) (N : List Str) : Scope → EL → List Expr → Bool
  | _, .nil, xs => match xs with
    | [] => true
    | _ => false
  | sc, .cons e es, xs => match xs with
    | [x] => (match es with
      | .nil => true
      | _ => false) && cE L N sc e x
    | _ => false
  | _, .star _ _, _ => false
def cI (L : Lk) (N : List Str) : Scope → IT → Expr → Expr → Bool
  | sc, .seq a, _, x => cE L N sc a x
  | sc, .chars a, _, x => cE L N sc a x
  | sc, .rng a b, _, x => match x with
    | .Call (.Name n _) [l, r] [] _ => (n == ("range" : Str)) && glB sc n && nstar l && nstar r && cE L N sc a l && cE L N sc b r
    | .Call (.Name n _) [r] [] _ => (n == ("range" : Str)) && glB sc n && nstar r && (match a with
      | .c (.int i) => i == 0
      | _ => false) && cE L N sc b r
    | _ => false
  | sc, .enum a, tg, x => match tg, x with
    | .Tuple _ _ _, .Call (.Name n _) [z] [] _ => (n == ("enumerate" : Str)) && glB sc n && nstar z && cE L N sc a z
    | _, _ => false
  | sc, .zip a b, tg, x => match tg, x with
    | .Tuple _ _ _, .Call (.Name n _) [l, r] [] _ => (n == ("zip" : Str)) && glB sc n && nstar l && nstar r && cE L N sc a l && cE L N sc b r
    | _, _ => false
  | _, .keys _, _, _ => false
end
end Cy

set_option Elab.async false
set_option linter.all false
set_option maxRecDepth 100000
set_option maxHeartbeats 4000000
/-! CySound15: chk is enough (expressions). -/
namespace Cy
open PySem L2
open PySem.PyData (strOk)
section
variable {L : Lk} {y : Sy} {N : List Str} {lv : Nat} {X : Cx} {EW : XK} {x l r tg : Expr} {xs : List Expr} {a b c : E} {es : EL} {pos : Pos}
theorem s_ifxt (hc : PT X x (tT y EW c)) (ha : PT X l (tT y EW a)) (hb : PT X r (tT y EW b)) : PT X (.IfExp x l r pos) (tT y EW (.ifx c a b)) := ⟨fun pins s σ H Q I ⟨env, m, ta, st, rr⟩ => by
  simp only [ev] at rr
  show wpAny (model X.prog X.w) X.A (do if ← isTrue x X.env (eval x X.env) then isTrue l X.env (eval l X.env) else isTrue r X.env (eval r X.env)) (TP X pins σ Q) X.xe s
  refine wpAny_bind (thn (hc.run pins s σ H (fun q H1 => if q = true then tT y EW a σ H1 Q else tT y EW b σ H1 Q) I ⟨env, m, ta, st, rr.bind.mono fun w m1 H1 ta1 p r1 => ?_⟩) fun d s1 ⟨H1, I1, q1⟩ => ?_)
  · obtain ⟨q, rfl, r1⟩ := ifW_run r1
    refine ⟨q, rfl, ?_⟩
    cases q
    · exact iteF ⟨env, m1, ta1, st.step p, r1⟩
    · exact iteT ⟨env, m1, ta1, st.step p, r1⟩
  · cases d with
    | true => exact ha.run pins s1 σ H1 Q I1 q1
    | false => exact hb.run pins s1 σ H1 Q I1 q1⟩
theorem pe_none {e : Expr} : PE X e (tE y EW .nev) := ⟨fun _ _ _ _ _ _ ⟨_, _, _, _, r⟩ => r.elim⟩
theorem pt_none {e : Expr} : PT X e (tT y EW .nev) := ⟨fun _ _ _ _ _ _ ⟨_, _, _, _, r⟩ => r.elim⟩
theorem pt_and {es : EL} (h : PW X x (tAt y EW es)) : PT X x (tT y EW (.and_ es)) := h.pt.imp fun σ H Q q => q
theorem pt_or {es : EL} (h : PW X x (tOt y EW es)) : PT X x (tT y EW (.or_ es)) := h.pt.imp fun σ H Q q => q
theorem pe_and' {es : EL} (h : PE X x (tAn y EW es)) : PE X x (tE y EW (.and_ es)) := h.imp fun σ H Q q => q
theorem pe_or' {es : EL} (h : PE X x (tOn y EW es)) : PE X x (tE y EW (.or_ es)) := h.imp fun σ H Q q => q
theorem both {e : E} (q : PE X x (tE y EW e)) (h : ∀ whole, isTrue x X.env whole = (do let v ← whole; standAt x.pos; holding [v] (truthy v))) : PE X x (tE y EW e) ∧ PT X x (tT y EW e) := ⟨q, test_of q h⟩
theorem isDbg_of {n : Str} (h : (!isDbg n) = true) : (n == ("__debug__" : Str)) = false := by unfold isDbg at h; simpa using h
theorem pts_of : ∀ {cs : EL} {xs : List Expr}, (∀ a x, cs = .cons a .nil → xs = [x] → PT X x (tT y E0 a)) → ((cs = .nil ∧ xs = []) ∨ ∃ a x, cs = .cons a .nil ∧ xs = [x]) → PTs X xs (tAt y E0 cs) := fun {cs xs} h q => by
  rcases q with ⟨rfl, rfl⟩ | ⟨a, x, rfl, rfl⟩
  · exact pts_nil.imp fun σ H Q ⟨env, m, ta, s, r⟩ => by
      exact Run.bl_here (b := true) s.toks r
  · exact (pts_one (h a x rfl rfl)).imp fun σ H Q ⟨env, m, ta, st, r⟩ => ⟨env, m, ta, st, by
      simp only [evAnd] at r
      refine r.bind.mono fun w m1 H1 ta1 p r1 => ?_
      obtain ⟨q, rfl, r1⟩ := ifW_run r1
      refine ⟨q, rfl, ?_⟩
      cases q <;> exact Run.bl_here p.toks r1⟩
theorem nstars_cL {sc : Scope} : ∀ {es : EL} {xs : List Expr}, cL L N sc es xs = true → nstars xs = true → True := fun _ _ => trivial
mutual
theorem s_E : ∀ (e : E) {sc : Scope} {X : Cx} {EW : XK} {x : Expr}, XOk L y N lv sc X EW → cE L N sc e x = true → PE X x (tE y EW e) ∧ PT X x (tT y EW e)
  | .c d, sc, X, EW, x, o, h => by
    simp only [cE] at h
    split at h
    · exact ⟨s_const h, test_of (s_const h) fun _ => rfl⟩
    · cases h
  | .var i, sc, X, EW, x, o, h => by
    simp only [cE] at h
    split at h
    · simp only [Bool.and_eq_true, decide_eq_true_eq] at h
      obtain ⟨⟨⟨h1, h2⟩, h3⟩, h4⟩ := h
      exact both (s_var o h1 h2 (isDbg_of h3) (by simpa using h4)) fun _ => rfl
    · cases h
  | .glob g, sc, X, EW, x, o, h => by
    simp only [cE] at h
    split at h
    · simp only [Bool.and_eq_true, decide_eq_true_eq] at h
      obtain ⟨⟨h1, h2⟩, h3⟩ := h
      exact both (s_glob o h1 h2 (isDbg_of h3)) fun _ => rfl
    · cases h
  | .neg a, sc, X, EW, x, o, h => by
    simp only [cE] at h
    split at h
    · exact both (s_neg (s_E a o h).1) fun _ => rfl
    · cases h
  | .not_ a, sc, X, EW, x, o, h => by
    simp only [cE] at h
    split at h
    · exact s_not (s_E a o h).2 (s_E a o h).1
    · cases h
  | .bin op a b, sc, X, EW, x, o, h => by
    simp only [cE] at h
    split at h
    · simp only [Bool.and_eq_true] at h
      obtain ⟨⟨h1, h2⟩, h3⟩ := h
      obtain rfl := bo_of h1
      exact both (s_bin o (s_E a o h2).1 (s_E b o h3).1) fun _ => rfl
    · cases h
  | .cat a b, sc, X, EW, x, o, h => by
    simp only [cE] at h
    split at h
    · simp only [Bool.and_eq_true] at h
      obtain ⟨⟨h1, h2⟩, h3⟩ := h
      obtain rfl := bo_of h1
      exact both (s_cat o (s_E a o h2).1 (s_E b o h3).1) fun _ => rfl
    · cases h
  | .cmp op a b, sc, X, EW, x, o, h => by
    simp only [cE] at h
    split at h
    · simp only [Bool.and_eq_true, Bool.not_eq_true'] at h
      obtain ⟨⟨⟨h1, h2⟩, h3⟩, h4⟩ := h
      obtain rfl := co_of h1
      exact s_cmp o (s_E a o h2).1 (s_E b o h3).1 h4
    · cases h
  | .eqo c f a b, sc, X, EW, x, o, h => by
    simp only [cE] at h
    split at h
    · simp only [Bool.and_eq_true, decide_eq_true_eq] at h
      obtain ⟨⟨⟨h1, h2⟩, h3⟩, h4⟩ := h
      obtain rfl := co_of h1
      exact s_eqo o h2 (s_E a o h3).1 (s_E b o h4).1
    · cases h
  | .chain o1 o2 a b c, sc, X, EW, x, o, h => by
    simp only [cE] at h
    split at h
    · simp only [Bool.and_eq_true, Bool.not_eq_true'] at h
      obtain ⟨⟨⟨⟨⟨h1, h2⟩, h3⟩, h4⟩, h5⟩, h6⟩ := h
      obtain rfl := co_of h1
      obtain rfl := co_of h2
      exact s_chain o (s_E a o h3).1 (s_E b o h4).1 (s_E c o h5).1 h6
    · cases h
  | .and_ es, sc, X, EW, x, o, h => by
    simp only [cE] at h
    split at h
    · have q := s_B es o h
      exact ⟨pe_and' (q _).1, pt_and (q _).2.1⟩
    · cases h
  | .or_ es, sc, X, EW, x, o, h => by
    simp only [cE] at h
    split at h
    · have q := s_B es o h
      exact ⟨pe_or' (q _).2.2.1, pt_or (q _).2.2.2⟩
    · cases h
  | .ifx c a b, sc, X, EW, x, o, h => by
    simp only [cE] at h
    split at h
    · simp only [Bool.and_eq_true] at h
      obtain ⟨⟨h1, h2⟩, h3⟩ := h
      exact ⟨s_ifx (s_E c o h1).2 (s_E a o h2).1 (s_E b o h3).1, s_ifxt (s_E c o h1).2 (s_E a o h2).2 (s_E b o h3).2⟩
    · cases h
  | .tup es, sc, X, EW, x, o, h => by
    simp only [cE] at h
    split at h
    · exact both (s_tup (s_L es o h)) fun _ => rfl
    · cases h
  | .lst tk es, sc, X, EW, x, o, h => by
    simp only [cE] at h
    split at h
    · exact both (s_lst (tk := tk) (s_L es o h)) fun _ => rfl
    · cases h
  | .ix a b, sc, X, EW, x, o, h => by
    simp only [cE] at h
    split at h
    · simp only [Bool.and_eq_true] at h
      obtain ⟨⟨h1, h2⟩, h3⟩ := h
      exact both (s_ix o (s_E a o h2).1 (s_E b o h3).1 h1) fun _ => rfl
    · cases h
  | .sl a b c, sc, X, EW, x, o, h => by
    simp only [cE] at h
    split at h
    · rename_i z lo hi p p'
      simp only [Bool.and_eq_true] at h
      obtain ⟨⟨⟨⟨h1, h2⟩, h3⟩, h4⟩, h5⟩ := h
      exact both (s_sl o (s_E a o h1).1 (fun q e => by subst e; exact (s_E b o h4).1) (fun q e => by subst e; exact (s_E c o h5).1) h2 h3) fun _ => rfl
    · cases h
  | .fld c a i, sc, X, EW, x, o, h => by
    simp only [cE] at h
    split at h
    · simp only [Bool.and_eq_true] at h
      obtain ⟨⟨h1, h2⟩, h3⟩ := h
      unfold fldB at h1
      obtain ⟨⟨c', fs⟩, hm, hq⟩ := List.any_eq_true.mp h1
      simp only [Bool.and_eq_true, beq_iff_eq] at hq
      obtain ⟨rfl, hq⟩ := hq
      exact both (s_fld o (s_E a o h3).1 hm hq h2) fun _ => rfl
    · cases h
  | .prop c f a, sc, X, EW, x, o, h => by
    simp only [cE] at h
    split at h
    · simp only [Bool.and_eq_true, decide_eq_true_eq] at h
      obtain ⟨⟨h1, h2⟩, h3⟩ := h
      exact both (s_prop o h1 (s_E a o h3).1 h2) fun _ => rfl
    · cases h
  | .call f es, sc, X, EW, x, o, h => by
    simp only [cE] at h
    split at h
    · rename_i n p xs p'
      simp only [Bool.and_eq_true, decide_eq_true_eq] at h
      obtain ⟨⟨⟨⟨h1, h2⟩, h3⟩, h4⟩, h5⟩ := h
      have hL := s_L es o h5
      cases xs with
      | nil =>
        cases es with
        | nil => exact both (s_call0 (pos := p') (p := p) o h1 h2 (isDbg_of h3)) fun _ => rfl
        | cons _ _ => simp [cL] at h5
        | star _ _ => simp [cL] at h5
      | cons x xs =>
        simp only [nstars, Bool.and_eq_true] at h4
        exact both (s_call (pos := p') (p := p) o h1 h2 (isDbg_of h3) hL h4.1 h4.2) fun _ => rfl
    · cases h
  | .make tk c f es, sc, X, EW, x, o, h => by
    simp only [cE] at h
    split at h
    · simp only [Bool.and_eq_true, decide_eq_true_eq] at h
      obtain ⟨⟨⟨⟨⟨⟨h1, h2⟩, h3⟩, h4⟩, h5⟩, h6⟩, h7⟩ := h
      exact both (s_make (tk := tk) o h1 h2 h3 (isDbg_of h4) (s_L es o h7) h5 h6) fun _ => rfl
    · cases h
  | .meth c f a es, sc, X, EW, x, o, h => by
    simp only [cE] at h
    split at h
    · rename_i z m ap xs p
      simp only [Bool.and_eq_true, decide_eq_true_eq, Bool.not_eq_true'] at h
      obtain ⟨⟨⟨⟨⟨⟨⟨h1, h2⟩, h3⟩, h4⟩, h5⟩, h6⟩, h7⟩, h8⟩ := h
      have hL := s_L es o h8
      cases xs with
      | nil =>
        cases es with
        | nil => exact both (s_meth0 o h1 h2 (s_E a o h7).1 h3 h4) fun _ => rfl
        | cons _ _ => simp [cL] at h8
        | star _ _ => simp [cL] at h8
      | cons x xs =>
        simp only [nstars, Bool.and_eq_true] at h5
        exact both (s_meth o h1 (s_E a o h7).1 h3 h4 hL h5.1 h5.2 h6) fun _ => rfl
    · cases h
  | .leno c f a, sc, X, EW, x, o, h => by
    simp only [cE] at h
    split at h
    · simp only [Bool.and_eq_true, decide_eq_true_eq, beq_iff_eq] at h
      obtain ⟨⟨⟨⟨h1, h2⟩, h3⟩, h4⟩, h5⟩ := h
      subst h1
      exact both (s_leno o h2 h3 (s_cons (s_E a o h5).1 s_nil h4) h4) fun _ => rfl
    · cases h
  | .lens a, sc, X, EW, x, o, h => by
    simp only [cE] at h
    split at h
    · simp only [Bool.and_eq_true, beq_iff_eq] at h
      obtain ⟨⟨⟨⟨⟨rfl, rfl⟩, h3⟩, h4⟩, h5⟩, h6⟩ := h
      exact both (s_lens o h3 h4 (s_E a o h6).1 h5) fun _ => rfl
    · cases h
  | .bi bf tk es, sc, X, EW, x, o, h => by
    simp only [cE] at h
    split at h
    · simp only [Bool.and_eq_true] at h
      obtain ⟨⟨⟨⟨h1, h2⟩, h3⟩, h4⟩, h5⟩ := h
      rcases Bool.or_eq_true_iff.mp h1 with hz | hz
      · exact both (s_bi (tk := tk) o hz h2 (s_L es o h5) h3 h4) fun _ => rfl
      · simp only [Bool.and_eq_true, List.isEmpty_iff] at hz
        obtain ⟨hz, rfl⟩ := hz
        exact both (s_bi2 (tk := tk) o hz h2 (s_L es o h5) h3) fun _ => rfl
    · cases h
  | .isi a ts, sc, X, EW, x, o, h => by
    simp only [cE] at h
    split at h
    · simp only [Bool.and_eq_true, beq_iff_eq] at h
      obtain ⟨⟨⟨⟨h1, h2⟩, h3⟩, h4⟩, h5⟩ := h
      subst h1
      split at h5
      · simp only [Bool.and_eq_true, decide_eq_true_eq] at h5
        exact both (s_isiN o h2 h5.1 h5.2 (s_E a o h4).1 h3) fun _ => rfl
      · split at h5
        · exact both (s_isi1 o h2 h5 (s_E a o h4).1 h3) fun _ => rfl
        · cases h5
    · cases h
  | .sm f a es, sc, X, EW, x, o, h => by
    unfold cE at h
    split at h
    · rename_i z m ap r p
      simp only [Bool.and_eq_true] at h
      obtain ⟨⟨⟨⟨⟨h1, h2⟩, h3⟩, h4⟩, h5⟩, h6⟩ := h
      split at h6
      · rename_i b
        by_cases hx : f = .index
        · subst hx
          simp only [smB, beq_iff_eq] at h1
          subst h1
          exact both (s_index o (s_E a o h5).1 (s_E b o h6).1 h2 h3 h4) fun _ => rfl
        have hf : (f = .join ∧ m = "join") ∨ (f = .partition ∧ m = "partition") ∨ (f = .split ∧ m = "split") := by
          cases f <;> simp only [smB, beq_iff_eq, Bool.false_eq_true] at h1 <;> first | (simp [h1]; done) | exact absurd rfl hx
        exact both (s_sm1 o hf (s_E a o h5).1 (s_E b o h6).1 h2 h3 h4) fun _ => rfl
      · cases h6
    · cases h
  | .comp tk g it cs e, sc, X, EW, x, o, h => by
    simp only [cE] at h
    split at h
    · rename_i elt tg iter ifs scope p
      simp only [Bool.and_eq_true] at h
      obtain ⟨⟨⟨⟨⟨h1, h2⟩, h3⟩, h4⟩, h5⟩, h6⟩ := h
      exact both (s_comp (tk := tk) (pos := p) o (s_I it o h4) h1 h2 h3 (fun X' o' _ => s_T cs o' h5) (fun X' o' _ => (s_E e o' h6).1)) fun _ => rfl
    · cases h
  | .dcomp kt g it cs k e, sc, X, EW, x, o, h => by
    simp only [cE] at h
    split at h
    · rename_i kx vx tg iter ifs scope p
      simp only [Bool.and_eq_true, Bool.not_eq_true'] at h
      obtain ⟨⟨⟨⟨⟨⟨⟨h0, h1⟩, h2⟩, h3⟩, h4⟩, h5⟩, h6⟩, h7⟩ := h
      subst h0
      exact both (s_dcomp (pos := p) o (s_I it o h4) h1 h2 h3 (fun X' o' _ => s_T cs o' h5) (fun X' o' _ => (s_E k o' h6).1) (fun X' o' _ => (s_E e o' h7).1)) fun _ => rfl
    · cases h
  | .nev, sc, X, EW, x, o, h => ⟨pe_none, pt_none⟩
  | .no, sc, X, EW, x, o, h => by simp [cE] at h
  | .dict tk t ks vs, sc, X, EW, x, o, h => by
    unfold cE at h
    split at h
    · split at h
      · exact both s_dict0 fun _ => rfl
      · cases h
    · cases h
  | .dictS _ _ _, sc, X, EW, x, o, h => by simp [cE] at h
  | .rev a, sc, X, EW, x, o, h => by
    simp only [cE] at h
    split at h
    · exact both (s_revL o (s_E a o h).1) fun _ => rfl
    · cases h
  | .callk f es k, sc, X, EW, x, o, h => by
    unfold cE at h
    split at h
    · simp only [Bool.and_eq_true, beq_iff_eq] at h
      obtain ⟨⟨⟨⟨⟨⟨⟨h1, h2⟩, h3⟩, h4⟩, h5⟩, h6⟩, h7⟩, h8⟩ := h
      obtain ⟨⟨f', nm, k'⟩, hm, hq⟩ := List.any_eq_true.mp h1
      simp only [Bool.and_eq_true, beq_iff_eq] at hq
      obtain ⟨rfl, rfl⟩ := hq
      subst h6
      exact both (s_callk o hm h2 (isDbg_of h3) (s_L es o h7) (s_E k o h8).1 h4 h5) fun _ => rfl
    · simp only [Bool.and_eq_true] at h
      obtain ⟨⟨⟨⟨⟨⟨h1, h2⟩, h3⟩, h4⟩, h5⟩, h7⟩, h8⟩ := h
      obtain ⟨⟨f', nm, k'⟩, hm, hq⟩ := List.any_eq_true.mp h1
      simp only [Bool.and_eq_true, beq_iff_eq] at hq
      obtain ⟨rfl, rfl⟩ := hq
      split at h8
      · exact both (s_callk0 o hm h2 (isDbg_of h3) (s_L es o h7) h4 h5) fun _ => rfl
      · cases h8
    · cases h
  | .rng a b, sc, X, EW, x, o, h => by
    simp only [cE] at h
    split at h
    · simp only [Bool.and_eq_true, beq_iff_eq] at h
      obtain ⟨⟨⟨⟨⟨⟨⟨rfl, rfl⟩, h3⟩, h4⟩, h5⟩, h6⟩, h7⟩, h8⟩ := h
      exact both (s_rng2 o h3 h4 (s_E a o h7).1 (s_E b o h8).1 h5 h6) fun _ => rfl
    · simp only [Bool.and_eq_true, beq_iff_eq] at h
      obtain ⟨⟨⟨⟨⟨⟨rfl, rfl⟩, h3⟩, h4⟩, h5⟩, h6⟩, h7⟩ := h
      have q := (s_E b o h7).1
      split at h6
      · simp only [beq_iff_eq] at h6
        subst h6
        exact both (s_rng1 o h3 h4 q h5) fun _ => rfl
      · cases h6
    · cases h
theorem s_L : ∀ (es : EL) {sc : Scope} {X : Cx} {EW : XK} {xs : List Expr}, XOk L y N lv sc X EW → cL L N sc es xs = true → PA X xs (tL y EW es)
  | .nil, sc, X, EW, xs, o, h => by
    simp only [cL] at h
    split at h
    · exact s_nil
    · cases h
  | .cons e es, sc, X, EW, xs, o, h => by
    simp only [cL] at h
    split at h
    · simp only [Bool.and_eq_true] at h
      obtain ⟨⟨h1, h2⟩, h3⟩ := h
      exact s_cons (s_E e o h2).1 (s_L es o h3) h1
    · cases h
  | .star e es, sc, X, EW, xs, o, h => by
    simp only [cL] at h
    split at h
    · simp only [Bool.and_eq_true] at h
      exact s_star o (s_E e o h.1).1 (s_L es o h.2)
    · cases h
theorem s_B : ∀ (es : EL) {sc : Scope} {X : Cx} {EW : XK} {xs : List Expr}, XOk L y N lv sc X EW → cB L N sc es xs = true → ∀ pos, PE X (.BoolOp .And xs pos) (tAn y EW es) ∧ PW X (.BoolOp .And xs pos) (tAt y EW es) ∧ PE X (.BoolOp .Or xs pos) (tOn y EW es) ∧ PW X (.BoolOp .Or xs pos) (tOt y EW es)
  | .nil, sc, X, EW, xs, o, h, pos => by unfold cB at h; cases h
  | .star _ _, sc, X, EW, xs, o, h, pos => by unfold cB at h; cases h
  | .cons e es, sc, X, EW, xs, o, h, pos => by
    unfold cB at h
    split at h
    · cases h
    · simp only [Bool.and_eq_true] at h
      obtain ⟨h1, h2⟩ := h
      have q := s_E e o h1
      split at h2
      · split at h2
        · exact ⟨s_and1 q.1, s_and1t q.2, s_or1 q.1, s_or1t q.2⟩
        · cases h2
      · have z := s_B es o h2 pos
        exact ⟨s_andC q.1 z.1, s_andCt q.2 z.2.1, s_orC q.1 z.2.2.1, s_orCt q.2 z.2.2.2⟩
theorem s_T : ∀ (es : EL) {sc : Scope} {X : Cx} {xs : List Expr}, XOk L y N lv sc X E0 → cT L N sc es xs = true → PTs X xs (tAt y E0 es)
  | .nil, sc, X, xs, o, h => by
    simp only [cT] at h
    split at h
    · exact pts_of (fun a x e => by cases e) (.inl ⟨rfl, rfl⟩)
    · cases h
  | .star _ _, sc, X, xs, o, h => by simp [cT] at h
  | .cons e es, sc, X, xs, o, h => by
    simp only [cT] at h
    split at h
    · simp only [Bool.and_eq_true] at h
      obtain ⟨h1, h2⟩ := h
      have q := s_E e o h2
      split at h1
      · exact pts_of (fun a x e1 e2 => by cases e1; cases e2; exact q.2) (.inr ⟨_, _, rfl, rfl⟩)
      · cases h1
    · cases h
theorem s_I : ∀ (it : IT) {sc : Scope} {X : Cx} {EW : XK} {tg x : Expr}, XOk L y N lv sc X EW → cI L N sc it tg x = true → PI X tg x (tIT y EW it)
  | .seq a, sc, X, EW, tg, x, o, h => i_seq o (s_E a o (by simpa only [cI] using h)).1
  | .chars a, sc, X, EW, tg, x, o, h => i_chars (s_E a o (by simpa only [cI] using h)).1
  | .rng a b, sc, X, EW, tg, x, o, h => by
    simp only [cI] at h
    split at h
    · simp only [Bool.and_eq_true, beq_iff_eq] at h
      obtain ⟨⟨⟨⟨⟨h1, h2⟩, h3⟩, h4⟩, h5⟩, h6⟩ := h
      subst h1
      exact i_rng2 o h2 (s_E a o h5).1 (s_E b o h6).1 h3 h4
    · simp only [Bool.and_eq_true, beq_iff_eq] at h
      obtain ⟨⟨⟨⟨h1, h2⟩, h3⟩, h4⟩, h5⟩ := h
      subst h1
      have q := (s_E b o h5).1
      split at h4
      · simp only [beq_iff_eq] at h4
        subst h4
        exact i_rng1 o h2 q h3
      · cases h4
    · cases h
  | .enum a, sc, X, EW, tg, x, o, h => by
    simp only [cI] at h
    split at h
    · simp only [Bool.and_eq_true, beq_iff_eq] at h
      obtain ⟨⟨⟨h1, h2⟩, h3⟩, h4⟩ := h
      subst h1
      exact i_enum o h2 (s_E a o h4).1 h3
    · cases h
  | .zip a b, sc, X, EW, tg, x, o, h => by
    simp only [cI] at h
    split at h
    · simp only [Bool.and_eq_true, beq_iff_eq] at h
      obtain ⟨⟨⟨⟨⟨h1, h2⟩, h3⟩, h4⟩, h5⟩, h6⟩ := h
      subst h1
      exact i_zip o h2 (s_E a o h5).1 (s_E b o h6).1 h3 h4
    · cases h
  | .keys _, sc, X, EW, tg, x, o, h => by simp [cI] at h
end
end
end Cy

set_option Elab.async false
set_option linter.all false
set_option maxRecDepth 100000
set_option maxHeartbeats 4000000
/-! CyTry4: the try statement. -/
namespace Cy
open PySem L2
open PySem.PyData (strOk)
def cTX (L : Lk) (N : List Str) (sc : Scope) : TX → Expr → Bool
  | .call f es, x => match x with
    | .Call (.Name n _) (z :: xs) [] _ => decide ((f, n) ∈ L.fns) && glB sc n && !(n == ("__debug__" : Str)) && nstar z && nstars xs && cL L N sc es (z :: xs)
    | _ => false
  | .make c f es, x => match x with
    | .Call (.Name n _) (z :: xs) [] _ => decide ((c, n) ∈ L.clss) && decide ((c, f, ("__init__" : Str)) ∈ L.meths) && glB sc n && !(n == ("__debug__" : Str)) && nstar z && nstars xs && cL L N sc es (z :: xs)
    | _ => false
  | .meth c f o es, x => match x with
    | .Call (.Attribute l m ap) (z :: xs) [] p => decide ((c, f, m) ∈ L.meths) && abB l && (ap.endLine == p.line) && nstar z && nstars xs && decide ((z :: xs).length < 30) && cE L N sc o l && cL L N sc es (z :: xs)
    | _ => false
/-- name = call, or the call alone -/
def cT0 (L : Lk) (N : List Str) (sc : Scope) (fb : Str → Bool) (b : TX) : Option Nat → Stmt → Bool
  | none, .Expr x _ => noComp x && cTX L N sc b x
  | some k, .Assign [.Name n _] x _ => decide (N[k]? = some n) && nmB sc fb n && noComp x && cTX L N sc b x
  | _, _ => false
def cHd (L : Lk) (N : List Str) (sc : Scope) (fb : Str → Bool) (kn : List Nat) (h : HD) : ExceptHandler → Bool
  | .ExceptHandler (some (.Name x _)) (some n) [.Assign [.Name q _] r _] _ => (match L.errs.find? (fun e => e.1 == h.c && e.2.1 == x) with
    | some (_, _, fl) => cHX L N sc fl h.j h.x r
    | none => false) && kn.all (fun k => L.errs.any fun e => e.1 == k) && glB sc x && !(x == ("__debug__" : Str)) && decide (N[h.j]? = some n) && decide (sc.names.lookup n = some .local) && decide (N[h.i]? = some q) && nmB sc fb q && noComp r
  | _ => false
/-- what the statements ask of the context -/
structure TkOk (X : Cx) (EW : XK) : Prop where
  tk : Takes X fun cls d _ H => EW cls d H
  stk : X.stack = X.env :: X.outer
  fr : X.env.frame = some X.env.locals
section
variable {L : Lk} {y : Sy} {N : List Str} {lv : Nat} {sc : Scope} {X : Cx} {EW : XK} {G : L2.St → XK} {x l r : Expr} {pos : Pos} {fb : Str → Bool}
theorem s_TX {b : TX} (o : XOk L y N lv sc X E0) (pass : ∀ σ, PassesAt (L2.CX X.prog X.w) X σ (G σ)) (h : cTX L N sc b x = true) : PE X x (tX y G b) := by
  cases b <;> simp only [cTX] at h <;> split at h <;> first | (cases h; done) | simp only [Bool.and_eq_true, decide_eq_true_eq, Bool.not_eq_true'] at h
  · obtain ⟨⟨⟨⟨⟨h1, h2⟩, h3⟩, h4⟩, h5⟩, h6⟩ := h
    exact x_call o pass h1 h2 h3 (s_L _ o h6) h4 h5
  · obtain ⟨⟨⟨⟨⟨⟨h1, h2⟩, h3⟩, h4⟩, h5⟩, h6⟩, h7⟩ := h
    exact x_make o pass h1 h2 h3 h4 (s_L _ o h7) h5 h6
  · obtain ⟨⟨⟨⟨⟨⟨⟨h1, h2⟩, h3⟩, h4⟩, h5⟩, h6⟩, h7⟩, h8⟩ := h
    exact x_meth o pass h1 (s_E _ o h7).1 h2 h3 (s_L _ o h8) h4 h5 h6
theorem sit_catch {c : Cl} {σ : L2.St} {H : Hp} {env : Env} {m : Store} {ta : List Addr} {i j : Nat} {v u : V} {d : D} (s : Sit c σ H env m ta) (h : Rep c (view H ta m) v d) :
    Sit c (((σ.set j (some u)).set i (some v)).set j none) H (clrS j (setS i (.v d) env)) m ta := by
  refine ⟨by rw [clrS_length, setS_length]; simp [s.len], fun k w e => ?_, s.toks⟩
  rw [getS_clrS] at e
  split at e
  · cases e
  · rename_i hk
    rw [List.getElem?_set_ne (Ne.symm hk)]
    rw [getS_setS] at e
    split at e
    · rename_i hi
      obtain ⟨rfl, hl⟩ := hi
      cases e
      exact ⟨v, by rw [List.getElem?_set_self (by simp; rw [← s.len]; exact hl)], h⟩
    · rename_i hi
      have hn : k ≠ i := fun z => hi ⟨z, z ▸ getS_lt e⟩
      rw [List.getElem?_set_ne (Ne.symm hn), List.getElem?_set_ne (Ne.symm hk)]
      exact s.env k w e
theorem pss_1 {st : Stmt} {t : TS} (h : PS X st t) : PSs X [st] t := (pss_cons h pss_nil).imp fun D σ H q => q
/-- the store of the one call's answer -/
def tS0 (t : Option Nat) (te : TE) : TS := fun D σ H => te σ H fun v H1 => D.nx (match t with | some k => σ.set k (some v) | none => σ) H1
theorem st_try {t : Option Nat} {b : TX} {kn : List Nat} {h : HD} {s0 : Stmt} {hd : ExceptHandler} (tko : TkOk X EW) (o : XOk L y N lv sc X EW) (fo : ∀ x, fb x = true → X.fn x = true) (h1 : cT0 L N sc fb b t s0 = true) (h2 : cHd L N sc fb kn h hd = true) :
    PS X (.Try [s0] [hd] [] [] pos) (tS y EW (.try_ t b .nil kn [h])) := by
  unfold cHd at h2
  split at h2
  case h_2 => cases h2
  rename_i x np n q qp r ap hp
  simp only [Bool.and_eq_true, decide_eq_true_eq, Bool.not_eq_true'] at h2
  obtain ⟨⟨⟨⟨⟨⟨⟨⟨k1, k2⟩, k3⟩, k4⟩, k5⟩, k6⟩, k7⟩, k8⟩, k9⟩ := h2
  split at k1
  case h_2 => cases k1
  rename_i c' x' fl hfind
  have hmem := List.mem_of_find?_eq_some hfind
  have hpr := List.find?_some hfind
  simp only [Bool.and_eq_true, beq_iff_eq] at hpr
  obtain ⟨rfl, rfl⟩ := hpr
  have K := o.lnk.err _ _ fl hmem
  let ts : Addr → Value → Option Addr → TS := fun a cls d => tAsg (tH y h.j a cls d h.c h.x) (gName h.i)
  have hl := nm_of o fo k8
  refine (ps_try_as (i := h.j) (ts := ts) (tb := fun W => tS0 t (tX y (WE W) b)) (Wout := fun cls d _ H => EW cls d H) (c := .ref (y.c.ca h.c)) tko.stk tko.fr (by rw [o.hN]; exact o.nd) (by rw [o.hN]; exact k5) (by unfold Env.kindOf; rw [o.sc]; exact k6)
    ⟨gl_of o k3, k4, .inl K.mg⟩ tko.tk (fun W pn xe tk hpa => ?_) (fun a oe cls d pn hz hf => ?_)).imp ?_
  · have o' : XOk L y N lv sc (X.tr pn xe) E0 := ⟨o.hN, o.nd, o.sc, o.calm, o.room, passes_no, ⟨o.lnk.hK, o.lnk.hcs, o.lnk.fn, o.lnk.kfn, o.lnk.cls, o.lnk.gcls, o.lnk.fld, o.lnk.meth, o.lnk.init, o.lnk.prop, o.lnk.lens, o.lnk.eqs,
      fun c n fl h => ⟨(o.lnk.err c n fl h).fe, (o.lnk.err c n fl h).mg, (o.lnk.err c n fl h).f⟩, o.lnk.hier, o.lnk.ebase, o.lnk.glob, o.lnk.bt, o.lnk.kit⟩⟩
    unfold cT0 at h1
    split at h1
    · simp only [Bool.and_eq_true] at h1
      exact pss_1 ((ps_expr (s_TX o' (passAt tk) h1.2) (sw_no h1.1)).imp fun D σ H q => q)
    · simp only [Bool.and_eq_true, decide_eq_true_eq] at h1
      obtain ⟨⟨⟨z1, z2⟩, z3⟩, z4⟩ := h1
      have hl := nm_of o' (fb := fb) (fun x hx => fo x hx) z2
      exact pss_1 ((ps_set (by rw [o'.hN]; exact o'.nd) (by rw [o'.hN]; exact z1) (hl.elim .inl fun z => .inr z.1) (s_TX o' (passAt tk) z4) (sw_no z3) (hl.elim .inr fun z => .inl z.2)).imp fun D σ H q => q)
    · cases h1
  · by_cases e : cls = .ref (y.c.ca h.c)
    · subst e
      exact pss_1 (ps_set (X := X.suite a ((a, oe) :: pn)) (by show X.N.Nodup; rw [o.hN]; exact o.nd) (by show X.N[h.i]? = _; rw [o.hN]; exact k7) (hl.elim .inl fun z => .inr z.1) (s_HX o hmem hz hf h.x k1) (sw_no k9) (hl.elim .inr fun z => .inl z.2))
    · exact pss_1 (ps_set (X := X.suite a ((a, oe) :: pn)) (te := tH y h.j a cls d h.c h.x) (by show X.N.Nodup; rw [o.hN]; exact o.nd) (by show X.N[h.i]? = _; rw [o.hN]; exact k7) (hl.elim .inl fun z => .inr z.1) ⟨fun pins s σ H Q I hq => absurd hq.2.1 e⟩ (sw_no k9) (hl.elim .inr fun z => .inl z.2))
  · intro D σ H ⟨env, m, ta, s, rr⟩
    have rr : RunS y.c y.fe EW D (view H ta m) ta (tryS (evTX y.F b env m) (fun w m => (RS.nx (storeO t w env) m).noex) fun n ds m => catchS kn [h] n ds env m) := rr
    refine ⟨env, m, ta, s, ?_⟩
    generalize evTX y.F b env m = z at rr ⊢
    cases z with
    | bad => exact rr.elim
    | ok w m1 =>
      intro H1 ta1 p1 v hv
      have s1 := s.step p1
      cases t with
      | none => exact rr _ H1 ta1 p1 s1
      | some k => exact rr _ H1 ta1 p1 (s1.set hv)
    | ex n ds m1 =>
      intro d H1 ta1 p1 ea
      have r2 : RunS y.c y.fe EW D (view H ta m) ta (catchS kn [h] n ds env m1) := rr
      clear rr
      obtain ⟨xv, e0, rfl, hx, hr⟩ := ea.at_
      unfold catchS at r2
      dsimp only at r2
      split at r2
      case isFalse => exact r2.elim
      rename_i hkn
      have hq := List.all_eq_true.mp k2 n (by simpa using hkn)
      obtain ⟨⟨n', xn, fm⟩, hin, hn⟩ := List.any_eq_true.mp hq
      simp only [beq_iff_eq] at hn
      subst hn
      have hx0 := o.lnk.hier _ _ _ _ _ _ hin hmem
      refine ⟨_, hx0, fun hb a ha => ?_, fun hb => ?_⟩
      · simp only [beq_iff_eq] at hb
        unfold catchL at r2
        rw [if_pos hb] at r2
        split at r2
        case isFalse => exact r2.elim
        rename_i hj
        rw [s.len] at hj
        subst hb
        have s1 := s.step p1
        refine ⟨?_, rfl, m1, ta1, d, xv, e0, p1.toks, rfl, hx, hr, fun v H' p2 hv => ?_⟩
        · rw [List.getElem?_set_self hj]
        · exact r2 _ H' ta1 (p1.trans p2) (sit_catch (s1.step p2) hv)
      · have hb' : n' ≠ h.c := by simpa using hb
        unfold catchL at r2
        rw [if_neg hb'] at r2
        exact r2 d H1 ta1 p1 ea
end
end Cy

set_option Elab.async false
set_option linter.all false
set_option maxRecDepth 100000
set_option maxHeartbeats 4000000
/-! CySound16: chk of statements, and why it is enough. -/
namespace Cy
open PySem L2
open PySem.PyData (strOk)
/-- may a comprehension be stored in one step under that name? -/
def ownC (sc scope : Scope) (n : Str) (p cp : Pos) : Bool :=
  (match sc.names.lookup n with | some .local => true | _ => false) && (p.line == cp.line) && !(scope.names.any fun (z, k) => z == n && (k == .local || k == .cell)) && (match sc.kind with | .function => true | _ => false)
def cAsg (L : Lk) (N : List Str) (sc : Scope) (fb : Str → Bool) (i : Nat) (e : E) (n : Str) (p : Pos) (x : Expr) : Bool :=
  decide (N[i]? = some n) && cE L N sc e x && ((match sc.names.lookup n with | some .cell => fb n | _ => false) || match x with
    | .ListComp _ _ scope cp => ownC sc scope n p cp && (match e with | .comp _ _ _ _ _ => true | _ => false)
    | .DictComp _ _ _ scope cp => ownC sc scope n p cp && (match e with | .dcomp _ _ _ _ _ _ => true | _ => false)
    | x => noComp x && nmB sc fb n)
mutual
def cS (L : Lk) (N : List Str) (sc : Scope) (fb : Str → Bool) : S → Stmt → Bool
  | .asg i e, st => match st with
    | .Assign [.Name n p] x _ => cAsg L N sc fb i e n p x
    | _ => false
  | .asgG g e, st => match st with
    | .Assign [tg] x _ => gB N sc fb g tg && noComp x && notTup x && cE L N sc e x
    | _ => false
  | .par is es, st => match st with
    | .Assign [.Tuple [.Name n1 p1, .Name n2 p2] _ _] (.Tuple [l, r] _ _) _ => (match is, es with
      | [i, j], .cons a (.cons b .nil) => decide (N[i]? = some n1) && decide (N[j]? = some n2) && !(i == j) && (match sc.kind with | .function => true | _ => false) && parB sc n1 n2 p1 p2 l r && cE L N sc a l && cE L N sc b r
      | _, _ => false)
    | .Assign [.Tuple [.Name n1 p1, .Name n2 p2, .Name n3 p3] _ _] (.Tuple [l, r, z] _ _) _ => (match is, es with
      | [i, j, q], .cons a (.cons b (.cons c .nil)) => decide (N[i]? = some n1) && decide (N[j]? = some n2) && decide (N[q]? = some n3) && !(i == j) && !(i == q) && !(j == q) && (match sc.kind with | .function => true | _ => false) && par3B sc n1 n2 n3 p1 p2 p3 l r z && cE L N sc a l && cE L N sc b r && cE L N sc c z
      | _, _ => false)
    | _ => false
  | .fset c a i b, st => match st with
    | .Assign [.Attribute x f _] r _ => fldB L c i f && noComp r && cE L N sc a x && cE L N sc b r
    | _ => false
  | .iset a b c, st => match st with
    | .Assign [.Subscript x l _] r _ => plainIxB l && noComp r && notTup r && cE L N sc a x && cE L N sc b l && cE L N sc c r
    | _ => false
  | .mut f o es, st => match st with
    | .Expr (.Call (.Attribute x m ap) [r] [] cp) _ => (match f, es with
      | .append, .cons b .nil => (m == ("append" : Str)) && abB x && nstar r && (ap.endLine == cp.line) && cE L N sc o x && cE L N sc b r
      | .extend, .cons b .nil => (m == ("extend" : Str)) && abB x && nstar r && (ap.endLine == cp.line) && cE L N sc o x && cE L N sc b r
      | _, _ => false)
    | .Expr (.Call (.Attribute x m ap) [r, z] [] cp) _ => (match f, es with
      | .insert, .cons b (.cons c .nil) => (m == ("insert" : Str)) && abB x && nstar r && nstar z && (ap.endLine == cp.line) && cE L N sc o x && cE L N sc b r && cE L N sc c z
      | _, _ => false)
    | .Expr (.Call (.Attribute x m ap) [] [] cp) _ => (match f, es with
      | .clear, .nil => (m == ("clear" : Str)) && abB x && (ap.endLine == cp.line) && cE L N sc o x
      | .reverse, .nil => (m == ("reverse" : Str)) && abB x && (ap.endLine == cp.line) && cE L N sc o x
      | _, _ => false)
    | _ => false
  | .expr e, st => match st with
    | .Expr x _ => noComp x && cE L N sc e x
    | _ => false
  | .if_ c a b, st => match st with
    | .If t xs ys _ => cE L N sc c t && cSL L N sc fb a xs && cSL L N sc fb b ys
    | _ => false
  | .for_ g it b, st => match st with
    | .For tg x xs [] _ => gB N sc fb g tg && notSet x && cI L N sc it tg x && cSL L N sc fb b xs
    | _ => false
  | .while_ c b, st => match st with
    | .While t xs [] _ => cE L N sc c t && cSL L N sc fb b xs
    | _ => false
  | .ret e, st => match st with
    | .Return (some x) _ => cE L N sc e x
    | _ => false
  | .ret0, st => match st with
    | .Return none _ => true
    | _ => false
  | .pass, st => match st with
    | .Pass _ => true
    | _ => false
  | .aug i e, st => match st with
    | .AugAssign (.Name n _) .Add x _ => decide (N[i]? = some n) && nmB sc fb n && cE L N sc e x
    | _ => false
  | .nev, _ => true
  | .parG gs es, st => match st with
    | .Assign [.Tuple ts _ _] (.Tuple xs _ _) _ => gsB N sc fb gs ts && decide (ts.length ≤ 100) && swB sc ts xs && cL L N sc es xs
    | _ => false
  | .iset2 a1 b1 a2 b2 a b, st => match st with
    | .Assign [.Tuple [.Subscript x1 i1 _, .Subscript x2 i2 _] _ _] (.Tuple [l, r] _ _) _ => nstar l && nstar r && plainIxB i1 && plainIxB i2 && cE L N sc a1 x1 && cE L N sc b1 i1 && cE L N sc a2 x2 && cE L N sc b2 i2 && cE L N sc a l && cE L N sc b r
    | _ => false
  | .pop _ _, _ => false
  | .raise c es, st => match st with
    | .Raise (some (.Call (.Name n _) [x] [] _)) none _ => (match es with
      | .cons a .nil => (L.errs.any fun e => e.1 == c && e.2.1 == n) && glB sc n && !(n == ("__debug__" : Str)) && nstar x && cE L N sc a x
      | _ => false)
    | _ => false
  | .try_ t b rest kn hs, st => match st with
    | .Try [s0] [hd] [] [] _ => (match rest, hs with
      | .nil, [h] => cT0 L N sc fb b t s0 && cHd L N sc fb kn h hd
      | _, _ => false)
    | _ => false
  | .frz _, _ => false
def cSL (L : Lk) (N : List Str) (sc : Scope) (fb : Str → Bool) : SL → List Stmt → Bool
  | .nil, xs => match xs with
    | [] => true
    | _ => false
  | .cons s ss, xs => match s with
    | .frz _ => cSL L N sc fb ss xs
    | s => match xs with
      | x :: xs => cS L N sc fb s x && cSL L N sc fb ss xs
      | [] => false
end
section
variable {L : Lk} {y : Sy} {N : List Str} {lv : Nat} {sc : Scope} {X : Cx} {EW : XK} {x l r tg : Expr} {xs : List Expr} {a b c : E} {es : EL} {pos : Pos} {fb : Str → Bool}
theorem ownC_of {scope : Scope} {n : Str} {p cp : Pos} (h : ownC sc scope n p cp = true) : sc.names.lookup n = some .local ∧ (p.line == cp.line) = true ∧ (scope.names.any fun (z, k) => z == n && (k == .local || k == .cell)) = false ∧ sc.kind = .function := by
  unfold ownC at h
  simp only [Bool.and_eq_true, Bool.not_eq_true'] at h
  obtain ⟨⟨⟨h1, h2⟩, h3⟩, h4⟩ := h
  refine ⟨?_, h2, h3, ?_⟩
  · split at h1
    · assumption
    · cases h1
  · split at h4
    · assumption
    · cases h4
theorem st_asgD {i : Nat} {n : Str} {p cpos : Pos} {g : G} {it : IT} {cs : EL} {ek e : E} {kx vx iter : Expr} {ifs : List Expr} {scope : Scope} (o : XOk L y N lv sc X EW) (hi' : N[i]? = some n) (hn : sc.names.lookup n = some .local) (hl : (p.line == cpos.line) = true)
    (ha : (scope.names.any fun (z, k) => z == n && (k == .local || k == .cell)) = false)
    (hk : sc.kind = .function) (hi : PI X tg iter (tIT y EW it)) (hns : notSet iter = true) (hb : blkC N sc scope (ownOf N g) = true) (hg : gB N (relS scope sc) (cellB scope) g tg = true)
    (ht : ∀ X', XOk L y N lv (relS scope sc) X' E0 → (∀ x, cellB scope x = true → X'.fn x = true) → PTs X' ifs (tAt y E0 cs))
    (hkx : ∀ X', XOk L y N lv (relS scope sc) X' E0 → (∀ x, cellB scope x = true → X'.fn x = true) → PE X' kx (tE y E0 ek))
    (he : ∀ X', XOk L y N lv (relS scope sc) X' E0 → (∀ x, cellB scope x = true → X'.fn x = true) → PE X' vx (tE y E0 e)) : PS X (.Assign [.Name n p] (.DictComp kx vx [⟨tg, iter, ifs, 0⟩] scope cpos) pos) (tS y EW (.asg i (.dcomp false g it cs ek e))) := by
  have ok : BlkOk X.N X.env.scope scope (ownOf N g) := by rw [o.hN, o.sc]; exact blkOk_by hb
  refine (ps_setDcH o.calm (by rw [o.hN]; exact o.nd) (by rw [o.hN]; exact hi') (by rw [o.sc]; exact hn) (sw_trueD (by rw [o.sc]; exact hk) (by rw [o.sc]; exact hn) hl ha) hi ok (fun s H C cl fp => s_g (o.blk s H scope C cl fp) (fun x h => h) g hg) (fun s H C cl fp => ht _ (o.blk s H scope C cl fp) fun x h => h) (fun s H C cl fp => hkx _ (o.blk s H scope C cl fp) fun x h => h) (fun s H C cl fp => he _ (o.blk s H scope C cl fp) fun x h => h) (folded_of hns)).imp (asg_imp fun σ H Q q => ?_)
  rw [own_slots]
  exact dcomp_imp σ H Q q
theorem sw_cell {x : Expr} {n : Str} {p : Pos} {l : Nat} {env : PySem.Env} (h : env.scope.names.lookup n = some .cell) : swapsWith x (some (.Name n p)) l env = pure false := by
  have k : env.kindOf n = some .cell := h
  cases x <;> first | rfl | (unfold swapsWith; simp only [k]; simp [show (NameKind.cell == NameKind.local) = false from by decide])
theorem s_asg {i : Nat} {e : E} {n : Str} {p : Pos} (o : XOk L y N lv sc X EW) (fo : ∀ x, fb x = true → X.fn x = true) (h : cAsg L N sc fb i e n p x = true) : PS X (.Assign [.Name n p] x pos) (tS y EW (.asg i e)) := by
  unfold cAsg at h
  simp only [Bool.and_eq_true, decide_eq_true_eq] at h
  obtain ⟨⟨h1, h2⟩, h3⟩ := h
  rcases Bool.or_eq_true_iff.mp h3 with hc | h3
  · split at hc
    · rename_i hk
      have hk' : X.env.scope.names.lookup n = some .cell := by rw [o.sc]; exact hk
      exact (ps_set (i := i) (by rw [o.hN]; exact o.nd) (by rw [o.hN]; exact h1) (.inr hk') (s_E e o h2).1 (sw_cell hk') (.inl (fo n hc))).imp (asg_imp fun σ H Q q => q)
    · cases hc
  split at h3
  · rename_i elt gens scope cp
    simp only [Bool.and_eq_true] at h3
    obtain ⟨h3, h4⟩ := h3
    split at h4
    · obtain ⟨q1, q2, q3, q4⟩ := ownC_of h3
      unfold cE at h2
      split at h2
      · rename_i elt tg iter ifs scope p' heq
        cases heq
        simp only [Bool.and_eq_true] at h2
        obtain ⟨⟨⟨⟨⟨z1, z2⟩, z3⟩, z4⟩, z5⟩, z6⟩ := h2
        exact st_asgC o h1 q1 q2 q3 q4 (s_I _ o z4) z1 z2 z3 (fun X' o' _ => s_T _ o' z5) (fun X' o' _ => (s_E _ o' z6).1)
      · cases h2
    · cases h4
  · rename_i kx vx gens scope cp
    simp only [Bool.and_eq_true] at h3
    obtain ⟨h3, h4⟩ := h3
    split at h4
    · obtain ⟨q1, q2, q3, q4⟩ := ownC_of h3
      unfold cE at h2
      split at h2
      · rename_i kx vx tg iter ifs scope p' heq
        cases heq
        simp only [Bool.and_eq_true, Bool.not_eq_true'] at h2
        obtain ⟨⟨⟨⟨⟨⟨⟨z0, z1⟩, z2⟩, z3⟩, z4⟩, z5⟩, z6⟩, z7⟩ := h2
        subst z0
        exact st_asgD o h1 q1 q2 q3 q4 (s_I _ o z4) z1 z2 z3 (fun X' o' _ => s_T _ o' z5) (fun X' o' _ => (s_E _ o' z6).1) (fun X' o' _ => (s_E _ o' z7).1)
      · cases h2
    · cases h4
  · simp only [Bool.and_eq_true] at h3
    exact st_asg o fo h1 h3.2 (s_E e o h2).1 h3.1
theorem fld_of {L : Lk} {c i : Nat} {f : Str} (h : fldB L c i f = true) : ∃ fs, (c, fs) ∈ L.flds ∧ fs[i]? = some f := by
  unfold fldB at h
  obtain ⟨⟨c', fs⟩, hm, hq⟩ := List.any_eq_true.mp h
  simp only [Bool.and_eq_true, beq_iff_eq] at hq
  obtain ⟨rfl, hq⟩ := hq
  exact ⟨fs, hm, hq⟩
mutual
theorem s_S (tko : TkOk X EW) (hp : PassesOwn (model X.prog X.w) X.A X.env X.xe) (o : XOk L y N lv sc X EW) (fo : ∀ x, fb x = true → X.fn x = true) : ∀ (s : S) {st : Stmt}, cS L N sc fb s st = true → PS X st (tS y EW s)
  | .asg i e, st, h => by
    unfold cS at h
    split at h
    · exact s_asg o fo h
    · cases h
  | .asgG g e, st, h => by
    unfold cS at h
    split at h
    · simp only [Bool.and_eq_true] at h
      obtain ⟨⟨⟨h1, h2⟩, h3⟩, h4⟩ := h
      exact st_asgG o fo h1 (s_E e o h4).1 h2 h3
    · cases h
  | .par is es, st, h => by
    unfold cS at h
    split at h
    · split at h
      · rename_i i j a b
        simp only [Bool.and_eq_true, decide_eq_true_eq, Bool.not_eq_true'] at h
        obtain ⟨⟨⟨⟨⟨⟨h1, h2⟩, h3⟩, h4⟩, h5⟩, h6⟩, h7⟩ := h
        have hk : sc.kind = .function := by
          split at h4
          · assumption
          · cases h4
        exact st_par o hk h1 h2 (by simpa using h3) (s_E a o h6).1 (s_E b o h7).1 h5
      · cases h
    · split at h
      · rename_i i j q a b c
        simp only [Bool.and_eq_true, decide_eq_true_eq, Bool.not_eq_true'] at h
        obtain ⟨⟨⟨⟨⟨⟨⟨⟨⟨⟨h1, h2⟩, h3⟩, h4⟩, h5⟩, h6⟩, h7⟩, h8⟩, h9⟩, h10⟩, h11⟩ := h
        have hk : sc.kind = .function := by
          split at h7
          · assumption
          · cases h7
        exact st_par3 o hk h1 h2 h3 (by simpa using h4) (by simpa using h5) (by simpa using h6) (s_E a o h9).1 (s_E b o h10).1 (s_E c o h11).1 h8
      · cases h
    · cases h
  | .fset c a i b, st, h => by
    unfold cS at h
    split at h
    · simp only [Bool.and_eq_true] at h
      obtain ⟨⟨⟨h1, h2⟩, h3⟩, h4⟩ := h
      obtain ⟨fs, q1, q2⟩ := fld_of h1
      exact st_fset o (s_E a o h3).1 (s_E b o h4).1 q1 q2 h2
    · cases h
  | .iset a b c, st, h => by
    unfold cS at h
    split at h
    · simp only [Bool.and_eq_true] at h
      obtain ⟨⟨⟨⟨⟨h1, h2⟩, h3⟩, h4⟩, h5⟩, h6⟩ := h
      exact st_iset o (s_E a o h4).1 (s_E b o h5).1 (s_E c o h6).1 h1 h2 h3
    · cases h
  | .mut f a es, st, h => by
    unfold cS at h
    split at h
    · split at h
      · simp only [Bool.and_eq_true, beq_iff_eq] at h
        obtain ⟨⟨⟨⟨⟨h1, h2⟩, h3⟩, h4⟩, h5⟩, h6⟩ := h
        subst h1
        exact st_append (s_E a o h5).1 (s_E _ o h6).1 h2 h3 (by simpa using h4)
      · simp only [Bool.and_eq_true, beq_iff_eq] at h
        obtain ⟨⟨⟨⟨⟨h1, h2⟩, h3⟩, h4⟩, h5⟩, h6⟩ := h
        subst h1
        exact st_extend (s_E a o h5).1 (s_E _ o h6).1 h2 h3 (by simpa using h4)
      · cases h
    · split at h
      · simp only [Bool.and_eq_true, beq_iff_eq] at h
        obtain ⟨⟨⟨⟨⟨⟨⟨h1, h2⟩, h3⟩, h4⟩, h5⟩, h6⟩, h7⟩, h8⟩ := h
        subst h1
        exact st_insert (s_E a o h6).1 (s_E _ o h7).1 (s_E _ o h8).1 h2 h3 h4 (by simpa using h5)
      · cases h
    · split at h
      · simp only [Bool.and_eq_true, beq_iff_eq] at h
        obtain ⟨⟨⟨h1, h2⟩, h3⟩, h4⟩ := h
        subst h1
        exact st_clear (s_E a o h4).1 h2 (by simpa using h3)
      · simp only [Bool.and_eq_true, beq_iff_eq] at h
        obtain ⟨⟨⟨h1, h2⟩, h3⟩, h4⟩ := h
        subst h1
        exact st_reverse (s_E a o h4).1 h2 (by simpa using h3)
      · cases h
    · cases h
  | .expr e, st, h => by
    unfold cS at h
    split at h
    · simp only [Bool.and_eq_true] at h
      exact st_expr (s_E e o h.2).1 h.1
    · cases h
  | .if_ c t f, st, h => by
    unfold cS at h
    split at h
    · simp only [Bool.and_eq_true] at h
      obtain ⟨⟨h1, h2⟩, h3⟩ := h
      exact st_if (s_E c o h1).2 (s_SL tko hp o fo t h2) (s_SL tko hp o fo f h3)
    · cases h
  | .for_ g it b, st, h => by
    unfold cS at h
    split at h
    · simp only [Bool.and_eq_true] at h
      obtain ⟨⟨⟨h1, h2⟩, h3⟩, h4⟩ := h
      exact st_for hp o fo (s_I it o h3) h1 (s_SL tko hp o fo b h4) h2
    · cases h
  | .while_ c b, st, h => by
    unfold cS at h
    split at h
    · simp only [Bool.and_eq_true] at h
      exact st_while hp (s_E c o h.1).2 (s_SL tko hp o fo b h.2)
    · cases h
  | .ret e, st, h => by
    unfold cS at h
    split at h
    · exact st_ret (s_E e o h).1
    · cases h
  | .ret0, st, h => by
    unfold cS at h
    split at h
    · exact st_ret0
    · cases h
  | .pass, st, h => by
    unfold cS at h
    split at h
    · exact st_pass
    · cases h
  | .aug i e, st, h => by
    unfold cS at h
    split at h
    · simp only [Bool.and_eq_true, decide_eq_true_eq] at h
      obtain ⟨⟨h1, h2⟩, h3⟩ := h
      exact st_aug o fo h1 h2 (s_E e o h3).1
    · cases h
  | .nev, st, h => st_nev
  | .parG gs es, st, h => by
    unfold cS at h
    split at h
    · simp only [Bool.and_eq_true, decide_eq_true_eq] at h
      obtain ⟨⟨⟨h1, h2⟩, h3⟩, h4⟩ := h
      exact st_parG o fo h1 h2 (s_L es o h4) h3
    · cases h
  | .iset2 a1 b1 a2 b2 a b, st, h => by
    unfold cS at h
    split at h
    · simp only [Bool.and_eq_true] at h
      obtain ⟨⟨⟨⟨⟨⟨⟨⟨⟨h1, h2⟩, h3⟩, h4⟩, h5⟩, h6⟩, h7⟩, h8⟩, h9⟩, h10⟩ := h
      exact st_iset2 o (s_E a1 o h5).1 (s_E b1 o h6).1 (s_E a2 o h7).1 (s_E b2 o h8).1 (s_E a o h9).1 (s_E b o h10).1 h1 h2 h3 h4
    · cases h
  | .pop _ _, st, h => by unfold cS at h; cases h
  | .raise c es, st, h => by
    unfold cS at h
    split at h
    · split at h
      · simp only [Bool.and_eq_true, Bool.not_eq_true'] at h
        obtain ⟨⟨⟨⟨h1, h2⟩, h3⟩, h4⟩, h5⟩ := h
        obtain ⟨⟨c', n', fl⟩, hm, hq⟩ := List.any_eq_true.mp h1
        simp only [Bool.and_eq_true, beq_iff_eq] at hq
        obtain ⟨rfl, rfl⟩ := hq
        exact st_raise o tko.tk hm h2 h3 h4 (s_E _ o h5).1
      · cases h
    · cases h
  | .try_ t b rest kn hs, st, h => by
    unfold cS at h
    split at h
    · split at h
      · simp only [Bool.and_eq_true] at h
        exact st_try tko o fo h.1 h.2
      · cases h
    · cases h
  | .frz _, st, h => by unfold cS at h; cases h
theorem s_SL (tko : TkOk X EW) (hp : PassesOwn (model X.prog X.w) X.A X.env X.xe) (o : XOk L y N lv sc X EW) (fo : ∀ x, fb x = true → X.fn x = true) : ∀ (ss : SL) {sts : List Stmt}, cSL L N sc fb ss sts = true → PSs X sts (tSs y EW ss)
  | .nil, sts, h => by
    unfold cSL at h
    split at h
    · exact ss_nil
    · cases h
  | .cons s ss, sts, h => by
    unfold cSL at h
    split at h
    · exact ss_frz (s_SL tko hp o fo ss h)
    · split at h
      · simp only [Bool.and_eq_true] at h
        exact ss_cons (s_S tko hp o fo s h.1) (s_SL tko hp o fo ss h.2)
      · cases h
end
end
end Cy

set_option Elab.async false
set_option linter.all false
set_option maxRecDepth 100000
set_option maxHeartbeats 4000000
/-! CySound17: a def by its body; all defs, n calls deep. -/
namespace Cy
open PySem L2
open PySem.PyData (strOk)
theorem finS_run {c : Cl} {fe : Nat → Str} {EW : XK} {H : Hp} {ta : List Addr} {m : Store} {r : RS} {Q : VK} (t : Toks c H ta m) (h : Run c fe EW (view H ta m) ta (finS m r) fun w m' H' ta' => ∀ v, Wr c (view H' ta' m') ta' v w → Q v H') :
    RunS c fe EW { nx := fun _ H' => Q .non H', rt := Q } (view H ta m) ta r := by
  cases r with
  | nx env m' =>
      intro σ' H' ta' p s
      obtain ⟨ta3, m3, p1, sm, r1⟩ := trunc_run (EW := EW) (α := W) (k := fun m1 => R.ok (.v .non) m1) t p h
      exact r1.at p1 .non .non
  | ret w m' =>
      intro H' ta' v p hv
      cases w with
      | t n => exact h H' ta' p v hv
      | v d =>
        obtain ⟨ta3, m3, p1, sm, r1⟩ := trunc_run (EW := EW) (α := W) (k := fun m1 => R.ok (.v d) m1) t p h
        exact r1.at p1 v (Rep.mono sm hv)
  | ex n ds m' =>
      intro d H' ta' p e
      obtain ⟨ta3, m3, p1, sm, r1⟩ := trunc_run (EW := EW) (α := W) (k := fun m1 => R.ex n ds m1) t p h
      obtain ⟨x, e', h1, h2, h3⟩ := e.at_
      exact r1 d H' _ p1 ⟨⟨x, e', h1, h2, h3.mono sm⟩⟩
  | brk env m' => exact h.elim
  | cnt env m' => exact h.elim
  | bad => exact h
theorem getS_get : ∀ (i : Nat) (env : Env), getS i env = (env[i]?).join
  | _, [] => by simp [getS]
  | 0, w :: _ => by simp [getS]
  | n + 1, _ :: ws => by simp [getS, getS_get n ws]
theorem sit_start {c : Cl} {H : Hp} {ta : List Addr} {m : Store} {N : List Str} {vs : List V} {ws : List W} {k : Nat} (t : Toks c H ta m) (h : Wrs c (view H ta m) ta vs ws) (hk : k = N.length - vs.length) : Sit c (L2.start N vs) H (ws.map some ++ List.replicate k none) m ta := by
  subst hk
  have hl := h.length
  refine ⟨by simp [L2.start, hl], fun i w e => ?_, t⟩
  rw [getS_get] at e
  unfold L2.start
  by_cases hi : i < ws.length
  · rw [List.getElem?_append_left (by simpa using hi), List.getElem?_map] at e
    obtain ⟨w', hw'⟩ : ∃ w', ws[i]? = some w' := ⟨ws[i], by simp [hi]⟩
    rw [hw'] at e
    have e : some w' = some w := e
    cases e
    obtain ⟨v, h1, h2⟩ := h.get hw'
    refine ⟨v, ?_, h2⟩
    rw [List.getElem?_append_left (by simp; omega), List.getElem?_map, h1]; rfl
  · rw [List.getElem?_append_right (by simpa using hi)] at e
    rw [List.getElem?_replicate] at e
    split at e <;> cases e
def strip : List Stmt → List Stmt
  | .Expr (.Constant (.str _) _ _) _ :: rest => rest
  | b => b
theorem strip_of {X : Cx} {b : List Stmt} {t : TS} (h : PSs X (strip b) t) : PSs X b t := by
  unfold strip at h
  split at h
  · exact (pss_cons ps_doc h).imp fun D σ H q => q
  · exact h
/-- a def of the text: its form, its meaning's text -/
structure DefOk (K : PySem.W.Frag) (L : Lk) (T : Tab) (f : Nat) (a : Addr) (fd : FuncData) (ps : List Str) : Prop where
  ex : ∃ (x qual : Str) (st : Stmt) (N : List Str) (d : Def) (kws : List (Str × V)), T.df f = some d ∧ FunD K x qual (defArgs st) (defBody st) (defScope st) [] kws a fd ∧ FnScope N ps (defScope st) ∧ d.np = ps.length ∧ d.nv = N.length ∧ cSL L N (defScope st) (fun _ => true) d.body (strip (defBody st)) = true
theorem DefOk.ar {K : PySem.W.Frag} {L : Lk} {T : Tab} {f : Nat} {a : Addr} {fd : FuncData} {ps : List Str} (D : DefOk K L T f a fd ps) (n : Nat) : ∀ ws m, ws.length ≠ ps.length → sem T n f ws m = .bad := fun ws m h => by
  obtain ⟨x, qual, st, N, d, kws, h1, _, _, h4, _⟩ := D.ex
  cases n with
  | zero => rfl
  | succ n =>
    show (match T.df f with | some d => evDef ⟨sem T n, T.glob, T.fuel⟩ d | none => fun _ _ => .bad) ws m = .bad
    rw [h1]
    show evDef ⟨sem T n, T.glob, T.fuel⟩ d ws m = .bad
    unfold evDef
    rw [if_neg (by omega)]
section
variable {P : Program} {w : PySem.World} {K : PySem.W.Frag} {mg : Str → Option Value} {base : Heap} {L : Lk} {T : Tab} {c : Cl} {fe : Nat → Str}
theorem fn_zero {f : Nat} {a : Addr} {fd : FuncData} {ps : List Str} (D : DefOk K L T f a fd ps) : FnOk P w K mg base (L2.CX P w) 0 a fd ps (spF ⟨c, fe, Fs T 0⟩ (sem T 0 f) ps.length) :=
  ⟨fun vs H Q E h => h.1, fun A outer s H args us vs Q E hr e0 hb r h => by
    obtain ⟨_, ws, m, ta, _, _, r⟩ := h
    exact r.elim⟩
theorem fn_succ {f : Nat} {a : Addr} {fd : FuncData} {ps : List Str} {n : Nat} (D : DefOk K L T f a fd ps) (lnk : ∀ X : Cx, X.prog = P → X.w = w → X.K = K → X.mg = mg → X.base = base → Lnk L ⟨c, fe, Fs T n⟩ X (2 * n)) :
    FnOk P w K mg base (L2.CX P w) (2 * (n + 1)) a fd ps (spF ⟨c, fe, Fs T (n + 1)⟩ (sem T (n + 1) f) ps.length) := by
  obtain ⟨x, qual, st, N, d, kws, h1, F, S, h4, h5, h6⟩ := D.ex
  refine F.ok (CX := L2.CX P w) (k := 2 * n + 1) S (fun vs H Q E h => h.1) fun cdv A outer s H vs Q E hr hsp => ?_
  let X := cxOf (L2.CX P w) P w K mg base N qual (defScope st) a cdv A outer s H E
  have o : XOk L ⟨c, fe, Fs T n⟩ N (2 * n) (defScope st) X E := ⟨rfl, S.nd, rfl, rfl, hr, passes_call (takes_of (X := X) (E := E) rfl rfl rfl rfl) (fun _ _ _ _ h => h), lnk X rfl rfl rfl rfl rfl⟩
  refine ⟨tSs ⟨c, fe, Fs T n⟩ E d.body, strip_of (s_SL (X := X) ⟨takes_of (X := X) (E := E) rfl rfl rfl rfl, rfl, rfl⟩ (passes_of rfl) o (fun _ _ => rfl) d.body h6), ?_⟩
  obtain ⟨hl, ws, m, ta, t, hw, r⟩ := hsp
  have r : Run c fe E (view H ta m) ta ((match T.df f with | some d => evDef ⟨sem T n, T.glob, T.fuel⟩ d | none => fun _ _ => .bad) ws m) (fun w m' H' ta' => ∀ v, Wr c (view H' ta' m') ta' v w → Q v H') := r
  rw [h1] at r
  have r : Run c fe E (view H ta m) ta (evDef ⟨sem T n, T.glob, T.fuel⟩ d ws m) (fun w m' H' ta' => ∀ v, Wr c (view H' ta' m') ta' v w → Q v H') := r
  unfold evDef at r
  obtain ⟨_, r⟩ := iteR_run r
  refine ⟨_, m, ta, sit_start t hw ?_, finS_run t r⟩
  rw [h4, h5, hl]
/-- what is known of a text behind its top -/
structure Txt (P : Program) (w : PySem.World) (K : PySem.W.Frag) (mg : Str → Option Value) (base : Heap) (L : Lk) (T : Tab) (c : Cl) (fe : Nat → Str) : Prop where
  hK : K = c.K
  hcs : L.clss.map (·.1) = c.cs
  fn : ∀ f x, (f, x) ∈ L.fns → ∃ a fd ps, mg x = some (.ref a) ∧ PySem.W.keepIn K (.ref a) = true ∧ Binds K fd ps [] ∧ DefOk K L T f a fd ps
  kfn : ∀ f x n, (f, x, n) ∈ L.kfns → ∃ a fd ps, KBind K fd ps n ∧ mg x = some (.ref a) ∧ PySem.W.keepIn K (.ref a) = true ∧ DefOk K L T f a fd ps
  cls : ∀ n x, (n, x) ∈ L.clss → mg x = some (.ref (c.ca n)) ∧ PySem.W.findIn K (.ref (c.ca n)) "__class__" = some (some (.builtin "object.__class__")) ∧ PySem.W.mroIn K (c.ca n) (.type "object") = some true ∧ Cls K (c.ca n)
  gcls : PySem.W.specialIn K (.builtin "object.__class__") "__get__" = some (some (.builtin "getset_descriptor.__get__")) ∧ PySem.W.takesIn K (.builtin "object.__class__") = some true
  fld : ∀ n fs, (n, fs) ∈ L.flds → c.fl n = fs ∧ Cls K (c.ca n) ∧ fs.Nodup ∧ fs.length ≤ 100 ∧ ∀ f ∈ fs, NoAttr K (c.ca n) f
  meth : ∀ n f x, (n, f, x) ∈ L.meths → Cls K (c.ca n) ∧ x ∉ c.fl n ∧ ∃ a fd ps, Meth K (c.ca n) x a ∧ Binds K fd ps [] ∧ DefOk K L T f a fd ps
  init : ∀ n f, (n, f, ("__init__" : Str)) ∈ L.meths → ∃ a fd ps, Mk K (c.ca n) a ∧ Binds K fd ps [] ∧ DefOk K L T f a fd ps
  prop : ∀ n f x, (n, f, x) ∈ L.props → Cls K (c.ca n) ∧ ∃ a p fd ps, PropOf K (c.ca n) x p a ∧ Binds K fd ps [] ∧ DefOk K L T f a fd ps
  lens : ∀ n f, (n, f) ∈ L.lens → ∃ a fd ps, PySem.W.findIn K (.ref (c.ca n)) "__len__" = some (some (.ref a)) ∧ PySem.W.isFn K (.ref a) = true ∧ Binds K fd ps [] ∧ DefOk K L T f a fd ps
  eqs : ∀ n f, (n, f) ∈ L.eqs → PySem.W.subIn K (.type "tuple") (.ref (c.ca n)) = some false ∧ ∃ a fd ps, PySem.W.findIn K (.ref (c.ca n)) "__eq__" = some (some (.ref a)) ∧ PySem.W.isFn K (.ref a) = true ∧ Binds K fd ps [] ∧ DefOk K L T f a fd ps
  err : ∀ n x fl, (n, x, fl) ∈ L.errs → fe n = fl ∧ mg x = some (.ref (c.ca n)) ∧ ErrF P K (c.ca n) fl
  hier : ∀ n x fl d z fm, (n, x, fl) ∈ L.errs → (d, z, fm) ∈ L.errs → PySem.W.exmOne K (.ref (c.ca n)) (.ref (c.ca d)) = some (n == d)
  ebase : ∀ b x, (b, x) ∈ L.ebase → mg x = some (.ref (c.ca b)) ∧ ∀ n z fl, (n, z, fl) ∈ L.errs → PySem.W.kitOne K (.ref (c.ca n)) (.ref (c.ca b)) = some true
  glob : ∀ g x, (g, x) ∈ L.globs → ∃ v u, mg x = some u ∧ RelV v u ∧ ∀ B, Rep c B v (T.glob g)
  bt : ∀ x ∈ bltNames, mg x = none
  kit : ∀ t u, okTy L t = true → okTy L u = true → PySem.W.kitOne K (tyVal c t) (tyVal c u) = some (isTy t u)
theorem Txt.lnk (E : Txt P w K mg base L T c fe) : ∀ (n : Nat) (X : Cx), X.prog = P → X.w = w → X.K = K → X.mg = mg → X.base = base → Lnk L ⟨c, fe, Fs T n⟩ X (2 * n) := by
  intro n
  induction n with
  | zero =>
    intro X h1 h2 h3 h4 h5
    subst h1 h2 h3 h4 h5
    exact {
      hK := E.hK, hcs := E.hcs, hier := E.hier, ebase := E.ebase, err := fun n x fl h => ⟨(E.err n x fl h).1, (E.err n x fl h).2.1, (E.err n x fl h).2.2⟩, cls := E.cls, gcls := E.gcls, fld := E.fld, glob := E.glob, bt := E.bt, kit := E.kit
      fn := fun f x h => let ⟨a, fd, ps, p1, p2, p3, D⟩ := E.fn f x h; ⟨a, fd, ps, p1, p2, p3, fn_zero D, D.ar 0⟩
      kfn := fun f x n h => let ⟨a, fd, ps, p1, p2, p3, D⟩ := E.kfn f x n h; ⟨a, fd, ps, p1, p2, p3, fn_zero D, D.ar 0⟩
      meth := fun n f x h => let ⟨p1, p2, a, fd, ps, p3, p4, D⟩ := E.meth n f x h; ⟨p1, p2, a, fd, ps, p3, p4, fn_zero D, D.ar 0⟩
      init := fun n f h => let ⟨a, fd, ps, p3, p4, D⟩ := E.init n f h; ⟨a, fd, ps, p3, p4, fn_zero D, D.ar 0⟩
      prop := fun n f x h => let ⟨p1, a, p, fd, ps, p3, p4, D⟩ := E.prop n f x h; ⟨p1, a, p, fd, ps, p3, p4, fn_zero D, D.ar 0⟩
      lens := fun n f h => let ⟨a, fd, ps, p2, p3, p4, D⟩ := E.lens n f h; ⟨a, fd, ps, p2, p3, p4, fn_zero D, D.ar 0⟩
      eqs := fun n f h => let ⟨p1, a, fd, ps, p2, p3, p4, D⟩ := E.eqs n f h; ⟨p1, a, fd, ps, p2, p3, p4, fn_zero D, D.ar 0⟩ }
  | succ n ih =>
    intro X h1 h2 h3 h4 h5
    subst h1 h2 h3 h4 h5
    exact {
      hK := E.hK, hcs := E.hcs, hier := E.hier, ebase := E.ebase, err := fun n x fl h => ⟨(E.err n x fl h).1, (E.err n x fl h).2.1, (E.err n x fl h).2.2⟩, cls := E.cls, gcls := E.gcls, fld := E.fld, glob := E.glob, bt := E.bt, kit := E.kit
      fn := fun f x h => let ⟨a, fd, ps, p1, p2, p3, D⟩ := E.fn f x h; ⟨a, fd, ps, p1, p2, p3, fn_succ D ih, D.ar _⟩
      kfn := fun f x n h => let ⟨a, fd, ps, p1, p2, p3, D⟩ := E.kfn f x n h; ⟨a, fd, ps, p1, p2, p3, fn_succ D ih, D.ar _⟩
      meth := fun n f x h => let ⟨p1, p2, a, fd, ps, p3, p4, D⟩ := E.meth n f x h; ⟨p1, p2, a, fd, ps, p3, p4, fn_succ D ih, D.ar _⟩
      init := fun n f h => let ⟨a, fd, ps, p3, p4, D⟩ := E.init n f h; ⟨a, fd, ps, p3, p4, fn_succ D ih, D.ar _⟩
      prop := fun n f x h => let ⟨p1, a, p, fd, ps, p3, p4, D⟩ := E.prop n f x h; ⟨p1, a, p, fd, ps, p3, p4, fn_succ D ih, D.ar _⟩
      lens := fun n f h => let ⟨a, fd, ps, p2, p3, p4, D⟩ := E.lens n f h; ⟨a, fd, ps, p2, p3, p4, fn_succ D ih, D.ar _⟩
      eqs := fun n f h => let ⟨p1, a, fd, ps, p2, p3, p4, D⟩ := E.eqs n f h; ⟨p1, a, fd, ps, p2, p3, p4, fn_succ D ih, D.ar _⟩ }
end
end Cy

set_option Elab.async false
set_option linter.all false
set_option maxRecDepth 100000
set_option maxHeartbeats 4000000
/-! CyErr: the facts of an own exception by one look. -/
namespace Cy
open PySem L2 PySem.W
def oexB (K : Frag) (C : Addr) : Bool := match K.lookup C with
  | some ⟨t, _, .cls cd, sl⟩ => decide (t = .type "type") && (match sl.toList with
      | [_, _, _, _, k4, _] => decide (k4 = some (.builtin "ValueError.__new__"))
      | _ => false) && (match cd.mro with
      | c0 :: bm => decide (c0 = .ref C) && PySem.HandSPX.refsVE bm
      | [] => false) && cd.hasDict && !cd.hasDel
  | _ => false
theorem oexB_ok {K : Frag} {C : Addr} (h : oexB K C = true) : ∃ nm q N bs bm sn sub ab col dd k0 k1 k2 k3 k5, K.lookup C = some (excClassObj nm q C N bs bm true sn sub ab col dd k0 k1 k2 k3 k5 "ValueError.__new__") ∧ PySem.HandSPX.refsVE bm = true := by
  unfold oexB at h
  split at h
  · rename_i t dd cd sl hl
    simp only [Bool.and_eq_true, decide_eq_true_eq, Bool.not_eq_true'] at h
    obtain ⟨⟨⟨⟨rfl, h2⟩, h3⟩, h4⟩, h5⟩ := h
    obtain ⟨sl⟩ := sl
    split at h2
    · rename_i k0 k1 k2 k3 k4 k5 e
      have e : sl = [k0, k1, k2, k3, k4, k5] := e
      subst e
      have h2 := of_decide_eq_true h2
      subst h2
      obtain ⟨nm, bs, mro, N, q, hd, sn, sub, ab, col, del⟩ := cd
      dsimp only at h3 h4 h5
      subst h4 h5
      split at h3
      · rename_i c0 bm
        simp only [Bool.and_eq_true, decide_eq_true_eq] at h3
        obtain ⟨rfl, h3⟩ := h3
        exact ⟨nm, q, N, bs, bm, sn, sub, ab, col, dd, k0, k1, k2, k3, k5, hl, h3⟩
      · cases h3
    · cases h2
  · cases h
def bodyB (fl : Str) : List Stmt → Bool
  | [.Expr (.Call (.Attribute (.Call (.Name s _) [] [] _) i p2) [.Constant (.str _) _ _] [] p4) _, .Assign [.Attribute (.Name z _) f _] (.Name v _) _] =>
    decide (s = "super") && decide (i = "__init__") && decide (z = "self") && decide (f = fl) && decide (v = fl) && (p2.endLine == p4.line)
  | _ => false
theorem bodyB_ok {fl : Str} {b : List Stmt} (h : bodyB fl b = true) : ∃ tx n0 p0 p1 p2 p3 p4 p5 p6 p7 p8 p9, b = iniB tx fl n0 p0 p1 p2 p3 p4 p5 p6 p7 p8 p9 ∧ (p2.endLine == p4.line) = true := by
  unfold bodyB at h
  split at h
  · simp only [Bool.and_eq_true, decide_eq_true_eq] at h
    obtain ⟨⟨⟨⟨⟨rfl, rfl⟩, rfl⟩, rfl⟩, rfl⟩, h⟩ := h
    exact ⟨_, _, _, _, _, _, _, _, _, _, _, _, rfl, h⟩
  · cases h
def scB (fl : Str) (sc : Scope) : Bool := (match sc.kind with | .function => true | _ => false) && !sc.isCoroutine && !sc.isGenerator && (sc.names.all fun x => match x.2 with | .cell => false | _ => true) &&
  (match sc.names.lookup ("super" : Str) with | some .globalImplicit => true | _ => false) && (match sc.names.lookup ("__class__" : Str) with | some .free => true | _ => false) &&
  (match sc.names.lookup ("self" : Str) with | some .local => true | _ => false) && (match sc.names.lookup fl with | some .local => true | _ => false)
theorem scB_ok {fl : Str} {sc : Scope} (h : scB fl sc = true) : sc.kind = .function ∧ sc.isCoroutine = false ∧ sc.isGenerator = false ∧ (∀ x ∈ sc.names, x.2 ≠ .cell) ∧
    sc.names.lookup ("super" : Str) = some .globalImplicit ∧ sc.names.lookup ("__class__" : Str) = some .free ∧ sc.names.lookup ("self" : Str) = some .local ∧ sc.names.lookup fl = some .local := by
  unfold scB at h
  simp only [Bool.and_eq_true, Bool.not_eq_true'] at h
  obtain ⟨⟨⟨⟨⟨⟨⟨h1, h2⟩, h3⟩, h4⟩, h5⟩, h6⟩, h7⟩, h8⟩ := h
  refine ⟨?_, h2, h3, fun x hx e => ?_, ?_, ?_, ?_, ?_⟩
  · split at h1 <;> first | assumption | cases h1
  · have := List.all_eq_true.mp h4 x hx
    rw [e] at this
    cases this
  · split at h5 <;> first | assumption | cases h5
  · split at h6 <;> first | assumption | cases h6
  · split at h7 <;> first | assumption | cases h7
  · split at h8 <;> first | assumption | cases h8
def fldNames : List Str := ["index", "field", "place", "answer", "events", "history", "line"]
def parB2 (fl : Str) : Arguments → Bool
  | ⟨[], [a, b], none, [], [], none, []⟩ => decide (a.arg = "self") && decide (b.arg = fl) && decide (fl ∈ fldNames)
  | _ => false
theorem par_bind {fl : Str} {name qual : Str} {params : Arguments} {body : List Stmt} {scope : Scope} {kV doc pm cdv ct : Value} {an : Option Addr} {cc : Addr} (h : parB2 fl params = true) (us : List Value) (hl : us.length = 2) :
    bindArgs (ksFn name qual params body scope .none kV doc pm an cdv ct cc) ⟨us, []⟩ = pure ([("self" : Str), fl].zip us) := by
  unfold parB2 at h
  split at h
  · rename_i a b
    simp only [Bool.and_eq_true, decide_eq_true_eq] at h
    obtain ⟨⟨h1, h2⟩, h3⟩ := h
    match us, hl with
    | [u, v], _ =>
      obtain ⟨a1, a2, a3⟩ := a
      obtain ⟨b1, b2, b3⟩ := b
      dsimp only at h1 h2
      subst h1 h2
      simp only [fldNames, List.mem_cons, List.mem_nil_iff, or_false] at h3
      rcases h3 with rfl | rfl | rfl | rfl | rfl | rfl | rfl <;> rfl
  · cases h
def fdB (K : Frag) (file : Str) (C : Addr) (fl : Str) (fd : FuncData) : Bool :=
  decide (fd.globals = mainGlobals) && decide (fd.builtins = builtinsNs) && (match fd.closure with
    | [(c, cc)] => decide (c = "__class__") && (match K.lookup cc with
      | some ⟨_, _, .cell (some (.ref z)), _⟩ => decide (z = C)
      | _ => false)
    | _ => false) && (match fd.code with
    | .ref cda => codeIn K (.ref cda) fd.qualname && (match K.lookup cda with
      | some ⟨_, _, .fields vs, _⟩ => (match (vs[2]? : Option Value) with
        | some (Value.str f _) => file == f
        | _ => false)
      | _ => false)
    | _ => false) && (match fd.body with
    | .stmts b => bodyB fl b
    | _ => false) && scB fl fd.scope && parB2 fl fd.params && (match fd.defaults with | .none => true | _ => false)
def iniFB (K : Frag) (file : Str) (C : Addr) (fl : Str) (f : Addr) : Bool := match K.lookup f with
  | some ⟨t, _, .func fd, _⟩ => decide (t = .type "function") && fdB K file C fl fd
  | _ => false
def errB (K : Frag) (file : Str) (C : Addr) (fl : Str) : Bool :=
  oexB K C && He.eqO (findIn K (.ref C) "__setattr__") (some (some (.builtin "object.__setattr__"))) && decide (subIn K (.ref C) (.type "BaseException") = some true) && decide (typeIn K (.ref C) = some (.type "type")) && keepIn K (.ref C) &&
  (match findIn K (.ref C) "__init__" with
    | some (some (.ref f)) => iniFB K file C fl f
    | _ => false) && xfB K C && decide (findIn K (.ref C) fl = some none) && He.eqO (findIn K (.ref C) "__class__") (some (some (.builtin "object.__class__"))) && decide (mroIn K C (.type "object") = some true) &&
  decide (nsIn K mainGlobals "super" = some none) && decide (nsIn K cStatics "thirdparty.any" = some none) && (match clsIn K C with
    | some cd => decide (alongIn K "__init__" ((cd.mro.dropWhile (· != .ref C)).drop 1) = some (some (.builtin veI)))
    | none => false) && decide (mroIn K C (.ref C) = some true) && decide (subIn K (.ref C) (.type "ValueError") = some true)
theorem errB_ok {P : Program} {K : Frag} {file : Str} {C : Addr} {fl : Str} (h : errB K file C fl = true) (hf : ((P.main.file : Str) == file) = true) (top : (P.main.scope.names.lookup ("super" : Str)).isSome = false) : ErrF P K C fl := by
  unfold errB at h
  simp only [Bool.and_eq_true, decide_eq_true_eq] at h
  obtain ⟨⟨⟨⟨⟨⟨⟨⟨⟨⟨⟨⟨⟨⟨h1, h2⟩, h3⟩, h4⟩, h5⟩, h6⟩, h7⟩, h8⟩, h9⟩, h10⟩, h11⟩, h12⟩, h13⟩, h14⟩, h15⟩ := h
  have ox : OexC K C := ⟨oexB_ok h1, He.eqO_ok h2, h3, h4, h5⟩
  split at h13
  case h_2 => cases h13
  rename_i cd hcd
  have h13 := of_decide_eq_true h13
  split at h6
  case h_2 => cases h6
  rename_i f hf6
  unfold iniFB at h6
  split at h6
  case h_2 => cases h6
  rename_i t od fd osl hl
  simp only [Bool.and_eq_true, decide_eq_true_eq] at h6
  obtain ⟨rfl, h6⟩ := h6
  unfold fdB at h6
  simp only [Bool.and_eq_true, decide_eq_true_eq] at h6
  obtain ⟨⟨⟨⟨⟨⟨⟨g1, g2⟩, g3⟩, g4⟩, g5⟩, g6⟩, g7⟩, g8⟩ := h6
  obtain ⟨name, qual, params, body, scope, globals, closure, dV, kV, doc, pm, an, cdv, ct, bl⟩ := fd
  dsimp only at g1 g2 g3 g4 g5 g6 g7 g8
  subst g1 g2
  split at g3
  case h_2 => cases g3
  rename_i c cc
  simp only [Bool.and_eq_true, decide_eq_true_eq] at g3
  obtain ⟨rfl, g3⟩ := g3
  split at g3
  case h_2 => cases g3
  rename_i cl cld z csl hcc
  have g3 := of_decide_eq_true g3
  subst g3
  split at g4
  case h_2 => cases g4
  rename_i cda
  simp only [Bool.and_eq_true] at g4
  obtain ⟨g4, g9⟩ := g4
  split at g9
  case h_2 => cases g9
  rename_i ccl cdd vs ccs hcda
  split at g9
  case h_2 => cases g9
  rename_i fi tf hvs
  split at g5
  case h_2 => cases g5
  rename_i b
  obtain ⟨tx, n0, p0, p1, p2, p3, p4, p5, p6, p7, p8, p9, rfl, hp⟩ := bodyB_ok g5
  split at g8
  case h_2 => cases g8
  obtain ⟨s1, s2, s3, s4, s5, s6, s7, s8⟩ := scB_ok g6
  have hpar := g7
  unfold parB2 at g7
  split at g7
  case h_2 => cases g7
  rename_i a1 a2
  simp only [Bool.and_eq_true, decide_eq_true_eq] at g7
  obtain ⟨⟨q1, q2⟩, q3⟩ := g7
  have hfile : ((P.main.file : Str) == fi) = true := by
    have e1 := beq_iff_eq.mp hf
    have e2 := beq_iff_eq.mp g9
    rw [e1, e2]
    simp
  have n1 : (fl == ("__debug__" : Str)) = false ∧ fl ≠ "self" := by
    simp only [fldNames, List.mem_cons, List.mem_nil_iff, or_false] at q3
    rcases q3 with rfl | rfl | rfl | rfl | rfl | rfl | rfl <;> exact ⟨by decide, by decide⟩
  exact {
    cls := ox
    ini := ⟨f, _, hf6, by show (K.lookup f).map (·.cls) = _; rw [hl]; rfl, .all (par_bind hpar), {
      ex := ⟨name, qual, tx, n0, p0, p1, p2, p3, p4, p5, p6, p7, p8, p9, _, scope, _, kV, doc, pm, ct, _, an, od, osl, cc, cda, a1, vs, fi, tf, ccl, cl, cdd, cld, ccs, csl, rfl, hl, g4, hcda, hvs, hfile, hp, hcc, rfl, q1, s1, s2, s3, s4, s5, s6, s7, s8⟩
      fl1 := n1.1
      fl2 := n1.2
      sup := h11
      top := top
      opq := h12
      cls := ox
      ini := ⟨cd, hcd, h13⟩
      sub := h14
      ve := h15
      noF := h8 }⟩
    xf := xfB_ok h7
    nof := h8
    isC := by rw [hcd]; rfl
    cl := He.eqO_ok h9
    ob := h10 }
end Cy

set_option Elab.async false
set_option linter.all false
set_option maxRecDepth 100000
set_option maxHeartbeats 4000000
/-! CyHead: the facts of a text by one look at what stands behind its top. -/
namespace Cy
open PySem L2
open PySem.PyData (strOk)
/-- where a def stands: a global; a class's method; a property's getter -/
inductive Ad where
  | g (x : Str) | m (c x : Str) | p (c x : Str)
  deriving DecidableEq
def pAt (K : PySem.W.Frag) (C : Addr) (x : Str) : Addr := match PySem.W.findIn K (.ref C) x with
  | some (some (.ref p)) => p
  | _ => 0
def gAt (K : PySem.W.Frag) (p : Addr) : Addr := match PySem.W.recIn K p "property" with
  | some (.ref g :: _) => g
  | _ => 0
def Ad.at (K : PySem.W.Frag) : Ad → Addr
  | .g x => He.ga K x
  | .m c x => He.ma K (He.ga K c) x
  | .p c x => gAt K (pAt K (He.ga K c) x)
/-- a def of the text -/
structure DE where
  f : Nat
  ad : Ad
  name : Str
  qual : Str
  st : Stmt
  N : List Str
  ps : List Str
  kw : Bool := false
def DE.val (d : DE) : He.FnW := some (d.name, d.qual, defArgs d.st, .stmts (defBody d.st), defScope d.st, mainGlobals, [], builtinsNs)
def fnWA (K : PySem.W.Frag) (a : Addr) : He.FnW := match K.lookup a with
  | some ⟨_, _, .func fd, _⟩ => some (fd.name, fd.qualname, fd.params, fd.body, fd.scope, fd.globals, fd.closure, fd.builtins)
  | _ => none
def kwB (K : PySem.W.Frag) (fd : FuncData) : Bool := match fd.kwdefaults with
  | .ref D => He.eqO (PySem.W.nsIn K D KW) (some (some .none))
  | _ => false
def okA (K : PySem.W.Frag) (a : Addr) (qual : Str) (kw : Bool) : Bool := PySem.W.keepIn K (.ref a) && (match K.lookup a with
  | some ⟨_, _, .func fd, _⟩ => PySem.W.codeIn K fd.code qual && He.dflB K fd.defaults [] && (!kw || kwB K fd)
  | _ => false)
theorem DE.funD {K : PySem.W.Frag} {d : DE} (e : fnWA K (d.ad.at K) = d.val) (c : okA K (d.ad.at K) d.qual d.kw = true) : ∃ fd, FunD K d.name d.qual (defArgs d.st) (defBody d.st) (defScope d.st) [] (if d.kw then [(KW, V.non)] else []) (d.ad.at K) fd := by
  obtain ⟨kp, c2⟩ := He.ba c
  unfold fnWA at e
  cases q : K.lookup (d.ad.at K) with
  | none =>
    rw [q] at c2
    cases c2
  | some o =>
    obtain ⟨oc, od, dt, osl⟩ := o
    rw [q] at c2 e
    cases dt with
    | func fd =>
      obtain ⟨n1, n2, n3, n4, n5, n6, n7, n8, n9, n10, n11, n12, n13, n14, n15⟩ := fd
      have e2 : (some (n1, n2, n3, n4, n5, n6, n7, n15) : He.FnW) = some (d.name, d.qual, defArgs d.st, .stmts (defBody d.st), defScope d.st, mainGlobals, [], builtinsNs) := e
      simp only [Option.some.injEq, Prod.mk.injEq] at e2
      obtain ⟨h1, h2, h3, h4, h5, h6, h7, h8⟩ := e2
      subst h1 h2 h3 h4 h5 h6 h7 h8
      have c3 : (PySem.W.codeIn K n13 d.qual && He.dflB K n8 [] && (!d.kw || kwB K ⟨d.name, d.qual, defArgs d.st, .stmts (defBody d.st), defScope d.st, mainGlobals, [], n8, n9, n10, n11, n12, n13, n14, builtinsNs⟩)) = true := c2
      obtain ⟨c4, k3⟩ := He.ba c3
      obtain ⟨k1, k2⟩ := He.ba c4
      refine ⟨_, ⟨oc, od, n8, n9, n10, n11, n12, n13, n14, osl, rfl, q, k1, He.dflB_ok k2, ?_⟩, kp⟩
      cases hkw : d.kw with
      | false => exact .inl rfl
      | true =>
        rw [hkw] at k3
        have k3 : kwB K ⟨d.name, d.qual, defArgs d.st, .stmts (defBody d.st), defScope d.st, mainGlobals, [], n8, n9, n10, n11, n12, n13, n14, builtinsNs⟩ = true := k3
        unfold kwB at k3
        split at k3
        · rename_i D he
          refine .inr ⟨D, he, fun z hz => ?_⟩
          have hz : z = (KW, V.non) := by simpa using hz
          subst hz
          exact ⟨.none, He.eqO_ok k3, rfl⟩
        · cases k3
    | _ => cases c2
/-- what is known of a def without looking at the heap -/
structure DStat (L : Lk) (T : Tab) (e : DE) : Prop where
  sc : FnScope e.N e.ps (defScope e.st)
  df : ∃ d, T.df e.f = some d ∧ d.np = e.ps.length ∧ d.nv = e.N.length ∧ cSL L e.N (defScope e.st) (fun _ => true) d.body (strip (defBody e.st)) = true
  bd : e.kw = false → ∀ (kV doc pm : Value) (an : Option Addr) (cdv ct : Value) (us : List Value), us.length = e.ps.length → bindArgs (PySem.W.fnOf e.name e.qual (defArgs e.st) (defBody e.st) (defScope e.st) .none kV doc pm an cdv ct) ⟨us, []⟩ = pure (e.ps.zip us)
  kb : e.kw = true → 0 < e.ps.length ∧ (∀ (D : Addr) (doc pm : Value) (an : Option Addr) (cdv ct : Value) (us : List Value) (u : Value), us.length + 1 = e.ps.length → KwChain D [(KW, u)] (bindArgs (PySem.W.fnOf e.name e.qual (defArgs e.st) (defBody e.st) (defScope e.st) .none (.ref D) doc pm an cdv ct) ⟨us, []⟩) (e.ps.zip (us ++ [u]))) ∧
    ∀ (D : Addr) (doc pm : Value) (an : Option Addr) (cdv ct : Value) (us : List Value) (u : Value), us.length + 1 = e.ps.length → bindArgs (PySem.W.fnOf e.name e.qual (defArgs e.st) (defBody e.st) (defScope e.st) .none (.ref D) doc pm an cdv ct) ⟨us, [(KW, u)]⟩ = pure (e.ps.zip (us ++ [u]))
/-- how a def takes its arguments -/
def BdOk (K : PySem.W.Frag) (kw : Bool) (fd : FuncData) (ps : List Str) : Prop := match kw with
  | false => Binds K fd ps [] ∧ ∀ us : List Value, us.length = ps.length → bindArgs fd ⟨us, []⟩ = pure (ps.zip us)
  | true => KBind K fd ps (ps.length - 1)
theorem DE.ok {K : PySem.W.Frag} {L : Lk} {T : Tab} {d : DE} (e : fnWA K (d.ad.at K) = d.val) (c : okA K (d.ad.at K) d.qual d.kw = true) (S : DStat L T d) : ∃ fd, BdOk K d.kw fd d.ps ∧ DefOk K L T d.f (d.ad.at K) fd d.ps := by
  obtain ⟨fd, F⟩ := DE.funD e c
  obtain ⟨df, h1, h2, h3, h4⟩ := S.df
  refine ⟨fd, ?_, ⟨d.name, d.qual, d.st, d.N, df, _, h1, F, S.sc, h2, h3, h4⟩⟩
  cases hkw : d.kw with
  | false =>
    obtain ⟨oc, od, dV, kV, doc, pm, an, cdv, ct, osl, rfl, lk, hcd, hD, hK⟩ := F.ex
    rcases hD with ⟨_, rfl⟩ | ⟨h, _⟩
    · exact ⟨.all (S.bd hkw kV doc pm an cdv ct), S.bd hkw kV doc pm an cdv ct⟩
    · exact absurd rfl h
  | true =>
    obtain ⟨h0, k1, k2⟩ := S.kb hkw
    have F' : FunD K d.name d.qual (defArgs d.st) (defBody d.st) (defScope d.st) [] [(KW, V.non)] (d.ad.at K) fd := by
      have := F
      rw [hkw] at this
      exact this
    refine ⟨by omega, ?_, ?_⟩
    · obtain ⟨mv, hm⟩ := F'.kbinds0 (d.ps.length - 1) [KW] [] (fun us mv ws => us ++ ws) (by simp) (by simp) (fun r1 _ r2 => r1.append r2) fun D doc pm an cdv ct us mv ws l1 l2 l3 => by
        match ws, l3 with
        | [u], _ =>
          match mv, l2 with
          | [], _ => exact k2 D doc pm an cdv ct us u (by omega)
      exact hm
    · obtain ⟨ds, hv, hb⟩ := F'.binds0 (d.ps.length - 1) (by simp) (show d.ps.length - 1 + [(KW, V.non)].length = d.ps.length by show d.ps.length - 1 + 1 = _; omega) fun D doc pm an cdv ct us ks l1 l2 => by
        match ks, l2 with
        | [u], _ => exact k1 D doc pm an cdv ct us u (by omega)
      cases hv with
      | cons r1 r2 =>
        cases r2
        cases r1
        exact hb

/-! ### constants -/
mutual
def repB (K : PySem.W.Frag) : D → Value → Bool
  | .non, u => (match u with | .none => true | _ => false)
  | .bl b, u => (match u with | .bool c => b == c | _ => false)
  | .int i, u => (match u with | .int j _ => i == j | _ => false)
  | .str x, u => (match u with | .str z _ => x == z && strOk x | _ => false)
  | .tup ds, u => !(intsD ds) && (match u with
    | .ref a => (match K.lookup a with
      | some ⟨.type c, _, .seq its _, _⟩ => decide (c = "tuple") && decide (its.size ≤ sizeLine) && repsB K ds its.toList
      | _ => false)
    | _ => false)
  | _, _ => false
def repsB (K : PySem.W.Frag) : List D → List Value → Bool
  | [], us => (match us with | [] => true | _ => false)
  | d :: ds, us => (match us with | u :: us => repB K d u && repsB K ds us | _ => false)
end
mutual
theorem repB_ok {c : Cl} : ∀ (d : D) (u : Value), repB c.K d u = true → ∃ v, RelV v u ∧ ∀ B, Rep c B v d
  | .non, u, h => by
    simp only [repB] at h
    split at h
    · exact ⟨.non, rfl, fun _ => .non⟩
    · cases h
  | .bl b, u, h => by
    simp only [repB] at h
    split at h
    · simp only [beq_iff_eq] at h; subst h; exact ⟨.bl b, rfl, fun _ => .bl b⟩
    · cases h
  | .int i, u, h => by
    simp only [repB] at h
    split at h
    · simp only [beq_iff_eq] at h; subst h; exact ⟨.int i, ⟨_, rfl⟩, fun _ => .int i⟩
    · cases h
  | .str x, u, h => by
    simp only [repB] at h
    split at h
    · simp only [Bool.and_eq_true, beq_iff_eq] at h
      obtain ⟨rfl, h⟩ := h
      exact ⟨.str x, ⟨_, rfl⟩, fun _ => .str h⟩
    · cases h
  | .tup ds, u, h => by
    simp only [repB, Bool.and_eq_true, Bool.not_eq_true'] at h
    obtain ⟨hi, h⟩ := h
    split at h
    · rename_i a
      split at h
      · rename_i cc od its nn osl q
        simp only [Bool.and_eq_true, decide_eq_true_eq] at h
        obtain ⟨⟨h1, h2⟩, h3⟩ := h
        obtain ⟨vs, rv, rp⟩ := repsB_ok ds its.toList h3
        subst h1
        refine ⟨.ref a, rfl, fun B => .tup (.inr ⟨_, its, nn, q, rfl, rfl, h2, rv⟩) (fun z => by rw [hi] at z; cases z) (rp B)⟩
      · cases h
    · cases h
  | .lst _, _, h => by simp [repB] at h
  | .dict _ _ _, _, h => by simp [repB] at h
  | .obj _ _, _, h => by simp [repB] at h
theorem repsB_ok {c : Cl} : ∀ (ds : List D) (us : List Value), repsB c.K ds us = true → ∃ vs, Vals vs us ∧ ∀ B, Reps c B vs ds
  | [], us, h => by
    simp only [repsB] at h
    split at h
    · exact ⟨[], .nil, fun _ => .nil⟩
    · cases h
  | d :: ds, us, h => by
    simp only [repsB] at h
    split at h
    · simp only [Bool.and_eq_true] at h
      obtain ⟨v, r1, p1⟩ := repB_ok d _ h.1
      obtain ⟨vs, r2, p2⟩ := repsB_ok ds _ h.2
      exact ⟨v :: vs, .cons r1 r2, fun B => .cons (p1 B) (p2 B)⟩
    · cases h
end

/-! ### the whole look -/
def clsN (L : Lk) (n : Nat) : Str := match L.clss.lookup n with
  | some x => x
  | none => match L.errs.lookup n with
    | some p => p.1
    | none => (L.ebase.lookup n).getD Str.empty
def feOf (L : Lk) (n : Nat) : Str := match L.errs.lookup n with
  | some p => p.2
  | none => Str.empty
def clsA (K : PySem.W.Frag) (L : Lk) (n : Nat) : Addr := He.ga K (clsN L n)
def clOf (K : PySem.W.Frag) (L : Lk) : Cl := ⟨K, clsA K L, fun n => (L.flds.lookup n).getD [], L.clss.map (·.1)⟩
def tysOf (L : Lk) : List Ty := [.non, .int, .bool, .str, .tuple, .list, .dict] ++ L.clss.map fun p => .cls p.1
def noLst (o : Obj) : Bool := match o.cls with
  | .type c => !(decide (c = "list"))
  | _ => true
structure Look (K : PySem.W.Frag) (L : Lk) (T : Tab) : Prop where
  fns : (L.fns.all fun p => (He.Fa.glo p.2).ok K && PySem.W.keepIn K (.ref (He.ga K p.2))) = true
  kfns : (L.kfns.all fun p => (He.Fa.glo p.2.1).ok K && PySem.W.keepIn K (.ref (He.ga K p.2.1))) = true
  clss : (L.clss.all fun p => (He.Fa.glo p.2).ok K && He.eqO (PySem.W.findIn K (.ref (He.ga K p.2)) "__class__") (some (some (.builtin "object.__class__"))) && decide (PySem.W.mroIn K (He.ga K p.2) (.type "object") = some true) && (He.Fa.cls p.2).ok K) = true
  g1 : He.eqO (PySem.W.specialIn K (.builtin "object.__class__") "__get__") (some (some (.builtin "getset_descriptor.__get__"))) = true
  g2 : decide (PySem.W.takesIn K (.builtin "object.__class__") = some true) = true
  flds : (L.flds.all fun p => (He.Fa.cls (clsN L p.1)).ok K && p.2.all fun f => (He.Fa.noat (clsN L p.1) f).ok K) = true
  meths : (L.meths.all fun p => (He.Fa.cls (clsN L p.1)).ok K && (He.Fa.meth (clsN L p.1) p.2.2).ok K && (!(p.2.2 == ("__init__" : Str)) || (He.Fa.mkr (clsN L p.1)).ok K)) = true
  props : (L.props.all fun p => (He.Fa.cls (clsN L p.1)).ok K && He.eqO (PySem.W.findIn K (.ref (clsA K L p.1)) p.2.2) (some (some (.ref (pAt K (clsA K L p.1) p.2.2)))) && He.eqO (PySem.W.specialIn K (.ref (pAt K (clsA K L p.1) p.2.2)) "__get__") (some (some (.builtin "property.__get__"))) &&
    decide (PySem.W.takesIn K (.ref (pAt K (clsA K L p.1) p.2.2)) = some true) && (match PySem.W.recIn K (pAt K (clsA K L p.1) p.2.2) "property" with
      | some (.ref _ :: _) => true
      | _ => false)) = true
  lens : (L.lens.all fun p => (He.Fa.meth (clsN L p.1) "__len__").ok K) = true
  eqs : (L.eqs.all fun p => (He.Fa.meth (clsN L p.1) "__eq__").ok K && decide (PySem.W.subIn K (.type "tuple") (.ref (clsA K L p.1)) = some false)) = true
  globs : (L.globs.all fun p => match PySem.W.nsIn K mainGlobals p.2 with
    | some (some u) => repB K (T.glob p.1) u
    | _ => false) = true
  errs : (L.errs.all fun p => (He.Fa.glo p.2.1).ok K && errB K L.file (He.ga K p.2.1) p.2.2) = true
  hier : (L.errs.all fun p => L.errs.all fun q => decide (PySem.W.exmOne K (.ref (He.ga K p.2.1)) (.ref (He.ga K q.2.1)) = some (p.1 == q.1))) = true
  ebase : (L.ebase.all fun p => (He.Fa.glo p.2).ok K && L.errs.all fun q => decide (PySem.W.kitOne K (.ref (He.ga K q.2.1)) (.ref (He.ga K p.2)) = some true)) = true
  bt : (bltNames.all fun x => (He.Fa.free x).ok K) = true
  nol : (K.all fun p => noLst p.2) = true
  kit : ((tysOf L).all fun t => (tysOf L).all fun u => decide (PySem.W.kitOne K (tyVal (clOf K L) t) (tyVal (clOf K L) u) = some (isTy t u))) = true
def lookB (K : PySem.W.Frag) (L : Lk) (T : Tab) : Bool :=
  (L.fns.all fun p => (He.Fa.glo p.2).ok K && PySem.W.keepIn K (.ref (He.ga K p.2))) &&
  ((L.kfns.all fun p => (He.Fa.glo p.2.1).ok K && PySem.W.keepIn K (.ref (He.ga K p.2.1))) &&
  ((L.clss.all fun p => (He.Fa.glo p.2).ok K && He.eqO (PySem.W.findIn K (.ref (He.ga K p.2)) "__class__") (some (some (.builtin "object.__class__"))) && decide (PySem.W.mroIn K (He.ga K p.2) (.type "object") = some true) && (He.Fa.cls p.2).ok K) &&
  (He.eqO (PySem.W.specialIn K (.builtin "object.__class__") "__get__") (some (some (.builtin "getset_descriptor.__get__"))) &&
  (decide (PySem.W.takesIn K (.builtin "object.__class__") = some true) &&
  ((L.flds.all fun p => (He.Fa.cls (clsN L p.1)).ok K && p.2.all fun f => (He.Fa.noat (clsN L p.1) f).ok K) &&
  ((L.meths.all fun p => (He.Fa.cls (clsN L p.1)).ok K && (He.Fa.meth (clsN L p.1) p.2.2).ok K && (!(p.2.2 == ("__init__" : Str)) || (He.Fa.mkr (clsN L p.1)).ok K)) &&
  ((L.props.all fun p => (He.Fa.cls (clsN L p.1)).ok K && He.eqO (PySem.W.findIn K (.ref (clsA K L p.1)) p.2.2) (some (some (.ref (pAt K (clsA K L p.1) p.2.2)))) && He.eqO (PySem.W.specialIn K (.ref (pAt K (clsA K L p.1) p.2.2)) "__get__") (some (some (.builtin "property.__get__"))) &&
    decide (PySem.W.takesIn K (.ref (pAt K (clsA K L p.1) p.2.2)) = some true) && (match PySem.W.recIn K (pAt K (clsA K L p.1) p.2.2) "property" with
      | some (.ref _ :: _) => true
      | _ => false)) &&
  ((L.lens.all fun p => (He.Fa.meth (clsN L p.1) "__len__").ok K) &&
  ((L.eqs.all fun p => (He.Fa.meth (clsN L p.1) "__eq__").ok K && decide (PySem.W.subIn K (.type "tuple") (.ref (clsA K L p.1)) = some false)) &&
  ((L.globs.all fun p => match PySem.W.nsIn K mainGlobals p.2 with
    | some (some u) => repB K (T.glob p.1) u
    | _ => false) &&
  ((L.errs.all fun p => (He.Fa.glo p.2.1).ok K && errB K L.file (He.ga K p.2.1) p.2.2) &&
  ((L.errs.all fun p => L.errs.all fun q => decide (PySem.W.exmOne K (.ref (He.ga K p.2.1)) (.ref (He.ga K q.2.1)) = some (p.1 == q.1))) &&
  ((L.ebase.all fun p => (He.Fa.glo p.2).ok K && L.errs.all fun q => decide (PySem.W.kitOne K (.ref (He.ga K q.2.1)) (.ref (He.ga K p.2)) = some true)) &&
  ((bltNames.all fun x => (He.Fa.free x).ok K) &&
  ((K.all fun p => noLst p.2) &&
  ((tysOf L).all fun t => (tysOf L).all fun u => decide (PySem.W.kitOne K (tyVal (clOf K L) t) (tyVal (clOf K L) u) = some (isTy t u))))))))))))))))))
theorem look_of {K : PySem.W.Frag} {L : Lk} {T : Tab} (h : lookB K L T = true) : Look K L T := by
  unfold lookB at h
  obtain ⟨h1, h⟩ := He.ba h
  obtain ⟨hk, h⟩ := He.ba h
  obtain ⟨h2, h⟩ := He.ba h
  obtain ⟨h3, h⟩ := He.ba h
  obtain ⟨h4, h⟩ := He.ba h
  obtain ⟨h5, h⟩ := He.ba h
  obtain ⟨h6, h⟩ := He.ba h
  obtain ⟨h7, h⟩ := He.ba h
  obtain ⟨h8, h⟩ := He.ba h
  obtain ⟨h9, h⟩ := He.ba h
  obtain ⟨h10, h⟩ := He.ba h
  obtain ⟨e1, h⟩ := He.ba h
  obtain ⟨e2, h⟩ := He.ba h
  obtain ⟨e3, h⟩ := He.ba h
  obtain ⟨h11, h⟩ := He.ba h
  obtain ⟨h13, h12⟩ := He.ba h
  exact ⟨h1, hk, h2, h3, h4, h5, h6, h7, h8, h9, h10, e1, e2, e3, h11, h13, h12⟩
/-- the tables fit one another -/
def tabB (L : Lk) (des : List DE) : Bool :=
  (L.clss.all fun p => decide (L.clss.lookup p.1 = some p.2)) && ((L.flds.all fun p => decide (L.flds.lookup p.1 = some p.2) && decide p.2.Nodup && decide (p.2.length ≤ 100)) &&
  ((L.fns.all fun p => des.any fun e => e.f == p.1 && decide (e.ad = .g p.2) && !e.kw) &&
  ((L.kfns.all fun p => des.any fun e => e.f == p.1 && decide (e.ad = .g p.2.1) && e.kw && e.ps.length == p.2.2 + 1) &&
  ((L.meths.all fun p => (des.any fun e => e.f == p.2.1 && decide (e.ad = .m (clsN L p.1) p.2.2) && !e.kw) && decide (p.2.2 ∉ (L.flds.lookup p.1).getD [])) &&
  ((L.props.all fun p => des.any fun e => e.f == p.2.1 && decide (e.ad = .p (clsN L p.1) p.2.2) && !e.kw) &&
  ((L.lens.all fun p => des.any fun e => e.f == p.2 && decide (e.ad = .m (clsN L p.1) "__len__") && !e.kw) &&
  ((L.errs.all fun p => decide (clsN L p.1 = p.2.1) && decide (feOf L p.1 = p.2.2)) &&
  ((L.ebase.all fun p => decide (clsN L p.1 = p.2)) &&
  (L.eqs.all fun p => des.any fun e => e.f == p.2 && decide (e.ad = .m (clsN L p.1) "__eq__") && !e.kw)))))))))
theorem any_de {des : List DE} {f : Nat} {a : Ad} (h : (des.any fun e => e.f == f && decide (e.ad = a) && !e.kw) = true) : ∃ e ∈ des, e.f = f ∧ e.ad = a ∧ e.kw = false := by
  obtain ⟨e, h1, h2⟩ := List.any_eq_true.mp h
  simp only [Bool.and_eq_true, beq_iff_eq, decide_eq_true_eq, Bool.not_eq_true'] at h2
  exact ⟨e, h1, h2.1.1, h2.1.2, h2.2⟩
theorem txt_of {P : Program} {w : PySem.World} {K : PySem.W.Frag} {mg : Str → Option Value} {base : Heap} {L : Lk} {T : Tab} {des : List DE} {h : Heap} (X : K.In h) (G : h.Ns mainGlobals mg) (lk : Look K L T) (tb : tabB L des = true) (pf : L.errs = [] ∨ (((P.main.file : Str) == L.file) = true ∧ (P.main.scope.names.lookup ("super" : Str)).isSome = false))
    (hd : ∀ e ∈ des, ∃ fd, BdOk K e.kw fd e.ps ∧ DefOk K L T e.f (e.ad.at K) fd e.ps) : Txt P w K mg base L T (clOf K L) (feOf L) := by
  unfold tabB at tb
  obtain ⟨t1, tb⟩ := He.ba tb
  obtain ⟨t2, tb⟩ := He.ba tb
  obtain ⟨t3, tb⟩ := He.ba tb
  obtain ⟨tk, tb⟩ := He.ba tb
  obtain ⟨t4, tb⟩ := He.ba tb
  obtain ⟨t5, tb⟩ := He.ba tb
  obtain ⟨t6, tb⟩ := He.ba tb
  obtain ⟨te, tb⟩ := He.ba tb
  obtain ⟨tf, t7⟩ := He.ba tb
  have de : ∀ {f : Nat} {a : Ad}, (des.any fun e => e.f == f && decide (e.ad = a) && !e.kw) = true → ∃ fd ps, Binds K fd ps [] ∧ DefOk K L T f (a.at K) fd ps := fun {f a} q => by
    obtain ⟨e, h1, rfl, rfl, hk⟩ := any_de q
    obtain ⟨fd, b, d⟩ := hd e h1
    rw [hk] at b
    exact ⟨fd, e.ps, b.1, d⟩
  have nm : ∀ {n : Nat} {x : Str}, (n, x) ∈ L.clss → clsN L n = x := fun {n x} q => by
    have := of_decide_eq_true (List.all_eq_true.mp t1 _ q)
    unfold clsN
    rw [this]
  have en : ∀ {n : Nat} {x fl : Str}, (n, x, fl) ∈ L.errs → clsN L n = x ∧ feOf L n = fl := fun {n x fl} q => by
    obtain ⟨z1, z2⟩ := He.ba (List.all_eq_true.mp te _ q)
    exact ⟨of_decide_eq_true z1, of_decide_eq_true z2⟩
  have bn : ∀ {n : Nat} {x : Str}, (n, x) ∈ L.ebase → clsN L n = x := fun {n x} q => of_decide_eq_true (List.all_eq_true.mp tf _ q)
  have ec : ∀ {n : Nat} {x : Str}, clsN L n = x → (clOf K L).ca n = He.ga K x := fun {n x} q => by
    show He.ga K (clsN L n) = _
    rw [q]
  exact {
    err := fun n x fl q => by
      obtain ⟨k1, k2⟩ := He.ba (List.all_eq_true.mp lk.errs _ q)
      obtain ⟨z1, z2⟩ := en q
      rcases pf with e | ⟨p1, p2⟩
      · rw [e] at q
        cases q
      · rw [ec z1]
        exact ⟨z2, He.glo_ok X G k1, errB_ok k2 p1 p2⟩
    hier := fun n x fl d z fm q1 q2 => by
      rw [ec (en q1).1, ec (en q2).1]
      exact of_decide_eq_true (List.all_eq_true.mp (List.all_eq_true.mp lk.hier _ q1) _ q2)
    ebase := fun b x q => by
      obtain ⟨k1, k2⟩ := He.ba (List.all_eq_true.mp lk.ebase _ q)
      rw [ec (bn q)]
      refine ⟨He.glo_ok X G k1, fun n z fl q2 => ?_⟩
      rw [ec (en q2).1]
      exact of_decide_eq_true (List.all_eq_true.mp k2 _ q2)
    hK := rfl
    hcs := rfl
    fn := fun f x q => by
      obtain ⟨k1, k2⟩ := He.ba (List.all_eq_true.mp lk.fns _ q)
      obtain ⟨fd, ps, b, d⟩ := de (List.all_eq_true.mp t3 _ q)
      exact ⟨_, fd, ps, He.glo_ok X G k1, k2, b, d⟩
    kfn := fun f x n q => by
      obtain ⟨k1, k2⟩ := He.ba (List.all_eq_true.mp lk.kfns _ q)
      obtain ⟨e, h1, h2⟩ := List.any_eq_true.mp (List.all_eq_true.mp tk _ q)
      simp only [Bool.and_eq_true, beq_iff_eq, decide_eq_true_eq] at h2
      obtain ⟨⟨⟨h2, h3⟩, h4⟩, h5⟩ := h2
      obtain ⟨fd, b, d⟩ := hd e h1
      rw [h4] at b
      have b : KBind K fd e.ps (e.ps.length - 1) := b
      rw [h5] at b
      rw [h2, h3] at d
      exact ⟨_, fd, e.ps, b, He.glo_ok X G k1, k2, d⟩
    cls := fun n x q => by
      obtain ⟨k1, k2⟩ := He.ba (List.all_eq_true.mp lk.clss _ q)
      obtain ⟨k1, k3⟩ := He.ba k1
      obtain ⟨k1, k4⟩ := He.ba k1
      have e : (clOf K L).ca n = He.ga K x := by show He.ga K (clsN L n) = _; rw [nm q]
      rw [e]
      exact ⟨He.glo_ok X G k1, He.eqO_ok k4, of_decide_eq_true k3, He.cls_ok k2⟩
    gcls := ⟨He.eqO_ok lk.g1, of_decide_eq_true lk.g2⟩
    fld := fun n fs q => by
      obtain ⟨k1, k2⟩ := He.ba (List.all_eq_true.mp lk.flds _ q)
      obtain ⟨z1, z2⟩ := He.ba (List.all_eq_true.mp t2 _ q)
      obtain ⟨z1, z3⟩ := He.ba z1
      refine ⟨?_, He.cls_ok k1, of_decide_eq_true z3, of_decide_eq_true z2, fun f hf => He.noat_ok (List.all_eq_true.mp k2 f hf)⟩
      show (L.flds.lookup n).getD [] = fs
      rw [of_decide_eq_true z1]; rfl
    meth := fun n f x q => by
      obtain ⟨k1, k2⟩ := He.ba (List.all_eq_true.mp lk.meths _ q)
      obtain ⟨k1, k3⟩ := He.ba k1
      obtain ⟨z1, z2⟩ := He.ba (List.all_eq_true.mp t4 _ q)
      obtain ⟨fd, ps, b, d⟩ := de z1
      exact ⟨He.cls_ok k1, of_decide_eq_true z2, _, fd, ps, He.meth_ok k3, b, d⟩
    init := fun n f q => by
      obtain ⟨k1, k2⟩ := He.ba (List.all_eq_true.mp lk.meths _ q)
      obtain ⟨z1, z2⟩ := He.ba (List.all_eq_true.mp t4 _ q)
      obtain ⟨fd, ps, b, d⟩ := de z1
      have k2 : (!((("__init__" : Str) == ("__init__" : Str))) || (He.Fa.mkr (clsN L n)).ok K) = true := k2
      rw [beq_self_eq_true, Bool.not_true, Bool.false_or] at k2
      exact ⟨_, fd, ps, He.mkr_ok k2, b, d⟩
    prop := fun n f x q => by
      obtain ⟨k1, k5⟩ := He.ba (List.all_eq_true.mp lk.props _ q)
      obtain ⟨k1, k4⟩ := He.ba k1
      obtain ⟨k1, k3⟩ := He.ba k1
      obtain ⟨k1, k2⟩ := He.ba k1
      obtain ⟨fd, ps, b, d⟩ := de (List.all_eq_true.mp t5 _ q)
      refine ⟨He.cls_ok k1, _, _, fd, ps, ⟨He.eqO_ok k2, He.eqO_ok k3, of_decide_eq_true k4, ?_⟩, b, d⟩
      show ∃ rest, PySem.W.recIn K (pAt K (clsA K L n) x) "property" = some (.ref (gAt K (pAt K (clsA K L n) x)) :: rest)
      unfold gAt
      split at k5
      · rename_i g rest e
        have e : PySem.W.recIn K (pAt K (clsA K L n) x) "property" = some (.ref g :: rest) := e
        rw [e]
        exact ⟨rest, rfl⟩
      · cases k5
    lens := fun n f q => by
      have k := He.meth_ok (List.all_eq_true.mp lk.lens _ q)
      obtain ⟨fd, ps, b, d⟩ := de (List.all_eq_true.mp t6 _ q)
      exact ⟨_, fd, ps, k.1, k.2, b, d⟩
    eqs := fun n f q => by
      obtain ⟨k1, k2⟩ := He.ba (List.all_eq_true.mp lk.eqs _ q)
      have k := He.meth_ok k1
      obtain ⟨fd, ps, b, d⟩ := de (List.all_eq_true.mp t7 _ q)
      exact ⟨of_decide_eq_true k2, _, fd, ps, k.1, k.2, b, d⟩
    glob := fun g x q => by
      have k := List.all_eq_true.mp lk.globs _ q
      split at k
      · rename_i u e
        obtain ⟨v, r, p⟩ := repB_ok (c := clOf K L) _ _ k
        exact ⟨v, u, PySem.W.mg_of X G e, r, p⟩
      · cases k
    bt := fun x q => He.free_ok X G (List.all_eq_true.mp lk.bt x q)
    kit := fun t u ht hu => by
      have mem : ∀ t : Ty, okTy L t = true → t ∈ tysOf L := fun t h => by
        cases t <;> first | (simp [tysOf]; done) | skip
        rename_i n
        unfold okTy at h
        have h : n ∈ L.clss.map (·.1) := by simpa using h
        obtain ⟨p, hp, rfl⟩ := List.mem_map.mp h
        exact List.mem_append_right _ (List.mem_map.mpr ⟨p, hp, rfl⟩)
      exact of_decide_eq_true (List.all_eq_true.mp (List.all_eq_true.mp lk.kit t (mem t ht)) u (mem u hu)) }
/-! ### the Hook -/
abbrev AlC : Type := Bool × List He.FnW
def obsC (L : Lk) (T : Tab) (des : List DE) (K : PySem.W.Frag) : AlC := (lookB K L T && des.all fun e => okA K (e.ad.at K) e.qual e.kw, des.map fun e => fnWA K (e.ad.at K))
def valC (des : List DE) : AlC := (true, des.map DE.val)
def SaysC (L : Lk) (T : Tab) (des : List DE) (K : PySem.W.Frag) : Prop := obsC L T des K = valC des
def obsCG (n : Nat) (L : Lk) (T : Tab) (des : List DE) (g : Addr → Option Obj) : AlC := obsC L T des (He.frG g (cStatics :: He.asD g n))
def hookC (n : Nat) (L : Lk) (T : Tab) (des : List DE) : PySem.W.Hook where
  α := AlC
  obs := fun s => obsCG n L T des s.heap.get?
  val := fun _ => valC des
  says := fun _ h => ∃ K : PySem.W.Frag, K.In h ∧ SaysC L T des K
  of := fun _ _ e => ⟨_, He.frG_in, e⟩
  keeps := fun _ _ _ ⟨K, hK, c⟩ k => ⟨K, PySem.W.Frag.In.keeps hK k, c⟩
theorem obsCG_eq {n : Nat} {L : Lk} {T : Tab} {des : List DE} {g : Addr → Option Obj} {s : Shared} (h : ∀ a, g a = s.heap.get? a) : obsCG n L T des g = (hookC n L T des).obs s := by
  have e : g = s.heap.get? := funext h
  rw [e] <;> rfl
theorem SaysC.look {L : Lk} {T : Tab} {des : List DE} {K : PySem.W.Frag} (c : SaysC L T des K) : Look K L T := look_of (He.ba (show (lookB K L T && des.all fun e => okA K (e.ad.at K) e.qual e.kw) = true from congrArg (fun z : AlC => z.1) c)).1
theorem SaysC.defs {L : Lk} {T : Tab} {des : List DE} {K : PySem.W.Frag} (c : SaysC L T des K) (S : ∀ e ∈ des, DStat L T e) : ∀ e ∈ des, ∃ fd, BdOk K e.kw fd e.ps ∧ DefOk K L T e.f (e.ad.at K) fd e.ps := fun d hd => by
  have c2 := (He.ba (show (lookB K L T && des.all fun e => okA K (e.ad.at K) e.qual e.kw) = true from congrArg (fun z : AlC => z.1) c)).2
  have e : des.map (fun e => fnWA K (e.ad.at K)) = des.map DE.val := congrArg (fun z : AlC => z.2) c
  obtain ⟨i, hi, e1⟩ := List.mem_iff_getElem.mp hd
  have e2 : (des.map fun e => fnWA K (e.ad.at K))[i]? = (des.map DE.val)[i]? := by rw [e]
  rw [List.getElem?_map, List.getElem?_map, List.getElem?_eq_getElem hi, e1] at e2
  exact DE.ok (Option.some.inj e2) (List.all_eq_true.mp c2 d hd) (S d hd)

end Cy

set_option Elab.async false
set_option linter.all false
set_option maxRecDepth 100000
set_option maxHeartbeats 400000
/-! CyEnd: a law's end. -/
namespace Cy
open PySem PySem.Spec PyProof.Rows L2
open PySem.PyData (strOk)
/-! ### the law's end -/
theorem walk_ofW {l : PySem.W.OpenLaw} {n k : Nat} {q : Program} {loose : List Str} {XP : (Str → Option Value) → Heap → Prop} {YP : PySem.World → Heap → Prop} {d : DefRec} {CX : PySem.World → CXT} {x : Str}
    (hn : l.most = some n) (hn2 : n ≤ sizeLine) (hdf : d.params.defaults = []) (hr : Room k callerA)
    (F : ∀ (w : PySem.World) (mg : Str → Option Value) (fa : Addr) (h : Heap), YP w h → h.Ns mainGlobals mg → mg d.name = some (.ref fa) →
      ∃ (K : PySem.W.Frag) (fd : FuncData) (sp : Sp), K.In h ∧ (∀ (s : Shared) (u : Value), BindsTo s fd ⟨[u], []⟩ [(x, u)]) ∧
        (∀ (H : Hp) (a : Addr) (ns : List Int), ns.length ≤ n → Only H → SqL K H a (ns.map V.int) → sp [.ref a] H (fun v _ => v = .bl true) fun _ _ _ => False) ∧
        ∀ base : Heap, K.In base → base.Ns mainGlobals mg → FnOk l.prog w K mg base (CX w) k fa fd [x] sp)
    (hCX : ∀ (w : PySem.World) (H : Hp) (s : Shared) (e : Value) (s' : Shared), CX w [] H s (fun _ _ _ => False) e s' → False) :
    PySem.W.WalkO q loose XP YP l.row.toRowW d [] (fun f vs => PySem.call f vs) := by
  refine Att.attach_call hn hdf fun w s₀ s₁ mg mb fa o pm cd doc a vs ns G Y ho hd hcd hmg hobj hints hlen hg => ?_
  obtain ⟨K, fd, sp, KX, hb, hsp, hF⟩ := F w mg fa _ Y G.T.g hmg
  exact law_call KX G.T.g G.T.b G.T.builtins G.T.nolimit hg hobj hints (Nat.le_trans hlen hn2) hr hF hb (fun H hO hS => hsp H a ns hlen hO hS) fun H e s' => hCX w H s₁ e s'
theorem ints_reps {c : Cl} {B : Hp} : ∀ ns : List Int, Reps c B (ns.map V.int) (ns.map D.int)
  | [] => .nil
  | n :: ns => .cons (.int n) (ints_reps ns)
theorem law_walk {l : PySem.W.OpenLaw} {n g k f : Nat} {q : Program} {loose : List Str} {XP : (Str → Option Value) → Heap → Prop} {d : DefRec} {L : Lk} {T : Tab} {des : List DE} {e : DE} {x : Str}
    (hn : l.most = some n) (hn2 : n ≤ sizeLine) (hdf : d.params.defaults = []) (hr : Room (2 * (k + 1)) callerA) (S : ∀ e ∈ des, DStat L T e) (tb : tabB L des = true) (pf : L.errs = [] ∨ (((l.prog.main.file : Str) == L.file) = true ∧ (l.prog.main.scope.names.lookup ("super" : Str)).isSome = false)) (he : e ∈ des) (hf : e.f = f) (ha : e.ad = .g d.name) (hkw : e.kw = false) (hl : (f, d.name) ∈ L.fns) (hp : e.ps = [x])
    (law : ∀ ns : List Int, ns.length ≤ n → ∃ m', sem T (k + 1) f [.v (.lst (ns.map .int))] [] = .ok (.v (.bl true)) m') :
    PySem.W.WalkO q loose XP (hookC g L T des).says l.row.toRowW d [] (fun f vs => PySem.call f vs) := by
  subst hf
  refine walk_ofW (CX := fun w => L2.CX l.prog w) (x := x) (k := 2 * (k + 1)) hn hn2 hdf hr (fun w mg fa h ⟨K, KX, c⟩ G hmg => ?_) (fun _ _ _ _ _ h => by
    obtain ⟨_, _, _, _, _, _, _, _, _, _, _, _, z⟩ := h
    exact z.elim)
  have lk := c.look
  obtain ⟨fd, b0, D⟩ := c.defs S e he
  rw [hkw] at b0
  obtain ⟨b1, b2⟩ := b0
  have k1 := He.glo_ok KX G (He.ba (List.all_eq_true.mp lk.fns _ hl)).1
  have ef : e.ad.at K = fa := by
    rw [ha]
    have := k1.symm.trans hmg
    cases this
    rfl
  rw [ef, hp] at D
  refine ⟨K, fd, spF ⟨clOf K L, feOf L, Fs T (k + 1)⟩ (sem T (k + 1) e.f) 1, KX, fun s u => ?_, fun H a ns hln hO hS => ?_, fun base hKb hGb => ?_⟩
  · have := b2 [u] (by rw [hp]; rfl)
    rw [hp] at this
    exact .of_eq this
  · obtain ⟨m', hm⟩ := law ns hln
    have rd : Rd H a (.lst (ns.map V.int)) := by
      rcases hS with h | ⟨o, its, nn, q1, q2, _⟩
      · exact h
      · exfalso
        have := List.all_eq_true.mp lk.nol _ (He.lookup_mem q1)
        unfold noLst at this
        rw [q2] at this
        simp at this
    have vw : view H [] [] = H := by
      funext b
      show hide H [] b = H b
      unfold hide
      rw [if_neg (by simp)]
    refine ⟨rfl, [.v (.lst (ns.map .int))], [], [], ⟨rfl, List.nodup_nil, by simp, by simp⟩, ⟨.lst (by rw [vw]; exact rd) (ints_reps ns), trivial⟩, ?_⟩
    show Run _ _ _ _ _ (sem T (k + 1) e.f [.v (.lst (ns.map .int))] []) _
    rw [hm]
    exact fun H' ta' p v hv => rep_bl hv
  · have tx := txt_of (P := l.prog) (w := w) (base := base) KX G lk tb pf (c.defs S)
    exact fn_succ D fun X h1 h2 h3 h4 h5 => tx.lnk k X h1 h2 h3 h4 h5
end Cy

set_option Elab.async false
set_option linter.all false
set_option maxRecDepth 100000
set_option maxHeartbeats 4000000
namespace Cy.T
open PySem L2 Cy
abbrev Def := Cy.Def
abbrev E := Cy.E
def d_p_is_integer : Def := ⟨1, 1, (.cons (.ret (.and_ (.cons (.isi (.var 0) [.int]) (.cons (.not_ (.isi (.var 0) [.bool])) .nil)))) .nil)⟩

def d_p_is_word : Def := ⟨2, 2, (.cons (.ret (.and_ (.cons (.isi (.var 0) [.str]) (.cons (.cmp .in_ (.var 0) (.var 1)) .nil)))) .nil)⟩

def d_p_are_notes : Def := ⟨1, 2, (.cons (.ret (.and_ (.cons (.isi (.var 0) [.tuple]) (.cons (.bi .all false (.cons (.comp false (.n 1) (.seq (.var 0)) .nil (.isi (.var 1) [.str])) .nil)) (.cons (.cmp .in_ (.var 0) (.glob 0)) .nil))))) .nil)⟩

def d_p_is_test : Def := ⟨2, 3, (.cons (.if_ (.or_ (.cons (.not_ (.isi (.var 1) [.tuple])) (.cons (.not_ (.chain .le .le (.c (.int 1)) (.bi .len false (.cons (.var 1) .nil)) (.c (.int 3)))) (.cons (.not_ (.isi (.ix (.var 1) (.c (.int 0))) [.str])) .nil)))) (.cons (.ret (.c (.bl false))) .nil) .nil) (.cons (.if_ (.or_ (.cons (.not_ (.bi .all false (.cons (.comp false (.n 2) (.seq (.sl (.var 1) (.c (.int 1)) .no)) .nil (.call 1 (.cons (.var 2) (.cons (.glob 1) .nil)))) .nil))) (.cons (.and_ (.cons (.cmp .in_ (.c (.str "base")) (.sl (.var 1) (.c (.int 1)) .no)) (.cons (.cmp .nin (.c (.str "base")) (.var 0)) .nil))) .nil))) (.cons (.ret (.c (.bl false))) .nil) .nil) (.cons (.if_ (.cmp .eq (.bi .len false (.cons (.var 1) .nil)) (.c (.int 3))) (.cons (.ret (.cmp .in_ (.ix (.var 1) (.c (.int 0))) (.glob 2))) .nil) .nil) (.cons (.if_ (.cmp .eq (.bi .len false (.cons (.var 1) .nil)) (.c (.int 2))) (.cons (.ret (.cmp .in_ (.ix (.var 1) (.c (.int 0))) (.glob 3))) .nil) .nil) (.cons (.ret (.or_ (.cons (.cmp .in_ (.ix (.var 1) (.c (.int 0))) (.glob 5)) (.cons (.and_ (.cons (.cmp .in_ (.ix (.var 1) (.c (.int 0))) (.glob 4)) (.cons (.cmp .in_ (.c (.str "mine")) (.var 0)) .nil))) .nil)))) .nil)))))⟩

def d_p_is_row : Def := ⟨2, 3, (.cons (.if_ (.or_ (.cons (.not_ (.isi (.var 1) [.tuple])) (.cons (.cmp .ne (.bi .len false (.cons (.var 1) .nil)) (.c (.int 2))) (.cons (.not_ (.call 1 (.cons (.ix (.var 1) (.c (.int 1))) (.cons (.glob 6) .nil)))) .nil)))) (.cons (.ret (.c (.bl false))) .nil) .nil) (.cons (.if_ (.or_ (.cons (.not_ (.isi (.ix (.var 1) (.c (.int 0))) [.tuple])) (.cons (.cmp .gt (.bi .len false (.cons (.ix (.var 1) (.c (.int 0))) .nil)) (.glob 7)) .nil))) (.cons (.ret (.c (.bl false))) .nil) .nil) (.cons (.ret (.bi .all false (.cons (.comp false (.n 2) (.seq (.ix (.var 1) (.c (.int 0)))) .nil (.call 3 (.cons (.var 0) (.cons (.var 2) .nil)))) .nil))) .nil)))⟩

def d_p_Rule_init : Def := ⟨3, 5, (.cons (.if_ (.not_ (.call 2 (.cons (.var 1) .nil))) (.cons (.raise 21 (.cons (.neg (.c (.int 1))) .nil)) .nil) .nil) (.cons (.if_ (.or_ (.cons (.not_ (.isi (.var 2) [.tuple])) (.cons (.cmp .gt (.bi .len false (.cons (.var 2) .nil)) (.glob 8)) .nil))) (.cons (.raise 21 (.cons (.glob 8) .nil)) .nil) .nil) (.cons (.for_ (.tup (.cons (.n 3) (.cons (.n 4) .nil))) (.enum (.var 2)) (.cons (.if_ (.not_ (.call 4 (.cons (.var 1) (.cons (.var 4) .nil)))) (.cons (.raise 21 (.cons (.var 3) .nil)) .nil) .nil) .nil)) (.cons (.fset 1 (.var 0) 0 (.var 1)) (.cons (.fset 1 (.var 0) 1 (.var 2)) .nil)))))⟩

def d_p_Rule_notes : Def := ⟨1, 1, (.cons (.ret (.fld 1 (.var 0) 0)) .nil)⟩

def d_p_Rule_rows : Def := ⟨1, 1, (.cons (.ret (.fld 1 (.var 0) 1)) .nil)⟩

def d_p_Rule_len : Def := ⟨1, 1, (.cons (.ret (.bi .len false (.cons (.fld 1 (.var 0) 1) .nil))) .nil)⟩

def d_p_Rule_eq : Def := ⟨2, 2, (.cons (.ret (.and_ (.cons (.isi (.var 1) [(.cls 1)]) (.cons (.cmp .eq (.fld 1 (.var 0) 0) (.fld 1 (.var 1) 0)) (.cons (.cmp .eq (.fld 1 (.var 0) 1) (.fld 1 (.var 1) 1)) .nil))))) .nil)⟩

def d_p_Rule_without : Def := ⟨2, 2, (.cons (.if_ (.or_ (.cons (.not_ (.call 0 (.cons (.var 1) .nil))) (.cons (.not_ (.chain .le .lt (.c (.int 0)) (.var 1) (.bi .len false (.cons (.fld 1 (.var 0) 1) .nil)))) .nil))) (.cons (.raise 22 (.cons (.var 1) .nil)) .nil) .nil) (.cons (.ret (.make false 1 5 (.cons (.fld 1 (.var 0) 0) (.cons (.bin .add (.sl (.fld 1 (.var 0) 1) .no (.var 1)) (.sl (.fld 1 (.var 0) 1) (.bin .add (.var 1) (.c (.int 1))) .no)) .nil)))) .nil))⟩

def d_l_mix : Def := ⟨2, 4, (.cons (.asg 2 (.var 1)) (.cons (.for_ (.n 3) (.seq (.var 0)) (.cons (.asg 2 (.bin .mod (.bi .int false (.cons (.bin .add (.bin .add (.bin .mul (.var 2) (.c (.int 48271))) (.bin .mod (.bi .int false (.cons (.var 3) .nil)) (.c (.int 2147483629)))) (.c (.int 1))) .nil)) (.c (.int 2147483647)))) .nil)) (.cons (.ret (.lst true (.cons (.var 2) (.cons (.bi .list true (.cons (.var 0) .nil)) (.cons (.c (.int 0)) .nil))))) .nil)))⟩

def d_l_next : Def := ⟨2, 3, (.cons (.asg 2 (.ix (.bin .add (.ix (.var 0) (.c (.int 1))) (.lst false (.cons (.c (.int 0)) .nil))) (.bin .mod (.bi .int false (.cons (.ix (.var 0) (.c (.int 2))) .nil)) (.bi .max false (.cons (.c (.int 1)) (.cons (.bi .len false (.cons (.ix (.var 0) (.c (.int 1))) .nil)) .nil)))))) (.cons (.if_ (.cmp .ge (.var 2) (.bin .pow (.c (.int 10)) (.c (.int 18)))) (.cons (.iset (.ix (.var 0) (.c (.int 1))) (.bin .mod (.bi .int false (.cons (.ix (.var 0) (.c (.int 2))) .nil)) (.bi .len false (.cons (.ix (.var 0) (.c (.int 1))) .nil))) (.bin .fdiv (.var 2) (.var 1))) (.cons (.ret (.bin .mod (.bi .int false (.cons (.var 2) .nil)) (.var 1))) .nil)) .nil) (.cons (.iset (.var 0) (.c (.int 0)) (.bin .mod (.bi .int false (.cons (.bin .add (.bin .add (.bin .mul (.ix (.var 0) (.c (.int 0))) (.c (.int 48271))) (.bin .mul (.var 2) (.c (.int 69621)))) (.c (.int 11))) .nil)) (.c (.int 2147483647)))) (.cons (.iset (.var 0) (.c (.int 2)) (.bin .add (.ix (.var 0) (.c (.int 2))) (.c (.int 1)))) (.cons (.ret (.bin .mod (.bi .int false (.cons (.bin .fdiv (.ix (.var 0) (.c (.int 0))) (.c (.int 7))) .nil)) (.var 1))) .nil)))))⟩

def d_l_alike : Def := ⟨2, 3, (.cons (.if_ (.isi (.var 1) [.dict]) (.cons (.ret (.and_ (.cons (.isi (.var 0) [.dict]) (.cons (.call 13 (.cons (.bi .list false (.cons (.var 0) .nil)) (.cons (.bi .list false (.cons (.var 1) .nil)) .nil))) (.cons (.cmp .eq (.var 0) (.var 1)) .nil))))) .nil) .nil) (.cons (.if_ (.isi (.var 1) [.tuple, .list]) (.cons (.if_ (.or_ (.cons (.not_ (.isi (.var 0) [.tuple, .list])) (.cons (.cmp .ne (.isi (.var 0) [.list]) (.isi (.var 1) [.list])) .nil))) (.cons (.ret (.c (.bl false))) .nil) .nil) (.cons (.if_ (.cmp .ne (.bi .len false (.cons (.var 0) .nil)) (.bi .len false (.cons (.var 1) .nil))) (.cons (.ret (.c (.bl false))) .nil) .nil) (.cons (.ret (.cmp .eq (.comp false (.n 2) (.rng (.c (.int 0)) (.bi .len false (.cons (.var 1) .nil))) (.cons (.not_ (.call 13 (.cons (.ix (.var 0) (.var 2)) (.cons (.ix (.var 1) (.var 2)) .nil)))) .nil) (.var 2)) (.lst false .nil))) .nil))) .nil) (.cons (.if_ (.or_ (.cons (.cmp .is_ (.var 1) (.c .non)) (.cons (.isi (.var 1) [.str]) .nil))) (.cons (.ret (.and_ (.cons (.cmp .eq (.var 0) (.var 1)) (.cons (.cmp .eq (.isi (.var 0) [.str]) (.isi (.var 1) [.str])) .nil)))) .nil) .nil) (.cons (.ret (.and_ (.cons (.isi (.var 0) [.int]) (.cons (.cmp .eq (.isi (.var 0) [.bool]) (.isi (.var 1) [.bool])) (.cons (.cmp .eq (.var 0) (.var 1)) .nil))))) .nil))))⟩

def d_l_pick : Def := ⟨2, 2, (.cons (.ret (.ix (.var 1) (.call 12 (.cons (.var 0) (.cons (.bi .len false (.cons (.var 1) .nil)) .nil))))) .nil)⟩

def d_l_test : Def := ⟨2, 7, (.cons (.asg 2 (.bin .add (.lst false (.cons (.c (.str "own")) (.cons (.c (.str "above")) .nil))) (.ifx (.cmp .in_ (.c (.str "base")) (.var 1)) (.lst false (.cons (.c (.str "base")) .nil)) (.lst false .nil)))) (.cons (.asg 3 (.call 12 (.cons (.var 0) (.cons (.c (.int 5)) .nil)))) (.cons (.if_ (.cmp .lt (.var 3) (.c (.int 2))) (.cons (.asg 4 (.call 14 (.cons (.var 0) (.cons (.var 2) .nil)))) (.cons (.asg 5 (.call 14 (.cons (.var 0) (.cons (.comp false (.n 6) (.seq (.var 2)) (.cons (.cmp .ne (.var 6) (.var 4)) .nil) (.var 6)) .nil)))) (.cons (.ret (.tup (.cons (.call 14 (.cons (.var 0) (.cons (.lst false (.cons (.c (.str "same")) (.cons (.c (.str "unlike")) .nil))) .nil))) (.cons (.var 4) (.cons (.var 5) .nil))))) .nil))) .nil) (.cons (.if_ (.cmp .eq (.var 3) (.c (.int 2))) (.cons (.ret (.tup (.cons (.call 14 (.cons (.var 0) (.cons (.lst false (.cons (.c (.str "there")) (.cons (.c (.str "gone")) .nil))) .nil))) (.cons (.call 14 (.cons (.var 0) (.cons (.var 2) .nil))) .nil)))) .nil) .nil) (.cons (.if_ (.and_ (.cons (.cmp .eq (.var 3) (.c (.int 3))) (.cons (.cmp .in_ (.c (.str "mine")) (.var 1)) .nil))) (.cons (.ret (.tup (.cons (.call 14 (.cons (.var 0) (.cons (.lst false (.cons (.c (.str "mine")) (.cons (.c (.str "free")) .nil))) .nil))) .nil))) .nil) .nil) (.cons (.ret (.tup (.cons (.call 14 (.cons (.var 0) (.cons (.lst false (.cons (.c (.str "yes")) (.cons (.c (.str "no")) .nil))) .nil))) .nil))) .nil))))))⟩

def d_l_parts : Def := ⟨2, 7, (.cons (.asg 2 (.call 14 (.cons (.var 0) (.cons (.lst false (.cons (.tup .nil) (.cons (.tup (.cons (.c (.str "base")) .nil)) (.cons (.tup (.cons (.c (.str "mine")) .nil)) (.cons (.tup (.cons (.c (.str "base")) (.cons (.c (.str "mine")) .nil))) (.cons (.tup (.cons (.c (.str "base")) (.cons (.c (.str "mine")) .nil))) .nil)))))) .nil)))) (.cons (.asg 3 (.lst true .nil)) (.cons (.for_ (.n 4) (.rng (.c (.int 0)) (.call 12 (.cons (.var 0) (.cons (.bin .add (.var 1) (.c (.int 1))) .nil)))) (.cons (.asg 5 (.bi .tuple false (.cons (.comp false (.n 6) (.rng (.c (.int 0)) (.ix (.lst false (.cons (.c (.int 0)) (.cons (.c (.int 1)) (.cons (.c (.int 1)) (.cons (.c (.int 2)) (.cons (.c (.int 2)) (.cons (.c (.int 3)) .nil))))))) (.call 12 (.cons (.var 0) (.cons (.c (.int 6)) .nil))))) .nil (.call 15 (.cons (.var 0) (.cons (.var 2) .nil)))) .nil))) (.cons (.mut .append (.var 3) (.cons (.tup (.cons (.var 5) (.cons (.call 14 (.cons (.var 0) (.cons (.lst false (.cons (.c (.str "take")) (.cons (.c (.str "take")) (.cons (.c (.str "keep")) (.cons (.c (.str "keep")) (.cons (.c (.str "drop")) (.cons (.c (.str "claim")) .nil))))))) .nil))) .nil))) .nil)) .nil))) (.cons (.ret (.tup (.cons (.var 2) (.cons (.bi .tuple false (.cons (.var 3) .nil)) .nil)))) .nil))))⟩

def d_l_built : Def := ⟨1, 1, (.cons (.ret (.make false 1 5 (.cons (.ix (.var 0) (.c (.int 0))) (.cons (.ix (.var 0) (.c (.int 1))) .nil)))) .nil)⟩

def d_l_is_test : Def := ⟨2, 3, (.cons (.if_ (.or_ (.cons (.not_ (.isi (.var 1) [.tuple])) (.cons (.cmp .lt (.bi .len false (.cons (.var 1) .nil)) (.c (.int 1))) (.cons (.cmp .gt (.bi .len false (.cons (.var 1) .nil)) (.c (.int 3))) .nil)))) (.cons (.ret (.c (.bl false))) .nil) .nil) (.cons (.for_ (.n 2) (.seq (.sl (.var 1) (.c (.int 1)) .no)) (.cons (.if_ (.or_ (.cons (.cmp .nin (.var 2) (.lst false (.cons (.c (.str "own")) (.cons (.c (.str "above")) (.cons (.c (.str "base")) .nil))))) (.cons (.and_ (.cons (.cmp .eq (.var 2) (.c (.str "base"))) (.cons (.cmp .nin (.c (.str "base")) (.var 0)) .nil))) .nil))) (.cons (.ret (.c (.bl false))) .nil) .nil) .nil)) (.cons (.if_ (.cmp .eq (.bi .len false (.cons (.var 1) .nil)) (.c (.int 3))) (.cons (.ret (.cmp .in_ (.ix (.var 1) (.c (.int 0))) (.lst false (.cons (.c (.str "same")) (.cons (.c (.str "unlike")) .nil))))) .nil) .nil) (.cons (.if_ (.cmp .eq (.bi .len false (.cons (.var 1) .nil)) (.c (.int 2))) (.cons (.ret (.cmp .in_ (.ix (.var 1) (.c (.int 0))) (.lst false (.cons (.c (.str "there")) (.cons (.c (.str "gone")) .nil))))) .nil) .nil) (.cons (.ret (.or_ (.cons (.cmp .in_ (.ix (.var 1) (.c (.int 0))) (.lst false (.cons (.c (.str "yes")) (.cons (.c (.str "no")) .nil)))) (.cons (.and_ (.cons (.cmp .in_ (.ix (.var 1) (.c (.int 0))) (.lst false (.cons (.c (.str "mine")) (.cons (.c (.str "free")) .nil)))) (.cons (.cmp .in_ (.c (.str "mine")) (.var 0)) .nil))) .nil)))) .nil)))))⟩

def d_l_is_row : Def := ⟨2, 3, (.cons (.if_ (.or_ (.cons (.not_ (.isi (.var 1) [.tuple])) (.cons (.cmp .ne (.bi .len false (.cons (.var 1) .nil)) (.c (.int 2))) (.cons (.cmp .nin (.ix (.var 1) (.c (.int 1))) (.lst false (.cons (.c (.str "take")) (.cons (.c (.str "keep")) (.cons (.c (.str "drop")) (.cons (.c (.str "claim")) .nil)))))) .nil)))) (.cons (.ret (.c (.bl false))) .nil) .nil) (.cons (.if_ (.or_ (.cons (.not_ (.isi (.ix (.var 1) (.c (.int 0))) [.tuple])) (.cons (.cmp .gt (.bi .len false (.cons (.ix (.var 1) (.c (.int 0))) .nil)) (.c (.int 4))) .nil))) (.cons (.ret (.c (.bl false))) .nil) .nil) (.cons (.ret (.cmp .eq (.comp false (.n 2) (.seq (.ix (.var 1) (.c (.int 0)))) (.cons (.not_ (.call 18 (.cons (.var 0) (.cons (.var 2) .nil)))) .nil) (.var 2)) (.lst false .nil))) .nil)))⟩

def d_l_fault : Def := ⟨2, 4, (.cons (.if_ (.cmp .nin (.var 0) (.lst false (.cons (.tup .nil) (.cons (.tup (.cons (.c (.str "base")) .nil)) (.cons (.tup (.cons (.c (.str "mine")) .nil)) (.cons (.tup (.cons (.c (.str "base")) (.cons (.c (.str "mine")) .nil))) .nil)))))) (.cons (.ret (.neg (.c (.int 1)))) .nil) .nil) (.cons (.if_ (.or_ (.cons (.not_ (.isi (.var 1) [.tuple])) (.cons (.cmp .gt (.bi .len false (.cons (.var 1) .nil)) (.c (.int 8))) .nil))) (.cons (.ret (.c (.int 8))) .nil) .nil) (.cons (.asg 2 (.comp false (.n 3) (.rng (.c (.int 0)) (.bi .len false (.cons (.var 1) .nil))) (.cons (.not_ (.call 19 (.cons (.var 0) (.cons (.ix (.var 1) (.var 3)) .nil)))) .nil) (.var 3))) (.cons (.ret (.ifx (.cmp .ne (.var 2) (.lst false .nil)) (.ix (.var 2) (.c (.int 0))) (.c .non))) .nil))))⟩

def d_l_tried : Def := ⟨2, 4, (.cons (.asg 2 (.c .non)) (.cons (.try_ (some 2) (.make 1 5 (.cons (.var 0) (.cons (.var 1) .nil))) .nil [21, 22] [⟨21, 2, 3, (.isi 20 .f)⟩]) (.cons (.ret (.var 2)) .nil)))⟩

def d_l_odd : Def := ⟨0, 3, (.cons (.parG (.cons (.n 0) (.cons (.n 1) .nil)) (.cons (.tup (.cons (.c (.str "yes")) .nil)) (.cons (.tup (.cons (.c (.str "there")) (.cons (.c (.str "own")) .nil))) .nil))) (.cons (.asg 2 (.lst false (.cons (.c .non) (.cons (.c (.int 5)) (.cons (.c (.str "take")) (.cons (.tup .nil) (.cons (.tup (.cons (.tup .nil) .nil)) (.cons (.tup (.cons (.tup .nil) (.cons (.c (.str "leave")) .nil))) (.cons (.tup (.cons (.lst false .nil) (.cons (.c (.str "take")) .nil))) .nil))))))))) (.cons (.asg 2 (.bin .add (.var 2) (.lst false (.cons (.tup (.cons (.tup (.cons (.var 0) .nil)) (.cons (.c (.str "take")) (.cons (.c (.str "keep")) .nil)))) (.cons (.tup (.cons (.var 0) (.cons (.c (.str "take")) .nil))) (.cons (.tup (.cons (.tup (.cons (.tup (.cons (.c (.str "maybe")) .nil)) .nil)) (.cons (.c (.str "keep")) .nil))) .nil)))))) (.cons (.asg 2 (.bin .add (.var 2) (.lst false (.cons (.tup (.cons (.tup (.cons (.tup (.cons (.c (.str "same")) (.cons (.c (.str "own")) .nil))) .nil)) (.cons (.c (.str "take")) .nil))) (.cons (.tup (.cons (.tup (.cons (.tup (.cons (.c (.str "same")) (.cons (.c (.str "own")) (.cons (.c (.str "none")) .nil)))) .nil)) (.cons (.c (.str "take")) .nil))) .nil))))) (.cons (.asg 2 (.bin .add (.var 2) (.lst false (.cons (.tup (.cons (.tup (.cons (.tup (.cons (.c (.str "there")) .nil)) .nil)) (.cons (.c (.str "take")) .nil))) (.cons (.tup (.cons (.bin .mul (.tup (.cons (.var 0) .nil)) (.c (.int 5))) (.cons (.c (.str "take")) .nil))) .nil))))) (.cons (.asg 2 (.bin .add (.var 2) (.lst false (.cons (.tup (.cons (.tup (.cons (.tup (.cons (.c (.str "mine")) .nil)) .nil)) (.cons (.c (.str "take")) .nil))) (.cons (.tup (.cons (.tup (.cons (.tup (.cons (.c (.str "same")) (.cons (.c (.str "own")) (.cons (.c (.str "base")) .nil)))) .nil)) (.cons (.c (.str "drop")) .nil))) .nil))))) (.cons (.asg 2 (.bin .add (.var 2) (.lst false (.cons (.tup (.cons (.tup (.cons (.tup (.cons (.c (.str "gone")) (.cons (.c (.str "base")) .nil))) .nil)) (.cons (.c (.str "claim")) .nil))) (.cons (.tup (.cons (.tup (.cons (.var 1) (.cons (.c .non) .nil))) (.cons (.c (.str "keep")) .nil))) .nil))))) (.cons (.asg 2 (.bin .add (.var 2) (.lst false (.cons (.tup (.cons (.tup (.cons (.tup (.cons (.c (.str "same")) (.cons (.c (.str "own")) (.cons (.c (.str "above")) (.cons (.c (.str "base")) .nil))))) .nil)) (.cons (.c (.str "take")) .nil))) (.cons (.tup (.cons (.tup (.cons (.lst false (.cons (.c (.str "yes")) .nil)) .nil)) (.cons (.c (.str "take")) .nil))) .nil))))) (.cons (.asg 2 (.bin .add (.var 2) (.lst false (.cons (.tup (.cons (.bin .mul (.tup (.cons (.var 0) .nil)) (.c (.int 4))) (.cons (.c (.str "take")) .nil))) (.cons (.tup (.cons (.tup .nil) (.cons (.c .non) .nil))) (.cons (.tup (.cons (.tup .nil) (.cons (.lst false (.cons (.c (.str "take")) .nil)) .nil))) .nil)))))) (.cons (.asg 2 (.bin .add (.var 2) (.lst false (.cons (.tup (.cons (.tup (.cons (.tup (.cons (.c (.str "unlike")) (.cons (.c (.str "own")) (.cons (.c (.str "own")) .nil)))) .nil)) (.cons (.c (.str "keep")) .nil))) (.cons (.tup (.cons (.tup (.cons (.tup (.cons (.c (.str "same")) (.cons (.c (.str "own")) (.cons (.c (.int 5)) .nil)))) .nil)) (.cons (.c (.str "take")) .nil))) .nil))))) (.cons (.ret (.bin .add (.var 2) (.lst false (.cons (.tup (.cons (.tup (.cons (.tup (.cons (.c (.str "yes")) (.cons (.c (.str "own")) .nil))) .nil)) (.cons (.c (.str "take")) .nil))) (.cons (.tup (.cons (.tup (.cons (.tup .nil) .nil)) (.cons (.c (.str "take")) .nil))) .nil))))) .nil)))))))))))⟩

def d_l_right_without : Def := ⟨2, 4, (.cons (.asg 2 (.c .non)) (.cons (.try_ (some 2) (.meth 1 10 (.var 0) (.cons (.var 1) .nil)) .nil [21, 22] [⟨22, 2, 3, (.lst .f)⟩]) (.cons (.if_ (.or_ (.cons (.not_ (.isi (.var 1) [.int])) (.cons (.isi (.var 1) [.bool]) (.cons (.not_ (.chain .le .lt (.c (.int 0)) (.var 1) (.leno 1 8 (.var 0)))) .nil)))) (.cons (.ret (.call 13 (.cons (.var 2) (.cons (.lst false (.cons (.var 1) .nil)) .nil)))) .nil) .nil) (.cons (.ret (.eqo 1 9 (.var 2) (.make false 1 5 (.cons (.prop 1 6 (.var 0)) (.cons (.bin .add (.sl (.prop 1 7 (.var 0)) .no (.var 1)) (.sl (.prop 1 7 (.var 0)) (.bin .add (.var 1) (.c (.int 1))) .no)) .nil))))) .nil))))⟩

def d_l_main_k01 : Def := ⟨1, 14, (.cons (.asg 1 (.call 11 (.cons (.var 0) (.cons (.c (.int 1)) .nil)))) (.cons (.asg 2 (.call 22 .nil)) (.cons (.for_ (.n 3) (.rng (.c (.int 0)) (.c (.int 5))) (.cons (.asgG (.tup (.cons (.n 4) (.cons (.n 5) .nil))) (.call 16 (.cons (.var 1) (.cons (.c (.int 6)) .nil)))) (.cons (.for_ (.n 6) (.rng (.c (.int 0)) (.call 12 (.cons (.var 1) (.cons (.c (.int 3)) .nil)))) (.cons (.asg 7 (.call 12 (.cons (.var 1) (.cons (.c (.int 5)) .nil)))) (.cons (.if_ (.cmp .eq (.var 7) (.c (.int 0))) (.cons (.asg 8 (.lst false (.cons (.tup (.cons (.c (.str "mine")) (.cons (.c (.str "base")) .nil))) (.cons (.lst false (.cons (.c (.str "base")) .nil)) (.cons (.c .non) (.cons (.c (.str "base")) (.cons (.tup (.cons (.c (.str "none")) .nil)) .nil))))))) (.cons (.asg 8 (.bin .add (.var 8) (.lst false (.cons (.tup (.cons (.c (.str "base")) (.cons (.c (.str "base")) .nil))) (.cons (.tup (.cons (.c (.int 5)) .nil)) (.cons (.tup (.cons (.c (.str "base")) .nil)) .nil)))))) (.cons (.asg 4 (.call 14 (.cons (.var 1) (.cons (.var 8) .nil)))) .nil))) (.cons (.if_ (.cmp .eq (.var 7) (.c (.int 1))) (.cons (.asg 5 (.ifx (.isi (.var 5) [.tuple]) (.call 14 (.cons (.var 1) (.cons (.lst false (.cons (.bi .list false (.cons (.var 5) .nil)) (.cons (.c .non) (.cons (.bin .mul (.var 5) (.c (.int 3))) (.cons (.c (.str "rows")) .nil))))) .nil))) (.var 5))) .nil) (.cons (.if_ (.isi (.var 5) [.tuple]) (.cons (.asg 9 (.call 12 (.cons (.var 1) (.cons (.bin .add (.bi .len false (.cons (.var 5) .nil)) (.c (.int 1))) .nil)))) (.cons (.asg 5 (.bin .add (.bin .add (.sl (.var 5) .no (.var 9)) (.tup (.cons (.call 14 (.cons (.var 1) (.cons (.var 2) .nil))) .nil))) (.sl (.var 5) (.var 9) .no))) .nil)) .nil) .nil)) .nil)) .nil))) (.cons (.par [10, 11] (.cons (.call 20 (.cons (.var 4) (.cons (.var 5) .nil))) (.cons (.call 21 (.cons (.var 4) (.cons (.var 5) .nil))) .nil))) (.cons (.if_ (.cmp .isnot (.var 10) (.c .non)) (.cons (.if_ (.not_ (.call 13 (.cons (.var 11) (.cons (.var 10) .nil)))) (.cons (.ret (.c (.bl false))) .nil) .nil) .nil) (.cons (.if_ (.or_ (.cons (.cmp .ne (.prop 1 6 (.var 11)) (.var 4)) (.cons (.cmp .ne (.prop 1 7 (.var 11)) (.var 5)) (.cons (.cmp .ne (.leno 1 8 (.var 11)) (.bi .len false (.cons (.var 5) .nil))) .nil)))) (.cons (.ret (.c (.bl false))) .nil) (.cons (.for_ (.n 12) (.seq (.bin .add (.lst false (.cons (.neg (.c (.int 1))) (.cons (.bi .len false (.cons (.var 5) .nil)) (.cons (.c (.bl true)) (.cons (.c .non) (.cons (.c (.str "0")) .nil)))))) (.rng (.c (.int 0)) (.bi .len false (.cons (.var 5) .nil))))) (.cons (.if_ (.not_ (.call 23 (.cons (.var 11) (.cons (.var 12) .nil)))) (.cons (.ret (.c (.bl false))) .nil) .nil) .nil)) (.cons (.asg 13 (.call 16 (.cons (.var 1) (.cons (.c (.int 2)) .nil)))) (.cons (.if_ (.or_ (.cons (.cmp .ne (.eqo 1 9 (.var 11) (.call 17 (.cons (.var 13) .nil))) (.cmp .eq (.tup (.cons (.var 4) (.cons (.var 5) .nil))) (.var 13))) (.cons (.eqo 1 9 (.var 11) (.var 5)) .nil))) (.cons (.ret (.c (.bl false))) .nil) .nil) .nil)))) .nil)) .nil))))) (.cons (.ret (.c (.bl true))) .nil))))⟩

def d_p_State_init : Def := ⟨6, 6, (.cons (.fset 0 (.var 0) 0 (.var 1)) (.cons (.fset 0 (.var 0) 1 (.var 2)) (.cons (.fset 0 (.var 0) 2 (.var 3)) (.cons (.fset 0 (.var 0) 3 (.var 4)) (.cons (.fset 0 (.var 0) 4 (.var 5)) .nil)))))⟩

def d_p_State_value : Def := ⟨2, 2, (.cons (.if_ (.cmp .eq (.var 1) (.c (.str "own"))) (.cons (.ret (.fld 0 (.var 0) 1)) .nil) .nil) (.cons (.ret (.ifx (.cmp .eq (.var 1) (.c (.str "above"))) (.fld 0 (.var 0) 0) (.fld 0 (.var 0) 2))) .nil))⟩

def d_p_State_is_so : Def := ⟨3, 4, (.cons (.asg 3 (.ix (.var 1) (.c (.int 0)))) (.cons (.if_ (.cmp .in_ (.var 3) (.tup (.cons (.c (.str "same")) (.cons (.c (.str "unlike")) .nil)))) (.cons (.ret (.cmp .eq (.cmp .eq (.meth 0 26 (.var 0) (.cons (.ix (.var 1) (.c (.int 1))) .nil)) (.meth 0 26 (.var 0) (.cons (.ix (.var 1) (.c (.int 2))) .nil))) (.cmp .eq (.var 3) (.c (.str "same"))))) .nil) .nil) (.cons (.if_ (.cmp .in_ (.var 3) (.tup (.cons (.c (.str "there")) (.cons (.c (.str "gone")) .nil)))) (.cons (.ret (.cmp .eq (.cmp .is_ (.meth 0 26 (.var 0) (.cons (.ix (.var 1) (.c (.int 1))) .nil)) (.c .non)) (.cmp .eq (.var 3) (.c (.str "gone"))))) .nil) .nil) (.cons (.if_ (.cmp .in_ (.var 3) (.glob 4)) (.cons (.ret (.cmp .eq (.fld 0 (.var 0) 4) (.cmp .eq (.var 3) (.c (.str "mine"))))) .nil) .nil) (.cons (.ret (.cmp .eq (.var 3) (.var 2))) .nil)))))⟩

def d_p_State_row_for : Def := ⟨3, 7, (.cons (.for_ (.tup (.cons (.n 3) (.cons (.tup (.cons (.n 4) (.cons (.n 5) .nil))) .nil))) (.enum (.fld 1 (.var 1) 1)) (.cons (.if_ (.bi .all false (.cons (.comp false (.n 6) (.seq (.var 4)) .nil (.meth 0 27 (.var 0) (.cons (.var 6) (.cons (.var 2) .nil)))) .nil)) (.cons (.ret (.var 3)) .nil) .nil) .nil)) (.cons (.ret (.neg (.c (.int 1)))) .nil))⟩

def d_p_State_due : Def := ⟨2, 2, (.cons (.if_ (.cmp .eq (.var 1) (.glob 9)) (.cons (.ret (.ifx (.cmp .eq (.fld 0 (.var 0) 3) (.tup .nil)) (.fld 0 (.var 0) 0) (.ix (.fld 0 (.var 0) 3) (.c (.int 0))))) .nil) .nil) (.cons (.ret (.ifx (.cmp .eq (.fld 0 (.var 0) 1) (.fld 0 (.var 0) 2)) (.fld 0 (.var 0) 0) (.fld 0 (.var 0) 1))) .nil))⟩

def d_p_State_word : Def := ⟨2, 3, (.cons (.asg 2 (.ifx (.cmp .eq (.var 1) (.glob 9)) (.cmp .ne (.fld 0 (.var 0) 3) (.tup .nil)) (.cmp .ne (.fld 0 (.var 0) 1) (.fld 0 (.var 0) 2)))) (.cons (.ret (.ifx (.var 2) (.glob 10) (.glob 11))) .nil))⟩

def d_p_State_carried : Def := ⟨3, 7, (.cons (.asg 3 (.meth 0 28 (.var 0) (.cons (.var 1) (.cons (.var 2) .nil)))) (.cons (.asg 4 (.ifx (.cmp .lt (.var 3) (.c (.int 0))) (.glob 12) (.ix (.ix (.fld 1 (.var 1) 1) (.var 3)) (.c (.int 1))))) (.cons (.par [5, 6] (.cons (.fld 0 (.var 0) 1) (.cons (.fld 0 (.var 0) 4) .nil))) (.cons (.if_ (.cmp .eq (.var 4) (.c (.str "take"))) (.cons (.par [5, 6] (.cons (.fld 0 (.var 0) 0) (.cons (.c (.bl false)) .nil))) .nil) (.cons (.if_ (.cmp .eq (.var 4) (.c (.str "drop"))) (.cons (.asg 5 (.c .non)) .nil) (.cons (.if_ (.cmp .eq (.var 4) (.c (.str "claim"))) (.cons (.asg 6 (.c (.bl true))) .nil) .nil) .nil)) .nil)) (.cons (.ret (.make false 0 25 (.cons (.fld 0 (.var 0) 0) (.cons (.var 5) (.cons (.fld 0 (.var 0) 0) (.cons (.fld 0 (.var 0) 3) (.cons (.var 6) .nil))))))) .nil)))))⟩

def d_p_State_faults_of : Def := ⟨2, 3, (.cons (.ret (.comp false (.n 2) (.seq (.glob 13)) (.cons (.cmp .ne (.fld 0 (.var 1) 1) (.meth 0 29 (.var 0) (.cons (.var 2) .nil))) .nil) (.tup (.cons (.var 2) (.cons (.meth 0 30 (.var 0) (.cons (.var 2) .nil)) .nil))))) .nil)⟩

def d_p_State_edited : Def := ⟨2, 2, (.cons (.ret (.make false 0 25 (.cons (.fld 0 (.var 0) 0) (.cons (.var 1) (.cons (.fld 0 (.var 0) 2) (.cons (.tup (.cons (.var 1) .nil)) (.cons (.c (.bl true)) .nil))))))) .nil)⟩

def d_p_State_put_back : Def := ⟨1, 1, (.cons (.ret (.make false 0 25 (.cons (.fld 0 (.var 0) 0) (.cons (.fld 0 (.var 0) 0) (.cons (.fld 0 (.var 0) 0) (.cons (.tup .nil) (.cons (.c (.bl false)) .nil))))))) .nil)⟩

def d_p_State_changed : Def := ⟨2, 2, (.cons (.ret (.make false 0 25 (.cons (.var 1) (.cons (.fld 0 (.var 0) 1) (.cons (.fld 0 (.var 0) 2) (.cons (.fld 0 (.var 0) 3) (.cons (.fld 0 (.var 0) 4) .nil))))))) .nil)⟩

def d_p_first_state : Def := ⟨1, 1, (.cons (.ret (.make false 0 25 (.cons (.var 0) (.cons (.var 0) (.cons (.var 0) (.cons (.tup .nil) (.cons (.c (.bl false)) .nil))))))) .nil)⟩

def d_p_happened : Def := ⟨3, 5, (.cons (.asg 3 (.ix (.var 2) (.c (.int 0)))) (.cons (.if_ (.cmp .eq (.var 3) (.c (.str "carry"))) (.cons (.ret (.meth 0 31 (.var 0) (.cons (.var 1) (.cons (.ix (.var 2) (.c (.int 1))) .nil)))) .nil) .nil) (.cons (.if_ (.cmp .eq (.var 3) (.c (.str "back"))) (.cons (.ret (.meth 0 34 (.var 0) .nil)) .nil) .nil) (.cons (.asg 4 (.ifx (.cmp .eq (.bi .len false (.cons (.var 2) .nil)) (.c (.int 2))) (.ix (.var 2) (.c (.int 1))) (.c .non))) (.cons (.ret (.ifx (.cmp .in_ (.var 3) (.tup (.cons (.c (.str "change")) (.cons (.c (.str "delete")) .nil)))) (.meth 0 35 (.var 0) (.cons (.var 4) .nil)) (.meth 0 33 (.var 0) (.cons (.var 4) .nil)))) .nil)))))⟩

def d_p_is_event : Def := ⟨1, 1, (.cons (.if_ (.or_ (.cons (.not_ (.isi (.var 0) [.tuple])) (.cons (.not_ (.chain .le .le (.c (.int 1)) (.bi .len false (.cons (.var 0) .nil)) (.c (.int 2)))) (.cons (.not_ (.isi (.ix (.var 0) (.c (.int 0))) [.str])) .nil)))) (.cons (.ret (.c (.bl false))) .nil) .nil) (.cons (.if_ (.cmp .eq (.bi .len false (.cons (.var 0) .nil)) (.c (.int 1))) (.cons (.ret (.cmp .in_ (.ix (.var 0) (.c (.int 0))) (.glob 14))) .nil) .nil) (.cons (.if_ (.cmp .eq (.ix (.var 0) (.c (.int 0))) (.c (.str "carry"))) (.cons (.ret (.call 1 (.cons (.ix (.var 0) (.c (.int 1))) (.cons (.glob 5) .nil)))) .nil) .nil) (.cons (.ret (.and_ (.cons (.cmp .in_ (.ix (.var 0) (.c (.int 0))) (.glob 15)) (.cons (.call 0 (.cons (.ix (.var 0) (.c (.int 1))) .nil)) .nil)))) .nil))))⟩

def d_p_check_history : Def := ⟨1, 5, (.cons (.if_ (.or_ (.cons (.not_ (.isi (.var 0) [.tuple])) (.cons (.cmp .ne (.bi .len false (.cons (.var 0) .nil)) (.c (.int 2))) .nil))) (.cons (.raise 27 (.cons (.neg (.c (.int 2))) .nil)) .nil) .nil) (.cons (.asgG (.tup (.cons (.n 1) (.cons (.n 2) .nil))) (.var 0)) (.cons (.if_ (.or_ (.cons (.and_ (.cons (.cmp .isnot (.var 1) (.c .non)) (.cons (.not_ (.call 0 (.cons (.var 1) .nil))) .nil))) (.cons (.not_ (.isi (.var 2) [.tuple])) .nil))) (.cons (.raise 27 (.cons (.neg (.c (.int 1))) .nil)) .nil) .nil) (.cons (.for_ (.tup (.cons (.n 3) (.cons (.n 4) .nil))) (.enum (.var 2)) (.cons (.if_ (.not_ (.call 38 (.cons (.var 4) .nil))) (.cons (.raise 27 (.cons (.var 3) .nil)) .nil) .nil) .nil)) .nil))))⟩

def d_p_Outcome_init : Def := ⟨5, 5, (.cons (.fset 2 (.var 0) 0 (.var 1)) (.cons (.fset 2 (.var 0) 1 (.var 2)) (.cons (.fset 2 (.var 0) 2 (.var 3)) (.cons (.fset 2 (.var 0) 3 (.var 4)) .nil))))⟩

def d_p_Outcome_own : Def := ⟨1, 1, (.cons (.ret (.fld 0 (.fld 2 (.var 0) 0) 1)) .nil)⟩

def d_p_Outcome_above : Def := ⟨1, 1, (.cons (.ret (.fld 0 (.fld 2 (.var 0) 0) 0)) .nil)⟩

def d_p_Outcome_base : Def := ⟨1, 1, (.cons (.ret (.fld 0 (.fld 2 (.var 0) 0) 2)) .nil)⟩

def d_p_Outcome_mine : Def := ⟨1, 1, (.cons (.ret (.fld 0 (.fld 2 (.var 0) 0) 4)) .nil)⟩

def d_p_Outcome_rows : Def := ⟨1, 1, (.cons (.ret (.bi .list false (.cons (.fld 2 (.var 0) 1) .nil))) .nil)⟩

def d_p_Outcome_faults : Def := ⟨1, 1, (.cons (.ret (.bi .list false (.cons (.fld 2 (.var 0) 2) .nil))) .nil)⟩

def d_p_Outcome_len : Def := ⟨1, 1, (.cons (.ret (.bi .len false (.cons (.fld 2 (.var 0) 3) .nil))) .nil)⟩

def d_p_Outcome_told : Def := ⟨1, 2, (.cons (.asg 1 (.tup (.cons (.fld 0 (.fld 2 (.var 0) 0) 1) (.cons (.fld 0 (.fld 2 (.var 0) 0) 0) (.cons (.fld 0 (.fld 2 (.var 0) 0) 2) (.cons (.fld 0 (.fld 2 (.var 0) 0) 4) .nil)))))) (.cons (.ret (.tup (.cons (.var 1) (.cons (.fld 2 (.var 0) 1) (.cons (.fld 2 (.var 0) 2) (.cons (.fld 2 (.var 0) 3) .nil)))))) .nil))⟩

def d_p_Outcome_eq : Def := ⟨2, 2, (.cons (.ret (.and_ (.cons (.isi (.var 1) [(.cls 2)]) (.cons (.cmp .eq (.meth 2 48 (.var 0) .nil) (.meth 2 48 (.var 1) .nil)) .nil)))) .nil)⟩

def d_p_play : Def := ⟨2, 10, (.cons (.expr (.call 39 (.cons (.var 1) .nil))) (.cons (.par [2, 3, 4] (.cons (.call 36 (.cons (.ix (.var 1) (.c (.int 0))) .nil)) (.cons (.lst true .nil) (.cons (.lst true .nil) .nil)))) (.cons (.for_ (.tup (.cons (.n 5) (.cons (.n 6) .nil))) (.enum (.ix (.var 1) (.c (.int 1)))) (.cons (.asg 7 (.call 37 (.cons (.var 2) (.cons (.var 0) (.cons (.var 6) .nil))))) (.cons (.if_ (.cmp .eq (.ix (.var 6) (.c (.int 0))) (.c (.str "carry"))) (.cons (.mut .append (.var 3) (.cons (.meth 0 28 (.var 2) (.cons (.var 0) (.cons (.ix (.var 6) (.c (.int 1))) .nil))) .nil)) (.cons (.mut .extend (.var 4) (.cons (.comp false (.tup (.cons (.n 8) (.cons (.n 9) .nil))) (.seq (.meth 0 32 (.var 2) (.cons (.var 7) .nil))) .nil (.tup (.cons (.var 5) (.cons (.var 8) (.cons (.var 9) .nil))))) .nil)) .nil)) .nil) (.cons (.asg 2 (.var 7)) .nil)))) (.cons (.ret (.make false 2 40 (.cons (.var 2) (.cons (.bi .tuple false (.cons (.var 3) .nil)) (.cons (.bi .tuple false (.cons (.var 4) .nil)) (.cons (.bin .mul (.c (.str "m")) (.bi .len false (.cons (.ix (.var 1) (.c (.int 1))) .nil))) .nil)))))) .nil))))⟩

def d_l_near : Def := ⟨1, 8, (.cons (.asg 1 (.lst true (.cons (.tup (.cons (.tup (.cons (.c (.str "base")) .nil)) (.cons (.tup (.cons (.tup (.cons (.tup (.cons (.tup (.cons (.c (.str "same")) (.cons (.c (.str "own")) (.cons (.c (.str "base")) .nil)))) .nil)) (.cons (.c (.str "take")) .nil))) .nil)) .nil))) (.cons (.tup (.cons (.tup (.cons (.c (.str "mine")) .nil)) (.cons (.tup (.cons (.tup (.cons (.tup (.cons (.tup (.cons (.c (.str "free")) .nil)) .nil)) (.cons (.c (.str "take")) .nil))) .nil)) .nil))) .nil)))) (.cons (.mut .append (.var 1) (.cons (.tup (.cons (.tup (.cons (.c (.str "base")) (.cons (.c (.str "mine")) .nil))) (.cons (.tup (.cons (.tup (.cons (.tup (.cons (.tup (.cons (.c (.str "mine")) .nil)) .nil)) (.cons (.c (.str "keep")) .nil))) (.cons (.tup (.cons (.tup (.cons (.tup (.cons (.c (.str "unlike")) (.cons (.c (.str "own")) (.cons (.c (.str "base")) .nil)))) .nil)) (.cons (.c (.str "keep")) .nil))) (.cons (.tup (.cons (.tup .nil) (.cons (.c (.str "take")) .nil))) .nil)))) .nil))) .nil)) (.cons (.mut .append (.var 1) (.cons (.tup (.cons (.tup (.cons (.c (.str "base")) (.cons (.c (.str "mine")) .nil))) (.cons (.tup (.cons (.tup (.cons (.tup (.cons (.tup (.cons (.c (.str "mine")) .nil)) (.cons (.tup (.cons (.c (.str "unlike")) (.cons (.c (.str "own")) (.cons (.c (.str "base")) .nil)))) .nil))) (.cons (.c (.str "keep")) .nil))) (.cons (.tup (.cons (.tup .nil) (.cons (.c (.str "take")) .nil))) .nil))) .nil))) .nil)) (.cons (.frz 1) (.cons (.asgG (.tup (.cons (.n 2) (.cons (.n 3) .nil))) (.call 14 (.cons (.var 0) (.cons (.var 1) .nil)))) (.cons (.if_ (.cmp .gt (.call 12 (.cons (.var 0) (.cons (.c (.int 3)) .nil))) (.c (.int 0))) (.cons (.ret (.tup (.cons (.var 2) (.cons (.var 3) .nil)))) .nil) .nil) (.cons (.asg 4 (.call 12 (.cons (.var 0) (.cons (.bin .add (.bi .len false (.cons (.var 3) .nil)) (.c (.int 1))) .nil)))) (.cons (.asg 5 (.bi .tuple false (.cons (.comp false (.n 7) (.rng (.c (.int 0)) (.bin .add (.c (.int 1)) (.call 12 (.cons (.var 0) (.cons (.c (.int 2)) .nil))))) .nil (.call 15 (.cons (.var 0) (.cons (.var 2) .nil)))) .nil))) (.cons (.asg 6 (.tup (.cons (.var 5) (.cons (.call 14 (.cons (.var 0) (.cons (.lst false (.cons (.c (.str "take")) (.cons (.c (.str "keep")) (.cons (.c (.str "drop")) (.cons (.c (.str "claim")) .nil))))) .nil))) .nil)))) (.cons (.ret (.tup (.cons (.var 2) (.cons (.bin .add (.bin .add (.sl (.var 3) .no (.var 4)) (.tup (.cons (.var 6) .nil))) (.sl (.var 3) (.var 4) .no)) .nil)))) .nil))))))))))⟩

def d_l_events : Def := ⟨2, 5, (.cons (.asg 2 (.lst true .nil)) (.cons (.for_ (.n 3) (.rng (.c (.int 0)) (.call 12 (.cons (.var 0) (.cons (.bin .add (.var 1) (.c (.int 1))) .nil)))) (.cons (.asg 4 (.call 14 (.cons (.var 0) (.cons (.lst false (.cons (.c (.str "change")) (.cons (.c (.str "delete")) (.cons (.c (.str "set")) (.cons (.c (.str "set")) (.cons (.c (.str "remove")) (.cons (.c (.str "back")) (.cons (.c (.str "carry")) (.cons (.c (.str "carry")) (.cons (.c (.str "carry")) (.cons (.c (.str "change")) .nil))))))))))) .nil)))) (.cons (.if_ (.cmp .in_ (.var 4) (.lst false (.cons (.c (.str "change")) (.cons (.c (.str "set")) .nil)))) (.cons (.mut .append (.var 2) (.cons (.tup (.cons (.var 4) (.cons (.call 14 (.cons (.var 0) (.cons (.lst false (.cons (.c (.int 1)) (.cons (.c (.int 2)) (.cons (.c (.int 3)) (.cons (.neg (.c (.int 5))) .nil))))) .nil))) .nil))) .nil)) .nil) (.cons (.if_ (.cmp .eq (.var 4) (.c (.str "carry"))) (.cons (.mut .append (.var 2) (.cons (.tup (.cons (.var 4) (.cons (.call 14 (.cons (.var 0) (.cons (.lst false (.cons (.c (.str "yes")) (.cons (.c (.str "no")) .nil))) .nil))) .nil))) .nil)) .nil) (.cons (.mut .append (.var 2) (.cons (.tup (.cons (.var 4) .nil)) .nil)) .nil)) .nil)) .nil))) (.cons (.ret (.bi .tuple false (.cons (.var 2) .nil))) .nil)))⟩

def d_l_start : Def := ⟨1, 1, (.cons (.ret (.call 14 (.cons (.var 0) (.cons (.lst false (.cons (.c (.int 1)) (.cons (.c (.int 2)) (.cons (.c .non) .nil)))) .nil)))) .nil)⟩

def d_l_new : Def := ⟨1, 1, (.cons (.ret (.lst false (.cons (.var 0) (.cons (.var 0) (.cons (.var 0) (.cons (.c .non) (.cons (.c (.bl false)) .nil))))))) .nil)⟩

def d_l_spot : Def := ⟨2, 2, (.cons (.ret (.ix (.var 0) (.sm .index (.lst false (.cons (.c (.str "above")) (.cons (.c (.str "own")) (.cons (.c (.str "base")) .nil)))) (.cons (.var 1) .nil)))) .nil)⟩

def d_l_so : Def := ⟨3, 3, (.cons (.if_ (.cmp .eq (.ix (.var 1) (.c (.int 0))) (.c (.str "same"))) (.cons (.ret (.cmp .eq (.call 55 (.cons (.var 0) (.cons (.ix (.var 1) (.c (.int 1))) .nil))) (.call 55 (.cons (.var 0) (.cons (.ix (.var 1) (.c (.int 2))) .nil))))) .nil) .nil) (.cons (.if_ (.cmp .eq (.ix (.var 1) (.c (.int 0))) (.c (.str "unlike"))) (.cons (.ret (.cmp .ne (.call 55 (.cons (.var 0) (.cons (.ix (.var 1) (.c (.int 1))) .nil))) (.call 55 (.cons (.var 0) (.cons (.ix (.var 1) (.c (.int 2))) .nil))))) .nil) .nil) (.cons (.if_ (.cmp .eq (.ix (.var 1) (.c (.int 0))) (.c (.str "there"))) (.cons (.ret (.cmp .isnot (.call 55 (.cons (.var 0) (.cons (.ix (.var 1) (.c (.int 1))) .nil))) (.c .non))) .nil) .nil) (.cons (.if_ (.cmp .eq (.ix (.var 1) (.c (.int 0))) (.c (.str "gone"))) (.cons (.ret (.cmp .is_ (.call 55 (.cons (.var 0) (.cons (.ix (.var 1) (.c (.int 1))) .nil))) (.c .non))) .nil) .nil) (.cons (.if_ (.cmp .eq (.ix (.var 1) (.c (.int 0))) (.c (.str "mine"))) (.cons (.ret (.ix (.var 0) (.c (.int 4)))) .nil) .nil) (.cons (.if_ (.cmp .eq (.ix (.var 1) (.c (.int 0))) (.c (.str "free"))) (.cons (.ret (.not_ (.ix (.var 0) (.c (.int 4))))) .nil) .nil) (.cons (.ret (.cmp .eq (.ix (.var 1) (.c (.int 0))) (.var 2))) .nil)))))))⟩

def d_l_row : Def := ⟨3, 5, (.cons (.for_ (.n 3) (.rng (.c (.int 0)) (.bi .len false (.cons (.ix (.var 0) (.c (.int 1))) .nil))) (.cons (.if_ (.cmp .eq (.comp false (.n 4) (.seq (.ix (.ix (.ix (.var 0) (.c (.int 1))) (.var 3)) (.c (.int 0)))) (.cons (.not_ (.call 56 (.cons (.var 1) (.cons (.var 4) (.cons (.var 2) .nil))))) .nil) (.var 4)) (.lst false .nil)) (.cons (.ret (.var 3)) .nil) .nil) .nil)) (.cons (.ret (.neg (.c (.int 1)))) .nil))⟩

def d_l_carried : Def := ⟨3, 6, (.cons (.asg 3 (.call 57 (.cons (.var 0) (.cons (.var 1) (.cons (.var 2) .nil))))) (.cons (.par [4, 5] (.cons (.ifx (.cmp .lt (.var 3) (.c (.int 0))) (.c (.str "keep")) (.ix (.ix (.ix (.var 0) (.c (.int 1))) (.var 3)) (.c (.int 1)))) (.cons (.bi .list true (.cons (.var 1) .nil)) .nil))) (.cons (.if_ (.cmp .eq (.var 4) (.c (.str "take"))) (.cons (.iset2 (.var 5) (.c (.int 1)) (.var 5) (.c (.int 4)) (.ix (.var 1) (.c (.int 0))) (.c (.bl false))) .nil) .nil) (.cons (.if_ (.cmp .eq (.var 4) (.c (.str "drop"))) (.cons (.iset (.var 5) (.c (.int 1)) (.c .non)) .nil) .nil) (.cons (.if_ (.cmp .eq (.var 4) (.c (.str "claim"))) (.cons (.iset (.var 5) (.c (.int 4)) (.c (.bl true))) .nil) .nil) (.cons (.iset (.var 5) (.c (.int 2)) (.ix (.var 1) (.c (.int 0)))) (.cons (.frz 5) (.cons (.ret (.var 5)) .nil))))))))⟩

def d_l_done : Def := ⟨3, 4, (.cons (.if_ (.cmp .eq (.ix (.var 2) (.c (.int 0))) (.c (.str "carry"))) (.cons (.ret (.call 58 (.cons (.var 0) (.cons (.var 1) (.cons (.ix (.var 2) (.c (.int 1))) .nil))))) .nil) .nil) (.cons (.if_ (.cmp .eq (.ix (.var 2) (.c (.int 0))) (.c (.str "back"))) (.cons (.ret (.lst false (.cons (.ix (.var 1) (.c (.int 0))) (.cons (.ix (.var 1) (.c (.int 0))) (.cons (.ix (.var 1) (.c (.int 0))) (.cons (.c .non) (.cons (.c (.bl false)) .nil))))))) .nil) .nil) (.cons (.asg 3 (.ifx (.cmp .gt (.bi .len false (.cons (.var 2) .nil)) (.c (.int 1))) (.ix (.var 2) (.c (.int 1))) (.c .non))) (.cons (.if_ (.cmp .in_ (.ix (.var 2) (.c (.int 0))) (.lst false (.cons (.c (.str "change")) (.cons (.c (.str "delete")) .nil)))) (.cons (.ret (.bin .add (.lst false (.cons (.var 3) .nil)) (.sl (.var 1) (.c (.int 1)) .no))) .nil) .nil) (.cons (.ret (.lst false (.cons (.ix (.var 1) (.c (.int 0))) (.cons (.var 3) (.cons (.ix (.var 1) (.c (.int 2))) (.cons (.lst false (.cons (.var 3) .nil)) (.cons (.c (.bl true)) .nil))))))) .nil)))))⟩

def d_l_due : Def := ⟨2, 2, (.cons (.if_ (.cmp .eq (.var 1) (.c (.str "every"))) (.cons (.ret (.ifx (.cmp .is_ (.ix (.var 0) (.c (.int 3))) (.c .non)) (.tup (.cons (.ix (.var 0) (.c (.int 0))) (.cons (.c (.str "missed")) .nil))) (.tup (.cons (.ix (.ix (.var 0) (.c (.int 3))) (.c (.int 0))) (.cons (.c (.str "lost")) .nil))))) .nil) .nil) (.cons (.ret (.ifx (.cmp .eq (.ix (.var 0) (.c (.int 1))) (.ix (.var 0) (.c (.int 2)))) (.tup (.cons (.ix (.var 0) (.c (.int 0))) (.cons (.c (.str "missed")) .nil))) (.tup (.cons (.ix (.var 0) (.c (.int 1))) (.cons (.c (.str "lost")) .nil))))) .nil))⟩

def d_l_played : Def := ⟨2, 11, (.cons (.par [2, 3, 4] (.cons (.call 54 (.cons (.ix (.var 1) (.c (.int 0))) .nil)) (.cons (.lst true .nil) (.cons (.lst true .nil) .nil)))) (.cons (.for_ (.n 5) (.rng (.c (.int 0)) (.bi .len false (.cons (.ix (.var 1) (.c (.int 1))) .nil))) (.cons (.asg 6 (.ix (.ix (.var 1) (.c (.int 1))) (.var 5))) (.cons (.asg 7 (.call 59 (.cons (.var 0) (.cons (.var 2) (.cons (.var 6) .nil))))) (.cons (.if_ (.cmp .eq (.ix (.var 6) (.c (.int 0))) (.c (.str "carry"))) (.cons (.mut .append (.var 3) (.cons (.call 57 (.cons (.var 0) (.cons (.var 2) (.cons (.ix (.var 6) (.c (.int 1))) .nil)))) .nil)) (.cons (.for_ (.n 8) (.seq (.lst false (.cons (.c (.str "changed")) (.cons (.c (.str "every")) .nil)))) (.cons (.asgG (.tup (.cons (.n 9) (.cons (.n 10) .nil))) (.call 60 (.cons (.var 2) (.cons (.var 8) .nil)))) (.cons (.if_ (.cmp .ne (.ix (.var 7) (.c (.int 1))) (.var 9)) (.cons (.mut .append (.var 4) (.cons (.tup (.cons (.var 5) (.cons (.var 8) (.cons (.var 10) .nil)))) .nil)) .nil) .nil) .nil))) .nil)) .nil) (.cons (.asg 2 (.var 7)) .nil))))) (.cons (.frz 3) (.cons (.frz 4) (.cons (.ret (.tup (.cons (.var 2) (.cons (.var 3) (.cons (.var 4) .nil))))) .nil)))))⟩

def d_p_row_text : Def := ⟨1, 4, (.cons (.asgG (.tup (.cons (.n 1) (.cons (.n 2) .nil))) (.var 0)) (.cons (.if_ (.cmp .eq (.var 1) (.tup .nil)) (.cons (.ret (.var 2)) .nil) .nil) (.cons (.ret (.bin .add (.bin .add (.var 2) (.c (.str " if "))) (.sm .join (.c (.str ", ")) (.cons (.comp false (.n 3) (.seq (.var 1)) .nil (.sm .join (.c (.str " ")) (.cons (.var 3) .nil))) .nil)))) .nil)))⟩

def d_p_write : Def := ⟨1, 4, (.cons (.asg 1 (.lst false (.cons (.sm .join (.c (.str " ")) (.cons (.lst false (.cons (.c (.str "notes")) (.star (.prop 1 6 (.var 0)) .nil))) .nil)) (.star (.comp false (.n 2) (.seq (.prop 1 7 (.var 0))) .nil (.call 173 (.cons (.var 2) .nil))) .nil)))) (.cons (.ret (.sm .join (.c (.str "")) (.cons (.comp false (.n 3) (.seq (.var 1)) .nil (.bin .add (.var 3) (.c (.str "\n")))) .nil))) .nil))⟩

def d_p_row_of : Def := ⟨1, 5, (.cons (.asgG (.tup (.cons (.n 1) (.cons (.n 2) (.cons (.n 3) .nil)))) (.sm .partition (.var 0) (.cons (.c (.str " if ")) .nil))) (.cons (.if_ (.cmp .eq (.var 2) (.c (.str ""))) (.cons (.ret (.tup (.cons (.tup .nil) (.cons (.var 1) .nil)))) .nil) .nil) (.cons (.ret (.tup (.cons (.bi .tuple false (.cons (.comp false (.n 4) (.seq (.sm .split (.var 3) (.cons (.c (.str ", ")) .nil))) .nil (.bi .tuple false (.cons (.sm .split (.var 4) (.cons (.c (.str " ")) .nil)) .nil))) .nil)) (.cons (.var 1) .nil)))) .nil)))⟩

def d_p_read : Def := ⟨1, 9, (.cons (.par [1, 2] (.cons (.sl (.sm .split (.var 0) (.cons (.c (.str "\n")) .nil)) .no (.neg (.c (.int 1)))) (.cons (.ix (.sm .split (.var 0) (.cons (.c (.str "\n")) .nil)) (.neg (.c (.int 1)))) .nil))) (.cons (.asg 3 (.dcomp false (.n 4) (.seq (.glob 0)) .nil (.sm .join (.c (.str " ")) (.cons (.lst false (.cons (.c (.str "notes")) (.star (.var 4) .nil))) .nil)) (.var 4))) (.cons (.if_ (.or_ (.cons (.cmp .eq (.var 1) (.lst false .nil)) (.cons (.cmp .nin (.ix (.var 1) (.c (.int 0))) (.var 3)) .nil))) (.cons (.raise 30 (.cons (.c (.int 1)) .nil)) .nil) .nil) (.cons (.par [4, 5] (.cons (.ix (.var 3) (.ix (.var 1) (.c (.int 0)))) (.cons (.lst true .nil) .nil))) (.cons (.for_ (.tup (.cons (.n 6) (.cons (.n 7) .nil))) (.enum (.sl (.var 1) (.c (.int 1)) .no)) (.cons (.asg 8 (.call 175 (.cons (.var 7) .nil))) (.cons (.if_ (.or_ (.cons (.cmp .eq (.var 6) (.glob 8)) (.cons (.not_ (.call 4 (.cons (.var 4) (.cons (.var 8) .nil)))) .nil))) (.cons (.raise 30 (.cons (.bin .add (.var 6) (.c (.int 2))) .nil)) .nil) .nil) (.cons (.mut .append (.var 5) (.cons (.var 8) .nil)) .nil)))) (.cons (.if_ (.cmp .ne (.var 2) (.c (.str ""))) (.cons (.raise 30 (.cons (.bin .add (.bi .len false (.cons (.var 1) .nil)) (.c (.int 1))) .nil)) .nil) .nil) (.cons (.ret (.make false 1 5 (.cons (.var 4) (.cons (.bi .tuple false (.cons (.var 5) .nil)) .nil)))) .nil)))))))⟩

def d_l_lines : Def := ⟨1, 6, (.cons (.asg 1 (.lst true (.cons (.sm .join (.c (.str " ")) (.cons (.bin .add (.lst false (.cons (.c (.str "notes")) .nil)) (.bi .list false (.cons (.ix (.var 0) (.c (.int 0))) .nil))) .nil)) .nil))) (.cons (.for_ (.tup (.cons (.n 2) (.cons (.n 3) .nil))) (.seq (.ix (.var 0) (.c (.int 1)))) (.cons (.asg 4 (.sm .join (.c (.str ", ")) (.cons (.comp false (.n 5) (.seq (.var 2)) .nil (.sm .join (.c (.str " ")) (.cons (.var 5) .nil))) .nil))) (.cons (.mut .append (.var 1) (.cons (.bin .add (.var 3) (.ifx (.cmp .ne (.var 4) (.c (.str ""))) (.bin .add (.c (.str " if ")) (.var 4)) (.c (.str "")))) .nil)) .nil))) (.cons (.frz 1) (.cons (.ret (.var 1)) .nil))))⟩

def d_l_main_k18 : Def := ⟨1, 6, (.cons (.asg 1 (.call 11 (.cons (.var 0) (.cons (.c (.int 18)) .nil)))) (.cons (.for_ (.n 2) (.rng (.c (.int 0)) (.c (.int 6))) (.cons (.asg 3 (.call 16 (.cons (.var 1) (.cons (.c (.int 8)) .nil)))) (.cons (.asg 4 (.sm .join (.c (.str "")) (.cons (.comp false (.n 5) (.seq (.call 177 (.cons (.var 3) .nil))) .nil (.bin .add (.var 5) (.c (.str "\n")))) .nil))) (.cons (.if_ (.or_ (.cons (.cmp .ne (.call 174 (.cons (.call 17 (.cons (.var 3) .nil)) .nil)) (.var 4)) (.cons (.not_ (.eqo 1 9 (.call 176 (.cons (.var 4) .nil)) (.call 17 (.cons (.var 3) .nil)))) .nil))) (.cons (.ret (.c (.bl false))) .nil) .nil) .nil)))) (.cons (.ret (.and_ (.cons (.cmp .eq (.call 174 (.cons (.make false 1 5 (.cons (.tup .nil) (.cons (.tup .nil) .nil))) .nil)) (.c (.str "notes\n"))) (.cons (.eqo 1 9 (.call 176 (.cons (.c (.str "notes\n")) .nil)) (.make false 1 5 (.cons (.tup .nil) (.cons (.tup .nil) .nil)))) .nil)))) .nil)))⟩

def d_l_is_line : Def := ⟨2, 6, (.cons (.asg 2 (.sm .split (.var 1) (.cons (.c (.str " if ")) .nil))) (.cons (.if_ (.or_ (.cons (.cmp .nin (.ix (.var 2) (.c (.int 0))) (.lst false (.cons (.c (.str "take")) (.cons (.c (.str "keep")) (.cons (.c (.str "drop")) (.cons (.c (.str "claim")) .nil)))))) (.cons (.cmp .gt (.bi .len false (.cons (.var 2) .nil)) (.c (.int 2))) .nil))) (.cons (.ret (.c (.bl false))) .nil) .nil) (.cons (.asg 3 (.ifx (.cmp .eq (.bi .len false (.cons (.var 2) .nil)) (.c (.int 2))) (.sm .split (.ix (.var 2) (.c (.int 1))) (.cons (.c (.str ", ")) .nil)) (.lst false .nil))) (.cons (.asg 4 (.comp false (.n 5) (.seq (.var 3)) (.cons (.not_ (.call 180 (.cons (.var 0) (.cons (.sm .split (.var 5) (.cons (.c (.str " ")) .nil)) .nil)))) .nil) (.var 5))) (.cons (.ret (.and_ (.cons (.cmp .le (.bi .len false (.cons (.var 3) .nil)) (.c (.int 4))) (.cons (.cmp .eq (.var 4) (.lst false .nil)) .nil)))) .nil)))))⟩

def d_l_is_test_b : Def := ⟨2, 3, (.cons (.for_ (.n 2) (.seq (.sl (.var 1) (.c (.int 1)) .no)) (.cons (.if_ (.or_ (.cons (.cmp .nin (.var 2) (.lst false (.cons (.c (.str "own")) (.cons (.c (.str "above")) (.cons (.c (.str "base")) .nil))))) (.cons (.and_ (.cons (.cmp .eq (.var 2) (.c (.str "base"))) (.cons (.cmp .nin (.c (.str "base")) (.var 0)) .nil))) .nil))) (.cons (.ret (.c (.bl false))) .nil) .nil) .nil)) (.cons (.if_ (.cmp .eq (.bi .len false (.cons (.var 1) .nil)) (.c (.int 3))) (.cons (.ret (.cmp .in_ (.ix (.var 1) (.c (.int 0))) (.lst false (.cons (.c (.str "same")) (.cons (.c (.str "unlike")) .nil))))) .nil) .nil) (.cons (.if_ (.cmp .eq (.bi .len false (.cons (.var 1) .nil)) (.c (.int 2))) (.cons (.ret (.cmp .in_ (.ix (.var 1) (.c (.int 0))) (.lst false (.cons (.c (.str "there")) (.cons (.c (.str "gone")) .nil))))) .nil) .nil) (.cons (.if_ (.or_ (.cons (.cmp .ne (.bi .len false (.cons (.var 1) .nil)) (.c (.int 1))) (.cons (.and_ (.cons (.cmp .in_ (.ix (.var 1) (.c (.int 0))) (.lst false (.cons (.c (.str "mine")) (.cons (.c (.str "free")) .nil)))) (.cons (.cmp .nin (.c (.str "mine")) (.var 0)) .nil))) .nil))) (.cons (.ret (.c (.bl false))) .nil) .nil) (.cons (.ret (.cmp .in_ (.ix (.var 1) (.c (.int 0))) (.lst false (.cons (.c (.str "yes")) (.cons (.c (.str "no")) (.cons (.c (.str "mine")) (.cons (.c (.str "free")) .nil))))))) .nil)))))⟩

def d_p_Outcome_rows_t : Def := ⟨1, 1, (.cons (.ret (.bi .list true (.cons (.fld 2 (.var 0) 1) .nil))) .nil)⟩

def d_p_Outcome_faults_t : Def := ⟨1, 1, (.cons (.ret (.bi .list true (.cons (.fld 2 (.var 0) 2) .nil))) .nil)⟩

def dfL : List (Nat × Def) := [(0, d_p_is_integer), (1, d_p_is_word), (2, d_p_are_notes), (3, d_p_is_test), (4, d_p_is_row), (5, d_p_Rule_init), (6, d_p_Rule_notes), (7, d_p_Rule_rows), (8, d_p_Rule_len), (9, d_p_Rule_eq), (10, d_p_Rule_without), (11, d_l_mix), (12, d_l_next), (13, d_l_alike), (14, d_l_pick), (15, d_l_test), (16, d_l_parts), (17, d_l_built), (18, d_l_is_test), (19, d_l_is_row), (20, d_l_fault), (21, d_l_tried), (22, d_l_odd), (23, d_l_right_without), (24, d_l_main_k01), (25, d_p_State_init), (26, d_p_State_value), (27, d_p_State_is_so), (28, d_p_State_row_for), (29, d_p_State_due), (30, d_p_State_word), (31, d_p_State_carried), (32, d_p_State_faults_of), (33, d_p_State_edited), (34, d_p_State_put_back), (35, d_p_State_changed), (36, d_p_first_state), (37, d_p_happened), (38, d_p_is_event), (39, d_p_check_history), (40, d_p_Outcome_init), (41, d_p_Outcome_own), (42, d_p_Outcome_above), (43, d_p_Outcome_base), (44, d_p_Outcome_mine), (45, d_p_Outcome_rows), (46, d_p_Outcome_faults), (47, d_p_Outcome_len), (48, d_p_Outcome_told), (49, d_p_Outcome_eq), (50, d_p_play), (51, d_l_near), (52, d_l_events), (53, d_l_start), (54, d_l_new), (55, d_l_spot), (56, d_l_so), (57, d_l_row), (58, d_l_carried), (59, d_l_done), (60, d_l_due), (61, d_l_played), (173, d_p_row_text), (174, d_p_write), (175, d_p_row_of), (176, d_p_read), (177, d_l_lines), (178, d_l_main_k18), (179, d_l_is_line), (180, d_l_is_test_b), (191, d_p_Outcome_rows_t), (192, d_p_Outcome_faults_t)]
def glL : List (Nat × D) := [(0, (.tup [(.tup []), (.tup [(.str "base")]), (.tup [(.str "mine")]), (.tup [(.str "base"), (.str "mine")])])), (1, (.tup [(.str "own"), (.str "above"), (.str "base")])), (2, (.tup [(.str "same"), (.str "unlike")])), (3, (.tup [(.str "there"), (.str "gone")])), (4, (.tup [(.str "mine"), (.str "free")])), (5, (.tup [(.str "yes"), (.str "no")])), (6, (.tup [(.str "take"), (.str "keep"), (.str "drop"), (.str "claim")])), (7, (.int 4)), (8, (.int 8)), (9, (.str "every")), (10, (.str "lost")), (11, (.str "missed")), (12, (.str "keep")), (13, (.tup [(.str "changed"), (.str "every")])), (14, (.tup [(.str "delete"), (.str "remove"), (.str "back")])), (15, (.tup [(.str "change"), (.str "set")]))]
def TB : Tab := ⟨fun f => dfL.lookup f, fun g => (glL.lookup g).getD .non, 100000⟩
theorem df_p_is_integer : TB.df 0 = some d_p_is_integer := rfl
theorem df_p_is_word : TB.df 1 = some d_p_is_word := rfl
theorem df_p_are_notes : TB.df 2 = some d_p_are_notes := rfl
theorem df_p_is_test : TB.df 3 = some d_p_is_test := rfl
theorem df_p_is_row : TB.df 4 = some d_p_is_row := rfl
theorem df_p_Rule_init : TB.df 5 = some d_p_Rule_init := rfl
theorem df_p_Rule_notes : TB.df 6 = some d_p_Rule_notes := rfl
theorem df_p_Rule_rows : TB.df 7 = some d_p_Rule_rows := rfl
theorem df_p_Rule_len : TB.df 8 = some d_p_Rule_len := rfl
theorem df_p_Rule_eq : TB.df 9 = some d_p_Rule_eq := rfl
theorem df_p_Rule_without : TB.df 10 = some d_p_Rule_without := rfl
theorem df_l_mix : TB.df 11 = some d_l_mix := rfl
theorem df_l_next : TB.df 12 = some d_l_next := rfl
theorem df_l_alike : TB.df 13 = some d_l_alike := rfl
theorem df_l_pick : TB.df 14 = some d_l_pick := rfl
theorem df_l_test : TB.df 15 = some d_l_test := rfl
theorem df_l_parts : TB.df 16 = some d_l_parts := rfl
theorem df_l_built : TB.df 17 = some d_l_built := rfl
theorem df_l_is_test : TB.df 18 = some d_l_is_test := rfl
theorem df_l_is_row : TB.df 19 = some d_l_is_row := rfl
theorem df_l_fault : TB.df 20 = some d_l_fault := rfl
theorem df_l_tried : TB.df 21 = some d_l_tried := rfl
theorem df_l_odd : TB.df 22 = some d_l_odd := rfl
theorem df_l_right_without : TB.df 23 = some d_l_right_without := rfl
theorem df_l_main_k01 : TB.df 24 = some d_l_main_k01 := rfl
theorem df_p_State_init : TB.df 25 = some d_p_State_init := rfl
theorem df_p_State_value : TB.df 26 = some d_p_State_value := rfl
theorem df_p_State_is_so : TB.df 27 = some d_p_State_is_so := rfl
theorem df_p_State_row_for : TB.df 28 = some d_p_State_row_for := rfl
theorem df_p_State_due : TB.df 29 = some d_p_State_due := rfl
theorem df_p_State_word : TB.df 30 = some d_p_State_word := rfl
theorem df_p_State_carried : TB.df 31 = some d_p_State_carried := rfl
theorem df_p_State_faults_of : TB.df 32 = some d_p_State_faults_of := rfl
theorem df_p_State_edited : TB.df 33 = some d_p_State_edited := rfl
theorem df_p_State_put_back : TB.df 34 = some d_p_State_put_back := rfl
theorem df_p_State_changed : TB.df 35 = some d_p_State_changed := rfl
theorem df_p_first_state : TB.df 36 = some d_p_first_state := rfl
theorem df_p_happened : TB.df 37 = some d_p_happened := rfl
theorem df_p_is_event : TB.df 38 = some d_p_is_event := rfl
theorem df_p_check_history : TB.df 39 = some d_p_check_history := rfl
theorem df_p_Outcome_init : TB.df 40 = some d_p_Outcome_init := rfl
theorem df_p_Outcome_own : TB.df 41 = some d_p_Outcome_own := rfl
theorem df_p_Outcome_above : TB.df 42 = some d_p_Outcome_above := rfl
theorem df_p_Outcome_base : TB.df 43 = some d_p_Outcome_base := rfl
theorem df_p_Outcome_mine : TB.df 44 = some d_p_Outcome_mine := rfl
theorem df_p_Outcome_rows : TB.df 45 = some d_p_Outcome_rows := rfl
theorem df_p_Outcome_faults : TB.df 46 = some d_p_Outcome_faults := rfl
theorem df_p_Outcome_len : TB.df 47 = some d_p_Outcome_len := rfl
theorem df_p_Outcome_told : TB.df 48 = some d_p_Outcome_told := rfl
theorem df_p_Outcome_eq : TB.df 49 = some d_p_Outcome_eq := rfl
theorem df_p_play : TB.df 50 = some d_p_play := rfl
theorem df_l_near : TB.df 51 = some d_l_near := rfl
theorem df_l_events : TB.df 52 = some d_l_events := rfl
theorem df_l_start : TB.df 53 = some d_l_start := rfl
theorem df_l_new : TB.df 54 = some d_l_new := rfl
theorem df_l_spot : TB.df 55 = some d_l_spot := rfl
theorem df_l_so : TB.df 56 = some d_l_so := rfl
theorem df_l_row : TB.df 57 = some d_l_row := rfl
theorem df_l_carried : TB.df 58 = some d_l_carried := rfl
theorem df_l_done : TB.df 59 = some d_l_done := rfl
theorem df_l_due : TB.df 60 = some d_l_due := rfl
theorem df_l_played : TB.df 61 = some d_l_played := rfl
theorem df_p_row_text : TB.df 173 = some d_p_row_text := rfl
theorem df_p_write : TB.df 174 = some d_p_write := rfl
theorem df_p_row_of : TB.df 175 = some d_p_row_of := rfl
theorem df_p_read : TB.df 176 = some d_p_read := rfl
theorem df_l_lines : TB.df 177 = some d_l_lines := rfl
theorem df_l_main_k18 : TB.df 178 = some d_l_main_k18 := rfl
theorem df_l_is_line : TB.df 179 = some d_l_is_line := rfl
theorem df_l_is_test_b : TB.df 180 = some d_l_is_test_b := rfl
theorem df_p_Outcome_rows_t : TB.df 191 = some d_p_Outcome_rows_t := rfl
theorem df_p_Outcome_faults_t : TB.df 192 = some d_p_Outcome_faults_t := rfl
theorem gl_ALL_NOTES : TB.glob 0 = (.tup [(.tup []), (.tup [(.str "base")]), (.tup [(.str "mine")]), (.tup [(.str "base"), (.str "mine")])]) := rfl
theorem gl_SPOTS : TB.glob 1 = (.tup [(.str "own"), (.str "above"), (.str "base")]) := rfl
theorem gl_PAIRS : TB.glob 2 = (.tup [(.str "same"), (.str "unlike")]) := rfl
theorem gl_SINGLES : TB.glob 3 = (.tup [(.str "there"), (.str "gone")]) := rfl
theorem gl_FLAGS : TB.glob 4 = (.tup [(.str "mine"), (.str "free")]) := rfl
theorem gl_ANSWERS : TB.glob 5 = (.tup [(.str "yes"), (.str "no")]) := rfl
theorem gl_ACTIONS : TB.glob 6 = (.tup [(.str "take"), (.str "keep"), (.str "drop"), (.str "claim")]) := rfl
theorem gl_MOST_TESTS : TB.glob 7 = (.int 4) := rfl
theorem gl_MOST_ROWS : TB.glob 8 = (.int 8) := rfl
theorem gl_EVERY : TB.glob 9 = (.str "every") := rfl
theorem gl_LOST : TB.glob 10 = (.str "lost") := rfl
theorem gl_MISSED : TB.glob 11 = (.str "missed") := rfl
theorem gl_KEEP : TB.glob 12 = (.str "keep") := rfl
theorem gl_WAYS : TB.glob 13 = (.tup [(.str "changed"), (.str "every")]) := rfl
theorem gl_PLAIN : TB.glob 14 = (.tup [(.str "delete"), (.str "remove"), (.str "back")]) := rfl
theorem gl_VALUED : TB.glob 15 = (.tup [(.str "change"), (.str "set")]) := rfl
end Cy.T

set_option Elab.async false
set_option linter.all false
set_option maxRecDepth 100000
set_option maxHeartbeats 4000000
namespace Cy.K01
open PySem L2 Cy Cy.T
def top (i : Nat) : Stmt := PySem.Challenge.pw_carriedin_k01_rules_refused.main.body.getD i (.Pass ⟨0, 0, 0, 0⟩)
def e_p_is_integer : DE := ⟨0, .g "is_integer", "is_integer", "is_integer", top 14, ["thing"], ["thing"], false⟩
def e_p_is_word : DE := ⟨1, .g "is_word", "is_word", "is_word", top 15, ["thing", "words"], ["thing", "words"], false⟩
def e_p_are_notes : DE := ⟨2, .g "are_notes", "are_notes", "are_notes", top 16, ["thing", "note"], ["thing"], false⟩
def e_p_is_test : DE := ⟨3, .g "is_test", "is_test", "is_test", top 17, ["notes", "thing", "spot"], ["notes", "thing"], false⟩
def e_p_is_row : DE := ⟨4, .g "is_row", "is_row", "is_row", top 18, ["notes", "thing", "test"], ["notes", "thing"], false⟩
def e_p_Rule_init : DE := ⟨5, .m "Rule" "__init__", "__init__", "Rule.__init__", inClass (top 19) 0, ["self", "notes", "rows", "index", "row"], ["self", "notes", "rows"], false⟩
def e_p_Rule_notes : DE := ⟨6, .p "Rule" "notes", "notes", "Rule.notes", inClass (top 19) 1, ["self"], ["self"], false⟩
def e_p_Rule_rows : DE := ⟨7, .p "Rule" "rows", "rows", "Rule.rows", inClass (top 19) 2, ["self"], ["self"], false⟩
def e_p_Rule_len : DE := ⟨8, .m "Rule" "__len__", "__len__", "Rule.__len__", inClass (top 19) 3, ["self"], ["self"], false⟩
def e_p_Rule_eq : DE := ⟨9, .m "Rule" "__eq__", "__eq__", "Rule.__eq__", inClass (top 19) 4, ["self", "other"], ["self", "other"], false⟩
def e_p_Rule_without : DE := ⟨10, .m "Rule" "without", "without", "Rule.without", inClass (top 19) 5, ["self", "index"], ["self", "index"], false⟩
def e_l_mix : DE := ⟨11, .g "_law_mix", "_law_mix", "_law_mix", top 21, ["_law_script", "_law_seed", "_law_state", "_law_cell"], ["_law_script", "_law_seed"], false⟩
def e_l_next : DE := ⟨12, .g "_law_next", "_law_next", "_law_next", top 22, ["_law_h", "_law_cap", "_law_cell"], ["_law_h", "_law_cap"], false⟩
def e_l_alike : DE := ⟨13, .g "_law_alike", "_law_alike", "_law_alike", top 23, ["_law_found", "_law_due", "_law_k"], ["_law_found", "_law_due"], false⟩
def e_l_pick : DE := ⟨14, .g "_law_pick", "_law_pick", "_law_pick", top 24, ["_law_h", "_law_things"], ["_law_h", "_law_things"], false⟩
def e_l_test : DE := ⟨15, .g "_law_test", "_law_test", "_law_test", top 25, ["_law_h", "_law_notes", "_law_spots", "_law_kind", "_law_first", "_law_second", "_law_spot"], ["_law_h", "_law_notes"], false⟩
def e_l_parts : DE := ⟨16, .g "_law_parts", "_law_parts", "_law_parts", top 26, ["_law_h", "_law_most", "_law_notes", "_law_rows", "_law_k", "_law_tests", "_law_j"], ["_law_h", "_law_most"], false⟩
def e_l_built : DE := ⟨17, .g "_law_built", "_law_built", "_law_built", top 27, ["_law_parts_here"], ["_law_parts_here"], false⟩
def e_l_is_test : DE := ⟨18, .g "_law_is_test", "_law_is_test", "_law_is_test", top 28, ["_law_notes", "_law_thing", "_law_spot"], ["_law_notes", "_law_thing"], false⟩
def e_l_is_row : DE := ⟨19, .g "_law_is_row", "_law_is_row", "_law_is_row", top 29, ["_law_notes", "_law_thing", "_law_test_here"], ["_law_notes", "_law_thing"], false⟩
def e_l_fault : DE := ⟨20, .g "_law_fault", "_law_fault", "_law_fault", top 30, ["_law_notes", "_law_rows", "_law_wrong", "_law_index"], ["_law_notes", "_law_rows"], false⟩
def e_l_tried : DE := ⟨21, .g "_law_tried", "_law_tried", "_law_tried", top 31, ["_law_notes", "_law_rows", "_law_found", "error"], ["_law_notes", "_law_rows"], false⟩
def e_l_odd : DE := ⟨22, .g "_law_odd", "_law_odd", "_law_odd", top 32, ["_law_yes", "_law_own", "_law_odd_here"], [], false⟩
def e_l_right_without : DE := ⟨23, .g "_law_right_without", "_law_right_without", "_law_right_without", top 33, ["_law_rule", "_law_index", "_law_found", "error"], ["_law_rule", "_law_index"], false⟩
def e_l_main_k01 : DE := ⟨24, .g "law", "law", "law", top 34, ["_law_script", "_law_h", "_law_odd_here", "_law_turn", "_law_notes", "_law_rows", "_law_change", "_law_kind", "_law_some", "_law_at", "_law_fault_here", "_law_found", "_law_index", "_law_parts_here"], ["_law_script"], false⟩
def LK : Lk := { fns := [(0, ("is_integer" : Str)), (1, ("is_word" : Str)), (2, ("are_notes" : Str)), (3, ("is_test" : Str)), (4, ("is_row" : Str)), (11, ("_law_mix" : Str)), (12, ("_law_next" : Str)), (13, ("_law_alike" : Str)), (14, ("_law_pick" : Str)), (15, ("_law_test" : Str)), (16, ("_law_parts" : Str)), (17, ("_law_built" : Str)), (18, ("_law_is_test" : Str)), (19, ("_law_is_row" : Str)), (20, ("_law_fault" : Str)), (21, ("_law_tried" : Str)), (22, ("_law_odd" : Str)), (23, ("_law_right_without" : Str)), (24, ("law" : Str))], clss := [(1, "Rule")], flds := [(1, ["looks", "table"])], meths := [(1, 5, ("__init__" : Str)), (1, 10, ("without" : Str))], props := [(1, 6, "notes"), (1, 7, "rows")], globs := [(0, ("ALL_NOTES" : Str)), (1, ("SPOTS" : Str)), (2, ("PAIRS" : Str)), (3, ("SINGLES" : Str)), (4, ("FLAGS" : Str)), (5, ("ANSWERS" : Str)), (6, ("ACTIONS" : Str)), (7, ("MOST_TESTS" : Str)), (8, ("MOST_ROWS" : Str))], lens := [(1, 8)], eqs := [(1, 9)], errs := [(21, "InvalidRule", "index"), (22, "UnknownRow", "index")], ebase := [(20, "CarryError")], file := "/claim/cut.py", kfns := [] }
def des : List DE := [e_p_is_integer, e_p_is_word, e_p_are_notes, e_p_is_test, e_p_is_row, e_p_Rule_init, e_p_Rule_notes, e_p_Rule_rows, e_p_Rule_len, e_p_Rule_eq, e_p_Rule_without, e_l_mix, e_l_next, e_l_alike, e_l_pick, e_l_test, e_l_parts, e_l_built, e_l_is_test, e_l_is_row, e_l_fault, e_l_tried, e_l_odd, e_l_right_without, e_l_main_k01]
theorem st_p_is_integer : DStat LK TB e_p_is_integer := ⟨⟨rfl, rfl, rfl, by decide +kernel, rfl, by decide +kernel, by decide +kernel⟩, ⟨d_p_is_integer, df_p_is_integer, rfl, rfl, by decide +kernel⟩, fun _ _ _ _ _ _ _ us hl => match us, hl with | [_], _ => rfl, fun h => nomatch h⟩
theorem st_p_is_word : DStat LK TB e_p_is_word := ⟨⟨rfl, rfl, rfl, by decide +kernel, rfl, by decide +kernel, by decide +kernel⟩, ⟨d_p_is_word, df_p_is_word, rfl, rfl, by decide +kernel⟩, fun _ _ _ _ _ _ _ us hl => match us, hl with | [_, _], _ => rfl, fun h => nomatch h⟩
theorem st_p_are_notes : DStat LK TB e_p_are_notes := ⟨⟨rfl, rfl, rfl, by decide +kernel, rfl, by decide +kernel, by decide +kernel⟩, ⟨d_p_are_notes, df_p_are_notes, rfl, rfl, by decide +kernel⟩, fun _ _ _ _ _ _ _ us hl => match us, hl with | [_], _ => rfl, fun h => nomatch h⟩
theorem st_p_is_test : DStat LK TB e_p_is_test := ⟨⟨rfl, rfl, rfl, by decide +kernel, rfl, by decide +kernel, by decide +kernel⟩, ⟨d_p_is_test, df_p_is_test, rfl, rfl, by decide +kernel⟩, fun _ _ _ _ _ _ _ us hl => match us, hl with | [_, _], _ => rfl, fun h => nomatch h⟩
theorem st_p_is_row : DStat LK TB e_p_is_row := ⟨⟨rfl, rfl, rfl, by decide +kernel, rfl, by decide +kernel, by decide +kernel⟩, ⟨d_p_is_row, df_p_is_row, rfl, rfl, by decide +kernel⟩, fun _ _ _ _ _ _ _ us hl => match us, hl with | [_, _], _ => rfl, fun h => nomatch h⟩
theorem st_p_Rule_init : DStat LK TB e_p_Rule_init := ⟨⟨rfl, rfl, rfl, by decide +kernel, rfl, by decide +kernel, by decide +kernel⟩, ⟨d_p_Rule_init, df_p_Rule_init, rfl, rfl, by decide +kernel⟩, fun _ _ _ _ _ _ _ us hl => match us, hl with | [_, _, _], _ => rfl, fun h => nomatch h⟩
theorem st_p_Rule_notes : DStat LK TB e_p_Rule_notes := ⟨⟨rfl, rfl, rfl, by decide +kernel, rfl, by decide +kernel, by decide +kernel⟩, ⟨d_p_Rule_notes, df_p_Rule_notes, rfl, rfl, by decide +kernel⟩, fun _ _ _ _ _ _ _ us hl => match us, hl with | [_], _ => rfl, fun h => nomatch h⟩
theorem st_p_Rule_rows : DStat LK TB e_p_Rule_rows := ⟨⟨rfl, rfl, rfl, by decide +kernel, rfl, by decide +kernel, by decide +kernel⟩, ⟨d_p_Rule_rows, df_p_Rule_rows, rfl, rfl, by decide +kernel⟩, fun _ _ _ _ _ _ _ us hl => match us, hl with | [_], _ => rfl, fun h => nomatch h⟩
theorem st_p_Rule_len : DStat LK TB e_p_Rule_len := ⟨⟨rfl, rfl, rfl, by decide +kernel, rfl, by decide +kernel, by decide +kernel⟩, ⟨d_p_Rule_len, df_p_Rule_len, rfl, rfl, by decide +kernel⟩, fun _ _ _ _ _ _ _ us hl => match us, hl with | [_], _ => rfl, fun h => nomatch h⟩
theorem st_p_Rule_eq : DStat LK TB e_p_Rule_eq := ⟨⟨rfl, rfl, rfl, by decide +kernel, rfl, by decide +kernel, by decide +kernel⟩, ⟨d_p_Rule_eq, df_p_Rule_eq, rfl, rfl, by decide +kernel⟩, fun _ _ _ _ _ _ _ us hl => match us, hl with | [_, _], _ => rfl, fun h => nomatch h⟩
theorem st_p_Rule_without : DStat LK TB e_p_Rule_without := ⟨⟨rfl, rfl, rfl, by decide +kernel, rfl, by decide +kernel, by decide +kernel⟩, ⟨d_p_Rule_without, df_p_Rule_without, rfl, rfl, by decide +kernel⟩, fun _ _ _ _ _ _ _ us hl => match us, hl with | [_, _], _ => rfl, fun h => nomatch h⟩
theorem st_l_mix : DStat LK TB e_l_mix := ⟨⟨rfl, rfl, rfl, by decide +kernel, rfl, by decide +kernel, by decide +kernel⟩, ⟨d_l_mix, df_l_mix, rfl, rfl, by decide +kernel⟩, fun _ _ _ _ _ _ _ us hl => match us, hl with | [_, _], _ => rfl, fun h => nomatch h⟩
theorem st_l_next : DStat LK TB e_l_next := ⟨⟨rfl, rfl, rfl, by decide +kernel, rfl, by decide +kernel, by decide +kernel⟩, ⟨d_l_next, df_l_next, rfl, rfl, by decide +kernel⟩, fun _ _ _ _ _ _ _ us hl => match us, hl with | [_, _], _ => rfl, fun h => nomatch h⟩
theorem st_l_alike : DStat LK TB e_l_alike := ⟨⟨rfl, rfl, rfl, by decide +kernel, rfl, by decide +kernel, by decide +kernel⟩, ⟨d_l_alike, df_l_alike, rfl, rfl, by decide +kernel⟩, fun _ _ _ _ _ _ _ us hl => match us, hl with | [_, _], _ => rfl, fun h => nomatch h⟩
theorem st_l_pick : DStat LK TB e_l_pick := ⟨⟨rfl, rfl, rfl, by decide +kernel, rfl, by decide +kernel, by decide +kernel⟩, ⟨d_l_pick, df_l_pick, rfl, rfl, by decide +kernel⟩, fun _ _ _ _ _ _ _ us hl => match us, hl with | [_, _], _ => rfl, fun h => nomatch h⟩
theorem st_l_test : DStat LK TB e_l_test := ⟨⟨rfl, rfl, rfl, by decide +kernel, rfl, by decide +kernel, by decide +kernel⟩, ⟨d_l_test, df_l_test, rfl, rfl, by decide +kernel⟩, fun _ _ _ _ _ _ _ us hl => match us, hl with | [_, _], _ => rfl, fun h => nomatch h⟩
theorem st_l_parts : DStat LK TB e_l_parts := ⟨⟨rfl, rfl, rfl, by decide +kernel, rfl, by decide +kernel, by decide +kernel⟩, ⟨d_l_parts, df_l_parts, rfl, rfl, by decide +kernel⟩, fun _ _ _ _ _ _ _ us hl => match us, hl with | [_, _], _ => rfl, fun h => nomatch h⟩
theorem st_l_built : DStat LK TB e_l_built := ⟨⟨rfl, rfl, rfl, by decide +kernel, rfl, by decide +kernel, by decide +kernel⟩, ⟨d_l_built, df_l_built, rfl, rfl, by decide +kernel⟩, fun _ _ _ _ _ _ _ us hl => match us, hl with | [_], _ => rfl, fun h => nomatch h⟩
theorem st_l_is_test : DStat LK TB e_l_is_test := ⟨⟨rfl, rfl, rfl, by decide +kernel, rfl, by decide +kernel, by decide +kernel⟩, ⟨d_l_is_test, df_l_is_test, rfl, rfl, by decide +kernel⟩, fun _ _ _ _ _ _ _ us hl => match us, hl with | [_, _], _ => rfl, fun h => nomatch h⟩
theorem st_l_is_row : DStat LK TB e_l_is_row := ⟨⟨rfl, rfl, rfl, by decide +kernel, rfl, by decide +kernel, by decide +kernel⟩, ⟨d_l_is_row, df_l_is_row, rfl, rfl, by decide +kernel⟩, fun _ _ _ _ _ _ _ us hl => match us, hl with | [_, _], _ => rfl, fun h => nomatch h⟩
theorem st_l_fault : DStat LK TB e_l_fault := ⟨⟨rfl, rfl, rfl, by decide +kernel, rfl, by decide +kernel, by decide +kernel⟩, ⟨d_l_fault, df_l_fault, rfl, rfl, by decide +kernel⟩, fun _ _ _ _ _ _ _ us hl => match us, hl with | [_, _], _ => rfl, fun h => nomatch h⟩
theorem st_l_tried : DStat LK TB e_l_tried := ⟨⟨rfl, rfl, rfl, by decide +kernel, rfl, by decide +kernel, by decide +kernel⟩, ⟨d_l_tried, df_l_tried, rfl, rfl, by decide +kernel⟩, fun _ _ _ _ _ _ _ us hl => match us, hl with | [_, _], _ => rfl, fun h => nomatch h⟩
theorem st_l_odd : DStat LK TB e_l_odd := ⟨⟨rfl, rfl, rfl, by decide +kernel, rfl, by decide +kernel, by decide +kernel⟩, ⟨d_l_odd, df_l_odd, rfl, rfl, by decide +kernel⟩, fun _ _ _ _ _ _ _ us hl => match us, hl with | [], _ => rfl, fun h => nomatch h⟩
theorem st_l_right_without : DStat LK TB e_l_right_without := ⟨⟨rfl, rfl, rfl, by decide +kernel, rfl, by decide +kernel, by decide +kernel⟩, ⟨d_l_right_without, df_l_right_without, rfl, rfl, by decide +kernel⟩, fun _ _ _ _ _ _ _ us hl => match us, hl with | [_, _], _ => rfl, fun h => nomatch h⟩
theorem st_l_main_k01 : DStat LK TB e_l_main_k01 := ⟨⟨rfl, rfl, rfl, by decide +kernel, rfl, by decide +kernel, by decide +kernel⟩, ⟨d_l_main_k01, df_l_main_k01, rfl, rfl, by decide +kernel⟩, fun _ _ _ _ _ _ _ us hl => match us, hl with | [_], _ => rfl, fun h => nomatch h⟩
theorem tab : tabB LK des = true := by decide +kernel
theorem stats : ∀ e ∈ des, DStat LK TB e := List.forall_mem_cons.mpr ⟨st_p_is_integer, List.forall_mem_cons.mpr ⟨st_p_is_word, List.forall_mem_cons.mpr ⟨st_p_are_notes, List.forall_mem_cons.mpr ⟨st_p_is_test, List.forall_mem_cons.mpr ⟨st_p_is_row, List.forall_mem_cons.mpr ⟨st_p_Rule_init, List.forall_mem_cons.mpr ⟨st_p_Rule_notes, List.forall_mem_cons.mpr ⟨st_p_Rule_rows, List.forall_mem_cons.mpr ⟨st_p_Rule_len, List.forall_mem_cons.mpr ⟨st_p_Rule_eq, List.forall_mem_cons.mpr ⟨st_p_Rule_without, List.forall_mem_cons.mpr ⟨st_l_mix, List.forall_mem_cons.mpr ⟨st_l_next, List.forall_mem_cons.mpr ⟨st_l_alike, List.forall_mem_cons.mpr ⟨st_l_pick, List.forall_mem_cons.mpr ⟨st_l_test, List.forall_mem_cons.mpr ⟨st_l_parts, List.forall_mem_cons.mpr ⟨st_l_built, List.forall_mem_cons.mpr ⟨st_l_is_test, List.forall_mem_cons.mpr ⟨st_l_is_row, List.forall_mem_cons.mpr ⟨st_l_fault, List.forall_mem_cons.mpr ⟨st_l_tried, List.forall_mem_cons.mpr ⟨st_l_odd, List.forall_mem_cons.mpr ⟨st_l_right_without, List.forall_mem_cons.mpr ⟨st_l_main_k01, fun _ h => nomatch h⟩⟩⟩⟩⟩⟩⟩⟩⟩⟩⟩⟩⟩⟩⟩⟩⟩⟩⟩⟩⟩⟩⟩⟩⟩
end Cy.K01

set_option Elab.async false
set_option linter.all false
set_option maxRecDepth 100000
set_option maxHeartbeats 0
namespace Cy.K01
open PySem PySem.Spec PyProof.Rows L2 Cy Cy.T
abbrev R : PySem.W.OpenRow := PySem.W.OpenLaw.row PySem.Challenge.rw_carriedin_k01_rules_refused
abbrev hk : PySem.W.Hook := hookC 5 LK TB des
def ob (s : PySem.W.SharedT) : AlC := obsCG 5 LK TB des (HandSHeadRun.getT s)
theorem ob_eq (s : PySem.W.SharedT) : ob s = hk.obs s.abs := obsCG_eq (HandSHeadRun.getT_eq s)
def names : List PySem.Str := [("CarryError" : PySem.Str), ("InvalidRule" : PySem.Str), ("UnknownRow" : PySem.Str), ("MOST_ROWS" : PySem.Str), ("MOST_TESTS" : PySem.Str), ("ALL_NOTES" : PySem.Str), ("SPOTS" : PySem.Str), ("PAIRS" : PySem.Str), ("SINGLES" : PySem.Str), ("FLAGS" : PySem.Str), ("ANSWERS" : PySem.Str), ("ACTIONS" : PySem.Str), ("is_integer" : PySem.Str), ("is_word" : PySem.Str), ("are_notes" : PySem.Str), ("is_test" : PySem.Str), ("is_row" : PySem.Str), ("Rule" : PySem.Str), ("_law_mix" : PySem.Str), ("_law_next" : PySem.Str), ("_law_alike" : PySem.Str), ("_law_pick" : PySem.Str), ("_law_test" : PySem.Str), ("_law_parts" : PySem.Str), ("_law_built" : PySem.Str), ("_law_is_test" : PySem.Str), ("_law_is_row" : PySem.Str), ("_law_fault" : PySem.Str), ("_law_tried" : PySem.Str), ("_law_odd" : PySem.Str), ("_law_right_without" : PySem.Str)]
theorem run (w : PySem.World) : HandSHeadRun.RunEq R (PySem.W.view R.prog [34]) hk ob 6000 names w := by
  intro os
  kernel_rfl
end Cy.K01

set_option Elab.async false
set_option linter.all false
set_option maxRecDepth 100000
set_option maxHeartbeats 2000000
/-! CySimp: how the evaluator turns, as rewriting rules. -/
namespace Cy
open PySem
section
variable {α β : Type} {F : Fns} {env : Env} {m : Store} {a b c e o k x : E} {es : EL} {w y : W} {d : D} {i n : Nat}
@[simp] theorem bind_ok (a : α) (m : Store) (k : α → Store → R β) : (R.ok a m).bind k = k a m := rfl
@[simp] theorem bind_ex (c : Nat) (ds : List D) (m : Store) (k : α → Store → R β) : (R.ex c ds m : R α).bind k = .ex c ds m := rfl
@[simp] theorem noex_ok (a : α) (m : Store) : (R.ok a m).noex = .ok a m := rfl
@[simp] theorem of_ok (a : α) (m : Store) (k : α → Store → RS) : RS.of (R.ok a m) k = k a m := rfl
@[simp] theorem of_ex (c : Nat) (ds : List D) (m : Store) (k : α → Store → RS) : RS.of (R.ex c ds m : R α) k = .ex c ds m := rfl
@[simp] theorem then_nx (m : Store) (k : Env → Store → RS) : (RS.nx env m).then k = k env m := rfl
@[simp] theorem then_ret (m : Store) (k : Env → Store → RS) : (RS.ret w m).then k = .ret w m := rfl
@[simp] theorem then_ex (c : Nat) (ds : List D) (m : Store) (k : Env → Store → RS) : (RS.ex c ds m).then k = .ex c ds m := rfl
@[simp] theorem ofO_some (a : α) : ofO (some a) m = .ok a m := rfl
@[simp] theorem ofB_some (b : Bool) : ofB (some b) m = .ok (.v (.bl b)) m := rfl
@[simp] theorem ofD_some : ofD (some d) m = .ok (.v d) m := rfl
@[simp] theorem onO_some (a : α) (k : α → R β) : onO (some a) k = k a := rfl
@[simp] theorem onS_some (a : α) (k : α → RS) : onS (some a) k = k a := rfl
@[simp] theorem asD_v (k : D → R α) : asD (.v d) m k = k d := rfl
@[simp] theorem snap_v : snap m (.v d) = some d := rfl
@[simp] theorem ifW_b (q : Bool) (t f : R α) : ifW (.v (.bl q)) t f = bif q then t else f := rfl
@[simp] theorem ifS_b (q : Bool) (t f : RS) : ifS (.v (.bl q)) t f = bif q then t else f := rfl
@[simp] theorem intsW_i (i j : Int) (k : Int → Int → R α) : intsW (.v (.int i)) (.v (.int j)) k = k i j := rfl
@[simp] theorem onI_i (i : Int) (k : Int → R α) : onI (.v (.int i)) k = k i := rfl
@[simp] theorem onB_i (i : Bool) (k : Bool → R α) : onB (.v (.bl i)) k = k i := rfl
@[simp] theorem onV_i (k : D → R α) : onV (.v d) k = k d := rfl
@[simp] theorem getS_0 (w : Option W) (env : Env) : getS 0 (w :: env) = w := rfl
@[simp] theorem getS_s (w : Option W) (env : Env) : getS (n + 1) (w :: env) = getS n env := rfl
@[simp] theorem setS_0 (u : Option W) (env : Env) : setS 0 w (u :: env) = some w :: env := rfl
@[simp] theorem setS_s (u : Option W) (env : Env) : setS (n + 1) w (u :: env) = u :: setS n w env := rfl
@[simp] theorem clrS_0 (u : Option W) (env : Env) : clrS 0 (u :: env) = none :: env := rfl
@[simp] theorem clrS_s (u : Option W) (env : Env) : clrS (n + 1) (u :: env) = u :: clrS n env := rfl
@[simp] theorem allV_nil : allV [] = some [] := rfl
@[simp] theorem allV_cons (ws : List W) : allV (.v d :: ws) = (allV ws).map (d :: ·) := rfl
@[simp] theorem allV_map (ds : List D) : allV (ds.map .v) = some ds := by
  induction ds with
  | nil => rfl
  | cons d ds ih => simp [ih]
@[simp] theorem asDs_nil : asDs m [] = some [] := rfl
@[simp] theorem asDs_v (ws : List W) : asDs m (.v d :: ws) = (asDs m ws).map (d :: ·) := rfl
@[simp] theorem tyOf_non : tyOf m (.v .non) = some .non := rfl
@[simp] theorem tyOf_bl (b : Bool) : tyOf m (.v (.bl b)) = some .bool := rfl
@[simp] theorem tyOf_int (b : Int) : tyOf m (.v (.int b)) = some .int := rfl
@[simp] theorem tyOf_str (b : Str) : tyOf m (.v (.str b)) = some .str := rfl
@[simp] theorem tyOf_tup (b : List D) : tyOf m (.v (.tup b)) = some .tuple := rfl
@[simp] theorem tyOf_lst (b : List D) : tyOf m (.v (.lst b)) = some .list := rfl
@[simp] theorem tyOf_obj (c : Nat) (b : List D) : tyOf m (.v (.obj c b)) = some (.cls c) := rfl
/-- a value's type -/
def tyD : D → Ty
  | .non => .non | .bl _ => .bool | .int _ => .int | .str _ => .str | .tup _ => .tuple | .lst _ => .list | .dict _ _ _ => .dict | .obj c _ => .cls c
@[simp] theorem tyOf_v : tyOf m (.v d) = some (tyD d) := by cases d <;> rfl
@[simp] theorem isNon_n : isNon (.v .non) = true := rfl
@[simp] theorem isNon_t : isNon (.t n) = false := rfl
@[simp] theorem cmpW_eq : cmpW .eq w y m = asD w m fun d => asD y m fun e => ofB (eqO d e) m := rfl
@[simp] theorem cmpW_ne : cmpW .ne w y m = asD w m fun d => asD y m fun e => ofB ((eqO d e).map (!·)) m := rfl
@[simp] theorem cmpW_in : cmpW .in_ w y m = asD w m fun d => asD y m fun e => ofB (inD d e) m := rfl
@[simp] theorem cmpW_nin : cmpW .nin w y m = asD w m fun d => asD y m fun e => ofB ((inD d e).map (!·)) m := rfl
@[simp] theorem cmpW_is : cmpW .is_ w (.v .non) m = .ok (.v (.bl (isNon w))) m := rfl
@[simp] theorem cmpW_isnot : cmpW .isnot w (.v .non) m = .ok (.v (.bl (!isNon w))) m := rfl
@[simp] theorem cmpW_lt (i j : Int) : cmpW .lt (.v (.int i)) (.v (.int j)) m = .ok (.v (.bl (decide (i < j)))) m := rfl
@[simp] theorem cmpW_le (i j : Int) : cmpW .le (.v (.int i)) (.v (.int j)) m = .ok (.v (.bl (decide (i ≤ j)))) m := rfl
@[simp] theorem cmpW_gt (i j : Int) : cmpW .gt (.v (.int i)) (.v (.int j)) m = .ok (.v (.bl (decide (j < i)))) m := rfl
@[simp] theorem cmpW_ge (i j : Int) : cmpW .ge (.v (.int i)) (.v (.int j)) m = .ok (.v (.bl (decide (j ≤ i)))) m := rfl
@[simp] theorem cmpD_lt (i j : Int) : cmpD .lt (.int i) (.int j) = some (decide (i < j)) := rfl
@[simp] theorem cmpD_le (i j : Int) : cmpD .le (.int i) (.int j) = some (decide (i ≤ j)) := rfl
@[simp] theorem binD_add (a b : D) : binD .add a b = addD a b := rfl
@[simp] theorem addD_int (i j : Int) : addD (.int i) (.int j) = some (.int (i + j)) := rfl
@[simp] theorem binD_sub (i j : Int) : binD .sub (.int i) (.int j) = some (.int (i - j)) := rfl
@[simp] theorem optI_non : optI .non = some none := rfl
@[simp] theorem optI_int (i : Int) : optI (.int i) = some (some i) := rfl
@[simp] theorem slD_tup (xs : List D) (lo hi : Option Int) : slD (.tup xs) lo hi = some (.tup (cutL xs lo hi)) := rfl
@[simp] theorem slD_lst (xs : List D) (lo hi : Option Int) : slD (.lst xs) lo hi = some (.lst (cutL xs lo hi)) := rfl
@[simp] theorem ixW_v (k : D) : ixW m (.v d) k = (ixD d k).map .v := rfl
@[simp] theorem walkW_tup (xs : List D) : walkW m (.v (.tup xs)) = some (xs.map .v) := rfl
@[simp] theorem walkW_lst (xs : List D) : walkW m (.v (.lst xs)) = some (xs.map .v) := rfl
@[simp] theorem lstW_lst (xs : List D) : lstW m (.v (.lst xs)) = some (xs.map .v) := rfl
@[simp] theorem recv_join (s : Str) : recv .join m (.v (.str s)) = true := rfl
@[simp] theorem recv_part (s : Str) : recv .partition m (.v (.str s)) = true := rfl
@[simp] theorem recv_split (s : Str) : recv .split m (.v (.str s)) = true := rfl
@[simp] theorem recv_index (s : List D) : recv .index m (.v (.lst s)) = true := rfl
@[simp] theorem recv_get (t : Bool) (ks vs : List D) : recv .get m (.v (.dict t ks vs)) = true := rfl
@[simp] theorem fldW_v (c i : Nat) (ds : List D) : fldW c i m (.v (.obj c ds)) = (ds[i]?).map .v := if_pos rfl
@[simp] theorem isCls_v (c : Nat) (ds : List D) : isCls c m (.v (.obj c ds)) = true := decide_eq_true rfl
@[simp] theorem trunc_self (k : Store → R α) : trunc m m k = k m := by unfold trunc; rw [List.take_length, if_pos rfl]
@[simp] theorem trunc_app (m' : Store) (k : Store → R α) : trunc m (m ++ m') k = k m := by unfold trunc; rw [List.take_left, if_pos rfl]
@[simp] theorem truncS_self (k : Store → R α) : truncS m m k = k m := by unfold truncS; rw [List.take_length, if_pos rfl]
@[simp] theorem truncS_app (m' : Store) (k : Store → R α) : truncS m (m ++ m') k = k m := by unfold truncS; rw [List.take_left, if_pos rfl]
@[simp] theorem frzL_nil : frzL [] m = some ([], m) := rfl
@[simp] theorem frzL_v (ws : List W) : frzL (.v d :: ws) m = (frzL ws m).map fun p => (d :: p.1, p.2) := rfl
theorem trunc_low {m0 m1 m2 : Store} (k : Store → R α) (h1 : m1.length = m0.length) (h2 : m1.all (lowC m0.length) = true) : trunc m0 (m1 ++ m2) k = k m1 := by
  unfold trunc
  have e : (m1 ++ m2).take m0.length = m1 := by rw [← h1]; exact List.take_left
  rw [e]
  by_cases q : m1 = m0
  · rw [if_pos q, q]
  · rw [if_neg q, if_pos h2]
@[simp] theorem fin_v (m0 : Store) : fin m0 (.v d) m = trunc m0 m fun m1 => .ok (.v d) m1 := rfl
@[simp] theorem fin_t (m0 : Store) : fin m0 (.t n) m = .ok (.t n) m := rfl
@[simp] theorem finS_ret (m0 : Store) : finS m0 (.ret w m) = fin m0 w m := rfl
@[simp] theorem finS_nx (m0 : Store) : finS m0 (.nx env m) = trunc m0 m fun m1 => .ok (.v .non) m1 := rfl
@[simp] theorem finS_ex (m0 : Store) (c : Nat) (ds : List D) : finS m0 (.ex c ds m) = trunc m0 m fun m1 => .ex c ds m1 := rfl
@[simp] theorem asgG_n : asgG (.n i) w env = some (setS i w env) := rfl
@[simp] theorem asgG_tup (gs : GL) (ds : List D) : asgG (.tup gs) (.v (.tup ds)) env = asgGL gs (ds.map .v) env := rfl
@[simp] theorem asgGL_nil : asgGL .nil [] env = some env := rfl
@[simp] theorem asgGL_cons (g : G) (gs : GL) (ws : List W) : asgGL (.cons g gs) (w :: ws) env = (asgG g w env).bind (asgGL gs ws) := rfl
@[simp] theorem clrG_n : clrG (.n i) env = clrS i env := rfl
@[simp] theorem clrG_tup (gs : GL) : clrG (.tup gs) env = clrGL gs env := rfl
@[simp] theorem clrGL_nil : clrGL .nil env = env := rfl
@[simp] theorem clrGL_cons (g : G) (gs : GL) : clrGL (.cons g gs) env = clrG g (clrGL gs env) := rfl
@[simp] theorem asgList_nil : asgList [] [] env = some env := rfl
@[simp] theorem asgList_cons (is : List Nat) (ws : List W) : asgList (i :: is) (w :: ws) env = (asgList is ws env).map (setS i w) := rfl
@[simp] theorem newT_v (ds : List D) (h : ds.length ≤ LIM) : newT (ds.map .v) m = .ok (.v (.tup ds)) m := by
  unfold newT; rw [if_neg (by simpa using h), allV_map]
@[simp] theorem newL_v (ds : List D) (h : ds.length ≤ LIM) : newL false (ds.map .v) m = .ok (.v (.lst ds)) m := by
  unfold newL; rw [if_neg (by simpa using h), allV_map]; rfl
/-! expressions -/
@[simp] theorem ev_c : ev F (.c d) env m = .ok (.v d) m := rfl
@[simp] theorem ev_var : ev F (.var i) env m = ofO (getS i env) m := rfl
@[simp] theorem ev_glob : ev F (.glob i) env m = .ok (.v (F.glob i)) m := rfl
@[simp] theorem ev_neg : ev F (.neg a) env m = (ev F a env m).bind fun w m => onI w fun i => .ok (.v (.int (-i))) m := rfl
@[simp] theorem ev_not : ev F (.not_ a) env m = (ev F a env m).bind fun w m => onB w fun b => .ok (.v (.bl (!b))) m := rfl
@[simp] theorem ev_bin (op : BO) : ev F (.bin op a b) env m = (ev F a env m).bind fun x m => (ev F b env m).bind fun y m => asD x m fun d => asD y m fun e => ofD (binD op d e) m := rfl
@[simp] theorem ev_cat : ev F (.cat a b) env m = (ev F a env m).bind fun x m => (ev F b env m).bind fun y m => onO (lstW m x) fun ws => onO (lstW m y) fun us => newL true (ws ++ us) m := rfl
@[simp] theorem ev_cmp (op : CO) : ev F (.cmp op a b) env m = (ev F a env m).bind fun x m => (ev F b env m).bind fun y m => cmpW op x y m := rfl
@[simp] theorem ev_eqo (c f : Nat) : ev F (.eqo c f a b) env m = (ev F a env m).bind fun x m => (ev F b env m).bind fun y m => if isCls c m x && (isCls c m y || isTup y) then (F.fn f [x, y] m).noex else .bad := rfl
@[simp] theorem ev_chain (o1 o2 : CO) : ev F (.chain o1 o2 a b c) env m = (ev F a env m).bind fun x m => (ev F b env m).bind fun y m => asD x m fun d => asD y m fun e => onO (cmpD o1 d e) fun q =>
  bif q then (ev F c env m).bind fun z m => asD y m fun e => asD z m fun g => ofB (cmpD o2 e g) m else .ok (.v (.bl false)) m := rfl
@[simp] theorem ev_and : ev F (.and_ es) env m = evAnd F es env m := rfl
@[simp] theorem ev_or : ev F (.or_ es) env m = evOr F es env m := rfl
@[simp] theorem ev_ifx : ev F (.ifx c a b) env m = (ev F c env m).bind fun w m => ifW w (ev F a env m) (ev F b env m) := rfl
@[simp] theorem ev_tup : ev F (.tup es) env m = (evL F es env m).bind newT := rfl
@[simp] theorem ev_lst (tk : Bool) : ev F (.lst tk es) env m = (evL F es env m).bind (newL tk) := rfl
@[simp] theorem ev_ix : ev F (.ix a b) env m = (ev F a env m).bind fun x m => (ev F b env m).bind fun y m => asD y m fun k => ofO (ixW m x k) m := rfl
@[simp] theorem ev_no : ev F .no env m = .ok (.v .non) m := rfl
@[simp] theorem poR_no (r : R W) : poR .no m r = .ok none m := rfl
@[simp] theorem poR_c (r : R W) : poR (.c d) m r = r.bind fun w m => onI w fun i => .ok (some i) m := rfl
@[simp] theorem poR_var (r : R W) : poR (.var i) m r = r.bind fun w m => onI w fun i => .ok (some i) m := rfl
@[simp] theorem poR_bin (o : BO) (r : R W) : poR (.bin o a b) m r = r.bind fun w m => onI w fun i => .ok (some i) m := rfl
@[simp] theorem poR_neg (r : R W) : poR (.neg a) m r = r.bind fun w m => onI w fun i => .ok (some i) m := rfl
@[simp] theorem ev_sl : ev F (.sl a b c) env m = (ev F a env m).bind fun x m => (poR b m (ev F b env m)).bind fun l m => (poR c m (ev F c env m)).bind fun h m => asD x m fun d => ofD (slD d l h) m := rfl
@[simp] theorem ev_rev : ev F (.rev a) env m = (ev F a env m).bind fun x m => asD x m fun d => ofD (revD d) m := rfl
@[simp] theorem ev_fld (c i : Nat) : ev F (.fld c a i) env m = (ev F a env m).bind fun x m => ofO (fldW c i m x) m := rfl
@[simp] theorem ev_call (f : Nat) : ev F (.call f es) env m = (evL F es env m).bind fun ws m => F.fn f ws m := rfl
@[simp] theorem ev_callk (f : Nat) : ev F (.callk f es k) env m = (evL F es env m).bind fun ws m => (ev F k env m).bind fun w m => F.fn f (ws ++ [w]) m := rfl
@[simp] theorem ev_make (tk : Bool) (c f : Nat) : ev F (.make tk c f es) env m = (evL F es env m).bind fun ws m => made F tk c f ws m := rfl
@[simp] theorem ev_meth (c f : Nat) : ev F (.meth c f o es) env m = (ev F o env m).bind fun x m => if isCls c m x then (evL F es env m).bind fun ws m => F.fn f (x :: ws) m else .bad := rfl
@[simp] theorem ev_prop (c f : Nat) : ev F (.prop c f o) env m = (ev F o env m).bind fun x m => if isCls c m x then (F.fn f [x] m).noex else .bad := rfl
theorem ifb {q : Prop} [Decidable q] {a b : R α} : (if q then a else b) = bif decide q then a else b := by
  by_cases h : q <;> simp [h]
/-- a length that len may tell -/
noncomputable def lenOk (n : Int) : Bool := @decide _ (Classical.propDecidable (0 ≤ n ∧ n < 1000000000))
theorem lenOk_nat {k : Nat} (h : k ≤ 100000) : lenOk (k : Nat) = true := by
  exact @decide_eq_true _ (Classical.propDecidable _) ⟨by omega, by omega⟩
@[simp] theorem ev_leno (c f : Nat) : ev F (.leno c f o) env m = (ev F o env m).bind fun x m => if isCls c m x then (F.fn f [x] m).noex.bind fun w m => onI w fun n => bif lenOk n then .ok (.v (.int n)) m else .bad else .bad := by
  have e : ∀ (n : Int) (m : Store), (if 0 ≤ n ∧ n < 1000000000 then R.ok (W.v (.int n)) m else .bad) = bif lenOk n then R.ok (W.v (.int n)) m else .bad := fun n m => by
    by_cases h : 0 ≤ n ∧ n < 1000000000
    · rw [if_pos h, show lenOk n = true from @decide_eq_true _ (Classical.propDecidable _) h]; rfl
    · rw [if_neg h, show lenOk n = false from @decide_eq_false _ (Classical.propDecidable _) h]; rfl
  show ((ev F o env m).bind fun x m => if isCls c m x then (F.fn f [x] m).noex.bind fun w m => onI w fun n => if 0 ≤ n ∧ n < 1000000000 then R.ok (W.v (.int n)) m else .bad else .bad) = _
  simp only [e]
@[simp] theorem ev_bi (f : BF) (tk : Bool) : ev F (.bi f tk es) env m = (evL F es env m).bind fun ws m => onO (asDs m ws) fun ds => bfR f tk ds m := rfl
@[simp] theorem ev_isi (ts : List Ty) : ev F (.isi o ts) env m = (ev F o env m).bind fun w m => onO (tyOf m w) fun t => .ok (.v (.bl (ts.any (isTy t)))) m := rfl
@[simp] theorem ev_sm (f : MF) : ev F (.sm f o es) env m = (ev F o env m).bind fun x m => if recv f m x then (evL F es env m).bind fun ws m => asD x m fun d => onO (asDs m ws) fun ds => ofD (mfD f d ds) m else .bad := rfl
/-- a comprehension's turn -/
noncomputable def compT (F : Fns) (g : G) (cs : EL) (elt : E) (env : Env) : List W → D → Store → R (List W) := fun acc w m => onO (asgG g (.v w) (clrG g env)) fun env' => (evAnd F cs env' m).bind fun b m =>
        ifW b ((ev F elt env' m).bind fun y m => .ok (acc ++ [y]) m) (.ok acc m)
@[simp] theorem ev_comp (tk : Bool) (g : G) (it : IT) (cs : EL) (elt : E) : ev F (.comp tk g it cs elt) env m = (evIT F it env m).bind fun items m => (foldR (compT F g cs elt env) items ([] : List W) m).noex.bind (newL tk) := rfl
@[simp] theorem evL_nil : evL F .nil env m = .ok [] m := rfl
@[simp] theorem evL_cons : evL F (.cons e es) env m = (ev F e env m).bind fun w m => (evL F es env m).bind fun ws m => .ok (w :: ws) m := rfl
@[simp] theorem evL_star : evL F (.star e es) env m = (ev F e env m).bind fun w m => onO (walkW m w) fun us => (evL F es env m).bind fun ws m => .ok (us ++ ws) m := rfl
@[simp] theorem evAnd_nil : evAnd F .nil env m = .ok (.v (.bl true)) m := rfl
@[simp] theorem evAnd_cons : evAnd F (.cons e es) env m = (ev F e env m).bind fun w m => ifW w (evAnd F es env m) (.ok (.v (.bl false)) m) := rfl
@[simp] theorem evOr_nil : evOr F .nil env m = .ok (.v (.bl false)) m := rfl
@[simp] theorem evOr_cons : evOr F (.cons e es) env m = (ev F e env m).bind fun w m => ifW w (.ok (.v (.bl true)) m) (evOr F es env m) := rfl
@[simp] theorem evIT_seq : evIT F (.seq e) env m = (ev F e env m).bind fun w m => onV w fun d => ofO (seqD d) m := rfl
@[simp] theorem evIT_chars : evIT F (.chars e) env m = (ev F e env m).bind fun w m => onV w fun d => ofO (charsD d) m := rfl
@[simp] theorem evIT_rng : evIT F (.rng a b) env m = (ev F a env m).bind fun x m => (ev F b env m).bind fun y m => intsW x y fun i j => if -1000000 ≤ i ∧ i ≤ 1000000 ∧ -1000000 ≤ j ∧ j ≤ 1000000 then .ok (rngD i j) m else .bad := rfl
@[simp] theorem evIT_enum : evIT F (.enum e) env m = (ev F e env m).bind fun w m => onV w fun d => onO (seqD d) fun ds => .ok ((List.zipIdx ds).map fun p => .tup [.int (p.2 : Nat), p.1]) m := rfl
@[simp] theorem evIT_zip : evIT F (.zip a b) env m = (ev F a env m).bind fun x m => (ev F b env m).bind fun y m => onV x fun d => onV y fun e => ofO (zipD d e) m := rfl
@[simp] theorem evIT_keys : evIT F (.keys e) env m = (ev F e env m).bind fun w m => onV w fun d => ofO (keysD d) m := rfl
/-! statements -/
variable {g : G} {gs : GL} {it : IT} {sa sb ss : SL} {s : S}
@[simp] theorem evS_asg : evS F (.asg i e) env m = RS.of (ev F e env m) fun w m => .nx (setS i w env) m := rfl
@[simp] theorem evS_asgG : evS F (.asgG g e) env m = RS.of (ev F e env m) fun w m => onS (asgG g w env) fun env' => .nx env' m := rfl
@[simp] theorem evS_par (is : List Nat) : evS F (.par is es) env m = RS.of (evL F es env m) fun ws m => onS (asgList is ws env) fun env' => .nx env' m := rfl
@[simp] theorem evS_parG : evS F (.parG gs es) env m = RS.of (evL F es env m) fun ws m => onS (asgGL gs ws env) fun env' => .nx env' m := rfl
@[simp] theorem evS_fset (c : Nat) : evS F (.fset c o i e) env m = RS.of (ev F e env m) fun w m => RS.of (ev F o env m) fun x m => onS (fsetW m c i x w) fun m' => .nx env m' := rfl
@[simp] theorem evS_iset : evS F (.iset o k e) env m = RS.of (ev F e env m) fun w m => RS.of (ev F o env m) fun x m => RS.of (ev F k env m) fun kw m => onS (snap m kw) fun kd => onS (isetW m x kd w) fun m' => .nx env m' := rfl
@[simp] theorem evS_mut (f : XF) : evS F (.mut f o es) env m = RS.of (ev F o env m) fun x m => if isLst m x = true then RS.of (evL F es env m) fun ws m => onS (mutW m f x ws) fun m' => .nx env m' else .bad := rfl
@[simp] theorem evS_pop : evS F (.pop i o) env m = RS.of (ev F o env m) fun x m => onS (popW m x) fun p => .nx (setS i p.1 env) p.2 := rfl
@[simp] theorem evS_expr : evS F (.expr e) env m = RS.of (ev F e env m) fun _ m => .nx env m := rfl
@[simp] theorem evS_if : evS F (.if_ c sa sb) env m = RS.of (ev F c env m) fun w m => ifS w (evSL F sa env m) (evSL F sb env m) := rfl
@[simp] theorem ev_lens : ev F (.lens a) env m = (ev F a env m).bind fun w m => asD w m fun d => ofD (lensD d) m := rfl
@[simp] theorem ev_nev : ev F .nev env m = .bad := rfl
@[simp] theorem evS_nev : evS F .nev env m = .bad := rfl
@[simp] theorem evS_for : evS F (.for_ g it sa) env m = RS.of (evIT F it env m) fun ws m => loopS (evSL F sa) g ws env m := rfl
@[simp] theorem evS_while : evS F (.while_ c sa) env m = whileS (ev F c) (evSL F sa) F.fuel env m := rfl
@[simp] theorem evS_ret : evS F (.ret e) env m = RS.of (ev F e env m) fun w m => .ret w m := rfl
@[simp] theorem evS_ret0 : evS F .ret0 env m = .ret (.v .non) m := rfl
@[simp] theorem evS_try (t : Option Nat) (b : TX) (rest : SL) (kn : List Nat) (hs : List HD) : evS F (.try_ t b rest kn hs) env m = tryS (evTX F b env m) (fun w m => (evSL F rest (storeO t w env) m).noex) fun n ds m => catchS kn hs n ds env m := rfl
@[simp] theorem evS_raise (c : Nat) : evS F (.raise c es) env m = RS.of (evL F es env m) fun ws m => onS (allV ws) fun ds => .ex c ds m := rfl
@[simp] theorem evS_pass : evS F .pass env m = .nx env m := rfl
@[simp] theorem evS_aug : evS F (.aug i e) env m = onS (getS i env) fun o => RS.of (ev F e env m) fun w m => onS (augW o w) fun u => .nx (setS i u env) m := rfl
@[simp] theorem evS_frz : evS F (.frz i) env m = onS (frzW m (getS i env)) fun p => .nx (setS i p.1 env) p.2 := rfl
@[simp] theorem evSL_nil : evSL F .nil env m = .nx env m := rfl
@[simp] theorem evSL_cons : evSL F (.cons s ss) env m = (evS F s env m).then fun env m => evSL F ss env m := rfl
end
theorem sem_s {T : Tab} {f : Nat} {d : Def} (n : Nat) (h : T.df f = some d) : sem T (n+1) f = evDef (Fs T n) d := by
  simp only [sem, h]
/-- a def's call, its body's end told -/
theorem sem_run {T : Tab} {f : Nat} {d : Def} {n : Nat} {ws : List W} {m : Store} (h : T.df f = some d) (hl : ws.length = d.np) :
    sem T (n+1) f ws m = finS m (evSL (Fs T n) d.body (ws.map some ++ List.replicate (d.nv - d.np) none) m) := by
  rw [sem_s n h]; unfold evDef; rw [if_pos hl]
end Cy


set_option Elab.async false
set_option linter.all false
set_option maxRecDepth 100000
set_option maxHeartbeats 2000000
/-! CySimp2: more rewriting rules, by the shape of what is worked on; the source of draws. -/
namespace Cy
open PySem
section
variable {α β : Type} {F : Fns} {env : Env} {m : Store} {tk : Bool} {d : D} {w y : W}
@[simp] theorem bad_bind (k : α → Store → R β) : (R.bad : R α).bind k = .bad := rfl
@[simp] theorem bfR_int (i : Int) : bfR .int tk [.int i] m = .ok (.v (.int i)) m := rfl
@[simp] theorem bfR_intb (b : Bool) : bfR .int tk [.bl b] m = .ok (.v (.int (if b then 1 else 0))) m := rfl
@[simp] theorem bfR_lenT (xs : List D) : bfR .len tk [.tup xs] m = .ok (.v (.int (xs.length : Nat))) m := rfl
@[simp] theorem bfR_lenL (xs : List D) : bfR .len tk [.lst xs] m = .ok (.v (.int (xs.length : Nat))) m := rfl
@[simp] theorem bfR_max (i j : Int) : bfR .max tk [.int i, .int j] m = .ok (.v (.int (if j > i then j else i))) m := rfl
@[simp] theorem bfR_tupT (xs : List D) : bfR .tuple tk [.tup xs] m = .ok (.v (.tup xs)) m := rfl
@[simp] theorem bfR_tupL (xs : List D) : bfR .tuple tk [.lst xs] m = .ok (.v (.tup xs)) m := rfl
@[simp] theorem bfR_listT (xs : List D) : bfR .list tk [.tup xs] m = newL tk (xs.map .v) m := rfl
@[simp] theorem bfR_listL (xs : List D) : bfR .list tk [.lst xs] m = newL tk (xs.map .v) m := rfl
theorem boolsOf_map : ∀ bs : List Bool, boolsOf (bs.map .bl) = some bs
  | [] => rfl
  | b :: bs => by simp [boolsOf, boolsOf_map bs]
@[simp] theorem bfR_all (bs : List Bool) : bfR .all tk [.lst (bs.map .bl)] m = .ok (.v (.bl (bs.all id))) m := by
  unfold bfR
  simp [bfL, bfD, boolsOf_map]
theorem strsOf_map : ∀ bs : List Str, strsOf (bs.map .str) = some bs
  | [] => rfl
  | b :: bs => by simp [strsOf, strsOf_map bs]
@[simp] theorem binD_mod (i j : Int) : binD .mod (.int i) (.int j) = if 0 < j then some (.int (i % j)) else none := rfl
@[simp] theorem binD_fdiv (i j : Int) : binD .fdiv (.int i) (.int j) = if 0 < j ∧ j < 1073741824 then some (.int (i / j)) else none := rfl
@[simp] theorem binD_mul (i j : Int) : binD .mul (.int i) (.int j) = if (-(2 ^ 64) < i ∧ i < 2 ^ 64) ∨ (-(2 ^ 64) < j ∧ j < 2 ^ 64) then some (.int (i * j)) else none := rfl
@[simp] theorem binD_pow (i j : Int) : binD .pow (.int i) (.int j) = if 0 ≤ j ∧ j ≤ 1000 ∧ i.natAbs < 2 ^ 64 then some (.int (i ^ j.toNat)) else none := rfl
theorem addD_str (x z : Str) : addD (.str x) (.str z) = if x.length + z.length ≤ LIM then some (.str (x ++ z)) else none := rfl
theorem addD_lst (x z : List D) : addD (.lst x) (.lst z) = if x.length + z.length ≤ LIM then some (.lst (x ++ z)) else none := rfl
theorem ixD_tup (xs : List D) (i : Int) : ixD (.tup xs) (.int i) = (L2.ixN xs.length i).bind fun k => xs[k]? := rfl
theorem ixD_lst (xs : List D) (i : Int) : ixD (.lst xs) (.int i) = (L2.ixN xs.length i).bind fun k => xs[k]? := rfl
@[simp] theorem seqD_tup (xs : List D) : seqD (.tup xs) = some xs := rfl
@[simp] theorem seqD_lst (xs : List D) : seqD (.lst xs) = some xs := rfl
@[simp] theorem plains_str : ∀ ws : List Str, plains (ws.map .str) = true
  | [] => rfl
  | w :: ws => by simp [plains, plain, plains_str ws]
@[simp] theorem deps_str : ∀ ws : List Str, deps (ws.map .str) = 0
  | [] => rfl
  | w :: ws => by simp [deps, dep, deps_str ws]
theorem any_str (x : Str) : ∀ ws : List Str, ((ws.map D.str).any fun y => eqB y (.str x)) = ws.any fun y => y == x
  | [] => rfl
  | w :: ws => by simp only [List.map_cons, List.any_cons, any_str x ws, eqB]
theorem inD_words (x : Str) (ws : List Str) : inD (.str x) (.tup (ws.map .str)) = some (ws.any fun y => y == x) := by
  have := any_str x ws
  simp [inD, plain, dep] at this ⊢
  exact this
theorem cond_ok (q a b : Bool) (m : Store) : (bif q then R.ok (W.v (.bl a)) m else R.ok (W.v (.bl b)) m) = R.ok (W.v (.bl (bif q then a else b))) m := by cases q <;> rfl
end
/-! ### the source of draws: [state, cells, number] at the places 1 and 0 -/
def hd (ns : List Int) (s c : Int) : Store := [.lst (ns.map fun i => .v (.int i)), .lst [.v (.int s), .t 0, .v (.int c)]]
section
variable {α : Type} {ns : List Int} {s c : Int} {rest : Store}
@[simp] theorem hd_ix0 : ixW (hd ns s c ++ rest) (.t 1) (.int 0) = some (.v (.int s)) := rfl
@[simp] theorem hd_ix1 : ixW (hd ns s c ++ rest) (.t 1) (.int 1) = some (.t 0) := rfl
@[simp] theorem hd_ix2 : ixW (hd ns s c ++ rest) (.t 1) (.int 2) = some (.v (.int c)) := rfl
theorem allV_ints : ∀ ns : List Int, allV (ns.map fun i => W.v (.int i)) = some (ns.map .int)
  | [] => rfl
  | n :: ns => by simp [allV_ints ns]
@[simp] theorem hd_snap : snap (hd ns s c ++ rest) (.t 0) = some (.lst (ns.map .int)) := by
  show ((hd ns s c ++ rest)[0]?).bind snapC = _
  show (allV (ns.map fun i => W.v (.int i))).map D.lst = _
  rw [allV_ints]; rfl
@[simp] theorem hd_asD (k : D → R α) : asD (.t 0) (hd ns s c ++ rest) k = k (.lst (ns.map .int)) := by
  unfold asD; rw [hd_snap]
@[simp] theorem hd_asDs : asDs (hd ns s c ++ rest) [.t 0] = some [.lst (ns.map .int)] := by
  simp [asDs]
@[simp] theorem hd_set0 (z : Int) : isetW (hd ns s c ++ rest) (.t 1) (.int 0) (.v (.int z)) = some (hd ns z c ++ rest) := rfl
@[simp] theorem hd_set2 (z : Int) : isetW (hd ns s c ++ rest) (.t 1) (.int 2) (.v (.int z)) = some (hd ns s z ++ rest) := rfl
theorem hd_cell (i z : Int) : isetW (hd ns s c ++ rest) (.t 0) (.int i) (.v (.int z)) = (L2.ixN ns.length i).map fun j => hd (ns.set j z) s c ++ rest := by
  show (L2.ixN (ns.map fun i => W.v (.int i)).length i).map _ = _
  rw [List.length_map]
  cases L2.ixN ns.length i with
  | none => rfl
  | some j => simp [hd, List.map_set]
theorem hd_low {ns' : List Int} {s' c' : Int} {k : Store → R α} (low : rest.all (lowC (2 + rest.length)) = true) : trunc (hd ns s c ++ rest) (hd ns' s' c' ++ rest) k = k (hd ns' s' c' ++ rest) := by
  have := trunc_low (m0 := hd ns s c ++ rest) (m1 := hd ns' s' c' ++ rest) (m2 := []) k (by simp [hd]) (by
    have e : (hd ns s c ++ rest).length = 2 + rest.length := by simp [hd]; omega
    rw [e, List.all_append, low, Bool.and_true]
    simp [hd, lowC, lowW]
    omega)
  rwa [List.append_nil] at this
end
end Cy

set_option Elab.async false
set_option linter.all false
set_option maxRecDepth 100000
set_option maxHeartbeats 2000000
/-! CyWp: what is wanted of a run's end, as a predicate. -/
namespace Cy
open PySem
theorem toNat_inj : ∀ {a b : List Char}, a.map Char.toNat = b.map Char.toNat → a = b
  | [], [], _ => rfl
  | [], _ :: _, h => by simp at h
  | _ :: _, [], h => by simp at h
  | x :: a, y :: b, h => by
    simp only [List.map_cons, List.cons.injEq] at h
    rw [toNat_inj h.2, show x = y from Char.ext (UInt32.toNat_inj.mp h.1)]
@[simp] theorem ofString_inj (a b : String) : (Str.ofString a = Str.ofString b) = (a = b) := by
  refine propext ⟨fun h => ?_, fun h => by rw [h]⟩
  rw [Str.ofString_eq_toList, Str.ofString_eq_toList] at h
  have h1 := congrArg (fun s : Str => s.cps.toList) h
  simp only at h1
  exact String.toList_inj.mp (toNat_inj h1)
@[simp] theorem ofString_beq (a b : String) : (Str.ofString a == Str.ofString b) = (a == b) := by
  by_cases h : a = b
  · subst h; simp
  · rw [beq_eq_false_iff_ne.mpr h]
    exact beq_eq_false_iff_ne.mpr fun e => h (by simpa using e)
section
variable {α β : Type} {F : Fns} {env : Env} {m m0 : Store} {w : W} {d : D}
def R.sat (r : R α) (Q : α → Store → Prop) : Prop := match r with
  | .ok a m => Q a m
  | _ => False
def RS.sat (r : RS) (N : Env → Store → Prop) (T : W → Store → Prop) : Prop := match r with
  | .nx env m => N env m
  | .ret w m => T w m
  | _ => False
@[simp] theorem sat_ok (a : α) (m : Store) (Q : α → Store → Prop) : (R.ok a m).sat Q = Q a m := rfl
@[simp] theorem sat_nx (env : Env) (m : Store) (N : Env → Store → Prop) (T : W → Store → Prop) : (RS.nx env m).sat N T = N env m := rfl
@[simp] theorem sat_ret (w : W) (m : Store) (N : Env → Store → Prop) (T : W → Store → Prop) : (RS.ret w m).sat N T = T w m := rfl
@[simp] theorem sat_bad (Q : α → Store → Prop) : (R.bad : R α).sat Q = False := rfl
@[simp] theorem sat_bind (r : R α) (k : α → Store → R β) (Q : β → Store → Prop) : (r.bind k).sat Q = r.sat fun a m => (k a m).sat Q := by cases r <;> rfl
@[simp] theorem sat_of (r : R α) (k : α → Store → RS) (N : Env → Store → Prop) (T : W → Store → Prop) : (RS.of r k).sat N T = r.sat fun a m => (k a m).sat N T := by cases r <;> rfl
@[simp] theorem sat_then (r : RS) (k : Env → Store → RS) (N : Env → Store → Prop) (T : W → Store → Prop) : (r.then k).sat N T = r.sat (fun env m => (k env m).sat N T) T := by cases r <;> rfl
@[simp] theorem sat_noex (r : R α) (Q : α → Store → Prop) : r.noex.sat Q = r.sat Q := by cases r <;> rfl
@[simp] theorem sat_finS (r : RS) (Q : W → Store → Prop) : (finS m0 r).sat Q = r.sat (fun _ m => (trunc m0 m fun m1 => R.ok (W.v .non) m1).sat Q) (fun w m => (fin m0 w m).sat Q) := by
  cases r <;> try rfl
  rename_i c ds m
  show (trunc m0 m fun m1 => (R.ex c ds m1 : R W)).sat Q = False
  unfold trunc
  split
  · rfl
  · split <;> rfl
theorem sat_cond {q : Bool} {a b : R α} {Q : α → Store → Prop} (h1 : q = true → a.sat Q) (h2 : q = false → b.sat Q) : (bif q then a else b).sat Q := by
  cases q
  · exact h2 rfl
  · exact h1 rfl
theorem sat_condS {q : Bool} {a b : RS} {N : Env → Store → Prop} {T : W → Store → Prop} (h1 : q = true → a.sat N T) (h2 : q = false → b.sat N T) : (bif q then a else b).sat N T := by
  cases q
  · exact h2 rfl
  · exact h1 rfl
theorem R.sat.mono {r : R α} {Q Q' : α → Store → Prop} (h : r.sat Q) (f : ∀ a m, Q a m → Q' a m) : r.sat Q' := by
  cases r with
  | ok a m => exact f a m h
  | ex c ds m => exact h
  | bad => exact h
theorem RS.sat.mono {r : RS} {N N' : Env → Store → Prop} {T T' : W → Store → Prop} (h : r.sat N T) (f : ∀ e m, N e m → N' e m) (g : ∀ w m, T w m → T' w m) : r.sat N' T' := by
  cases r with
  | nx e m => exact f e m h
  | ret w m => exact g w m h
  | _ => exact h
theorem eq_of_sat {r : R α} {a0 : α} {m0 : Store} (h : r.sat fun a m => a = a0 ∧ m = m0) : r = .ok a0 m0 := by
  cases r with
  | ok a m => obtain ⟨rfl, rfl⟩ := h; rfl
  | ex c ds m => exact h.elim
  | bad => exact h.elim
theorem sat_eq {r : R α} {Q : α → Store → Prop} (h : r.sat Q) : ∃ a m, r = .ok a m ∧ Q a m := by
  cases r with
  | ok a m => exact ⟨a, m, rfl, h⟩
  | ex c ds m => exact h.elim
  | bad => exact h.elim
/-- a loop by what is so behind each turn: pre done -/
theorem loop_sat {body : Env → Store → RS} {g : G} {N : Env → Store → Prop} {T : W → Store → Prop} (I : List D → Env → Store → Prop) : ∀ (ds pre : List D) (env : Env) (m : Store), I pre env m →
    (∀ p d post env m, pre ++ ds = p ++ d :: post → I p env m → ∃ env', asgG g (.v d) env = some env' ∧ (body env' m).sat (fun e m' => I (p ++ [d]) e m') T) →
    (∀ env m, I (pre ++ ds) env m → N env m) → (loopS body g ds env m).sat N T
  | [], pre, env, m, h, _, he => he env m (by simpa using h)
  | d :: ds, pre, env, m, h, hs, he => by
    obtain ⟨env', e1, hb⟩ := hs pre d ds env m rfl h
    unfold loopS
    rw [e1, onS_some]
    cases q : body env' m with
    | nx e m' =>
      rw [q] at hb
      have hb : I (pre ++ [d]) e m' := hb
      exact loop_sat I ds (pre ++ [d]) e m' hb (fun p d' post env m e hi => hs p d' post env m (by rw [← e, List.append_assoc]; rfl) hi) fun env m z => he env m (by rw [List.append_assoc] at z; exact z)
    | ret w m' => rw [q] at hb; exact hb
    | brk e m' => rw [q] at hb; exact hb.elim
    | cnt e m' => rw [q] at hb; exact hb.elim
    | ex c ds m' => rw [q] at hb; exact hb.elim
    | bad => rw [q] at hb; exact hb.elim
/-- a fold by what is so behind each turn -/
theorem fold_sat {f : α → β → Store → R α} {Q : α → Store → Prop} (I : List β → α → Store → Prop) : ∀ (ds pre : List β) (a : α) (m : Store), I pre a m →
    (∀ p d post a m, pre ++ ds = p ++ d :: post → I p a m → (f a d m).sat fun a' m' => I (p ++ [d]) a' m') → (∀ a m, I (pre ++ ds) a m → Q a m) → (foldR f ds a m).sat Q
  | [], pre, a, m, h, _, he => he a m (by simpa using h)
  | d :: ds, pre, a, m, h, hs, he => by
    unfold foldR
    rw [sat_bind]
    refine (hs pre d ds a m rfl h).mono fun a' m' h' => ?_
    exact fold_sat I ds (pre ++ [d]) a' m' h' (fun p d' post a m e hi => hs p d' post a m (by rw [← e, List.append_assoc]; rfl) hi) fun a m z => he a m (by rw [List.append_assoc] at z; exact z)
/-- a while by its fuel -/
theorem while_sat {test : Env → Store → R W} {body : Env → Store → RS} {N : Env → Store → Prop} {T : W → Store → Prop} (I : Nat → Env → Store → Prop) (hs : ∀ n env m, I (n + 1) env m → (test env m).sat fun w m' => ∃ b, w = .v (.bl b) ∧ (b = true → (body env m').sat (fun e m'' => I n e m'') T) ∧ (b = false → N env m'))
    (h0 : ∀ env m, ¬ I 0 env m) : ∀ (n : Nat) (env : Env) (m : Store), I n env m → (whileS test body n env m).sat N T
  | 0, env, m, h => (h0 env m h).elim
  | n + 1, env, m, h => by
    unfold whileS
    rw [sat_of]
    refine (hs n env m h).mono fun w m' ⟨b, e, h1, h2⟩ => ?_
    subst e
    rw [ifS_b]
    cases b with
    | false => exact h2 rfl
    | true =>
      have hb := h1 rfl
      show RS.sat (match body env m' with
        | .nx e m'' => whileS test body n e m''
        | .cnt e m'' => whileS test body n e m''
        | .brk e m'' => .nx e m''
        | r => r) N T
      cases q : body env m' with
      | nx e m'' => rw [q] at hb; exact while_sat I hs h0 n e m'' hb
      | ret w m' => rw [q] at hb; exact hb
      | brk e m' => rw [q] at hb; exact hb.elim
      | cnt e m' => rw [q] at hb; exact hb.elim
      | ex c ds m' => rw [q] at hb; exact hb.elim
      | bad => rw [q] at hb; exact hb.elim
/-- a comprehension that changes nothing: which items, what of each -/
theorem comp_pure {g : G} {cs : EL} {elt : E} (p : D → Bool) (f : D → W) : ∀ (ds : List D) (acc : List W), (∀ d ∈ ds, ∃ env', asgG g (.v d) (clrG g env) = some env' ∧ evAnd F cs env' m = .ok (.v (.bl (p d))) m ∧ (p d = true → ev F elt env' m = .ok (f d) m)) →
    foldR (compT F g cs elt env) ds acc m = .ok (acc ++ (ds.filter p).map f) m
  | [], acc, _ => by simp [foldR]
  | d :: ds, acc, h => by
    obtain ⟨env', e1, e2, e3⟩ := h d (by simp)
    have ih := comp_pure (g := g) (cs := cs) (elt := elt) p f ds
    unfold foldR
    cases q : p d with
    | true =>
      have : compT F g cs elt env acc d m = .ok (acc ++ [f d]) m := by
        unfold compT
        simp [e1, e2, q, e3 q]
      rw [this, bind_ok, ih _ fun d' h' => h d' (List.mem_cons_of_mem _ h'), List.filter_cons_of_pos q]
      simp
    | false =>
      have : compT F g cs elt env acc d m = .ok acc m := by
        unfold compT
        simp [e1, e2, q]
      rw [this, bind_ok, ih _ fun d' h' => h d' (List.mem_cons_of_mem _ h'), List.filter_cons_of_neg (by simp [q])]
/-- .. without tests -/
theorem comp_map {g : G} {elt : E} (f : D → W) (ds : List D) (h : ∀ d ∈ ds, ∃ env', asgG g (.v d) (clrG g env) = some env' ∧ ev F elt env' m = .ok (f d) m) :
    foldR (compT F g .nil elt env) ds [] m = .ok (ds.map f) m := by
  rw [comp_pure (fun _ => true) f ds [] fun d hd => by
    obtain ⟨env', e1, e2⟩ := h d hd
    exact ⟨env', e1, rfl, fun _ => e2⟩, List.filter_eq_self.mpr (by simp)]
  rfl
theorem newL_vals {ds : List D} {ws : List W} (e : ws = ds.map .v) (h : ds.length ≤ LIM) : newL false ws m = .ok (.v (.lst ds)) m := by subst e; exact newL_v ds h
theorem newT_vals {ds : List D} {ws : List W} (e : ws = ds.map .v) (h : ds.length ≤ LIM) : newT ws m = .ok (.v (.tup ds)) m := by subst e; exact newT_v ds h
@[simp] theorem newL_f (ws : List W) : newL false ws m = if ws.length ≤ 10000000 then onO (allV ws) (fun ds => .ok (.v (.lst ds)) m) else .bad := by
  unfold newL
  by_cases h : ws.length ≤ 10000000
  · rw [if_neg (Nat.not_lt.mpr h), if_pos h]
    cases allV ws <;> rfl
  · rw [if_pos (Nat.not_le.mp h), if_neg h]
@[simp] theorem newL_t (ws : List W) : newL true ws m = if ws.length ≤ 10000000 then .ok (.t m.length) (m ++ [.lst ws]) else .bad := by
  unfold newL
  by_cases h : ws.length ≤ 10000000
  · rw [if_neg (Nat.not_lt.mpr h), if_pos h]
    rfl
  · rw [if_pos (Nat.not_le.mp h), if_neg h]
@[simp] theorem newT_f (ws : List W) : newT ws m = if ws.length ≤ 10000000 then onO (allV ws) (fun ds => .ok (.v (.tup ds)) m) else .bad := by
  unfold newT
  by_cases h : ws.length ≤ 10000000
  · rw [if_neg (Nat.not_lt.mpr h), if_pos h]
    cases allV ws <;> rfl
  · rw [if_pos (Nat.not_le.mp h), if_neg h]
@[simp] theorem allV_comp {γ : Type} (f : γ → D) (l : List γ) : allV (l.map (W.v ∘ f)) = some (l.map f) := by rw [← List.map_map, allV_map]
@[simp] theorem allV_fun {γ : Type} (f : γ → D) (l : List γ) : allV (l.map fun x => W.v (f x)) = some (l.map f) := allV_comp f l
@[simp] theorem asDs_map (l : List D) : asDs m (l.map .v) = some l := by
  induction l with
  | nil => rfl
  | cons d l ih => simp [ih]
@[simp] theorem asDs_comp {γ : Type} (f : γ → D) (l : List γ) : asDs m (l.map (W.v ∘ f)) = some (l.map f) := by rw [← List.map_map, asDs_map]
@[simp] theorem cond_okB (q a b : Bool) : (bif q then R.ok (W.v (.bl a)) m else R.ok (W.v (.bl b)) m) = R.ok (W.v (.bl (bif q then a else b))) m := by cases q <;> rfl
@[simp] theorem cond_tf (q : Bool) : (bif q then true else false) = q := by cases q <;> rfl
@[simp] theorem cond_ft (q : Bool) : (bif q then false else true) = !q := by cases q <;> rfl
@[simp] theorem addD_L (x z : List D) : addD (.lst x) (.lst z) = if x.length + z.length ≤ 10000000 then some (.lst (x ++ z)) else none := rfl
@[simp] theorem addD_T (x z : List D) : addD (.tup x) (.tup z) = if x.length + z.length ≤ 10000000 then some (.tup (x ++ z)) else none := rfl
@[simp] theorem addD_S (x z : Str) : addD (.str x) (.str z) = if x.length + z.length ≤ 10000000 then some (.str (x ++ z)) else none := rfl
@[simp] theorem bfR_allD (tk : Bool) (ds : List D) : bfR .all tk [.lst ds] m = onO (boolsOf ds) fun bs => .ok (.v (.bl (bs.all id))) m := by
  unfold bfR
  simp only [bfL, bfD]
  cases boolsOf ds <;> rfl
@[simp] theorem bfR_anyD (tk : Bool) (ds : List D) : bfR .any tk [.lst ds] m = onO (boolsOf ds) fun bs => .ok (.v (.bl (bs.any id))) m := by
  unfold bfR
  simp only [bfL, bfD]
  cases boolsOf ds <;> rfl
@[simp] theorem boolsOf_nil : boolsOf [] = some [] := rfl
@[simp] theorem boolsOf_cons (b : Bool) (ds : List D) : boolsOf (.bl b :: ds) = (boolsOf ds).map (b :: ·) := rfl
@[simp] theorem boolsOf_f {γ : Type} (p : γ → Bool) (l : List γ) : boolsOf (l.map fun x => D.bl (p x)) = some (l.map p) := by
  have := boolsOf_map (l.map p)
  rw [List.map_map] at this
  exact this
@[simp] theorem boolsOf_c {γ : Type} (p : γ → Bool) (l : List γ) : boolsOf (l.map (D.bl ∘ p)) = some (l.map p) := boolsOf_f p l
@[simp] theorem strsOf_nil : strsOf [] = some [] := rfl
@[simp] theorem strsOf_cons (b : Str) (ds : List D) : strsOf (.str b :: ds) = (strsOf ds).map (b :: ·) := rfl
@[simp] theorem strsOf_f {γ : Type} (p : γ → Str) (l : List γ) : strsOf (l.map fun x => D.str (p x)) = some (l.map p) := by
  have := strsOf_map (l.map p)
  rw [List.map_map] at this
  exact this
@[simp] theorem strsOf_c {γ : Type} (p : γ → Str) (l : List γ) : strsOf (l.map (D.str ∘ p)) = some (l.map p) := strsOf_f p l
@[simp] theorem strsOf_m (l : List Str) : strsOf (l.map D.str) = some l := strsOf_map l
@[simp] theorem all_id {γ : Type} (p : γ → Bool) (l : List γ) : (l.map p).all id = l.all p := by rw [List.all_map]; rfl
@[simp] theorem any_id {γ : Type} (p : γ → Bool) (l : List γ) : (l.map p).any id = l.any p := by rw [List.any_map]; rfl
@[simp] theorem ixT0 (x : D) (xs : List D) : ixD (.tup (x :: xs)) (.int 0) = some x := by simp [ixD_tup, L2.ixN]
@[simp] theorem ixT1 (x y : D) (xs : List D) : ixD (.tup (x :: y :: xs)) (.int 1) = some y := by
  rw [ixD_tup]; unfold L2.ixN; rw [if_pos (by omega), if_pos (by simp; omega)]; rfl
@[simp] theorem ixT2 (x y z : D) (xs : List D) : ixD (.tup (x :: y :: z :: xs)) (.int 2) = some z := by
  rw [ixD_tup]; unfold L2.ixN; rw [if_pos (by omega), if_pos (by simp; omega)]; rfl
@[simp] theorem ixT3 (x y z u : D) (xs : List D) : ixD (.tup (x :: y :: z :: u :: xs)) (.int 3) = some u := by
  rw [ixD_tup]; unfold L2.ixN; rw [if_pos (by omega), if_pos (by simp; omega)]; rfl
@[simp] theorem ixT4 (x y z u v : D) (xs : List D) : ixD (.tup (x :: y :: z :: u :: v :: xs)) (.int 4) = some v := by
  rw [ixD_tup]; unfold L2.ixN; rw [if_pos (by omega), if_pos (by simp; omega)]; rfl
@[simp] theorem ixL0 (x : D) (xs : List D) : ixD (.lst (x :: xs)) (.int 0) = some x := by simp [ixD_lst, L2.ixN]
@[simp] theorem ixL1 (x y : D) (xs : List D) : ixD (.lst (x :: y :: xs)) (.int 1) = some y := by
  rw [ixD_lst]; unfold L2.ixN; rw [if_pos (by omega), if_pos (by simp; omega)]; rfl
@[simp] theorem ixL2 (x y z : D) (xs : List D) : ixD (.lst (x :: y :: z :: xs)) (.int 2) = some z := by
  rw [ixD_lst]; unfold L2.ixN; rw [if_pos (by omega), if_pos (by simp; omega)]; rfl
@[simp] theorem ixL3 (x y z u : D) (xs : List D) : ixD (.lst (x :: y :: z :: u :: xs)) (.int 3) = some u := by
  rw [ixD_lst]; unfold L2.ixN; rw [if_pos (by omega), if_pos (by simp; omega)]; rfl
@[simp] theorem ixL4 (x y z u v : D) (xs : List D) : ixD (.lst (x :: y :: z :: u :: v :: xs)) (.int 4) = some v := by
  rw [ixD_lst]; unfold L2.ixN; rw [if_pos (by omega), if_pos (by simp; omega)]; rfl
theorem sIx_pos (n d : Nat) {i : Int} (h : 0 ≤ i) : HT.sIx n d (some i) = min i.toNat n := by
  obtain ⟨k, rfl⟩ := Int.eq_ofNat_of_zero_le h
  rw [HT.sIx_nat]; rfl
theorem cutL_from {γ : Type} (xs : List γ) {i : Int} (h : 0 ≤ i) : cutL xs (some i) none = xs.drop i.toNat := by
  unfold cutL
  rw [sIx_pos _ _ h, HT.sIx_none]
  by_cases q : i.toNat ≤ xs.length
  · rw [Nat.min_eq_left q]
    exact List.take_of_length_le (by simp)
  · rw [Nat.min_eq_right (by omega)]
    rw [List.drop_eq_nil_of_le (Nat.le_refl _), List.drop_eq_nil_of_le (by omega)]; simp
theorem cutL_to {γ : Type} (xs : List γ) {i : Int} (h : 0 ≤ i) : cutL xs none (some i) = xs.take i.toNat := by
  unfold cutL
  rw [sIx_pos _ _ h, HT.sIx_none, List.drop_zero, Nat.sub_zero]
  by_cases q : i.toNat ≤ xs.length
  · rw [Nat.min_eq_left q]
  · rw [Nat.min_eq_right (by omega), List.take_of_length_le (Nat.le_refl _), List.take_of_length_le (by omega)]
@[simp] theorem cutL_0 {γ : Type} (xs : List γ) : cutL xs (some 0) none = xs := cutL_from xs (Int.le_refl 0)
@[simp] theorem cutL_1 {γ : Type} (xs : List γ) : cutL xs (some 1) none = xs.drop 1 := cutL_from xs (by omega)
@[simp] theorem cutL_2 {γ : Type} (xs : List γ) : cutL xs (some 2) none = xs.drop 2 := cutL_from xs (by omega)
@[simp] theorem cutL_t3 {γ : Type} (xs : List γ) : cutL xs none (some 3) = xs.take 3 := cutL_to xs (by omega)
theorem cutL_last {γ : Type} (xs : List γ) : cutL xs none (some (-1)) = xs.dropLast := by
  unfold cutL
  have e : HT.sIx xs.length xs.length (some (-1)) = xs.length - 1 := by
    unfold HT.sIx
    simp only [show (-1 : Int) < 0 by omega, if_true]; omega
  rw [e, HT.sIx_none, List.drop_zero, Nat.sub_zero, List.dropLast_eq_take]
/-- which kind -/
def isStr : D → Bool | .str _ => true | _ => false
def isTupD : D → Bool | .tup _ => true | _ => false
def isInt : D → Bool | .int _ => true | _ => false
def isBool : D → Bool | .bl _ => true | _ => false
def isLstD : D → Bool | .lst _ => true | _ => false
def isObj (c : Nat) : D → Bool | .obj c' _ => decide (c' = c) | _ => false
@[simp] theorem isTy_str (d : D) : isTy (tyD d) .str = isStr d := by cases d <;> rfl
@[simp] theorem isTy_tup (d : D) : isTy (tyD d) .tuple = isTupD d := by cases d <;> rfl
@[simp] theorem isTy_bool (d : D) : isTy (tyD d) .bool = isBool d := by cases d <;> rfl
@[simp] theorem isTy_int (d : D) : isTy (tyD d) .int = (isInt d || isBool d) := by cases d <;> rfl
@[simp] theorem isTy_lst (d : D) : isTy (tyD d) .list = isLstD d := by cases d <;> rfl
@[simp] theorem isTy_obj (d : D) (c : Nat) : isTy (tyD d) (.cls c) = isObj c d := by cases d <;> simp [isTy, tyD, isObj]
@[simp] theorem isStr_str (x : Str) : isStr (.str x) = true := rfl
@[simp] theorem isTupD_tup (x : List D) : isTupD (.tup x) = true := rfl
@[simp] theorem isObj_obj (c c' : Nat) (x : List D) : isObj c (.obj c' x) = decide (c' = c) := rfl
@[simp] theorem eqO_int (i j : Int) : eqO (.int i) (.int j) = some (i == j) := by simp [eqO, plain, dep, eqB]
@[simp] theorem eqO_str (x z : Str) : eqO (.str x) (.str z) = some (x == z) := by simp [eqO, plain, dep, eqB]
@[simp] theorem eqO_bl (x z : Bool) : eqO (.bl x) (.bl z) = some (x == z) := by simp [eqO, plain, dep, eqB]
@[simp] theorem eqO_non : eqO .non .non = some true := by simp [eqO, plain, dep, eqB]
@[simp] theorem eqO_non_int (i : Int) : eqO .non (.int i) = some false := by simp [eqO, plain, dep, eqB]
@[simp] theorem eqO_int_non (i : Int) : eqO (.int i) .non = some false := by simp [eqO, plain, dep, eqB]
@[simp] theorem evS_iset2 (o k o2 k2 e e2 : E) : evS F (.iset2 o k o2 k2 e e2) env m = RS.of ((evL F (.cons e (.cons e2 .nil)) env m).bind newT) fun t m => onS (pairW t) fun p =>
      RS.of (ev F o env m) fun x m => RS.of (ev F k env m) fun kw m => onS (snap m kw) fun kd => onS (isetW m x kd (.v p.1)) fun m =>
        RS.of (ev F o2 env m) fun x2 m => RS.of (ev F k2 env m) fun kw2 m => onS (snap m kw2) fun kd2 => onS (isetW m x2 kd2 (.v p.2)) fun m => .nx env m := rfl
def RS.next (r : RS) (k : Env → Store → RS) : RS := match r with
  | .nx e m => k e m
  | .cnt e m => k e m
  | .brk e m => .nx e m
  | r => r
theorem loopS_nil (body : Env → Store → RS) (g : G) : loopS body g [] env m = .nx env m := rfl
theorem loopS_cons (body : Env → Store → RS) (g : G) (d : D) (ds : List D) : loopS body g (d :: ds) env m = onS (asgG g (.v d) env) fun env' => (body env' m).next fun e m' => loopS body g ds e m' := rfl
@[simp] theorem next_nx (k : Env → Store → RS) : (RS.nx env m).next k = k env m := rfl
@[simp] theorem next_ret (k : Env → Store → RS) : (RS.ret w m).next k = .ret w m := rfl
/-! parts of a def's text -/
def SL.drop : Nat → SL → SL
  | 0, ss => ss
  | n + 1, .cons _ ss => SL.drop n ss
  | _ + 1, .nil => .nil
def SL.get : Nat → SL → S
  | _, .nil => .pass
  | 0, .cons s _ => s
  | n + 1, .cons _ ss => SL.get n ss
def S.body : S → SL
  | .for_ _ _ b => b
  | .while_ _ b => b
  | .if_ _ a _ => a
  | _ => .nil
/-- a dict comprehension's turn -/
noncomputable def dcompT (F : Fns) (kt : Bool) (g : G) (cs : EL) (k x : E) (env : Env) : List D × List W → D → Store → R (List D × List W) := fun acc w m => onO (asgG g (.v w) (clrG g env)) fun env' => (evAnd F cs env' m).bind fun b m =>
        ifW b ((ev F k env' m).bind fun y m => (ev F x env' m).bind fun z m => onV y fun kd => if keyOk kt kd then .ok (putK acc.1 acc.2 kd z) m else .bad) (.ok acc m)
@[simp] theorem ev_dcompX (kt : Bool) (g : G) (it : IT) (cs : EL) (k x : E) : ev F (.dcomp kt g it cs k x) env m = (evIT F it env m).bind fun items m => (foldR (dcompT F kt g cs k x env) items (([], []) : List D × List W) m).noex.bind fun a m => newD false kt a.1 a.2 m := rfl
@[simp] theorem newD_f (t : Bool) (ks : List D) (ws : List W) : newD false t ks ws m = onO (allV ws) fun ds => .ok (.v (.dict t ks ds)) m := by
  unfold newD; cases allV ws <;> rfl
@[simp] theorem foldR_nil (f : α → β → Store → R α) (a : α) : foldR f [] a m = .ok a m := rfl
theorem foldR_cons (f : α → β → Store → R α) (b : β) (bs : List β) (a : α) : foldR f (b :: bs) a m = (f a b m).bind fun a' m' => foldR f bs a' m' := rfl
theorem ixD_last (ds : List D) (d : D) : ixD (.lst (ds ++ [d])) (.int (-1)) = some d := by
  rw [ixD_lst]
  have : L2.ixN (ds ++ [d]).length (-1) = some ds.length := by
    unfold L2.ixN
    simp
    omega
  rw [this]; simp
theorem eqO_lst_nil (xs : List D) (h : plains xs = true) (h2 : deps xs ≤ 59) : eqO (.lst xs) (.lst []) = some xs.isEmpty := by
  cases xs with
  | nil => simp [eqO, plain, plains, dep, deps, eqB, eqBs]
  | cons x xs =>
    simp only [plains] at h
    simp only [deps] at h2
    simp [eqO, plain, plains, dep, deps, eqB, eqBs]
    simp only [Bool.and_eq_true] at h
    exact ⟨h.1, h.2, by omega⟩
/-- an item of an enumeration -/
theorem enum_at {L p post : List D} {d : D} (h : ((List.zipIdx L).map fun p => D.tup [.int (p.2 : Nat), p.1]) = p ++ d :: post) : ∃ x, L[p.length]? = some x ∧ d = .tup [.int (p.length : Nat), x] ∧ p.length < L.length := by
  have h1 := congrArg (fun l : List D => l[p.length]?) h
  simp only [List.getElem?_map, List.getElem?_zipIdx, List.getElem?_append_right (Nat.le_refl _), Nat.sub_self, List.getElem?_cons_zero] at h1
  cases q : L[p.length]? with
  | none => rw [q] at h1; simp at h1
  | some x =>
    rw [q] at h1
    simp at h1
    exact ⟨x, rfl, h1.symm, (List.getElem?_eq_some_iff.mp q).1⟩
/-! local tokens at the store's end -/
theorem get_last (m : Store) (c : C) : (m ++ [c])[m.length]? = some c := by simp
theorem tok_get {k : Nat} (h : m.length = k) (c : C) : (m ++ [c])[k]? = some c := by subst h; simp
theorem tok_set {k : Nat} (h : m.length = k) (c c' : C) : (m ++ [c]).set k c' = m ++ [c'] := by subst h; simp
theorem tok_isLst {k : Nat} (h : m.length = k) (ws : List W) : isLst (m ++ [.lst ws]) (.t k) = true := by
  simp [isLst, tok_get h]
theorem tok_append {k : Nat} (h : m.length = k) (ws : List W) (w : W) : mutW (m ++ [.lst ws]) .append (.t k) [w] = if ws.length < 10000000 then some (m ++ [.lst (ws ++ [w])]) else none := by
  simp only [mutW, mutL, tok_get h]
  split
  · rw [Option.map_some, tok_set h]
  · rfl
theorem tok_snap {k : Nat} (h : m.length = k) (ds : List D) : snap (m ++ [.lst (ds.map .v)]) (.t k) = some (.lst ds) := by
  show ((m ++ [C.lst (ds.map .v)])[k]?).bind snapC = _
  rw [tok_get h]
  show (allV (ds.map .v)).map D.lst = _
  rw [allV_map]; rfl
theorem tok_asDs {k : Nat} (h : m.length = k) (ds : List D) : asDs (m ++ [.lst (ds.map .v)]) [.t k] = some [.lst ds] := by
  simp [asDs, tok_snap h]
theorem tok_asD {k : Nat} (h : m.length = k) (ds : List D) (q : D → R α) : asD (.t k) (m ++ [.lst (ds.map .v)]) q = q (.lst ds) := by
  unfold asD; rw [tok_snap h]
theorem tok_frz {k : Nat} (h : m.length = k) (ds : List D) : frzW (m ++ [.lst (ds.map .v)]) (some (.t k)) = some (W.v (.lst ds), m ++ [C.dead]) := by
  unfold frzW
  simp only [tok_get h, tok_set h]
  show (match (allV (ds.map .v)).map D.lst with | some d => some (W.v d, m ++ [C.dead]) | none => none) = _
  rw [allV_map]; rfl
theorem low_vals (n : Nat) (ds : List D) : (ds.map W.v).all (lowW n) = true := by
  rw [List.all_map]
  exact List.all_eq_true.mpr fun _ _ => rfl
theorem set_last (m : Store) (c c' : C) : (m ++ [c]).set m.length c' = m ++ [c'] := by simp
end
end Cy

set_option Elab.async false
set_option linter.all false
set_option maxRecDepth 100000
set_option maxHeartbeats 2000000
/-! CyDraw: what the source of draws gives. -/
namespace Cy.T
open PySem L2 Cy
@[simp] theorem Fs_fn (n : Nat) : (Fs TB n).fn = sem TB n := rfl
@[simp] theorem Fs_glob (n g : Nat) : (Fs TB n).glob g = TB.glob g := rfl
/-- the source of draws at the store's front -/
def Src (rest : Store) (m : Store) : Prop := ∃ ns s c, (ns : List Int).length ≤ 63 ∧ 0 ≤ (c : Int) ∧ m = hd ns s c ++ rest
abbrev Low (rest : Store) : Prop := rest.all (lowC (2 + rest.length)) = true
theorem Src.len {rest m : Store} (h : Src rest m) : m.length = 2 + rest.length := by
  obtain ⟨ns, s, c, _, _, rfl⟩ := h
  simp [hd]; omega
theorem ixN_in {n : Nat} {i : Int} (h0 : 0 ≤ i) (h : i < n) : L2.ixN n i = some i.toNat := by
  unfold L2.ixN
  rw [if_pos h0, if_pos h]
theorem cellix (ns : List Int) (i : Int) (hc : 0 ≤ i) (h : i < (ns.length : Int) + 1) : ∃ z, ixD (.lst (ns.map .int ++ [.int 0])) (.int i) = some (.int z) ∧ (i < ns.length → ns[i.toNat]? = some z) := by
  have hl : i.toNat < ns.length + 1 := by omega
  rw [ixD_lst, ixN_in hc (by simp; omega)]
  show ∃ z, (ns.map D.int ++ [.int 0])[i.toNat]? = _ ∧ _
  by_cases q : i.toNat < ns.length
  · refine ⟨ns[i.toNat], ?_, fun _ => by simp [q]⟩
    rw [List.getElem?_append_left (by simpa using q)]
    simp [q]
  · refine ⟨0, ?_, fun z => by omega⟩
    rw [List.getElem?_append_right (by simp; omega)]
    have : i.toNat - (ns.map D.int).length = 0 := by simp; omega
    rw [this]; rfl
theorem next0 (n : Nat) (ns : List Int) (s c cap : Int) (rest : Store) (hl : ns.length ≤ 63) (hc : 0 ≤ c) (h1 : 0 < cap) (h2 : cap < 1000) (low : Low rest) :
    ∃ ns' s' c' r, ns'.length = ns.length ∧ 0 ≤ c' ∧ 0 ≤ r ∧ r < cap ∧ sem TB (n + 1) 12 [.t 1, .v (.int cap)] (hd ns s c ++ rest) = .ok (.v (.int r)) (hd ns' s' c' ++ rest) := by
  have hL : ns.length + 1 ≤ LIM := by show _ ≤ 10000000; omega
  obtain ⟨L, eL⟩ : ∃ L : Int, L = if 1 < (ns.length : Int) then (ns.length : Int) else 1 := ⟨_, rfl⟩
  have L1 : 0 < L := by split at eL <;> omega
  have Lb : L ≤ ns.length + 1 := by split at eL <;> omega
  have i0 := Int.emod_nonneg c (show L ≠ 0 by omega)
  have i1 := Int.emod_lt_of_pos c L1
  obtain ⟨z, hz, hz2⟩ := cellix ns (c % L) i0 (by omega)
  by_cases hbig : 1000000000000000000 ≤ z
  · have hlen : 0 < ns.length := by
      rcases Nat.eq_zero_or_pos ns.length with q | q
      · have : ns = [] := List.eq_nil_of_length_eq_zero q
        subst this
        have e1 : c % L = 0 := by
          have : L = 1 := by simpa using eL
          rw [this]; omega
        rw [e1] at hz
        simp [ixD_lst, L2.ixN] at hz
        omega
      · exact q
    have eL' : (ns.length : Int) = L := by split at eL <;> omega
    have eLL : (if 1 < L then L else 1) = L := by split <;> omega
    have hix : L2.ixN ns.length (c % L) = some (c % L).toNat := ixN_in i0 (by omega)
    refine ⟨ns.set (c % L).toNat (z / cap), s, c, z % cap, by simp, hc, Int.emod_nonneg _ (by omega), Int.emod_lt_of_pos _ h1, ?_⟩
    rw [sem_run df_l_next rfl]
    simp [d_l_next, newL, addD_lst, hL, ← eL, L1, hz, hbig, h1, show cap < 1073741824 by omega, eL', eLL, hd_cell, hix, hd_low low]
  · refine ⟨ns, (s * 48271 + z * 69621 + 11) % 2147483647, c + 1, (s * 48271 + z * 69621 + 11) % 2147483647 / 7 % cap, rfl, by omega, Int.emod_nonneg _ (by omega), Int.emod_lt_of_pos _ h1, ?_⟩
    rw [sem_run df_l_next rfl]
    simp [d_l_next, newL, addD_lst, hL, ← eL, L1, hz, hbig, h1, hd_low low]
theorem next (n : Nat) {cap : Int} {rest m : Store} (hs : Src rest m) (low : Low rest) (h1 : 0 < cap) (h2 : cap < 1000) :
    (sem TB (n + 1) 12 [.t 1, .v (.int cap)] m).sat fun w m' => Src rest m' ∧ ∃ r, 0 ≤ r ∧ r < cap ∧ w = .v (.int r) := by
  obtain ⟨ns, s, c, hl, hc, rfl⟩ := hs
  obtain ⟨ns', s', c', r, e1, e2, e3, e4, e5⟩ := next0 n ns s c cap rest hl hc h1 h2 low
  rw [e5]
  exact ⟨⟨ns', s', c', by omega, e2, rfl⟩, r, e3, e4, rfl⟩
theorem src_trunc {α : Type} {rest m m' : Store} {k : Store → R α} (h : Src rest m) (h' : Src rest m') (low : Low rest) : trunc m m' k = k m' := by
  obtain ⟨ns, s, c, hl, hc, rfl⟩ := h
  obtain ⟨ns', s', c', hl', hc', rfl⟩ := h'
  exact hd_low low
/-- with what was made since -/
theorem src_trunc2 {α : Type} {rest more m m' : Store} {k : Store → R α} (h : Src rest m) (h' : Src (rest ++ more) m') (low : Low rest) : ∃ m1, Src rest m1 ∧ m' = m1 ++ more ∧ trunc m m' k = k m1 := by
  obtain ⟨ns, s, c, hl, hc, rfl⟩ := h
  obtain ⟨ns', s', c', hl', hc', rfl⟩ := h'
  refine ⟨hd ns' s' c' ++ rest, ⟨ns', s', c', hl', hc', rfl⟩, by rw [List.append_assoc], ?_⟩
  rw [← List.append_assoc]
  refine trunc_low k (by simp [hd]) ?_
  have e : (hd ns s c ++ rest).length = 2 + rest.length := by simp [hd]; omega
  rw [e, List.all_append, low, Bool.and_true]
  simp [hd, lowC, lowW]
  omega
theorem src_end {α : Type} {rest m m1 : Store} {k : Store → R α} (h : Src rest m) (h' : Src rest m1) (low : Low rest) (more : Store) : trunc m (m1 ++ more) k = k m1 := by
  obtain ⟨ns, s, c, hl, hc, rfl⟩ := h
  obtain ⟨ns', s', c', hl', hc', rfl⟩ := h'
  refine trunc_low k (by simp [hd]) ?_
  have e : (hd ns s c ++ rest).length = 2 + rest.length := by simp [hd]; omega
  rw [e, List.all_append, low, Bool.and_true]
  simp [hd, lowC, lowW]
  omega
theorem Src.app {rest m : Store} (h : Src rest m) (c : Store) : Src (rest ++ c) (m ++ c) := by
  obtain ⟨ns, s, q, h1, h2, rfl⟩ := h
  exact ⟨ns, s, q, h1, h2, by rw [List.append_assoc]⟩
theorem Src.split {rest c m : Store} (h : Src (rest ++ c) m) : ∃ m1, Src rest m1 ∧ m = m1 ++ c ∧ m1.length = 2 + rest.length := by
  obtain ⟨ns, s, q, h1, h2, rfl⟩ := h
  have z : Src rest (hd ns s q ++ rest) := ⟨ns, s, q, h1, h2, rfl⟩
  exact ⟨_, z, by rw [List.append_assoc], z.len⟩
theorem lowW_mono {n k : Nat} (h : n ≤ k) : ∀ w : W, lowW n w = true → lowW k w = true
  | .v _, _ => rfl
  | .t i, q => by
    unfold lowW at q ⊢
    simp only [decide_eq_true_eq] at q ⊢
    omega
theorem lowC_mono {n k : Nat} (h : n ≤ k) : ∀ c : C, lowC n c = true → lowC k c = true
  | .lst ws, q => List.all_eq_true.mpr fun w hw => lowW_mono h w (List.all_eq_true.mp q w hw)
  | .dict _ _ ws, q => List.all_eq_true.mpr fun w hw => lowW_mono h w (List.all_eq_true.mp q w hw)
  | .obj _ ws, q => List.all_eq_true.mpr fun w hw => lowW_mono h w (List.all_eq_true.mp q w hw)
  | .dead, _ => rfl
theorem low_app {rest : Store} (low : Low rest) {c : C} (h : lowC (3 + rest.length) c = true) : Low (rest ++ [c]) := by
  show (rest ++ [c]).all (lowC (2 + (rest ++ [c]).length)) = true
  rw [List.length_append, List.all_append, List.all_cons, List.all_nil, Bool.and_true, Bool.and_eq_true]
  refine ⟨List.all_eq_true.mpr fun x hx => lowC_mono (by omega) x (List.all_eq_true.mp low x hx), ?_⟩
  have : 2 + (rest.length + [c].length) = 3 + rest.length := by show 2 + (rest.length + 1) = _; omega
  rw [this]; exact h
theorem low_lst {rest : Store} (low : Low rest) (ds : List D) : Low (rest ++ [.lst (ds.map .v)]) := low_app low (low_vals _ ds)
theorem pick (n : Nat) {xs : List D} {rest m : Store} (hs : Src rest m) (low : Low rest) (h1 : 0 < xs.length) (h2 : xs.length < 1000) :
    (sem TB (n + 2) 14 [.t 1, .v (.lst xs)] m).sat fun w m' => Src rest m' ∧ ∃ x ∈ xs, w = .v x := by
  rw [sem_run df_l_pick rfl]
  simp [d_l_pick]
  refine (next n hs low (by omega) (by omega)).mono ?_
  rintro _ m' ⟨hs', r, h3, h4, rfl⟩
  have hr : r.toNat < xs.length := by omega
  simp [ixD_lst, ixN_in h3 h4, hr, src_trunc hs hs' low]
  exact hs'
end Cy.T

set_option Elab.async false
set_option linter.all false
set_option maxRecDepth 100000
set_option maxHeartbeats 2000000
/-! CyDraw2: drawn tests and rules. -/
namespace Cy.T
open PySem L2 Cy
def hasB (notes : List Str) (x : Str) : Bool := notes.any fun y => y == x
theorem inD_words (x : Str) (ws : List Str) : inD (.str x) (.tup (ws.map .str)) = some (hasB ws x) := Cy.inD_words x ws
def spots (b : Bool) : List Str := bif b then ["own", "above", "base"] else ["own", "above"]
/-- a test that stands in a rule that looks at base (b), at mine (mi) -/
inductive Tst | pair (k f g : Str) | one (k f : Str) | flag (k : Str)
def Tst.d : Tst → D
  | .pair k f g => .tup [.str k, .str f, .str g]
  | .one k f => .tup [.str k, .str f]
  | .flag k => .tup [.str k]
def Tst.okB (b mi : Bool) : Tst → Bool
  | .pair k f g => (k == "same" || k == "unlike") && (spots b).contains f && (spots b).contains g
  | .one k f => (k == "there" || k == "gone") && (spots b).contains f
  | .flag k => k == "yes" || k == "no" || (mi && (k == "mine" || k == "free"))
theorem neq_spots (m : Store) (b : Bool) (F : Fns) (e0 e1 e2 e3 : Option W) (f : Str) :
    foldR (compT F (.n 6) (.cons (.cmp .ne (.var 6) (.var 4)) .nil) (.var 6) [e0, e1, e2, e3, some (.v (.str f)), none, none]) ((spots b).map .str) [] m = .ok (((spots b).filter (fun y => !(y == f))).map (fun y => .v (.str y))) m := by
  rw [comp_pure (fun d => match d with | .str y => !(y == f) | _ => false) (fun d => .v d)]
  · congr 1
    simp only [List.nil_append]
    rw [List.filter_map, List.map_map]
    rfl
  · intro d hd
    obtain ⟨y, hy, rfl⟩ := List.mem_map.mp hd
    exact ⟨_, rfl, by simp, fun _ => rfl⟩
theorem addD_strs (a b : List Str) (h : a.length + b.length ≤ 10000000) : addD (.lst (a.map .str)) (.lst (b.map .str)) = some (.lst ((a ++ b).map .str)) := by
  rw [addD_lst, if_pos (by simpa using h), List.map_append]
theorem test (n : Nat) {notes : List Str} {rest m : Store} (hs : Src rest m) (low : Low rest) :
    (sem TB (n + 3) 15 [.t 1, .v (.tup (notes.map .str))] m).sat fun w m' => Src rest m' ∧ ∃ t : Tst, t.okB (hasB notes "base") (hasB notes "mine") = true ∧ w = .v t.d := by
  rw [sem_run df_l_test rfl]
  generalize hB : hasB notes "base" = b
  generalize hM : hasB notes "mine" = mi
  have body : (bif b then R.ok (W.v (D.lst [D.str "base"])) m else R.ok (W.v (D.lst [])) m).bind (fun a m => (asD a m fun e => ofD (addD (D.lst [D.str "own", D.str "above"]) e) m)) = R.ok (W.v (.lst ((spots b).map .str))) m := by
    cases b <;> rfl
  simp [d_l_test, inD_words, hB, hM]
  rw [← sat_bind, body, sat_ok]
  refine (next _ hs low (by omega) (by omega)).mono ?_
  rintro _ m1 ⟨hs1, r, r0, r1, rfl⟩
  simp
  have sp : ∀ x ∈ (spots b).map D.str, ∃ y ∈ spots b, x = .str y := fun x hx => by
    obtain ⟨y, h1, h2⟩ := List.mem_map.mp hx
    exact ⟨y, h1, h2.symm⟩
  have l0 : 0 < ((spots b).map D.str).length := by cases b <;> simp [spots]
  have l1 : ((spots b).map D.str).length < 1000 := by cases b <;> simp [spots]
  have fin : ∀ (t : Tst) (m' : Store), Src rest m' → t.okB b mi = true → (fin m (.v t.d) m').sat fun w m' => Src rest m' ∧ ∃ t : Tst, t.okB b mi = true ∧ w = .v t.d := fun t m' h ht => by
    rw [fin_v, src_trunc hs h low]
    exact ⟨h, t, ht, rfl⟩
  by_cases k2 : r < 2
  · simp [k2]
    refine (pick _ hs1 low l0 l1).mono ?_
    rintro _ m2 ⟨hs2, _, hx, rfl⟩
    obtain ⟨f, hf, rfl⟩ := sp _ hx
    rw [neq_spots, sat_ok]
    have neq : ∃ us : List Str, (spots b).filter (fun y => !(y == f)) = us ∧ (∀ u ∈ us, u ∈ spots b) ∧ 0 < us.length ∧ us.length < 1000 := by
      refine ⟨_, rfl, fun u hu => (List.mem_filter.mp hu).1, ?_, ?_⟩
      · have : ∃ y ∈ spots b, (!(y == f)) = true := by
          by_cases q : f = ("own" : Str)
          · exact ⟨"above", by cases b <;> simp [spots], by subst q; decide⟩
          · exact ⟨"own", by cases b <;> simp [spots], by simpa using fun e => q e.symm⟩
        obtain ⟨y, y1, y2⟩ := this
        exact List.length_pos_of_mem (List.mem_filter.mpr ⟨y1, y2⟩)
      · exact Nat.lt_of_le_of_lt (List.length_filter_le _ _) (by simpa using l1)
    obtain ⟨us, eu, hu, u0, u1⟩ := neq
    rw [eu]
    have e : (us.map fun y => W.v (.str y)) = (us.map D.str).map .v := by rw [List.map_map]; rfl
    rw [e]
    simp [show us.length ≤ 10000000 by omega]
    refine (pick _ (xs := us.map .str) hs2 low (by simpa using u0) (by simpa using u1)).mono ?_
    rintro _ m3 ⟨hs3, _, hx3, rfl⟩
    obtain ⟨g, hg, rfl⟩ := List.mem_map.mp hx3
    refine (pick _ hs3 low (by simp) (by simp)).mono ?_
    rintro _ m4 ⟨hs4, k, hk, rfl⟩
    simp only [List.mem_cons, List.mem_nil_iff, or_false] at hk
    have hg := hu g hg
    rcases hk with rfl | rfl
    · exact fin (.pair "same" f g) m4 hs4 (by simp [Tst.okB, hf, hg])
    · exact fin (.pair "unlike" f g) m4 hs4 (by simp [Tst.okB, hf, hg])
  · simp [k2]
    by_cases k3 : r = 2
    · simp [k3]
      refine (pick _ hs1 low (by simp) (by simp)).mono ?_
      rintro _ m2 ⟨hs2, k, hk, rfl⟩
      simp
      refine (pick _ hs2 low l0 l1).mono ?_
      rintro _ m3 ⟨hs3, _, hx, rfl⟩
      obtain ⟨f, hf, rfl⟩ := sp _ hx
      simp only [List.mem_cons, List.mem_nil_iff, or_false] at hk
      rcases hk with rfl | rfl
      · exact fin (.one "there" f) m3 hs3 (by simp [Tst.okB, hf])
      · exact fin (.one "gone" f) m3 hs3 (by simp [Tst.okB, hf])
    · have k3' : (r == 2) = false := by simpa using k3
      have last : ∀ m2, Src rest m2 → (sem TB (n + 2) 14 [W.t 1, W.v (D.lst [D.str (Str.ofString "yes"), D.str (Str.ofString "no")])] m2).sat fun a m3 => (onO (allV [a]) fun ds => R.ok (W.v (D.tup ds)) m3).sat fun w m4 => (Cy.fin m w m4).sat fun w m' => Src rest m' ∧ ∃ t, Tst.okB b mi t = true ∧ w = W.v t.d := fun m2 hs2 => by
        refine (pick _ hs2 low (by simp) (by simp)).mono ?_
        rintro _ m3 ⟨hs3, k, hk, rfl⟩
        simp only [List.mem_cons, List.mem_nil_iff, or_false] at hk
        rcases hk with rfl | rfl
        · exact fin (.flag "yes") m3 hs3 (by simp [Tst.okB])
        · exact fin (.flag "no") m3 hs3 (by simp [Tst.okB])
      simp [k3', inD_words]
      by_cases k4 : r = 3
      · subst k4
        simp [hM]
        cases mi with
        | true =>
          simp
          refine (pick _ hs1 low (by simp) (by simp)).mono ?_
          rintro _ m3 ⟨hs3, k, hk, rfl⟩
          simp only [List.mem_cons, List.mem_nil_iff, or_false] at hk
          rcases hk with rfl | rfl
          · exact fin (.flag "mine") m3 hs3 (by simp [Tst.okB])
          · exact fin (.flag "free") m3 hs3 (by simp [Tst.okB])
        | false =>
          simp
          exact last m1 hs1
      · have k4' : (r == 3) = false := by simpa using k4
        simp [k4']
        exact last m1 hs1
end Cy.T

set_option Elab.async false
set_option linter.all false
set_option maxRecDepth 100000
set_option maxHeartbeats 2000000
/-! CyDraw3: drawn rules. -/
namespace Cy.T
open PySem L2 Cy
structure Rw where
  tests : List Tst
  act : Str
def Rw.d (r : Rw) : D := .tup [.tup (r.tests.map Tst.d), .str r.act]
abbrev acts : List Str := ["take", "keep", "drop", "claim"]
def Rw.okB (b mi : Bool) (r : Rw) : Bool := r.tests.all (Tst.okB b mi) && decide (r.tests.length ≤ 4) && acts.contains r.act
abbrev allNotes : List (List Str) := [[], ["base"], ["mine"], ["base", "mine"]]
/-- the parts of a rule -/
structure Pr where
  notes : List Str
  rows : List Rw
def Pr.okB (p : Pr) : Bool := allNotes.contains p.notes && p.rows.all (Rw.okB (hasB p.notes "base") (hasB p.notes "mine"))
def Pr.nD (p : Pr) : D := .tup (p.notes.map .str)
def Pr.rD (p : Pr) : D := .tup (p.rows.map Rw.d)
def Pr.d (p : Pr) : D := .tup [p.nD, p.rD]
theorem tests_comp (n : Nat) {g : G} {elt : E} {env : Env} {notes : List Str} {rest : Store} (low : Low rest)
    (he : ∀ d m, ∃ env', asgG g (.v d) (clrG g env) = some env' ∧ ev (Fs TB (n + 3)) elt env' m = sem TB (n + 3) 15 [.t 1, .v (.tup (notes.map .str))] m) {ds : List D} {m : Store} (hs : Src rest m) :
    (foldR (compT (Fs TB (n + 3)) g .nil elt env) ds [] m).sat fun ws m' => Src rest m' ∧ ∃ ts : List Tst, ws = (ts.map Tst.d).map .v ∧ ts.length = ds.length ∧ ts.all (Tst.okB (hasB notes "base") (hasB notes "mine")) = true := by
  refine fold_sat (fun pre acc m' => Src rest m' ∧ ∃ ts : List Tst, acc = (ts.map Tst.d).map .v ∧ ts.length = pre.length ∧ ts.all (Tst.okB (hasB notes "base") (hasB notes "mine")) = true) ds [] [] m ⟨hs, [], rfl, rfl, rfl⟩ ?_ fun a m h => h
  rintro p d post acc m' _ ⟨hs', ts, rfl, h1, h2⟩
  obtain ⟨env', e1, e2⟩ := he d m'
  unfold compT
  rw [e1, onO_some, evAnd_nil, bind_ok, ifW_b, cond_true, e2, sat_bind]
  refine (test n hs' low).mono ?_
  rintro _ m2 ⟨hs2, t, ht, rfl⟩
  refine ⟨hs2, ts ++ [t], by simp, by simp [h1], ?_⟩
  rw [List.all_append, h2]
  simpa using ht
theorem parts (n : Nat) {most : Int} {rest m : Store} (hs : Src rest m) (low : Low rest) (h0 : 0 ≤ most) (h1 : most ≤ 8) :
    (sem TB (n + 4) 16 [.t 1, .v (.int most)] m).sat fun w m' => Src rest m' ∧ ∃ p : Pr, p.okB = true ∧ (p.rows.length : Int) ≤ most ∧ (∀ r ∈ p.rows, r.tests.length ≤ 3) ∧ w = .v p.d := by
  rw [sem_run df_l_parts rfl]
  simp [d_l_parts]
  refine (pick _ hs low (by simp) (by simp)).mono ?_
  rintro _ m1 ⟨hs1, k, hk, rfl⟩
  obtain ⟨notes, rfl, hn⟩ : ∃ notes : List Str, k = .tup (notes.map .str) ∧ allNotes.contains notes = true := by
    simp only [List.mem_cons, List.mem_nil_iff, or_false] at hk
    rcases hk with rfl | rfl | rfl | rfl | rfl
    · exact ⟨[], rfl, by decide⟩
    · exact ⟨["base"], rfl, by decide⟩
    · exact ⟨["mine"], rfl, by decide⟩
    · exact ⟨["base", "mine"], rfl, by decide⟩
    · exact ⟨["base", "mine"], rfl, by decide⟩
  have hk1 := hs1.len
  generalize m1.length = k at hk1 ⊢
  refine (next _ (hs1.app [.lst []]) (low_lst low []) (by omega) (by omega)).mono ?_
  rintro _ m2 ⟨hs2, r, r0, r1, rfl⟩
  simp [show -1000000 ≤ r by omega, show r ≤ 1000000 by omega]
  refine loop_sat (fun pre env m' => ∃ rows : List Rw, rows.length = pre.length ∧ rows.all (Rw.okB (hasB notes "base") (hasB notes "mine")) = true ∧ (∀ r ∈ rows, r.tests.length ≤ 3) ∧ (∃ ds : List D, ds = rows.map Rw.d ∧ Src (rest ++ [.lst (ds.map .v)]) m') ∧ ∃ a b c, env = [some (W.t 1), some (W.v (D.int most)), some (W.v (D.tup (List.map D.str notes))), some (W.t k), a, b, c])
    _ [] _ _ ⟨[], rfl, rfl, by simp, ⟨[], rfl, by simpa using hs2⟩, _, _, _, rfl⟩ ?_ ?_
  · rintro p d post env m' hp ⟨rows, h1, h2, h3, ⟨ds, hds, hs'⟩, x4, x5, x6, rfl⟩
    refine ⟨_, rfl, ?_⟩
    have hrl : rows.length < 10 := by
      have := congrArg List.length hp
      simp [rngD] at this
      omega
    simp
    have low' := low_lst low ds
    have hdl : ds.length < 10 := by rw [hds]; simpa using hrl
    refine (next _ hs' low' (by omega) (by omega)).mono ?_
    rintro _ m3 ⟨hs3, q, q0, q1, rfl⟩
    obtain ⟨c, hc, c0, c3⟩ : ∃ c : Int, ixD (D.lst [D.int 0, D.int 1, D.int 1, D.int 2, D.int 2, D.int 3]) (.int q) = some (.int c) ∧ 0 ≤ c ∧ c ≤ 3 := by
      rw [ixD_lst, ixN_in q0 (by simpa using q1)]
      have : q = 0 ∨ q = 1 ∨ q = 2 ∨ q = 3 ∨ q = 4 ∨ q = 5 := by omega
      rcases this with rfl | rfl | rfl | rfl | rfl | rfl
      · exact ⟨0, rfl, by omega, by omega⟩
      · exact ⟨1, rfl, by omega, by omega⟩
      · exact ⟨1, rfl, by omega, by omega⟩
      · exact ⟨2, rfl, by omega, by omega⟩
      · exact ⟨2, rfl, by omega, by omega⟩
      · exact ⟨3, rfl, by omega, by omega⟩
    simp [hc, show -1000000 ≤ c by omega, show c ≤ 1000000 by omega]
    refine R.sat.mono (tests_comp n (notes := notes) low' ?_ hs3) ?_
    · intro d m
      refine ⟨_, rfl, ?_⟩
      simp
    rintro _ m4 ⟨hs4, ts, rfl, t1, t2⟩
    have tl : ts.length ≤ 3 := by simp [rngD] at t1; omega
    obtain ⟨m4', s4, rfl, l4⟩ := hs4.split
    rw [← hk1] at l4
    simp [show ts.length ≤ 10000000 by omega, tok_isLst l4]
    refine (pick _ (s4.app [C.lst (ds.map .v)]) low' (by simp) (by simp)).mono ?_
    rintro _ m5 ⟨hs5, a, ha, rfl⟩
    obtain ⟨m5', s5, rfl, l5⟩ := hs5.split
    rw [← hk1] at l5
    obtain ⟨act, rfl, hact⟩ : ∃ act : Str, a = .str act ∧ acts.contains act = true := by
      simp only [List.mem_cons, List.mem_nil_iff, or_false] at ha
      rcases ha with rfl | rfl | rfl | rfl | rfl | rfl
      · exact ⟨"take", rfl, by decide⟩
      · exact ⟨"take", rfl, by decide⟩
      · exact ⟨"keep", rfl, by decide⟩
      · exact ⟨"keep", rfl, by decide⟩
      · exact ⟨"drop", rfl, by decide⟩
      · exact ⟨"claim", rfl, by decide⟩
    simp [tok_append l5, show ds.length < 10000000 by omega]
    refine ⟨rows ++ [⟨ts, act⟩], by simp [h1], ?_, ?_, ?_⟩
    · intro x hx
      rcases List.mem_append.mp hx with hx | hx
      · exact List.all_eq_true.mp h2 x hx
      · rw [List.mem_singleton.mp hx]
        simp only [Rw.okB, Bool.and_eq_true, decide_eq_true_eq]
        exact ⟨⟨t2, by omega⟩, hact⟩
    · intro x hx
      rcases List.mem_append.mp hx with hx | hx
      · exact h3 x hx
      · rw [List.mem_singleton.mp hx]; exact tl
    · have := s5.app [C.lst ((ds ++ [Rw.d ⟨ts, act⟩]).map .v)]
      simpa [Rw.d, hds] using this
  · rintro env m' ⟨rows, h1, h2, h3, ⟨ds, hds, hs'⟩, x4, x5, x6, rfl⟩
    have hrl : (rows.length : Int) ≤ most := by
      simp [rngD] at h1
      omega
    obtain ⟨m5', s5, rfl, l5⟩ := hs'.split
    rw [← hk1] at l5
    simp [tok_asDs l5]
    rw [src_end hs s5 low]
    refine ⟨s5, ⟨notes, rows⟩, ?_, hrl, h3, by simp [Pr.d, Pr.nD, Pr.rD, hds]⟩
    simp only [Pr.okB, Bool.and_eq_true]
    exact ⟨hn, h2⟩
end Cy.T

set_option Elab.async false
set_option linter.all false
set_option maxRecDepth 100000
set_option maxHeartbeats 2000000
/-! CyDraw4: the source of draws is made. -/
namespace Cy.T
open PySem L2 Cy
theorem mix (n : Nat) (ns : List Int) (seed : Int) (hl : ns.length ≤ 63) : (sem TB (n + 1) 11 [.v (.lst (ns.map .int)), .v (.int seed)] []).sat fun w m' => Src [] m' ∧ w = .t 1 := by
  rw [sem_run df_l_mix rfl]
  simp [d_l_mix]
  refine loop_sat (fun pre env m' => m' = [] ∧ ∃ s a, env = [some (W.v (.lst (ns.map .int))), some (W.v (.int seed)), some (W.v (.int s)), a]) _ [] _ _ ⟨rfl, _, _, rfl⟩ ?_ ?_
  · rintro p d post env m' hp ⟨rfl, s, a, rfl⟩
    obtain ⟨z, hz, rfl⟩ : ∃ z ∈ ns, D.int z = d := by
      have : d ∈ ns.map D.int := by
        have e : [] ++ ns.map D.int = p ++ d :: post := hp
        rw [List.nil_append] at e
        rw [e]; simp
      exact List.mem_map.mp this
    exact ⟨_, rfl, by simp⟩
  · rintro env m' ⟨rfl, s, a, rfl⟩
    simp [show ns.length ≤ 10000000 by omega]
    exact ⟨ns, s, 0, hl, by omega, by simp [hd]⟩
end Cy.T

set_option Elab.async false
set_option linter.all false
set_option maxRecDepth 100000
set_option maxHeartbeats 2000000
/-! CyRules: what stands in a rule. -/
namespace Cy.T
open PySem L2 Cy
def wSPOTS : List Str := ["own", "above", "base"]
def wPAIRS : List Str := ["same", "unlike"]
def wSINGLES : List Str := ["there", "gone"]
def wFLAGS : List Str := ["mine", "free"]
def wANSWERS : List Str := ["yes", "no"]
def wACTS : List Str := acts
def dNOTES : List D := allNotes.map fun ns => .tup (ns.map .str)
theorem g_NOTES : TB.glob 0 = .tup dNOTES := rfl
theorem g_SPOTS : TB.glob 1 = .tup (wSPOTS.map .str) := rfl
theorem g_PAIRS : TB.glob 2 = .tup (wPAIRS.map .str) := rfl
theorem g_SINGLES : TB.glob 3 = .tup (wSINGLES.map .str) := rfl
theorem g_FLAGS : TB.glob 4 = .tup (wFLAGS.map .str) := rfl
theorem g_ANSWERS : TB.glob 5 = .tup (wANSWERS.map .str) := rfl
theorem g_ACTIONS : TB.glob 6 = .tup (wACTS.map .str) := rfl
def isWordB (ws : List Str) : D → Bool
  | .str x => hasB ws x
  | _ => false
theorem is_word (n : Nat) (d : D) (ws : List Str) (m : Store) : sem TB (n + 1) 1 [.v d, .v (.tup (ws.map .str))] m = .ok (.v (.bl (isWordB ws d))) m := by
  rw [sem_run df_p_is_word rfl]
  cases d <;> simp [d_p_is_word, tyD, isTy, inD_words, isWordB, cond_ok]
/-- what stands as a test, by the notes' two marks -/
def testB (b mi : Bool) : D → Bool
  | .tup [.str k] => hasB wANSWERS k || (hasB wFLAGS k && mi)
  | .tup [.str k, .str f] => hasB wSPOTS f && (!(f == "base") || b) && hasB wSINGLES k
  | .tup [.str k, .str f, .str g] => hasB wSPOTS f && hasB wSPOTS g && (!(f == "base" || g == "base") || b) && hasB wPAIRS k
  | _ => false
theorem isWordB_not {ws : List Str} {d : D} (h : isStr d = false) : isWordB ws d = false := by cases d <;> first | rfl | (cases h)
theorem isStr_of {d : D} (h : isStr d = true) : ∃ x, d = .str x := by cases d <;> first | exact ⟨_, rfl⟩ | (cases h)
theorem inD_1 (x y : Str) : inD (.str x) (.tup [.str y]) = some (y == x) := by simp [inD, plain, plains, dep, deps, eqB]
theorem inD_2 (x y z : Str) : inD (.str x) (.tup [.str y, .str z]) = some (y == x || z == x) := by simp [inD, plain, plains, dep, deps, eqB]
theorem inD_0 (x : Str) : inD (.str x) (.tup []) = some false := by simp [inD, plain, plains, dep, deps, eqB]
theorem is_test (n : Nat) (notes : List Str) (d : D) (m : Store) : sem TB (n + 2) 3 [.v (.tup (notes.map .str)), .v d] m = .ok (.v (.bl (testB (hasB notes "base") (hasB notes "mine") d))) m := by
  rw [sem_run df_p_is_test rfl]
  have words : ∀ (xs : List D) (e1 e2 : Option W), foldR (compT (Fs TB (n + 1)) (.n 2) .nil (.call 1 (.cons (.var 2) (.cons (.glob 1) .nil))) [e1, e2, none]) xs [] m = .ok (xs.map fun x => .v (.bl (isWordB wSPOTS x))) m := by
    intro xs e1 e2
    exact comp_map (fun x => .v (.bl (isWordB wSPOTS x))) xs fun d _ => ⟨_, rfl, by simp [g_SPOTS, is_word n]⟩
  cases d with
  | tup xs =>
    match xs with
    | [] => simp [d_p_is_test, testB]
    | [x] =>
      cases hx : isStr x with
      | false =>
        simp [d_p_is_test, hx]
        cases x <;> first | rfl | (cases hx)
      | true =>
        obtain ⟨k, rfl⟩ := isStr_of hx
        simp [d_p_is_test, words, inD_words, inD_0, g_ANSWERS, g_FLAGS, testB]
    | [x, f] =>
      cases hx : isStr x with
      | false =>
        simp [d_p_is_test, hx]
        cases x <;> first | rfl | (cases hx)
      | true =>
        obtain ⟨k, rfl⟩ := isStr_of hx
        cases hf : isStr f with
        | false =>
          simp [d_p_is_test, words, isWordB_not hf]
          cases f <;> first | rfl | (cases hf)
        | true =>
          obtain ⟨f, rfl⟩ := isStr_of hf
          simp [d_p_is_test, words, inD_words, inD_1, g_SINGLES, testB, isWordB]
          generalize hasB wSPOTS f = q1
          generalize (f == ("base" : Str)) = q2
          generalize hasB notes "base" = q3
          cases q1 <;> cases q2 <;> cases q3 <;> simp [inD_words]
    | [x, f, g] =>
      cases hx : isStr x with
      | false =>
        simp [d_p_is_test, hx]
        cases x <;> first | rfl | (cases hx)
      | true =>
        obtain ⟨k, rfl⟩ := isStr_of hx
        cases hf : isStr f with
        | false =>
          simp [d_p_is_test, words, isWordB_not hf]
          cases f <;> first | rfl | (cases hf)
        | true =>
          obtain ⟨f, rfl⟩ := isStr_of hf
          cases hg : isStr g with
          | false =>
            simp [d_p_is_test, words, isWordB_not hg]
            cases g <;> first | rfl | (cases hg)
          | true =>
            obtain ⟨g, rfl⟩ := isStr_of hg
            simp [d_p_is_test, words, inD_words, inD_2, g_PAIRS, testB, isWordB]
            generalize hasB wSPOTS f = q1
            generalize hasB wSPOTS g = q0
            generalize (f == ("base" : Str)) = q2
            generalize (g == ("base" : Str)) = q4
            generalize hasB notes "base" = q3
            cases q0 <;> cases q1 <;> cases q2 <;> cases q3 <;> cases q4 <;> simp [inD_words]
    | x :: f :: g :: y :: r =>
      have : ¬ ((r.length : Int) + 1 + 1 + 1 + 1 ≤ 3) := by omega
      simp [d_p_is_test, this]
      unfold testB
      split <;> simp_all
  | _ => simp [d_p_is_test, testB, isTupD]
/-- what stands as a row -/
def rowB (b mi : Bool) : D → Bool
  | .tup [.tup ts, .str a] => hasB wACTS a && decide (ts.length ≤ 4) && ts.all (testB b mi)
  | _ => false
theorem isTup_of {d : D} (h : isTupD d = true) : ∃ x, d = .tup x := by cases d <;> first | exact ⟨_, rfl⟩ | (cases h)
theorem is_row (n : Nat) (notes : List Str) (d : D) (m : Store) : sem TB (n + 3) 4 [.v (.tup (notes.map .str)), .v d] m = .ok (.v (.bl (rowB (hasB notes "base") (hasB notes "mine") d))) m := by
  rw [sem_run df_p_is_row rfl]
  cases d with
  | tup xs =>
    match xs with
    | [] => simp [d_p_is_row, rowB]
    | [x] =>
      simp [d_p_is_row]
      cases x <;> rfl
    | [x, a] =>
      cases ha : isStr a with
      | false =>
        simp [d_p_is_row, g_ACTIONS, is_word (n + 1), isWordB_not ha]
        cases a <;> first | (cases ha; done) | (cases x <;> rfl)
      | true =>
        obtain ⟨a, rfl⟩ := isStr_of ha
        cases hx : isTupD x with
        | false =>
          simp [d_p_is_row, g_ACTIONS, is_word (n + 1), isWordB, hx]
          generalize hasB wACTS a = q
          cases q <;> (cases x <;> first | (cases hx; done) | simp [hx, rowB])
        | true =>
          obtain ⟨ts, rfl⟩ := isTup_of hx
          simp [d_p_is_row, g_ACTIONS, is_word (n + 1), isWordB, gl_MOST_TESTS, rowB]
          generalize hasB wACTS a = q
          by_cases hl : ts.length ≤ 4
          · have tests : foldR (compT (Fs TB (n + 2)) (.n 2) .nil (.call 3 (.cons (.var 0) (.cons (.var 2) .nil))) [some (.v (.tup (notes.map .str))), some (.v (.tup [.tup ts, .str a])), none]) ts [] m = .ok (ts.map fun t => .v (.bl (testB (hasB notes "base") (hasB notes "mine") t))) m :=
              comp_map (fun t => .v (.bl (testB (hasB notes "base") (hasB notes "mine") t))) ts fun d _ => ⟨_, rfl, by simp [is_test n]⟩
            cases q
            · simp
            · simp [show ¬ (4 < (ts.length : Int)) by omega, tests, hl, show ts.length ≤ 10000000 by omega]
          · cases q
            · simp
            · simp [show (4 < (ts.length : Int)) by omega, hl]
    | x :: a :: y :: r =>
      have : ((r.length : Int) + 1 + 1 + 1 == 2) = false := by rw [beq_eq_false_iff_ne]; omega
      simp [d_p_is_row, rowB, this]
  | _ => simp [d_p_is_row, rowB, isTupD]
end Cy.T

set_option Elab.async false
set_option linter.all false
set_option maxRecDepth 100000
set_option maxHeartbeats 2000000
/-! CyRule: rules are made. -/
namespace Cy.T
open PySem L2 Cy
/-- the store knows no tokens but its own -/
def Cl (m : Store) : Prop := m.all (lowC m.length) = true
theorem Src.cl {rest m : Store} (h : Src rest m) (low : Low rest) : Cl m := by
  have hl := h.len
  obtain ⟨ns, s, c, _, _, rfl⟩ := h
  unfold Cl
  rw [hl, List.all_append, low, Bool.and_true]
  simp [hd, lowC, lowW]
  omega
theorem Cl.nil : Cl [] := rfl
theorem Cl.app {m : Store} (h : Cl m) {c : C} (hc : lowC (m.length + 1) c = true) : Cl (m ++ [c]) := by
  unfold Cl
  rw [List.all_append, List.length_append, List.all_cons, List.all_nil, Bool.and_true, Bool.and_eq_true]
  exact ⟨List.all_eq_true.mpr fun x hx => lowC_mono (by omega) x (List.all_eq_true.mp h x hx), hc⟩
theorem Cl.vals {m : Store} (h : Cl m) (ds : List D) : Cl (m ++ [.lst (ds.map .v)]) := h.app (low_vals _ ds)
theorem trunc_tok {α : Type} {m : Store} {c c' : C} {k : Store → R α} (h : Cl m) (hc : lowC (m.length + 1) c' = true) : trunc (m ++ [c]) (m ++ [c']) k = k (m ++ [c']) := by
  have := trunc_low (m0 := m ++ [c]) (m1 := m ++ [c']) (m2 := []) k (by simp) (by
    have := h.app hc
    unfold Cl at this
    simpa using this)
  simpa using this
theorem tok_fset {m : Store} {k : Nat} (h : m.length = k) (c i : Nat) (ws : List W) (w : W) : fsetW (m ++ [.obj c ws]) c i (.t k) w =
    if i < ws.length then some (m ++ [.obj c (ws.set i w)]) else if i = ws.length then some (m ++ [.obj c (ws ++ [w])]) else none := by
  unfold fsetW
  simp only [tok_get h, if_true, tok_set h]
mutual
theorem eqB_self : ∀ d : D, plain d = true → eqB d d = true
  | .non, _ => rfl
  | .bl b, _ => by simp [eqB]
  | .int i, _ => by simp [eqB]
  | .str x, _ => by simp [eqB]
  | .tup xs, h => by
    simp only [plain] at h
    simp only [eqB]
    exact eqBs_self xs h
  | .lst xs, h => by
    simp only [plain] at h
    simp only [eqB]
    exact eqBs_self xs h
  | .dict _ _ _, h => by simp [plain] at h
  | .obj _ _, h => by simp [plain] at h
theorem eqBs_self : ∀ ds : List D, plains ds = true → eqBs ds ds = true
  | [], _ => rfl
  | d :: ds, h => by
    simp only [plains, Bool.and_eq_true] at h
    simp only [eqBs, Bool.and_eq_true]
    exact ⟨eqB_self d h.1, eqBs_self ds h.2⟩
end
theorem eqO_self {d : D} (h : plain d = true) (h2 : dep d ≤ 60) : eqO d d = some true := by
  unfold eqO
  simp [h, h2, eqB_self d h]
def notesB (d : D) : Bool := match d with
  | .tup ds => ds.all isStr && dNOTES.any fun y => eqB y d
  | _ => false
theorem plains_strs : ∀ ds : List D, ds.all isStr = true → plains ds = true ∧ deps ds = 0
  | [], _ => ⟨rfl, rfl⟩
  | d :: ds, h => by
    simp only [List.all_cons, Bool.and_eq_true] at h
    obtain ⟨x, rfl⟩ := isStr_of h.1
    obtain ⟨h1, h2⟩ := plains_strs ds h.2
    simp [plains, plain, deps, dep, h1, h2]
theorem dNOTES_plain : plains dNOTES = true ∧ deps dNOTES = 1 := by
  constructor <;> simp [dNOTES, allNotes, plains, plain, deps, dep]
theorem are_notes (n : Nat) (d : D) (hl : ∀ ds, d = .tup ds → ds.length ≤ 10000000) (m : Store) : sem TB (n + 1) 2 [.v d] m = .ok (.v (.bl (notesB d))) m := by
  rw [sem_run df_p_are_notes rfl]
  cases d with
  | tup ds =>
    have hl := hl ds rfl
    have hs : ∀ (e : Option W), foldR (compT (Fs TB n) (.n 1) .nil (.isi (.var 1) [.str]) [e, none]) ds [] m = .ok (ds.map fun t => .v (.bl (isStr t))) m := fun e =>
      comp_map (fun t => .v (.bl (isStr t))) ds fun d _ => ⟨_, rfl, by simp⟩
    simp [d_p_are_notes, hs, hl, notesB]
    cases q : ds.all isStr with
    | false => simp
    | true =>
      obtain ⟨h1, h2⟩ := plains_strs ds q
      obtain ⟨h3, h4⟩ := dNOTES_plain
      simp [g_NOTES, inD, plain, dep, h1, h2, h3, h4]
  | _ => simp [d_p_are_notes, notesB, isTupD]
theorem notesB_ok {notes : List Str} (h : allNotes.contains notes = true) : notesB (.tup (notes.map .str)) = true ∧ notes.length ≤ 2 := by
  have : notes ∈ allNotes := by simpa using h
  simp only [allNotes, List.mem_cons, List.mem_nil_iff, or_false] at this
  rcases this with rfl | rfl | rfl | rfl <;> simp [notesB, dNOTES, allNotes, eqB, eqBs]
/-- a rule, made -/
def ruleD (n r : D) : D := .obj 1 [n, r]
theorem Rule_init (n : Nat) {notes : List Str} {rows : List D} {m : Store} {k : Nat} (hk : m.length = k) (hc : Cl m) (hn : allNotes.contains notes = true) (hl : rows.length ≤ 8) (hr : rows.all (rowB (hasB notes "base") (hasB notes "mine")) = true) :
    sem TB (n + 4) 5 [.t k, .v (.tup (notes.map .str)), .v (.tup rows)] (m ++ [.obj 1 []]) = .ok (.v .non) (m ++ [.obj 1 [.v (.tup (notes.map .str)), .v (.tup rows)]]) := by
  rw [sem_run df_p_Rule_init rfl]
  obtain ⟨n1, n2⟩ := notesB_ok hn
  have an := are_notes (n + 2) (.tup (notes.map .str)) (fun ds e => by cases e; simp; omega) (m ++ [.obj 1 []])
  rw [n1] at an
  apply eq_of_sat
  simp [d_p_Rule_init, an, gl_MOST_ROWS, show ¬ (8 < (rows.length : Int)) by omega]
  refine loop_sat (fun pre env m' => m' = m ++ [.obj 1 []] ∧ ∃ a b, env = [some (.t k), some (.v (.tup (notes.map .str))), some (.v (.tup rows)), a, b]) _ [] _ _ ⟨rfl, _, _, rfl⟩ ?_ ?_
  · rintro p d post env m' hp ⟨rfl, a, b, rfl⟩
    have hd : d ∈ (List.zipIdx rows).map fun p => D.tup [.int (p.2 : Nat), p.1] := by
      have e : [] ++ (List.zipIdx rows).map (fun p => D.tup [.int (p.2 : Nat), p.1]) = p ++ d :: post := hp
      rw [List.nil_append] at e
      rw [e]; simp
    obtain ⟨⟨r, i⟩, hm, rfl⟩ := List.mem_map.mp hd
    have hr' := List.all_eq_true.mp hr r (List.fst_mem_of_mem_zipIdx hm)
    refine ⟨_, rfl, ?_⟩
    simp [is_row n, hr']
  · rintro env m' ⟨rfl, a, b, rfl⟩
    simp [tok_fset hk]
    rw [trunc_tok hc (by simp [lowC, lowW])]
    exact ⟨rfl, rfl⟩
/-- Rule(notes, rows) -/
theorem make_Rule (n : Nat) {notes : List Str} {rows : List D} {m : Store} (hc : Cl m) (hn : allNotes.contains notes = true) (hl : rows.length ≤ 8) (hr : rows.all (rowB (hasB notes "base") (hasB notes "mine")) = true) :
    made (Fs TB (n + 4)) false 1 5 [.v (.tup (notes.map .str)), .v (.tup rows)] m = .ok (.v (ruleD (.tup (notes.map .str)) (.tup rows))) m := by
  unfold made
  rw [Fs_fn, Rule_init n rfl hc hn hl hr]
  simp [ruleD]
end Cy.T

set_option Elab.async false
set_option linter.all false
set_option maxRecDepth 100000
set_option maxHeartbeats 2000000
/-! CyText: the texts of rules. -/
namespace Cy.T
open PySem L2 Cy
def Tst.words : Tst → List Str
  | .pair k f g => [k, f, g]
  | .one k f => [k, f]
  | .flag k => [k]
theorem Tst.d_words (t : Tst) : t.d = .tup (t.words.map .str) := by cases t <;> rfl
def vocab : List Str := ["same", "unlike", "there", "gone", "mine", "free", "yes", "no", "own", "above", "base"]
/-- no space, no comma, no line feed; short -/
def okW (w : Str) : Bool := !(w.cps.toList.contains 32) && !(w.cps.toList.contains 44) && !(w.cps.toList.contains 10) && decide (w.length ≤ 6) && decide (0 < w.length)
theorem vocab_ok : ∀ w ∈ vocab, okW w = true := List.all_eq_true.mp (by decide +kernel)
theorem acts_ok : ∀ w ∈ acts, okW w = true := List.all_eq_true.mp (by decide +kernel)
theorem spots_vocab (b : Bool) (f : Str) (h : (spots b).contains f = true) : f ∈ vocab := by
  have : f ∈ spots b := by simpa using h
  cases b <;> simp only [spots, cond_true, cond_false, List.mem_cons, List.mem_nil_iff, or_false] at this
  · rcases this with rfl | rfl <;> simp [vocab]
  · rcases this with rfl | rfl | rfl <;> simp [vocab]
theorem Tst.vocab {t : Tst} {b mi : Bool} (h : t.okB b mi = true) : ∀ w ∈ t.words, w ∈ vocab := by
  cases t with
  | pair k f g =>
    simp only [Tst.okB, Bool.and_eq_true, Bool.or_eq_true, beq_iff_eq] at h
    obtain ⟨⟨h1, h2⟩, h3⟩ := h
    intro w hw
    simp only [Tst.words, List.mem_cons, List.mem_nil_iff, or_false] at hw
    rcases hw with rfl | rfl | rfl
    · rcases h1 with rfl | rfl <;> simp [T.vocab]
    · exact spots_vocab _ _ h2
    · exact spots_vocab _ _ h3
  | one k f =>
    simp only [Tst.okB, Bool.and_eq_true, Bool.or_eq_true, beq_iff_eq] at h
    obtain ⟨h1, h2⟩ := h
    intro w hw
    simp only [Tst.words, List.mem_cons, List.mem_nil_iff, or_false] at hw
    rcases hw with rfl | rfl
    · rcases h1 with rfl | rfl <;> simp [T.vocab]
    · exact spots_vocab _ _ h2
  | flag k =>
    simp only [Tst.okB, Bool.and_eq_true, Bool.or_eq_true, beq_iff_eq] at h
    intro w hw
    simp only [Tst.words, List.mem_cons, List.mem_nil_iff, or_false] at hw
    subst hw
    rcases h with (rfl | rfl) | ⟨_, rfl | rfl⟩ <;> simp [T.vocab]
open TL (tl)
theorem okW_of {w : Str} (h : okW w = true) : 32 ∉ tl w ∧ 44 ∉ tl w ∧ 10 ∉ tl w ∧ w.length ≤ 6 ∧ 0 < w.length := by
  simp only [okW, Bool.and_eq_true, Bool.not_eq_true', decide_eq_true_eq] at h
  obtain ⟨⟨⟨⟨h1, h2⟩, h3⟩, h4⟩, h5⟩ := h
  refine ⟨fun q => ?_, fun q => ?_, fun q => ?_, h4, h5⟩
  · have : (w.cps.toList.contains 32) = true := by simpa using q
    rw [h1] at this; cases this
  · have : (w.cps.toList.contains 44) = true := by simpa using q
    rw [h2] at this; cases this
  · have : (w.cps.toList.contains 10) = true := by simpa using q
    rw [h3] at this; cases this
theorem mem_join {c : Nat} {sep : Str} : ∀ {parts : List Str}, c ∈ tl (Str.join sep parts) → c ∈ tl sep ∨ ∃ p ∈ parts, c ∈ tl p
  | [], h => by simp [Str.join, TL.tl, Str.empty] at h
  | [p], h => .inr ⟨p, by simp, h⟩
  | p :: q :: r, h => by
    have h : c ∈ tl (p ++ sep ++ Str.join sep (q :: r)) := h
    rw [TL.tl_append, TL.tl_append, List.mem_append, List.mem_append] at h
    rcases h with (h | h) | h
    · exact .inr ⟨p, by simp, h⟩
    · exact .inl h
    · rcases mem_join h with h | ⟨z, hz, h⟩
      · exact .inl h
      · exact .inr ⟨z, List.mem_cons_of_mem _ hz, h⟩
def testText (t : Tst) : Str := Str.join " " t.words
def rowText (r : Rw) : Str := match r.tests with
  | [] => r.act
  | ts => r.act ++ " if " ++ Str.join ", " (ts.map testText)
def headText (notes : List Str) : Str := Str.join " " ("notes" :: notes)
def okLines (p : Pr) : List Str := headText p.notes :: p.rows.map rowText
theorem sumLen {α : Type} (f : α → Nat) {k : Nat} : ∀ {l : List α}, (∀ x ∈ l, f x ≤ k) → (l.map f).sum ≤ l.length * k
  | [], _ => by simp
  | x :: l, h => by
    have h1 := h x (by simp)
    have h2 := sumLen f (l := l) fun y hy => h y (List.mem_cons_of_mem _ hy)
    simp only [List.map_cons, List.sum_cons, List.length_cons, Nat.add_mul, Nat.one_mul]
    omega
theorem join_len {sep : Str} {parts : List Str} {k : Nat} (h : ∀ p ∈ parts, p.length ≤ k) : (Str.join sep parts).length ≤ parts.length * (k + sep.length) := by
  refine Nat.le_trans (StrLaws.join_length_le sep parts) ?_
  have := sumLen (fun p : Str => p.length) h
  rw [Nat.mul_add]
  omega
structure TextOk (s : Str) (k : Nat) : Prop where
  nl : 10 ∉ tl s
  len : s.length ≤ k
theorem sp_tl : tl (" " : Str) = [32] := by decide +kernel
theorem cm_tl : tl (", " : Str) = [44, 32] := by decide +kernel
theorem nl_tl : tl ("\n" : Str) = [10] := by decide +kernel
theorem if_tl : tl (" if " : Str) = [32, 105, 102, 32] := by decide +kernel
theorem words_len (t : Tst) : t.words.length ≤ 3 ∧ 0 < t.words.length := by cases t <;> simp [Tst.words]
theorem testText_ok {t : Tst} {b mi : Bool} (h : t.okB b mi = true) : 44 ∉ tl (testText t) ∧ TextOk (testText t) 21 ∧ 0 < (testText t).length := by
  have hw := fun w hw => okW_of (vocab_ok w (Tst.vocab h w hw))
  refine ⟨fun q => ?_, ⟨fun q => ?_, ?_⟩, ?_⟩
  · rcases mem_join q with q | ⟨w, h1, q⟩
    · rw [sp_tl] at q; simp at q
    · exact (hw w h1).2.1 q
  · rcases mem_join q with q | ⟨w, h1, q⟩
    · rw [sp_tl] at q; simp at q
    · exact (hw w h1).2.2.1 q
  · have h1 := join_len (sep := " ") (parts := t.words) (k := 6) fun w h1 => (hw w h1).2.2.2.1
    have h2 := words_len t
    have h3 : (" " : Str).length = 1 := by decide +kernel
    rw [h3] at h1
    have : t.words.length * (6 + 1) ≤ 3 * 7 := Nat.mul_le_mul_right 7 h2.1
    exact Nat.le_trans h1 (by omega)
  · have pre : ∀ (w : Str) (ws : List Str), w.length ≤ (Str.join " " (w :: ws)).length := fun w ws => by
      cases ws with
      | nil => exact Nat.le_refl _
      | cons u us =>
        show _ ≤ (w ++ " " ++ Str.join " " (u :: us)).length
        rw [Str.length_append, Str.length_append]; omega
    have h2 := (words_len t).2
    unfold testText
    cases q : t.words with
    | nil => rw [q] at h2; simp at h2
    | cons w ws =>
      have := (hw w (by rw [q]; simp)).2.2.2.2
      exact Nat.lt_of_lt_of_le this (pre w ws)
theorem Rw.ok_of {r : Rw} {b mi : Bool} (h : r.okB b mi = true) : (∀ t ∈ r.tests, t.okB b mi = true) ∧ r.tests.length ≤ 4 ∧ r.act ∈ acts := by
  simp only [Rw.okB, Bool.and_eq_true, decide_eq_true_eq, List.all_eq_true] at h
  exact ⟨h.1.1, h.1.2, by simpa using h.2⟩
theorem rowText_ok {r : Rw} {b mi : Bool} (h : r.okB b mi = true) : TextOk (rowText r) 1000 := by
  obtain ⟨h1, h2, h3⟩ := Rw.ok_of h
  obtain ⟨a1, a2, a3, a4, a5⟩ := okW_of (acts_ok _ h3)
  unfold rowText
  cases q : r.tests with
  | nil => exact ⟨a3, by show r.act.length ≤ _; omega⟩
  | cons t ts =>
    rw [q] at h1 h2
    have ht := fun t' h' => testText_ok (h1 t' h')
    refine ⟨fun z => ?_, ?_⟩
    · have z : 10 ∈ tl (r.act ++ " if " ++ Str.join ", " ((t :: ts).map testText)) := z
      rw [TL.tl_append, TL.tl_append, List.mem_append, List.mem_append] at z
      rcases z with (z | z) | z
      · exact a3 z
      · rw [if_tl] at z; simp at z
      · rcases mem_join z with z | ⟨w, hw, z⟩
        · rw [cm_tl] at z; simp at z
        · obtain ⟨t', h', rfl⟩ := List.mem_map.mp hw
          exact (ht t' h').2.1.nl z
    · show (r.act ++ " if " ++ Str.join ", " ((t :: ts).map testText)).length ≤ 1000
      rw [Str.length_append, Str.length_append]
      have e1 : (" if " : Str).length = 4 := by decide +kernel
      have e2 : (", " : Str).length = 2 := by decide +kernel
      have := join_len (sep := ", ") (parts := (t :: ts).map testText) (k := 21) fun w hw => by
        obtain ⟨t', h', rfl⟩ := List.mem_map.mp hw
        exact (ht t' h').2.1.len
      rw [e2, List.length_map] at this
      rw [e1]
      have h4 : (t :: ts).length * (21 + 2) ≤ 4 * 23 := Nat.mul_le_mul_right 23 h2
      omega
end Cy.T

set_option Elab.async false
set_option linter.all false
set_option maxRecDepth 100000
set_option maxHeartbeats 2000000
/-! CyText2: write, lines. -/
namespace Cy.T
open PySem L2 Cy
open TL (tl)
theorem mfD_joinL {sep : Str} {xs : List Str} {k : Nat} (h : ∀ x ∈ xs, x.length ≤ k) (hl : xs.length * (k + sep.length) ≤ 10000000) : mfD .join (.str sep) [.lst (xs.map .str)] = some (.str (Str.join sep xs)) := by
  simp only [mfD, seqD_lst, strsOf_m, Option.bind]
  have := sumLen (fun p : Str => p.length) h
  rw [Nat.mul_add] at hl
  rw [if_pos (by show _ ≤ 10000000; omega), TL.join_eq]
theorem mfD_joinT {sep : Str} {xs : List Str} {k : Nat} (h : ∀ x ∈ xs, x.length ≤ k) (hl : xs.length * (k + sep.length) ≤ 10000000) : mfD .join (.str sep) [.tup (xs.map .str)] = some (.str (Str.join sep xs)) := by
  have := mfD_joinL h hl
  simp only [mfD, seqD_lst] at this
  simpa only [mfD, seqD_tup] using this
theorem sp_len : (" " : Str).length = 1 := by decide +kernel
theorem cm_len : (", " : Str).length = 2 := by decide +kernel
theorem if_len : (" if " : Str).length = 4 := by decide +kernel
theorem nl_len : ("\n" : Str).length = 1 := by decide +kernel
theorem em_len : ("" : Str).length = 0 := by decide +kernel
theorem em_eq : ("" : Str) = Str.empty := by decide +kernel
/-- " ".join(test) -/
theorem join_test {t : Tst} {b mi : Bool} (h : t.okB b mi = true) : mfD .join (.str " ") [t.d] = some (.str (testText t)) := by
  rw [Tst.d_words]
  refine mfD_joinT (k := 6) (fun w hw => (okW_of (vocab_ok w (Tst.vocab h w hw))).2.2.2.1) ?_
  rw [sp_len]
  have := (words_len t).1
  omega
theorem join_tests {ts : List Tst} {b mi : Bool} (h : ∀ t ∈ ts, t.okB b mi = true) (hl : ts.length ≤ 4) : mfD .join (.str ", ") [.lst ((ts.map testText).map .str)] = some (.str (Str.join ", " (ts.map testText))) := by
  refine mfD_joinL (k := 21) (fun w hw => ?_) ?_
  · obtain ⟨t, ht, rfl⟩ := List.mem_map.mp hw
    exact (testText_ok (h t ht)).2.1.len
  · rw [cm_len, List.length_map]
    omega
theorem recv_t (t : Tst) (m : Store) : True := trivial
theorem tests_run {F : Fns} {g : Nat} {env : Env} {m : Store} {ts : List Tst} {b mi : Bool} (h : ∀ t ∈ ts, t.okB b mi = true)
    (he : ∀ d, ∃ env', asgG (.n g) (.v d) (clrG (.n g) env) = some env' ∧ getS g env' = some (.v d)) :
    foldR (compT F (.n g) .nil (.sm .join (.c (.str " ")) (.cons (.var g) .nil)) env) (ts.map Tst.d) [] m = .ok (((ts.map testText).map D.str).map .v) m := by
  rw [comp_map (fun d => match mfD .join (.str " ") [d] with | some x => .v x | none => .v .non)]
  · congr 1
    rw [List.map_map, List.map_map, List.map_map]
    refine List.map_congr_left fun t ht => ?_
    simp [join_test (h t ht)]
  · intro d hd
    obtain ⟨t, ht, rfl⟩ := List.mem_map.mp hd
    obtain ⟨env', e1, e2⟩ := he t.d
    refine ⟨env', e1, ?_⟩
    simp [e2, join_test (h t ht)]
theorem eqO_tup_nil (xs : List D) (h : plains xs = true) (h2 : deps xs ≤ 59) : eqO (.tup xs) (.tup []) = some xs.isEmpty := by
  cases xs with
  | nil => simp [eqO, plain, plains, dep, deps, eqB, eqBs]
  | cons x xs =>
    simp only [plains] at h
    simp only [deps] at h2
    simp [eqO, plain, plains, dep, deps, eqB, eqBs]
    simp only [Bool.and_eq_true] at h
    exact ⟨h.1, h.2, by omega⟩
theorem Tst.plain (t : Tst) : Cy.plain t.d = true ∧ Cy.dep t.d = 1 := by cases t <;> simp [Tst.d, Cy.plain, plains, Cy.dep, deps]
theorem tsts_plain : ∀ ts : List Tst, plains (ts.map Tst.d) = true ∧ deps (ts.map Tst.d) ≤ 1
  | [] => ⟨rfl, Nat.zero_le _⟩
  | t :: ts => by
    obtain ⟨h1, h2⟩ := tsts_plain ts
    obtain ⟨h3, h4⟩ := t.plain
    simp [plains, deps, h1, h3, h4]
    omega
theorem row_text (n : Nat) {r : Rw} {b mi : Bool} (h : r.okB b mi = true) (m : Store) : sem TB (n + 1) 173 [.v r.d] m = .ok (.v (.str (rowText r))) m := by
  obtain ⟨h1, h2, h3⟩ := Rw.ok_of h
  have ha := (okW_of (acts_ok _ h3)).2.2.2.1
  rw [sem_run df_p_row_text rfl]
  obtain ⟨p1, p2⟩ := tsts_plain r.tests
  by_cases q : r.tests = []
  · simp [d_p_row_text, Rw.d, rowText, q, eqO_tup_nil [] rfl (Nat.zero_le _)]
  · have q1 : (r.tests.map Tst.d).isEmpty = false := by cases e : r.tests <;> simp_all
    have hjl := join_len (sep := ", ") (parts := r.tests.map testText) (k := 21) fun w hw => by
        obtain ⟨t', h', rfl⟩ := List.mem_map.mp hw
        exact (testText_ok (h1 t' h')).2.1.len
    rw [cm_len, List.length_map] at hjl
    have tr := fun e => tests_run (F := Fs TB n) (g := 3) (env := [some (.v (.tup [.tup (r.tests.map Tst.d), .str r.act])), some (.v (.tup (r.tests.map Tst.d))), some (.v (.str r.act)), e]) (m := m) h1 fun d => ⟨_, rfl, rfl⟩
    have rt : rowText r = r.act ++ " if " ++ Str.join ", " (r.tests.map testText) := by
      unfold rowText
      split
      · exact absurd (by assumption) q
      · rfl
    simp [d_p_row_text, Rw.d, eqO_tup_nil _ p1 (by omega), q1, tr, if_len, show r.act.length + 4 ≤ 10000000 by omega, show r.tests.length ≤ 10000000 by omega]
    rw [← List.map_map, join_tests h1 h2]
    simp [Str.length_append, if_len]
    rw [if_pos (show r.act.length + 4 + (Str.join ", " (r.tests.map testText)).length ≤ 10000000 by omega)]
    simp [rt]
end Cy.T

set_option Elab.async false
set_option linter.all false
set_option maxRecDepth 100000
set_option maxHeartbeats 2000000
/-! CyText3: write, lines. -/
namespace Cy.T
open PySem L2 Cy
open TL (tl)
theorem Rule_notes (n : Nat) (a b : D) (m : Store) : sem TB (n + 1) 6 [.v (ruleD a b)] m = .ok (.v a) m := by
  rw [sem_run df_p_Rule_notes rfl]
  simp [d_p_Rule_notes, ruleD]
theorem Rule_rows (n : Nat) (a b : D) (m : Store) : sem TB (n + 1) 7 [.v (ruleD a b)] m = .ok (.v b) m := by
  rw [sem_run df_p_Rule_rows rfl]
  simp [d_p_Rule_rows, ruleD]
theorem isCls_rule (a b : D) (m : Store) : isCls 1 m (.v (ruleD a b)) = true := isCls_v 1 [a, b]
theorem Pr.ok_of {p : Pr} (h : p.okB = true) : p.notes ∈ allNotes ∧ ∀ r ∈ p.rows, r.okB (hasB p.notes "base") (hasB p.notes "mine") = true := by
  simp only [Pr.okB, Bool.and_eq_true, List.all_eq_true] at h
  exact ⟨by simpa using h.1, h.2⟩
theorem notes_ok {notes : List Str} (h : notes ∈ allNotes) : (∀ w ∈ ("notes" :: notes : List Str), okW w = true) ∧ notes.length ≤ 2 := by
  simp only [allNotes, List.mem_cons, List.mem_nil_iff, or_false] at h
  rcases h with rfl | rfl | rfl | rfl
  · exact ⟨List.all_eq_true.mp (by decide +kernel), by simp⟩
  · exact ⟨List.all_eq_true.mp (by decide +kernel), by simp⟩
  · exact ⟨List.all_eq_true.mp (by decide +kernel), by simp⟩
  · exact ⟨List.all_eq_true.mp (by decide +kernel), by simp⟩
theorem join_head {notes : List Str} (h : notes ∈ allNotes) : mfD .join (.str " ") [.lst (.str "notes" :: notes.map .str)] = some (.str (headText notes)) := by
  obtain ⟨h1, h2⟩ := notes_ok h
  refine mfD_joinL (xs := "notes" :: notes) (k := 6) (fun w hw => (okW_of (h1 w hw)).2.2.2.1) ?_
  rw [sp_len, List.length_cons]
  omega
theorem headText_ok {notes : List Str} (h : notes ∈ allNotes) : TextOk (headText notes) 1000 := by
  obtain ⟨h1, h2⟩ := notes_ok h
  refine ⟨fun q => ?_, ?_⟩
  · rcases mem_join q with q | ⟨w, hw, q⟩
    · rw [sp_tl] at q; simp at q
    · exact (okW_of (h1 w hw)).2.2.1 q
  · have := join_len (sep := " ") (parts := "notes" :: notes) (k := 6) fun w hw => (okW_of (h1 w hw)).2.2.2.1
    rw [sp_len, List.length_cons] at this
    have : (headText notes).length ≤ (notes.length + 1) * 7 := this
    omega
theorem okLines_ok {p : Pr} (h : p.okB = true) : ∀ l ∈ okLines p, TextOk l 1000 := by
  obtain ⟨h1, h2⟩ := p.ok_of h
  intro l hl
  rcases List.mem_cons.mp hl with rfl | hl
  · exact headText_ok h1
  · obtain ⟨r, hr, rfl⟩ := List.mem_map.mp hl
    exact rowText_ok (h2 r hr)
def nlS (x : Str) : Str := x ++ "\n"
/-- the whole text -/
def wText (p : Pr) : Str := Str.join "" ((okLines p).map nlS)
theorem write (n : Nat) {p : Pr} (h : p.okB = true) (hl : p.rows.length ≤ 8) (m : Store) : sem TB (n + 2) 174 [.v (ruleD p.nD p.rD)] m = .ok (.v (.str (wText p))) m := by
  obtain ⟨h1, h2⟩ := p.ok_of h
  rw [sem_run df_p_write rfl]
  obtain ⟨k1, k2⟩ := notes_ok h1
  have rows : ∀ e1 e2 e3 : Option W, foldR (compT (Fs TB (n + 1)) (.n 2) .nil (.call 173 (.cons (.var 2) .nil)) [e1, e2, none, e3]) (p.rows.map Rw.d) [] m = .ok (((p.rows.map rowText).map D.str).map .v) m := fun e1 e2 e3 => by
    refine (comp_map (fun d => match sem TB (n + 1) 173 [.v d] m with | .ok w _ => w | _ => .v .non) _ fun d hd => ?_).trans ?_
    · obtain ⟨r, hr, rfl⟩ := List.mem_map.mp hd
      refine ⟨_, rfl, ?_⟩
      simp [row_text n (h2 r hr)]
    · congr 1
      rw [List.map_map, List.map_map, List.map_map]
      refine List.map_congr_left fun r hr => ?_
      simp [row_text n (h2 r hr)]
  have lines : ∀ e1 e2 e3 : Option W, foldR (compT (Fs TB (n + 1)) (.n 3) .nil (.bin .add (.var 3) (.c (.str "\n"))) [e1, e2, e3, none]) ((okLines p).map .str) [] m = .ok ((((okLines p).map nlS).map D.str).map .v) m := fun e1 e2 e3 => by
    refine (comp_map (fun d => match d with | .str x => .v (.str (x ++ "\n")) | _ => .v .non) _ fun d hd => ?_).trans ?_
    · obtain ⟨l, hl, rfl⟩ := List.mem_map.mp hd
      refine ⟨_, rfl, ?_⟩
      have := (okLines_ok h l hl).len
      simp [addD_str, nl_len, show l.length + 1 ≤ 10000000 by omega]
    · congr 1
      rw [List.map_map, List.map_map, List.map_map]
      rfl
  have jl : mfD .join (.str "") [.lst (((okLines p).map nlS).map D.str)] = some (.str (wText p)) := by
    refine mfD_joinL (k := 1001) (fun w hw => ?_) ?_
    · obtain ⟨l, hl, rfl⟩ := List.mem_map.mp hw
      have := (okLines_ok h l hl).len
      unfold nlS; rw [Str.length_append, nl_len]; omega
    · rw [em_len]; simp [okLines]; omega
  simp [d_p_write, isCls_rule, Rule_notes n, Rule_rows n, Pr.nD, Pr.rD, show p.notes.length ≤ 9999999 by omega, join_head h1, rows, show p.rows.length ≤ 10000000 by omega]
  have e : D.str (headText p.notes) :: List.map (D.str ∘ rowText) p.rows = (okLines p).map .str := by simp [okLines]
  rw [if_pos (by omega), e]
  rw [List.map_map] at jl
  have ll : (okLines p).length ≤ 10000000 := by simp [okLines]; omega
  simp [lines, ll, jl]
theorem join_nl : ∀ {ls : List Str}, ls ≠ [] → Str.join "" (ls.map nlS) = Str.join "\n" (ls ++ ([""] : List Str))
  | [], h => absurd rfl h
  | [x], _ => by
    show x ++ "\n" = x ++ "\n" ++ Str.join "\n" [""]
    show _ = x ++ "\n" ++ ("" : Str)
    rw [em_eq, Str.append_empty]
  | x :: y :: r, _ => by
    show nlS x ++ "" ++ Str.join "" ((y :: r).map nlS) = x ++ "\n" ++ Str.join "\n" ((y :: r) ++ ([""] : List Str))
    rw [join_nl (by simp), em_eq, Str.append_empty]
    rfl
theorem split_text {p : Pr} (h : p.okB = true) : Txt.split (wText p) "\n" = okLines p ++ ([""] : List Str) := by
  unfold wText
  rw [join_nl (by simp [okLines]), ← TL.join_eq]
  refine TL.split_join (s := 10) (S := []) nl_tl (by decide +kernel) (by simp) fun l hl => ?_
  rcases List.mem_append.mp hl with hl | hl
  · exact (okLines_ok h l hl).nl
  · rw [List.mem_singleton.mp hl]; decide +kernel
theorem wText_len {p : Pr} (h : p.okB = true) (hl : p.rows.length ≤ 8) : (wText p).length ≤ 10000 := by
  unfold wText
  have := join_len (sep := "") (parts := (okLines p).map nlS) (k := 1001) fun w hw => by
    obtain ⟨l, hl, rfl⟩ := List.mem_map.mp hw
    have := (okLines_ok h l hl).len
    unfold nlS; rw [Str.length_append, nl_len]; omega
  rw [em_len, List.length_map] at this
  have e : (okLines p).length = p.rows.length + 1 := by simp [okLines]
  omega
theorem join_pos {sep w : Str} {ws : List Str} (h : 0 < w.length) : 0 < (Str.join sep (w :: ws)).length := by
  cases ws with
  | nil => exact h
  | cons u us =>
    show 0 < (w ++ sep ++ Str.join sep (u :: us)).length
    rw [Str.length_append, Str.length_append]; omega
theorem rest_eq {r : Rw} {b mi : Bool} (h : r.okB b mi = true) : (Str.join ", " (r.tests.map testText) == ("" : Str)) = r.tests.isEmpty ∧ rowText r = r.act ++ (bif r.tests.isEmpty then ("" : Str) else (" if " : Str) ++ Str.join ", " (r.tests.map testText)) ∧ (Str.join ", " (r.tests.map testText)).length ≤ 92 := by
  obtain ⟨h1, h2, h3⟩ := Rw.ok_of h
  have hjl := join_len (sep := ", ") (parts := r.tests.map testText) (k := 21) fun w hw => by
      obtain ⟨t', h', rfl⟩ := List.mem_map.mp hw
      exact (testText_ok (h1 t' h')).2.1.len
  rw [cm_len, List.length_map] at hjl
  refine ⟨?_, ?_, by omega⟩
  · cases q : r.tests with
    | nil => simp [Str.join, em_eq]
    | cons t ts =>
      have := join_pos (sep := ", ") (ws := ts.map testText) (testText_ok (h1 t (by rw [q]; simp))).2.2
      show (Str.join ", " (testText t :: ts.map testText) == ("" : Str)) = false
      rw [beq_eq_false_iff_ne]
      intro e
      rw [e, em_len] at this
      omega
  · unfold rowText
    split
    · rename_i e
      rw [e]
      show r.act = r.act ++ (Str.ofString "")
      rw [em_eq, Str.append_empty]
    · rename_i e
      cases q : r.tests with
      | nil => exact absurd q e
      | cons t ts => exact Str.append_assoc _ _ _
theorem Tst.d_inj : ∀ {t u : Tst}, t.d = u.d → t = u
  | .pair _ _ _, .pair _ _ _, h => by simp [Tst.d] at h; simp [h]
  | .one _ _, .one _ _, h => by simp [Tst.d] at h; simp [h]
  | .flag _, .flag _, h => by simp [Tst.d] at h; simp [h]
  | .pair _ _ _, .one _ _, h => by simp [Tst.d] at h
  | .pair _ _ _, .flag _, h => by simp [Tst.d] at h
  | .one _ _, .pair _ _ _, h => by simp [Tst.d] at h
  | .one _ _, .flag _, h => by simp [Tst.d] at h
  | .flag _, .pair _ _ _, h => by simp [Tst.d] at h
  | .flag _, .one _ _, h => by simp [Tst.d] at h
theorem Rw.d_inj {t u : Rw} (h : t.d = u.d) : t = u := by
  obtain ⟨t1, t2⟩ := t
  obtain ⟨u1, u2⟩ := u
  simp only [Rw.d, D.tup.injEq, List.cons.injEq, D.str.injEq, and_true] at h
  have := (List.map_inj_right (fun _ _ h => Tst.d_inj h)).mp h.1
  simp [this, h.2]
theorem cond_str (q : Bool) (a b : Str) (m : Store) : (bif q then R.ok (W.v (.str a)) m else R.ok (W.v (.str b)) m) = R.ok (W.v (.str (bif q then a else b))) m := by cases q <;> rfl
/-- the lines, as the law says them -/
theorem lines (n : Nat) {p : Pr} (h : p.okB = true) (hl : p.rows.length ≤ 8) {m : Store} (hc : Cl m) : sem TB (n + 1) 177 [.v p.d] m = .ok (.v (.lst ((okLines p).map .str))) m := by
  obtain ⟨h1, h2⟩ := p.ok_of h
  obtain ⟨k1, k2⟩ := notes_ok h1
  rw [sem_run df_l_lines rfl]
  apply eq_of_sat
  simp [d_l_lines, Pr.d, Pr.nD, Pr.rD, show p.notes.length ≤ 10000000 by omega, show 1 + p.notes.length ≤ 10000000 by omega, join_head h1]
  refine loop_sat (fun pre env m' => ∃ done : List Rw, pre = done.map Rw.d ∧ (∃ ds : List D, ds = D.str (headText p.notes) :: (done.map rowText).map .str ∧ m' = m ++ [.lst (ds.map .v)]) ∧ ∃ a b c d, env = [some (W.v (D.tup [D.tup (List.map D.str p.notes), D.tup (List.map Rw.d p.rows)])), some (W.t m.length), a, b, c, d])
    _ [] _ _ ⟨[], rfl, ⟨_, rfl, rfl⟩, _, _, _, _, rfl⟩ ?_ ?_
  · rintro q d post env m' hp ⟨done, rfl, ⟨ds, hds, rfl⟩, x1, x2, x3, x4, rfl⟩
    have hd : d ∈ p.rows.map Rw.d := by
      have e : [] ++ p.rows.map Rw.d = done.map Rw.d ++ d :: post := hp
      rw [List.nil_append] at e
      rw [e]; simp
    obtain ⟨r, hr, rfl⟩ := List.mem_map.mp hd
    have hdl : ds.length ≤ 9 := by
      have := congrArg List.length hp
      simp at this
      rw [hds]; simp; omega
    obtain ⟨g1, g2, g3⟩ := Rw.ok_of (h2 r hr)
    have ha := (okW_of (acts_ok _ g3)).2.2.2.1
    obtain ⟨z1, z2, z3⟩ := rest_eq (h2 r hr)
    have jt := join_tests g1 g2
    rw [List.map_map] at jt
    have tr := fun e1 e2 e3 e4 e5 e6 => tests_run (F := Fs TB n) (g := 5) (env := [e1, e2, e3, e4, e5, e6]) (m := m ++ [.lst (ds.map .v)]) g1 fun d => ⟨_, rfl, rfl⟩
    refine ⟨_, rfl, ?_⟩
    simp [tr, show r.tests.length ≤ 10000000 by omega, jt, tok_isLst rfl, z1, if_len, show 4 + (Str.join ", " (r.tests.map testText)).length ≤ 10000000 by omega]
    rw [cond_str, sat_ok]
    have rl : rowText r = r.act ++ (bif r.tests.isEmpty then ("" : Str) else (" if " : Str) ++ Str.join ", " (r.tests.map testText)) := z2
    generalize hX : (bif r.tests.isEmpty then ("" : Str) else (" if " : Str) ++ Str.join ", " (r.tests.map testText)) = X at rl ⊢
    have hXl : X.length ≤ 96 := by
      subst hX
      cases r.tests.isEmpty
      · show ((" if " : Str) ++ _).length ≤ _
        rw [Str.length_append, if_len]; omega
      · show ("" : Str).length ≤ _
        rw [em_len]; omega
    simp [show r.act.length + X.length ≤ 10000000 by omega, tok_append rfl, show ds.length < 10000000 by omega, ← rl]
    refine ⟨done ++ [r], by simp, ?_⟩
    simp [hds]
  · rintro env m' ⟨done, hdone, ⟨ds, hds, rfl⟩, x1, x2, x3, x4, rfl⟩
    simp [tok_frz rfl]
    rw [hds]
    have e : p.rows.map Rw.d = done.map Rw.d := by simpa using hdone
    have e : done = p.rows := (List.map_inj_right (fun _ _ h => Rw.d_inj h)).mp e.symm
    subst e
    simp [okLines]
end Cy.T

set_option Elab.async false
set_option linter.all false
set_option maxRecDepth 100000
set_option maxHeartbeats 2000000
/-! CyText4: read. -/
namespace Cy.T
open PySem L2 Cy
open TL (tl)
theorem testB_of {t : Tst} {b mi : Bool} (h : t.okB b mi = true) : testB b mi t.d = true := by
  cases t with
  | pair k f g =>
    simp only [Tst.okB, Bool.and_eq_true, Bool.or_eq_true, beq_iff_eq] at h
    obtain ⟨⟨h1, h2⟩, h3⟩ := h
    have h2 : f ∈ spots b := by simpa using h2
    have h3 : g ∈ spots b := by simpa using h3
    cases b <;> simp only [spots, cond_true, cond_false, List.mem_cons, List.mem_nil_iff, or_false] at h2 h3 <;> rcases h1 with rfl | rfl <;> (first | (rcases h2 with rfl | rfl | rfl) | (rcases h2 with rfl | rfl)) <;> (first | (rcases h3 with rfl | rfl | rfl) | (rcases h3 with rfl | rfl)) <;> simp [testB, Tst.d, hasB, wSPOTS, wPAIRS]
  | one k f =>
    simp only [Tst.okB, Bool.and_eq_true, Bool.or_eq_true, beq_iff_eq] at h
    obtain ⟨h1, h2⟩ := h
    have h2 : f ∈ spots b := by simpa using h2
    cases b <;> simp only [spots, cond_true, cond_false, List.mem_cons, List.mem_nil_iff, or_false] at h2 <;> rcases h1 with rfl | rfl <;> (first | (rcases h2 with rfl | rfl | rfl) | (rcases h2 with rfl | rfl)) <;> simp [testB, Tst.d, hasB, wSPOTS, wSINGLES]
  | flag k =>
    simp only [Tst.okB, Bool.and_eq_true, Bool.or_eq_true, beq_iff_eq] at h
    rcases h with (rfl | rfl) | ⟨rfl, rfl | rfl⟩ <;> simp [testB, Tst.d, hasB, wANSWERS, wFLAGS]
theorem rowB_of {r : Rw} {b mi : Bool} (h : r.okB b mi = true) : rowB b mi r.d = true := by
  obtain ⟨h1, h2, h3⟩ := Rw.ok_of h
  simp only [Rw.d, rowB, Bool.and_eq_true, decide_eq_true_eq, List.length_map, List.all_map, List.all_eq_true]
  refine ⟨⟨?_, h2⟩, fun t ht => testB_of (h1 t ht)⟩
  unfold hasB wACTS
  rw [List.any_eq_true]
  exact ⟨_, h3, by simp⟩
theorem rows_ok {p : Pr} (h : p.okB = true) : (p.rows.map Rw.d).all (rowB (hasB p.notes "base") (hasB p.notes "mine")) = true := by
  obtain ⟨h1, h2⟩ := p.ok_of h
  rw [List.all_map, List.all_eq_true]
  exact fun r hr => rowB_of (h2 r hr)
theorem make_Pr (n : Nat) {p : Pr} (h : p.okB = true) (hl : p.rows.length ≤ 8) {m : Store} (hc : Cl m) : made (Fs TB (n + 4)) false 1 5 [.v p.nD, .v p.rD] m = .ok (.v (ruleD p.nD p.rD)) m :=
  make_Rule n hc (by simpa using (p.ok_of h).1) (by simpa using hl) (rows_ok h)
theorem built (n : Nat) {p : Pr} (h : p.okB = true) (hl : p.rows.length ≤ 8) {m : Store} (hc : Cl m) : sem TB (n + 5) 17 [.v p.d] m = .ok (.v (ruleD p.nD p.rD)) m := by
  rw [sem_run df_l_built rfl]
  simp [d_l_built, Pr.d, make_Pr n h hl hc]
theorem nl_ne : ("\n" : Str).length = 1 := by decide +kernel
/-- a line read -/
theorem row_of (n : Nat) {r : Rw} {b mi : Bool} (h : r.okB b mi = true) (m : Store) : sem TB (n + 1) 175 [.v (.str (rowText r))] m = .ok (.v r.d) m := by
  obtain ⟨h1, h2, h3⟩ := Rw.ok_of h
  obtain ⟨a1, a2, a3, a4, a5⟩ := okW_of (acts_ok _ h3)
  have hl := (rowText_ok h).len
  rw [sem_run df_p_row_of rfl]
  by_cases q : r.tests = []
  · have rt : rowText r = r.act := by unfold rowText; rw [q]
    have pt : mfD .partition (.str (rowText r)) [.str " if "] = some (.tup [.str r.act, .str Str.empty, .str Str.empty]) := by
      simp only [mfD]
      rw [if_pos ⟨by rw [if_len]; omega, by show _ ≤ 10000000; omega⟩, rt, TL.partition_none if_tl a1]
    simp [d_p_row_of, pt, ← em_eq]
    simp [Rw.d, q]
  · have rt : rowText r = r.act ++ " if " ++ Str.join ", " (r.tests.map testText) := by
      unfold rowText
      split
      · exact absurd (by assumption) q
      · rfl
    have pt : mfD .partition (.str (rowText r)) [.str " if "] = some (.tup [.str r.act, .str " if ", .str (Str.join ", " (r.tests.map testText))]) := by
      simp only [mfD]
      rw [if_pos ⟨by rw [if_len]; omega, by show _ ≤ 10000000; omega⟩, rt, TL.partition_app if_tl a1]
    have sp : mfD .split (.str (Str.join ", " (r.tests.map testText))) [.str ", "] = some (.lst ((r.tests.map testText).map .str)) := by
      have := (rest_eq h).2.2
      simp only [mfD]
      rw [if_pos ⟨by rw [cm_len]; omega, by show _ ≤ 10000000; omega⟩, ← TL.join_eq, TL.split_join cm_tl (by decide +kernel) (by simpa using q)]
      intro w hw
      obtain ⟨t, ht, rfl⟩ := List.mem_map.mp hw
      exact (testText_ok (h1 t ht)).1
    have sp1 : ∀ t ∈ r.tests, mfD .split (.str (testText t)) [.str " "] = some (.lst (t.words.map .str)) := fun t ht => by
      have := (testText_ok (h1 t ht)).2.1.len
      simp only [mfD]
      rw [if_pos ⟨by rw [sp_len]; omega, by show _ ≤ 10000000; omega⟩]
      unfold testText
      rw [← TL.join_eq, TL.split_join sp_tl (by decide +kernel) (by intro e; have := (words_len t).2; rw [e] at this; simp at this)]
      intro w hw
      exact (okW_of (vocab_ok w (Tst.vocab (h1 t ht) w hw))).1
    have tr : ∀ e1 e2 e3 e4 e5, foldR (compT (Fs TB n) (.n 4) .nil (.bi .tuple false (.cons (.sm .split (.var 4) (.cons (.c (.str " ")) .nil)) .nil)) [e1, e2, e3, e4, e5]) ((r.tests.map testText).map .str) [] m = .ok ((r.tests.map Tst.d).map .v) m := fun e1 e2 e3 e4 e5 => by
      refine (comp_map (fun d => match mfD .split d [.str " "] with | some (.lst x) => .v (.tup x) | _ => .v .non) _ fun d hd => ?_).trans ?_
      · rw [List.map_map] at hd
        obtain ⟨t, ht, rfl⟩ := List.mem_map.mp hd
        refine ⟨_, rfl, ?_⟩
        simp [sp1 t ht]
      · congr 1
        rw [List.map_map, List.map_map, List.map_map]
        refine List.map_congr_left fun t ht => ?_
        simp [sp1 t ht, Tst.d_words]
    rw [List.map_map] at sp tr
    simp [d_p_row_of, pt, sp, tr, show r.tests.length ≤ 10000000 by omega]
    simp [Rw.d]
end Cy.T

set_option Elab.async false
set_option linter.all false
set_option maxRecDepth 100000
set_option maxHeartbeats 2000000
/-! CyState: what one field of one copy is. -/
namespace Cy.T
open PySem L2 Cy
abbrev Vl := Option Int
def vd : Vl → D
  | none => .non
  | some i => .int i
@[simp] theorem eqO_vd (a b : Vl) : eqO (vd a) (vd b) = some (a == b) := by
  cases a <;> cases b <;> simp [vd, eqO, plain, dep, eqB]
@[simp] theorem isNon_vd (a : Vl) : isNon (.v (vd a)) = a.isNone := by cases a <;> rfl
theorem vd_inj {a b : Vl} (h : vd a = vd b) : a = b := by cases a <;> cases b <;> simp_all [vd]
@[simp] theorem vd_none : vd none = .non := rfl
theorem vd_some (i : Int) : vd (some i) = .int i := rfl
@[simp] theorem eqO_vd_non (a : Vl) : eqO (vd a) .non = some (a == none) := eqO_vd a none
structure Sta where
  up : Vl
  here : Vl
  before : Vl
  wish : Option Vl
  mine : Bool
def wd : Option Vl → D
  | none => .tup []
  | some v => .tup [vd v]
def Sta.d (s : Sta) : D := .obj 0 [vd s.up, vd s.here, vd s.before, wd s.wish, .bl s.mine]
@[simp] theorem fld_d0 (s : Sta) (m : Store) : fldW 0 0 m (.v s.d) = some (.v (vd s.up)) := rfl
@[simp] theorem fld_d1 (s : Sta) (m : Store) : fldW 0 1 m (.v s.d) = some (.v (vd s.here)) := rfl
@[simp] theorem fld_d2 (s : Sta) (m : Store) : fldW 0 2 m (.v s.d) = some (.v (vd s.before)) := rfl
@[simp] theorem fld_d3 (s : Sta) (m : Store) : fldW 0 3 m (.v s.d) = some (.v (wd s.wish)) := rfl
@[simp] theorem fld_d4 (s : Sta) (m : Store) : fldW 0 4 m (.v s.d) = some (.v (.bl s.mine)) := rfl
@[simp] theorem isCls_d (s : Sta) (m : Store) : isCls 0 m (.v s.d) = true := rfl
theorem mk_State (n : Nat) (a b c w i : D) {m : Store} (hc : Cl m) : made (Fs TB (n + 1)) false 0 25 [.v a, .v b, .v c, .v w, .v i] m = .ok (.v (.obj 0 [a, b, c, w, i])) m := by
  unfold made
  have e : sem TB (n + 1) 25 [.t m.length, .v a, .v b, .v c, .v w, .v i] (m ++ [.obj 0 []]) = .ok (.v .non) (m ++ [.obj 0 [.v a, .v b, .v c, .v w, .v i]]) := by
    rw [sem_run df_p_State_init rfl]
    apply eq_of_sat
    simp [d_p_State_init, tok_fset rfl]
    rw [trunc_tok hc (by simp [lowC, lowW])]
    exact ⟨rfl, rfl⟩
  rw [Fs_fn]
  show (match sem TB (n + 1) 25 [.t m.length, .v a, .v b, .v c, .v w, .v i] (m ++ [.obj 0 []]) with
    | .ok (.v .non) m' => _ | .ok _ _ => _ | .ex c ds m' => _ | .bad => _) = _
  rw [e]
  simp
theorem mk_Sta (n : Nat) (s : Sta) {m : Store} (hc : Cl m) : made (Fs TB (n + 1)) false 0 25 [.v (vd s.up), .v (vd s.here), .v (vd s.before), .v (wd s.wish), .v (.bl s.mine)] m = .ok (.v s.d) m := mk_State n _ _ _ _ _ hc
def Sta.value (s : Sta) (p : Str) : Vl := if p = "own" then s.here else if p = "above" then s.up else s.before
theorem State_value (n : Nat) (s : Sta) (p : Str) (m : Store) : sem TB (n + 1) 26 [.v s.d, .v (.str p)] m = .ok (.v (vd (s.value p))) m := by
  rw [sem_run df_p_State_value rfl]
  by_cases h1 : p = "own"
  · simp [d_p_State_value, Sta.value, h1]
  · by_cases h2 : p = "above"
    · simp [d_p_State_value, Sta.value, h2]
    · have e1 : (p == ("own" : Str)) = false := by simpa using h1
      have e2 : (p == ("above" : Str)) = false := by simpa using h2
      simp [d_p_State_value, Sta.value, h1, h2, e1, e2]
def Sta.so (s : Sta) (ans : Str) : Tst → Bool
  | .pair k f g => (s.value f == s.value g) == (k == "same")
  | .one k f => (s.value f).isNone == (k == "gone")
  | .flag k => if k = "mine" ∨ k = "free" then s.mine == (k == "mine") else k == ans
theorem is_so (n : Nat) (s : Sta) {t : Tst} {b mi : Bool} (h : t.okB b mi = true) (ans : Str) (m : Store) : sem TB (n + 2) 27 [.v s.d, .v t.d, .v (.str ans)] m = .ok (.v (.bl (s.so ans t))) m := by
  rw [sem_run df_p_State_is_so rfl]
  cases t with
  | pair k f g =>
    simp only [Tst.okB, Bool.and_eq_true, Bool.or_eq_true, beq_iff_eq] at h
    obtain ⟨⟨h1, h2⟩, h3⟩ := h
    rcases h1 with rfl | rfl
    · simp [d_p_State_is_so, Tst.d, inD_2, State_value n, Sta.so]
    · simp [d_p_State_is_so, Tst.d, inD_2, State_value n, Sta.so]
  | one k f =>
    simp only [Tst.okB, Bool.and_eq_true, Bool.or_eq_true, beq_iff_eq] at h
    obtain ⟨h1, h2⟩ := h
    rcases h1 with rfl | rfl
    · simp [d_p_State_is_so, Tst.d, inD_2, State_value n, Sta.so]
    · simp [d_p_State_is_so, Tst.d, inD_2, State_value n, Sta.so]
  | flag k =>
    simp only [Tst.okB, Bool.and_eq_true, Bool.or_eq_true, beq_iff_eq] at h
    rcases h with (rfl | rfl) | ⟨rfl, rfl | rfl⟩
    · simp [d_p_State_is_so, Tst.d, inD_2, g_FLAGS, inD_words, hasB, wFLAGS, Sta.so]
    · simp [d_p_State_is_so, Tst.d, inD_2, g_FLAGS, inD_words, hasB, wFLAGS, Sta.so]
    · simp [d_p_State_is_so, Tst.d, inD_2, g_FLAGS, inD_words, hasB, wFLAGS, Sta.so]
    · simp [d_p_State_is_so, Tst.d, inD_2, g_FLAGS, inD_words, hasB, wFLAGS, Sta.so]
end Cy.T

set_option Elab.async false
set_option linter.all false
set_option maxRecDepth 100000
set_option maxHeartbeats 2000000
/-! CyState2: what rows and carryings make of a field. -/
namespace Cy.T
open PySem L2 Cy
/-- the row that is done, from a number on -/
def rowFrom (s : Sta) (ans : Str) : List Rw → Nat → Option Nat
  | [], _ => none
  | r :: rs, i => if r.tests.all (s.so ans) then some i else rowFrom s ans rs (i + 1)
def Sta.rowOf (s : Sta) (p : Pr) (ans : Str) : Option Nat := rowFrom s ans p.rows 0
def rowI : Option Nat → Int
  | none => -1
  | some i => i
theorem rowFrom_at (s : Sta) (ans : Str) : ∀ (rs : List Rw) (i : Nat), (∃ j, rowFrom s ans rs i = some (i + j) ∧ (∃ r, rs[j]? = some r ∧ r.tests.all (s.so ans) = true) ∧ ∀ k r, k < j → rs[k]? = some r → r.tests.all (s.so ans) = false) ∨ (rowFrom s ans rs i = none ∧ ∀ r ∈ rs, r.tests.all (s.so ans) = false)
  | [], i => .inr ⟨rfl, by simp⟩
  | r :: rs, i => by
    unfold rowFrom
    cases q : r.tests.all (s.so ans) with
    | true =>
      refine .inl ⟨0, by simp, ⟨r, rfl, q⟩, fun k r' hk => by omega⟩
    | false =>
      simp only [Bool.false_eq_true, if_false]
      rcases rowFrom_at s ans rs (i + 1) with ⟨j, h1, ⟨r', h2, h3⟩, h4⟩ | ⟨h1, h2⟩
      · refine .inl ⟨j + 1, by rw [h1]; congr 1; omega, ⟨r', by simpa using h2, h3⟩, fun k r'' hk hr => ?_⟩
        cases k with
        | zero => simp at hr; subst hr; exact q
        | succ k => exact h4 k r'' (by omega) (by simpa using hr)
      · refine .inr ⟨h1, fun r' hr => ?_⟩
        rcases List.mem_cons.mp hr with rfl | hr
        · exact q
        · exact h2 r' hr
def ruleOf (p : Pr) : D := ruleD p.nD p.rD
@[simp] theorem fld_r0 (p : Pr) (m : Store) : fldW 1 0 m (.v (ruleOf p)) = some (.v p.nD) := rfl
@[simp] theorem fld_r1 (p : Pr) (m : Store) : fldW 1 1 m (.v (ruleOf p)) = some (.v p.rD) := rfl
@[simp] theorem isCls_r (p : Pr) (m : Store) : isCls 1 m (.v (ruleOf p)) = true := rfl
/-- all tests so, one after another -/
theorem so_run (n : Nat) (s : Sta) {ts : List Tst} {b mi : Bool} (h : ∀ t ∈ ts, t.okB b mi = true) (ans : Str) {m : Store} {g : G} {env : Env} {elt : E}
    (he : ∀ d, ∃ env', asgG g (.v d) (clrG g env) = some env' ∧ ev (Fs TB (n + 2)) elt env' m = sem TB (n + 2) 27 [.v s.d, .v d, .v (.str ans)] m) :
    foldR (compT (Fs TB (n + 2)) g .nil elt env) (ts.map Tst.d) [] m = .ok ((ts.map fun t => D.bl (s.so ans t)).map .v) m := by
  refine (comp_map (fun d => match sem TB (n + 2) 27 [.v s.d, .v d, .v (.str ans)] m with | .ok w _ => w | _ => .v .non) _ fun d hd => ?_).trans ?_
  · obtain ⟨t, ht, rfl⟩ := List.mem_map.mp hd
    obtain ⟨env', e1, e2⟩ := he t.d
    refine ⟨env', e1, ?_⟩
    rw [e2, is_so n s (h t ht)]
  · congr 1
    rw [List.map_map, List.map_map]
    refine List.map_congr_left fun t ht => ?_
    simp [is_so n s (h t ht)]
theorem enum_map {α : Type} (f : α → D) (L : List α) : (List.zipIdx (L.map f)).map (fun p => D.tup [.int (p.2 : Nat), p.1]) = (List.zipIdx L).map fun p => D.tup [.int (p.2 : Nat), f p.1] := by
  rw [List.zipIdx_map, List.map_map]
  rfl
theorem row_for (n : Nat) (s : Sta) {p : Pr} (h : p.okB = true) (ans : Str) (m : Store) : sem TB (n + 3) 28 [.v s.d, .v (ruleOf p), .v (.str ans)] m = .ok (.v (.int (rowI (s.rowOf p ans)))) m := by
  obtain ⟨h1, h2⟩ := p.ok_of h
  rw [sem_run df_p_State_row_for rfl]
  apply eq_of_sat
  have loop : ∀ (rs : List Rw) (i : Nat), (∀ r ∈ rs, r ∈ p.rows) → ∀ a b c d, (loopS (evSL (Fs TB (n + 2)) (.cons (.if_ (.bi .all false (.cons (.comp false (.n 6) (.seq (.var 4)) .nil (.meth 0 27 (.var 0) (.cons (.var 6) (.cons (.var 2) .nil)))) .nil)) (.cons (.ret (.var 3)) .nil) .nil) .nil)) (.tup (.cons (.n 3) (.cons (.tup (.cons (.n 4) (.cons (.n 5) .nil))) .nil)))
      ((List.zipIdx rs i).map fun p => D.tup [.int (p.2 : Nat), p.1.d]) [some (.v s.d), some (.v (ruleOf p)), some (.v (.str ans)), a, b, c, d] m).sat (fun _ m' => m' = m ∧ rowFrom s ans rs i = none) fun w m' => m' = m ∧ ∃ j, rowFrom s ans rs i = some j ∧ w = .v (.int (j : Nat)) := by
    intro rs
    induction rs with
    | nil => intro i _ a b c d; exact ⟨rfl, rfl⟩
    | cons r rs ih =>
      intro i hm a b c d
      obtain ⟨g1, g2, g3⟩ := Rw.ok_of (h2 r (hm r (by simp)))
      have so := so_run n s g1 ans (m := m) (g := .n 6) (elt := .meth 0 27 (.var 0) (.cons (.var 6) (.cons (.var 2) .nil))) (env := [some (.v s.d), some (.v (ruleOf p)), some (.v (.str ans)), some (.v (.int i)), some (.v (.tup (r.tests.map Tst.d))), some (.v (.str r.act)), d]) fun d => ⟨_, rfl, by simp⟩
      rw [List.zipIdx_cons, List.map_cons]
      unfold loopS rowFrom
      rw [show D.tup [.int (i : Nat), r.d] = .tup [.int (i : Nat), .tup [.tup (r.tests.map Tst.d), .str r.act]] from rfl]
      have ih' := ih (i + 1) (fun r' hr' => hm r' (List.mem_cons_of_mem _ hr')) (some (.v (.int i))) (some (.v (.tup (r.tests.map Tst.d)))) (some (.v (.str r.act))) d
      cases q : r.tests.all (s.so ans) with
      | true =>
        simp [so, show r.tests.length ≤ 10000000 by omega, q]
      | false =>
        simp only [Bool.false_eq_true, if_false]
        simp [so, show r.tests.length ≤ 10000000 by omega, q]
        exact ih'
  obtain ⟨np, hlr⟩ : True ∧ True := ⟨trivial, trivial⟩
  simp [d_p_State_row_for]
  rw [show p.rD = .tup (p.rows.map Rw.d) from rfl]
  simp
  rw [enum_map]
  refine (loop p.rows 0 (fun _ h => h) none none none none).mono ?_ ?_
  · rintro env m' ⟨rfl, e⟩
    simp [Sta.rowOf, e, rowI]
  · rintro w m' ⟨rfl, j, e, rfl⟩
    simp [Sta.rowOf, e, rowI]
def Sta.due (s : Sta) (every : Bool) : Vl := bif every then (match s.wish with | none => s.up | some v => v) else if s.here = s.before then s.up else s.here
def wayS (every : Bool) : Str := bif every then "every" else "changed"
theorem due (n : Nat) (s : Sta) (w : Bool) (m : Store) : sem TB (n + 1) 29 [.v s.d, .v (.str (wayS w))] m = .ok (.v (vd (s.due w))) m := by
  rw [sem_run df_p_State_due rfl]
  cases w with
  | true =>
    cases q : s.wish with
    | none => simp [d_p_State_due, wayS, gl_EVERY, Sta.due, q, wd, eqO, eqB, eqBs, plain, plains, dep, deps]
    | some v => cases v <;> simp [d_p_State_due, wayS, gl_EVERY, Sta.due, q, wd, vd, eqO, eqB, eqBs, plain, plains, dep, deps]
  | false =>
    by_cases q : s.here = s.before
    · simp [d_p_State_due, wayS, gl_EVERY, Sta.due, q]
    · have q2 : (s.here == s.before) = false := by simpa using q
      simp [d_p_State_due, wayS, gl_EVERY, Sta.due, q, q2]
/-- is it a wish that a carrying loses? -/
def Sta.wished (s : Sta) (every : Bool) : Bool := bif every then s.wish.isSome else !(s.here == s.before)
def wordS (lost : Bool) : Str := bif lost then "lost" else "missed"
theorem word (n : Nat) (s : Sta) (w : Bool) (m : Store) : sem TB (n + 1) 30 [.v s.d, .v (.str (wayS w))] m = .ok (.v (.str (wordS (s.wished w)))) m := by
  rw [sem_run df_p_State_word rfl]
  cases w with
  | true =>
    cases q : s.wish with
    | none => simp [d_p_State_word, wayS, gl_EVERY, gl_MISSED, gl_LOST, Sta.wished, wordS, q, wd, eqO, eqB, eqBs, plain, plains, dep, deps]
    | some v => cases v <;> simp [d_p_State_word, wayS, gl_EVERY, gl_MISSED, gl_LOST, Sta.wished, wordS, q, wd, vd, eqO, eqB, eqBs, plain, plains, dep, deps]
  | false =>
    cases q : s.here == s.before
    · simp [d_p_State_word, wayS, gl_EVERY, gl_MISSED, gl_LOST, Sta.wished, wordS, q]
    · simp [d_p_State_word, wayS, gl_EVERY, gl_MISSED, gl_LOST, Sta.wished, wordS, q]
def actOf (p : Pr) : Option Nat → Str
  | none => "keep"
  | some i => match p.rows[i]? with
    | some r => r.act
    | none => "keep"
def Sta.done (s : Sta) (act : Str) : Sta :=
  { s with here := if act = "take" then s.up else if act = "drop" then none else s.here, mine := if act = "take" then false else if act = "claim" then true else s.mine, before := s.up }
def Sta.carried (s : Sta) (p : Pr) (ans : Str) : Sta := s.done (actOf p (s.rowOf p ans))
theorem act_ok {p : Pr} (h : p.okB = true) (o : Option Nat) : actOf p o = "take" ∨ actOf p o = "keep" ∨ actOf p o = "drop" ∨ actOf p o = "claim" := by
  obtain ⟨h1, h2⟩ := p.ok_of h
  cases o with
  | none => exact .inr (.inl rfl)
  | some i =>
    simp only [actOf]
    cases q2 : p.rows[i]? with
    | none => exact .inr (.inl rfl)
    | some r =>
      have := (Rw.ok_of (h2 r (List.mem_of_getElem? q2))).2.2
      simpa using this
theorem rowOf_ix {s : Sta} {p : Pr} {ans : Str} {i : Nat} (hi : s.rowOf p ans = some i) : ∃ x, ixD p.rD (.int (i : Nat)) = some (.tup [x, .str (actOf p (some i))]) := by
  have hi' : rowFrom s ans p.rows 0 = some i := hi
  rcases rowFrom_at s ans p.rows 0 with ⟨j, e1, ⟨r, e2, e3⟩, e4⟩ | ⟨e1, _⟩
  · rw [hi'] at e1
    have : i = j := by simpa using e1
    subst this
    rw [show p.rD = .tup (p.rows.map Rw.d) from rfl, ixD_tup, ixN_in (by omega) (by simp; exact (List.getElem?_eq_some_iff.mp e2).1)]
    exact ⟨.tup (r.tests.map Tst.d), by simp [e2, actOf, Rw.d]⟩
  · rw [hi'] at e1; cases e1
theorem carried (n : Nat) (s : Sta) {p : Pr} (h : p.okB = true) (ans : Str) {m : Store} (hc : Cl m) : sem TB (n + 4) 31 [.v s.d, .v (ruleOf p), .v (.str ans)] m = .ok (.v (s.carried p ans).d) m := by
  rw [sem_run df_p_State_carried rfl]
  have row := row_for n s h ans m
  have mk := fun a b c w i => mk_State (n + 2) a b c w i hc
  have ao := act_ok h (s.rowOf p ans)
  unfold Sta.carried
  cases q : s.rowOf p ans with
  | none =>
    rw [q] at row ao
    simp [d_p_State_carried, row, rowI, gl_KEEP, mk]
    simp [Sta.d, Sta.done, actOf]
  | some i =>
    rw [q] at row ao
    obtain ⟨x, st⟩ := rowOf_ix q
    have ni : decide ((i : Int) < 0) = false := by simp
    rcases ao with e | e | e | e <;> rw [e] at st ⊢ <;> simp [d_p_State_carried, row, rowI, ni, st, mk] <;> simp [Sta.d, Sta.done]
theorem edited (n : Nat) (s : Sta) (v : Vl) {m : Store} (hc : Cl m) : sem TB (n + 2) 33 [.v s.d, .v (vd v)] m = .ok (.v (Sta.d ⟨s.up, v, s.before, some v, true⟩)) m := by
  rw [sem_run df_p_State_edited rfl]
  simp [d_p_State_edited, mk_State n _ _ _ _ _ hc, Sta.d, wd]
theorem put_back (n : Nat) (s : Sta) {m : Store} (hc : Cl m) : sem TB (n + 2) 34 [.v s.d] m = .ok (.v (Sta.d ⟨s.up, s.up, s.up, none, false⟩)) m := by
  rw [sem_run df_p_State_put_back rfl]
  simp [d_p_State_put_back, mk_State n _ _ _ _ _ hc, Sta.d, wd]
theorem changed (n : Nat) (s : Sta) (v : Vl) {m : Store} (hc : Cl m) : sem TB (n + 2) 35 [.v s.d, .v (vd v)] m = .ok (.v (Sta.d { s with up := v })) m := by
  rw [sem_run df_p_State_changed rfl]
  simp [d_p_State_changed, mk_State n _ _ _ _ _ hc, Sta.d]
def Sta.first (v : Vl) : Sta := ⟨v, v, v, none, false⟩
theorem first_state (n : Nat) (v : Vl) {m : Store} (hc : Cl m) : sem TB (n + 2) 36 [.v (vd v)] m = .ok (.v (Sta.d (.first v))) m := by
  rw [sem_run df_p_first_state rfl]
  simp [d_p_first_state, mk_State n _ _ _ _ _ hc, Sta.d, wd, Sta.first]
/-- events -/
inductive Ev | change (v : Int) | delete | set (v : Int) | remove | back | carry (a : Str)
def Ev.d : Ev → D
  | .change v => .tup [.str "change", .int v]
  | .delete => .tup [.str "delete"]
  | .set v => .tup [.str "set", .int v]
  | .remove => .tup [.str "remove"]
  | .back => .tup [.str "back"]
  | .carry a => .tup [.str "carry", .str a]
def Ev.okB : Ev → Bool
  | .carry a => a == "yes" || a == "no"
  | _ => true
def Sta.step (s : Sta) (p : Pr) : Ev → Sta
  | .change v => { s with up := some v }
  | .delete => { s with up := none }
  | .set v => ⟨s.up, some v, s.before, some (some v), true⟩
  | .remove => ⟨s.up, none, s.before, some none, true⟩
  | .back => ⟨s.up, s.up, s.up, none, false⟩
  | .carry a => s.carried p a
theorem happened (n : Nat) (s : Sta) {p : Pr} (h : p.okB = true) (e : Ev) {m : Store} (hc : Cl m) : sem TB (n + 5) 37 [.v s.d, .v (ruleOf p), .v e.d] m = .ok (.v (s.step p e).d) m := by
  rw [sem_run df_p_happened rfl]
  have c1 := fun a => carried n s h a hc
  have c2 := fun v => changed (n + 2) s v hc
  have c3 := fun v => edited (n + 2) s v hc
  have c4 := put_back (n + 2) s hc
  cases e with
  | change v => have := c2 (some v); rw [vd_some] at this; simp [d_p_happened, Ev.d, this, inD_2, Sta.step]
  | delete => have := c2 none; rw [vd_none] at this; simp [d_p_happened, Ev.d, this, inD_2, Sta.step]
  | set v => have := c3 (some v); rw [vd_some] at this; simp [d_p_happened, Ev.d, this, inD_2, Sta.step]
  | remove => have := c3 none; rw [vd_none] at this; simp [d_p_happened, Ev.d, this, inD_2, Sta.step]
  | back => simp [d_p_happened, Ev.d, c4, Sta.step]
  | carry a => simp [d_p_happened, Ev.d, c1, Sta.step]
/-- the faults of a carrying -/
def Sta.faults (s : Sta) (later : Sta) : List (Bool × Bool) := ([false, true].filter fun w => !(later.here == s.due w)).map fun w => (w, s.wished w)
def faultD (f : Bool × Bool) : D := .tup [.str (wayS f.1), .str (wordS f.2)]
theorem g_WAYS : TB.glob 13 = .tup ([false, true].map fun w => .str (wayS w)) := rfl
theorem faults_of (n : Nat) (s t : Sta) (m : Store) : sem TB (n + 2) 32 [.v s.d, .v t.d] m = .ok (.v (.lst ((s.faults t).map faultD))) m := by
  rw [sem_run df_p_State_faults_of rfl]
  have d0 := due n s false m
  have d1 := due n s true m
  have w0 := word n s false m
  have w1 := word n s true m
  cases q0 : t.here == s.due false <;> cases q1 : t.here == s.due true <;> simp [d_p_State_faults_of, g_WAYS, foldR_cons, compT, d0, d1, w0, w1, q0, q1, Sta.faults, faultD]
end Cy.T

set_option Elab.async false
set_option linter.all false
set_option maxRecDepth 100000
set_option maxHeartbeats 2000000
/-! CyPlay: a history played. -/
namespace Cy.T
open PySem L2 Cy
theorem is_integer (n : Nat) (d : D) (m : Store) : sem TB (n + 1) 0 [.v d] m = .ok (.v (.bl (isInt d))) m := by
  rw [sem_run df_p_is_integer rfl]
  cases d <;> simp [d_p_is_integer, isInt, isBool]
theorem g_PLAIN : TB.glob 14 = .tup ((["delete", "remove", "back"] : List Str).map .str) := rfl
theorem g_VALUED : TB.glob 15 = .tup ((["change", "set"] : List Str).map .str) := rfl
theorem inD_3 (x y z u : Str) : inD (.str x) (.tup [.str y, .str z, .str u]) = some (y == x || (z == x || u == x)) := by
  simp [inD, plain, plains, dep, deps, eqB]
theorem inL_2 (x y z : Str) : inD (.str x) (.lst [.str y, .str z]) = some (y == x || z == x) := by simp [inD, plain, plains, dep, deps, eqB]
theorem is_event (n : Nat) {e : Ev} (h : e.okB = true) (m : Store) : sem TB (n + 2) 38 [.v e.d] m = .ok (.v (.bl true)) m := by
  rw [sem_run df_p_is_event rfl]
  cases e with
  | change v => simp [d_p_is_event, Ev.d, gl_VALUED, inD_2, is_integer n, isInt]
  | delete => simp [d_p_is_event, Ev.d, gl_PLAIN, inD_3]
  | set v => simp [d_p_is_event, Ev.d, gl_VALUED, inD_2, is_integer n, isInt]
  | remove => simp [d_p_is_event, Ev.d, gl_PLAIN, inD_3]
  | back => simp [d_p_is_event, Ev.d, gl_PLAIN, inD_3]
  | carry a =>
    simp only [Ev.okB, Bool.or_eq_true, beq_iff_eq] at h
    rcases h with rfl | rfl <;> simp [d_p_is_event, Ev.d, g_ANSWERS, is_word n] <;> simp [isWordB, hasB, wANSWERS]
structure Hi where
  start : Vl
  evs : List Ev
def Hi.d (h : Hi) : D := .tup [vd h.start, .tup (h.evs.map Ev.d)]
def Hi.okB (h : Hi) : Bool := h.evs.all Ev.okB && decide (h.evs.length ≤ 10000)
theorem isInt_vd (v : Vl) : isInt (vd v) = v.isSome := by cases v <;> rfl
theorem check_history (n : Nat) {h : Hi} (hh : h.okB = true) (m : Store) : sem TB (n + 3) 39 [.v h.d] m = .ok (.v .non) m := by
  simp only [Hi.okB, Bool.and_eq_true, decide_eq_true_eq] at hh
  obtain ⟨h1, h2⟩ := hh
  rw [sem_run df_p_check_history rfl]
  apply eq_of_sat
  simp [d_p_check_history, Hi.d, is_integer (n + 1), isInt_vd]
  have e : (h.start.isSome && h.start.isNone) = false := by cases h.start <;> rfl
  rw [e]
  simp
  refine loop_sat (fun pre env m' => m' = m ∧ ∃ a b, env = [some (.v (.tup [vd h.start, .tup (h.evs.map Ev.d)])), some (.v (vd h.start)), some (.v (.tup (h.evs.map Ev.d))), a, b]) _ [] _ _ ⟨rfl, _, _, rfl⟩ ?_ ?_
  · rintro q d post env m' hp ⟨rfl, a, b, rfl⟩
    obtain ⟨x, hx, rfl, hlt⟩ := enum_at hp
    rw [List.length_map] at hlt
    rw [List.getElem?_map, List.getElem?_eq_getElem hlt] at hx
    have hx : h.evs[q.length].d = x := by simpa using hx
    subst hx
    have he := List.all_eq_true.mp h1 _ (List.getElem_mem hlt)
    refine ⟨_, rfl, ?_⟩
    simp [is_event n he]
  · rintro env m' ⟨rfl, a, b, rfl⟩
    simp
/-- the rows done and the faults, event by event -/
def played (p : Pr) : Sta → List Ev → Nat → Sta × List (Option Nat) × List (Nat × Bool × Bool)
  | s, [], _ => (s, [], [])
  | s, e :: es, i =>
    let t := s.step p e
    let r := played p t es (i + 1)
    match e with
    | .carry a => (r.1, s.rowOf p a :: r.2.1, (s.faults t).map (fun f => (i, f)) ++ r.2.2)
    | _ => r
def rowsD (rs : List (Option Nat)) : List D := rs.map fun r => .int (rowI r)
def fltD (f : Nat × Bool × Bool) : D := .tup [.int f.1, .str (wayS f.2.1), .str (wordS f.2.2)]
def fltsD (fs : List (Nat × Bool × Bool)) : List D := fs.map fltD
def Hi.play (p : Pr) (h : Hi) : Sta × List (Option Nat) × List (Nat × Bool × Bool) := played p (.first h.start) h.evs 0
def outD (p : Pr) (h : Hi) : D := .obj 2 [(h.play p).1.d, .tup (rowsD (h.play p).2.1), .tup (fltsD (h.play p).2.2), .str (mulS "m" h.evs.length)]
theorem played_len (p : Pr) : ∀ (es : List Ev) (s : Sta) (i : Nat), (played p s es i).2.1.length ≤ es.length ∧ (played p s es i).2.2.length ≤ 2 * es.length
  | [], _, _ => ⟨Nat.le_refl _, Nat.le_refl _⟩
  | e :: es, s, i => by
    have ih := played_len p es (s.step p e) (i + 1)
    have fl : ∀ t, (s.faults t).length ≤ 2 := fun t => by
      unfold Sta.faults
      rw [List.length_map]
      exact Nat.le_trans (List.length_filter_le _ _) (by simp)
    cases e with
    | carry a =>
      have := fl (s.step p (.carry a))
      simp only [played, List.length_cons, List.length_append, List.length_map]
      omega
    | _ =>
      simp only [played, List.length_cons]
      omega
/-- two lists of the block's own at the store's end -/
def two (m : Store) (a b : List D) : Store := (m ++ [.lst (a.map .v)]) ++ [.lst (b.map .v)]
theorem two_cl {m : Store} (hc : Cl m) (a b : List D) : Cl (two m a b) := (hc.vals a).vals b
theorem two_isLst0 (m : Store) (a b : List D) : isLst (two m a b) (.t m.length) = true := by
  unfold isLst two
  have : ((m ++ [C.lst (a.map .v)]) ++ [C.lst (b.map .v)])[m.length]? = some (C.lst (a.map .v)) := by
    rw [List.getElem?_append_left (by simp)]; simp
  simp only [this]
theorem two_isLst1 (m : Store) (a b : List D) : isLst (two m a b) (.t (m.length + 1)) = true := by
  unfold two
  exact tok_isLst (by simp) _
theorem two_app0 (m : Store) (a b : List D) (d : D) (h : a.length < 10000000) : mutW (two m a b) .append (.t m.length) [.v d] = some (two m (a ++ [d]) b) := by
  have : ((m ++ [C.lst (a.map .v)]) ++ [C.lst (b.map .v)])[m.length]? = some (C.lst (a.map .v)) := by
    rw [List.getElem?_append_left (by simp)]; simp
  have hl : (a.map W.v).length < LIM := by simpa using h
  unfold two
  simp only [mutW, mutL, this, if_pos hl, Option.map_some]
  simp
theorem two_app1 (m : Store) (a b : List D) (d : D) (h : b.length < 10000000) : mutW (two m a b) .append (.t (m.length + 1)) [.v d] = some (two m a (b ++ [d])) := by
  unfold two
  rw [tok_append (by simp), if_pos (by simpa using h)]
  simp
theorem two_ext1 (m : Store) (a b c : List D) (h : b.length + c.length < 10000000) : mutW (two m a b) .extend (.t (m.length + 1)) [.v (.lst c)] = some (two m a (b ++ c)) := by
  have e : ((m ++ [C.lst (a.map .v)]) ++ [C.lst (b.map .v)])[m.length + 1]? = some (C.lst (b.map .v)) := tok_get (by simp) _
  have hl : (b.map W.v).length + (c.map W.v).length < LIM := by simpa using h
  unfold two
  simp only [mutW, mutL, e, lstW_lst, if_pos hl, Option.map_some]
  rw [tok_set (by simp)]
  simp
theorem two_snap0 (m : Store) (a b : List D) : asDs (two m a b) [.t m.length] = some [.lst a] := by
  have : ((m ++ [C.lst (a.map .v)]) ++ [C.lst (b.map .v)])[m.length]? = some (C.lst (a.map .v)) := by
    rw [List.getElem?_append_left (by simp)]; simp
  unfold two
  simp [asDs, snap, this, snapC]
theorem two_snap1 (m : Store) (a b : List D) : asDs (two m a b) [.t (m.length + 1)] = some [.lst b] := by
  unfold two
  rw [tok_asDs (by simp)]
theorem two_trunc {α : Type} {m : Store} (a b : List D) (k : Store → R α) : trunc m (two m a b) k = k m := by
  unfold two
  rw [List.append_assoc, trunc_app]
theorem mk_Outcome (n : Nat) (a b c w : D) {m : Store} (hc : Cl m) : made (Fs TB (n + 1)) false 2 40 [.v a, .v b, .v c, .v w] m = .ok (.v (.obj 2 [a, b, c, w])) m := by
  unfold made
  have e : sem TB (n + 1) 40 [.t m.length, .v a, .v b, .v c, .v w] (m ++ [.obj 2 []]) = .ok (.v .non) (m ++ [.obj 2 [.v a, .v b, .v c, .v w]]) := by
    rw [sem_run df_p_Outcome_init rfl]
    apply eq_of_sat
    simp [d_p_Outcome_init, tok_fset rfl]
    rw [trunc_tok hc (by simp [lowC, lowW])]
    exact ⟨rfl, rfl⟩
  rw [Fs_fn]
  show (match sem TB (n + 1) 40 [.t m.length, .v a, .v b, .v c, .v w] (m ++ [.obj 2 []]) with
    | .ok (.v .non) m' => _ | .ok _ _ => _ | .ex c ds m' => _ | .bad => _) = _
  rw [e]
  simp
theorem play (n : Nat) {p : Pr} (hp : p.okB = true) {h : Hi} (hh : h.okB = true) {m : Store} (hc : Cl m) : sem TB (n + 6) 50 [.v (ruleOf p), .v h.d] m = .ok (.v (outD p h)) m := by
  have ch := check_history (n + 2) hh m
  have hh0 := hh
  simp only [Hi.okB, Bool.and_eq_true, decide_eq_true_eq] at hh
  obtain ⟨h1, h2⟩ := hh
  rw [sem_run df_p_play rfl]
  apply eq_of_sat
  have fs := first_state (n + 3) h.start hc
  simp [d_p_play, ch]
  simp [Hi.d, fs]
  have loop : ∀ (es : List Ev) (i : Nat) (s : Sta) (a b : List D), (∀ e ∈ es, e.okB = true) → a.length + es.length ≤ 10000 → b.length + 2 * es.length ≤ 20000 → ∀ x1 x2 x3 x4 x5, (loopS (evSL (Fs TB (n + 5)) (.cons (.asg 7 (.call 37 (.cons (.var 2) (.cons (.var 0) (.cons (.var 6) .nil))))) (.cons (.if_ (.cmp .eq (.ix (.var 6) (.c (.int 0))) (.c (.str "carry"))) (.cons (.mut .append (.var 3) (.cons (.meth 0 28 (.var 2) (.cons (.var 0) (.cons (.ix (.var 6) (.c (.int 1))) .nil))) .nil)) (.cons (.mut .extend (.var 4) (.cons (.comp false (.tup (.cons (.n 8) (.cons (.n 9) .nil))) (.seq (.meth 0 32 (.var 2) (.cons (.var 7) .nil))) .nil (.tup (.cons (.var 5) (.cons (.var 8) (.cons (.var 9) .nil))))) .nil)) .nil)) .nil) (.cons (.asg 2 (.var 7)) .nil)))) (.tup (.cons (.n 5) (.cons (.n 6) .nil)))
      ((List.zipIdx es i).map fun p => D.tup [.int (p.2 : Nat), p.1.d]) [some (.v (ruleOf p)), some (.v (.tup [vd h.start, .tup (h.evs.map Ev.d)])), some (.v s.d), some (.t m.length), some (.t (m.length + 1)), x1, x2, x3, x4, x5] (two m a b)).sat
      (fun env m' => m' = two m (a ++ rowsD (played p s es i).2.1) (b ++ fltsD (played p s es i).2.2) ∧ ∃ x1 x2 x3 x4 x5, env = [some (.v (ruleOf p)), some (.v (.tup [vd h.start, .tup (h.evs.map Ev.d)])), some (.v (played p s es i).1.d), some (.t m.length), some (.t (m.length + 1)), x1, x2, x3, x4, x5]) fun _ _ => False := by
    intro es
    induction es with
    | nil =>
      intro i s a b _ _ _ x1 x2 x3 x4 x5
      exact ⟨by simp [played, rowsD, fltsD], _, _, _, _, _, rfl⟩
    | cons e es ih =>
      intro i s a b ho ha hb x1 x2 x3 x4 x5
      rw [List.zipIdx_cons, List.map_cons]
      unfold loopS
      have hap := happened n s hp e (two_cl hc a b)
      have ho' := fun e' h' => ho e' (List.mem_cons_of_mem _ h')
      simp only [List.length_cons] at ha hb
      cases e with
      | carry ans =>
        have rf := row_for (n + 2) s hp ans (two m a b)
        have ff := faults_of (n + 3) s (s.step p (.carry ans)) (two m (a ++ [.int (rowI (s.rowOf p ans))]) b)
        have fl : (s.faults (s.step p (.carry ans))).length ≤ 2 := by
          unfold Sta.faults
          rw [List.length_map]
          exact Nat.le_trans (List.length_filter_le _ _) (by simp)
        have cr : ∀ (z0 z1 z2 z3 z4 z5 z6 z7 z8 : Option W) mm, foldR (compT (Fs TB (n + 5)) (.tup (.cons (.n 8) (.cons (.n 9) .nil))) .nil (.tup (.cons (.var 5) (.cons (.var 8) (.cons (.var 9) .nil)))) [z0, z1, z2, z3, z4, some (.v (.int i)), z5, z6, z7, z8]) ((s.faults (s.step p (.carry ans))).map faultD) [] mm = .ok ((((s.faults (s.step p (.carry ans))).map fun f => (i, f)).map fltD).map .v) mm := fun z0 z1 z2 z3 z4 z5 z6 z7 z8 mm => by
          refine (comp_map (fun d => match d with | .tup [x, y] => .v (.tup [.int i, x, y]) | _ => .v .non) _ fun d hd => ?_).trans ?_
          · obtain ⟨f, hf, rfl⟩ := List.mem_map.mp hd
            exact ⟨_, rfl, by simp [faultD]⟩
          · congr 1
            rw [List.map_map, List.map_map, List.map_map]
            rfl
        have ih' := ih (i + 1) (s.step p (.carry ans)) (a ++ [.int (rowI (s.rowOf p ans))]) (b ++ (s.faults (s.step p (.carry ans))).map (fltD ∘ fun f => (i, f))) ho' (by simp; omega) (by simp; omega)
        have ih' := fun x1 x2 x3 x4 x5 => ih' x1 x2 x3 x4 x5
        generalize ((List.zipIdx es (i + 1)).map fun p => D.tup [.int (p.2 : Nat), p.1.d]) = tail at ih' ⊢
        simp [hap]
        simp [Ev.d, two_isLst0, rf, two_app0 _ _ _ _ (show a.length < 10000000 by omega), two_isLst1]
        simp [ff, cr, show (s.faults (s.step p (.carry ans))).length ≤ 10000000 by omega]
        rw [two_ext1 _ _ _ _ (by simp; omega)]
        simp
        refine (ih' _ _ _ _ _).mono ?_ fun _ _ z => z
        rintro env m' ⟨rfl, x1, x2, x3, x4, x5, rfl⟩
        exact ⟨by simp [played, rowsD, fltsD, Function.comp_def], _, _, _, _, _, rfl⟩
      | change v =>
        have ih' := ih (i + 1) (s.step p (.change v)) a b ho' (by omega) (by omega)
        generalize ((List.zipIdx es (i + 1)).map fun p => D.tup [.int (p.2 : Nat), p.1.d]) = tail at ih' ⊢
        simp [hap]
        simp [Ev.d]
        exact ih' _ _ _ _ _
      | delete =>
        have ih' := ih (i + 1) (s.step p .delete) a b ho' (by omega) (by omega)
        generalize ((List.zipIdx es (i + 1)).map fun p => D.tup [.int (p.2 : Nat), p.1.d]) = tail at ih' ⊢
        simp [hap]
        simp [Ev.d]
        exact ih' _ _ _ _ _
      | set v =>
        have ih' := ih (i + 1) (s.step p (.set v)) a b ho' (by omega) (by omega)
        generalize ((List.zipIdx es (i + 1)).map fun p => D.tup [.int (p.2 : Nat), p.1.d]) = tail at ih' ⊢
        simp [hap]
        simp [Ev.d]
        exact ih' _ _ _ _ _
      | remove =>
        have ih' := ih (i + 1) (s.step p .remove) a b ho' (by omega) (by omega)
        generalize ((List.zipIdx es (i + 1)).map fun p => D.tup [.int (p.2 : Nat), p.1.d]) = tail at ih' ⊢
        simp [hap]
        simp [Ev.d]
        exact ih' _ _ _ _ _
      | back =>
        have ih' := ih (i + 1) (s.step p .back) a b ho' (by omega) (by omega)
        generalize ((List.zipIdx es (i + 1)).map fun p => D.tup [.int (p.2 : Nat), p.1.d]) = tail at ih' ⊢
        simp [hap]
        simp [Ev.d]
        exact ih' _ _ _ _ _
  rw [enum_map]
  have e0 : m ++ [C.lst [], C.lst []] = two m [] [] := by simp [two]
  rw [e0]
  refine (loop h.evs 0 (.first h.start) [] [] (List.all_eq_true.mp h1) (by simp; omega) (by simp; omega) none none none none none).mono ?_ fun _ _ z => z.elim
  rintro env m' ⟨rfl, x1, x2, x3, x4, x5, rfl⟩
  rw [List.nil_append, List.nil_append]
  have ml : binD .mul (.str "m") (.int (h.evs.length : Nat)) = some (.str (mulS "m" h.evs.length)) := by
    show (if _ then _ else _) = _
    rw [if_pos ⟨by decide +kernel, by omega, by omega⟩]
  have mk := mk_Outcome (n + 4) (played p (.first h.start) h.evs 0).1.d (.tup (rowsD (played p (.first h.start) h.evs 0).2.1)) (.tup (fltsD (played p (.first h.start) h.evs 0).2.2)) (.str (mulS "m" h.evs.length)) (two_cl hc (rowsD (played p (.first h.start) h.evs 0).2.1) (fltsD (played p (.first h.start) h.evs 0).2.2))
  simp [two_snap0, two_snap1, ml, mk, two_trunc]
  rfl
end Cy.T

set_option Elab.async false
set_option linter.all false
set_option maxRecDepth 100000
set_option maxHeartbeats 2000000
/-! CyLaw: the laws' own states. -/
namespace Cy.T
open PySem L2 Cy
def wl : Option Vl → D
  | none => .non
  | some v => .lst [vd v]
def Sta.l (s : Sta) : D := .lst [vd s.up, vd s.here, vd s.before, wl s.wish, .bl s.mine]
@[simp] theorem l_ix0 (s : Sta) : ixD s.l (.int 0) = some (vd s.up) := ixL0 _ _
@[simp] theorem l_ix1 (s : Sta) : ixD s.l (.int 1) = some (vd s.here) := ixL1 _ _ _
@[simp] theorem l_ix2 (s : Sta) : ixD s.l (.int 2) = some (vd s.before) := ixL2 _ _ _ _
@[simp] theorem l_ix3 (s : Sta) : ixD s.l (.int 3) = some (wl s.wish) := ixL3 _ _ _ _ _
@[simp] theorem l_ix4 (s : Sta) : ixD s.l (.int 4) = some (.bl s.mine) := ixL4 _ _ _ _ _ _
theorem l_new (n : Nat) (v : Vl) (m : Store) : sem TB (n + 1) 54 [.v (vd v)] m = .ok (.v (Sta.l (.first v))) m := by
  rw [sem_run df_l_new rfl]
  simp [d_l_new, Sta.l, Sta.first, wl]
theorem spot_in {b : Bool} {f : Str} (h : (spots b).contains f = true) : f = "own" ∨ f = "above" ∨ f = "base" := by
  have : f ∈ spots b := by simpa using h
  cases b <;> simp only [spots, cond_true, cond_false, List.mem_cons, List.mem_nil_iff, or_false] at this
  · rcases this with rfl | rfl <;> simp
  · exact this
theorem mf_index (f : Str) (h : f = "own" ∨ f = "above" ∨ f = "base") : ∃ i : Int, mfD .index (.lst [.str "above", .str "own", .str "base"]) [.str f] = some (.int i) ∧ ∀ s : Sta, ixD s.l (.int i) = some (vd (s.value f)) := by
  rcases h with rfl | rfl | rfl
  · exact ⟨1, by simp [mfD, plain, plains, dep, deps, idxOfD, eqB], fun s => by simp [Sta.value]⟩
  · exact ⟨0, by simp [mfD, plain, plains, dep, deps, idxOfD, eqB], fun s => by simp [Sta.value]⟩
  · exact ⟨2, by simp [mfD, plain, plains, dep, deps, idxOfD, eqB], fun s => by simp [Sta.value]⟩
theorem l_spot (n : Nat) (s : Sta) {f : Str} (h : f = "own" ∨ f = "above" ∨ f = "base") (m : Store) : sem TB (n + 1) 55 [.v s.l, .v (.str f)] m = .ok (.v (vd (s.value f))) m := by
  rw [sem_run df_l_spot rfl]
  obtain ⟨i, e1, e2⟩ := mf_index f h
  simp [d_l_spot, e1, e2]
theorem l_so (n : Nat) (s : Sta) {t : Tst} {b mi : Bool} (h : t.okB b mi = true) (ans : Str) (m : Store) : sem TB (n + 2) 56 [.v s.l, .v t.d, .v (.str ans)] m = .ok (.v (.bl (s.so ans t))) m := by
  rw [sem_run df_l_so rfl]
  cases t with
  | pair k f g =>
    simp only [Tst.okB, Bool.and_eq_true, Bool.or_eq_true, beq_iff_eq] at h
    obtain ⟨⟨h1, h2⟩, h3⟩ := h
    have s1 := l_spot n s (spot_in h2) m
    have s2 := l_spot n s (spot_in h3) m
    rcases h1 with rfl | rfl
    · simp [d_l_so, Tst.d, s1, s2, Sta.so]
    · simp [d_l_so, Tst.d, s1, s2, Sta.so]
  | one k f =>
    simp only [Tst.okB, Bool.and_eq_true, Bool.or_eq_true, beq_iff_eq] at h
    obtain ⟨h1, h2⟩ := h
    have s1 := l_spot n s (spot_in h2) m
    rcases h1 with rfl | rfl
    · simp [d_l_so, Tst.d, s1, Sta.so]
    · simp [d_l_so, Tst.d, s1, Sta.so]
  | flag k =>
    simp only [Tst.okB, Bool.and_eq_true, Bool.or_eq_true, beq_iff_eq] at h
    rcases h with (rfl | rfl) | ⟨rfl, rfl | rfl⟩
    · simp [d_l_so, Tst.d, Sta.so]
    · simp [d_l_so, Tst.d, Sta.so]
    · simp [d_l_so, Tst.d, Sta.so]
    · simp [d_l_so, Tst.d, Sta.so]
/-- those that are not so -/
theorem nso_run (n : Nat) (s : Sta) {ts : List Tst} {b mi : Bool} (h : ∀ t ∈ ts, t.okB b mi = true) (ans : Str) {m : Store} {g : Nat} {env : Env} {e0 : E}
    (he : ∀ d, ∃ env', asgG (.n g) (.v d) (clrG (.n g) env) = some env' ∧ getS g env' = some (.v d) ∧ ev (Fs TB (n + 2)) e0 env' m = sem TB (n + 2) 56 [.v s.l, .v d, .v (.str ans)] m) :
    foldR (compT (Fs TB (n + 2)) (.n g) (.cons (.not_ e0) .nil) (.var g) env) (ts.map Tst.d) [] m = .ok (((ts.filter fun t => !(s.so ans t)).map Tst.d).map .v) m := by
  refine (comp_pure (fun d => match sem TB (n + 2) 56 [.v s.l, .v d, .v (.str ans)] m with | .ok (.v (.bl q)) _ => !q | _ => false) (fun d => .v d) _ _ fun d hd => ?_).trans ?_
  · obtain ⟨t, ht, rfl⟩ := List.mem_map.mp hd
    obtain ⟨env', e1, e2, e3⟩ := he t.d
    refine ⟨env', e1, ?_, fun _ => by simp [e2]⟩
    simp [e3, l_so n s (h t ht)]
  · congr 1
    rw [List.nil_append, List.filter_map]
    congr 2
    refine List.filter_congr fun t ht => ?_
    simp [l_so n s (h t ht)]
theorem all_filter {α : Type} (p : α → Bool) (l : List α) : (l.filter fun t => !(p t)).isEmpty = l.all p := by
  induction l with
  | nil => rfl
  | cons x l ih =>
    cases q : p x with
    | true => rw [List.filter_cons_of_neg (by simp [q]), ih]; simp [q]
    | false => rw [List.filter_cons_of_pos (by simp [q])]; simp [q]
theorem l_row (n : Nat) (s : Sta) {p : Pr} (h : p.okB = true) (hl : p.rows.length ≤ 1000) (ans : Str) (m : Store) : sem TB (n + 3) 57 [.v p.d, .v s.l, .v (.str ans)] m = .ok (.v (.int (rowI (s.rowOf p ans)))) m := by
  obtain ⟨h1, h2⟩ := p.ok_of h
  rw [sem_run df_l_row rfl]
  apply eq_of_sat
  have loop : ∀ (rs pre : List Rw), pre ++ rs = p.rows → ∀ a b, (loopS (evSL (Fs TB (n + 2)) (.cons (.if_ (.cmp .eq (.comp false (.n 4) (.seq (.ix (.ix (.ix (.var 0) (.c (.int 1))) (.var 3)) (.c (.int 0)))) (.cons (.not_ (.call 56 (.cons (.var 1) (.cons (.var 4) (.cons (.var 2) .nil))))) .nil) (.var 4)) (.lst false .nil)) (.cons (.ret (.var 3)) .nil) .nil) .nil)) (.n 3)
      ((List.range' pre.length rs.length).map fun k : Nat => D.int (k : Nat)) [some (.v p.d), some (.v s.l), some (.v (.str ans)), a, b] m).sat (fun _ m' => m' = m ∧ rowFrom s ans rs pre.length = none) fun w m' => m' = m ∧ ∃ j, rowFrom s ans rs pre.length = some j ∧ w = .v (.int (j : Nat)) := by
    intro rs
    induction rs with
    | nil => intro pre _ a b; exact ⟨rfl, rfl⟩
    | cons r rs ih =>
      intro pre hm a b
      have hr : r ∈ p.rows := by rw [← hm]; simp
      obtain ⟨g1, g2, g3⟩ := Rw.ok_of (h2 r hr)
      have so := nso_run n s g1 ans (m := m) (g := 4) (e0 := .call 56 (.cons (.var 1) (.cons (.var 4) (.cons (.var 2) .nil)))) (env := [some (.v p.d), some (.v s.l), some (.v (.str ans)), some (.v (.int pre.length)), b]) fun d => ⟨_, rfl, rfl, by simp⟩
      have ih' := ih (pre ++ [r]) (by rw [← hm]; simp) (some (.v (.int pre.length))) b
      rw [List.length_append, List.length_singleton] at ih'
      have lt : pre.length < p.rows.length := by rw [← hm]; simp
      have hix : ixD p.rD (.int (pre.length : Nat)) = some r.d := by
        rw [show p.rD = .tup (p.rows.map Rw.d) from rfl, ixD_tup, ixN_in (by omega) (by simp; exact lt)]
        simp [← hm]
      rw [List.length_cons, List.range'_succ, List.map_cons]
      unfold loopS rowFrom
      obtain ⟨f1, f2⟩ := tsts_plain (r.tests.filter fun t => !(s.so ans t))
      have ee := eqO_lst_nil _ f1 (by omega)
      rw [List.isEmpty_map, all_filter] at ee
      have fl : (r.tests.filter fun t => !(s.so ans t)).length ≤ 10000000 := Nat.le_trans (List.length_filter_le _ _) (by omega)
      generalize r.tests.filter (fun t => !(s.so ans t)) = us at so ee fl
      have hd : p.d = .tup [p.nD, p.rD] := rfl
      rw [hd] at so ih' ⊢
      cases q : r.tests.all (s.so ans) with
      | true =>
        rw [q] at ee
        simp [hix, Rw.d, so, fl, ee]
      | false =>
        rw [q] at ee
        simp only [Bool.false_eq_true, if_false]
        simp [hix, Rw.d, so, fl, ee]
        exact ih'
  have hd : p.d = .tup [p.nD, p.rD] := rfl
  rw [hd] at loop ⊢
  simp [d_l_row]
  rw [show p.rD = .tup (p.rows.map Rw.d) from rfl] at loop ⊢
  simp [show (p.rows.length : Int) ≤ 1000000 by omega, show (-1000000 : Int) ≤ p.rows.length by omega]
  have er : rngD 0 (p.rows.length : Nat) = (List.range' ([] : List Rw).length p.rows.length).map fun k : Nat => D.int (k : Nat) := by
    simp [rngD, List.range_eq_range']
  rw [er]
  refine (loop p.rows [] rfl none none).mono ?_ ?_
  · rintro env m' ⟨rfl, e⟩
    have e : s.rowOf p ans = none := e
    simp [e, rowI]
  · rintro w m' ⟨rfl, j, e, rfl⟩
    have e : s.rowOf p ans = some j := e
    simp [e, rowI]
end Cy.T

set_option Elab.async false
set_option linter.all false
set_option maxRecDepth 100000
set_option maxHeartbeats 2000000
/-! CyText5: read. -/
namespace Cy.T
open PySem L2 Cy
open TL (tl)
def hKs : List D := [.str "notes", .str "notes base", .str "notes mine", .str "notes base mine"]
theorem heads_text : headText [] = "notes" ∧ headText ["base"] = "notes base" ∧ headText ["mine"] = "notes mine" ∧ headText ["base", "mine"] = "notes base mine" := by decide +kernel
theorem head_find {notes : List Str} (h : notes ∈ allNotes) : findK hKs dNOTES (.str (headText notes)) = some (.tup (notes.map .str)) := by
  obtain ⟨t1, t2, t3, t4⟩ := heads_text
  simp only [allNotes, List.mem_cons, List.mem_nil_iff, or_false] at h
  rcases h with rfl | rfl | rfl | rfl
  · rw [t1]; simp [hKs, dNOTES, allNotes, findK, keyB]
  · rw [t2]; simp [hKs, dNOTES, allNotes, findK, keyB]
  · rw [t3]; simp [hKs, dNOTES, allNotes, findK, keyB]
  · rw [t4]; simp [hKs, dNOTES, allNotes, findK, keyB]
theorem heads_run {F : Fns} (m : Store) (e1 e2 e3 e4 e5 e6 e7 e8 e9 : Option W) : foldR (dcompT F false (.n 4) .nil (.sm .join (.c (.str " ")) (.cons (.lst false (.cons (.c (.str "notes")) (.star (.var 4) .nil))) .nil)) (.var 4) [e1, e2, e3, e4, e5, e6, e7, e8, e9]) dNOTES ([], []) m
    = .ok (hKs, dNOTES.map .v) m := by
  obtain ⟨t1, t2, t3, t4⟩ := heads_text
  have j1 := join_head (notes := []) (by simp [allNotes])
  have j2 := join_head (notes := ["base"]) (by simp [allNotes])
  have j3 := join_head (notes := ["mine"]) (by simp [allNotes])
  have j4 := join_head (notes := ["base", "mine"]) (by simp [allNotes])
  rw [t1] at j1
  rw [t2] at j2
  rw [t3] at j3
  rw [t4] at j4
  simp only [List.map_cons, List.map_nil] at j1 j2 j3 j4
  simp [dNOTES, allNotes, foldR_cons, dcompT, j1, j2, j3, j4, keyOk, flatK, putK, keyB, hKs]
theorem plains_strL : ∀ ws : List Str, plains (ws.map .str) = true ∧ deps (ws.map .str) = 0 := fun ws => ⟨plains_str ws, deps_str ws⟩
theorem read (n : Nat) {p : Pr} (h : p.okB = true) (hl : p.rows.length ≤ 8) {m : Store} (hc : Cl m) : sem TB (n + 5) 176 [.v (.str (wText p))] m = .ok (.v (ruleD p.nD p.rD)) m := by
  obtain ⟨h1, h2⟩ := p.ok_of h
  rw [sem_run df_p_read rfl]
  apply eq_of_sat
  have tl := wText_len h hl
  have sp : mfD .split (.str (wText p)) [.str "\n"] = some (.lst ((okLines p).map .str ++ [.str ""])) := by
    simp only [mfD]
    rw [if_pos ⟨by rw [nl_ne]; omega, by show _ ≤ 10000000; omega⟩, split_text h, List.map_append]
    rfl
  obtain ⟨pl1, pl2⟩ := plains_strL (okLines p)
  have el : eqO (.lst ((okLines p).map .str)) (.lst []) = some false := by
    rw [eqO_lst_nil _ pl1 (by omega)]; rfl
  have e0 : ixD (.lst ((okLines p).map .str)) (.int 0) = some (.str (headText p.notes)) := ixL0 _ _
  have hin : inD (.str (headText p.notes)) (.dict false hKs dNOTES) = some true := by
    simp [inD, keyOk, flatK, head_find h1]
  have hix : ixD (.dict false hKs dNOTES) (.str (headText p.notes)) = some p.nD := by
    simp [ixD, keyOk, flatK, head_find h1, Pr.nD]
  have d1 : ((okLines p).map D.str).drop 1 = (p.rows.map rowText).map .str := rfl
  simp [d_p_read, sp, cutL_last, ixD_last, g_NOTES, el, e0, hin, hix, d1]
  rw [heads_run]
  simp [hin, hix, d1, e0]
  refine loop_sat (fun pre env m' => ∃ ds : List D, ds = (p.rows.take pre.length).map Rw.d ∧ m' = m ++ [.lst (ds.map .v)] ∧ ∃ a b c, env = [some (W.v (D.str (wText p))), some (W.v (D.lst (List.map D.str (okLines p)))),
              some (W.v (D.str (Str.ofString ""))), some (W.v (D.dict false hKs dNOTES)), some (.v p.nD), some (W.t m.length), a, b, c]) _ [] _ _ ⟨[], rfl, rfl, _, _, _, rfl⟩ ?_ ?_
  · rintro q d post env m' hp ⟨ds, hds, rfl, x1, x2, x3, rfl⟩
    obtain ⟨x, hx, rfl, hlt⟩ := enum_at hp
    rw [List.length_map] at hlt
    rw [List.getElem?_map, List.getElem?_eq_getElem hlt] at hx
    have hx : D.str (rowText p.rows[q.length]) = x := by simpa using hx
    subst hx
    have hr := h2 _ (List.getElem_mem hlt)
    refine ⟨_, rfl, ?_⟩
    have hdl : ds.length ≤ 8 := by rw [hds]; simp; omega
    have ne8 : ((q.length : Int) == 8) = false := by rw [beq_eq_false_iff_ne]; omega
    simp [row_of (n + 3) hr, gl_MOST_ROWS, ne8, Pr.nD, is_row (n + 1), rowB_of hr, tok_isLst rfl, tok_append rfl, show ds.length < 10000000 by omega]
    rw [List.take_succ]
    simp [hds, List.getElem?_eq_getElem hlt]
  · rintro env m' ⟨ds, hds, rfl, x1, x2, x3, rfl⟩
    have e : ds = p.rows.map Rw.d := by rw [hds]; simp
    have mk := make_Pr n h hl (m := m ++ [.lst (ds.map .v)]) (hc.vals ds)
    simp [tok_asDs rfl]
    rw [e] at mk ⊢
    rw [show (.v (.tup (p.rows.map Rw.d)) : W) = .v p.rD from rfl, mk]
    simp
end Cy.T

set_option Elab.async false
set_option linter.all false
set_option maxRecDepth 100000
set_option maxHeartbeats 4000000
/-! CyLine: lines of texts, as the program and as the law look at them. -/
namespace Cy.T
open PySem L2 Cy TL
def tupS (ws : List Str) : D := .tup (ws.map .str)
/-- the words of a test, by the law -/
theorem l_is_test (n : Nat) (ns ws : List Str) (m : Store) : sem TB (n + 1) 180 [.v (.lst (ns.map .str)), .v (.lst (ws.map .str))] m = .ok (.v (.bl (testB (hasB ns "base") (hasB ns "mine") (tupS ws)))) m := by
  rw [sem_run df_l_is_test_b rfl]
  apply eq_of_sat
  have inL : ∀ (x : Str) (xs : List Str), inD (.str x) (.lst (xs.map .str)) = some (hasB xs x) := fun x xs => by
    have := inD_words x xs
    simp only [inD, plain, dep] at this ⊢
    exact this
  have ib : inD (.str "base") (.lst (ns.map .str)) = some (hasB ns "base") := inL _ _
  have im : inD (.str "mine") (.lst (ns.map .str)) = some (hasB ns "mine") := inL _ _
  have isp : ∀ x : Str, inD (.str x) (.lst [.str "own", .str "above", .str "base"]) = some (hasB wSPOTS x) := fun x => inL x wSPOTS
  have ipr : ∀ x : Str, inD (.str x) (.lst [.str "same", .str "unlike"]) = some (hasB wPAIRS x) := fun x => inL x wPAIRS
  have isg : ∀ x : Str, inD (.str x) (.lst [.str "there", .str "gone"]) = some (hasB wSINGLES x) := fun x => inL x wSINGLES
  have ifl : ∀ x : Str, inD (.str x) (.lst [.str "mine", .str "free"]) = some (hasB wFLAGS x) := fun x => inL x wFLAGS
  have i4 : ∀ x : Str, inD (.str x) (.lst [.str "yes", .str "no", .str "mine", .str "free"]) = some (hasB ["yes", "no", "mine", "free"] x) := fun x => inL x ["yes", "no", "mine", "free"]
  let spot : Str → Bool := fun f => hasB wSPOTS f && (!(f == "base") || hasB ns "base")
  have loop : ∀ (xs : List Str) (e2 : Option W), (loopS (evSL (Fs TB n) (S.body (SL.get 0 d_l_is_test_b.body))) (.n 2) (xs.map .str) [some (.v (.lst (ns.map .str))), some (.v (.lst (ws.map .str))), e2] m).sat
      (fun e m' => m' = m ∧ xs.all spot = true ∧ ∃ y2, e = [some (.v (.lst (ns.map .str))), some (.v (.lst (ws.map .str))), y2]) (fun w m' => m' = m ∧ xs.all spot = false ∧ w = .v (.bl false)) := by
    intro xs
    induction xs with
    | nil => intro e2; exact ⟨rfl, rfl, e2, rfl⟩
    | cons x xs ih =>
      intro e2
      have ih' := ih (some (.v (.str x)))
      rw [List.map_cons, loopS_cons, List.all_cons]
      generalize xs.all spot = q at ih' ⊢
      have sx : spot x = (hasB wSPOTS x && (!(x == "base") || hasB ns "base")) := rfl
      generalize xs.map D.str = tail at ih' ⊢
      generalize ws.map D.str = WS at ih' ⊢
      generalize ns.map D.str = NS at ih' ib ⊢
      simp only [d_l_is_test_b, SL.get, S.body] at ih' ⊢
      rw [sx]
      have isx := isp x
      cases h1 : hasB wSPOTS x with
      | false =>
        rw [h1] at isx
        simp [isx]
      | true =>
        rw [h1] at isx
        cases h2 : x == ("base" : Str) with
        | false =>
          simp [isx, h2]
          exact ih'
        | true =>
          cases h3 : hasB ns "base" with
          | false => rw [h3] at ib; simp [isx, h2, ib]
          | true =>
            rw [h3] at ib
            simp [isx, h2, ib]
            exact ih'
  have lp := fun (k : Str) (xs : List Str) (e2 : Option W) => loop xs e2
  match ws, loop with
  | [], loop =>
    have lp := loop [] none
    simp only [d_l_is_test_b, SL.get, S.body, List.map_nil] at lp ⊢
    simp [testB, tupS, loopS_nil, cutL, HT.sIx]
  | k :: xs, loop =>
    have lp := loop xs none
    have ct := cutL_from ((k :: xs).map D.str) (i := 1) (by omega)
    rw [show (1 : Int).toNat = 1 from rfl, List.map_cons, List.drop_succ_cons, List.drop_zero] at ct
    have tb : testB (hasB ns "base") (hasB ns "mine") (tupS (k :: xs)) = (xs.all spot && (match xs.length with | 0 => hasB wANSWERS k || (hasB wFLAGS k && hasB ns "mine") | 1 => hasB wSINGLES k | 2 => hasB wPAIRS k | _ => false)) := by
      match xs with
      | [] => simp [testB, tupS]
      | [f] => simp [testB, tupS, spot]
      | [f, g] =>
        simp only [testB, tupS, spot, List.map_cons, List.map_nil, List.all_cons, List.all_nil, Bool.and_true, List.length_cons, List.length_nil]
        cases hasB wSPOTS f <;> cases hasB wSPOTS g <;> cases f == ("base" : Str) <;> cases g == ("base" : Str) <;> cases hasB ns "base" <;> simp
      | f :: g :: h :: r => simp [testB, tupS]
    have ln : (((D.str k :: xs.map D.str).length : Nat) : Int) = ((xs.length + 1 : Nat) : Int) := by simp
    have j4 := i4 k
    have jf := ifl k
    have js := isg k
    have jp := ipr k
    have h4 : hasB ["yes", "no", "mine", "free"] k = (hasB wANSWERS k || hasB wFLAGS k) := by
      simp only [hasB, wANSWERS, wFLAGS, List.any_cons, List.any_nil, Bool.or_false, Bool.or_assoc]
    rw [h4] at j4
    have dis : (hasB wANSWERS k && hasB wFLAGS k) = false := by
      cases h : hasB wANSWERS k with
      | false => rfl
      | true =>
        simp only [hasB, wANSWERS, List.any_cons, List.any_nil, Bool.or_false, Bool.or_eq_true, beq_iff_eq] at h
        rcases h with rfl | rfl <;> decide +kernel
    rw [tb]
    clear tb loop
    simp only [List.map_cons, List.map_nil] at lp ⊢
    generalize xs.map D.str = XS at *
    generalize xs.all spot = q at *
    generalize xs.length = len at *
    generalize ns.map D.str = NS at *
    generalize hasB wANSWERS k = b1 at *
    generalize hasB wFLAGS k = b2 at *
    generalize hasB wSINGLES k = b3 at *
    generalize hasB wPAIRS k = b4 at *
    generalize hasB ns "mine" = b5 at *
    simp only [d_l_is_test_b, SL.get, S.body] at lp ⊢
    rw [sat_finS, evSL_cons, sat_then]
    simp [-evSL_cons, ct]
    refine RS.sat.mono lp ?_ ?_
    · rintro e m' ⟨rfl, hq, y2, rfl⟩
      rw [hq]
      match len, ln with
      | 0, ln =>
        have ln : ((D.str k :: XS).length : Int) = 1 := ln
        have ln' : (XS.length : Int) + 1 = 1 := by simpa using ln
        cases b1 <;> cases b2 <;> cases b5 <;> first | (cases dis; done) | simp [ln', j4, jf, im]
      | 1, ln =>
        have ln' : (XS.length : Int) + 1 = 2 := by simpa using ln
        simp [ln', js]
      | 2, ln =>
        have ln' : (XS.length : Int) + 1 = 3 := by simpa using ln
        simp [ln', jp]
      | n + 3, ln =>
        have ln' : (XS.length : Int) + 1 = (n : Int) + 4 := by
          have : ((D.str k :: XS).length : Int) = (XS.length : Int) + 1 := by simp
          omega
        have e3 : ((n : Int) + 4 == 3) = false := beq_eq_false_iff_ne.mpr (by omega)
        have e2 : ((n : Int) + 4 == 2) = false := beq_eq_false_iff_ne.mpr (by omega)
        have e1 : ((n : Int) + 4 == 1) = false := beq_eq_false_iff_ne.mpr (by omega)
        simp [ln', e1, e2, e3]
    · rintro w m' ⟨rfl, hq, rfl⟩
      simp [hq]
theorem eqO_lnil {xs : List D} (h1 : plains xs = true) (h2 : deps xs ≤ 59) : eqO (.lst xs) (.lst []) = some xs.isEmpty := by
  unfold eqO
  rw [if_pos (by simp [plain, plains, dep, deps, h1]; omega)]
  cases xs <;> rfl
/-! ### a line -/
def rowCD (wss : List (List Str)) (act : Str) : D := .tup [.tup (wss.map tupS), .str act]
def lineB (ns : List Str) (wss : List (List Str)) (act : Str) : Bool := rowB (hasB ns "base") (hasB ns "mine") (rowCD wss act)
theorem lineB_eq (ns : List Str) (wss : List (List Str)) (act : Str) : lineB ns wss act = (hasB wACTS act && decide (wss.length ≤ 4) && wss.all fun ws => testB (hasB ns "base") (hasB ns "mine") (tupS ws)) := by
  show (hasB wACTS act && decide ((wss.map tupS).length ≤ 4) && (wss.map tupS).all (testB _ _)) = _
  rw [List.all_map, List.length_map]; rfl
/-- what is known of a line: what the program reads of it, and that the law looks at it alike -/
structure Line (x : Str) (wss : List (List Str)) (act : Str) : Prop where
  len : x.length ≤ 1000
  nl : 10 ∉ tl x
  row : ∀ n m, sem TB (n + 1) 175 [.v (.str x)] m = .ok (.v (rowCD wss act)) m
  law : ∀ n ns m, sem TB (n + 2) 179 [.v (.lst (ns.map .str)), .v (.str x)] m = .ok (.v (.bl (lineB ns wss act))) m
theorem split_at {x y : Str} (hy : 0 < y.length) (hx : x.length ≤ 1000000) : mfD .split (.str x) [.str y] = some (.lst ((Txt.split x y).map .str)) := by
  simp only [mfD]
  rw [if_pos ⟨hy, by show _ ≤ 10000000; omega⟩]
theorem part_at {x y : Str} (hy : 0 < y.length) (hx : x.length ≤ 1000000) : mfD .partition (.str x) [.str y] = some (.tup [.str (Txt.partition x y).1, .str (Txt.partition x y).2.1, .str (Txt.partition x y).2.2]) := by
  simp only [mfD]
  rw [if_pos ⟨hy, by show _ ≤ 10000000; omega⟩]
/-- the law's look, by what splitting gives -/
theorem l_line (n : Nat) (ns : List Str) {x act : Str} {ps tests : List Str} (m : Store) (h1 : mfD .split (.str x) [.str " if "] = some (.lst ((act :: ps).map .str)))
    (h2 : ps.length ≤ 1 → match ps with | [] => tests = [] | r :: _ => mfD .split (.str r) [.str ", "] = some (.lst (tests.map .str))) (h3 : ∀ t ∈ tests, t.length ≤ 1000) (h4 : tests.length ≤ 1000) :
    sem TB (n + 2) 179 [.v (.lst (ns.map .str)), .v (.str x)] m = .ok (.v (.bl (decide (ps.length ≤ 1) && (hasB wACTS act && decide (tests.length ≤ 4) && tests.all fun t => testB (hasB ns "base") (hasB ns "mine") (tupS (Txt.split t " ")))))) m := by
  rw [sem_run df_l_is_line rfl]
  apply eq_of_sat
  have inA : inD (.str act) (.lst [.str "take", .str "keep", .str "drop", .str "claim"]) = some (hasB wACTS act) := by
    have := inD_words act wACTS
    simp only [inD, plain, dep] at this ⊢
    exact this
  have lt := fun t (ht : t ∈ tests) mm => l_is_test n ns (Txt.split t " ") mm
  have sp := fun t (ht : t ∈ tests) => split_at (x := t) (y := " ") (by rw [sp_len]; omega) (by have := h3 t ht; omega)
  have ca : ∀ (e0 e1 e2 e3 e4 : Option W), e0 = some (.v (.lst (ns.map .str))) → foldR (compT (Fs TB (n + 1)) (.n 5) (.cons (.not_ (.call 180 (.cons (.var 0) (.cons (.sm .split (.var 5) (.cons (.c (.str " ")) .nil)) .nil)))) .nil) (.var 5) [e0, e1, e2, e3, e4, none]) (tests.map .str) [] m =
      .ok (((tests.filter fun t => !testB (hasB ns "base") (hasB ns "mine") (tupS (Txt.split t " "))).map .str).map .v) m := fun e0 e1 e2 e3 e4 he => by
    subst he
    rw [comp_pure (fun d => match d with | .str t => !testB (hasB ns "base") (hasB ns "mine") (tupS (Txt.split t " ")) | _ => false) W.v _ [] fun d hd => ?_]
    · rw [List.nil_append, List.filter_map]
      rfl
    · obtain ⟨t, ht, rfl⟩ := List.mem_map.mp hd
      have l1 := lt t ht
      have s1 := sp t ht
      generalize ns.map D.str = NS at *
      generalize (Txt.split t " ").map D.str = TS at *
      exact ⟨_, rfl, by simp [s1, l1], fun _ => by simp⟩
  have nl := eqO_lnil (xs := (tests.filter fun t => !testB (hasB ns "base") (hasB ns "mine") (tupS (Txt.split t " "))).map .str) (plains_strL _).1 (by rw [(plains_strL _).2]; omega)
  have emp : ((tests.filter fun t => !testB (hasB ns "base") (hasB ns "mine") (tupS (Txt.split t " "))).map D.str).isEmpty = tests.all fun t => testB (hasB ns "base") (hasB ns "mine") (tupS (Txt.split t " ")) := by
    rw [List.isEmpty_map]
    exact all_filter _ tests
  rw [emp] at nl
  have fl : ((tests.filter fun t => !testB (hasB ns "base") (hasB ns "mine") (tupS (Txt.split t " "))).map D.str).length ≤ 10000000 := by
    rw [List.length_map]
    exact Nat.le_trans (List.length_filter_le _ _) (by omega)
  have tl4 : ((tests.map D.str).length : Int) = tests.length := by simp
  clear lt sp emp
  match ps, h1, h2 with
  | [], h1, h2 =>
    have h2 := h2 (by simp)
    subst h2
    simp only [List.map_cons, List.map_nil, List.filter_nil, List.all_nil, List.isEmpty_nil] at h1 ca nl ⊢
    generalize ns.map D.str = NS at *
    cases ha : hasB wACTS act with
    | false => rw [ha] at inA; simp [d_l_is_line, h1, inA]
    | true =>
      rw [ha] at inA
      simp [d_l_is_line, h1, inA, ca, nl]
  | [r], h1, h2 =>
    have h2 := h2 (by simp)
    have h2 : mfD .split (.str r) [.str ", "] = some (.lst (tests.map .str)) := h2
    simp only [List.map_cons, List.map_nil] at h1 ca ⊢
    generalize (tests.all fun t => testB (hasB ns "base") (hasB ns "mine") (tupS (Txt.split t " "))) = q at *
    generalize (tests.filter fun t => !testB (hasB ns "base") (hasB ns "mine") (tupS (Txt.split t " "))).map D.str = FL at *
    have c4 : decide ((tests.length : Int) ≤ 4) = decide (tests.length ≤ 4) := by
      rw [Bool.eq_iff_iff, decide_eq_true_eq, decide_eq_true_eq]; omega
    generalize decide (tests.length ≤ 4) = q4 at *
    generalize tests.map D.str = TS at *
    generalize ns.map D.str = NS at *
    cases ha : hasB wACTS act with
    | false => rw [ha] at inA; simp [d_l_is_line, h1, inA]
    | true =>
      rw [ha] at inA
      simp [d_l_is_line, h1, inA, h2, ca, fl, nl, tl4, c4]
  | r :: r' :: rs, h1, h2 =>
    simp only [List.map_cons] at h1 ⊢
    generalize ns.map D.str = NS at *
    generalize rs.map D.str = RS at *
    have gt : decide ((2 : Int) < (RS.length : Int) + 1 + 1 + 1) = true := decide_eq_true (by omega)
    cases ha : hasB wACTS act with
    | false => rw [ha] at inA; simp [d_l_is_line, h1, inA]
    | true =>
      rw [ha] at inA
      simp [d_l_is_line, h1, inA, gt, -decide_eq_true_eq]
/-- the program's reading of a line -/
theorem row_gen (n : Nat) {x a mk rest : Str} (m : Store) (h1 : mfD .partition (.str x) [.str " if "] = some (.tup [.str a, .str mk, .str rest])) {parts : List Str}
    (h2 : mk ≠ "" → mfD .split (.str rest) [.str ", "] = some (.lst (parts.map .str))) (h0 : mk = "" → parts = []) (h3 : ∀ t ∈ parts, t.length ≤ 1000) (h4 : parts.length ≤ 1000) :
    sem TB (n + 1) 175 [.v (.str x)] m = .ok (.v (rowCD (parts.map fun t => Txt.split t " ") a)) m := by
  rw [sem_run df_p_row_of rfl]
  have sp := fun t (ht : t ∈ parts) => split_at (x := t) (y := " ") (by rw [sp_len]; omega) (by have := h3 t ht; omega)
  have tr : ∀ e1 e2 e3 e4 e5, foldR (compT (Fs TB n) (.n 4) .nil (.bi .tuple false (.cons (.sm .split (.var 4) (.cons (.c (.str " ")) .nil)) .nil)) [e1, e2, e3, e4, e5]) (parts.map .str) [] m = .ok (((parts.map fun t => Txt.split t " ").map tupS).map .v) m := fun e1 e2 e3 e4 e5 => by
    refine (comp_map (fun d => match mfD .split d [.str " "] with | some (.lst x) => .v (.tup x) | _ => .v .non) _ fun d hd => ?_).trans ?_
    · obtain ⟨t, ht, rfl⟩ := List.mem_map.mp hd
      refine ⟨_, rfl, ?_⟩
      have s1 := sp t ht
      generalize (Txt.split t " ").map D.str = TS at s1
      simp [s1]
    · congr 1
      rw [List.map_map, List.map_map, List.map_map]
      refine List.map_congr_left fun t ht => ?_
      simp [sp t ht, tupS]
  have pl : ((parts.map fun t => Txt.split t " ").map tupS).length ≤ 10000000 := by simp; omega
  by_cases hm : mk = ""
  · have p0 := h0 hm
    subst p0
    have q : (mk == ("" : Str)) = true := by rw [hm]; simp
    simp [d_p_row_of, h1, q, rowCD]
  · have q : (mk == ("" : Str)) = false := beq_eq_false_iff_ne.mpr hm
    have h2 := h2 hm
    unfold rowCD
    generalize (parts.map fun t => Txt.split t " ").map tupS = W at *
    generalize parts.map D.str = PS at *
    simp [d_p_row_of, h1, q, h2, tr, pl]
def partsOf (x : Str) : List Str := if (Txt.partition x " if ").2.1 == "" then [] else Txt.split (Txt.partition x " if ").2.2 ", "
def wssOf (x : Str) : List (List Str) := (partsOf x).map fun t => Txt.split t " "
def actOfL (x : Str) : Str := (Txt.partition x " if ").1
/-- enough to know a line -/
def chkL (x : Str) : Bool :=
  decide (x.length ≤ 1000) && !(tl x).contains 10 && decide ((Txt.partition x " if ").2.2.length ≤ 1000) && decide ((partsOf x).length ≤ 1000) && (partsOf x).all (fun t => decide (t.length ≤ 1000)) &&
  match Txt.split x " if " with
  | [] => false
  | [a] => a == actOfL x && (Txt.partition x " if ").2.1 == ""
  | [a, r] => a == actOfL x && r == (Txt.partition x " if ").2.2 && !((Txt.partition x " if ").2.1 == "")
  | _ :: _ :: _ :: _ => [true, false].all fun b => [true, false].all fun mi => !rowB b mi (rowCD (wssOf x) (actOfL x))
theorem line_of {x : Str} (h : chkL x = true) : Line x (wssOf x) (actOfL x) := by
  unfold chkL at h
  simp only [Bool.and_eq_true, decide_eq_true_eq, Bool.not_eq_true', List.all_eq_true] at h
  obtain ⟨⟨⟨⟨⟨h1, h2⟩, h3⟩, h4⟩, h5⟩, h6⟩ := h
  have pt := part_at (x := x) (y := " if ") (by rw [if_len]; omega) (by omega)
  have spx := split_at (x := x) (y := " if ") (by rw [if_len]; omega) (by omega)
  refine ⟨h1, by simpa using h2, fun n m => ?_, fun n ns m => ?_⟩
  · refine row_gen n m pt (parts := partsOf x) (fun hm => ?_) (fun hm => ?_) h5 h4
    · unfold partsOf
      rw [if_neg (by simpa using hm)]
      exact split_at (by rw [cm_len]; omega) (by omega)
    · unfold partsOf
      rw [if_pos (by rw [hm]; simp)]
  · match hs : Txt.split x " if ", h6 with
    | [a], h6 =>
      rw [hs] at spx
      simp only [Bool.and_eq_true, beq_iff_eq] at h6
      obtain ⟨e1, e2⟩ := h6
      have p0 : partsOf x = [] := by unfold partsOf; rw [if_pos (by rw [e2]; simp)]
      have w0 : wssOf x = [] := by unfold wssOf; rw [p0]; rfl
      rw [lineB_eq, w0]
      have := l_line n ns (ps := []) (tests := []) m spx (fun _ => rfl) (by simp) (by simp)
      rw [this, e1]; simp
    | [a, r], h6 =>
      rw [hs] at spx
      simp only [Bool.and_eq_true, beq_iff_eq, Bool.not_eq_true'] at h6
      obtain ⟨⟨e1, e2⟩, e3⟩ := h6
      have p0 : partsOf x = Txt.split r ", " := by unfold partsOf; rw [if_neg (by rw [e3]; simp), e2]
      rw [lineB_eq]
      have := l_line n ns (ps := [r]) (tests := partsOf x) m spx (fun _ => by
        show mfD .split (.str r) [.str ", "] = _
        rw [p0]
        exact split_at (by rw [cm_len]; omega) (by rw [e2]; omega)) h5 h4
      rw [this, e1]
      unfold wssOf
      rw [List.all_map, List.length_map]
      simp
      rfl
    | a :: r :: r' :: rs, h6 =>
      rw [hs] at spx
      have z : lineB ns (wssOf x) (actOfL x) = false := by
        have h7 : ∀ b mi : Bool, rowB b mi (rowCD (wssOf x) (actOfL x)) = false := fun b mi => by
          have := h6
          simp only [List.all_cons, List.all_nil, Bool.and_true, Bool.and_eq_true, Bool.not_eq_true'] at this
          cases b <;> cases mi <;> simp_all
        exact h7 _ _
      have := l_line n ns (ps := r :: r' :: rs) (tests := []) m spx (fun hp => by simp at hp) (by simp) (by simp)
      rw [this, z]; simp
def oddL : List Str := ["", "notes", "notes mine base", "take if", "take if ", "take  if yes", " take", "take ", "leave", "take if mine", "keep if same own base", "keep if same own", "keep if same own above base", "drop if there", "drop if there none", "claim if yes,no", "claim if yes, ", "claim if yes, no, yes, no, yes", "take if maybe", "take if yes if no", "keep if gone base", "keep if free", "take if yes no"]
theorem odd_chk : ∀ x ∈ oddL, chkL x = true := List.all_eq_true.mp (by decide +kernel)
theorem head_chk : ∀ ns ∈ allNotes, chkL (headText ns) = true := List.all_eq_true.mp (by decide +kernel)
end Cy.T

set_option Elab.async false
set_option linter.all false
set_option maxRecDepth 100000
set_option maxHeartbeats 4000000
/-! K01Look: the law's look at any things. -/
namespace Cy.T
open PySem L2 Cy
/-- things that may be looked at -/
def Thing (d : D) : Prop := plain d = true ∧ dep d ≤ 50
theorem thing_mem {xs : List D} (h : Thing (.tup xs)) {x : D} (hx : x ∈ xs) : Thing x := by
  obtain ⟨h1, h2⟩ := h
  have p : ∀ {xs : List D}, plains xs = true → x ∈ xs → plain x = true ∧ dep x ≤ deps xs := by
    intro xs
    induction xs with
    | nil => intro _ hx; cases hx
    | cons y ys ih =>
      intro hp hx
      simp only [plains, Bool.and_eq_true] at hp
      simp only [deps]
      rcases List.mem_cons.mp hx with rfl | hx
      · exact ⟨hp.1, by omega⟩
      · obtain ⟨a, b⟩ := ih hp.2 hx
        exact ⟨a, by omega⟩
  obtain ⟨a, b⟩ := p (show plains xs = true from h1) hx
  exact ⟨a, by simp only [dep] at h2; omega⟩
theorem inL_thing {d : D} (h : Thing d) (ws : List Str) : inD d (.lst (ws.map .str)) = some (isWordB ws d) := by
  obtain ⟨h1, h2⟩ := h
  have e : inD d (.lst (ws.map .str)) = some ((ws.map D.str).any fun y => eqB y d) := by
    show (if (plain d && plains (ws.map .str) && decide (dep d ≤ 60) && decide (deps (ws.map D.str) ≤ 60)) = true then some ((ws.map D.str).any fun y => eqB y d) else none) = _
    rw [if_pos (by rw [h1, (plains_strL ws).1, (plains_strL ws).2]; simp; omega)]
  rw [e]
  congr 1
  cases d with
  | str x =>
    rw [List.any_map]
    rfl
  | _ =>
    rw [List.any_map]
    have : ∀ (l : List Str) (f : Str → Bool), (∀ x, f x = false) → l.any f = false := fun l f hf => by
      induction l with
      | nil => rfl
      | cons x l ih => rw [List.any_cons, hf, ih]; rfl
    exact this ws _ fun x => by simp [eqB]
theorem eq_base {d : D} (h : Thing d) : eqO d (.str "base") = some (match d with | .str x => x == "base" | _ => false) := by
  obtain ⟨h1, h2⟩ := h
  unfold eqO
  rw [if_pos (by simp [h1, plain, dep]; omega)]
  cases d <;> simp [eqB]
def isBase : D → Bool
  | .str x => x == "base"
  | _ => false
theorem eq_base' {d : D} (h : Thing d) : eqO d (.str "base") = some (isBase d) := by
  rw [eq_base h]; cases d <;> rfl
theorem hasB_in (ns : List Str) (x : Str) : inD (.str x) (.tup (ns.map .str)) = some (hasB ns x) := inD_words x ns
/-- the law's look at a test -/
theorem is_test_g (n : Nat) (ns : List Str) {d : D} (h : Thing d) (m : Store) : sem TB (n + 1) 18 [.v (.tup (ns.map .str)), .v d] m = .ok (.v (.bl (testB (hasB ns "base") (hasB ns "mine") d))) m := by
  rw [sem_run df_l_is_test rfl]
  have im := hasB_in ns "mine"
  have ib := hasB_in ns "base"
  cases d with
  | tup xs =>
    have isp : ∀ x : D, Thing x → inD x (.lst [.str "own", .str "above", .str "base"]) = some (isWordB wSPOTS x) := fun x hx => inL_thing hx wSPOTS
    have ipr : ∀ x : D, Thing x → inD x (.lst [.str "same", .str "unlike"]) = some (isWordB wPAIRS x) := fun x hx => inL_thing hx wPAIRS
    have isg : ∀ x : D, Thing x → inD x (.lst [.str "there", .str "gone"]) = some (isWordB wSINGLES x) := fun x hx => inL_thing hx wSINGLES
    have ifl : ∀ x : D, Thing x → inD x (.lst [.str "mine", .str "free"]) = some (isWordB wFLAGS x) := fun x hx => inL_thing hx wFLAGS
    have ian : ∀ x : D, Thing x → inD x (.lst [.str "yes", .str "no"]) = some (isWordB wANSWERS x) := fun x hx => inL_thing hx wANSWERS
    have hx := fun x (hm : x ∈ xs) => thing_mem h hm
    match xs, hx with
    | [], _ => simp [d_l_is_test, testB]
    | [k], hx =>
      have hk := hx k (by simp)
      have tb : testB (hasB ns "base") (hasB ns "mine") (.tup [k]) = (isWordB wANSWERS k || (isWordB wFLAGS k && hasB ns "mine")) := by
        cases k <;> first | rfl | simp [testB, isWordB]
      rw [tb]
      have a1 := ian k hk
      have a2 := ifl k hk
      generalize ns.map D.str = NS at *
      generalize isWordB wANSWERS k = b1 at *
      generalize isWordB wFLAGS k = b2 at *
      generalize hasB ns "mine" = b5 at *
      cases b1 <;> cases b2 <;> cases b5 <;> simp [d_l_is_test, loopS_nil, cutL, HT.sIx, a1, a2, im]
    | [k, f], hx =>
      have hk := hx k (by simp)
      have hf := hx f (by simp)
      have tb : testB (hasB ns "base") (hasB ns "mine") (.tup [k, f]) = (isWordB wSPOTS f && (!isBase f || hasB ns "base") && isWordB wSINGLES k) := by
        cases k <;> cases f <;> first | rfl | simp [testB, isWordB, isBase]
      rw [tb]
      have a1 := isg k hk
      have s1 := isp f hf
      have q1 := eq_base' hf
      generalize ns.map D.str = NS at *
      generalize isWordB wSINGLES k = b1 at *
      generalize isWordB wSPOTS f = b2 at *
      generalize isBase f = b3 at *
      generalize hasB ns "base" = b5 at *
      cases b1 <;> cases b2 <;> cases b3 <;> cases b5 <;> simp [d_l_is_test, loopS_cons, loopS_nil, cutL, HT.sIx, a1, s1, q1, ib]
    | [k, f, g], hx =>
      have hk := hx k (by simp)
      have hf := hx f (by simp)
      have hg := hx g (by simp)
      have tb : testB (hasB ns "base") (hasB ns "mine") (.tup [k, f, g]) = (isWordB wSPOTS f && (!isBase f || hasB ns "base") && (isWordB wSPOTS g && (!isBase g || hasB ns "base")) && isWordB wPAIRS k) := by
        cases k <;> cases f <;> cases g <;> first | rfl | (simp [testB, isWordB, isBase]; done) | skip
        rename_i k f g
        simp only [testB, isWordB, isBase]
        cases hasB wSPOTS f <;> cases hasB wSPOTS g <;> cases (f == ("base" : Str)) <;> cases (g == ("base" : Str)) <;> cases hasB ns "base" <;> cases hasB wPAIRS k <;> rfl
      rw [tb]
      have a1 := ipr k hk
      have s1 := isp f hf
      have q1 := eq_base' hf
      have s2 := isp g hg
      have q2 := eq_base' hg
      generalize ns.map D.str = NS at *
      generalize isWordB wPAIRS k = b1 at *
      generalize isWordB wSPOTS f = b2 at *
      generalize isBase f = b3 at *
      generalize isWordB wSPOTS g = b4 at *
      generalize isBase g = b6 at *
      generalize hasB ns "base" = b5 at *
      cases b2
      · simp [d_l_is_test, loopS_cons, loopS_nil, cutL, HT.sIx, a1, s1, q1, ib]
      · cases b3 <;> cases b5 <;> cases b4 <;> cases b6 <;> cases b1 <;> simp [d_l_is_test, loopS_cons, loopS_nil, cutL, HT.sIx, a1, s1, q1, s2, q2, ib]
    | _ :: _ :: _ :: _ :: r, _ =>
      have ge : decide ((3 : Int) < (r.length : Int) + 1 + 1 + 1 + 1) = true := decide_eq_true (by omega)
      have lt : decide ((r.length : Int) + 1 + 1 + 1 + 1 < 1) = false := decide_eq_false (by omega)
      simp [d_l_is_test, testB, ge, lt, -decide_eq_true_eq, -decide_eq_false_iff_not]
  | _ => simp [d_l_is_test, testB, isTupD]
theorem plains_of {xs : List D} (h : ∀ x ∈ xs, Thing x) : plains xs = true ∧ deps xs ≤ 50 := by
  induction xs with
  | nil => exact ⟨rfl, Nat.zero_le _⟩
  | cons x xs ih =>
    obtain ⟨a, b⟩ := ih fun y hy => h y (List.mem_cons_of_mem _ hy)
    obtain ⟨c, d⟩ := h x (by simp)
    exact ⟨by simp [plains, a, c], by simp only [deps]; omega⟩
def testsB (b mi : Bool) : D → Bool
  | .tup ts => decide (ts.length ≤ 4) && ts.all (testB b mi)
  | _ => false
theorem rowB_eq (b mi : Bool) (t a : D) : rowB b mi (.tup [t, a]) = (isWordB wACTS a && testsB b mi t) := by
  cases t <;> cases a <;> simp [rowB, testsB, isWordB, Bool.and_assoc]
theorem is_row_g (n : Nat) (ns : List Str) {d : D} (h : Thing d) (m : Store) : sem TB (n + 2) 19 [.v (.tup (ns.map .str)), .v d] m = .ok (.v (.bl (rowB (hasB ns "base") (hasB ns "mine") d))) m := by
  rw [sem_run df_l_is_row rfl]
  cases d with
  | tup xs =>
    have hx := fun x (hm : x ∈ xs) => thing_mem h hm
    match xs, hx with
    | [], _ => simp [d_l_is_row, rowB]
    | [x], _ => 
      have : rowB (hasB ns "base") (hasB ns "mine") (.tup [x]) = false := by cases x <;> rfl
      rw [this]
      simp [d_l_is_row]
    | [t, a], hx =>
      have ht := hx t (by simp)
      have ha := hx a (by simp)
      rw [rowB_eq]
      have ia : inD a (.lst [.str "take", .str "keep", .str "drop", .str "claim"]) = some (isWordB wACTS a) := inL_thing ha wACTS
      cases hw : isWordB wACTS a with
      | false =>
        rw [hw] at ia
        simp [d_l_is_row, ia]
      | true =>
        rw [hw] at ia
        cases t with
        | tup ts =>
          have hts := fun x (hm : x ∈ ts) => thing_mem ht hm
          have cm : ∀ e0 e1 e2, e0 = some (.v (.tup (ns.map .str))) → foldR (compT (Fs TB (n + 1)) (.n 2) (.cons (.not_ (.call 18 (.cons (.var 0) (.cons (.var 2) .nil)))) .nil) (.var 2) [e0, e1, e2]) ts [] m = .ok ((ts.filter fun d => !testB (hasB ns "base") (hasB ns "mine") d).map .v) m := fun e0 e1 e2 he => by
            subst he
            rw [comp_pure (fun d => !testB (hasB ns "base") (hasB ns "mine") d) W.v _ [] fun d hd => ?_]
            · simp
            · have g := is_test_g n ns (hts d hd) m
              generalize ns.map D.str = NS at *
              exact ⟨_, rfl, by simp [g], fun _ => by simp⟩
          obtain ⟨p1, p2⟩ := plains_of (xs := ts.filter fun d => !testB (hasB ns "base") (hasB ns "mine") d) fun x hm => hts x (List.mem_filter.mp hm).1
          have nl := eqO_lnil p1 (by omega)
          rw [all_filter] at nl
          have tb : testsB (hasB ns "base") (hasB ns "mine") (.tup ts) = (decide (ts.length ≤ 4) && ts.all (testB (hasB ns "base") (hasB ns "mine"))) := rfl
          rw [tb]
          have fl := List.length_filter_le (fun d => !testB (hasB ns "base") (hasB ns "mine") d) ts
          generalize (ts.filter fun d => !testB (hasB ns "base") (hasB ns "mine") d) = FL at *
          generalize ts.all (testB (hasB ns "base") (hasB ns "mine")) = q at *
          generalize ns.map D.str = NS at *
          by_cases h4 : ts.length ≤ 4
          · have g4 : decide ((4 : Int) < (ts.length : Int)) = false := decide_eq_false (by omega)
            have g4' : decide (ts.length ≤ 4) = true := decide_eq_true h4
            have g4n : decide (4 < ts.length) = false := decide_eq_false (by omega)
            have fl : FL.length ≤ 10000000 := by omega
            simp [d_l_is_row, ia, g4, g4n, g4', cm, nl, fl, -decide_eq_true_eq, -decide_eq_false_iff_not]
          · have g4 : decide ((4 : Int) < (ts.length : Int)) = true := decide_eq_true (by omega)
            have g4n : decide (4 < ts.length) = true := decide_eq_true (by omega)
            have g4' : decide (ts.length ≤ 4) = false := decide_eq_false h4
            simp [d_l_is_row, ia, g4, g4n, g4', -decide_eq_true_eq, -decide_eq_false_iff_not]
        | _ => simp [d_l_is_row, ia, testsB, isTupD]
    | _ :: _ :: _ :: r, _ =>
      have ne : ((r.length : Int) + 1 + 1 + 1 == 2) = false := beq_eq_false_iff_ne.mpr (by omega)
      simp [d_l_is_row, rowB, ne]
  | _ => simp [d_l_is_row, rowB, isTupD]
end Cy.T

set_option Elab.async false
set_option linter.all false
set_option maxRecDepth 100000
set_option maxHeartbeats 2000000
/-! CyAlike: values equal in structure. -/
namespace Cy.T
open PySem L2 Cy
mutual
/-- lists of few -/
def small : D → Bool
  | .tup xs => decide (xs.length ≤ 100000) && smalls xs
  | .lst xs => decide (xs.length ≤ 100000) && smalls xs
  | _ => true
def smalls : List D → Bool
  | [] => true
  | x :: xs => small x && smalls xs
end
theorem plains_mem {x : D} : ∀ {xs : List D}, plains xs = true → x ∈ xs → plain x = true
  | y :: ys, h, hx => by
    simp only [plains, Bool.and_eq_true] at h
    rcases List.mem_cons.mp hx with rfl | hx
    · exact h.1
    · exact plains_mem h.2 hx
theorem smalls_mem {x : D} : ∀ {xs : List D}, smalls xs = true → x ∈ xs → small x = true
  | y :: ys, h, hx => by
    simp only [smalls, Bool.and_eq_true] at h
    rcases List.mem_cons.mp hx with rfl | hx
    · exact h.1
    · exact smalls_mem h.2 hx
theorem deps_mem {x : D} : ∀ {xs : List D}, x ∈ xs → dep x ≤ deps xs
  | y :: ys, hx => by
    simp only [deps]
    rcases List.mem_cons.mp hx with rfl | hx
    · omega
    · have := deps_mem hx; omega
/-- all alike, place by place -/
theorem alike_items (F : Fns) {xs : List D} {a b : D} {e2 : Option W} {m : Store} (hx : ∀ i : Nat, i < xs.length → ∃ x, xs[i]? = some x ∧ ixD a (.int (i : Nat)) = some x ∧ ixD b (.int (i : Nat)) = some x ∧ F.fn 13 [.v x, .v x] m = .ok (.v (.bl true)) m) :
    foldR (compT F (.n 2) (.cons (.not_ (.call 13 (.cons (.ix (.var 0) (.var 2)) (.cons (.ix (.var 1) (.var 2)) .nil)))) .nil) (.var 2) [some (.v a), some (.v b), e2]) (rngD 0 (xs.length : Nat)) [] m = .ok [] m := by
  refine (comp_pure (fun _ => false) (fun d => .v d) _ _ fun d hd => ?_).trans ?_
  · unfold rngD at hd
    obtain ⟨i, hi, rfl⟩ := List.mem_map.mp hd
    have hi : i < xs.length := by simpa using hi
    obtain ⟨x, e1, e2, e3, e4⟩ := hx i hi
    refine ⟨_, rfl, ?_, fun q => by cases q⟩
    simp [e2, e3, e4]
  · simp
theorem alike_self : ∀ (k : Nat) (d : D), dep d ≤ k → plain d = true → small d = true → ∀ (n : Nat) (m : Store), sem TB (n + k + 1) 13 [.v d, .v d] m = .ok (.v (.bl true)) m := by
  intro k
  induction k with
  | zero =>
    intro d hd hp hs n m
    rw [sem_run df_l_alike rfl]
    cases d <;> simp [dep] at hd <;> first | (simp [plain] at hp; done) | simp [d_l_alike, isTy, tyD, isNon]
  | succ k ih =>
    intro d hd hp hs n m
    rw [show n + (k + 1) + 1 = (n + k + 1) + 1 by omega, sem_run df_l_alike rfl]
    cases d with
    | tup xs =>
      simp only [dep] at hd
      simp only [plain] at hp
      simp only [small, Bool.and_eq_true, decide_eq_true_eq] at hs
      have it := fun e2 => alike_items (Fs TB (n + k + 1)) (xs := xs) (a := .tup xs) (b := .tup xs) (e2 := e2) (m := m) fun i hi => by
        have hm := List.getElem_mem hi
        refine ⟨xs[i], List.getElem?_eq_getElem hi, ?_, ?_, ih xs[i] (Nat.le_trans (deps_mem hm) (by omega)) (plains_mem hp hm) (smalls_mem hs.2 hm) n m⟩
        all_goals rw [ixD_tup, ixN_in (by omega) (by omega)]; simp
      have l1 : (xs.length : Int) ≤ 1000000 := by omega
      have l2 : (-1000000 : Int) ≤ xs.length := by omega
      simp [d_l_alike, isTy, tyD, l1, l2]
      rw [it]
      simp [eqO, eqB, eqBs, plain, plains, dep, deps]
    | lst xs =>
      simp only [dep] at hd
      simp only [plain] at hp
      simp only [small, Bool.and_eq_true, decide_eq_true_eq] at hs
      have it := fun e2 => alike_items (Fs TB (n + k + 1)) (xs := xs) (a := .lst xs) (b := .lst xs) (e2 := e2) (m := m) fun i hi => by
        have hm := List.getElem_mem hi
        refine ⟨xs[i], List.getElem?_eq_getElem hi, ?_, ?_, ih xs[i] (Nat.le_trans (deps_mem hm) (by omega)) (plains_mem hp hm) (smalls_mem hs.2 hm) n m⟩
        all_goals rw [ixD_lst, ixN_in (by omega) (by omega)]; simp
      have l1 : (xs.length : Int) ≤ 1000000 := by omega
      have l2 : (-1000000 : Int) ≤ xs.length := by omega
      simp [d_l_alike, isTy, tyD, l1, l2]
      rw [it]
      simp [eqO, eqB, eqBs, plain, plains, dep, deps]
    | dict _ _ _ => simp [plain] at hp
    | obj _ _ => simp [plain] at hp
    | _ => simp [d_l_alike, isTy, tyD, isNon]
end Cy.T

set_option Elab.async false
set_option linter.all false
set_option maxRecDepth 100000
set_option maxHeartbeats 2000000
/-! CyLaw2: the laws' own carryings, plays. -/
namespace Cy.T
open PySem L2 Cy
theorem tok_iset {m : Store} {k : Nat} (h : m.length = k) (ws : List W) (i : Int) (w : W) : isetW (m ++ [.lst ws]) (.t k) (.int i) w = (L2.ixN ws.length i).map fun j => m ++ [.lst (ws.set j w)] := by
  unfold isetW
  simp only [tok_get h]
  cases L2.ixN ws.length i with
  | none => rfl
  | some j => simp [tok_set h]
/-- five values of a state, as a list of the block's own -/
def l5 (a b c w i : D) : List W := [.v a, .v b, .v c, .v w, .v i]
theorem l5_1 {m : Store} (a b c w i x : D) : isetW (m ++ [.lst (l5 a b c w i)]) (.t m.length) (.int 1) (.v x) = some (m ++ [.lst (l5 a x c w i)]) := by rw [tok_iset rfl]; rfl
theorem l5_2 {m : Store} (a b c w i x : D) : isetW (m ++ [.lst (l5 a b c w i)]) (.t m.length) (.int 2) (.v x) = some (m ++ [.lst (l5 a b x w i)]) := by rw [tok_iset rfl]; rfl
theorem l5_4 {m : Store} (a b c w i x : D) : isetW (m ++ [.lst (l5 a b c w i)]) (.t m.length) (.int 4) (.v x) = some (m ++ [.lst (l5 a b c w x)]) := by rw [tok_iset rfl]; rfl
theorem l5_frz {m : Store} (a b c w i : D) : frzW (m ++ [.lst (l5 a b c w i)]) (some (.t m.length)) = some (W.v (.lst [a, b, c, w, i]), m ++ [C.dead]) := tok_frz rfl [a, b, c, w, i]
theorem l_list (s : Sta) (m : Store) : bfR .list true [s.l] m = .ok (.t m.length) (m ++ [.lst (l5 (vd s.up) (vd s.here) (vd s.before) (wl s.wish) (.bl s.mine))]) := by
  rw [Sta.l, bfR_listL, newL_t]
  rfl
theorem l_carried (n : Nat) (s : Sta) {p : Pr} (h : p.okB = true) (hl : p.rows.length ≤ 1000) (ans : Str) (m : Store) : sem TB (n + 4) 58 [.v p.d, .v s.l, .v (.str ans)] m = .ok (.v (s.carried p ans).l) m := by
  rw [sem_run df_l_carried rfl]
  have row := l_row n s h hl ans m
  have ao := act_ok h (s.rowOf p ans)
  have hd : p.d = .tup [p.nD, p.rD] := rfl
  rw [hd] at row ⊢
  unfold Sta.carried
  have e1 : ∀ d, ixD p.rD (.int d) = ixD p.rD (.int d) := fun _ => rfl
  cases q : s.rowOf p ans with
  | none =>
    rw [q] at row ao
    simp [d_l_carried, row, rowI, l_list, l5_1, l5_2, l5_4, l5_frz]
    simp [Sta.l, Sta.done, actOf]
  | some i =>
    rw [q] at row ao
    obtain ⟨x, st⟩ := rowOf_ix q
    have ni : decide ((i : Int) < 0) = false := by simp
    rcases ao with e | e | e | e <;> rw [e] at st ⊢ <;> simp [d_l_carried, row, rowI, ni, st, l_list, l5_1, l5_2, l5_4, l5_frz, pairW] <;> simp [Sta.l, Sta.done]
theorem l_drop (s : Sta) : slD s.l (some 1) none = some (.lst [vd s.here, vd s.before, wl s.wish, .bl s.mine]) := by
  rw [Sta.l, slD_lst, cutL_1]; rfl
theorem l_done (n : Nat) (s : Sta) {p : Pr} (h : p.okB = true) (hl : p.rows.length ≤ 1000) (e : Ev) (m : Store) : sem TB (n + 5) 59 [.v p.d, .v s.l, .v e.d] m = .ok (.v (s.step p e).l) m := by
  rw [sem_run df_l_done rfl]
  have c1 := fun a => l_carried n s h hl a m
  cases e with
  | change v => simp [d_l_done, Ev.d, inL_2, l_drop, Sta.step]; simp [Sta.l, vd_some]
  | delete => simp [d_l_done, Ev.d, inL_2, l_drop, Sta.step]; simp [Sta.l]
  | set v => simp [d_l_done, Ev.d, inL_2, l_drop, Sta.step]; simp [Sta.l, vd_some, wl]
  | remove => simp [d_l_done, Ev.d, inL_2, l_drop, Sta.step]; simp [Sta.l, wl]
  | back => simp [d_l_done, Ev.d, inL_2, l_drop, Sta.step]; simp [Sta.l, wl]
  | carry a => simp [d_l_done, Ev.d, c1, Sta.step]
theorem isNon_wl (w : Option Vl) : isNon (.v (wl w)) = w.isNone := by cases w <;> rfl
theorem l_due (n : Nat) (s : Sta) (w : Bool) (m : Store) : sem TB (n + 1) 60 [.v s.l, .v (.str (wayS w))] m = .ok (.v (.tup [vd (s.due w), .str (wordS (s.wished w))])) m := by
  rw [sem_run df_l_due rfl]
  cases w with
  | true =>
    cases q : s.wish with
    | none => simp [d_l_due, wayS, q, isNon_wl, Sta.due, Sta.wished, wordS]
    | some v => simp [d_l_due, wayS, q, isNon_wl, Sta.due, Sta.wished, wordS]; simp [wl]
  | false =>
    cases q : s.here == s.before with
    | true =>
      have q2 : s.here = s.before := by simpa using q
      simp [d_l_due, wayS, Sta.due, Sta.wished, wordS, q, q2]
    | false =>
      have q2 : ¬ s.here = s.before := by simpa using q
      simp [d_l_due, wayS, Sta.due, Sta.wished, wordS, q, q2]
end Cy.T

set_option Elab.async false
set_option linter.all false
set_option maxRecDepth 100000
set_option maxHeartbeats 2000000
/-! CyLaw3: the laws' own plays. -/
namespace Cy.T
open PySem L2 Cy
theorem two_frz0 (m : Store) (a b : List D) : frzW (two m a b) (some (.t m.length)) = some (W.v (.lst a), (m ++ [C.dead]) ++ [C.lst (b.map .v)]) := by
  have : ((m ++ [C.lst (a.map .v)]) ++ [C.lst (b.map .v)])[m.length]? = some (C.lst (a.map .v)) := by
    rw [List.getElem?_append_left (by simp)]; simp
  unfold two
  simp [frzW, this, snapC]
theorem two_frz1 (m : Store) (b : List D) : frzW (m ++ [C.dead, C.lst (b.map .v)]) (some (.t (m.length + 1))) = some (W.v (.lst b), m ++ [C.dead, C.dead]) := by
  have := tok_frz (m := m ++ [C.dead]) (k := m.length + 1) (by simp) b
  simpa using this
theorem faults_map (s t : Sta) (i : Nat) : (s.faults t).map (fltD ∘ fun f => (i, f)) = (bif t.here == s.due false then [] else [fltD (i, false, s.wished false)]) ++ (bif t.here == s.due true then [] else [fltD (i, true, s.wished true)]) := by
  unfold Sta.faults
  cases q0 : t.here == s.due false <;> cases q1 : t.here == s.due true <;> simp [q0, q1]
theorem l_played (n : Nat) {p : Pr} (hp : p.okB = true) (hl : p.rows.length ≤ 1000) {h : Hi} (hh : h.okB = true) (m : Store) : sem TB (n + 6) 61 [.v p.d, .v h.d] m = .ok (.v (.tup [(h.play p).1.l, .lst (rowsD (h.play p).2.1), .lst (fltsD (h.play p).2.2)])) m := by
  simp only [Hi.okB, Bool.and_eq_true, decide_eq_true_eq] at hh
  obtain ⟨h1, h2⟩ := hh
  rw [sem_run df_l_played rfl]
  apply eq_of_sat
  have fs := l_new (n + 4) h.start m
  have loop : ∀ (es pre : List Ev) (s : Sta) (a b : List D), pre ++ es = h.evs → a.length + es.length ≤ 10000 → b.length + 2 * es.length ≤ 20000 → ∀ x1 x2 x3 x4 x5 x6, (loopS (evSL (Fs TB (n + 5)) (.cons (.asg 6 (.ix (.ix (.var 1) (.c (.int 1))) (.var 5))) (.cons (.asg 7 (.call 59 (.cons (.var 0) (.cons (.var 2) (.cons (.var 6) .nil))))) (.cons (.if_ (.cmp .eq (.ix (.var 6) (.c (.int 0))) (.c (.str "carry"))) (.cons (.mut .append (.var 3) (.cons (.call 57 (.cons (.var 0) (.cons (.var 2) (.cons (.ix (.var 6) (.c (.int 1))) .nil)))) .nil)) (.cons (.for_ (.n 8) (.seq (.lst false (.cons (.c (.str "changed")) (.cons (.c (.str "every")) .nil)))) (.cons (.asgG (.tup (.cons (.n 9) (.cons (.n 10) .nil))) (.call 60 (.cons (.var 2) (.cons (.var 8) .nil)))) (.cons (.if_ (.cmp .ne (.ix (.var 7) (.c (.int 1))) (.var 9)) (.cons (.mut .append (.var 4) (.cons (.tup (.cons (.var 5) (.cons (.var 8) (.cons (.var 10) .nil)))) .nil)) .nil) .nil) .nil))) .nil)) .nil) (.cons (.asg 2 (.var 7)) .nil))))) (.n 5)
      ((List.range' pre.length es.length).map fun k : Nat => D.int (k : Nat)) [some (.v p.d), some (.v h.d), some (.v s.l), some (.t m.length), some (.t (m.length + 1)), x1, x2, x3, x4, x5, x6] (two m a b)).sat
      (fun env m' => m' = two m (a ++ rowsD (played p s es pre.length).2.1) (b ++ fltsD (played p s es pre.length).2.2) ∧ ∃ x1 x2 x3 x4 x5 x6, env = [some (.v p.d), some (.v h.d), some (.v (played p s es pre.length).1.l), some (.t m.length), some (.t (m.length + 1)), x1, x2, x3, x4, x5, x6]) fun _ _ => False := by
    intro es
    induction es with
    | nil =>
      intro pre s a b _ _ _ x1 x2 x3 x4 x5 x6
      exact ⟨by simp [played, rowsD, fltsD], _, _, _, _, _, _, rfl⟩
    | cons e es ih =>
      intro pre s a b hm ha hb x1 x2 x3 x4 x5 x6
      simp only [List.length_cons] at ha hb
      have lt : pre.length < h.evs.length := by rw [← hm]; simp
      have hix : ixD (.tup (h.evs.map Ev.d)) (.int (pre.length : Nat)) = some e.d := by
        rw [ixD_tup, ixN_in (by omega) (by simp; exact lt)]
        simp [← hm]
      have ih := ih (pre ++ [e])
      rw [List.length_append, List.length_singleton] at ih
      rw [List.length_cons, List.range'_succ, List.map_cons, loopS_cons]
      have hap := l_done n s hp hl e (two m a b)
      have hm' : (pre ++ [e]) ++ es = h.evs := by rw [← hm]; simp
      have hd : h.d = .tup [vd h.start, .tup (h.evs.map Ev.d)] := rfl
      cases e with
      | carry ans =>
        have rf := l_row (n + 2) s hp hl ans (two m a b)
        have d0 := fun m' => l_due (n + 4) s false m'
        have d1 := fun m' => l_due (n + 4) s true m'
        have w0 : wayS false = "changed" := rfl
        have w1 : wayS true = "every" := rfl
        rw [w0] at d0
        rw [w1] at d1
        cases q0 : (s.step p (.carry ans)).here == s.due false <;> cases q1 : (s.step p (.carry ans)).here == s.due true
        all_goals
          have fe := faults_map s (s.step p (.carry ans)) pre.length
          rw [q0, q1] at fe
          simp only [cond_true, cond_false, List.nil_append, List.append_nil, List.cons_append] at fe
          have ih' := ih (s.step p (.carry ans)) (a ++ [.int (rowI (s.rowOf p ans))]) (b ++ (s.faults (s.step p (.carry ans))).map (fltD ∘ fun f => (pre.length, f))) hm' (by simp; omega) (by
            have : (s.faults (s.step p (.carry ans))).length ≤ 2 := by
              unfold Sta.faults
              rw [List.length_map]
              exact Nat.le_trans (List.length_filter_le _ _) (by simp)
            simp; omega)
          rw [fe] at ih'
          try simp only [List.append_nil] at ih'
          have hb2 : ∀ x : D, (b ++ [x]).length < 10000000 := fun x => by simp; omega
          generalize ((List.range' (pre.length + 1) es.length).map fun k : Nat => D.int (k : Nat)) = tail at ih' ⊢
          rw [hd] at ih' ⊢
          simp [hix, hap]
          have hb0 : b.length < 10000000 := by omega
          have hb1 : b.length < 9999999 := by omega
          have ha0 : a.length < 10000000 := by omega
          simp [Ev.d, two_isLst0, rf, two_app0, ha0, loopS_cons, loopS_nil, d0, d1, q0, q1, two_isLst1, two_app1, hb0, hb1, two_app1 _ _ _ _ (hb2 _)]
          refine (ih' _ _ _ _ _ _).mono ?_ fun _ _ z => z
          rintro env m' ⟨rfl, x1, x2, x3, x4, x5, x6, rfl⟩
          refine ⟨?_, _, _, _, _, _, _, rfl⟩
          have e2 : fltsD (played p s (.carry ans :: es) pre.length).2.2 = (s.faults (s.step p (.carry ans))).map (fltD ∘ fun f => (pre.length, f)) ++ fltsD (played p (s.step p (.carry ans)) es (pre.length + 1)).2.2 := by simp [played, fltsD]
          rw [e2, fe]
          simp [played, rowsD]
      | change v =>
        have ih' := ih (s.step p (.change v)) a b hm' (by omega) (by omega)
        generalize ((List.range' (pre.length + 1) es.length).map fun k : Nat => D.int (k : Nat)) = tail at ih' ⊢
        rw [hd] at ih' ⊢
        simp [hix, hap]
        simp [Ev.d]
        exact ih' _ _ _ _ _ _
      | delete =>
        have ih' := ih (s.step p .delete) a b hm' (by omega) (by omega)
        generalize ((List.range' (pre.length + 1) es.length).map fun k : Nat => D.int (k : Nat)) = tail at ih' ⊢
        rw [hd] at ih' ⊢
        simp [hix, hap]
        simp [Ev.d]
        exact ih' _ _ _ _ _ _
      | set v =>
        have ih' := ih (s.step p (.set v)) a b hm' (by omega) (by omega)
        generalize ((List.range' (pre.length + 1) es.length).map fun k : Nat => D.int (k : Nat)) = tail at ih' ⊢
        rw [hd] at ih' ⊢
        simp [hix, hap]
        simp [Ev.d]
        exact ih' _ _ _ _ _ _
      | remove =>
        have ih' := ih (s.step p .remove) a b hm' (by omega) (by omega)
        generalize ((List.range' (pre.length + 1) es.length).map fun k : Nat => D.int (k : Nat)) = tail at ih' ⊢
        rw [hd] at ih' ⊢
        simp [hix, hap]
        simp [Ev.d]
        exact ih' _ _ _ _ _ _
      | back =>
        have ih' := ih (s.step p .back) a b hm' (by omega) (by omega)
        generalize ((List.range' (pre.length + 1) es.length).map fun k : Nat => D.int (k : Nat)) = tail at ih' ⊢
        rw [hd] at ih' ⊢
        simp [hix, hap]
        simp [Ev.d]
        exact ih' _ _ _ _ _ _
  have hd : h.d = .tup [vd h.start, .tup (h.evs.map Ev.d)] := rfl
  rw [hd] at loop ⊢
  simp [d_l_played, fs]
  have e0 : m ++ [C.lst [], C.lst []] = two m [] [] := by simp [two]
  have er : rngD 0 (h.evs.length : Nat) = (List.range' ([] : List Ev).length h.evs.length).map fun k : Nat => D.int (k : Nat) := by
    simp [rngD, List.range_eq_range']
  rw [if_pos (by omega), sat_ok, e0, er]
  refine (loop h.evs [] (.first h.start) [] [] rfl (by simp; omega) (by simp; omega) none none none none none none).mono ?_ fun _ _ z => z.elim
  rintro env m' ⟨rfl, x1, x2, x3, x4, x5, x6, rfl⟩
  rw [List.nil_append, List.nil_append]
  simp [two_frz0, two_frz1]
  exact ⟨rfl, rfl, rfl⟩
end Cy.T
set_option Elab.async false
set_option linter.all false
set_option maxRecDepth 100000
set_option maxHeartbeats 2000000
/-! CyDraw5: drawn histories; rules that are nearly right. -/
namespace Cy.T
open PySem L2 Cy
theorem start (n : Nat) {rest m : Store} (hs : Src rest m) (low : Low rest) : (sem TB (n + 3) 53 [.t 1] m).sat fun w m' => Src rest m' ∧ ∃ v : Vl, w = .v (vd v) := by
  rw [sem_run df_l_start rfl]
  simp [d_l_start]
  refine (pick _ hs low (by simp) (by simp)).mono ?_
  rintro _ m1 ⟨hs1, x, hx, rfl⟩
  simp [src_trunc hs hs1 low]
  refine ⟨hs1, ?_⟩
  simp only [List.mem_cons, List.mem_nil_iff, or_false] at hx
  rcases hx with rfl | rfl | rfl
  · exact ⟨some 1, rfl⟩
  · exact ⟨some 2, rfl⟩
  · exact ⟨none, rfl⟩
theorem events (n : Nat) {most : Int} {rest m : Store} (hs : Src rest m) (low : Low rest) (h0 : 0 ≤ most) (h1 : most ≤ 100) :
    (sem TB (n + 3) 52 [.t 1, .v (.int most)] m).sat fun w m' => Src rest m' ∧ ∃ es : List Ev, es.all Ev.okB = true ∧ (es.length : Int) ≤ most ∧ w = .v (.tup (es.map Ev.d)) := by
  rw [sem_run df_l_events rfl]
  simp [d_l_events]
  have hk1 := hs.len
  generalize m.length = k at hk1 ⊢
  refine (next _ (hs.app [.lst []]) (low_lst low []) (by omega) (by omega)).mono ?_
  rintro _ m2 ⟨hs2, r, r0, r1, rfl⟩
  simp [show -1000000 ≤ r by omega, show r ≤ 1000000 by omega]
  refine loop_sat (fun pre env m' => ∃ es : List Ev, es.length = pre.length ∧ es.all Ev.okB = true ∧ (∃ ds : List D, ds = es.map Ev.d ∧ Src (rest ++ [.lst (ds.map .v)]) m') ∧ ∃ a b, env = [some (W.t 1), some (W.v (D.int most)), some (W.t k), a, b])
    _ [] _ _ ⟨[], rfl, rfl, ⟨[], rfl, by simpa using hs2⟩, _, _, rfl⟩ ?_ ?_
  · rintro p d post env m' hp ⟨es, h1', h2, ⟨ds, hds, hs'⟩, x4, x5, rfl⟩
    refine ⟨_, rfl, ?_⟩
    have hdl : ds.length < 1000 := by
      have := congrArg List.length hp
      simp [rngD] at this
      rw [hds, List.length_map]
      omega
    have low' := low_lst low ds
    have fin : ∀ (e : Ev) (mm : Store) (env' : Env), e.okB = true → Src (rest ++ [.lst (ds.map .v)]) mm → (∃ a b, env' = [some (W.t 1), some (W.v (D.int most)), some (W.t k), a, b]) → (onS (mutW mm .append (.t k) [.v e.d]) fun m' => RS.nx env' m').sat
        (fun e m' => ∃ es : List Ev, es.length = p.length + 1 ∧ (∀ x : Ev, x ∈ es → x.okB = true) ∧ Src (rest ++ [C.lst (List.map (W.v ∘ Ev.d) es)]) m' ∧ ∃ a b, e = [some (W.t 1), some (W.v (D.int most)), some (W.t k), a, b]) (fun w m_3 => (Cy.fin m w m_3).sat fun w m' => Src rest m' ∧ ∃ es : List Ev, (∀ x : Ev, x ∈ es → x.okB = true) ∧ (es.length : Int) ≤ most ∧ w = W.v (D.tup (List.map Ev.d es))) := by
      rintro e mm env' he hs5 ⟨a, b, rfl⟩
      obtain ⟨m5, s5, rfl, l5⟩ := hs5.split
      rw [← hk1] at l5
      rw [tok_append l5, if_pos (by simpa using (show ds.length < 10000000 by omega))]
      refine ⟨es ++ [e], by simp [h1'], ?_, ?_, _, _, rfl⟩
      · intro x hx
        rcases List.mem_append.mp hx with hx | hx
        · exact List.all_eq_true.mp h2 x hx
        · rw [List.mem_singleton.mp hx]; exact he
      · have := s5.app [C.lst ((ds ++ [e.d]).map .v)]
        simpa [hds] using this
    have isl : ∀ mm, Src (rest ++ [.lst (ds.map .v)]) mm → isLst mm (.t k) = true := fun mm hs5 => by
      obtain ⟨m5, s5, rfl, l5⟩ := hs5.split
      rw [← hk1] at l5
      exact tok_isLst l5 _
    simp only [evSL_cons, evSL_nil]
    simp
    refine (pick _ hs' low' (by simp) (by simp)).mono ?_
    rintro _ m3 ⟨hs3, x, hx, rfl⟩
    have vals : (sem TB (n + 2) 14 [W.t 1, W.v (D.lst [D.int 1, D.int 2, D.int 3, D.int (-5)])] m3).sat fun w m' => Src (rest ++ [.lst (ds.map .v)]) m' ∧ ∃ i, w = .v (.int i) := by
      refine (pick _ hs3 low' (by simp) (by simp)).mono ?_
      rintro _ m4 ⟨hs4, y, hy, rfl⟩
      simp only [List.mem_cons, List.mem_nil_iff, or_false] at hy
      rcases hy with rfl | rfl | rfl | rfl <;> exact ⟨hs4, _, rfl⟩
    have ans : (sem TB (n + 2) 14 [W.t 1, W.v (D.lst [D.str (Str.ofString "yes"), D.str (Str.ofString "no")])] m3).sat fun w m' => Src (rest ++ [.lst (ds.map .v)]) m' ∧ ∃ a : Str, (a == "yes" || a == "no") = true ∧ w = .v (.str a) := by
      refine (pick _ hs3 low' (by simp) (by simp)).mono ?_
      rintro _ m4 ⟨hs4, y, hy, rfl⟩
      simp only [List.mem_cons, List.mem_nil_iff, or_false] at hy
      rcases hy with rfl | rfl <;> exact ⟨hs4, _, by simp, rfl⟩
    have i3 := isl m3 hs3
    simp only [List.mem_cons, List.mem_nil_iff, or_false] at hx
    rcases hx with rfl | rfl | rfl | rfl | rfl | rfl | rfl | rfl | rfl | rfl
    · simp [inL_2, i3]
      refine vals.mono ?_
      rintro _ m4 ⟨hs4, i, rfl⟩
      simp
      exact fin (.change i) m4 _ rfl hs4 ⟨_, _, rfl⟩
    · simp [inL_2, i3]
      exact fin .delete m3 _ rfl hs3 ⟨_, _, rfl⟩
    · simp [inL_2, i3]
      refine vals.mono ?_
      rintro _ m4 ⟨hs4, i, rfl⟩
      simp
      exact fin (.set i) m4 _ rfl hs4 ⟨_, _, rfl⟩
    · simp [inL_2, i3]
      refine vals.mono ?_
      rintro _ m4 ⟨hs4, i, rfl⟩
      simp
      exact fin (.set i) m4 _ rfl hs4 ⟨_, _, rfl⟩
    · simp [inL_2, i3]
      exact fin .remove m3 _ rfl hs3 ⟨_, _, rfl⟩
    · simp [inL_2, i3]
      exact fin .back m3 _ rfl hs3 ⟨_, _, rfl⟩
    · simp [inL_2, i3]
      refine ans.mono ?_
      rintro _ m4 ⟨hs4, a, ha, rfl⟩
      simp
      exact fin (.carry a) m4 _ ha hs4 ⟨_, _, rfl⟩
    · simp [inL_2, i3]
      refine ans.mono ?_
      rintro _ m4 ⟨hs4, a, ha, rfl⟩
      simp
      exact fin (.carry a) m4 _ ha hs4 ⟨_, _, rfl⟩
    · simp [inL_2, i3]
      refine ans.mono ?_
      rintro _ m4 ⟨hs4, a, ha, rfl⟩
      simp
      exact fin (.carry a) m4 _ ha hs4 ⟨_, _, rfl⟩
    · simp [inL_2, i3]
      refine vals.mono ?_
      rintro _ m4 ⟨hs4, i, rfl⟩
      simp
      exact fin (.change i) m4 _ rfl hs4 ⟨_, _, rfl⟩
  · rintro env m' ⟨es, h1', h2, ⟨ds, hds, hs'⟩, x4, x5, rfl⟩
    obtain ⟨m5, s5, rfl, l5⟩ := hs'.split
    rw [← hk1] at l5
    simp [tok_asDs l5, src_end hs s5 low]
    refine ⟨s5, es, by simpa using h2, ?_, by rw [hds]⟩
    simp [rngD] at h1'
    omega
end Cy.T

set_option Elab.async false
set_option linter.all false
set_option maxRecDepth 100000
set_option maxHeartbeats 2000000
/-! CyDraw6: rules that are nearly right. -/
namespace Cy.T
open PySem L2 Cy
def near1 : Pr := ⟨["base"], [⟨[.pair "same" "own" "base"], "take"⟩]⟩
def near2 : Pr := ⟨["mine"], [⟨[.flag "free"], "take"⟩]⟩
def near3 : Pr := ⟨["base", "mine"], [⟨[.flag "mine"], "keep"⟩, ⟨[.pair "unlike" "own" "base"], "keep"⟩, ⟨[], "take"⟩]⟩
def near4 : Pr := ⟨["base", "mine"], [⟨[.flag "mine", .pair "unlike" "own" "base"], "keep"⟩, ⟨[], "take"⟩]⟩
def nears : List Pr := [near1, near2, near3, near4]
theorem nears_ok : ∀ p ∈ nears, p.okB = true ∧ p.rows.length ≤ 3 ∧ ∀ r ∈ p.rows, r.tests.length ≤ 3 := by
  intro p hp
  simp only [nears, List.mem_cons, List.mem_nil_iff, or_false] at hp
  rcases hp with rfl | rfl | rfl | rfl
  · exact ⟨by decide +kernel, by decide, by simp [near1]⟩
  · exact ⟨by decide +kernel, by decide, by simp [near2]⟩
  · exact ⟨by decide +kernel, by decide, by simp [near3]⟩
  · exact ⟨by decide +kernel, by decide, by simp [near4]⟩
theorem near (n : Nat) {rest m : Store} (hs : Src rest m) (low : Low rest) :
    (sem TB (n + 4) 51 [.t 1] m).sat fun w m' => Src rest m' ∧ ∃ p : Pr, p.okB = true ∧ p.rows.length ≤ 4 ∧ (∀ r ∈ p.rows, r.tests.length ≤ 3) ∧ w = .v p.d := by
  rw [sem_run df_l_near rfl]
  have hk1 := hs.len
  have low' : Low (rest ++ [.dead]) := low_app low rfl
  have frz : frzW (m ++ [C.lst ((nears.map Pr.d).map .v)]) (some (.t m.length)) = some (W.v (.lst (nears.map Pr.d)), m ++ [C.dead]) := tok_frz rfl _
  have e4 : [C.lst ((nears.map Pr.d).map W.v)] = [C.lst [.v near1.d, .v near2.d, .v near3.d, .v near4.d]] := rfl
  rw [e4] at frz
  simp only [near1, near2, near3, near4, Pr.d, Pr.nD, Pr.rD, Rw.d, Tst.d, List.map_cons, List.map_nil] at frz
  simp [d_l_near, tok_isLst rfl, tok_append rfl, frz]
  refine (pick _ (hs.app [.dead]) low' (by simp [nears]) (by simp [nears])).mono ?_
  rintro _ m1 ⟨hs1, x, hx, rfl⟩
  obtain ⟨p, hp, rfl⟩ : ∃ p ∈ nears, x = p.d := by
    have : x ∈ nears.map Pr.d := by
      simpa [nears, near1, near2, near3, near4, Pr.d, Pr.nD, Pr.rD, Rw.d, Tst.d] using hx
    obtain ⟨p, h1, h2⟩ := List.mem_map.mp this
    exact ⟨p, h1, h2.symm⟩
  obtain ⟨o1, o2, o3⟩ := nears_ok p hp
  obtain ⟨g1, g2⟩ := p.ok_of o1
  clear hx frz e4 hp
  have hd : p.d = .tup [p.nD, p.rD] := rfl
  rw [hd]
  simp
  refine (next _ hs1 low' (by omega) (by omega)).mono ?_
  rintro _ m2 ⟨hs2, r, r0, r1, rfl⟩
  simp
  by_cases hr : 0 < r
  · simp [hr]
    obtain ⟨m3, s3, rfl, l3⟩ := hs2.split
    rw [src_end hs s3 low]
    exact ⟨s3, p, o1, by omega, o3, rfl⟩
  · simp [hr]
    rw [show p.rD = .tup (p.rows.map Rw.d) from rfl]
    simp
    refine (next _ hs2 low' (by omega) (by omega)).mono ?_
    rintro _ m3 ⟨hs3, at_, a0, a1, rfl⟩
    simp
    refine (next _ hs3 low' (by omega) (by omega)).mono ?_
    rintro _ m4 ⟨hs4, c, c0, c1, rfl⟩
    simp [show -1000000 ≤ 1 + c by omega, show 1 + c ≤ 1000000 by omega]
    rw [show p.nD = .tup (p.notes.map .str) from rfl]
    refine R.sat.mono (tests_comp n (notes := p.notes) low' ?_ hs4) ?_
    · intro d m
      refine ⟨_, rfl, ?_⟩
      simp
    rintro _ m5 ⟨hs5, ts, rfl, t1, t2⟩
    have tl : ts.length ≤ 3 := by simp [rngD] at t1; omega
    simp [show ts.length ≤ 10000000 by omega]
    refine (pick _ hs5 low' (by simp) (by simp)).mono ?_
    rintro _ m6 ⟨hs6, a, ha, rfl⟩
    obtain ⟨act, rfl, hact⟩ : ∃ act : Str, a = .str act ∧ acts.contains act = true := by
      simp only [List.mem_cons, List.mem_nil_iff, or_false] at ha
      rcases ha with rfl | rfl | rfl | rfl
      · exact ⟨"take", rfl, by decide⟩
      · exact ⟨"keep", rfl, by decide⟩
      · exact ⟨"drop", rfl, by decide⟩
      · exact ⟨"claim", rfl, by decide⟩
    obtain ⟨m7, s7, rfl, l7⟩ := hs6.split
    simp [cutL_to _ a0, cutL_from _ a0]
    rw [if_pos (by omega)]
    simp
    rw [if_pos (by omega)]
    simp [src_end hs s7 low]
    refine ⟨s7, ⟨p.notes, p.rows.take at_.toNat ++ ⟨ts, act⟩ :: p.rows.drop at_.toNat⟩, ?_, ?_, ?_, ?_⟩
    · simp only [Pr.okB, Bool.and_eq_true, List.all_eq_true]
      refine ⟨by simpa using g1, fun x hx => ?_⟩
      rcases List.mem_append.mp hx with hx | hx
      · exact g2 x (List.mem_of_mem_take hx)
      · rcases List.mem_cons.mp hx with rfl | hx
        · simp only [Rw.okB, Bool.and_eq_true, decide_eq_true_eq]
          exact ⟨⟨t2, by omega⟩, hact⟩
        · exact g2 x (List.mem_of_mem_drop hx)
    · simp; omega
    · intro x hx
      rcases List.mem_append.mp hx with hx | hx
      · exact o3 x (List.mem_of_mem_take hx)
      · rcases List.mem_cons.mp hx with rfl | hx
        · exact tl
        · exact o3 x (List.mem_of_mem_drop hx)
    · simp [Pr.d, Pr.nD, Pr.rD, Rw.d, List.map_take, List.map_drop]
end Cy.T

set_option Elab.async false
set_option linter.all false
set_option maxRecDepth 100000
set_option maxHeartbeats 2000000
/-! CyOut: outcomes. -/
namespace Cy.T
open PySem L2 Cy
def ocD (s : Sta) (rs fs : List D) (mm : Str) : D := .obj 2 [s.d, .tup rs, .tup fs, .str mm]
section
variable (n : Nat) (s : Sta) (rs fs : List D) (mm : Str) (m : Store)
@[simp] theorem isCls_oc : isCls 2 m (.v (ocD s rs fs mm)) = true := rfl
@[simp] theorem fld_oc0 : fldW 2 0 m (.v (ocD s rs fs mm)) = some (.v s.d) := rfl
@[simp] theorem fld_oc1 : fldW 2 1 m (.v (ocD s rs fs mm)) = some (.v (.tup rs)) := rfl
@[simp] theorem fld_oc2 : fldW 2 2 m (.v (ocD s rs fs mm)) = some (.v (.tup fs)) := rfl
@[simp] theorem fld_oc3 : fldW 2 3 m (.v (ocD s rs fs mm)) = some (.v (.str mm)) := rfl
theorem o_own : sem TB (n + 1) 41 [.v (ocD s rs fs mm)] m = .ok (.v (vd s.here)) m := by rw [sem_run df_p_Outcome_own rfl]; simp [d_p_Outcome_own]
theorem o_above : sem TB (n + 1) 42 [.v (ocD s rs fs mm)] m = .ok (.v (vd s.up)) m := by rw [sem_run df_p_Outcome_above rfl]; simp [d_p_Outcome_above]
theorem o_base : sem TB (n + 1) 43 [.v (ocD s rs fs mm)] m = .ok (.v (vd s.before)) m := by rw [sem_run df_p_Outcome_base rfl]; simp [d_p_Outcome_base]
theorem o_mine : sem TB (n + 1) 44 [.v (ocD s rs fs mm)] m = .ok (.v (.bl s.mine)) m := by rw [sem_run df_p_Outcome_mine rfl]; simp [d_p_Outcome_mine]
theorem o_rows (h : rs.length ≤ 10000000) : sem TB (n + 1) 45 [.v (ocD s rs fs mm)] m = .ok (.v (.lst rs)) m := by rw [sem_run df_p_Outcome_rows rfl]; simp [d_p_Outcome_rows, h]
theorem o_faults (h : fs.length ≤ 10000000) : sem TB (n + 1) 46 [.v (ocD s rs fs mm)] m = .ok (.v (.lst fs)) m := by rw [sem_run df_p_Outcome_faults rfl]; simp [d_p_Outcome_faults, h]
theorem o_rows_t (h : rs.length ≤ 10000000) : sem TB (n + 1) 191 [.v (ocD s rs fs mm)] m = .ok (.t m.length) (m ++ [.lst (rs.map .v)]) := by rw [sem_run df_p_Outcome_rows_t rfl]; simp [d_p_Outcome_rows_t, h]
theorem o_faults_t (h : fs.length ≤ 10000000) : sem TB (n + 1) 192 [.v (ocD s rs fs mm)] m = .ok (.t m.length) (m ++ [.lst (fs.map .v)]) := by rw [sem_run df_p_Outcome_faults_t rfl]; simp [d_p_Outcome_faults_t, h]
theorem bfR_lenS (x : Str) (tk : Bool) (h : x.length ≤ 10000000) : bfR .len tk [.str x] m = .ok (.v (.int (x.length : Nat))) m := by
  unfold bfR
  have e : lenD (.str x) = some x.length := if_pos h
  simp [bfL, bfD, e]
theorem o_len (h : mm.length ≤ 10000000) : sem TB (n + 1) 47 [.v (ocD s rs fs mm)] m = .ok (.v (.int (mm.length : Nat))) m := by rw [sem_run df_p_Outcome_len rfl]; simp [d_p_Outcome_len, bfR_lenS _ _ _ h]
def toldD : D := .tup [.tup [vd s.here, vd s.up, vd s.before, .bl s.mine], .tup rs, .tup fs, .str mm]
theorem o_told : sem TB (n + 1) 48 [.v (ocD s rs fs mm)] m = .ok (.v (toldD s rs fs mm)) m := by rw [sem_run df_p_Outcome_told rfl]; simp [d_p_Outcome_told, toldD]
theorem vd_plain (v : Vl) : plain (vd v) = true ∧ dep (vd v) = 0 := by cases v <;> simp [vd, plain, dep]
theorem told_plain (h1 : plains rs = true) (h2 : plains fs = true) (h3 : deps rs ≤ 10) (h4 : deps fs ≤ 10) : plain (toldD s rs fs mm) = true ∧ dep (toldD s rs fs mm) ≤ 60 := by
  simp [toldD, plain, plains, dep, deps, (vd_plain _).1, (vd_plain _).2, h1, h2]
  omega
theorem o_eq (h1 : plains rs = true) (h2 : plains fs = true) (h3 : deps rs ≤ 10) (h4 : deps fs ≤ 10) : sem TB (n + 2) 49 [.v (ocD s rs fs mm), .v (ocD s rs fs mm)] m = .ok (.v (.bl true)) m := by
  rw [sem_run df_p_Outcome_eq rfl]
  obtain ⟨p1, p2⟩ := told_plain s rs fs mm h1 h2 h3 h4
  have e := eqO_self p1 p2
  have i : isObj 2 (ocD s rs fs mm) = true := rfl
  simp [d_p_Outcome_eq, i, o_told, e]
end
theorem mulS_len (k : Nat) : (mulS "m" (k : Nat)).length = k := by
  unfold mulS
  have e1 : ("m" : Str).length = 1 := by decide +kernel
  have e2 : ("m" : Str).cps.size = 1 := e1
  rcases Nat.lt_or_ge k 1 with h | h
  · rw [if_pos (by omega)]
    show 0 = k
    omega
  · rw [if_neg (by omega)]
    by_cases h1 : k = 1
    · subst h1
      rw [if_pos (by simp)]; exact e1
    · rw [if_neg (by simp [e1]; omega)]
      show (List.foldl _ #[] _).size = k
      have : ∀ (j : Nat) (acc : Array Nat), (List.foldl (· ++ ·) acc (List.replicate j ("m" : Str).cps)).size = acc.size + j := by
        intro j
        induction j with
        | zero => intro acc; simp
        | succ j ih => intro acc; rw [List.replicate_succ, List.foldl_cons, ih, Array.size_append, e2]; omega
      rw [Int.toNat_natCast, this]
      simp
theorem o_len2 (n k : Nat) (h : k ≤ 1000) (st : Sta) (rs fs : List D) (m : Store) : sem TB (n + 1) 47 [.v (ocD st rs fs (mulS "m" k))] m = .ok (.v (.int (k:Nat))) m := by
  have := o_len n st rs fs (mulS "m" k) m (by rw [mulS_len]; omega)
  rw [mulS_len] at this
  exact this
theorem rowsD_plain (rs : List (Option Nat)) : plains (rowsD rs) = true ∧ deps (rowsD rs) = 0 ∧ smalls (rowsD rs) = true := by
  induction rs with
  | nil => exact ⟨rfl, rfl, rfl⟩
  | cons r rs ih =>
    obtain ⟨h1, h2, h3⟩ := ih
    have h1' : plains (rs.map fun r => D.int (rowI r)) = true := h1
    have h2' : deps (rs.map fun r => D.int (rowI r)) = 0 := h2
    have h3' : smalls (rs.map fun r => D.int (rowI r)) = true := h3
    simp [rowsD, plains, plain, deps, dep, smalls, small, h1', h2', h3']
theorem fltsD_plain (fs : List (Nat × Bool × Bool)) : plains (fltsD fs) = true ∧ deps (fltsD fs) ≤ 1 ∧ smalls (fltsD fs) = true := by
  induction fs with
  | nil => exact ⟨rfl, Nat.zero_le _, rfl⟩
  | cons f fs ih =>
    obtain ⟨h1, h2, h3⟩ := ih
    have h1' : plains (fs.map fltD) = true := h1
    have h2' : deps (fs.map fltD) ≤ 1 := h2
    have h3' : smalls (fs.map fltD) = true := h3
    simp [fltsD, plains, plain, deps, dep, smalls, small, fltD, h1', h3']
    omega
theorem outD_oc (p : Pr) (h : Hi) : outD p h = ocD (h.play p).1 (rowsD (h.play p).2.1) (fltsD (h.play p).2.2) (mulS "m" h.evs.length) := rfl
end Cy.T

set_option Elab.async false
set_option linter.all false
set_option maxRecDepth 100000
set_option maxHeartbeats 2000000
/-! CyEx: what is raised, and caught. -/
namespace Cy
open PySem
section
variable {F : Fns} {env : Env} {m : Store}
@[simp] theorem next_ex (c : Nat) (ds : List D) (k : Env → Store → RS) : (RS.ex c ds m).next k = .ex c ds m := rfl
@[simp] theorem noexS_nx : (RS.nx env m).noex = .nx env m := rfl
@[simp] theorem ev_dict0 (tk kt : Bool) : ev F (.dict tk kt .nil .nil) env m = newD tk kt [] [] m := by
  cases kt <;> simp [ev, evL, dispD, R.bind, onO, asDs]
@[simp] theorem newD_t (t : Bool) (ks : List D) (ws : List W) : newD true t ks ws m = .ok (.t m.length) (m ++ [.dict t ks ws]) := rfl
@[simp] theorem tryS_ok (w : W) (k : W → Store → RS) (h : Nat → List D → Store → RS) : tryS (.ok w m) k h = k w m := rfl
@[simp] theorem tryS_ex (c : Nat) (ds : List D) (k : W → Store → RS) (h : Nat → List D → Store → RS) : tryS (.ex c ds m) k h = h c ds m := rfl
@[simp] theorem evTX_call (f : Nat) (es : EL) : evTX F (.call f es) env m = (evL F es env m).noex.bind fun ws m => F.fn f ws m := rfl
@[simp] theorem evTX_make (c f : Nat) (es : EL) : evTX F (.make c f es) env m = (evL F es env m).noex.bind fun ws m => made F false c f ws m := rfl
@[simp] theorem evTX_meth (c f : Nat) (o : E) (es : EL) : evTX F (.meth c f o es) env m = (ev F o env m).noex.bind fun x m => if isCls c m x then (evL F es env m).noex.bind fun ws m => F.fn f (x :: ws) m else .bad := rfl
@[simp] theorem catchS_1 (kn : List Nat) (hs : List HD) (n : Nat) (e : D) : catchS kn hs n [e] env m = if kn.contains n = true then catchL n e env m hs else .bad := rfl
@[simp] theorem catchL_cons (h : HD) (hs : List HD) (n : Nat) (e : D) : catchL n e env m (h :: hs) = if n = h.c then if h.j < env.length then .nx (clrS h.j (setS h.i (.v (hxV h.x e)) env)) m else .bad else catchL n e env m hs := rfl
@[simp] theorem hxV_f (e : D) : hxV .f e = e := rfl
@[simp] theorem hxV_c (d e : D) : hxV (.c d) e = d := rfl
@[simp] theorem hxV_lst (h : HX) (e : D) : hxV (.lst h) e = .lst [hxV h e] := rfl
@[simp] theorem hxV_tup (d : D) (h : HX) (e : D) : hxV (.tup d h) e = .tup [d, hxV h e] := rfl
@[simp] theorem hxV_isi (c : Nat) (h : HX) (e : D) : hxV (.isi c h) e = hxV h e := rfl
@[simp] theorem storeO_some (i : Nat) (w : W) : storeO (some i) w env = setS i w env := rfl
@[simp] theorem storeO_none (w : W) : storeO none w env = env := rfl
end
end Cy

set_option Elab.async false
set_option linter.all false
set_option maxRecDepth 100000
set_option maxHeartbeats 4000000
/-! K01Rule: rules refused. -/
namespace Cy.T
open PySem L2 Cy
theorem eqBs_len : ∀ {xs ys : List D}, eqBs xs ys = true → xs.length = ys.length
  | [], [], _ => rfl
  | [], _ :: _, h => by simp [eqBs] at h
  | _ :: _, [], h => by simp [eqBs] at h
  | x :: xs, y :: ys, h => by
    simp only [eqBs, Bool.and_eq_true] at h
    simp [eqBs_len h.2]
theorem in_notes {nd : D} (h : Thing nd) : inD nd (.lst [.tup [], .tup [.str "base"], .tup [.str "mine"], .tup [.str "base", .str "mine"]]) = some (notesB nd) := by
  obtain ⟨h1, h2⟩ := h
  have e : inD nd (.lst dNOTES) = some (dNOTES.any fun y => eqB y nd) := by
    show (if (plain nd && plains dNOTES && decide (dep nd ≤ 60) && decide (deps dNOTES ≤ 60)) = true then some (dNOTES.any fun y => eqB y nd) else none) = _
    rw [if_pos (by rw [h1, dNOTES_plain.1, dNOTES_plain.2]; simp; omega)]
  show inD nd (.lst dNOTES) = _
  rw [e]
  congr 1
  cases nd with
  | tup ds =>
    match ds with
    | [] => simp [notesB, dNOTES, allNotes, eqB, eqBs]
    | [x] => cases x <;> simp [notesB, dNOTES, allNotes, eqB, eqBs]
    | [x, y] => cases x <;> cases y <;> simp [notesB, dNOTES, allNotes, eqB, eqBs]
    | a :: b :: c :: r =>
      have key : (dNOTES.any fun y => eqB y (.tup (a :: b :: c :: r))) = false := by
        rw [List.any_eq_false]
        intro y hy hq
        obtain ⟨ns, hns, rfl⟩ := List.mem_map.mp hy
        have hq : eqBs (ns.map .str) (a :: b :: c :: r) = true := hq
        have hl := eqBs_len hq
        simp only [allNotes, List.mem_cons, List.mem_nil_iff, or_false] at hns
        rcases hns with rfl | rfl | rfl | rfl <;> simp at hl
      rw [key]
      unfold notesB
      rw [key]
      simp
  | _ => simp [notesB, dNOTES, allNotes, eqB]
theorem notes_of {nd : D} (h : notesB nd = true) : ∃ ns ∈ allNotes, nd = .tup (ns.map .str) := by
  cases nd with
  | tup ds =>
    simp only [notesB, Bool.and_eq_true, List.any_eq_true] at h
    obtain ⟨-, y, hy, he⟩ := h
    obtain ⟨ns, hns, rfl⟩ := List.mem_map.mp hy
    refine ⟨ns, hns, ?_⟩
    have key : ∀ (ws : List Str) (ds : List D), eqBs (ws.map .str) ds = true → ds = ws.map .str := by
      intro ws
      induction ws with
      | nil => intro ds h; cases ds with | nil => rfl | cons _ _ => simp [eqBs] at h
      | cons w ws ih =>
        intro ds h
        cases ds with
        | nil => simp [eqBs] at h
        | cons d ds =>
          simp only [List.map_cons, eqBs, Bool.and_eq_true] at h
          cases d <;> simp only [eqB, beq_iff_eq, Bool.false_eq_true, false_and] at h
          rw [List.map_cons, ← h.1, ih ds h.2]
    rw [key ns ds (by simpa [eqB] using he)]
  | _ => simp [notesB] at h
/-- the first row that is none -/
def badRow (b mi : Bool) : List D → Nat → Option Nat
  | [], _ => none
  | d :: ds, i => if rowB b mi d then badRow b mi ds (i + 1) else some i
def faultR (ns : List Str) : D → Option Int
  | .tup rs => if 8 < rs.length then some 8 else (badRow (hasB ns "base") (hasB ns "mine") rs 0).map fun i : Nat => (i : Int)
  | _ => some 8
theorem faultR_tup (ns : List Str) (rs : List D) : faultR ns (.tup rs) = if 8 < rs.length then some 8 else (badRow (hasB ns "base") (hasB ns "mine") rs 0).map fun i : Nat => (i : Int) := rfl
def optI' : Option Int → D
  | none => .non
  | some i => .int i
theorem fault_a (n : Nat) {nd rd : D} (h : Thing nd) (hb : notesB nd = false) (m : Store) : sem TB (n + 1) 20 [.v nd, .v rd] m = .ok (.v (.int (-1))) m := by
  rw [sem_run df_l_fault rfl]
  have i := in_notes h
  rw [hb] at i
  simp [d_l_fault, i]
theorem badRow_filter (b mi : Bool) : ∀ (rs : List D) (i : Nat), ((List.range rs.length).filter fun k => !(rowB b mi (rs.getD k .non))).map (fun k => k + i) = [] ∧ badRow b mi rs i = none ∨ ∃ k rest, ((List.range rs.length).filter fun k => !(rowB b mi (rs.getD k .non))).map (fun k => k + i) = k :: rest ∧ badRow b mi rs i = some k := by
  intro rs
  induction rs with
  | nil => intro i; exact .inl ⟨rfl, rfl⟩
  | cons d ds ih =>
    intro i
    have rg : List.range (d :: ds).length = 0 :: (List.range ds.length).map (· + 1) := by rw [List.length_cons, List.range_succ_eq_map]
    have tl : (((List.range ds.length).map (· + 1)).filter fun k => !(rowB b mi ((d :: ds).getD k .non))).map (fun k => k + i) = ((List.range ds.length).filter fun k => !(rowB b mi (ds.getD k .non))).map (fun k => k + (i + 1)) := by
      rw [List.filter_map, List.map_map]
      refine congr (congrArg List.map (funext fun k => by show k + 1 + i = k + (i + 1); omega)) ?_
      exact List.filter_congr fun k _ => by simp
    rw [rg, List.filter_cons]
    unfold badRow
    cases hr : rowB b mi d with
    | true =>
      have : (!(rowB b mi ((d :: ds).getD 0 .non))) = false := by simp [hr]
      rw [this]
      simp only [Bool.false_eq_true, if_false, if_true]
      rw [tl]
      exact ih (i + 1)
    | false =>
      have : (!(rowB b mi ((d :: ds).getD 0 .non))) = true := by simp [hr]
      rw [this]
      simp only [Bool.false_eq_true, if_false, if_true, List.map_cons]
      exact .inr ⟨i, _, by rw [Nat.zero_add], rfl⟩
theorem ints_plain (is : List Nat) : plains (is.map fun i : Nat => D.int i) = true ∧ deps (is.map fun i : Nat => D.int i) = 0 := by
  induction is with
  | nil => exact ⟨rfl, rfl⟩
  | cons i is ih => exact ⟨by simp [plains, plain, ih.1], by simp [deps, dep, ih.2]⟩
theorem rng_nat (k : Nat) : rngD 0 k = (List.range k).map fun i : Nat => D.int i := by
  unfold rngD
  simp
theorem fault_b (n : Nat) {ns : List Str} (hn : ns ∈ allNotes) {rd : D} (h : Thing rd) (m : Store) : sem TB (n + 3) 20 [.v (.tup (ns.map .str)), .v rd] m = .ok (.v (optI' (faultR ns rd))) m := by
  rw [sem_run df_l_fault rfl]
  have tn : Thing (.tup (ns.map .str)) := ⟨plains_str ns, by simp only [dep, deps_str]; omega⟩
  have i := in_notes tn
  rw [(notesB_ok (by simpa using hn)).1] at i
  cases rd with
  | tup rs =>
    have hrs := fun x (hm : x ∈ rs) => thing_mem h hm
    by_cases h8 : 8 < rs.length
    · have g8 : decide ((8 : Int) < (rs.length : Int)) = true := decide_eq_true (by omega)
      have g8n : decide (8 < rs.length) = true := decide_eq_true h8
      have fr : faultR ns (.tup rs) = some 8 := by rw [faultR_tup, if_pos h8]
      rw [fr]
      generalize ns.map D.str = NS at *
      simp [d_l_fault, i, g8, g8n, optI', -decide_eq_true_eq]
    · have g8 : decide ((8 : Int) < (rs.length : Int)) = false := decide_eq_false (by omega)
      have g8n : decide (8 < rs.length) = false := decide_eq_false h8
      have fr : faultR ns (.tup rs) = (badRow (hasB ns "base") (hasB ns "mine") rs 0).map fun i : Nat => (i : Int) := by rw [faultR_tup, if_neg h8]
      rw [fr]
      let P : Nat → Bool := fun k => !(rowB (hasB ns "base") (hasB ns "mine") (rs.getD k .non))
      have cm : ∀ e0 e1 e2 e3, e0 = some (.v (.tup (ns.map .str))) → e1 = some (.v (.tup rs)) → foldR (compT (Fs TB (n + 2)) (.n 3) (.cons (.not_ (.call 19 (.cons (.var 0) (.cons (.ix (.var 1) (.var 3)) .nil)))) .nil) (.var 3) [e0, e1, e2, e3]) (rngD 0 rs.length) [] m = .ok ((((List.range rs.length).filter P).map fun i : Nat => D.int i).map .v) m := fun e0 e1 e2 e3 he0 he1 => by
        subst he0 he1
        rw [rng_nat, comp_pure (fun d => match d with | .int k => P k.toNat | _ => false) W.v _ [] fun d hd => ?_]
        · rw [List.nil_append, List.filter_map]
          rfl
        · obtain ⟨k, hk, rfl⟩ := List.mem_map.mp hd
          have hk := List.mem_range.mp hk
          have x := hrs rs[k] (List.getElem_mem hk)
          have g := is_row_g n ns x m
          have gx : ixD (.tup rs) (.int (k : Nat)) = some rs[k] := by
            rw [ixD_tup, ixN_in (by omega) (by omega)]
            simp [hk]
          have pk : P k = !(rowB (hasB ns "base") (hasB ns "mine") rs[k]) := by simp [P, hk]
          have pk' : (match D.int (k : Nat) with | .int k => P k.toNat | _ => false) = P k := by simp
          generalize ns.map D.str = NS at *
          refine ⟨_, rfl, ?_, fun _ => by simp⟩
          rw [pk', pk]
          simp [gx, g]
      have bf := badRow_filter (hasB ns "base") (hasB ns "mine") rs 0
      have fl : ((List.range rs.length).filter P).length ≤ 8 := by
        have := List.length_filter_le P (List.range rs.length)
        rw [List.length_range] at this
        omega
      obtain ⟨p1, p2⟩ := ints_plain ((List.range rs.length).filter P)
      have nl := eqO_lnil p1 (by omega)
      have small : (rs.length : Int) ≤ 1000000 := by omega
      have low : (-1000000 : Int) ≤ (rs.length : Int) := by omega
      have fl2 : ((((List.range rs.length).filter P).map fun i : Nat => D.int i)).length ≤ 10000000 := by rw [List.length_map]; omega
      have bf : (List.range rs.length).filter P = [] ∧ badRow (hasB ns "base") (hasB ns "mine") rs 0 = none ∨ ∃ k rest, (List.range rs.length).filter P = k :: rest ∧ badRow (hasB ns "base") (hasB ns "mine") rs 0 = some k := by
        have e : ((List.range rs.length).filter P).map (fun k => k + 0) = (List.range rs.length).filter P := by simp
        have bf' : (((List.range rs.length).filter P).map (fun k => k + 0) = [] ∧ badRow (hasB ns "base") (hasB ns "mine") rs 0 = none) ∨ ∃ k rest, ((List.range rs.length).filter P).map (fun k => k + 0) = k :: rest ∧ badRow (hasB ns "base") (hasB ns "mine") rs 0 = some k := bf
        rw [e] at bf'
        exact bf'
      rcases bf with ⟨b1, b2⟩ | ⟨k, rest, b1, b2⟩
      · rw [b2]
        rw [b1] at cm nl
        simp only [List.map_nil, List.isEmpty_nil] at cm nl
        generalize ns.map D.str = NS at *
        simp [d_l_fault, i, g8, g8n, optI', -decide_eq_true_eq, -decide_eq_false_iff_not]
        rw [if_pos small]
        simp [cm, nl]
      · rw [b2]
        rw [b1] at cm nl fl2
        simp only [List.map_cons, List.isEmpty_cons] at cm nl fl2
        generalize rest.map (fun i : Nat => D.int i) = RS at *
        generalize ns.map D.str = NS at *
        simp [d_l_fault, i, g8, g8n, optI', -decide_eq_true_eq, -decide_eq_false_iff_not]
        rw [if_pos small]
        have fl3 : RS.length + 1 ≤ 10000000 := by simpa using fl2
        simp [cm, nl, fl3]
  | _ =>
    generalize ns.map D.str = NS at *
    simp [d_l_fault, i, isTupD, optI', faultR]
theorem init_loop (n : Nat) {ns : List Str} {M : Store} {e0 e2 : Option W} {j : Nat} : ∀ (rs : List D) (i : Nat) (e3 e4 : Option W), badRow (hasB ns "base") (hasB ns "mine") rs i = some j →
    loopS (evSL (Fs TB (n + 3)) (S.body (SL.get 2 d_p_Rule_init.body))) (.tup (.cons (.n 3) (.cons (.n 4) .nil))) ((List.zipIdx rs i).map fun p => .tup [.int (p.2 : Nat), p.1]) [e0, some (.v (.tup (ns.map .str))), e2, e3, e4] M = .ex 21 [.int (j : Nat)] M := by
  intro rs
  induction rs with
  | nil => intro i e3 e4 h; cases h
  | cons d ds ih =>
    intro i e3 e4 h
    have ir := is_row n ns d M
    rw [List.zipIdx_cons, List.map_cons, loopS_cons]
    unfold badRow at h
    cases hr : rowB (hasB ns "base") (hasB ns "mine") d with
    | true =>
      rw [hr] at h ir
      have ih' := ih (i + 1) (some (.v (.int (i : Nat)))) (some (.v d)) (by simpa using h)
      generalize ((List.zipIdx ds (i + 1)).map fun p => D.tup [.int (p.2 : Nat), p.1]) = tail at ih' ⊢
      generalize ns.map D.str = NS at *
      simp only [d_p_Rule_init, SL.get, S.body] at ih' ⊢
      simp [ir, ih']
    | false =>
      rw [hr] at h ir
      have h : i = j := by simpa using h
      subst h
      generalize ((List.zipIdx ds (i + 1)).map fun p => D.tup [.int (p.2 : Nat), p.1]) = tail
      generalize ns.map D.str = NS at *
      simp only [d_p_Rule_init, SL.get, S.body]
      simp [ir]
theorem init_ex (n : Nat) {ns : List Str} (hn : ns ∈ allNotes) {rd : D} {i : Int} (h : faultR ns rd = some i) (m : Store) :
    sem TB (n + 4) 5 [.t m.length, .v (.tup (ns.map .str)), .v rd] (m ++ [.obj 1 []]) = .ex 21 [.int i] (m ++ [.obj 1 []]) := by
  rw [sem_run df_p_Rule_init rfl]
  obtain ⟨n1, n2⟩ := notesB_ok (notes := ns) (by simpa using hn)
  have an := are_notes (n + 2) (.tup (ns.map .str)) (fun ds e => by cases e; simp; omega) (m ++ [.obj 1 []])
  rw [n1] at an
  cases rd with
  | tup rs =>
    rw [faultR_tup] at h
    by_cases h8 : 8 < rs.length
    · rw [if_pos h8] at h
      cases h
      have g8 : decide ((8 : Int) < (rs.length : Int)) = true := decide_eq_true (by omega)
      have g8n : decide (8 < rs.length) = true := decide_eq_true h8
      generalize ns.map D.str = NS at *
      simp [d_p_Rule_init, an, gl_MOST_ROWS, g8, g8n, -decide_eq_true_eq]
    · rw [if_neg h8] at h
      obtain ⟨j, hj, rfl⟩ := Option.map_eq_some_iff.mp h
      have g8 : decide ((8 : Int) < (rs.length : Int)) = false := decide_eq_false (by omega)
      have g8n : decide (8 < rs.length) = false := decide_eq_false h8
      have lp := init_loop n (M := m ++ [.obj 1 []]) (e0 := some (.t m.length)) (e2 := some (.v (.tup rs))) rs 0 none none hj
      simp only [d_p_Rule_init, SL.get, S.body] at lp
      generalize ns.map D.str = NS at *
      simp [d_p_Rule_init, an, gl_MOST_ROWS, g8, g8n, -decide_eq_true_eq, -decide_eq_false_iff_not]
      rw [lp]
      simp
  | _ =>
    have h : (some 8 : Option Int) = some i := h
    cases h
    generalize ns.map D.str = NS at *
    simp [d_p_Rule_init, an, gl_MOST_ROWS, isTupD]
theorem init_not (n : Nat) {nd rd : D} (hl : ∀ ds, nd = .tup ds → ds.length ≤ 1000) (hb : notesB nd = false) (m : Store) :
    sem TB (n + 4) 5 [.t m.length, .v nd, .v rd] (m ++ [.obj 1 []]) = .ex 21 [.int (-1)] (m ++ [.obj 1 []]) := by
  rw [sem_run df_p_Rule_init rfl]
  have an := are_notes (n + 2) nd (fun ds e => by have := hl ds e; omega) (m ++ [.obj 1 []])
  rw [hb] at an
  simp [d_p_Rule_init, an]
theorem made_exc {n : Nat} {a b : D} {i : Int} {m : Store} (h : sem TB n 5 [.t m.length, .v a, .v b] (m ++ [.obj 1 []]) = .ex 21 [.int i] (m ++ [.obj 1 []])) : made (Fs TB n) false 1 5 [.v a, .v b] m = .ex 21 [.int i] m := by
  unfold made
  rw [Fs_fn, h]
  simp
theorem tried_ex (n : Nat) {a b : D} {i : Int} {m : Store} (h : made (Fs TB n) false 1 5 [.v a, .v b] m = .ex 21 [.int i] m) : sem TB (n + 1) 21 [.v a, .v b] m = .ok (.v (.int i)) m := by
  rw [sem_run df_l_tried rfl]
  simp [d_l_tried, h]
theorem tried_ok (n : Nat) {a b r : D} {m : Store} (h : made (Fs TB n) false 1 5 [.v a, .v b] m = .ok (.v r) m) : sem TB (n + 1) 21 [.v a, .v b] m = .ok (.v r) m := by
  rw [sem_run df_l_tried rfl]
  simp [d_l_tried, h]
/-- what both say of any notes and rows -/
theorem tried_fault (n : Nat) {nd rd : D} (h1 : Thing nd) (h2 : Thing rd) (hl : ∀ ds, nd = .tup ds → ds.length ≤ 1000) {m : Store} (hc : Cl m) :
    (∃ i : Int, sem TB (n + 5) 20 [.v nd, .v rd] m = .ok (.v (.int i)) m ∧ sem TB (n + 5) 21 [.v nd, .v rd] m = .ok (.v (.int i)) m) ∨
    ∃ ns rs, ns ∈ allNotes ∧ nd = .tup (ns.map .str) ∧ rd = .tup rs ∧ rs.length ≤ 8 ∧ rs.all (rowB (hasB ns "base") (hasB ns "mine")) = true ∧ sem TB (n + 5) 20 [.v nd, .v rd] m = .ok (.v .non) m ∧ sem TB (n + 5) 21 [.v nd, .v rd] m = .ok (.v (ruleD nd rd)) m := by
  cases hb : notesB nd with
  | false => exact .inl ⟨-1, fault_a (n + 4) h1 hb m, tried_ex (n + 4) (made_exc (init_not n hl hb m))⟩
  | true =>
    obtain ⟨ns, hns, rfl⟩ := notes_of hb
    have fb := fault_b (n + 2) hns h2 m
    cases hf : faultR ns rd with
    | some i =>
      rw [hf] at fb
      exact .inl ⟨i, fb, tried_ex (n + 4) (made_exc (init_ex n hns hf m))⟩
    | none =>
      rw [hf] at fb
      cases rd with
      | tup rs =>
        rw [faultR_tup] at hf
        by_cases h8 : 8 < rs.length
        · rw [if_pos h8] at hf; cases hf
        · rw [if_neg h8] at hf
          have hbr : badRow (hasB ns "base") (hasB ns "mine") rs 0 = none := by simpa using hf
          have all : ∀ (rs : List D) (i : Nat), badRow (hasB ns "base") (hasB ns "mine") rs i = none → rs.all (rowB (hasB ns "base") (hasB ns "mine")) = true := by
            intro rs
            induction rs with
            | nil => intro _ _; rfl
            | cons d ds ih =>
              intro i h
              unfold badRow at h
              cases hr : rowB (hasB ns "base") (hasB ns "mine") d with
              | true =>
                rw [hr] at h
                rw [List.all_cons, hr, ih (i + 1) (by simpa using h)]; rfl
              | false => rw [hr] at h; simp at h
          have ha := all rs 0 hbr
          exact .inr ⟨ns, rs, hns, rfl, rfl, by omega, ha, fb, tried_ok (n + 4) (make_Rule n hc (by simpa using hns) (by omega) ha)⟩
      | _ => cases hf
/-! ### without a row -/
theorem without_bad (n : Nat) {nd : D} {rs : List D} {d : D} (hd : isInt d = false ∨ ∃ i : Int, d = .int i ∧ (i < 0 ∨ (rs.length : Int) ≤ i)) (m : Store) : sem TB (n + 2) 10 [.v (ruleD nd (.tup rs)), .v d] m = .ex 22 [d] m := by
  rw [sem_run df_p_Rule_without rfl]
  have ii := is_integer n d m
  have f1 : fldW 1 1 m (.v (ruleD nd (.tup rs))) = some (.v (.tup rs)) := rfl
  rcases hd with h | ⟨i, rfl, h⟩
  · rw [h] at ii
    simp [d_p_Rule_without, ii]
  · have ii : sem TB (n + 1) 0 [.v (.int i)] m = .ok (.v (.bl true)) m := ii
    generalize ruleD nd (.tup rs) = R at *
    by_cases h0 : 0 ≤ i
    · have h1 : ¬ i < (rs.length : Int) := by omega
      simp [d_p_Rule_without, ii, f1, h0, h1]
    · simp [d_p_Rule_without, ii, f1, h0]
theorem without_ok (n : Nat) {ns : List Str} {rs : List D} (hn : ns ∈ allNotes) (hl : rs.length ≤ 8) (ha : rs.all (rowB (hasB ns "base") (hasB ns "mine")) = true) {i : Nat} (hi : i < rs.length) {m : Store} (hc : Cl m) :
    made (Fs TB (n + 4)) false 1 5 [.v (.tup (ns.map .str)), .v (.tup (rs.take i ++ rs.drop (i + 1)))] m = .ok (.v (ruleD (.tup (ns.map .str)) (.tup (rs.take i ++ rs.drop (i + 1))))) m ∧
    sem TB (n + 5) 10 [.v (ruleD (.tup (ns.map .str)) (.tup rs)), .v (.int (i : Nat))] m = .ok (.v (ruleD (.tup (ns.map .str)) (.tup (rs.take i ++ rs.drop (i + 1))))) m := by
  have mk := make_Rule n (notes := ns) (rows := rs.take i ++ rs.drop (i + 1)) hc (by simpa using hn) (by simp; omega) (by
    rw [List.all_eq_true] at ha ⊢
    intro x hx
    rcases List.mem_append.mp hx with hx | hx
    · exact ha x (List.mem_of_mem_take hx)
    · exact ha x (List.mem_of_mem_drop hx))
  refine ⟨mk, ?_⟩
  rw [sem_run df_p_Rule_without rfl]
  have ii := is_integer (n + 3) (.int (i : Nat)) m
  have ii : sem TB (n + 4) 0 [.v (.int (i : Nat))] m = .ok (.v (.bl true)) m := ii
  have f1 : fldW 1 1 m (.v (ruleD (.tup (ns.map .str)) (.tup rs))) = some (.v (.tup rs)) := rfl
  have f0 : fldW 1 0 m (.v (ruleD (.tup (ns.map .str)) (.tup rs))) = some (.v (.tup (ns.map .str))) := rfl
  have ct := cutL_to rs (i := (i : Int)) (by omega)
  have cf := cutL_from rs (i := (i : Int) + 1) (by omega)
  rw [show ((i : Int)).toNat = i by omega] at ct
  rw [show ((i : Int) + 1).toNat = i + 1 by omega] at cf
  have asT : ∀ (ds : List D) (m : Store) (k : D → R W), asD (.v (.tup ds)) m k = k (.tup ds) := fun _ _ _ => rfl
  have ad : addD (.tup (rs.take i)) (.tup (rs.drop (i + 1))) = some (.tup (rs.take i ++ rs.drop (i + 1))) := by
    show (if _ ≤ LIM then some _ else none) = _
    rw [if_pos (by show _ ≤ 10000000; simp; omega)]
  have hiI : (i : Int) < (rs.length : Int) := by omega
  generalize hRR : ruleD (.tup (ns.map .str)) (.tup rs) = RR at *
  generalize ruleD (.tup (ns.map .str)) (.tup (rs.take i ++ rs.drop (i + 1))) = R2 at *
  generalize rs.take i ++ rs.drop (i + 1) = AB at *
  generalize rs.take i = A at *
  generalize rs.drop (i + 1) = B at *
  generalize ns.map D.str = NS at *
  simp [-addD_T, d_p_Rule_without, ii, f0, f1, hiI, hi, ct, cf, asT, ad, mk]
theorem right_without_bad (n : Nat) {nd : D} {rs : List D} (hl : rs.length ≤ 8) {d : D} (hd : isInt d = false ∨ ∃ i : Int, d = .int i ∧ (i < 0 ∨ (rs.length : Int) ≤ i)) (hs : d = .bl true ∨ d = .non ∨ (∃ x : Str, d = .str x) ∨ ∃ i : Int, d = .int i) (m : Store) :
    sem TB (n + 4) 23 [.v (ruleD nd (.tup rs)), .v d] m = .ok (.v (.bl true)) m := by
  rw [sem_run df_l_right_without rfl]
  have wb := without_bad (n + 1) (nd := nd) hd m
  have al := alike_self 1 (.lst [d]) (by rcases hs with rfl | rfl | ⟨x, rfl⟩ | ⟨i, rfl⟩ <;> simp [dep, deps]) (by rcases hs with rfl | rfl | ⟨x, rfl⟩ | ⟨i, rfl⟩ <;> rfl) (by rcases hs with rfl | rfl | ⟨x, rfl⟩ | ⟨i, rfl⟩ <;> rfl) (n + 1) m
  have isc : isCls 1 m (.v (ruleD nd (.tup rs))) = true := isCls_rule _ _ _
  have ln : sem TB (n + 3) 8 [.v (ruleD nd (.tup rs))] m = .ok (.v (.int (rs.length : Nat))) m := by
    rw [sem_run df_p_Rule_len rfl]
    have f1 : fldW 1 1 m (.v (ruleD nd (.tup rs))) = some (.v (.tup rs)) := rfl
    generalize ruleD nd (.tup rs) = R at *
    simp [d_p_Rule_len, f1]
  have lo := lenOk_nat (k := rs.length) (by omega)
  generalize ruleD nd (.tup rs) = R at *
  rcases hs with rfl | rfl | ⟨x, rfl⟩ | ⟨i, rfl⟩
  · simp [d_l_right_without, wb, isc, al, tyOf, isTy]
  · simp [d_l_right_without, wb, isc, al, tyOf, isTy]
  · simp [d_l_right_without, wb, isc, al, tyOf, isTy]
  · have h : i < 0 ∨ (rs.length : Int) ≤ i := by
      rcases hd with h | ⟨j, e, h⟩
      · cases h
      · cases e; exact h
    by_cases h0 : 0 ≤ i
    · have h1 : ¬ i < (rs.length : Int) := by omega
      simp [d_l_right_without, wb, isc, al, tyOf, isTy, ln, lo, h0, h1]
    · simp [d_l_right_without, wb, isc, al, tyOf, isTy, ln, lo, h0]
end Cy.T

set_option Elab.async false
set_option linter.all false
set_option maxRecDepth 100000
set_option maxHeartbeats 2000000
/-! K18Main: the plain law of k18. -/
namespace Cy.T
open PySem L2 Cy
theorem Pr.n_plain (p : Pr) : plain p.nD = true ∧ dep p.nD ≤ 1 := by
  obtain ⟨h1, h2⟩ := plains_strL p.notes
  refine ⟨h1, ?_⟩
  show deps _ + 1 ≤ 1
  omega
theorem Rw.plain (r : Rw) : Cy.plain r.d = true ∧ Cy.dep r.d ≤ 3 := by
  obtain ⟨h1, h2⟩ := tsts_plain r.tests
  simp [Rw.d, Cy.plain, plains, Cy.dep, deps, h1]
  omega
theorem rws_plain : ∀ rs : List Rw, plains (rs.map Rw.d) = true ∧ deps (rs.map Rw.d) ≤ 3
  | [] => ⟨rfl, Nat.zero_le _⟩
  | r :: rs => by
    obtain ⟨h1, h2⟩ := rws_plain rs
    obtain ⟨h3, h4⟩ := r.plain
    simp [plains, deps, h1, h3]
    omega
theorem Pr.r_plain (p : Pr) : plain p.rD = true ∧ dep p.rD ≤ 4 := by
  obtain ⟨h1, h2⟩ := rws_plain p.rows
  refine ⟨h1, ?_⟩
  show deps _ + 1 ≤ 4
  omega
theorem Rule_eq_self (n : Nat) (p : Pr) (m : Store) : sem TB (n + 1) 9 [.v (ruleD p.nD p.rD), .v (ruleD p.nD p.rD)] m = .ok (.v (.bl true)) m := by
  rw [sem_run df_p_Rule_eq rfl]
  have e1 := eqO_self p.n_plain.1 (Nat.le_trans p.n_plain.2 (by omega))
  have e2 := eqO_self p.r_plain.1 (Nat.le_trans p.r_plain.2 (by omega))
  simp [d_p_Rule_eq, ruleD, isObj, e1, e2]
def p0 : Pr := ⟨[], []⟩
theorem p0_ok : p0.okB = true := by decide +kernel
theorem p0_text : wText p0 = "notes\n" := by decide +kernel
theorem p0_nD : p0.nD = .tup [] := rfl
theorem p0_rD : p0.rD = .tup [] := rfl
theorem main_k18 (n : Nat) (ns : List Int) (hn : ns.length ≤ 63) : (sem TB (n + 8) 178 [.v (.lst (ns.map .int))] []).sat fun w _ => w = .v (.bl true) := by
  rw [sem_run df_l_main_k18 rfl]
  simp [d_l_main_k18]
  refine (mix (n + 6) ns 18 hn).mono ?_
  rintro _ m1 ⟨hs1, rfl⟩
  refine loop_sat (fun pre env m => Src [] m ∧ ∃ a b c d, env = [some (.v (.lst (ns.map .int))), some (.t 1), a, b, c, d]) _ [] _ _ ⟨hs1, _, _, _, _, rfl⟩ ?_ ?_
  · rintro p d post env m hp ⟨hs, x1, x2, x3, x4, rfl⟩
    refine ⟨_, rfl, ?_⟩
    simp
    refine (parts (n + 3) hs rfl (by omega) (by omega)).mono ?_
    rintro _ m2 ⟨hs2, p, hp, hpl, ht, rfl⟩
    have hl : p.rows.length ≤ 8 := by omega
    have hc := hs2.cl (show Low [] from rfl)
    have ll : (okLines p).length ≤ 10000000 := by simp [okLines]; omega
    have lr : ∀ e1 e2 e3 e4 e5 e6, foldR (compT (Fs TB (n + 7)) (.n 5) .nil (.bin .add (.var 5) (.c (.str "\n"))) [e1, e2, e3, e4, e5, e6]) ((okLines p).map .str) [] m2 = .ok ((((okLines p).map nlS).map D.str).map .v) m2 := fun e1 e2 e3 e4 e5 e6 => by
      refine (comp_map (fun d => match d with | .str x => .v (.str (nlS x)) | _ => .v .non) _ fun d hd => ?_).trans ?_
      · obtain ⟨l, hl, rfl⟩ := List.mem_map.mp hd
        refine ⟨_, rfl, ?_⟩
        have := (okLines_ok hp l hl).len
        simp [nl_len, show l.length + 1 ≤ 10000000 by omega, nlS]
      · congr 1
        rw [List.map_map, List.map_map, List.map_map]
        rfl
    have jl : mfD .join (.str "") [.lst (((okLines p).map nlS).map D.str)] = some (.str (wText p)) := by
      refine mfD_joinL (k := 1001) (fun w hw => ?_) ?_
      · obtain ⟨l, hl, rfl⟩ := List.mem_map.mp hw
        have := (okLines_ok hp l hl).len
        unfold nlS; rw [Str.length_append, nl_len]; omega
      · rw [em_len]; simp [okLines]; omega
    rw [List.map_map] at jl
    simp [lines (n + 6) hp hl hc, ll, lr, jl, built (n + 2) hp hl hc, write (n + 5) hp hl, read (n + 2) hp hl hc, Rule_eq_self (n + 6), isCls_rule]
    exact hs2
  · rintro env m ⟨hs, x1, x2, x3, x4, rfl⟩
    have hc := hs.cl (show Low [] from rfl)
    have mk := make_Pr (n + 3) p0_ok (by decide) hc
    have wr := write (n + 5) p0_ok (by decide) m
    have rd := read (n + 2) p0_ok (by decide) hc
    have eq := Rule_eq_self (n + 6) p0 m
    rw [p0_text] at wr rd
    rw [p0_nD, p0_rD] at mk wr rd eq
    simp [mk, wr, rd, eq, isCls_rule, trunc]
end Cy.T

set_option Elab.async false
set_option linter.all false
set_option maxRecDepth 100000
set_option maxHeartbeats 4000000
/-! K01Good: parts of the plain law of k01. -/
namespace Cy.T
open PySem L2 Cy
theorem eqO_thing {a b : D} (ha : Thing a) (hb : Thing b) : eqO a b = some (eqB a b) := by
  unfold eqO
  rw [if_pos (by simp [ha.1, hb.1]; have := ha.2; have := hb.2; omega)]
theorem thing_pair {a b : D} (ha : Thing a) (hb : Thing b) (h1 : dep a ≤ 40) (h2 : dep b ≤ 40) : Thing (.tup [a, b]) := by
  refine ⟨by simp [plain, plains, ha.1, hb.1], ?_⟩
  simp [dep, deps]; omega
theorem Rule_eqv (n : Nat) {a b c d : D} (ha : Thing a) (hb : Thing b) (hc : Thing c) (hd : Thing d) (m : Store) : sem TB (n + 1) 9 [.v (ruleD a b), .v (ruleD c d)] m = .ok (.v (.bl (eqB a c && eqB b d))) m := by
  rw [sem_run df_p_Rule_eq rfl]
  have e1 := eqO_thing ha hc
  have e2 := eqO_thing hb hd
  simp [d_p_Rule_eq, ruleD, isObj, e1, e2]
theorem Rule_eqt (n : Nat) {a b : D} (xs : List D) (m : Store) : sem TB (n + 1) 9 [.v (ruleD a b), .v (.tup xs)] m = .ok (.v (.bl false)) m := by
  rw [sem_run df_p_Rule_eq rfl]
  simp [d_p_Rule_eq, ruleD, isObj]
theorem Rule_len (n : Nat) {nd : D} (rs : List D) (m : Store) : sem TB (n + 1) 8 [.v (ruleD nd (.tup rs))] m = .ok (.v (.int (rs.length : Nat))) m := by
  rw [sem_run df_p_Rule_len rfl]
  have f1 : fldW 1 1 m (.v (ruleD nd (.tup rs))) = some (.v (.tup rs)) := rfl
  generalize ruleD nd (.tup rs) = R at *
  simp [d_p_Rule_len, f1]
theorem thing_ns {ns : List Str} : Thing (.tup (ns.map .str)) := ⟨plains_str ns, by simp only [dep, deps_str]; omega⟩
theorem thing_sub {xs ys : List D} (h : Thing (.tup xs)) (hs : ∀ y ∈ ys, y ∈ xs) : Thing (.tup ys) := by
  obtain ⟨h1, h2⟩ := h
  have key : ∀ ys : List D, (∀ y ∈ ys, y ∈ xs) → plains ys = true ∧ deps ys ≤ deps xs := by
    intro ys
    induction ys with
    | nil => intro _; exact ⟨rfl, Nat.zero_le _⟩
    | cons y ys ih =>
      intro hs
      obtain ⟨a, b⟩ := ih fun z hz => hs z (by simp [hz])
      have hy := hs y (by simp)
      have p := plains_mem (show plains xs = true from h1) hy
      have q := deps_mem hy
      exact ⟨by simp [plains, p, a], by simp only [deps]; omega⟩
  obtain ⟨a, b⟩ := key ys hs
  exact ⟨a, by simp only [dep] at h2 ⊢; omega⟩
theorem right_without_good (n : Nat) {ns : List Str} {rs : List D} (hn : ns ∈ allNotes) (ht : Thing (.tup rs)) (hl : rs.length ≤ 8) (ha : rs.all (rowB (hasB ns "base") (hasB ns "mine")) = true) {i : Nat} (hi : i < rs.length) {m : Store} (hc : Cl m) :
    sem TB (n + 6) 23 [.v (ruleD (.tup (ns.map .str)) (.tup rs)), .v (.int (i : Nat))] m = .ok (.v (.bl true)) m := by
  rw [sem_run df_l_right_without rfl]
  obtain ⟨-, w2⟩ := without_ok n hn hl ha hi hc
  obtain ⟨mk, -⟩ := without_ok (n + 1) hn hl ha hi hc
  have th : Thing (.tup (rs.take i ++ rs.drop (i + 1))) := thing_sub ht fun y hy => by
    rcases List.mem_append.mp hy with h | h
    · exact List.mem_of_mem_take h
    · exact List.mem_of_mem_drop h
  have eq := Rule_eqv (n + 4) (thing_ns (ns := ns)) th (thing_ns (ns := ns)) th m
  rw [eqB_self _ (thing_ns (ns := ns)).1, eqB_self _ th.1] at eq
  have isc : isCls 1 m (.v (ruleD (.tup (ns.map .str)) (.tup rs))) = true := isCls_rule _ _ _
  have isc2 : isCls 1 m (.v (ruleD (.tup (ns.map .str)) (.tup (rs.take i ++ rs.drop (i + 1))))) = true := isCls_rule _ _ _
  have ln := Rule_len (n + 4) (nd := .tup (ns.map .str)) rs m
  have rn := Rule_notes (n + 4) (.tup (ns.map .str)) (.tup rs) m
  have rr := Rule_rows (n + 4) (.tup (ns.map .str)) (.tup rs) m
  have lo := lenOk_nat (k := rs.length) (by omega)
  have ct := cutL_to rs (i := (i : Int)) (by omega)
  have cf := cutL_from rs (i := (i : Int) + 1) (by omega)
  rw [show ((i : Int)).toNat = i by omega] at ct
  rw [show ((i : Int) + 1).toNat = i + 1 by omega] at cf
  have asT : ∀ (ds : List D) (m : Store) (k : D → R W), asD (.v (.tup ds)) m k = k (.tup ds) := fun _ _ _ => rfl
  have ad : addD (.tup (rs.take i)) (.tup (rs.drop (i + 1))) = some (.tup (rs.take i ++ rs.drop (i + 1))) := by
    show (if _ ≤ LIM then some _ else none) = _
    rw [if_pos (by show _ ≤ 10000000; simp; omega)]
  have hiI : (i : Int) < (rs.length : Int) := by omega
  generalize hRR : ruleD (.tup (ns.map .str)) (.tup rs) = RR at *
  generalize ruleD (.tup (ns.map .str)) (.tup (rs.take i ++ rs.drop (i + 1))) = R2 at *
  generalize rs.take i ++ rs.drop (i + 1) = AB at *
  generalize rs.take i = A at *
  generalize rs.drop (i + 1) = B at *
  generalize ns.map D.str = NS at *
  simp [-addD_T, d_l_right_without, tyOf, isTy, w2, mk, eq, isc, isc2, ln, rn, rr, lo, ct, cf, asT, ad, hiI, hi]
def oYes : D := .tup [.str "yes"]
def oOwn : D := .tup [.str "there", .str "own"]
def oddD : List D := [.non, .int 5, .str "take", .tup [], .tup [.tup []], .tup [.tup [], .str "leave"], .tup [.lst [], .str "take"],
  .tup [.tup [oYes], .str "take", .str "keep"], .tup [oYes, .str "take"], .tup [.tup [.tup [.str "maybe"]], .str "keep"],
  .tup [.tup [.tup [.str "same", .str "own"]], .str "take"], .tup [.tup [.tup [.str "same", .str "own", .str "none"]], .str "take"],
  .tup [.tup [.tup [.str "there"]], .str "take"], .tup [.tup [oYes, oYes, oYes, oYes, oYes], .str "take"],
  .tup [.tup [.tup [.str "mine"]], .str "take"], .tup [.tup [.tup [.str "same", .str "own", .str "base"]], .str "drop"],
  .tup [.tup [.tup [.str "gone", .str "base"]], .str "claim"], .tup [.tup [oOwn, .non], .str "keep"],
  .tup [.tup [.tup [.str "same", .str "own", .str "above", .str "base"]], .str "take"], .tup [.tup [.lst [.str "yes"]], .str "take"],
  .tup [.tup [oYes, oYes, oYes, oYes], .str "take"], .tup [.tup [], .non], .tup [.tup [], .lst [.str "take"]],
  .tup [.tup [.tup [.str "unlike", .str "own", .str "own"]], .str "keep"], .tup [.tup [.tup [.str "same", .str "own", .int 5]], .str "take"],
  .tup [.tup [.tup [.str "yes", .str "own"]], .str "take"], .tup [.tup [.tup []], .str "take"]]
theorem odd_things : ∀ x ∈ oddD, Thing x := by
  simp [oddD, oYes, oOwn, Thing, plain, plains, dep, deps]
theorem mulT5 (d : D) : binD .mul (.tup [d]) (.int 5) = some (.tup [d, d, d, d, d]) := by
  rfl
theorem mulT4 (d : D) : binD .mul (.tup [d]) (.int 4) = some (.tup [d, d, d, d]) := by
  rfl
theorem odd (n : Nat) (m : Store) : sem TB (n + 1) 22 [] m = .ok (.v (.lst oddD)) m := by
  rw [sem_run df_l_odd rfl]
  simp [d_l_odd, oddD, oYes, oOwn, mulT5, mulT4]
theorem mul3 {xs : List D} (h : xs.length ≤ 1000) : binD .mul (.tup xs) (.int 3) = some (.tup (xs ++ (xs ++ (xs ++ [])))) := by
  show (if 2 ≤ (3 : Int) ∧ (3 : Int) ≤ 1000 ∧ xs.length ≤ 1000 then some (D.tup (List.replicate (3 : Int).toNat xs).flatten) else none) = _
  rw [if_pos ⟨by omega, by omega, h⟩]
  rfl
end Cy.T

set_option Elab.async false
set_option linter.all false
set_option maxRecDepth 100000
set_option maxHeartbeats 4000000
/-! K01Main: a turn of k01. -/
namespace Cy.T
open PySem L2 Cy
def Tg (d : D) : Prop := plain d = true ∧ dep d ≤ 10
theorem Tg.th {d : D} (h : Tg d) : Thing d := ⟨h.1, by have := h.2; omega⟩
def NotesOk (d : D) : Prop := Tg d ∧ ∀ ds, d = .tup ds → ds.length ≤ 1000
def RowsOk (k : Nat) (d : D) : Prop := Tg d ∧ (∀ ds, d = .tup ds → ds.length ≤ k)
def someD : List D := [.tup [.str "mine", .str "base"], .lst [.str "base"], .non, .str "base", .tup [.str "none"], .tup [.str "base", .str "base"], .tup [.int 5], .tup [.str "base"]]
theorem some_ok : ∀ x ∈ someD, NotesOk x := by
  have h1 : ∀ x ∈ someD, plain x = true ∧ dep x ≤ 10 := by simp [someD, plain, plains, dep, deps]
  have h2 : ∀ x ∈ someD, (match x with | .tup ds => ds.length | _ => 0) ≤ 1000 := by simp [someD]
  exact fun x hx => ⟨h1 x hx, fun ds e => by have := h2 x hx; rw [e] at this; exact this⟩
theorem odd_tg : ∀ x ∈ oddD, plain x = true ∧ dep x ≤ 5 := by
  simp [oddD, oYes, oOwn, plain, plains, dep, deps]
theorem plains_all {xs : List D} {k : Nat} (h : ∀ x ∈ xs, plain x = true ∧ dep x ≤ k) : plains xs = true ∧ deps xs ≤ k := by
  induction xs with
  | nil => exact ⟨rfl, Nat.zero_le _⟩
  | cons x xs ih =>
    obtain ⟨a, b⟩ := ih fun z hz => h z (by simp [hz])
    obtain ⟨c, d⟩ := h x (by simp)
    exact ⟨by simp [plains, a, c], by simp only [deps]; omega⟩
theorem tg_of {xs : List D} (h : ∀ x ∈ xs, plain x = true ∧ dep x ≤ 9) : Tg (.tup xs) ∧ Tg (.lst xs) := by
  obtain ⟨a, b⟩ := plains_all h
  exact ⟨⟨a, by simp only [dep]; omega⟩, ⟨a, by simp only [dep]; omega⟩⟩
theorem tg_mem {xs : List D} (h : Tg (.tup xs)) : ∀ x ∈ xs, plain x = true ∧ dep x ≤ 9 := fun x hx => by
  have q := deps_mem hx
  have h2 := h.2
  simp only [dep] at h2
  exact ⟨plains_mem (show plains xs = true from h.1) hx, by omega⟩
def tbody01 : SL := S.body (SL.get 2 d_l_main_k01.body)
def cbody01 : SL := S.body (SL.get 1 tbody01)
def E01 (k : Nat) (e0 e3 : Option W) (e : Env) (m' : Store) : Prop := Src [] m' ∧ ∃ nd' rd' y6 y7 y8 y9 y10 y11 y12 y13, NotesOk nd' ∧ RowsOk k rd' ∧ e = [e0, some (.t 1), some (.v (.lst oddD)), e3, some (.v nd'), some (.v rd'), y6, y7, y8, y9, y10, y11, y12, y13]
theorem change_one (n k : Nat) (hk0 : 1 ≤ k) (hk : k ≤ 100) {nd rd : D} (hn : NotesOk nd) (hr : RowsOk k rd) {m : Store} (hs : Src [] m) (e0 e3 e6 e7 e8 e9 e10 e11 e12 e13 : Option W) (T : W → Store → Prop) :
    (evSL (Fs TB (n + 10)) cbody01 [e0, some (.t 1), some (.v (.lst oddD)), e3, some (.v nd), some (.v rd), e6, e7, e8, e9, e10, e11, e12, e13] m).sat
      (E01 (3 * k) e0 e3) T := by
  have low : Low [] := rfl
  simp only [cbody01, tbody01, d_l_main_k01, SL.get, S.body]
  rw [evSL_cons, sat_then]
  simp [-evSL_cons]
  refine (next (n + 9) hs low (by omega) (by omega)).mono ?_
  rintro _ m1 ⟨hs1, r, r0, r1, rfl⟩
  have kr : RowsOk (3 * k) rd := ⟨hr.1, fun ds e => by have := hr.2 ds e; omega⟩
  by_cases h0 : r = 0
  · subst h0
    simp
    refine (pick (n + 8) (xs := someD) hs1 low (by simp [someD]) (by simp [someD])).mono ?_
    rintro _ m2 ⟨hs2, x, hx, rfl⟩
    exact ⟨hs2, _, _, _, _, _, _, _, _, _, _, some_ok x hx, kr, rfl⟩
  by_cases h1 : r = 1
  · subst h1
    cases rd with
    | tup rs =>
      have hl := hr.2 rs rfl
      have mu := mul3 (xs := rs) (by omega)
      have hl2 : rs.length ≤ 10000000 := by omega
      simp [isTupD, mu, hl2]
      refine (pick (n + 8) (xs := [.lst rs, .non, .tup (rs ++ (rs ++ rs)), .str "rows"]) hs1 low (by simp) (by simp)).mono ?_
      rintro _ m2 ⟨hs2, x, hx, rfl⟩
      refine ⟨hs2, _, _, _, _, _, _, _, _, _, _, hn, ?_, rfl⟩
      have mm := tg_mem hr.1
      simp only [List.mem_cons, List.mem_nil_iff, or_false] at hx
      rcases hx with rfl | rfl | rfl | rfl
      · exact ⟨(tg_of mm).2, fun ds e => by cases e⟩
      · exact ⟨⟨rfl, by simp [dep]⟩, fun ds e => by cases e⟩
      · exact ⟨(tg_of fun x hx => mm x (by simpa using hx)).1, fun ds e => by cases e; simp; omega⟩
      · exact ⟨⟨rfl, by simp [dep]⟩, fun ds e => by cases e⟩
    | _ =>
      simp [isTupD]
      exact ⟨hs1, _, _, _, _, _, _, _, _, _, _, hn, kr, rfl⟩
  have g0 : (r == 0) = false := by simpa using h0
  have g1 : (r == 1) = false := by simpa using h1
  cases rd with
  | tup rs =>
    have hl := hr.2 rs rfl
    have hl2 : rs.length + 1 ≤ 10000000 := by omega
    simp [isTupD, g0, g1, h0, h1]
    refine (next (n + 9) hs1 low (by omega) (by omega)).mono ?_
    rintro _ m2 ⟨hs2, at_, a0, a1, rfl⟩
    simp
    refine (pick (n + 8) (xs := oddD) hs2 low (by simp [oddD]) (by simp [oddD])).mono ?_
    rintro _ m3 ⟨hs3, x, hx, rfl⟩
    have ct := cutL_to rs (i := at_) a0
    have cf := cutL_from rs (i := at_) a0
    have l1 : (rs.take at_.toNat).length + 1 ≤ 10000000 := by simp; omega
    have l2 : (rs.take at_.toNat).length + (rs.drop at_.toNat).length + 1 ≤ 10000000 := by simp; omega
    simp [ct, cf]
    rw [if_pos (by omega)]
    have l3 : (rs.take at_.toNat ++ [x]).length + (rs.drop at_.toNat).length ≤ 10000000 := by simp; omega
    have ad : addD (.tup (rs.take at_.toNat ++ [x])) (.tup (rs.drop at_.toNat)) = some (.tup ((rs.take at_.toNat ++ [x]) ++ rs.drop at_.toNat)) := by
      rw [addD_T, if_pos l3]
    have asT : ∀ (ds : List D) (m : Store) (k : D → R W), asD (.v (.tup ds)) m k = k (.tup ds) := fun _ _ _ => rfl
    have mm := tg_mem hr.1
    have rk : RowsOk (3 * k) (.tup ((rs.take at_.toNat ++ [x]) ++ rs.drop at_.toNat)) := by
      refine ⟨(tg_of fun z hz => ?_).1, fun ds e => by cases e; simp; omega⟩
      simp only [List.mem_append, List.mem_cons, List.mem_nil_iff, or_false] at hz
      rcases hz with (hz | rfl) | hz
      · exact mm z (List.mem_of_mem_take hz)
      · have := odd_tg z hx; exact ⟨this.1, by omega⟩
      · exact mm z (List.mem_of_mem_drop hz)
    generalize (rs.take at_.toNat ++ [x]) ++ rs.drop at_.toNat = AB at *
    generalize rs.take at_.toNat ++ [x] = A at *
    generalize rs.drop at_.toNat = C at *
    simp [-addD_T, ad, asT]
    exact ⟨hs3, _, _, _, _, _, _, _, _, _, _, hn, rk, rfl⟩
  | _ =>
    simp [isTupD, g0, g1, h0, h1]
    exact ⟨hs1, _, _, _, _, _, _, _, _, _, _, hn, kr, rfl⟩
def jbody01 : SL := SL.drop 2 tbody01
def idxD (rs : List D) : List D := [.int (-1), .int (rs.length : Nat), .bl true, .non, .str "0"] ++ rngD 0 (rs.length : Nat)
theorem judge (n : Nat) {nd rd : D} (hn : NotesOk nd) (hr : RowsOk 72 rd) {m : Store} (hs : Src [] m) (e0 e3 e6 e7 e8 e9 e10 e11 e12 e13 : Option W) (T : W → Store → Prop) :
    (evSL (Fs TB (n + 10)) jbody01 [e0, some (.t 1), some (.v (.lst oddD)), e3, some (.v nd), some (.v rd), e6, e7, e8, e9, e10, e11, e12, e13] m).sat
      (E01 72 e0 e3) T := by
  have low : Low [] := rfl
  have hc := hs.cl low
  simp only [jbody01, tbody01, d_l_main_k01, SL.get, S.body, SL.drop]
  rcases tried_fault (n + 5) hn.1.th hr.1.th hn.2 hc with ⟨i, f1, f2⟩ | ⟨ns, rs, q1, rfl, rfl, hl, ha, f1, f2⟩
  · have al := alike_self 0 (.int i) (Nat.le_refl _) rfl rfl (n + 9) m
    simp [f1, f2, al]
    exact ⟨hs, _, _, _, _, _, _, _, _, _, _, hn, hr, rfl⟩
  · have rn := Rule_notes (n + 9) (.tup (ns.map .str)) (.tup rs) m
    have rr := Rule_rows (n + 9) (.tup (ns.map .str)) (.tup rs) m
    have ln := Rule_len (n + 9) (nd := .tup (ns.map .str)) rs m
    have isc : isCls 1 m (.v (ruleD (.tup (ns.map .str)) (.tup rs))) = true := isCls_rule _ _ _
    have lo := lenOk_nat (k := rs.length) (by omega)
    have q1e := eqO_self hn.1.1 (Nat.le_trans hn.1.2 (by omega))
    have q2e := eqO_self hr.1.1 (Nat.le_trans hr.1.2 (by omega))
    have each : ∀ d ∈ idxD rs, sem TB (n + 10) 23 [.v (ruleD (.tup (ns.map .str)) (.tup rs)), .v d] m = .ok (.v (.bl true)) m := by
      intro d hd
      simp only [idxD, List.mem_append, List.mem_cons, List.mem_nil_iff, or_false] at hd
      rcases hd with (rfl | rfl | rfl | rfl | rfl) | hd
      · exact right_without_bad (n + 6) hl (.inr ⟨_, rfl, .inl (by omega)⟩) (.inr (.inr (.inr ⟨_, rfl⟩))) m
      · exact right_without_bad (n + 6) hl (.inr ⟨_, rfl, .inr (by omega)⟩) (.inr (.inr (.inr ⟨_, rfl⟩))) m
      · exact right_without_bad (n + 6) hl (.inl rfl) (.inl rfl) m
      · exact right_without_bad (n + 6) hl (.inl rfl) (.inr (.inl rfl)) m
      · exact right_without_bad (n + 6) hl (.inl rfl) (.inr (.inr (.inl ⟨_, rfl⟩))) m
      · rw [rng_nat] at hd
        obtain ⟨i, hi, rfl⟩ := List.mem_map.mp hd
        exact right_without_good (n + 4) q1 hr.1.th hl ha (List.mem_range.mp hi) hc
    have h0 : (rngD 0 (rs.length : Nat)).length = rs.length := by rw [rng_nat]; simp
    have lst : addD (.lst [.int (-1), .int (rs.length : Nat), .bl true, .non, .str "0"]) (.lst (rngD 0 (rs.length : Nat))) = some (.lst (idxD rs)) := by
      rw [addD_lst, if_pos (by rw [h0]; show _ ≤ 10000000; simp; omega)]; rfl
    have s1 : (rs.length : Int) ≤ 1000000 := by omega
    have s2 : (-1000000 : Int) ≤ (rs.length : Int) := by omega
    have rg : newL false (rngL 0 (rs.length : Nat)) m = .ok (.v (.lst (rngD 0 (rs.length : Nat)))) m := by
      unfold rngL
      simp [newL]
      rw [h0]
      show _ ≤ 10000000
      omega
    have eq1 := fun {c d : D} (h1 : Thing c) (h2 : Thing d) (m : Store) => Rule_eqv (n + 9) hn.1.th hr.1.th h1 h2 m
    have eqt := fun (m : Store) => Rule_eqt (n + 9) (a := .tup (ns.map .str)) (b := .tup rs) rs m
    have evr : ∀ (F : Fns) (a b : E) (env : Env) (m : Store), ev F (.rng a b) env m = (ev F a env m).bind fun x m => (ev F b env m).bind fun y m => intsW x y fun i j => if -1000000 ≤ i ∧ i ≤ 1000000 ∧ -1000000 ≤ j ∧ j ≤ 1000000 then newL false (rngL i j) m else .bad := fun _ _ _ _ _ => rfl
    have pb := fun (p : Pr) (hp : p.okB = true) (hpl : p.rows.length ≤ 8) (m : Store) (hc : Cl m) => built (n + 5) hp hpl hc
    have pair : ∀ p : Pr, eqO (.tup [.tup (ns.map .str), .tup rs]) p.d = some (eqB (.tup (ns.map .str)) p.nD && eqB (.tup rs) p.rD) := fun p => by
      obtain ⟨a1, a2⟩ := p.n_plain
      obtain ⟨b1, b2⟩ := p.r_plain
      have t1 : Thing (.tup [.tup (ns.map .str), .tup rs]) := thing_pair hn.1.th hr.1.th (Nat.le_trans hn.1.2 (by omega)) (Nat.le_trans hr.1.2 (by omega))
      have t2 : Thing p.d := thing_pair ⟨a1, by omega⟩ ⟨b1, by omega⟩ (by omega) (by omega)
      rw [eqO_thing t1 t2]
      simp [Pr.d, eqB, eqBs]
    have eqp := fun (p : Pr) (m : Store) => eq1 (c := p.nD) (d := p.rD) ⟨p.n_plain.1, by have := p.n_plain.2; omega⟩ ⟨p.r_plain.1, by have := p.r_plain.2; omega⟩ m
    have isc' : ∀ m, isCls 1 m (.v (ruleD (.tup (ns.map .str)) (.tup rs))) = true := fun m => isCls_rule _ _ m
    have isc2 : ∀ (p : Pr) m, isCls 1 m (.v (ruleD p.nD p.rD)) = true := fun p m => isCls_rule _ _ m
    generalize ruleD (.tup (ns.map .str)) (.tup rs) = RR at *
    generalize ns.map D.str = NS at *
    have rl : (rngL 0 (rs.length : Nat)).length ≤ 10000000 := by unfold rngL; rw [List.length_map, h0]; omega
    have av : allV (rngL 0 (rs.length : Nat)) = some (rngD 0 (rs.length : Nat)) := by unfold rngL; simp
    have asL : ∀ (ds : List D) (m : Store) (k : D → R W), asD (.v (.lst ds)) m k = k (.lst ds) := fun _ _ _ => rfl
    simp [f1, f2, rn, rr, ln, lo, q1e, q2e, s1, isc', evr]
    rw [if_pos rl, av]
    simp [asL, lst, seqD]
    refine loop_sat (fun pre env m' => m' = m ∧ ∃ y12, env = [e0, some (W.t 1), some (W.v (D.lst oddD)), e3, some (W.v (D.tup NS)), some (W.v (D.tup rs)), e6, e7, e8, e9, some (W.v D.non), some (W.v RR), y12, e13]) (idxD rs) [] _ _ ⟨rfl, _, rfl⟩ ?_ ?_
    · rintro p d post env m' hp ⟨rfl, y12, rfl⟩
      have hd : d ∈ idxD rs := by
        have e : [] ++ idxD rs = p ++ d :: post := hp
        rw [List.nil_append] at e
        rw [e]; simp
      refine ⟨_, rfl, ?_⟩
      simp [each d hd]
    · rintro env m' ⟨rfl, y12, rfl⟩
      simp
      refine (parts (n + 6) hs low (by omega) (by omega)).mono ?_
      rintro _ m2 ⟨hs2, p, p1, p2, p3, rfl⟩
      have b := pb p p1 (by omega) m2 (hs2.cl low)
      have pr := pair p
      have q := eqp p m2
      have it : isTup (.v (.tup rs)) = true := rfl
      have bb : ∀ x : Bool, eqO (.bl x) (.bl x) = some true := fun x => by cases x <;> rfl
      generalize (eqB (.tup NS) p.nD && eqB (.tup rs) p.rD) = XX at *
      simp [b, isc', isc2 p, q, pr, eqt, asL, it, bb]
      exact ⟨hs2, _, _, _, _, _, _, _, _, _, _, hn, hr, rfl⟩
theorem main_k01 (n : Nat) (ns : List Int) (hn : ns.length ≤ 63) : (sem TB (n + 11) 24 [.v (.lst (ns.map .int))] []).sat fun w _ => w = .v (.bl true) := by
  rw [sem_run df_l_main_k01 rfl, sat_finS]
  have low : Low [] := rfl
  have jd := fun {nd rd : D} (hn : NotesOk nd) (hr : RowsOk 72 rd) {m : Store} (hs : Src [] m) => judge n hn hr hs
  have ch := fun (k : Nat) (hk0 : 1 ≤ k) (hk : k ≤ 100) {nd rd : D} (hn : NotesOk nd) (hr : RowsOk k rd) {m : Store} (hs : Src [] m) => change_one n k hk0 hk hn hr hs
  simp only [jbody01, cbody01, tbody01, d_l_main_k01, SL.get, S.body, SL.drop] at jd ch ⊢
  rw [evSL_cons, sat_then]
  simp [-evSL_cons]
  refine (mix (n + 9) ns 1 hn).mono ?_
  rintro _ m1 ⟨hs1, rfl⟩
  rw [evSL_cons, sat_then]
  have od := odd (n + 9) m1
  simp [-evSL_cons, od]
  rw [evSL_cons, sat_then]
  simp [-evSL_cons]
  refine loop_sat (fun pre env m => Src [] m ∧ ∃ o3 o4 o5 o6 o7 o8 o9 o10 o11 o12 o13, env = [some (.v (.lst (ns.map .int))), some (.t 1), some (.v (.lst oddD)), o3, o4, o5, o6, o7, o8, o9, o10, o11, o12, o13]) _ [] _ _ ⟨hs1, _, _, _, _, _, _, _, _, _, _, _, rfl⟩ ?_ ?_
  · rintro q d post env m hp ⟨hs, o3, o4, o5, o6, o7, o8, o9, o10, o11, o12, o13, rfl⟩
    refine ⟨_, rfl, ?_⟩
    rw [evSL_cons, sat_then]
    simp [-evSL_cons]
    refine (parts (n + 6) hs low (by omega) (by omega)).mono ?_
    rintro _ m2 ⟨hs2, p, p1, p2, p3, rfl⟩
    have hn0 : NotesOk p.nD := ⟨⟨p.n_plain.1, by have := p.n_plain.2; omega⟩, fun ds e => by
      cases e
      have := (notesB_ok (notes := p.notes) (by
        have := p1
        simp only [Pr.okB, Bool.and_eq_true] at this
        exact this.1)).2
      simp; omega⟩
    have hr0 : RowsOk 8 p.rD := ⟨⟨p.r_plain.1, by have := p.r_plain.2; omega⟩, fun ds e => by cases e; simp; omega⟩
    have asg : ∀ (a b : Option W), asgG (.tup (.cons (.n 4) (.cons (.n 5) .nil))) (.v p.d) [some (.v (.lst (ns.map .int))), some (.t 1), some (.v (.lst oddD)), some (.v d), a, b, o6, o7, o8, o9, o10, o11, o12, o13] = some [some (.v (.lst (ns.map .int))), some (.t 1), some (.v (.lst oddD)), some (.v d), some (.v p.nD), some (.v p.rD), o6, o7, o8, o9, o10, o11, o12, o13] := fun _ _ => rfl
    simp [-evSL_cons, asg]
    rw [evSL_cons, sat_then]
    simp [-evSL_cons]
    refine (next (n + 9) hs2 low (by omega) (by omega)).mono ?_
    rintro _ m3 ⟨hs3, r, r0, r1, rfl⟩
    simp [-evSL_cons]
    have rl : ((r - 0).toNat) ≤ 2 := by omega
    have lenr : (rngD 0 r).length ≤ 2 := by unfold rngD; simpa using rl
    have h1 : (-1000000 : Int) ≤ r := by omega
    have h2 : r ≤ 1000000 := by omega
    simp [-evSL_cons, h1, h2]
    refine loop_sat (fun pre env m => E01 (8 * 3 ^ pre.length) (some (.v (.lst (ns.map .int)))) (some (.v d)) env m) (rngD 0 r) [] _ _ ⟨hs3, _, _, _, _, _, _, _, _, _, _, hn0, hr0, rfl⟩ ?_ ?_
    · rintro p' d' post' env m' hp' ⟨hs', nd, rd, y6, y7, y8, y9, y10, y11, y12, y13, hn', hr', rfl⟩
      refine ⟨_, rfl, ?_⟩
      have hlen : p'.length < 2 := by
        have e : [] ++ rngD 0 r = p' ++ d' :: post' := hp'
        have e := congrArg List.length e
        simp at e
        omega
      have hk : 8 * 3 ^ p'.length ≤ 100 ∧ 1 ≤ 8 * 3 ^ p'.length := by
        rcases p' with _ | ⟨a, _ | ⟨b, c⟩⟩
        · simp
        · simp
        · simp at hlen; omega
      have c := ch _ hk.2 hk.1 hn' hr' hs'
      rw [show 3 * (8 * 3 ^ p'.length) = 8 * 3 ^ (p' ++ [d']).length by rw [List.length_append, List.length_singleton, Nat.pow_succ]; omega] at c
      exact c _ _ _ _ _ _ _ _ _ _ _
    · rintro env m' ⟨hs', nd, rd, y6, y7, y8, y9, y10, y11, y12, y13, hn', hr', rfl⟩
      have hk : 8 * 3 ^ ([] ++ rngD 0 r).length ≤ 72 := by
        rw [List.nil_append]
        generalize (rngD 0 r).length = z at lenr ⊢
        rcases z with _ | _ | _ | z
        · simp
        · simp
        · simp
        · omega
      have hr2 : RowsOk 72 rd := ⟨hr'.1, fun ds e => by have := hr'.2 ds e; omega⟩
      refine (jd hn' hr2 hs' _ _ _ _ _ _ _ _ _ _ _).mono ?_ fun _ _ z => z
      rintro e m'' ⟨hs'', nd, rd, y6, y7, y8, y9, y10, y11, y12, y13, hn', hr', rfl⟩
      exact ⟨hs'', _, _, _, _, _, _, _, _, _, _, _, rfl⟩
  · rintro env m ⟨hs, o3, o4, o5, o6, o7, o8, o9, o10, o11, o12, o13, rfl⟩
    simp [trunc]
end Cy.T

set_option Elab.async false
set_option linter.all false
set_option maxRecDepth 100000
set_option maxHeartbeats 0
namespace Cy.K01
theorem plain (ns : List Int) (h : ns.length ≤ 63) : ∃ m', Cy.sem Cy.T.TB (19 + 1) 24 [.v (.lst (ns.map .int))] [] = .ok (.v (.bl true)) m' := by
  obtain ⟨w, m, e, h⟩ := Cy.sat_eq (Cy.T.main_k01 9 ns h)
  subst h
  exact ⟨m, e⟩
end Cy.K01
open PySem PySem.W PySem.Calls PyProof.Rows
theorem PySem.Challenge.cw_carriedin_k01_rules_refused_holds : PySem.Challenge.rw_carriedin_k01_rules_refused.Holds := by
  w_on; o_law
  refine HandSHeadRun.head_any (r := OpenLaw.row PySem.Challenge.rw_carriedin_k01_rules_refused) (q := view (OpenLaw.row PySem.Challenge.rw_carriedin_k01_rules_refused).prog [34]) (H := Cy.K01.hk) (ob := Cy.K01.ob) (M := 6000) (loose := Cy.K01.names) (d := HandSHeadRun.topDef (OpenLaw.row PySem.Challenge.rw_carriedin_k01_rules_refused).prog 34) (kwd := []) Cy.K01.ob_eq
    (by kernel_rfl) (fun s => by kernel_rfl) Cy.K01.run (by kernel_rfl) (by kernel_rfl) (by kernel_rfl) (by rfl) (by first | assumption | decide +kernel) (by decide +kernel) ⟨rfl, rfl, rfl, rfl, rfl, by decide +kernel⟩ ?hw ?hc
  case hw => w_witness2
  case hc =>
    refine Cy.law_walk (l := PySem.Challenge.rw_carriedin_k01_rules_refused) (n := 63) (k := 19) (f := 24) (e := Cy.K01.e_l_main_k01) (x := "_law_script") rfl (by decide) (by kernel_rfl) ⟨rfl, by decide, by decide⟩ Cy.K01.stats Cy.K01.tab (by first | exact .inl rfl | exact .inr ⟨by decide +kernel, by decide +kernel⟩) (by first | decide +kernel | simp [Cy.K01.des]) rfl ?ha rfl ?hl rfl Cy.K01.plain
    case ha => kernel_rfl
    case hl => decide +kernel
