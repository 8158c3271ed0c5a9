import PyProof.Rows.All
import Wide.All
import OpenK.AllK
import Wide.FinOn
import PyProof.EqAt
import PyProof.EqKinds
import PyProof.TupleCall
import KE.KExcSuper
import KE.KExcMake
import HandS.ForExc
import PyProof.NeKinds
import KE.KOwnIter
import OpenK.KOps
import HandS.ForMost
import HandS.IterNext
import HandS.IterVal
import HandS.DictComp
import KE.KTryMore
import HandS.TryMany
import HandS.MakeKwOnly
import HandS.ExcField
import HandS.IsInst
import HandS.More
import PySem.Challenge.RW_spaceroads_k98_lines_as_many_as_told
import HandS.Head0
import HandS.Head1
import HandS.Head2
import HandS.Head3
import HandS.HeadEnd
import HandS.HeadHook1
import HandS.HeadHook2
import HandS.HeadHook3
import HandS.WordsList
set_option Elab.async false
set_option linter.all false
set_option maxRecDepth 100000
set_option maxHeartbeats 2000000
namespace SR
open PySem
/-- an own error with one field, made -/
def tMkF (C : Addr) (f : Str) (ta : L2.TA) : L2.St → L2.Hp → L2.XK → Prop := fun σ H Q => ta σ H fun vs H1 => ∃ v, vs = [v] ∧ ∀ d, H1 d = none → Q (.ref C) (some d) (L2.upd H1 d (.xd [(f, v)]))

namespace SupRefused
open PySem.W PySem.Calls PyProof.Rows PySem.HandSPX
def iA (p1 p2 : Pos) : Arguments := { posonlyargs := [], args := [{ arg := "self", annotation := none, pos := p1 }, { arg := "reason", annotation := none, pos := p2 }], vararg := none, kwonlyargs := [], kw_defaults := [], kwarg := none, defaults := [] }
def iB (q1 q2 q4 q6 r1 r2 r3 r4 : Pos) : List Stmt := [.Expr (.Call (.Attribute (.Call (.Name "super" q1) [] [] q2) "__init__" ⟨15, 8, 15, 24⟩) [.Name "reason" q4] [] ⟨15, 8, 15, 32⟩) q6, .Assign [.Attribute (.Name "self" r1) "reason" r2] (.Name "reason" r3) r4]
def iS : Scope := { kind := .function, names := [(PySem.Str.ofString "self", .local), (PySem.Str.ofString "reason", .local), (PySem.Str.ofString "__class__", .free), (PySem.Str.ofString "super", .globalImplicit)], isGenerator := false, isCoroutine := false, more := [] }
structure Txt (P : Program) (K : Frag) (mg : Str → Option Value) (C fI : Addr) : Prop where
  gC : mg "Refused" = some (.ref C)
  gS : mg "super" = none
  cls : ∃ nm q N bs bm sn sub ab col dd k0 k1 k2 k3 k5, K.lookup C = some (excClassObj nm q C N bs bm true sn sub ab col dd k0 k1 k2 k3 k5 "ValueError.__new__") ∧ refsVE bm = true
  sa : findIn K (.ref C) "__setattr__" = some (some (.builtin "object.__setattr__"))
  noN : findIn K (.ref C) "reason" = some none
  iC : findIn K (.ref C) "__init__" = some (some (.ref fI))
  tC : typeIn K (.ref fI) = some (.type "function")
  kC : keepIn K (.ref C) = true
  exC : subIn K (.ref C) (.type "BaseException") = some true
  veC : subIn K (.ref C) (.type "ValueError") = some true
  selfC : mroIn K C (.ref C) = some true
  tyC : typeIn K (.ref C) = some (.type "type")
  supC : ks_superIn K C C "__init__" = some (some (.builtin "ValueError.__init__"))
  opq : nsIn K cStatics "thirdparty.any" = some none
  top : (P.main.scope.names.lookup ("super" : Str)).isSome = false
  fn : ∃ (oc : Value) (od : Option Addr) (doc pm : Value) (an : Option Addr) (cda cc : Addr) (ct : Value) (osl : Array (Option Value)) (p1 p2 q1 q2 q4 q6 r1 r2 r3 r4 : Pos) (ccl cl : Value) (cdd cld : Option Addr) (vs : Array Value) (ccs csl : Array (Option Value)) (file : Str) (tf : Tok),
    K.lookup fI = some ⟨oc, od, .func (ksFn "__init__" "Refused.__init__" (iA p1 p2) (iB q1 q2 q4 q6 r1 r2 r3 r4) iS .none .none doc pm an (.ref cda) ct cc), osl⟩ ∧ codeIn K (.ref cda) "Refused.__init__" = true ∧
    K.lookup cda = some ⟨ccl, cdd, .fields vs, ccs⟩ ∧ vs[2]? = some (.str file tf) ∧ ((P.main.file : Str) == file) = true ∧ K.lookup cc = some ⟨cl, cld, .cell (some (.ref C)), csl⟩
structure InitEnd (h h' : Heap) (x C dx t1 : Addr) (v : Value) : Prop where
  keep : ∀ b o, b ≠ x → h.get? b = some o → h'.get? b = some o
  obj : h'.get? x = some { cls := .ref C, dict := some dx, data := .fields #[.ref t1, .none, .none, .none, .bool false, .none] }
  dbig : h.objs.size ≤ dx
  dne : dx ≠ x
  ns : h'.Ns1 dx (fun y => if y = "reason" then some v else none)
structure OwnMade (h h' : Heap) (e C d : Addr) (v : Value) : Prop where
  keep : ∀ b o, h.get? b = some o → h'.get? b = some o
  new : h.objs.size ≤ e
  obj : ∃ oe vs, h'.get? e = some oe ∧ oe.cls = .ref C ∧ oe.dict = some d ∧ oe.data = .fields vs ∧ vs[1]? = some .none
  dbig : h.objs.size ≤ d
  dne : d ≠ e
  ns : h'.Ns1 d (fun y => if y = "reason" then some v else none)
section
variable {prog : Program} {w : World} {A : Around} {E : Value → Shared → Prop} {R : Result → Shared → Prop} {s : Shared} {K : Frag} {mg mb : Str → Option Value} {C fI : Addr}
theorem init_ok (T : Txt prog K mg C fI) {x t0 : Addr} {v : Value} (X : K.In s.heap) (G : s.heap.Ns mainGlobals mg) (B : s.heap.Ns builtinsNs mb) (hB : mb "super" = bootBuiltins "super") (hlim : s.heap.NoLimit) (hx : s.heap.get? x = some (excO C t0)) (hnx : K.lookup x = none) (hroom : A.depth < recursionLimit)
    (hq : ∀ h' tk dx t1, InitEnd s.heap h' x C dx t1 v → R (.ok (.ret .none)) { s with heap := h', toks := tk }) :
    codeAny (model prog w) A (.call (.ref fI) ⟨[.ref x, v], []⟩) R s := by
  obtain ⟨oc, od, doc, pm, an, cda, cc, ct, osl, p1, p2, q1, q2, q4, q6, r1, r2, r3, r4, ccl, cl, cdd, cld, vs, ccs, csl, file, tf, ho, hcd, hcode, hvs, hfile, hcell⟩ := T.fn
  obtain ⟨nm, q, N, bs, bm, sn, sub, ab, col, dd, k0, k1, k2, k3, k5, hC, hbm⟩ := T.cls
  have hcl : clsIn K C = some { name := nm, bases := bs, mro := .ref C :: bm, ns := N, qualname := q, hasDict := true, slotNames := sn, subclasses := sub, abstract := ab, collection := col, hasDel := false } := by unfold clsIn; rw [hC] <;> rfl
  have hxC : x ≠ C := fun z => by rw [z, hC] at hnx; cases hnx
  refine ks_codeAny_call_defAt (fd := ksFn "__init__" "Refused.__init__" (iA p1 p2) (iB q1 q2 q4 q6 r1 r2 r3 r4) iS .none .none doc pm an (.ref cda) ct cc) (body := iB q1 q2 q4 q6 r1 r2 r3 r4) (binds := [("self", .ref x), ("reason", v)])
    hroom (X _ _ ho) rfl hlim (codeRec_of X hcd) rfl (BindsTo.of_eq rfl) (show ∀ y ∈ iS.names, y.2 ≠ NameKind.cell by decide +kernel) (locs rfl) (fun h₁ hn k => ?_) rfl rfl rfl
  show _root_.PySem.wpAt _ _ _ (execs (iB q1 q2 q4 q6 r1 r2 r3 r4) (ksEnv "Refused.__init__" iS s.heap.objs.size fI (.ref cda) cc)) _ _ _
  have X1 : K.In h₁ := X.keeps k
  have hx1 := k _ _ hx
  have lims : (fun y => List.lookup y ([("self", Value.ref x), ("reason", v)] : List (Str × Value)).reverse) "self" = some (.ref x) := by first | rfl | kernel_rfl
  have limf : (fun y => List.lookup y ([("self", Value.ref x), ("reason", v)] : List (Str × Value)).reverse) "reason" = some v := by first | rfl | kernel_rfl
  refine ks_wpAt_execs_cons ?_
  refine ks_wpAt_Expr_any ?_
  refine ks_wpAt_MethodCall ?_
  refine ks_wpAt_super_base (f := fI) (cc := cda) rfl rfl (by decide +kernel) rfl (X1 _ _ ho) rfl rfl rfl (X1 _ _ hcode) rfl hvs hfile T.top ?_
  refine ks_loadName_global rfl rfl (loadGlobal_builtin (G.keeps k) T.gS (B.keeps k) (hB.trans (by first | boot_by_name | rfl | kernel_rfl)) ⟨rfl, ?_⟩)
  refine wpAny_loadName_free rfl rfl rfl ⟨_, X1 _ _ hcell, rfl⟩ ?_
  refine wpAny_loadName_local rfl rfl hn lims ?_
  refine ks_wpAny_isType_cls (X1 _ _ hC) rfl ⟨rfl, ?_⟩
  refine ks_wpAny_call_super (X1 _ _ hC) rfl hx1 rfl (fun c e => by cases e) (looks_mroIn X1 T.selfC) (fun h2 e2 k2 => ?_)
  have X2 : K.In h2 := X1.keeps k2
  have hI2 : Looks (model prog w) h2 (isInstance (.ref x) (.type "ValueError")) true := (show Looks (model prog w) h2 (typeOf (.ref x)) (.ref C) from (InstAt.type (od := none) ⟨k2 _ _ hx1, rfl, rfl, trivial⟩)).andThen (looks_subIn X2 T.veC)
  refine kxs_getMethod kxs_ValueError (l₀ := .ref C :: bm) e2 (looks_opaque X2 T.opq) (fun A Q E s k q => wpAny_bind ((looks_clsIn X2 hcl) A _ E s k (wpAny_pure q))) rfl X2 (by
    have z := T.supC
    unfold ks_superIn at z
    rw [hcl] at z
    exact z) hI2 hxC (by decide +kernel) ?_
  have k3 : ∀ b o, h2.get? b = some o → (h2.push (kxs_mw "ValueError.__init__" x)).get? b = some o := fun b o e => Heap.get?_push_of_some _ e
  refine kxs_callWith (i := "ValueError.__init__") (x := x) rfl (evalArgs_plain (Calls.spliced_cons ?_))
  refine wpAny_Name (wpAny_loadName_local rfl rfl (m := fun y => List.lookup y ([("self", Value.ref x), ("reason", v)] : List (Str × Value)).reverse) (by
    obtain ⟨o, es, ep, ho', r⟩ := hn
    exact ⟨o, es, ep, k3 _ _ (k2 _ _ ho'), r⟩) limf ?_) (by decide +kernel)
  refine Calls.spliced_nil ?_
  refine ⟨Heap.get?_push_at rfl rfl, ?_⟩
  -- the call of ValueError.__init__
  refine wpAny_call (codeAny_of_tree ?_)
  show wpAny _ _ (callAny (.ref _) ⟨[_], []⟩) _ _ _
  simp only [callAny]
  refine wpAny_bind (wpAny_load (Heap.get?_push_at rfl rfl) ?_)
  simp only [kxs_mw, show (Value.type "method-wrapper" == Value.type "method" || Value.type "method-wrapper" == Value.type "builtin_function_or_method" || Value.type "method-wrapper" == Value.type "method-wrapper") = true by decide, if_true]
  refine KFB.if_so (by decide) ?_
  have hx3 := k3 _ _ (k2 _ _ hx1)
  refine wpAny_bind (check_bound_init F.excBase_ValueError.toExcCallFacts (k3 _ _ (k2 _ _ (X1 _ _ hC))) hx3 rfl ?_)
  refine wpAny_bind (wpAny_pure (wpAny_pure ?_))
  refine ⟨plainId_quiet F.excBase_ValueError.init.plain _, codeAny_builtin F.excBase_ValueError.initEntry ?_⟩
  refine exc_init_tree (cls := .ref C) (t0 := t0) (dv := none) (c2 := .none) (c3 := .none) (b4 := .bool false) hx3 (by show 1 ≤ sizeLine; decide) (fun h4 k4 e4 _ => ?_)
  -- self.reason = reason
  have kall : ∀ b o, b ≠ x → h₁.get? b = some o → h4.get? b = some o := fun b o hb e => k4 b o hb (k3 _ _ (k2 _ _ e))
  have hsx : s.heap.objs.size ≠ x := Nat.ne_of_gt (Heap.lt_size hx)
  have X4 : K.In h4 := fun b o e => kall b o (fun z => by rw [z, hnx] at e; cases e) (X1 b o e)
  have hn4 : h4.Ns s.heap.objs.size (fun y => List.lookup y ([("self", Value.ref x), ("reason", v)] : List (Str × Value)).reverse) := by
    obtain ⟨o, es, ep, ho', r⟩ := hn
    exact ⟨o, es, ep, kall _ _ hsx ho', r⟩
  refine wpAt_of_wpAny (wpAny_execs_cons (plainObj_wpAny_Assign_Attribute ?_))
  refine wpAny_Name (wpAny_loadName_local rfl rfl hn4 limf ?_) (by decide +kernel)
  refine wpAny_Name (wpAny_loadName_local rfl rfl hn4 lims ?_) (by decide +kernel)
  refine set_plain X4 (ox := excO C _) (od := none) ⟨e4, rfl, rfl, trivial⟩ T.sa ?_
  refine exc_osa X4 e4 hcl (show refsVE (.ref C :: bm) = true from hbm) rfl T.noN (fun h5 tk5 dx k5 dn dne hx5 hn5 => ?_)
  refine wpAny_execs_nil (hq h5 tk5 dx _ ⟨fun b o hb e => k5 b o hb (kall b o hb (k b o e)), hx5, ?_, dne, hn5⟩)
  have z1 : s.heap.objs.size < h₁.objs.size := hn.lt
  have z2 : s.heap.objs.size < h4.objs.size := hn4.lt
  exact Nat.le_of_lt (Nat.lt_of_lt_of_le z2 dn)
end
end SupRefused

namespace SupRefused
open PySem.W PySem.Calls PyProof.Rows PySem.HandSPX
theorem one_size (v : Value) : [v].length ≤ sizeLine := by
  show 1 ≤ sizeLine
  decide
section
variable {prog : Program} {w : World} {A : Around} {E : Value → Shared → Prop} {R : Result → Shared → Prop} {s : Shared} {K : Frag} {mg mb : Str → Option Value} {C fI : Addr}
theorem made (T : Txt prog K mg C fI) {v : Value} (X : K.In s.heap) (G : s.heap.Ns mainGlobals mg) (B : s.heap.Ns builtinsNs mb) (hB : mb "super" = bootBuiltins "super") (hlim : s.heap.NoLimit) (hroom : A.depth + 1 < recursionLimit)
    (hq : ∀ h' tk e d, OwnMade s.heap h' e C d v → R (.ok (.ret (.ref e))) { s with heap := h', toks := tk }) :
    codeAny (model prog w) A (.call (.ref C) ⟨[v], []⟩) R s := by
  obtain ⟨nm, q, N, bs, bm, sn, sub, ab, col, dd, k0, k1, k2, k3, k5, hC, hbm⟩ := T.cls
  obtain ⟨hp, g, dr, tk, os⟩ := s
  have k : ∀ b o, hp.get? b = some o → ((hp.push (kdv_tup [v])).push (excO C hp.objs.size)).get? b = some o := fun b o e => Heap.get?_push_of_some _ (Heap.get?_push_of_some _ e)
  have hget : ((hp.push (kdv_tup [v])).push (excO C hp.objs.size)).get? (hp.objs.size + 1) = some (excO C hp.objs.size) := by heap_get
  have hnx : K.lookup (hp.objs.size + 1) = none := by
    cases e : K.lookup (hp.objs.size + 1) with
    | none => rfl
    | some o =>
      have z : hp.get? (hp.objs.size + 1) = some o := X _ _ e
      exact absurd (Nat.lt_of_succ_lt (Heap.lt_size z)) (Nat.lt_irrefl _)
  refine call_own F.excBase_ValueError (fun X => refsVE_contains X bm hbm) (X _ _ hC) (looks_findIn X T.iC) (fun self => bind_fn X self T.tC) (one_size v) ?_
  refine init_ok (s := ⟨(hp.push (kdv_tup [v])).push (excO C hp.objs.size), g, dr, tk, os⟩) T (X.keeps k) (G.keeps k) (B.keeps k) hB (hlim.keeps k) hget hnx ?_ fun h' tk' dx t1 ⟨k', hx, dn, dne, hns⟩ => ?_
  · show A.depth + 1 < recursionLimit
    exact hroom
  · have old : ∀ b o, hp.get? b = some o → h'.get? b = some o := fun b o e => k' b o (Nat.ne_of_lt (Nat.lt_succ_of_lt (Heap.lt_size e))) (k b o e)
    have z : hp.objs.size + 1 + 1 ≤ dx := by
      first
        | (simpa only [Heap.size_push] using dn)
        | exact dn
        | (have q := dn; rw [Heap.size_push, Heap.size_push] at q; exact q)
    exact ⟨rfl, hq h' tk' (hp.objs.size + 1) dx ⟨old, Nat.le_succ _, ⟨_, _, hx, rfl, rfl, rfl, rfl⟩, Nat.le_trans (Nat.le_trans (Nat.le_succ _) (Nat.le_succ _)) z, dne, hns⟩⟩
end
open L2
theorem relO_f {v : V} {v' : Value} (r : RelV v v') (f : Str) : RelO (List.lookup f [(("reason" : Str), v)]) (if f = "reason" then some v' else none) := by
  by_cases hw : f = "reason"
  · subst hw
    rw [if_pos rfl]
    have q : List.lookup ("reason" : Str) [(("reason" : Str), v)] = some v := by simp [List.lookup]
    rw [q]
    exact r
  · rw [if_neg hw]
    have qw : (f == ("reason" : Str)) = false := by simpa using hw
    have q2 : List.lookup f [(("reason" : Str), v)] = none := by simp [List.lookup, qw]
    rw [q2]
    trivial
section
variable {X : Cx} {C fI : Addr}
theorem pmk {a : Expr} {ta : TA} {p pos : Pos} {k : Nat} (T : Txt X.prog X.K X.mg C fI) (hr : Room k X.A) (ha : PA X [a] ta) (hg : Gl X "Refused" := by rfl)
    (he : starEach (a :: []) X.env = (false, eval a X.env) :: starEach [] X.env := by rfl) (hpl : (backTo pos (starEach [] X.env)).any (·.1) = false := by rfl) :
    PMk X (.Call (.Name "Refused" p) [a] [] pos) (SR.tMkF C "reason" ta) := by
  intro pins s σ H Q I h
  refine wpAny_Call_Name_kw (ld_glob I hg T.gC ?_)
  refine PySem.W.callWith_K (h₀ := X.base) I.ok.mod.kin T.kC (thn (ha.run pos pins s σ H _ I h) fun us s1 hh => ?_) he hpl
  obtain ⟨vs, H1, I1, rr, v, ev, q1⟩ := hh
  subst ev
  refine ⟨I1.kIn, ?_⟩
  cases rr with
  | cons rv rn =>
    rename_i v' us'
    cases rn
    show wpAny _ _ (call (.ref C) [v']) _ _ _
    have hlim := I1.nolimit
    obtain ⟨mb, hB1, hB2⟩ := I1.mod.blt
    have kb := I1.bk
    obtain ⟨hp, g, dr, tk, os⟩ := s1
    refine wpAny_call (made T I1.kIn (I1.mod.glob.keeps kb) (hB1.keeps kb) (hB2 "super" (by decide +kernel)) hlim (by have := hr.dp; omega) fun h' tk' e d M => ?_)
    show MkP X pins σ Q (.ref e) ⟨h', g, dr, tk', os⟩
    obtain ⟨oe, fv, hoe, hc, hd, hdat, h1⟩ := M.obj
    have hns := M.ns
    obtain ⟨G', g1, g2⟩ := restrict h' fun b => decide (b ≠ e)
    have gk : ∀ b, b ≠ e → G'.get? b = h'.get? b := fun b hb => g1 b (decide_eq_true hb)
    have ge : G'.get? e = none := g2 e (by simp)
    have old : ∀ b o, hp.get? b = some o → G'.get? b = some o := fun b o q => (gk b (Nat.ne_of_lt (Nat.lt_of_lt_of_le (Heap.lt_size q) M.new))).trans (M.keep b o q)
    have ob : ObjOk X.prog X.w (upd H1 d (.xd [(("reason" : Str), v)])) G' d (.xd [(("reason" : Str), v)]) :=
      ⟨_, hns.at (fun o q => (gk d M.dne).trans q), fun f => relO_f rv f⟩
    have J : Inv X pins σ (upd H1 d (.xd [(("reason" : Str), v)])) ⟨G', g, dr, tk', os⟩ := I1.laid (t' := tk') old M.dbig ob
    refine ⟨e, oe, fv, ⟨G', g, dr, tk', os⟩, _, .ref C, some d, rfl, J, fun b o q => ?_, ge, hoe, ⟨hc, hd⟩, hdat, h1, ?_, rfl, I1.bare, raises_own T.exC T.tyC, q1 d (I1.hok.fresh M.dbig)⟩
    · by_cases hb : b = e
      · have q' : G'.get? b = some o := q
        rw [hb, ge] at q'; cases q'
      · exact (gk b hb).symm.trans q
    · rw [upd_ne (Ne.symm M.dne)]
      exact I1.hok.fresh M.new
/-- raise Refused(e) -/
theorem ps {a : Expr} {ta : TA} {W : WX} {p pos pos2 : Pos} {k : Nat} (hc : X.calm = true) (T : Txt X.prog X.K X.mg C fI) (hr : Room k X.A) (tk : Takes X W) (ha : PA X [a] ta) (hg : Gl X "Refused" := by rfl)
    (he : starEach (a :: []) X.env = (false, eval a X.env) :: starEach [] X.env := by rfl) (hpl : (backTo pos (starEach [] X.env)).any (·.1) = false := by rfl) :
    PS X (.Raise (some (.Call (.Name "Refused" p) [a] [] pos)) none pos2) (fun _ σ H => SR.tMkF C "reason" ta σ H fun cls d H' => W cls d σ H') := ps_raise hc tk (pmk T hr ha hg he hpl)
end
end SupRefused


namespace SupNoText
open PySem.W PySem.Calls PyProof.Rows PySem.HandSPX
def iA (p1 p2 : Pos) : Arguments := { posonlyargs := [], args := [{ arg := "self", annotation := none, pos := p1 }, { arg := "at", annotation := none, pos := p2 }], vararg := none, kwonlyargs := [], kw_defaults := [], kwarg := none, defaults := [] }
def iB (q1 q2 q4 q6 r1 r2 r3 r4 : Pos) : List Stmt := [.Expr (.Call (.Attribute (.Call (.Name "super" q1) [] [] q2) "__init__" ⟨20, 8, 20, 24⟩) [.Constant (.str "no text") 0 q4] [] ⟨20, 8, 20, 35⟩) q6, .Assign [.Attribute (.Name "self" r1) "at" r2] (.Name "at" r3) r4]
def iS : Scope := { kind := .function, names := [(PySem.Str.ofString "self", .local), (PySem.Str.ofString "at", .local), (PySem.Str.ofString "__class__", .free), (PySem.Str.ofString "super", .globalImplicit)], isGenerator := false, isCoroutine := false, more := [] }
structure Txt (P : Program) (K : Frag) (mg : Str → Option Value) (C fI : Addr) : Prop where
  gC : mg "NoText" = some (.ref C)
  gS : mg "super" = none
  cls : ∃ nm q N bs bm sn sub ab col dd k0 k1 k2 k3 k5, K.lookup C = some (excClassObj nm q C N bs bm true sn sub ab col dd k0 k1 k2 k3 k5 "ValueError.__new__") ∧ refsVE bm = true
  sa : findIn K (.ref C) "__setattr__" = some (some (.builtin "object.__setattr__"))
  noN : findIn K (.ref C) "at" = some none
  iC : findIn K (.ref C) "__init__" = some (some (.ref fI))
  tC : typeIn K (.ref fI) = some (.type "function")
  kC : keepIn K (.ref C) = true
  exC : subIn K (.ref C) (.type "BaseException") = some true
  veC : subIn K (.ref C) (.type "ValueError") = some true
  selfC : mroIn K C (.ref C) = some true
  tyC : typeIn K (.ref C) = some (.type "type")
  supC : ks_superIn K C C "__init__" = some (some (.builtin "ValueError.__init__"))
  opq : nsIn K cStatics "thirdparty.any" = some none
  top : (P.main.scope.names.lookup ("super" : Str)).isSome = false
  fn : ∃ (oc : Value) (od : Option Addr) (doc pm : Value) (an : Option Addr) (cda cc : Addr) (ct : Value) (osl : Array (Option Value)) (p1 p2 q1 q2 q4 q6 r1 r2 r3 r4 : Pos) (ccl cl : Value) (cdd cld : Option Addr) (vs : Array Value) (ccs csl : Array (Option Value)) (file : Str) (tf : Tok),
    K.lookup fI = some ⟨oc, od, .func (ksFn "__init__" "NoText.__init__" (iA p1 p2) (iB q1 q2 q4 q6 r1 r2 r3 r4) iS .none .none doc pm an (.ref cda) ct cc), osl⟩ ∧ codeIn K (.ref cda) "NoText.__init__" = true ∧
    K.lookup cda = some ⟨ccl, cdd, .fields vs, ccs⟩ ∧ vs[2]? = some (.str file tf) ∧ ((P.main.file : Str) == file) = true ∧ K.lookup cc = some ⟨cl, cld, .cell (some (.ref C)), csl⟩
structure InitEnd (h h' : Heap) (x C dx t1 : Addr) (v : Value) : Prop where
  keep : ∀ b o, b ≠ x → h.get? b = some o → h'.get? b = some o
  obj : h'.get? x = some { cls := .ref C, dict := some dx, data := .fields #[.ref t1, .none, .none, .none, .bool false, .none] }
  dbig : h.objs.size ≤ dx
  dne : dx ≠ x
  ns : h'.Ns1 dx (fun y => if y = "at" then some v else none)
structure OwnMade (h h' : Heap) (e C d : Addr) (v : Value) : Prop where
  keep : ∀ b o, h.get? b = some o → h'.get? b = some o
  new : h.objs.size ≤ e
  obj : ∃ oe vs, h'.get? e = some oe ∧ oe.cls = .ref C ∧ oe.dict = some d ∧ oe.data = .fields vs ∧ vs[1]? = some .none
  dbig : h.objs.size ≤ d
  dne : d ≠ e
  ns : h'.Ns1 d (fun y => if y = "at" then some v else none)
section
variable {prog : Program} {w : World} {A : Around} {E : Value → Shared → Prop} {R : Result → Shared → Prop} {s : Shared} {K : Frag} {mg mb : Str → Option Value} {C fI : Addr}
theorem init_ok (T : Txt prog K mg C fI) {x t0 : Addr} {v : Value} (X : K.In s.heap) (G : s.heap.Ns mainGlobals mg) (B : s.heap.Ns builtinsNs mb) (hB : mb "super" = bootBuiltins "super") (hlim : s.heap.NoLimit) (hx : s.heap.get? x = some (excO C t0)) (hnx : K.lookup x = none) (hroom : A.depth < recursionLimit)
    (hq : ∀ h' tk dx t1, InitEnd s.heap h' x C dx t1 v → R (.ok (.ret .none)) { s with heap := h', toks := tk }) :
    codeAny (model prog w) A (.call (.ref fI) ⟨[.ref x, v], []⟩) R s := by
  obtain ⟨oc, od, doc, pm, an, cda, cc, ct, osl, p1, p2, q1, q2, q4, q6, r1, r2, r3, r4, ccl, cl, cdd, cld, vs, ccs, csl, file, tf, ho, hcd, hcode, hvs, hfile, hcell⟩ := T.fn
  obtain ⟨nm, q, N, bs, bm, sn, sub, ab, col, dd, k0, k1, k2, k3, k5, hC, hbm⟩ := T.cls
  have hcl : clsIn K C = some { name := nm, bases := bs, mro := .ref C :: bm, ns := N, qualname := q, hasDict := true, slotNames := sn, subclasses := sub, abstract := ab, collection := col, hasDel := false } := by unfold clsIn; rw [hC] <;> rfl
  have hxC : x ≠ C := fun z => by rw [z, hC] at hnx; cases hnx
  refine ks_codeAny_call_defAt (fd := ksFn "__init__" "NoText.__init__" (iA p1 p2) (iB q1 q2 q4 q6 r1 r2 r3 r4) iS .none .none doc pm an (.ref cda) ct cc) (body := iB q1 q2 q4 q6 r1 r2 r3 r4) (binds := [("self", .ref x), ("at", v)])
    hroom (X _ _ ho) rfl hlim (codeRec_of X hcd) rfl (BindsTo.of_eq rfl) (show ∀ y ∈ iS.names, y.2 ≠ NameKind.cell by decide +kernel) (locs rfl) (fun h₁ hn k => ?_) rfl rfl rfl
  show _root_.PySem.wpAt _ _ _ (execs (iB q1 q2 q4 q6 r1 r2 r3 r4) (ksEnv "NoText.__init__" iS s.heap.objs.size fI (.ref cda) cc)) _ _ _
  have X1 : K.In h₁ := X.keeps k
  have hx1 := k _ _ hx
  have lims : (fun y => List.lookup y ([("self", Value.ref x), ("at", v)] : List (Str × Value)).reverse) "self" = some (.ref x) := by first | rfl | kernel_rfl
  have limf : (fun y => List.lookup y ([("self", Value.ref x), ("at", v)] : List (Str × Value)).reverse) "at" = some v := by first | rfl | kernel_rfl
  refine ks_wpAt_execs_cons ?_
  refine ks_wpAt_Expr_any ?_
  refine ks_wpAt_MethodCall ?_
  refine ks_wpAt_super_base (f := fI) (cc := cda) rfl rfl (by decide +kernel) rfl (X1 _ _ ho) rfl rfl rfl (X1 _ _ hcode) rfl hvs hfile T.top ?_
  refine ks_loadName_global rfl rfl (loadGlobal_builtin (G.keeps k) T.gS (B.keeps k) (hB.trans (by first | boot_by_name | rfl | kernel_rfl)) ⟨rfl, ?_⟩)
  refine wpAny_loadName_free rfl rfl rfl ⟨_, X1 _ _ hcell, rfl⟩ ?_
  refine wpAny_loadName_local rfl rfl hn lims ?_
  refine ks_wpAny_isType_cls (X1 _ _ hC) rfl ⟨rfl, ?_⟩
  refine ks_wpAny_call_super (X1 _ _ hC) rfl hx1 rfl (fun c e => by cases e) (looks_mroIn X1 T.selfC) (fun h2 e2 k2 => ?_)
  have X2 : K.In h2 := X1.keeps k2
  have hI2 : Looks (model prog w) h2 (isInstance (.ref x) (.type "ValueError")) true := (show Looks (model prog w) h2 (typeOf (.ref x)) (.ref C) from (InstAt.type (od := none) ⟨k2 _ _ hx1, rfl, rfl, trivial⟩)).andThen (looks_subIn X2 T.veC)
  refine kxs_getMethod kxs_ValueError (l₀ := .ref C :: bm) e2 (looks_opaque X2 T.opq) (fun A Q E s k q => wpAny_bind ((looks_clsIn X2 hcl) A _ E s k (wpAny_pure q))) rfl X2 (by
    have z := T.supC
    unfold ks_superIn at z
    rw [hcl] at z
    exact z) hI2 hxC (by decide +kernel) ?_
  have k3 : ∀ b o, h2.get? b = some o → (h2.push (kxs_mw "ValueError.__init__" x)).get? b = some o := fun b o e => Heap.get?_push_of_some _ e
  refine kxs_callWith (i := "ValueError.__init__") (x := x) rfl (evalArgs_plain (Calls.spliced_cons ?_))
  show wpAny _ _ (eval (.Constant (.str "no text") 0 q4) _) _ _ _
  refine Calls.Constant_str ?_
  refine Calls.spliced_nil ?_
  refine ⟨Heap.get?_push_at rfl rfl, ?_⟩
  -- the call of ValueError.__init__
  refine wpAny_call (codeAny_of_tree ?_)
  show wpAny _ _ (callAny (.ref _) ⟨[_], []⟩) _ _ _
  simp only [callAny]
  refine wpAny_bind (wpAny_load (Heap.get?_push_at rfl rfl) ?_)
  simp only [kxs_mw, show (Value.type "method-wrapper" == Value.type "method" || Value.type "method-wrapper" == Value.type "builtin_function_or_method" || Value.type "method-wrapper" == Value.type "method-wrapper") = true by decide, if_true]
  refine KFB.if_so (by decide) ?_
  have hx3 := k3 _ _ (k2 _ _ hx1)
  refine wpAny_bind (check_bound_init F.excBase_ValueError.toExcCallFacts (k3 _ _ (k2 _ _ (X1 _ _ hC))) hx3 rfl ?_)
  refine wpAny_bind (wpAny_pure (wpAny_pure ?_))
  refine ⟨plainId_quiet F.excBase_ValueError.init.plain _, codeAny_builtin F.excBase_ValueError.initEntry ?_⟩
  refine exc_init_tree (cls := .ref C) (t0 := t0) (dv := none) (c2 := .none) (c3 := .none) (b4 := .bool false) hx3 (by show 1 ≤ sizeLine; decide) (fun h4 k4 e4 _ => ?_)
  -- self.at = at
  have kall : ∀ b o, b ≠ x → h₁.get? b = some o → h4.get? b = some o := fun b o hb e => k4 b o hb (k3 _ _ (k2 _ _ e))
  have hsx : s.heap.objs.size ≠ x := Nat.ne_of_gt (Heap.lt_size hx)
  have X4 : K.In h4 := fun b o e => kall b o (fun z => by rw [z, hnx] at e; cases e) (X1 b o e)
  have hn4 : h4.Ns s.heap.objs.size (fun y => List.lookup y ([("self", Value.ref x), ("at", v)] : List (Str × Value)).reverse) := by
    obtain ⟨o, es, ep, ho', r⟩ := hn
    exact ⟨o, es, ep, kall _ _ hsx ho', r⟩
  refine wpAt_of_wpAny (wpAny_execs_cons (plainObj_wpAny_Assign_Attribute ?_))
  refine wpAny_Name (wpAny_loadName_local rfl rfl hn4 limf ?_) (by decide +kernel)
  refine wpAny_Name (wpAny_loadName_local rfl rfl hn4 lims ?_) (by decide +kernel)
  refine set_plain X4 (ox := excO C _) (od := none) ⟨e4, rfl, rfl, trivial⟩ T.sa ?_
  refine exc_osa X4 e4 hcl (show refsVE (.ref C :: bm) = true from hbm) rfl T.noN (fun h5 tk5 dx k5 dn dne hx5 hn5 => ?_)
  refine wpAny_execs_nil (hq h5 tk5 dx _ ⟨fun b o hb e => k5 b o hb (kall b o hb (k b o e)), hx5, ?_, dne, hn5⟩)
  have z1 : s.heap.objs.size < h₁.objs.size := hn.lt
  have z2 : s.heap.objs.size < h4.objs.size := hn4.lt
  exact Nat.le_of_lt (Nat.lt_of_lt_of_le z2 dn)
end
end SupNoText

namespace SupNoText
open PySem.W PySem.Calls PyProof.Rows PySem.HandSPX
theorem one_size (v : Value) : [v].length ≤ sizeLine := by
  show 1 ≤ sizeLine
  decide
section
variable {prog : Program} {w : World} {A : Around} {E : Value → Shared → Prop} {R : Result → Shared → Prop} {s : Shared} {K : Frag} {mg mb : Str → Option Value} {C fI : Addr}
theorem made (T : Txt prog K mg C fI) {v : Value} (X : K.In s.heap) (G : s.heap.Ns mainGlobals mg) (B : s.heap.Ns builtinsNs mb) (hB : mb "super" = bootBuiltins "super") (hlim : s.heap.NoLimit) (hroom : A.depth + 1 < recursionLimit)
    (hq : ∀ h' tk e d, OwnMade s.heap h' e C d v → R (.ok (.ret (.ref e))) { s with heap := h', toks := tk }) :
    codeAny (model prog w) A (.call (.ref C) ⟨[v], []⟩) R s := by
  obtain ⟨nm, q, N, bs, bm, sn, sub, ab, col, dd, k0, k1, k2, k3, k5, hC, hbm⟩ := T.cls
  obtain ⟨hp, g, dr, tk, os⟩ := s
  have k : ∀ b o, hp.get? b = some o → ((hp.push (kdv_tup [v])).push (excO C hp.objs.size)).get? b = some o := fun b o e => Heap.get?_push_of_some _ (Heap.get?_push_of_some _ e)
  have hget : ((hp.push (kdv_tup [v])).push (excO C hp.objs.size)).get? (hp.objs.size + 1) = some (excO C hp.objs.size) := by heap_get
  have hnx : K.lookup (hp.objs.size + 1) = none := by
    cases e : K.lookup (hp.objs.size + 1) with
    | none => rfl
    | some o =>
      have z : hp.get? (hp.objs.size + 1) = some o := X _ _ e
      exact absurd (Nat.lt_of_succ_lt (Heap.lt_size z)) (Nat.lt_irrefl _)
  refine call_own F.excBase_ValueError (fun X => refsVE_contains X bm hbm) (X _ _ hC) (looks_findIn X T.iC) (fun self => bind_fn X self T.tC) (one_size v) ?_
  refine init_ok (s := ⟨(hp.push (kdv_tup [v])).push (excO C hp.objs.size), g, dr, tk, os⟩) T (X.keeps k) (G.keeps k) (B.keeps k) hB (hlim.keeps k) hget hnx ?_ fun h' tk' dx t1 ⟨k', hx, dn, dne, hns⟩ => ?_
  · show A.depth + 1 < recursionLimit
    exact hroom
  · have old : ∀ b o, hp.get? b = some o → h'.get? b = some o := fun b o e => k' b o (Nat.ne_of_lt (Nat.lt_succ_of_lt (Heap.lt_size e))) (k b o e)
    have z : hp.objs.size + 1 + 1 ≤ dx := by
      first
        | (simpa only [Heap.size_push] using dn)
        | exact dn
        | (have q := dn; rw [Heap.size_push, Heap.size_push] at q; exact q)
    exact ⟨rfl, hq h' tk' (hp.objs.size + 1) dx ⟨old, Nat.le_succ _, ⟨_, _, hx, rfl, rfl, rfl, rfl⟩, Nat.le_trans (Nat.le_trans (Nat.le_succ _) (Nat.le_succ _)) z, dne, hns⟩⟩
end
open L2
theorem relO_f {v : V} {v' : Value} (r : RelV v v') (f : Str) : RelO (List.lookup f [(("at" : Str), v)]) (if f = "at" then some v' else none) := by
  by_cases hw : f = "at"
  · subst hw
    rw [if_pos rfl]
    have q : List.lookup ("at" : Str) [(("at" : Str), v)] = some v := by simp [List.lookup]
    rw [q]
    exact r
  · rw [if_neg hw]
    have qw : (f == ("at" : Str)) = false := by simpa using hw
    have q2 : List.lookup f [(("at" : Str), v)] = none := by simp [List.lookup, qw]
    rw [q2]
    trivial
section
variable {X : Cx} {C fI : Addr}
theorem pmk {a : Expr} {ta : TA} {p pos : Pos} {k : Nat} (T : Txt X.prog X.K X.mg C fI) (hr : Room k X.A) (ha : PA X [a] ta) (hg : Gl X "NoText" := by rfl)
    (he : starEach (a :: []) X.env = (false, eval a X.env) :: starEach [] X.env := by rfl) (hpl : (backTo pos (starEach [] X.env)).any (·.1) = false := by rfl) :
    PMk X (.Call (.Name "NoText" p) [a] [] pos) (SR.tMkF C "at" ta) := by
  intro pins s σ H Q I h
  refine wpAny_Call_Name_kw (ld_glob I hg T.gC ?_)
  refine PySem.W.callWith_K (h₀ := X.base) I.ok.mod.kin T.kC (thn (ha.run pos pins s σ H _ I h) fun us s1 hh => ?_) he hpl
  obtain ⟨vs, H1, I1, rr, v, ev, q1⟩ := hh
  subst ev
  refine ⟨I1.kIn, ?_⟩
  cases rr with
  | cons rv rn =>
    rename_i v' us'
    cases rn
    show wpAny _ _ (call (.ref C) [v']) _ _ _
    have hlim := I1.nolimit
    obtain ⟨mb, hB1, hB2⟩ := I1.mod.blt
    have kb := I1.bk
    obtain ⟨hp, g, dr, tk, os⟩ := s1
    refine wpAny_call (made T I1.kIn (I1.mod.glob.keeps kb) (hB1.keeps kb) (hB2 "super" (by decide +kernel)) hlim (by have := hr.dp; omega) fun h' tk' e d M => ?_)
    show MkP X pins σ Q (.ref e) ⟨h', g, dr, tk', os⟩
    obtain ⟨oe, fv, hoe, hc, hd, hdat, h1⟩ := M.obj
    have hns := M.ns
    obtain ⟨G', g1, g2⟩ := restrict h' fun b => decide (b ≠ e)
    have gk : ∀ b, b ≠ e → G'.get? b = h'.get? b := fun b hb => g1 b (decide_eq_true hb)
    have ge : G'.get? e = none := g2 e (by simp)
    have old : ∀ b o, hp.get? b = some o → G'.get? b = some o := fun b o q => (gk b (Nat.ne_of_lt (Nat.lt_of_lt_of_le (Heap.lt_size q) M.new))).trans (M.keep b o q)
    have ob : ObjOk X.prog X.w (upd H1 d (.xd [(("at" : Str), v)])) G' d (.xd [(("at" : Str), v)]) :=
      ⟨_, hns.at (fun o q => (gk d M.dne).trans q), fun f => relO_f rv f⟩
    have J : Inv X pins σ (upd H1 d (.xd [(("at" : Str), v)])) ⟨G', g, dr, tk', os⟩ := I1.laid (t' := tk') old M.dbig ob
    refine ⟨e, oe, fv, ⟨G', g, dr, tk', os⟩, _, .ref C, some d, rfl, J, fun b o q => ?_, ge, hoe, ⟨hc, hd⟩, hdat, h1, ?_, rfl, I1.bare, raises_own T.exC T.tyC, q1 d (I1.hok.fresh M.dbig)⟩
    · by_cases hb : b = e
      · have q' : G'.get? b = some o := q
        rw [hb, ge] at q'; cases q'
      · exact (gk b hb).symm.trans q
    · rw [upd_ne (Ne.symm M.dne)]
      exact I1.hok.fresh M.new
/-- raise NoText(e) -/
theorem ps {a : Expr} {ta : TA} {W : WX} {p pos pos2 : Pos} {k : Nat} (hc : X.calm = true) (T : Txt X.prog X.K X.mg C fI) (hr : Room k X.A) (tk : Takes X W) (ha : PA X [a] ta) (hg : Gl X "NoText" := by rfl)
    (he : starEach (a :: []) X.env = (false, eval a X.env) :: starEach [] X.env := by rfl) (hpl : (backTo pos (starEach [] X.env)).any (·.1) = false := by rfl) :
    PS X (.Raise (some (.Call (.Name "NoText" p) [a] [] pos)) none pos2) (fun _ σ H => SR.tMkF C "at" ta σ H fun cls d H' => W cls d σ H') := ps_raise hc tk (pmk T hr ha hg he hpl)
end
end SupNoText

end SR
set_option Elab.async false
set_option linter.all false
set_option maxRecDepth 100000
set_option maxHeartbeats 2000000
/-! rules that the layer lacks: an own class's __len__ and __iter__, lists with the same items compared, a class made whatever is being handled -/
namespace SR
open PySem PySem.Spec PyProof.Rows L2 ItX
/-- a promise that knows how large the heap is at the entry -/
structure FnS (P : Program) (w : World) (K : PySem.W.Frag) (mg : Str → Option Value) (base : Heap) (k : Nat) (f : Addr) (fd : FuncData) (ps : List Str) (sp : Nat → Sp) : Prop where
  len : ∀ n vs H Q E, sp n vs H Q E → vs.length = ps.length
  run : ∀ (A : Around) (outer : List Env) (s : Shared) (H : Hp) (args : Args) (us : List Value) (vs : List V) (Q : VK) (E : XK), Room k A → Env0 P w K mg base A outer s H → BindsTo s fd args (ps.zip us) → Vals vs us → sp s.heap.objs.size vs H Q E →
    codeAny (model P w) A (.call (.ref f) args) (CR CX0 outer P w H s Q E) s
theorem fn_ofS {P : Program} {w : World} {K : PySem.W.Frag} {mg : Str → Option Value} {base : Heap} {k : Nat} {f : Addr} {name qual : Str} {params : Arguments} {body : List Stmt} {scope : Scope} {dV kV doc pm cdv ct oc : Value} {an od : Option Addr}
    {osl : Array (Option Value)} {N ps : List Str} {sp : Nat → Sp} (lk : K.lookup f = some ⟨oc, od, .func (PySem.W.fnOf name qual params body scope dV kV doc pm an cdv ct), osl⟩) (hcd : PySem.W.codeIn K cdv qual = true) (S : FnScope N ps scope)
    (len : ∀ n vs H Q E, sp n vs H Q E → vs.length = ps.length)
    (hbody : ∀ (A : Around) (outer : List Env) (s : Shared) (H : Hp) (vs : List V) (Q : VK) (E : XK), Room k (A.deeper (envOfC qual scope s.heap.objs.size f cdv)) → sp s.heap.objs.size vs H Q E →
      ∃ t, PSs (cxOf CX0 P w K mg base N qual scope f cdv A outer s H E) body t ∧ t { nx := fun _ H' => Q .non H', rt := Q } (start N vs) H) :
    FnS P w K mg base (k + 1) f (PySem.W.fnOf name qual params body scope dV kV doc pm an cdv ct) ps sp := by
  refine ⟨len, fun A outer s H args us vs Q E hr e0 hb r hsp => ?_⟩
  have hl := len _ _ _ _ _ hsp
  have KX : K.In s.heap := e0.mod.kin.keeps fun b o e => (e0.bs b o e).1
  have lim : s.heap.NoLimit := e0.mod.nolimit.keeps fun b o e => (e0.bs b o e).1
  have hdep : A.depth < recursionLimit := hr.depth
  have hkind : ∀ y ∈ ps.zip us, scope.names.lookup y.1 = some .local ∨ (scope.names.lookup y.1 = some .cell ∧ ((cellsFrom (s.heap.objs.size + 1) scope.names []).lookup y.1).isSome = true) := fun ⟨n, v⟩ hy => by
    rcases S.par n (List.of_mem_zip hy).1 with q | q
    · exact .inl q
    · exact .inr ⟨q, PySem.W.cellsFrom_some _ _ _ (.inl q)⟩
  refine codeAny_call_function hdep (KX _ _ lk) rfl S.co S.gen rfl (PySem.W.codeRec_of KX hcd) (hb _ _ _ _ ?_)
  refine wpAny_newFunctionEnv_cells S.kind hkind fun env he s1 x => ?_
  subst he
  refine ⟨lim.keeps x.toInCall.keep, codeAny_func ?_⟩
  obtain ⟨t, ht, hq⟩ := hbody A outer s H vs Q E (hr.deeper _) hsp
  have I : Inv (cxOf CX0 P w K mg base N qual scope f cdv A outer s H E) [] (start N vs) H s1 := inv_start S hr.hd e0 hl r x
  refine wpAny_mono (ht.run [] s1 (start N vs) H _ I hq) (fun fl s' hs => ?_) fun e s' hs => hs
  have fin : ∀ {σ' : L2.St} {H' : Hp} {v : V} {u : Value}, Inv (cxOf CX0 P w K mg base N qual scope f cdv A outer s H E) [] σ' H' s' → RelV v u → Q v H' → CE outer P w H s Q u s' :=
    fun {σ' H' v u} J rv q => ⟨v, H', J.os, J.bare, J.base, J.hok, rv, q⟩
  cases fl with
  | ret u =>
    obtain ⟨v, σ', H', J, rv, q⟩ := hs
    exact fin J rv q
  | next =>
    obtain ⟨σ', H', J, q⟩ := hs
    exact fin (v := V.non) (u := Value.none) J rfl q
  | brk =>
    obtain ⟨_, _, _, q⟩ := hs
    exact False.elim q
  | cont =>
    obtain ⟨_, _, _, q⟩ := hs
    exact False.elim q
section
variable {X : Cx} {CX : CXT} {k : Nat} {f C : Addr} {fd : FuncData} {ps : List Str} {sp : Sp} {E : XK}
/-- a def that raises nothing, run around A' -/
theorem run_at {A' : Around} {pins : List (Addr × Obj)} {σ : L2.St} {H : Hp} {s : Shared} {Q : VK} {us : List Value} {vs : List V} {E' : Value → Shared → Prop} (F : FnOk X.prog X.w X.K X.mg X.base CX0 k f fd ps sp) (hr : Room k A') (e0 : Env0 X.prog X.w X.K X.mg X.base A' X.stack s H)
    (hb : Binds X.K fd ps []) (I : Inv X pins σ H s) (r : Vals vs us) (h : sp vs H Q (fun _ _ _ => False)) :
    wpAny (model X.prog X.w) A' (call (.ref f) us) (fun u s' => ∃ x H', Inv X pins σ H' s' ∧ RelV x u ∧ Q x H' ∧ ∀ b v, s.heap.get? b = some v → H b = none → H' b = none) E' s := by
  have hl : (us ++ []).length = ps.length := by rw [List.append_nil, ← r.length]; exact F.len _ _ _ _ h
  have b := hb s us I.kIn hl
  rw [List.append_nil] at b
  refine wpAny_call (codeAny_mono (F.run A' X.stack s H ⟨us, []⟩ us vs Q (fun _ _ _ => False) hr e0 b r h) fun r s' hq => ?_)
  cases r with
  | error e => exact False.elim hq
  | ok fl =>
    cases fl with
    | ret u =>
      obtain ⟨x, H', os, bare, un, hok, rx, q⟩ := hq
      obtain ⟨hh, g, d, t, os'⟩ := s'
      obtain rfl : os' = s.os := os
      exact ⟨x, H', I.call (h' := hh) (g' := g) (d' := d) (t' := t) (ch := []) un hok bare (fun b z => absurd z (by simp)), rx, q, fun b v e n => un.free b v e n (by simp)⟩
    | next => exact False.elim hq
    | brk => exact False.elim hq
    | cont => exact False.elim hq
/-- len(o), o's class with its own __len__ -/
def rLenO (K : PySem.W.Frag) (C : Addr) (sp : Sp) : List V → Hp → VK → Prop := fun xs H Q => ∃ a dx fs, xs = [.ref a] ∧ H a = some (.ins C dx fs) ∧
  sp [.ref a] H (fun v H' => ∃ n : Nat, v = .int (n : Int) ∧ n < 2 ^ 62 ∧ Q (.int (n : Int)) H') (fun _ _ _ => False)
theorem call_lenO (hs : PySem.W.findIn X.K (.ref C) "__len__" = some (some (.ref f))) (hf : PySem.W.isFn X.K (.ref f) = true) (F : FnOk X.prog X.w X.K X.mg X.base CX0 k f fd ps sp) (hr : Room (k + 1) X.A) (hb : Binds X.K fd ps []) :
    CallR X (.builtin "len") (rLenO X.K C sp) := by
  intro pins s σ H xs us Q I r h
  obtain ⟨a, dx, fs, rfl, ea, hq⟩ := h
  obtain rfl := Vals.ref1 r
  obtain ⟨mA, ob, rel, wi, hl, hd⟩ := ins_get I.hok ea
  obtain ⟨od, ia, lk⟩ := ob.look
  obtain ⟨m, fr⟩ := I.fr
  refine PySem.W.len_K fr I.ok.mod.kin ia hs hf (thn (run_at F hr.in1 I.env0.in1 hb I (us := [.ref a]) (.cons (show RelV (.ref a) (.ref a) from rfl) .nil) hq) fun u s' hh => ?_)
  obtain ⟨x, H', I', rx, ⟨n, ex, hn, q⟩, _⟩ := hh
  subst ex
  obtain ⟨t, rfl⟩ := rx
  refine ⟨⟨by omega, by omega⟩, ⟨.int (n : Int), H', I'.tok _, ⟨_, rfl⟩, q⟩⟩
/-- for x in o, o's class with an own __iter__ that hands back a new iterator over a list -/
def iOwn (K : PySem.W.Frag) (C : Addr) (te : TE) : TI := fun σ H R => te σ H fun x H1 => ∃ a dx fs l xs, x = .ref a ∧ H1 a = some (.ins C dx fs) ∧ fs.lookup ("_entries" : Str) = some (V.ref l) ∧ SqL K H1 l xs ∧ R (Itl K l) H1
/-- what such an __iter__ promises: it hands back a new iterator -/
def spIt (K : PySem.W.Frag) (C : Addr) (n : Nat) : Sp := fun vs H Q _ => ∃ a dx fs l xs, vs = [.ref a] ∧ H a = some (.ins C dx fs) ∧ fs.lookup ("_entries" : Str) = some (V.ref l) ∧ SqL K H l xs ∧ ∀ it, H it = none → n ≤ it → Q (.ref it) (upd H it (ItO l it 0))
theorem pi_own {tg e : Expr} {te : TE} (he : PE X e te) (hs : PySem.W.findIn X.K (.ref C) "__iter__" = some (some (.ref f))) (hf : PySem.W.isFn X.K (.ref f) = true) (F : FnS X.prog X.w X.K X.mg X.base k f fd ps (spIt X.K C)) (hr : Room k X.A) (hb : Binds X.K fd ps []) :
    PI X tg e (iOwn X.K C te) := by
  refine ⟨fun pins s σ H R I h => ?_⟩
  refine thn (he.run pins s σ H _ I h) fun v s1 hh => ?_
  obtain ⟨x, H1, I1, rx, a, dx, fs, l, xs, ex, ea, el, hS, q⟩ := hh
  subst ex
  obtain rfl : v = Value.ref a := rx
  obtain ⟨mA, ob, rel, wi, hl, hd⟩ := ins_get I1.hok ea
  obtain ⟨od, ia, lk⟩ := ob.look
  obtain ⟨m, fr⟩ := I1.fr
  have hlen : ([Value.ref a] ++ []).length = ps.length := by
    rw [List.append_nil]
    exact F.len 0 [.ref a] H1 (fun _ _ => True) (fun _ _ _ => False) ⟨a, dx, fs, l, xs, rfl, ea, el, hS, fun _ _ _ => trivial⟩
  have b := hb s1 [Value.ref a] I1.kIn hlen
  rw [List.append_nil] at b
  refine PySem.W.owit_iter fr I1.ok.mod.kin ia hs hf (wpAny_call (codeAny_mono (F.run X.A X.stack s1 H1 ⟨[.ref a], []⟩ [.ref a] [.ref a] (fun v H2 => ∃ it, v = .ref it ∧ H1 it = none ∧ s1.heap.objs.size ≤ it ∧ H2 = upd H1 it (ItO l it 0)) (fun _ _ _ => False) hr I1.env0 b (.cons (show RelV (.ref a) (.ref a) from rfl) .nil)
    ⟨a, dx, fs, l, xs, rfl, ea, el, hS, fun it n1 n2 => ⟨it, rfl, n1, n2, rfl⟩⟩) fun r s2 hq => ?_))
  cases r with
  | error e => exact False.elim hq
  | ok fl =>
    cases fl with
    | ret u =>
      obtain ⟨y, H2, I2, ry, it, ey, n1, n2, eH⟩ := I1.after hq
      subst ey; subst eH
      obtain rfl : u = Value.ref it := ry
      have eit : (upd H1 it (ItO l it 0)) it = some (ItO l it 0) := upd_same
      have ob2 := itO_get I2 eit
      have tI : ({ s2 with toks := s2.toks } : Shared).TypeIs (.ref it) "list_iterator" := ⟨_, ob2, rfl⟩
      have I3 := inv_drop I2 eit
      rw [dropH_upd n1] at I3
      have fp := inv_fp I2 eit (Nat.le_trans I1.sz n2)
      rw [dropH_upd n1] at fp
      show PySem.W.OwitIt _ _ _ _ (.ref it) s2
      unfold PySem.W.OwitIt
      refine wpAny_specialOf tI slot_listiter_next.lookup ?_
      refine ⟨it, [it], _, _, H1, rfl, I3, turn_list l it, ?_, fun b hb => ?_, q⟩
      · exact ⟨_, ob2, rfl, rfl⟩
      · have e : b = it := by simpa using hb
        subst e
        exact fp
    | next => exact False.elim hq
    | brk => exact False.elim hq
    | cont => exact False.elim hq
/-- two lists that hold the very same objects -/
def rNeSame (K : PySem.W.Frag) : R2 := fun x y H Q => ∃ (p q : Addr) (cs : List Addr), x = .ref p ∧ y = .ref q ∧ SqL K H p (cs.map V.ref) ∧ SqL K H q (cs.map V.ref) ∧ Q (.bl false) H
theorem vals_refs : ∀ {cs : List Addr} {us : List Value}, Vals (cs.map V.ref) us → us = cs.map Value.ref
  | [], _, h => by cases h; rfl
  | a :: cs, _, h => by
    cases h with
    | cons r t =>
      obtain rfl := vals_refs t
      obtain rfl : _ = Value.ref a := r
      rfl
theorem op_neSame (hu : X.A.units < cLine) : OpR X (compareOp .NotEq) (rNeSame X.K) := by
  intro pins s σ H x y v u Q I rx ry h
  obtain ⟨p, q, cs, rfl, rfl, hp, hq, h⟩ := h
  obtain rfl : v = Value.ref p := rx
  obtain rfl : u = Value.ref q := ry
  obtain ⟨its, r1, l1, _⟩ := I.list hp
  obtain ⟨its2, r2, l2, _⟩ := I.list hq
  have e1 := vals_refs r1
  have e2 := vals_refs r2
  subst e1; subst e2
  have z := SeqAt.RcNeAt.lists (A := X.A) (e := fun _ => true) l1.isList l2.isList rfl hu fun j h1 h2 => SeqAt.EqAt.same _
  have e : (!((List.range ((cs.map Value.ref).toArray).size).all fun _ => true)) = false := by simp
  rw [e] at z
  exact z X.prog X.w X.xe (EP X pins σ Q) ⟨.bl false, H, I, rfl, h⟩
end
/-! ### a class made whatever is being handled -/
structure RoomN (k : Nat) (A : Around) : Prop where
  dp : A.depth + 3 * k + 5 < recursionLimit
  un : A.units + 16 * k + 200 < cLine
theorem Room.n {k : Nat} {A : Around} (r : Room k A) : RoomN k A := ⟨r.dp, r.un⟩
theorem RoomN.mono {j k : Nat} {A : Around} (r : RoomN k A) (h : j ≤ k) : RoomN j A := ⟨by have := r.dp; omega, by have := r.un; omega⟩
theorem RoomN.make {k : Nat} {A : Around} (r : RoomN (k + 1) A) (C : Addr) (us : List Value) (kw : List (Str × Value)) : RoomN k (A.under (.builtin "type.__call__" ⟨.ref C :: us, kw⟩)) :=
  ⟨by have := r.dp; rw [make_depth]; omega, by have := r.un; rw [make_units]; omega⟩
theorem RoomN.mark {k : Nat} {A : Around} (r : RoomN k A) (v : Option Value) : RoomN k (A.mark v) := ⟨r.dp, r.un⟩
structure FnN (P : Program) (w : World) (K : PySem.W.Frag) (mg : Str → Option Value) (base : Heap) (k : Nat) (f : Addr) (fd : FuncData) (ps : List Str) (sp : Sp) : Prop where
  len : ∀ vs H Q E, sp vs H Q E → vs.length = ps.length
  run : ∀ (A : Around) (outer : List Env) (s : Shared) (H : Hp) (args : Args) (us : List Value) (vs : List V) (Q : VK) (E : XK), RoomN k A → Env0 P w K mg base A outer s H → BindsTo s fd args (ps.zip us) → Vals vs us → sp vs H Q E →
    codeAny (model P w) A (.call (.ref f) args) (CR CX0 outer P w H s Q E) s
theorem FnN.ok {P : Program} {w : World} {K : PySem.W.Frag} {mg : Str → Option Value} {base : Heap} {k : Nat} {f : Addr} {fd : FuncData} {ps : List Str} {sp : Sp} (F : FnN P w K mg base k f fd ps sp) : FnOk P w K mg base CX0 k f fd ps sp :=
  ⟨F.len, fun A outer s H args us vs Q E hr e0 hb r h => F.run A outer s H args us vs Q E (Room.n hr) e0 hb r h⟩
/-- the context of such a body: nothing is known of what is handled -/
def cxN (P : Program) (w : World) (K : PySem.W.Frag) (mg : Str → Option Value) (base : Heap) (N : List Str) (qual : Str) (scope : Scope) (f : Addr) (cd : Value) (A : Around) (outer : List Env) (s : Shared) (H : Hp) (E : XK) : Cx :=
  { cxOf CX0 P w K mg base N qual scope f cd A outer s H E with calm := false }
theorem inv_startN {P : Program} {w : World} {K : PySem.W.Frag} {mg : Str → Option Value} {base : Heap} {N ps : List Str} {qual : Str} {scope : Scope} {f : Addr} {cd : Value} {A : Around} {outer : List Env} {s s1 : Shared} {H : Hp} {E : XK} {us : List Value} {vs : List V}
    (S : FnScope N ps scope) (e0 : Env0 P w K mg base A outer s H) (hl : vs.length = ps.length) (r : Vals vs us)
    (x : InCallC s s.heap.objs.size (bindL (envOfC qual scope s.heap.objs.size f cd).kindOf (ps.zip us) fun _ => none) (cellsFrom (s.heap.objs.size + 1) scope.names []) (bindC (envOfC qual scope s.heap.objs.size f cd).kindOf (ps.zip us) fun _ => none) s1) :
    Inv (cxN P w K mg base N qual scope f cd A outer s H E) [] (start N vs) H s1 := by
  have e1 : Env0 P w K mg base { A with handled := none } outer s H := ⟨e0.frames, e0.mod, e0.bs, e0.bsz, e0.funs, e0.frf, e0.hok, e0.bare⟩
  have J := inv_start (CX := CX0) (E := E) S (A := { A with handled := none }) rfl e1 hl r x
  refine ⟨⟨J.ok.mod, J.ok.kind, J.ok.glob, J.ok.blt, J.ok.above, J.ok.inj, J.ok.has, J.ok.cab, fun z => Bool.noConfusion (show false = true from z), Around.frames_deeper e0.frames, J.ok.stk, J.ok.exf, J.ok.bs, J.ok.bsz, J.ok.noex, J.ok.exfs, J.ok.funs, J.ok.frf⟩,
    J.os, J.bare, J.base, J.loc, J.cell, J.free, J.freeC, J.pin, J.hok, J.len⟩
theorem fn_ofN {P : Program} {w : World} {K : PySem.W.Frag} {mg : Str → Option Value} {base : Heap} {k : Nat} {f : Addr} {name qual : Str} {params : Arguments} {body : List Stmt} {scope : Scope} {dV kV doc pm cdv ct oc : Value} {an od : Option Addr}
    {osl : Array (Option Value)} {N ps : List Str} {sp : Sp} (lk : K.lookup f = some ⟨oc, od, .func (PySem.W.fnOf name qual params body scope dV kV doc pm an cdv ct), osl⟩) (hcd : PySem.W.codeIn K cdv qual = true) (S : FnScope N ps scope)
    (len : ∀ vs H Q E, sp vs H Q E → vs.length = ps.length)
    (hbody : ∀ (A : Around) (outer : List Env) (s : Shared) (H : Hp) (vs : List V) (Q : VK) (E : XK), sp vs H Q E →
      ∃ t, PSs (cxN P w K mg base N qual scope f cdv A outer s H E) body t ∧ t { nx := fun _ H' => Q .non H', rt := Q } (start N vs) H) :
    FnN P w K mg base (k + 1) f (PySem.W.fnOf name qual params body scope dV kV doc pm an cdv ct) ps sp := by
  refine ⟨len, fun A outer s H args us vs Q E hr e0 hb r hsp => ?_⟩
  have hl := len _ _ _ _ hsp
  have KX : K.In s.heap := e0.mod.kin.keeps fun b o e => (e0.bs b o e).1
  have lim : s.heap.NoLimit := e0.mod.nolimit.keeps fun b o e => (e0.bs b o e).1
  have hdep : A.depth < recursionLimit := by have := hr.dp; omega
  have hkind : ∀ y ∈ ps.zip us, scope.names.lookup y.1 = some .local ∨ (scope.names.lookup y.1 = some .cell ∧ ((cellsFrom (s.heap.objs.size + 1) scope.names []).lookup y.1).isSome = true) := fun ⟨n, v⟩ hy => by
    rcases S.par n (List.of_mem_zip hy).1 with q | q
    · exact .inl q
    · exact .inr ⟨q, PySem.W.cellsFrom_some _ _ _ (.inl q)⟩
  refine codeAny_call_function hdep (KX _ _ lk) rfl S.co S.gen rfl (PySem.W.codeRec_of KX hcd) (hb _ _ _ _ ?_)
  refine wpAny_newFunctionEnv_cells S.kind hkind fun env he s1 x => ?_
  subst he
  refine ⟨lim.keeps x.toInCall.keep, codeAny_func ?_⟩
  obtain ⟨t, ht, hq⟩ := hbody A outer s H vs Q E hsp
  have I : Inv (cxN P w K mg base N qual scope f cdv A outer s H E) [] (start N vs) H s1 := inv_startN S e0 hl r x
  refine wpAny_mono (ht.run [] s1 (start N vs) H _ I hq) (fun fl s' hs => ?_) fun e s' hs => hs
  have fin : ∀ {σ' : L2.St} {H' : Hp} {v : V} {u : Value}, Inv (cxN P w K mg base N qual scope f cdv A outer s H E) [] σ' H' s' → RelV v u → Q v H' → CE outer P w H s Q u s' :=
    fun {σ' H' v u} J rv q => ⟨v, H', J.os, J.bare, J.base, J.hok, rv, q⟩
  cases fl with
  | ret u =>
    obtain ⟨v, σ', H', J, rv, q⟩ := hs
    exact fin J rv q
  | next =>
    obtain ⟨σ', H', J, q⟩ := hs
    exact fin (v := V.non) (u := Value.none) J rfl q
  | brk =>
    obtain ⟨_, _, _, q⟩ := hs
    exact False.elim q
  | cont =>
    obtain ⟨_, _, _, q⟩ := hs
    exact False.elim q
section
variable {X : Cx} {k : Nat} {f C : Addr} {fd : FuncData} {ps : List Str} {sp : Sp} {dvs : List V} {ds : List Value} {E : XK} {x : Str} {p pos : Pos} {e : Expr} {es : List Expr} {t : TA}
theorem run_makeN {pins : List (Addr × Obj)} {σ : L2.St} {H : Hp} {s : Shared} {Q : VK} {us : List Value} {vs : List V} (M : Mk X.K C f) (F : FnN X.prog X.w X.K X.mg X.base k f fd ps sp) (hr : RoomN (k + 1) X.A) (hb : Binds X.K fd ps ds) (hd : Vals dvs ds)
    (I : Inv X pins σ H s) (r : Vals vs us)
    (h : ∀ x dx, H x = none → H dx = none → dx ≠ x → sp (.ref x :: (vs ++ dvs)) (upd (upd H dx (.own x)) x (.ins C dx [])) (fun v H2 => v = .non ∧ Q (.ref x) H2) E) :
    wpAny (model X.prog X.w) X.A (call (.ref C) us) (EP X pins σ Q) X.xe s := by
  have hq := h (s.heap.objs.size + 1) s.heap.objs.size (I.hok.fresh (Nat.le_succ _)) (I.hok.fresh (Nat.le_refl _)) (Nat.ne_of_lt (Nat.lt_succ_self _))
  have I2 := Inv.made (C := C) I
  have r2 : Vals (V.ref (s.heap.objs.size + 1) :: (vs ++ dvs)) (Value.ref (s.heap.objs.size + 1) :: (us ++ ds)) := .cons rfl (r.append hd)
  have hl : (Value.ref (s.heap.objs.size + 1) :: us ++ ds).length = ps.length := by
    have e := r2.length
    rw [F.len _ _ _ _ hq] at e
    exact e.symm
  refine wpAny_call (make_map (f := f) I.kIn M.makes M.init (beq_iff_eq.mp M.fn) (codeAny_mono (F.run _ X.stack _ _ ⟨Value.ref (s.heap.objs.size + 1) :: us, []⟩ (Value.ref (s.heap.objs.size + 1) :: (us ++ ds)) _ _ E (hr.make C us [])
    (I2.env0.make C us []) (hb _ (Value.ref (s.heap.objs.size + 1) :: us) I2.kIn hl) r2 hq) fun r s' hq' => ?_))
  cases r with
  | error e => exact False.elim hq'
  | ok fl =>
    cases fl with
    | ret u =>
      obtain ⟨v, H', I3, rv, ev, q3⟩ := I2.after hq'
      subst ev
      exact ⟨rv, ⟨V.ref (s.heap.objs.size + 1), H', I3, rfl, q3⟩⟩
    | next => exact False.elim hq'
    | brk => exact False.elim hq'
    | cont => exact False.elim hq'
theorem pe_makeN (M : Mk X.K C f) (F : FnN X.prog X.w X.K X.mg X.base k f fd ps sp) (hr : RoomN (k + 1) X.A) (hg : Gl X x) (hm : X.mg x = some (.ref C)) (hb : Binds X.K fd ps ds) (hd : Vals dvs ds)
    (ha : PA X (e :: es) t) (hdb : (x == ("__debug__" : Str)) = false := by decide) (he : starEach (e :: es) X.env = (false, eval e X.env) :: starEach es X.env := by rfl) (hpl : (backTo pos (starEach es X.env)).any (·.1) = false := by rfl) :
    PE X (.Call (.Name x p) (e :: es) [] pos) (tMake C sp dvs E t) := by
  refine ⟨fun pins s σ H Q I h => ?_⟩
  refine wpAny_Call_Name_kw (ld_glob I hg hm ?_ hdb)
  refine PySem.W.callWith_K (h₀ := X.base) I.ok.mod.kin M.kp (thn (ha.run pos pins s σ H _ I h) fun us s1 ⟨vs, H1, I1, r, q⟩ => ⟨I1.kIn, ?_⟩) he hpl
  exact run_makeN M F hr hb hd I1 r q
end
end SR
set_option Elab.async false
set_option linter.all false
set_option maxRecDepth 100000
set_option maxHeartbeats 2000000
/-! try .. except T: .., T any test that is answered yes; further clauses stand behind and are not come to -/
namespace SR
open PySem PySem.Spec PyProof.Rows L2
theorem flyZ_keeps {base h h' : Heap} {l : List Env} {e : Addr} {Z : Obj → Prop} (R : HandSPX.FlyingZ base l e Z h) (k : ∀ b o, h.get? b = some o → h'.get? b = some o) : HandSPX.FlyingZ base l e Z h' := by
  obtain ⟨f1, f2, f3, oe, vs, T, oT, ts, he, hz, hd, h1, hn, hne, hT, hdT, h3⟩ := R
  exact ⟨fun b o q => k b o (f1 b o q), f2, f3.of_keeps fun b o q _ => ⟨o, k b o q, rfl⟩, oe, vs, T, oT, ts, k _ _ he, hz, hd, h1, hn, hne, k _ _ hT, hdT, h3⟩
/-- the clause's test says yes of an exception of such a class -/
def TestOk (X : Cx) (t : Expr) (M : Value → Prop) : Prop := ∀ (cls : Value), M cls → ∀ (a : Addr) (oe : Obj) (pn : List (Addr × Obj)) (s : Shared) (σ : L2.St) (H : Hp), Inv (X.suite a ((a, oe) :: pn)) [] σ H s → PySem.W.Looks (model X.prog X.w) s.heap (typeOf (.ref a)) cls →
  ∀ (Q : Bool → Shared → Prop) (E : Value → Shared → Prop), (∀ h' tk, (∀ q o, s.heap.get? q = some o → h'.get? q = some o) → Q true { s with heap := h', toks := tk }) →
    wpAny (model X.prog X.w) (X.A.mark (some (.ref a))) (eval t X.env) (fun c s₁ => wpAny (model X.prog X.w) (X.A.mark (some (.ref a))) (excMatches (.ref a) c) Q E s₁) E s
theorem ldN {X : Cx} {x : Str} {c : Value} {np : Pos} {a : Addr} {oe : Obj} {pn pins : List (Addr × Obj)} {s : Shared} {σ : L2.St} {H : Hp} {Q : Value → Shared → Prop} {E : Value → Shared → Prop} (hc : Names X x c) (S : Inv (X.suite a ((a, oe) :: pn)) pins σ H s) (q : Q c s) :
    wpAny (model X.prog X.w) (X.A.mark (some (.ref a))) (eval (.Name x np) X.env) Q E s := by
  obtain ⟨hg, hdbg, hm | ⟨hm, hv, hnn⟩⟩ := hc
  · exact ld_glob (X := X.suite a ((a, oe) :: pn)) S hg hm q hdbg
  · exact ld_blt (X := X.suite a ((a, oe) :: pn)) S hg hm hv q hnn hdbg
theorem test1 {X : Cx} {x : Str} {c : Value} {np : Pos} (hc : Names X x c) : TestOk X (.Name x np) (fun cls => PySem.W.exmOne X.K cls c = some true) := by
  intro cls hm a oe pn s σ H S LT Q E q
  have X1 : X.K.In s.heap := S.kIn
  have LM := PySem.W.exm_one (M := model X.prog X.w) X1 LT hm
  exact ldN hc S (LM.here (q s.heap s.toks fun _ _ z => z))
theorem test3 {X : Cx} {x1 x2 x3 : Str} {c1 c2 c3 : Value} {p1 p2 p3 tp : Pos} {kk : Nat} (h1 : Names X x1 c1) (h2 : Names X x2 c2) (h3 : Names X x3 c3) :
    TestOk X (.Tuple [.Name x1 p1, .Name x2 p2, .Name x3 p3] kk tp) (fun cls => PySem.W.exmAny X.K cls [c1, c2, c3] = some true) := by
  intro cls hm a oe pn s σ H S LT Q E q
  refine wpAny_Tuple ?_
  refine wpAny_items_cons (ldN h1 S ?_)
  refine wpAny_items_cons (ldN h2 S ?_)
  refine wpAny_items_cons (ldN h3 S ?_)
  refine wpAny_items_nil ⟨by show 3 ≤ sizeLine; decide, ?_⟩
  have kp : ∀ q o, s.heap.get? q = some o → (s.heap.push { cls := .type "tuple", data := .seq [c1, c2, c3].toArray }).get? q = some o := fun _ _ z => Heap.get?_push_of_some _ z
  have X1 : X.K.In s.heap := S.kIn
  exact (PySem.W.exm_tup3 (M := model X.prog X.w) (X1.keeps kp) (LT.keeps kp) (Heap.get?_push_size s.heap rfl) hm).here (q _ _ kp)
def wHd (M : Value → Prop) (ts : Addr → Value → Option Addr → TS) (D : Ends) : WX := fun cls d σ H => M cls ∧ ∀ a, H a = none → ts a cls d D σ H
section
variable {X : Cx} {t : Expr} {M : Value → Prop} {body suite : List Stmt} {b₀ : Stmt} {pos pos' : Pos} {rest : List ExceptHandler} {tb : WX → TS} {ts : Addr → Value → Option Addr → TS}
theorem ps_try_hd (hs : X.stack = X.env :: X.outer) (hf : X.env.frame = some X.env.locals) (hc : TestOk X t M)
    (hb : ∀ (W : WX) (pn : List (Addr × Obj)) (xe : Value → Shared → Prop), Takes (X.tr pn xe) W → PassesOwn (model X.prog X.w) X.A X.env xe → PSs (X.tr pn xe) body (tb W))
    (hsu : ∀ (a : Addr) (oe : Obj) (cls : Value) (d : Option Addr) (pn : List (Addr × Obj)), Zc cls d oe → (∃ vs, oe.data = .fields vs) → PSs (X.suite a ((a, oe) :: pn)) (b₀ :: suite) (ts a cls d)) :
    PS X (.Try body (.ExceptHandler (some t) none (b₀ :: suite) pos' :: rest) [] [] pos) (fun D σ H => tb (wHd M ts D) D σ H) := by
  refine ⟨fun pins s σ H D I h => ?_⟩
  have ok := I.ok
  have hfr : X.A.frames = some (X.env :: X.outer) := by rw [ok.frames, hs]
  refine wpAny_Try_except ?_
  refine wpAny_mono ((hb (wHd M ts D) (X.pn ++ pins) (fun e s₁ => wpAny (model X.prog X.w) X.A (noteFrame e X.env) (fun _ s₂ => wpAny (model X.prog X.w) X.A (setFlight e none) (fun _ s₃ =>
    wpAny (model X.prog X.w) X.A (handleBy e X.env (.ExceptHandler (some t) none (b₀ :: suite) pos' :: rest)) (SP X pins D) X.xe s₃) X.xe s₂) X.xe s₁) (fun u s' xx => ?_) PassesOwn.looking).run [] s σ H D (I.toTry _) h) (fun f s1 hsp => ?_) (fun e s1 he => he)
  · obtain ⟨a, B, sI, pins', σ', H', cls, d, rfl, J', nb, up, sky, na, os, ag, hM, hyes⟩ := xx
    have J : Inv X pins σ' H' sI := J'.ofTry ok
    have sky' : Sky B (X.env :: X.outer) a (Zc cls d) X.env.locals s'.heap := by rw [← hs]; exact sky
    show wpAny (model X.prog X.w) X.A (noteFrame (.ref a) X.env) _ _ _
    refine Sky.land Zc.steady hfr hf sky' fun h3 fl3 up3 => ?_
    have J3 : Inv X pins σ' H' { s' with heap := h3 } := J.landed nb fl3.1 (up.trans up3) os ag
    obtain ⟨oe3, vs3, he3, hz3, hd3⟩ := fl3.there
    have notFr : ∀ {h : Heap} {o : Obj} {vs : Array Value}, h.FunFrames B (X.env :: X.outer) → h.get? a = some o → o.data = .fields vs → a ∉ frs (X.env :: X.outer) := fun {h o vs} ff e dd hm => by
      obtain ⟨_, o', e', hnf⟩ := ff.mem hm
      rw [e] at e'; cases e'
      exact hnf _ dd
    have nfr := notFr fl3.2.2.1 he3 hd3
    have nL : a ≠ X.env.locals := fun z => nfr (List.mem_filterMap.mpr ⟨X.env, List.mem_cons_self, by rw [hf, z]⟩)
    have nF : a ∉ X.fs := fun hm => by
      obtain ⟨e, he, q⟩ := List.mem_filterMap.mp hm
      exact nfr (List.mem_filterMap.mpr ⟨e, List.mem_cons_of_mem _ he, q⟩)
    have S3 := J3.suite he3 hd3 na nL nF
    have LT : PySem.W.Looks (model X.prog X.w) h3 (typeOf (.ref a)) cls := fun A Q E s k q => wpAny_typeOf_ref (k _ _ he3) (by rw [hz3.1]; exact q)
    refine wpAny_handleBy_cons (codeAny_handlers_test (hc cls hM a oe3 (X.pn ++ pins) _ σ' H' S3 LT _ _ fun h4 tk4 k4 => ?_)) (by intro q; cases q)
    have fl4 := flyZ_keeps fl3 k4
    refine codeAny_handlers_suite ?_
    refine HandSPX.lands_againZ (s := { s' with heap := h4, toks := tk4 }) fl4 fun h5 fl5 up5 => ?_
    have up35 : sI.heap.UpToSlots h5 := (up.trans up3).trans ((Heap.UpToSlots.of_keeps k4).trans up5)
    have J5 : Inv X pins σ' H' { s' with heap := h5, toks := tk4 } := (J.landed (s' := { s' with heap := h5, toks := tk4 }) nb fl5.1 up35 os ag)
    obtain ⟨oe5, vs5, he5, hz5, hd5⟩ := fl5.there
    have S5 := J5.suite he5 hd5 na nL nF
    refine wpAny_mono ((hsu a oe5 cls d (X.pn ++ pins) hz5 ⟨_, hd5⟩).run [] _ _ H' _ S5 (hyes a na)) (fun f s6 hsp => ?_) (fun _ _ z => False.elim z)
    cases f with
    | next =>
      obtain ⟨σ6, H6, S6, q6⟩ := hsp
      exact ⟨_, _, S6.unsuite ok, q6⟩
    | brk =>
      obtain ⟨σ6, H6, S6, q6⟩ := hsp
      exact ⟨_, _, S6.unsuite ok, q6⟩
    | cont =>
      obtain ⟨σ6, H6, S6, q6⟩ := hsp
      exact ⟨_, _, S6.unsuite ok, q6⟩
    | ret u =>
      obtain ⟨v6, σ6, H6, S6, r6, q6⟩ := hsp
      exact ⟨_, _, _, S6.unsuite ok, r6, q6⟩
  · cases f with
    | next =>
      obtain ⟨σ', H', J', q⟩ := hsp
      exact wpAny_execs_nil ⟨σ', H', J'.ofTry ok, q⟩
    | brk =>
      obtain ⟨σ', H', J', q⟩ := hsp
      exact ⟨σ', H', J'.ofTry ok, q⟩
    | cont =>
      obtain ⟨σ', H', J', q⟩ := hsp
      exact ⟨σ', H', J'.ofTry ok, q⟩
    | ret u =>
      obtain ⟨v, σ', H', J', r, q⟩ := hsp
      exact ⟨v, σ', H', J'.ofTry ok, r, q⟩
end
end SR
set_option Elab.async false
set_option linter.all false
set_option maxRecDepth 100000
set_option maxHeartbeats 4000000
namespace K98
open PySem PySem.Spec PyProof.Rows L2 ItX SR
/-! ### the text -/
def top (i : Nat) : Stmt := PySem.Challenge.pw_spaceroads_k98_lines_as_many_as_told.main.body.getD i (.Pass ⟨0, 0, 0, 0⟩)
abbrev sIsLine : Stmt := top 120
abbrev sRead : Stmt := top 122
abbrev sRInit : Stmt := inClass (top 128) 0
abbrev sCarried : Stmt := top 136
abbrev sReply : Stmt := top 137
abbrev sDefd : Stmt := top 138
abbrev sCInit : Stmt := inClass (top 140) 0
abbrev sLen : Stmt := inClass (top 140) 1
abbrev sIter : Stmt := inClass (top 140) 2
abbrev sEnter : Stmt := inClass (top 140) 3
abbrev sNames : Stmt := inClass (top 140) 4
abbrev sState : Stmt := top 142
abbrev sTake : Stmt := top 143
abbrev sLEnter : Stmt := top 144
abbrev sLaw : Stmt := top 145
/-! ### the lines that the law enters -/
def Good (z : Str) : Prop := z = "" ∨ z = "# a" ∨ z = "  "
def Line (z : Str) : Prop := Good z ∨ z = "?"
theorem line_len {z : Str} (h : Line z) : z.length ≤ 100 := by
  rcases h with (rfl | rfl | rfl) | rfl <;> decide +kernel
theorem line_ascii {z : Str} (h : Line z) : ∀ c ∈ z.cps.toList, 32 ≤ c ∧ c ≤ 126 := by
  rcases h with (rfl | rfl | rfl) | rfl <;> decide +kernel
def toks (z : Str) : List Str := (Txt.split z " ").filter fun t => decide (t ≠ ("" : Str))
theorem good_toks {z : Str} (h : Good z) : toks z = [] ∨ Txt.startswith z "#" = true := by
  rcases h with rfl | rfl | rfl
  · exact .inl (by decide +kernel)
  · exact .inr (by decide +kernel)
  · exact .inl (by decide +kernel)
theorem line_split {z : Str} (h : Line z) : (Txt.split z " ").length ≤ 100 := by
  rcases h with (rfl | rfl | rfl) | rfl <;> decide +kernel
theorem bad_toks : toks "?" = [("?" : Str)] := by decide +kernel
theorem bad_start : Txt.startswith "?" "#" = false := by decide +kernel
/-! ### d.get(e, f) of a written dict -/
def tKGet2 (K : PySem.W.Frag) (d : Addr) (ty tx : TE) : TE := fun σ H Q => ty σ H fun y H1 => tx σ H1 fun z H2 => ∃ (zs : Str) (r : Option Value) (v : V), y = .str zs ∧ PySem.W.nsIn K d zs = some r ∧ (∀ uz, RelV z uz → RelV v (r.getD uz)) ∧ Q v H2
theorem pe_kget2 {X : Cx} {o e f : Expr} {apos cpos : Pos} {ty tx : TE} {d : Addr} {es : Array DictEntry} {n : Nat} (D : KDict X.K X.w d es n) (ho : PE X o (tC (.ref d))) (he : PE X e ty) (hf : PE X f tx) (m : M2 X o "get" apos e f cpos) :
    PE X (.Call (.Attribute o "get" apos) [e, f] [] cpos) (tKGet2 X.K d ty tx) := by
  refine ⟨fun pins s σ H Q I h => ?_⟩
  refine wpAny_Call_method m.base m.few m.line PySem.F.plainAttrs_dict PySem.F.slot_dict_get PySem.F.type_dict_get (thn (ho.run pins s σ H (fun x H1 => x = .ref d ∧ tKGet2 X.K d ty tx σ H1 Q) I ⟨rfl, h⟩) fun u s1 hh => ?_)
  obtain ⟨x, H1, I1, rx, ex, q1⟩ := hh
  subst ex
  obtain rfl : u = Value.ref d := rx
  refine ⟨kd_type D I1, fun b q => ?_, ?_⟩
  · cases q
    exact ⟨_, I1.kIn _ _ D.at_, rfl⟩
  rw [m.trees]
  refine Calls.callWith_builtin rfl (Calls.evalArgs_plain (Calls.spliced_cons (thn (he.run pins s1 σ H1 _ I1 q1) fun iv s2 h2 => ?_)))
  obtain ⟨y, H2, I2, ry, q2⟩ := h2
  refine Calls.spliced_cons (thn (hf.run pins s2 σ H2 _ I2 q2) fun fv s3 h3 => Calls.spliced_nil ?_)
  obtain ⟨z, H3, I3, rz, zs, r, v, ey, er, hv, q3⟩ := h3
  subst ey
  obtain ⟨t, rfl⟩ := ry
  refine call_meetsIn PySem.F.slot_dict_get (kd_type D I3) PySem.F.entry_dict_get (PySem.F.args_dict_get_3 _ _ _) (meets_dict_get_default (strKind X.prog X.w) d (strKind_is X.prog X.w zs t) D.low fv) ⟨_, PySem.W.mapOf_K (prog := X.prog) I3.kIn D.at_ D.lit, ?_⟩
  rw [PySem.W.find_K D.at_ er]
  exact ⟨v, H3, I3.tok _, hv _ rz, q3⟩
theorem same_upd {H : Hp} {p : Addr} {o : HO} (h : H p = none) : Same H (upd H p o) := fun b x e => by
  rw [upd_ne (ne_of_none e h)]
  exact e
section
variable {P : Program} {w : World} {K : PySem.W.Frag} {mg : Str → Option Value} {base : Heap}
/-- a test that is never come to -/
def tSkipT : TT := fun _ _ _ => False
theorem pt_skip {X : Cx} {e : Expr} : PT X e tSkipT := ⟨fun _ _ _ _ _ _ h => h.elim⟩
/-! ### is_line -/
def spIsLine : Sp := fun vs H Q _ => ∃ z : Str, vs = [.str z] ∧ Line z ∧ ∀ H', Same H H' → Q (.bl true) H'
structure TxtA (K : PySem.W.Frag) (mg : Str → Option Value) : Prop where
  isi : mg "isinstance" = none
  str : mg "str" = none
  len : mg "len" = none
  ord : mg "ord" = none
  most : ∃ t, mg "MOST_SIGNS_sheet" = some (.int 2000 t)
theorem scIsLine : FnScope ["value", "sign"] ["value"] (defScope sIsLine) := ⟨rfl, rfl, rfl, by decide +kernel, rfl, by decide +kernel, by decide +kernel⟩
theorem ok_isLine {f : Addr} {fd : FuncData} (F : Fun K "is_line" "is_line" sIsLine f fd) (T : TxtA K mg) : FnOk P w K mg base CX0 1 f fd ["value"] spIsLine := by
  refine F.ok scIsLine (fun vs H Q E h => ?_) (fun cdv A outer s H vs Q E hr h => ?_)
  · obtain ⟨z, rfl, _⟩ := h
    rfl
  · obtain ⟨z, rfl, hz, q⟩ := h
    obtain ⟨tm, hm⟩ := T.most
    refine ⟨_, pss_cons (ps_if (PW.pt (pw_or (pt_not (pt_val (pe_callB call_isi (by rfl) T.isi (by decide +kernel) (pa_cons (pv 0) (pa_cons (pe_bltn (v := .ty "str") (by rfl) T.str (by decide +kernel) rfl) pa_nil)))))
        (pw_or1 (pt_cmpR op_gt (pe_callB call_len_str (by rfl) T.len PySem.boot_len (pa_cons (pv 0) pa_nil)) (pe_glob (v := .int 2000) (by rfl) hm ⟨_, rfl⟩) (nomark _))))) pss_never pss_nil)
      (pss_cons (ps_for PassesOwn.never rfl (pi_str (pv 0)) (pg_name (i := 1) scIsLine.nd rfl (.inl rfl))
        (pss_one (ps_if (PW.pt (pw_or (pt_cmpR op_lt (pe_callB call_ord (by rfl) T.ord (by decide +kernel) (pa_cons (pv 1) pa_nil)) pe_int (nomark _))
          (pw_or1 (pt_cmpR op_gt (pe_callB call_ord (by rfl) T.ord (by decide +kernel) (pa_cons (pv 1) pa_nil)) pe_int (nomark _))))) pss_never pss_nil)))
      (pss_one (ps_ret pe_bl))), ?_⟩
    have ty : TyX K H (.str z) (.type "str") := .base (.str _)
    refine ⟨_, rfl, _, _, _, _, true, rfl, .ty "str", ty, kit_ty (by decide +kernel), true, rfl, ?_⟩
    refine iteF ?_
    refine ⟨_, rfl, z, rfl, Nat.le_trans (line_len hz) (by decide), _, _, rfl, rfl, _, rfl, ?_⟩
    rw [decide_eq_false (show ¬ (2000 : Int) < (z.length : Int) by have := line_len hz; omega)]
    refine iteF ?_
    refine ⟨_, rfl, z, rfl, ⟨fun i m σ H' => m = z.cps.size - i ∧ i ≤ z.cps.size ∧ H' = H ∧ ∃ v, σ = [some (.str z), v], ⟨_, rfl, Nat.zero_le _, rfl, _, rfl⟩, ?_⟩⟩
    rintro i m σ H' ⟨rfl, hi, rfl, v, rfl⟩
    by_cases c : i < z.cps.size
    · refine .inr ⟨c, fun σ H2 => H2 = H' ∧ ∃ v, σ = [some (.str z), v], fun σ' H' hN => ?_, fun x H' hy => ?_⟩
      · obtain ⟨rfl, v, rfl⟩ := hN
        exact ⟨z.cps.size - (i + 1), by omega, rfl, c, rfl, v, rfl⟩
      · obtain ⟨rfl, ch, hch, rfl⟩ := hy
        have hin := line_ascii hz ch (by rw [← Array.getElem?_toList] at hch; exact List.mem_of_getElem? hch)
        have one : (⟨#[ch]⟩ : Str).length = 1 := rfl
        refine ⟨_, rfl, _, rfl, one, _, _, rfl, rfl, _, rfl, ?_⟩
        rw [show ((⟨#[ch]⟩ : Str).cps.getD 0 0) = ch from rfl, decide_eq_false (show ¬ ((ch : Nat) : Int) < 32 by omega)]
        refine iteF ?_
        refine ⟨_, rfl, _, rfl, one, _, _, rfl, rfl, _, rfl, ?_⟩
        rw [show ((⟨#[ch]⟩ : Str).cps.getD 0 0) = ch from rfl, decide_eq_false (show ¬ (126 : Int) < ((ch : Nat) : Int) by omega)]
        refine iteF ?_
        exact ⟨rfl, _, rfl⟩
    · refine .inl ⟨Nat.le_of_not_lt c, ?_⟩
      exact q _ (Same.refl _)
/-! ### read_line -/
structure TxtB (P : Program) (w : World) (K : PySem.W.Frag) (mg : Str → Option Value) (CN fN fL : Addr) (fdL : FuncData) : Prop where
  a : TxtA K mg
  noText : SupNoText.Txt P K mg CN fN
  gL : mg "is_line" = some (.ref fL)
  kL : PySem.W.keepIn K (.ref fL) = true
  FL : Fun K "is_line" "is_line" sIsLine fL fdL
  bL : Binds K fdL ["value"] []
  shapes : ∃ d es n u, mg "SHAPES" = some (.ref d) ∧ KDict K w d es n ∧ PySem.W.nsIn K d "?" = some none ∧ u = d
/-- read_line: what the law's lines read as -/
def spRead (CN : Addr) : Sp := fun vs H Q E => ∃ z : Str, vs = [.str z] ∧ Line z ∧ (∀ H' p, Good z → Same H H' → H p = none → H' p = some (.tup [.str "empty"]) → Q (.ref p) H') ∧ (∀ H' d, Same H H' → E (.ref CN) (some d) H')
theorem scRead : FnScope ["line", "tokens", "shape", "found", "kind", "token"] ["line"] (defScope sRead) := ⟨rfl, rfl, rfl, by decide +kernel, rfl, by decide +kernel, by decide +kernel⟩
theorem ok_read {f CN fN fL : Addr} {fd fdL : FuncData} (F : Fun K "read_line" "read_line" sRead f fd) (T : TxtB P w K mg CN fN fL fdL) : FnOk P w K mg base (L2.CX P w) 4 f fd ["line"] (spRead CN) := by
  have GL : FnOk P w K mg base CX0 1 fL fdL ["value"] spIsLine := ok_isLine T.FL T.a
  refine F.okX scRead (fun vs H Q E h => ?_) (fun cdv A outer s H vs Q E hr h => ?_)
  · obtain ⟨z, rfl, _⟩ := h
    rfl
  · obtain ⟨z, rfl, hz, q, qE⟩ := h
    obtain ⟨d, es, n, u, gS, kd, hq, _⟩ := T.shapes
    have hr1 : Room 1 _ := hr.mono (by decide)
    refine ⟨_, pss_cons (ps_if (pt_not (pt_val (pe_call GL hr1 rfl T.gL T.kL T.bL .nil pass0 (pa_cons (pv 0) pa_nil)))) pss_never pss_nil)
      (pss_cons (ps_setLc (i := 1) (own := [("token", 5)]) (g := gName 5) rfl scRead.nd rfl rfl (sw_true rfl rfl rfl (by decide +kernel))
          (pi_list (pe_split (pv 0) pe_str)) (blkOk_by (own := [("token", 5)]) (N := ["line", "tokens", "shape", "found", "kind", "token"]) (sc := defScope sRead) (by decide +kernel))
          (fun _ _ _ _ _ => pg_name (i := 5) scRead.nd rfl (Or.inl rfl)) (fun _ _ _ _ _ => pts_one (pt_cmpR op_ne (pv 5) pe_str (nomark _))) (fun _ _ _ _ _ => pv 5))
      (pss_cons (ps_if (PW.pt (pw_or (pt_cmpR op_eq (pe_callB call_len_seq (by rfl) T.a.len PySem.boot_len (pa_cons (pv 1) pa_nil)) pe_int (nomark _)) (pw_or1 (pt_val (pe_m1 PySem.F.slot_str_startswith PySem.F.type_str_startswith mt_startswith (pv 0) pe_str)))))
          (pss_one (ps_ret (pe_tup (pa_cons pe_str pa_nil)))) pss_nil)
      (pss_cons (ps_if (pt_cmpR op_eq (pe_ix ix_list (pv 1) pe_int (fun _ _ => rfl)) pe_str (nomark _)) pss_never pss_nil)
      (pss_cons (ps_set (i := 2) scRead.nd rfl (Or.inl rfl) (pe_kget2 kd (pe_glob (v := .ref d) (by rfl) gS rfl) (pe_ix ix_list (pv 1) pe_int (fun _ _ => rfl)) pe_str ⟨rfl, rfl, rfl, rfl⟩))
      (pss_cons (ps_if (PW.pt (pw_or (pt_cmpR op_eq (pv 2) pe_str (nomark _)) (pw_or1 pt_skip))) (pss_one (SupNoText.ps rfl T.noText hr1 (takes_of rfl rfl rfl rfl) (pa_cons pe_int pa_nil))) pss_nil)
      pss_never))))), ?_⟩
    refine ⟨_, rfl, z, rfl, hz, fun H1 s1 => ⟨true, rfl, ?_⟩⟩
    refine iteF ?_
    refine ⟨_, rfl, ⟨_, rfl⟩, z, " ", rfl, rfl, by decide +kernel, Nat.le_trans (Nat.add_le_add_right (line_len hz) 2) (by decide), fun p np => ?_⟩
    have s2 : Same H1 (upd H1 p (.lst ((Txt.split z " ").map V.str))) := same_upd np
    refine ⟨p, rfl, ⟨_, SqL.of upd_same⟩, fun D nD => lc_list (K := K) (a := p) (xs := (Txt.split z " ").map V.str)
      (fun i H' => Same (upd H1 p (.lst ((Txt.split z " ").map V.str))) H' ∧ H' D = some (.lst ((((Txt.split z " ").take i).filter fun t => decide (t ≠ ("" : Str))).map V.str)))
      ⟨same_upd nD, upd_same⟩ (fun i H' _ hp => hp.1.seq (SqL.of upd_same)) ?_ ?_⟩
    · rintro i x H' hi ⟨sm, eD⟩
      rw [List.getElem?_map] at hi
      cases ey : (Txt.split z " ")[i]? with
      | none => rw [ey] at hi; cases hi
      | some y =>
        rw [ey] at hi
        obtain rfl : V.str y = x := Option.some.inj hi
        have tk : (Txt.split z " ").take (i + 1) = (Txt.split z " ").take i ++ [y] := by rw [List.take_add_one, ey]; rfl
        refine ⟨rfl, _, rfl, rfl, _, rfl, ?_⟩
        by_cases c : y = ""
        · rw [show (!decide (V.str y = V.str "")) = false by rw [c]; simp]
          refine iteF ⟨sm, ?_⟩
          rw [eD, tk, List.filter_append, c]
          simp
        · rw [show (!decide (V.str y = V.str "")) = true by simp [c]]
          refine iteT ⟨_, rfl, _, eD, ?_, fun b o e => ?_, ?_⟩
          · rw [List.length_map]
            refine Nat.lt_of_le_of_lt (List.length_filter_le _ _) ?_
            rw [List.length_take]
            exact Nat.lt_of_le_of_lt (Nat.min_le_right _ _) (Nat.lt_of_le_of_lt (line_split hz) (by decide))
          · rw [upd_ne (ne_of_none e nD)]
            exact sm b o e
          · rw [upd_same, tk, List.filter_append, List.map_append]
            simp [c]
    · rintro H3 ⟨sm, eD⟩
      rw [List.length_map, List.take_length] at eD
      have sT : Same H H3 := s1.trans (s2.trans sm)
      change H3 D = some (.lst ((toks z).map V.str)) at eD
      refine ⟨_, rfl, D, _, rfl, .inl (SqL.of eD), rfl, _, rfl, ?_⟩
      rcases hz with hg | rfl
      · have give : ∀ p2, H3 p2 = none → Q (.ref p2) (upd H3 p2 (.tup [.str "empty"])) := fun p2 n2 => q _ p2 hg (sT.trans (same_upd n2)) (sT.free n2) upd_same
        by_cases c : toks z = []
        · rw [c]
          exact iteT ⟨by show 1 ≤ sizeLine; decide, give⟩
        · have hs := (good_toks hg).resolve_left c
          rw [show decide (V.int (((toks z).map V.str).length : Int) = V.int 0) = false by
            rw [List.length_map]
            refine decide_eq_false fun e => c ?_
            injection e with e
            exact List.length_eq_zero_iff.mp (by omega)]
          refine iteF ?_
          refine ⟨_, rfl, ⟨_, rfl⟩, z, "#", rfl, rfl, _, rfl, ?_⟩
          rw [hs]
          exact iteT ⟨by show 1 ≤ sizeLine; decide, give⟩
      · rw [bad_toks] at eD ⊢
        refine iteF ?_
        refine ⟨_, rfl, ⟨_, rfl⟩, "?", "#", rfl, rfl, _, rfl, ?_⟩
        rw [bad_start]
        refine iteF ?_
        -- tokens[0] == 'let'
        have at0 : atI ([("?" : Str)].map V.str) ((0 : Nat) : Int) = some (V.str "?") := atI_nat rfl
        refine ⟨_, rfl, D, _, _, _, rfl, rfl, SqL.of eD, at0, rfl, _, rfl, ?_⟩
        rw [show decide (V.str "?" = V.str "let") = false by decide +kernel]
        refine iteF ?_
        -- SHAPES.get(tokens[0], '')
        refine ⟨_, rfl, D, _, _, _, rfl, rfl, SqL.of eD, at0, "?", _, V.str "", rfl, hq, fun uz rz => rz, ?_⟩
        refine ⟨_, rfl, rfl, _, rfl, ?_⟩
        rw [show decide (V.str "" = V.str "") = true by decide +kernel]
        refine iteT ?_
        exact ⟨_, rfl, fun d nd => qE _ d (sT.trans (same_upd nd))⟩
end
end K98
set_option Elab.async false
set_option linter.all false
set_option maxRecDepth 100000
set_option maxHeartbeats 4000000
namespace K98
open PySem PySem.Spec PyProof.Rows L2 ItX SR
section
variable {P : Program} {w : World} {K : PySem.W.Frag} {mg : Str → Option Value} {base : Heap}
/-! ### Reply -/
structure TxtR (K : PySem.W.Frag) (mg : Str → Option Value) (CR fR e0 : Addr) (fdR : FuncData) : Prop where
  cl : Cls K CR
  nK : NoAttr K CR "kind"
  nT : NoAttr K CR "text"
  nD : NoAttr K CR "data"
  gC : mg "Reply" = some (.ref CR)
  make : Mk K CR fR
  F : FunD K "__init__" "Reply.__init__" (defArgs sRInit) (defBody sRInit) (defScope sRInit) [.str "", .ref e0] [] fR fdR
def spRInit (CR : Addr) : Sp := fun vs H Q _ => ∃ x dx k t d, vs = [.ref x, k, t, d] ∧ H x = some (.ins CR dx []) ∧ ∀ H', (∀ b o, b ≠ x → H b = some o → H' b = some o) → Q .non H'
theorem scRInit : FnScope ["self", "kind", "text", "data"] ["self", "kind", "text", "data"] (defScope sRInit) := ⟨rfl, rfl, rfl, by decide +kernel, rfl, by decide +kernel, by decide +kernel⟩
theorem ok_rinit {CR fR e0 : Addr} {fdR : FuncData} (T : TxtR K mg CR fR e0 fdR) : FnN P w K mg base 1 fR fdR ["self", "kind", "text", "data"] (spRInit CR) := by
  obtain ⟨oc, od, dV, kV, doc, pm, an, cdv, ct, osl, rfl, lk, hcd, _, _⟩ := T.F.ex
  refine fn_ofN lk hcd scRInit (fun vs H Q E h => ?_) (fun A outer s H vs Q E h => ?_)
  · obtain ⟨x, dx, k, t, d, rfl, _⟩ := h
    rfl
  · obtain ⟨x, dx, k, t, d, rfl, hx, q⟩ := h
    refine ⟨_, pss_cons (ps_fld (pv 0) (pv 1) rfl) (pss_cons (ps_fld (pv 0) (pv 2) rfl) (pss_one (ps_fld (pv 0) (pv 3) rfl))), ?_⟩
    refine ⟨_, rfl, _, rfl, x, CR, dx, _, rfl, hx, T.cl, T.nK, (by show 0 < 1000; decide), ?_⟩
    refine ⟨_, rfl, _, rfl, x, CR, dx, _, rfl, upd_same, T.cl, T.nT, (by show 1 < 1000; decide), ?_⟩
    refine ⟨_, rfl, _, rfl, x, CR, dx, _, rfl, upd_same, T.cl, T.nD, ?_, ?_⟩
    · exact Nat.lt_of_le_of_lt (length_putF _ _ _) (by show 1 + 1 < 1000; decide)
    · exact q _ fun b o nb e => by rw [upd_ne nb, upd_ne nb, upd_ne nb]; exact e
theorem bindR1 {CR fR e0 : Addr} {fdR : FuncData} (T : TxtR K mg CR fR e0 fdR) : ∃ ds, Vals [.str "", .ref e0] ds ∧ Binds K fdR ["self", "kind", "text", "data"] ds :=
  T.F.binds1 2 0 (by intro z; cases z) rfl fun Tt kV doc pm an cdv ct us its h1 h2 => match us, h1, its, h2 with | [_, _], _, [_, _], _ => ⟨_, rfl, rfl⟩
theorem bindR2 {CR fR e0 : Addr} {fdR : FuncData} (T : TxtR K mg CR fR e0 fdR) : ∃ ds, Vals [.ref e0] ds ∧ Binds K fdR ["self", "kind", "text", "data"] ds :=
  T.F.binds1 3 1 (by intro z; cases z) rfl fun Tt kV doc pm an cdv ct us its h1 h2 => match us, h1, its, h2 with | [_, _, _], _, [_, _], _ => ⟨_, rfl, rfl⟩
/-! ### carried_out -/
def spCarried : Sp := fun vs H Q _ => ∃ n p, vs = [n, .ref p] ∧ H p = some (.tup [.str "empty"]) ∧ ∀ H' r, Same H H' → Q (.ref r) H'
theorem scCarried : FnScope ["names", "command", "word", "paper"] ["names", "command"] (defScope sCarried) := ⟨rfl, rfl, rfl, by decide +kernel, rfl, by decide +kernel, by decide +kernel⟩
theorem ok_carried {f CR fR e0 : Addr} {fd fdR : FuncData} (F : Fun K "carried_out" "carried_out" sCarried f fd) (T : TxtR K mg CR fR e0 fdR) : FnOk P w K mg base CX0 4 f fd ["names", "command"] spCarried := by
  have GR : FnN P w K mg base 1 fR fdR ["self", "kind", "text", "data"] (spRInit CR) := ok_rinit T
  obtain ⟨ds, rd, b1⟩ := bindR1 T
  refine F.ok scCarried (fun vs H Q E h => ?_) (fun cdv A outer s H vs Q E hr h => ?_)
  · obtain ⟨n, p, rfl, _⟩ := h
    rfl
  · obtain ⟨n, p, rfl, hp, q⟩ := h
    have hr1 : RoomN 2 _ := Room.n (hr.mono (by decide))
    refine ⟨_, pss_cons (ps_set (i := 2) scCarried.nd rfl (Or.inl rfl) (pe_ix ix_tup (pv 1) pe_int (fun _ _ => rfl)))
      (pss_cons (ps_if (pt_cmpR op_eq (pv 2) pe_str (nomark _)) (pss_one (ps_ret (pe_makeN (E := E0) T.make GR hr1 (by rfl) T.gC b1 rd (pa_cons pe_str pa_nil)))) pss_nil) pss_never), ?_⟩
    have at0 : atI [V.str "empty"] ((0 : Nat) : Int) = some (V.str "empty") := atI_nat rfl
    refine ⟨_, rfl, p, _, _, _, rfl, rfl, SqT.of hp, at0, ?_⟩
    refine ⟨_, rfl, rfl, _, rfl, ?_⟩
    rw [show decide (V.str "empty" = V.str "empty") = true by decide +kernel]
    refine iteT ?_
    intro x dx nx ndx nex
    refine ⟨x, dx, _, _, _, rfl, upd_same, fun H' hk => ⟨rfl, q _ _ fun b o e => ?_⟩⟩
    have nbx : b ≠ x := ne_of_none e nx
    refine hk b o nbx ?_
    rw [upd_ne nbx, upd_ne (ne_of_none e ndx)]
    exact e
/-! ### reply_to, defined -/
structure TxtC (P : Program) (w : World) (K : PySem.W.Frag) (mg : Str → Option Value) (CN fN fL CM CF fRd fC : Addr) (fdL fdRd fdC : FuncData) : Prop where
  b : TxtB P w K mg CN fN fL fdL
  gM : mg "Malformed" = some (.ref CM)
  gF : mg "Refused" = some (.ref CF)
  xN : PySem.W.exmOne K (.ref CN) (.ref CN) = some true
  xA : PySem.W.exmAny K (.ref CN) [.ref CN, .ref CM, .ref CF] = some true
  gR : mg "read_line" = some (.ref fRd)
  kR : PySem.W.keepIn K (.ref fRd) = true
  FR : Fun K "read_line" "read_line" sRead fRd fdRd
  bR : Binds K fdRd ["line"] []
  gC : mg "carried_out" = some (.ref fC)
  kC : PySem.W.keepIn K (.ref fC) = true
  FC : Fun K "carried_out" "carried_out" sCarried fC fdC
  bC : Binds K fdC ["names", "command"] []
  making : ∃ a, mg "MAKING" = some (.ref a) ∧ ∀ H, SqT K H a ([("let" : Str), "scaled", "added", "greater", "product", "linked"].map V.str)
/-- names, a line: a new reply; nothing that stood is changed -/
def spReply : Sp := fun vs H Q _ => ∃ n z, vs = [n, .str z] ∧ Line z ∧ ∀ H' r, Same H H' → Q (.ref r) H'
def spDefd : Sp := fun vs H Q _ => ∃ n z, vs = [n, .str z] ∧ Line z ∧ ∀ H', Same H H' → Q .non H'
theorem scReply : FnScope ["names", "line", "fault"] ["names", "line"] (defScope sReply) := ⟨rfl, rfl, rfl, by decide +kernel, rfl, by decide +kernel, by decide +kernel⟩
theorem scDefd : FnScope ["names", "line", "command"] ["names", "line"] (defScope sDefd) := ⟨rfl, rfl, rfl, by decide +kernel, rfl, by decide +kernel, by decide +kernel⟩
section
variable {CN fN fL CM CF fRd fC CR fR e0 : Addr} {fdL fdRd fdC fdR fd : FuncData} {f : Addr}
theorem ok_reply (F : Fun K "reply_to" "reply_to" sReply f fd) (T : TxtC P w K mg CN fN fL CM CF fRd fC fdL fdRd fdC) (TR : TxtR K mg CR fR e0 fdR) : FnOk P w K mg base CX0 6 f fd ["names", "line"] spReply := by
  have GR : FnN P w K mg base 1 fR fdR ["self", "kind", "text", "data"] (spRInit CR) := ok_rinit TR
  have GD : FnOk P w K mg base (L2.CX P w) 4 fRd fdRd ["line"] (spRead CN) := ok_read T.FR T.b
  have GC : FnOk P w K mg base CX0 4 fC fdC ["names", "command"] spCarried := ok_carried T.FC TR
  obtain ⟨ds, rd, b2⟩ := bindR2 TR
  refine F.ok scReply (fun vs H Q E h => ?_) (fun cdv A outer s H vs Q E hr h => ?_)
  · obtain ⟨n, z, rfl, _⟩ := h
    rfl
  · obtain ⟨n, z, rfl, hz, q⟩ := h
    have hr4 : Room 4 _ := hr.mono (by decide)
    have hr2 : RoomN 2 _ := Room.n (hr.mono (by decide))
    refine ⟨_, pss_one (ps_try_hd (M := fun cls => PySem.W.exmOne K cls (.ref CN) = some true) (tb := fun W => tRet (tCall spCarried [] E0 (tCons (tVar 0) (tCons (tCallS (spRead CN) (WE W) (tCons (tVar 1) tNil)) tNil))))
        (ts := fun a cls d => tRet (tMake CR (spRInit CR) [.ref e0] E0 (tCons (tC (.str "error")) (tCons (tC (.str "text")) tNil)))) rfl rfl (test1 ⟨rfl, by decide +kernel, Or.inl T.b.noText.gC⟩)
        (fun W pn xe tk _ => pss_one (ps_ret (pe_call GC hr4 (by rfl) T.gC T.kC T.bC .nil pass0 (pa_cons (pv 0) (pa_cons (pe_callS GD hr4 (by rfl) T.gR T.kR T.bR (fun σ => passAt tk σ) (pa_cons (pv 1) pa_nil)) pa_nil)))))
        (fun a oe cls d pn hz hf => pss_one (ps_ret (pe_makeN TR.make GR (hr2.mark _) (by rfl) TR.gC b2 rd (pa_cons pe_str (pa_cons pe_str pa_nil)))))), ?_⟩
    refine ⟨_, rfl, _, rfl, z, rfl, hz, fun H1 p hg s1 np hp => ?_, fun H1 d s1 => ?_⟩
    · exact ⟨n, p, rfl, hp, fun H' r s2 => q H' r (s1.trans s2)⟩
    · refine ⟨T.xN, fun a na => ?_⟩
      intro x dx nx ndx nex
      refine ⟨x, dx, _, _, _, rfl, upd_same, fun H' hk => ⟨rfl, q _ _ (s1.trans fun b o e => ?_)⟩⟩
      have nbx : b ≠ x := ne_of_none e nx
      refine hk b o nbx ?_
      rw [upd_ne nbx, upd_ne (ne_of_none e ndx)]
      exact e
theorem ok_defd (F : Fun K "defined" "defined" sDefd f fd) (T : TxtC P w K mg CN fN fL CM CF fRd fC fdL fdRd fdC) : FnOk P w K mg base CX0 6 f fd ["names", "line"] spDefd := by
  have GD : FnOk P w K mg base (L2.CX P w) 4 fRd fdRd ["line"] (spRead CN) := ok_read T.FR T.b
  obtain ⟨aM, gMk, hMk⟩ := T.making
  refine F.ok scDefd (fun vs H Q E h => ?_) (fun cdv A outer s H vs Q E hr h => ?_)
  · obtain ⟨n, z, rfl, _⟩ := h
    rfl
  · obtain ⟨n, z, rfl, hz, q⟩ := h
    have hr4 : Room 4 _ := hr.mono (by decide)
    refine ⟨_, pss_one (ps_try_hd (M := fun cls => PySem.W.exmAny K cls [.ref CN, .ref CM, .ref CF] = some true)
        (tb := fun W => tSeq (tAsg (tCallS (spRead CN) (WE W) (tCons (tVar 1) tNil)) (gName 2)) (tSeq (tIfS (tTest (tOp (rIn K true) (tOp (rIxT K) (tVar 2) (tC (.int 0))) (tC (.ref aM)))) (tRet (tC .non)) tNext) tNever))
        (ts := fun a cls d => tRet (tC .non)) rfl rfl (test3 ⟨rfl, by decide +kernel, Or.inl T.b.noText.gC⟩ ⟨rfl, by decide +kernel, Or.inl T.gM⟩ ⟨rfl, by decide +kernel, Or.inl T.gF⟩)
        (fun W pn xe tk _ => pss_cons (ps_set (i := 2) scDefd.nd rfl (Or.inl rfl) (pe_callS GD hr4 (by rfl) T.gR T.kR T.bR (fun σ => passAt tk σ) (pa_cons (pv 1) pa_nil)))
          (pss_cons (ps_if (pt_cmpR op_notIn_seq (pe_ix ix_tup (pv 2) pe_int (fun _ _ => rfl)) (pe_glob (v := .ref aM) (by rfl) gMk rfl) (by rfl)) (pss_one (ps_ret pe_non)) pss_nil) pss_never))
        (fun a oe cls d pn hz hf => pss_one (ps_ret pe_non))), ?_⟩
    refine ⟨_, rfl, z, rfl, hz, fun H1 p hg s1 np hp => ?_, fun H1 d s1 => ?_⟩
    · have at0 : atI [V.str "empty"] ((0 : Nat) : Int) = some (V.str "empty") := atI_nat rfl
      refine ⟨_, rfl, p, _, _, _, rfl, rfl, SqT.of hp, at0, aM, _, rfl, .inr (hMk H1), rfl, rfl, _, rfl, ?_⟩
      rw [show inV (V.str "empty") ([("let" : Str), "scaled", "added", "greater", "product", "linked"].map V.str) = false by decide +kernel]
      exact iteT (q H1 s1)
    · exact ⟨T.xA, fun a na => q H1 s1⟩
end
end
end K98
set_option Elab.async false
set_option linter.all false
set_option maxRecDepth 100000
set_option maxHeartbeats 4000000
namespace K98
open PySem PySem.Spec PyProof.Rows L2 ItX SR
section
variable {P : Program} {w : World} {K : PySem.W.Frag} {mg : Str → Option Value} {base : Heap}
/-! ### Console -/
structure TxtK (K : PySem.W.Frag) (mg : Str → Option Value) (CC f0 f1 f2 : Addr) (fd0 fd1 fd2 : FuncData) : Prop where
  cl : Cls K CC
  nM : NoAttr K CC "_most"
  nN : NoAttr K CC "_names"
  nE : NoAttr K CC "_entries"
  gC : mg "Console" = some (.ref CC)
  make : Mk K CC f0
  F0 : FunD K "__init__" "Console.__init__" (defArgs sCInit) (defBody sCInit) (defScope sCInit) [] [("most", .int 300)] f0 fd0
  hl : PySem.W.findIn K (.ref CC) "__len__" = some (some (.ref f1))
  il : PySem.W.isFn K (.ref f1) = true
  F1 : Fun K "__len__" "Console.__len__" sLen f1 fd1
  hi : PySem.W.findIn K (.ref CC) "__iter__" = some (some (.ref f2))
  ii : PySem.W.isFn K (.ref f2) = true
  F2 : Fun K "__iter__" "Console.__iter__" sIter f2 fd2
  len : mg "len" = none
  iter : mg "iter" = none
  dict : mg "dict" = none
/-- the fields of a console -/
def cf (n l : Addr) : List (Str × V) := [("_most", .int 300), ("_names", .ref n), ("_entries", .ref l)]
theorem cf_m (n l : Addr) : (cf n l).lookup ("_most" : Str) = some (.int 300) := rfl
theorem cf_n (n l : Addr) : (cf n l).lookup ("_names" : Str) = some (.ref n) := by
  show (match (("_names" : Str) == ("_most" : Str)) with | true => some (V.int 300) | false => _) = _
  rw [show (("_names" : Str) == ("_most" : Str)) = false by decide +kernel]
  rfl
theorem cf_e (n l : Addr) : (cf n l).lookup ("_entries" : Str) = some (.ref l) := by
  show (match (("_entries" : Str) == ("_most" : Str)) with | true => some (V.int 300) | false => _) = _
  rw [show (("_entries" : Str) == ("_most" : Str)) = false by decide +kernel]
  show (match (("_entries" : Str) == ("_names" : Str)) with | true => some (V.ref n) | false => _) = _
  rw [show (("_entries" : Str) == ("_names" : Str)) = false by decide +kernel]
  rfl
theorem cf_no {f : Str} (n l : Addr) (h1 : (f == ("_most" : Str)) = false) (h2 : (f == ("_names" : Str)) = false) (h3 : (f == ("_entries" : Str)) = false) : (cf n l).lookup f = none := by
  show (match (f == ("_most" : Str)) with | true => some (V.int 300) | false => _) = _
  rw [h1]
  show (match (f == ("_names" : Str)) with | true => some (V.ref n) | false => _) = _
  rw [h2]
  show (match (f == ("_entries" : Str)) with | true => some (V.ref l) | false => _) = _
  rw [h3]
  rfl
/-- a console stands at a: its dict of names n (empty), its list of entries l -/
structure CoAt (CC : Addr) (H : Hp) (a dx n l : Addr) (xs : List V) : Prop where
  i : H a = some (.ins CC dx (cf n l))
  n : H n = some (.dK [])
  l : H l = some (.lst xs)
def spCInit (CC : Addr) : Sp := fun vs H Q _ => ∃ x dx, vs = [.ref x, .int 300] ∧ H x = some (.ins CC dx []) ∧ ∀ H' n l, H n = none → H l = none → n ≠ l → (∀ b o, b ≠ x → H b = some o → H' b = some o) → CoAt CC H' x dx n l [] → Q .non H'
theorem scCInit : FnScope ["self", "most"] ["self", "most"] (defScope sCInit) := ⟨rfl, rfl, rfl, by decide +kernel, rfl, by decide +kernel, by decide +kernel⟩
theorem putF3 (n l : Addr) : putF ("_entries" : Str) (V.ref l) (putF ("_names" : Str) (V.ref n) (putF ("_most" : Str) (V.int 300) [])) = cf n l := by
  have h1 : ¬ ("_most" : Str) = ("_names" : Str) := by decide +kernel
  have h2 : ¬ ("_most" : Str) = ("_entries" : Str) := by decide +kernel
  have h3 : ¬ ("_names" : Str) = ("_entries" : Str) := by decide +kernel
  show putF ("_entries" : Str) (V.ref l) (if ("_most" : Str) = ("_names" : Str) then [(("_most" : Str), V.ref n)] else [(("_most" : Str), V.int 300), (("_names" : Str), V.ref n)]) = _
  rw [if_neg h1]
  show (if ("_most" : Str) = ("_entries" : Str) then [(("_most" : Str), V.ref l), (("_names" : Str), V.ref n)] else (("_most" : Str), V.int 300) :: (if ("_names" : Str) = ("_entries" : Str) then [(("_names" : Str), V.ref l)] else [(("_names" : Str), V.ref n), (("_entries" : Str), V.ref l)])) = _
  rw [if_neg h2, if_neg h3] <;> rfl
section
variable {CC f0 f1 f2 : Addr} {fd0 fd1 fd2 : FuncData}
theorem ok_cinit (T : TxtK K mg CC f0 f1 f2 fd0 fd1 fd2) : FnOk P w K mg base CX0 1 f0 fd0 ["self", "most"] (spCInit CC) := by
  refine T.F0.ok scCInit (fun vs H Q E h => ?_) (fun cdv A outer s H vs Q E hr h => ?_)
  · obtain ⟨x, dx, rfl, _⟩ := h
    rfl
  · obtain ⟨x, dx, rfl, hx, q⟩ := h
    refine ⟨_, pss_cons (ps_fld (pv 0) (pv 1) rfl) (pss_cons (ps_fld (pv 0) pe_dnewK rfl) (pss_one (ps_fld (pv 0) (pe_lst pa_nil) rfl))), ?_⟩
    refine ⟨_, rfl, _, rfl, x, CC, dx, _, rfl, hx, T.cl, T.nM, (by show 0 < 1000; decide), ?_⟩
    intro n hn
    have nx : n ≠ x := fun e => by rw [e, upd_same] at hn; cases hn
    have n0 : H n = none := by rw [upd_ne nx] at hn; exact hn
    refine ⟨_, rfl, x, CC, dx, _, rfl, (by rw [upd_ne nx.symm, upd_same]), T.cl, T.nN, (by show 1 < 1000; decide), ?_⟩
    refine ⟨Nat.zero_le _, fun l hl => ?_⟩
    have lx : l ≠ x := fun e => by rw [e, upd_same] at hl; cases hl
    have ln : l ≠ n := fun e => by rw [e, upd_ne nx, upd_same] at hl; cases hl
    have l0 : H l = none := by rw [upd_ne lx, upd_ne ln, upd_ne lx] at hl; exact hl
    refine ⟨_, rfl, x, CC, dx, _, rfl, (by rw [upd_ne lx.symm, upd_same]), T.cl, T.nE, ?_, ?_⟩
    · exact Nat.lt_of_le_of_lt (length_putF _ _ _) (Nat.lt_of_le_of_lt (Nat.add_le_add_right (length_putF _ _ _) 1) (by show 0 + 1 + 1 < 1000; decide))
    · refine q _ n l n0 l0 ln.symm (fun b o nb e => ?_) ⟨?_, ?_, ?_⟩
      · rw [upd_ne nb, upd_ne (ne_of_none e l0), upd_ne nb, upd_ne (ne_of_none e n0), upd_ne nb]
        exact e
      · rw [upd_same, putF3]
      · rw [upd_ne nx, upd_ne ln.symm, upd_ne nx, upd_same]
      · rw [upd_ne lx, upd_same]
theorem bindC0 (T : TxtK K mg CC f0 f1 f2 fd0 fd1 fd2) : ∃ ds, Vals [.int 300] ds ∧ Binds K fd0 ["self", "most"] ds :=
  T.F0.binds0 1 (by intro z; cases z) rfl fun D doc pm an cdv ct us ks h1 h2 => match us, h1, ks, h2 with
    | [_], _, [_], _ => ⟨_, _, _, _, _, _, rfl, rfl, rfl⟩
/-! ### __len__, __iter__, names -/
def spLen (CC : Addr) : Sp := fun vs H Q _ => ∃ a dx n l xs, vs = [.ref a] ∧ CoAt CC H a dx n l xs ∧ Q (.int (xs.length : Int)) H
theorem scLen : FnScope ["self"] ["self"] (defScope sLen) := ⟨rfl, rfl, rfl, by decide +kernel, rfl, by decide +kernel, by decide +kernel⟩
theorem ok_len (T : TxtK K mg CC f0 f1 f2 fd0 fd1 fd2) : FnOk P w K mg base CX0 1 f1 fd1 ["self"] (spLen CC) := by
  refine T.F1.ok scLen (fun vs H Q E h => ?_) (fun cdv A outer s H vs Q E hr h => ?_)
  · obtain ⟨a, dx, n, l, xs, rfl, _⟩ := h
    rfl
  · obtain ⟨a, dx, n, l, xs, rfl, c, q⟩ := h
    refine ⟨_, pss_one (ps_ret (pe_callB call_len_seq (by rfl) T.len PySem.boot_len (pa_cons (pe_fld (pv 0) rfl) pa_nil))), ?_⟩
    exact ⟨_, rfl, a, CC, dx, _, _, rfl, c.i, T.cl, T.nE, cf_e _ _, l, xs, rfl, .inl (SqL.of c.l), q⟩
theorem scIter : FnScope ["self"] ["self"] (defScope sIter) := ⟨rfl, rfl, rfl, by decide +kernel, rfl, by decide +kernel, by decide +kernel⟩
theorem ok_iter (T : TxtK K mg CC f0 f1 f2 fd0 fd1 fd2) : FnS P w K mg base 1 f2 fd2 ["self"] (spIt K CC) := by
  obtain ⟨oc, od, kV, doc, pm, an, cdv, ct, osl, rfl, lk, hcd⟩ := T.F2.ex
  refine fn_ofS lk hcd scIter (fun n vs H Q E h => ?_) (fun A outer s H vs Q E hr h => ?_)
  · obtain ⟨a, dx, fs, l, xs, rfl, _⟩ := h
    rfl
  · obtain ⟨a, dx, fs, l, xs, rfl, ha, hl, hS, q⟩ := h
    refine ⟨_, pss_one (ps_ret (pe_callB call_iterN (by rfl) T.iter (by decide +kernel) (pa_cons (pe_fld (pv 0) rfl) pa_nil))), ?_⟩
    exact ⟨_, rfl, a, CC, dx, _, _, rfl, ha, T.cl, T.nE, hl, l, xs, rfl, hS, fun it n1 n2 => q it n1 n2⟩
def spNames (CC : Addr) : Sp := fun vs H Q _ => ∃ a dx n l xs, vs = [.ref a] ∧ CoAt CC H a dx n l xs ∧ ∀ p, H p = none → Q (.ref p) (upd H p (.dK []))
theorem scNames : FnScope ["self"] ["self"] (defScope sNames) := ⟨rfl, rfl, rfl, by decide +kernel, rfl, by decide +kernel, by decide +kernel⟩
theorem ok_names {f : Addr} {fd : FuncData} (F : Fun K "names" "Console.names" sNames f fd) (T : TxtK K mg CC f0 f1 f2 fd0 fd1 fd2) : FnOk P w K mg base CX0 1 f fd ["self"] (spNames CC) := by
  refine F.ok scNames (fun vs H Q E h => ?_) (fun cdv A outer s H vs Q E hr h => ?_)
  · obtain ⟨a, dx, n, l, xs, rfl, _⟩ := h
    rfl
  · obtain ⟨a, dx, n, l, xs, rfl, c, q⟩ := h
    refine ⟨_, pss_one (ps_ret (pe_callTy call_dictD (by rfl) T.dict (by decide +kernel) (pa_cons (pe_fld (pv 0) rfl) pa_nil))), ?_⟩
    exact ⟨_, rfl, a, CC, dx, _, _, rfl, c.i, T.cl, T.nN, cf_n _ _, n, [], rfl, .inl c.n, q⟩
end
end
end K98
set_option Elab.async false
set_option linter.all false
set_option maxRecDepth 100000
set_option maxHeartbeats 4000000
namespace K98
open PySem PySem.Spec PyProof.Rows L2 ItX SR
/-! ### o.m(e, ..) in a try -/
def tMethW (C : Addr) (m : Str) (sp : Sp) (E : L2.St → XK) (ta : TE) (t : TA) : TE := fun σ H Q => ta σ H fun x H1 => ∃ a dx fs, x = .ref a ∧ H1 a = some (.ins C dx fs) ∧ fs.lookup m = none ∧ t σ H1 fun vs H2 => sp (x :: vs) H2 Q (E σ)
section
variable {X : Cx} {CX : CXT} {k : Nat} {f C : Addr} {fd : FuncData} {ps : List Str} {sp : Sp} {E : L2.St → XK} {m : Str} {pos apos : Pos} {e o : Expr} {es : List Expr} {ta : TE} {t : TA}
theorem pe_methW {pl : Sem Bool} (he : PE X o ta) (c : Cls X.K C) (hm : Meth X.K C m f) (F : FnOk X.prog X.w X.K X.mg X.base CX k f fd ps sp) (hr : Room k X.A) (hb : Binds X.K fd ps []) (hx : ∀ σ, PassesAt CX X σ (E σ)) (ha : PA X (e :: es) t)
    (hst : starEach (e :: es) X.env = (false, eval e X.env) :: starEach es X.env := by rfl) (hpl : (backTo pos (starEach es X.env)).any (·.1) = false := by rfl)
    (ht : eval (.Call (.Attribute o m apos) (e :: es) [] pos) X.env = (do
      let ov ← eval o X.env
      standAt apos.atName
      let (f, first) ← holding [ov] (getMethod ov m pl)
      callWith pos f first (backTo pos (starEach (e :: es) X.env)) (backToKw pos (keywordEach [] X.env))) := by rfl) :
    PE X (.Call (.Attribute o m apos) (e :: es) [] pos) (tMethW C m sp E ta t) := by
  refine ⟨fun pins s σ H Q I h => ?_⟩
  refine PySem.W.methodCall_KW (pl := pl) (thn (he.run pins s σ H _ I h) fun u s1 ⟨x, H1, I1, rx, a, dx, fs, ex, ea, l, q⟩ => ?_) ht
  subst ex
  obtain rfl : u = Value.ref a := rx
  refine getmeth_ok I1 ea c hm l ?_
  refine PySem.W.callWith_K (first := [.ref a]) (h₀ := X.base) I.ok.mod.kin hm.kp (thn (ha.run pos pins s1 σ H1 _ I1 q) fun us s2 ⟨vs, H2, I2, r, q2⟩ => ⟨I2.kIn, ?_⟩) hst hpl
  exact run_fnS (us := .ref a :: us) (vs := .ref a :: vs) F hr hb (hx σ) I2 (.cons rfl r) q2
end
section
variable {P : Program} {w : World} {K : PySem.W.Frag} {mg : Str → Option Value} {base : Heap}
/-! ### Console.enter -/
structure TxtE (P : Program) (w : World) (K : PySem.W.Frag) (mg : Str → Option Value) (CN fN fL CM CF fRd fC fF fRp fDf : Addr) (fdL fdRd fdC fdRp fdDf : FuncData) : Prop where
  c : TxtC P w K mg CN fN fL CM CF fRd fC fdL fdRd fdC
  ref : SupRefused.Txt P K mg CF fF
  gRp : mg "reply_to" = some (.ref fRp)
  kRp : PySem.W.keepIn K (.ref fRp) = true
  FRp : Fun K "reply_to" "reply_to" sReply fRp fdRp
  bRp : Binds K fdRp ["names", "line"] []
  gDf : mg "defined" = some (.ref fDf)
  kDf : PySem.W.keepIn K (.ref fDf) = true
  FDf : Fun K "defined" "defined" sDefd fDf fdDf
  bDf : Binds K fdDf ["names", "line"] []
def spEnter (CC CF : Addr) : Sp := fun vs H Q E => ∃ a dx n l cs z, vs = [.ref a, .str z] ∧ CoAt CC H a dx n l (cs.map V.ref) ∧
  ((cs.length < 300 ∧ Line z ∧ ∀ H' r t, (∀ b o, b ≠ l → H b = some o → H' b = some o) → CoAt CC H' a dx n l ((cs ++ [t]).map V.ref) → Q (.ref r) H') ∨
   (cs.length = 300 ∧ ∀ H' d, Same H H' → H' d = some (.xd [("reason", .str "lines")]) → E (.ref CF) (some d) H'))
theorem scEnter : FnScope ["self", "line", "reply", "found"] ["self", "line"] (defScope sEnter) := ⟨rfl, rfl, rfl, by decide +kernel, rfl, by decide +kernel, by decide +kernel⟩
section
variable {CN fN fL CM CF fRd fC fF fRp fDf CR fR e0 CC f0 f1 f2 : Addr} {fdL fdRd fdC fdRp fdDf fdR fd0 fd1 fd2 fd : FuncData} {f : Addr}
theorem ok_enter (F : Fun K "enter" "Console.enter" sEnter f fd) (T : TxtE P w K mg CN fN fL CM CF fRd fC fF fRp fDf fdL fdRd fdC fdRp fdDf) (TR : TxtR K mg CR fR e0 fdR) (TK : TxtK K mg CC f0 f1 f2 fd0 fd1 fd2) :
    FnOk P w K mg base (L2.CX P w) 8 f fd ["self", "line"] (spEnter CC CF) := by
  have GRp : FnOk P w K mg base CX0 6 fRp fdRp ["names", "line"] spReply := ok_reply T.FRp T.c TR
  have GDf : FnOk P w K mg base CX0 6 fDf fdDf ["names", "line"] spDefd := ok_defd T.FDf T.c
  refine F.okX scEnter (fun vs H Q E h => ?_) (fun cdv A outer s H vs Q E hr h => ?_)
  · obtain ⟨a, dx, n, l, cs, z, rfl, _⟩ := h
    rfl
  · obtain ⟨a, dx, n, l, cs, z, rfl, c, h⟩ := h
    have hr6 : Room 6 _ := hr.mono (by decide)
    have hr1 : Room 1 _ := hr.mono (by decide)
    refine ⟨_, pss_cons (ps_if (pt_cmpR op_ge (pe_callB call_len_seq (by rfl) TK.len PySem.boot_len (pa_cons (pe_fld (pv 0) rfl) pa_nil)) (pe_fld (pv 0) rfl) (nomark _))
        (pss_one (SupRefused.ps rfl T.ref hr1 (takes_of rfl rfl rfl rfl) (pa_cons pe_str pa_nil))) pss_nil)
      (pss_cons (ps_set (i := 2) scEnter.nd rfl (Or.inl rfl) (pe_call GRp hr6 (by rfl) T.gRp T.kRp T.bRp .nil pass0 (pa_cons (pe_fld (pv 0) rfl) (pa_cons (pv 1) pa_nil))))
      (pss_cons (ps_set (i := 3) scEnter.nd rfl (Or.inl rfl) (pe_call GDf hr6 (by rfl) T.gDf T.kDf T.bDf .nil pass0 (pa_cons (pe_fld (pv 0) rfl) (pa_cons (pv 1) pa_nil))))
      (pss_cons (ps_if (pt_cmpR op_notN (pv 3) pe_non (nomark _)) pss_never pss_nil)
      (pss_cons (ps_expr (pe_bm PySem.F.plainAttrs_list PySem.F.slot_list_append PySem.F.type_list_append mt_append (pe_fld (pv 0) rfl) (pa_cons (pe_tup (pa_cons (pv 1) (pa_cons (pv 2) pa_nil))) pa_nil)))
      (pss_one (ps_ret (pv 2))))))), ?_⟩
    refine ⟨_, rfl, a, CC, dx, _, _, rfl, c.i, TK.cl, TK.nE, cf_e _ _, l, _, rfl, .inl (SqL.of c.l), ?_⟩
    refine ⟨_, rfl, a, CC, dx, _, _, rfl, c.i, TK.cl, TK.nM, cf_m _ _, _, _, rfl, rfl, _, rfl, ?_⟩
    rw [List.length_map]
    rcases h with ⟨hl, hz, q⟩ | ⟨hl, q⟩
    · rw [decide_eq_false (show ¬ (300 : Int) ≤ (cs.length : Int) by omega)]
      refine iteF ?_
      refine ⟨_, rfl, a, CC, dx, _, _, rfl, c.i, TK.cl, TK.nN, cf_n _ _, _, rfl, _, z, rfl, hz, fun H1 r s1 => ?_⟩
      refine ⟨_, rfl, a, CC, dx, _, _, rfl, s1 _ _ c.i, TK.cl, TK.nN, cf_n _ _, _, rfl, _, z, rfl, hz, fun H2 s2 => ?_⟩
      refine ⟨_, rfl, rfl, _, rfl, ?_⟩
      refine iteF ?_
      have s12 : Same H H2 := s1.trans s2
      refine ⟨_, rfl, a, CC, dx, _, _, rfl, s12 _ _ c.i, TK.cl, TK.nE, cf_e _ _, .inl ⟨rfl, _, SqL.of (s12 _ _ c.l)⟩, ?_⟩
      refine ⟨_, rfl, _, rfl, (by show 2 ≤ sizeLine; decide), fun t nt => ?_⟩
      have s3 : Same H (upd H2 t (.tup [.str z, .ref r])) := s12.trans (same_upd nt)
      refine ⟨l, _, _, rfl, rfl, s3 _ _ c.l, (by rw [List.length_map]; exact Nat.lt_trans hl (by decide)), ?_⟩
      refine ⟨V.ref r, rfl, q _ r t (fun b o nb e => ?_) ⟨?_, ?_, ?_⟩⟩
      · rw [upd_ne nb]
        exact s3 _ _ e
      · rw [upd_ne (ne_of (s3 _ _ c.l) (s3 _ _ c.i) (by intro q; cases q)).symm]
        exact s3 _ _ c.i
      · rw [upd_ne (ne_of (s3 _ _ c.l) (s3 _ _ c.n) (by intro q; cases q)).symm]
        exact s3 _ _ c.n
      · rw [upd_same, List.map_append]
        rfl
    · rw [decide_eq_true (show (300 : Int) ≤ (cs.length : Int) by omega)]
      refine iteT ?_
      exact ⟨_, rfl, fun d nd => q _ d (same_upd nd) upd_same⟩
/-! ### _law_enter -/
structure TxtL (K : PySem.W.Frag) (mg : Str → Option Value) (CF CC fE : Addr) (fdE : FuncData) : Prop where
  xc : XfC K CF
  noN : PySem.W.findIn K (.ref CF) "reason" = some none
  xF : PySem.W.exmOne K (.ref CF) (.ref CF) = some true
  gF : mg "Refused" = some (.ref CF)
  mE : Meth K CC "enter" fE
  FE : Fun K "enter" "Console.enter" sEnter fE fdE
  bE : Binds K fdE ["self", "line"] []
def spLEnter (CC : Addr) : Sp := fun vs H Q _ => ∃ a dx n l cs z, vs = [.ref a, .str z] ∧ CoAt CC H a dx n l (cs.map V.ref) ∧
  ((cs.length < 300 ∧ Line z ∧ ∀ H' t, (∀ b o, b ≠ l → H b = some o → H' b = some o) → CoAt CC H' a dx n l ((cs ++ [t]).map V.ref) → Q (.str "none") H') ∨
   (cs.length = 300 ∧ ∀ H', Same H H' → Q (.str "lines") H'))
theorem scLEnter : FnScope ["console", "line", "bad"] ["console", "line"] (defScope sLEnter) := ⟨rfl, rfl, rfl, by decide +kernel, rfl, by decide +kernel, by decide +kernel⟩
theorem ok_lenter (F : Fun K "_law_enter" "_law_enter" sLEnter f fd) (T : TxtE P w K mg CN fN fL CM CF fRd fC fF fRp fDf fdL fdRd fdC fdRp fdDf) (TR : TxtR K mg CR fR e0 fdR) (TK : TxtK K mg CC f0 f1 f2 fd0 fd1 fd2) {fE : Addr} {fdE : FuncData} (TL : TxtL K mg CF CC fE fdE) :
    FnOk P w K mg base CX0 10 f fd ["console", "line"] (spLEnter CC) := by
  have GE : FnOk P w K mg base (L2.CX P w) 8 fE fdE ["self", "line"] (spEnter CC CF) := ok_enter TL.FE T TR TK
  refine F.ok scLEnter (fun vs H Q E h => ?_) (fun cdv A outer s H vs Q E hr h => ?_)
  · obtain ⟨a, dx, n, l, cs, z, rfl, _⟩ := h
    rfl
  · obtain ⟨a, dx, n, l, cs, z, rfl, c, h⟩ := h
    have hr8 : Room 8 _ := hr.mono (by decide)
    refine ⟨_, pss_cons (ps_try_as (i := 2) (n := "bad") (c := .ref CF) (Wout := fun _ _ _ _ => False)
        (tb := fun W => tDrop (tMethW CC "enter" (spEnter CC CF) (WE W) (tVar 0) (tCons (tVar 1) tNil)))
        (ts := fun a cls d => tRet (tXf a cls d CF "reason" (tVar 2))) rfl rfl scLEnter.nd rfl rfl ⟨rfl, by decide +kernel, .inl TL.gF⟩ takes0
        (fun W pn xe tk _ => pss_one (ps_expr (pe_methW (pv 0) TK.cl TL.mE GE hr8 TL.bE (fun σ => passAt tk σ) (pa_cons (pv 1) pa_nil))))
        (fun a oe cls d pn hz hf => pss_one (ps_ret (pe_xf TL.xc TL.noN hz hf (pv 2)))))
      (pss_one (ps_ret pe_str)), ?_⟩
    have noE : (cf n l).lookup ("enter" : Str) = none := cf_no _ _ (by decide +kernel) (by decide +kernel) (by decide +kernel)
    refine ⟨_, rfl, a, dx, _, rfl, c.i, noE, _, rfl, a, dx, n, l, cs, z, rfl, c, ?_⟩
    rcases h with ⟨hl, hz, q⟩ | ⟨hl, q⟩
    · refine .inl ⟨hl, hz, fun H' r t hk c' => ?_⟩
      exact q H' t hk c'
    · refine .inr ⟨hl, fun H' d s1 hd => ?_⟩
      refine ⟨true, TL.xF, fun _ e ne => ?_, fun z => by cases z⟩
      refine ⟨_, rfl, rfl, rfl, d, _, _, rfl, hd, rfl, ?_⟩
      exact q _ s1
end
end
end K98
set_option Elab.async false
set_option linter.all false
set_option maxRecDepth 100000
set_option maxHeartbeats 4000000
namespace K98
open PySem PySem.Spec PyProof.Rows L2 ItX SR
section
variable {P : Program} {w : World} {K : PySem.W.Frag} {mg : Str → Option Value} {base : Heap}
/-! ### _law_state, _law_take -/
structure TxtS (mg : Str → Option Value) : Prop where
  abs : mg "abs" = none
  int : mg "int" = none
/-- the draw's state: two ints -/
def StAt (H : Hp) (p : Addr) : Prop := ∃ s t : Int, H p = some (.lst [.int s, .int t])
def spState (K : PySem.W.Frag) : Sp := fun vs H Q _ => ∃ (a : Addr) (ns : List Int), vs = [.ref a] ∧ SqL K H a (ns.map V.int) ∧ ∀ H' p, Same H H' → StAt H' p → Q (.ref p) H'
theorem scState : FnScope ["script", "seed", "total_v", "cell"] ["script"] (defScope sState) := ⟨rfl, rfl, rfl, by decide +kernel, rfl, by decide +kernel, by decide +kernel⟩
theorem ok_state {f : Addr} {fd : FuncData} (F : Fun K "_law_state" "_law_state" sState f fd) (T : TxtS mg) : FnOk P w K mg base CX0 1 f fd ["script"] (spState K) := by
  refine F.ok scState (fun vs H Q E h => ?_) (fun cdv A outer s H vs Q E hr h => ?_)
  · obtain ⟨a, ns, rfl, _⟩ := h
    rfl
  · obtain ⟨a, ns, rfl, hS, q⟩ := h
    refine ⟨_, pss_cons (ps_set (i := 1) scState.nd rfl (Or.inl rfl) pe_int) (pss_cons (ps_set (i := 2) scState.nd rfl (Or.inl rfl) pe_int)
      (pss_cons (ps_for PassesOwn.never rfl (pi_list (pe_slice sl_list (pv 0) po_none (po_some pe_int))) (pg_name (i := 3) scState.nd rfl (Or.inl rfl))
        (pss_cons (ps_set (i := 1) scState.nd rfl (Or.inl rfl) (pe_op op_add (pe_op op_mul (pv 1) pe_int) (pe_callB call_abs (by rfl) T.abs (by decide +kernel) (pa_cons (pv 3) pa_nil))))
          (pss_one (ps_set (i := 2) scState.nd rfl (Or.inl rfl) (pe_op op_mod (pe_callTy call_int1 (by rfl) T.int (by decide +kernel) (pa_cons (pe_op op_add (pe_op op_mul (pv 2) pe_int) (pv 3)) pa_nil)) pe_int)))))
      (pss_one (ps_ret (pe_lst (pa_cons (pv 1) (pa_cons (pv 2) pa_nil))))))), ?_⟩
    refine ⟨_, rfl, 63, rfl, a, _, rfl, hS, fun c nc => ?_⟩
    have hcut : ∃ ms : List Int, cutV (ns.map V.int) none (some 63) = ms.map V.int := by
      unfold cutV
      exact ⟨_, by rw [← List.map_drop, ← List.map_take]⟩
    obtain ⟨ms, ems⟩ := hcut
    rw [ems]
    have s1 : Same H (upd H c (.lst (ms.map V.int))) := same_upd nc
    refine ⟨c, rfl, ⟨_, SqL.of upd_same⟩, for_list (K := K) (a := c) (xs := ms.map V.int) (fun i σ H' => H' = upd H c (.lst (ms.map V.int)) ∧ ∃ (x y : Int) (v : Option V), σ = [some (.ref a), some (.int x), some (.int y), v])
      ⟨rfl, 0, 1, none, rfl⟩ (fun i σ H' _ hp => by rw [hp.1]; exact SqL.of upd_same) ?_ ?_⟩
    · rintro i z σ H' hi ⟨rfl, x, y, v, rfl⟩
      obtain ⟨u, rfl⟩ : ∃ u, z = V.int u := by
        rw [List.getElem?_map] at hi
        cases e : ms[i]? with
        | none =>
          rw [e] at hi
          cases hi
        | some u =>
          rw [e] at hi
          exact ⟨u, (Option.some.inj hi).symm⟩
      refine ⟨_, rfl, _, _, rfl, rfl, .inr (by decide), _, rfl, _, rfl, _, _, rfl, rfl, ?_⟩
      refine ⟨_, rfl, _, _, rfl, rfl, .inr (by decide), _, rfl, _, _, rfl, rfl, .inl ⟨_, rfl, _, _, rfl, rfl, (by show (0:Int) < 2147483647; decide), ?_⟩⟩
      exact ⟨rfl, _, _, _, rfl⟩
    · rintro σ H' ⟨rfl, x, y, v, rfl⟩
      refine ⟨_, rfl, _, rfl, (by show 2 ≤ sizeLine; decide), fun p np => ?_⟩
      exact q _ p (s1.trans (same_upd np)) ⟨x, y, upd_same⟩
/-- _law_take(state, m): a value below m -/
def spTake : Sp := fun vs H Q _ => ∃ (p : Addr) (m : Int), vs = [.ref p, .int m] ∧ 0 < m ∧ m < 1073741824 ∧ StAt H p ∧ ∀ H' v, 0 ≤ v → v < m → (∀ b o, b ≠ p → H b = some o → H' b = some o) → StAt H' p → Q (.int v) H'
theorem scTake : FnScope ["state", "m", "value"] ["state", "m"] (defScope sTake) := ⟨rfl, rfl, rfl, by decide +kernel, rfl, by decide +kernel, by decide +kernel⟩
theorem ok_take {f : Addr} {fd : FuncData} (F : Fun K "_law_take" "_law_take" sTake f fd) (T : TxtS mg) : FnOk P w K mg base CX0 1 f fd ["state", "m"] spTake := by
  refine F.ok scTake (fun vs H Q E h => ?_) (fun cdv A outer s H vs Q E hr h => ?_)
  · obtain ⟨p, m, rfl, _⟩ := h
    rfl
  · obtain ⟨p, m, rfl, m0, m1, ⟨x, y, hp⟩, q⟩ := h
    have at0 : ∀ {x y : Int}, atI [V.int x, V.int y] ((0 : Nat) : Int) = some (V.int x) := fun {x y} => atI_nat rfl
    have at1 : ∀ {x y : Int}, atI [V.int x, V.int y] ((1 : Nat) : Int) = some (V.int y) := fun {x y} => atI_nat rfl
    refine ⟨_, pss_cons (ps_if (pt_cmpR op_gt (pe_ix ix_list (pv 0) pe_int (fun _ _ => rfl)) pe_int (nomark _))
        (pss_cons (ps_set (i := 2) scTake.nd rfl (Or.inl rfl) (pe_op op_mod (pe_callTy call_int1 (by rfl) T.int (by decide +kernel) (pa_cons (pe_ix ix_list (pv 0) pe_int (fun _ _ => rfl)) pa_nil)) (pv 1)))
        (pss_cons (ps_asg (pe_op op_fdiv (pe_ix ix_list (pv 0) pe_int (fun _ _ => rfl)) (pv 1)) (pg_sub (pv 0) pe_int set_list))
        (pss_one (ps_ret (pv 2))))) pss_nil)
      (pss_cons (ps_asg (pe_op op_mod (pe_callTy call_int1 (by rfl) T.int (by decide +kernel) (pa_cons (pe_op op_add (pe_op op_mul (pe_ix ix_list (pv 0) pe_int (fun _ _ => rfl)) pe_int) pe_int) pa_nil)) pe_int) (pg_sub (pv 0) pe_int set_list))
      (pss_one (ps_ret (pe_op op_mod (pe_callTy call_int1 (by rfl) T.int (by decide +kernel) (pa_cons (pe_op op_fdiv (pe_ix ix_list (pv 0) pe_int (fun _ _ => rfl)) pe_int) pa_nil)) (pv 1))))), ?_⟩
    refine ⟨_, rfl, p, _, _, _, rfl, rfl, SqL.of hp, at0, _, _, rfl, rfl, _, rfl, ?_⟩
    by_cases hx : 0 < x
    · rw [decide_eq_true hx]
      refine iteT ?_
      refine ⟨_, rfl, p, _, _, _, rfl, rfl, SqL.of hp, at0, .inl ⟨_, rfl, ?_⟩⟩
      refine ⟨_, rfl, _, _, rfl, rfl, m0, ?_⟩
      refine ⟨_, rfl, p, _, _, _, rfl, rfl, SqL.of hp, at0, _, rfl, _, _, rfl, rfl, ⟨m0, m1⟩, ?_⟩
      refine ⟨_, rfl, p, _, _, 0, rfl, rfl, hp, rfl, ?_⟩
      exact ⟨_, rfl, q _ _ (Int.emod_nonneg _ (by omega)) (Int.emod_lt_of_pos _ m0) (fun b o nb e => by rw [upd_ne nb]; exact e) ⟨_, _, upd_same⟩⟩
    · rw [decide_eq_false hx]
      refine iteF ?_
      refine ⟨_, rfl, p, _, _, _, rfl, rfl, SqL.of hp, at1, _, _, rfl, rfl, .inr (by decide), _, _, rfl, rfl, .inl ⟨_, rfl, _, _, rfl, rfl, (by show (0:Int) < 2147483647; decide), ?_⟩⟩
      refine ⟨_, rfl, p, _, _, 1, rfl, rfl, hp, rfl, ?_⟩
      refine ⟨_, rfl, p, _, _, _, rfl, rfl, SqL.of upd_same, at1, _, _, rfl, rfl, (by exact ⟨by decide, by decide⟩), .inl ⟨_, rfl, _, rfl, _, _, rfl, rfl, m0, ?_⟩⟩
      exact q _ _ (Int.emod_nonneg _ (by omega)) (Int.emod_lt_of_pos _ m0) (fun b o nb e => by rw [upd_ne nb]; exact e) ⟨_, _, upd_same⟩
end
end K98
set_option Elab.async false
set_option linter.all false
set_option maxRecDepth 100000
set_option maxHeartbeats 4000000
namespace K98
open PySem PySem.Spec PyProof.Rows L2 ItX SR
section
variable {P : Program} {w : World} {K : PySem.W.Frag} {mg : Str → Option Value} {base : Heap}
/-! ### the law -/
theorem CoAt.same {CC a dx n l : Addr} {H H' : Hp} {xs : List V} (c : CoAt CC H a dx n l xs) (s : Same H H') : CoAt CC H' a dx n l xs := ⟨s _ _ c.i, s _ _ c.n, s _ _ c.l⟩
/-- a console, where another's list was written -/
theorem CoAt.off {CC a dx n l l' : Addr} {H H' : Hp} {xs ys : List V} (c : CoAt CC H a dx n l xs) (hl : H l' = some (.lst ys)) (ne : l ≠ l') (s : ∀ b o, b ≠ l' → H b = some o → H' b = some o) : CoAt CC H' a dx n l xs :=
  ⟨s _ _ (ne_of c.i hl (by intro q; cases q)) c.i, s _ _ (ne_of c.n hl (by intro q; cases q)) c.n, s _ _ ne c.l⟩
/-- [entry for entry in o]: a list of the same -/
theorem copy_own {K : PySem.W.Frag} {CC a dx n l : Addr} {H : Hp} {cs : List Addr} {Q : VK} {k : Nat} {v0 v1 v2 v3 v4 v5 v6 v7 v8 : Option V} (hk : [v0, v1, v2, v3, v4, v5, v6, v7, v8][k]? = some (some (.ref a))) (c : CoAt CC H a dx n l (cs.map V.ref)) (hl : cs.length ≤ 300)
    (q : ∀ D H', Same H H' → H' D = some (.lst (cs.map V.ref)) → H D = none → Q (.ref D) H') : tLc (iOwn K CC (tVar k)) (gName 8) tYes (tVar 8) [8] [v0, v1, v2, v3, v4, v5, v6, v7, v8] H Q := by
  refine ⟨_, hk, a, dx, _, l, _, rfl, c.i, cf_e _ _, SqL.of c.l, fun D nD => ?_⟩
  refine lc_list (K := K) (a := l) (xs := cs.map V.ref) (fun i H' => Same H H' ∧ H' D = some (.lst ((cs.take i).map V.ref))) ⟨same_upd nD, upd_same⟩ (fun i H' _ hp => hp.1.seq (SqL.of c.l)) ?_ ?_
  · rintro i x H' hi ⟨sm, eD⟩
    rw [List.getElem?_map] at hi
    cases ey : cs[i]? with
    | none => rw [ey] at hi; cases hi
    | some y =>
      rw [ey] at hi
      obtain rfl : V.ref y = x := Option.some.inj hi
      have tk : cs.take (i + 1) = cs.take i ++ [y] := by rw [List.take_add_one, ey]; rfl
      refine ⟨rfl, ?_⟩
      refine iteT (B := Same H H' ∧ H' D = some (.lst ((cs.take (i + 1)).map V.ref))) ?_
      refine ⟨_, rfl, _, eD, ?_, fun b o e => ?_, ?_⟩
      · rw [List.length_map, List.length_take]
        exact Nat.lt_of_le_of_lt (Nat.min_le_right _ _) (Nat.lt_of_le_of_lt hl (by decide))
      · rw [upd_ne (ne_of_none e nD)]
        exact sm b o e
      · rw [upd_same, tk, List.map_append]
        rfl
  · rintro H3 ⟨sm, eD⟩
    rw [List.length_map, List.take_length] at eD
    exact q D H3 sm eD nD
structure TxtF (K : PySem.W.Frag) (mg : Str → Option Value) (CC fS fT fLE fN : Addr) (fdS fdT fdLE fdN : FuncData) : Prop where
  s : TxtS mg
  range : mg "range" = none
  gS : mg "_law_state" = some (.ref fS)
  kS : PySem.W.keepIn K (.ref fS) = true
  FS : Fun K "_law_state" "_law_state" sState fS fdS
  bS : Binds K fdS ["script"] []
  gT : mg "_law_take" = some (.ref fT)
  kT : PySem.W.keepIn K (.ref fT) = true
  FT : Fun K "_law_take" "_law_take" sTake fT fdT
  bT : Binds K fdT ["state", "m"] []
  gL : mg "_law_enter" = some (.ref fLE)
  kL : PySem.W.keepIn K (.ref fLE) = true
  FL : Fun K "_law_enter" "_law_enter" sLEnter fLE fdLE
  bL : Binds K fdLE ["console", "line"] []
  mN : Meth K CC "names" fN
  FN : Fun K "names" "Console.names" sNames fN fdN
  bN : Binds K fdN ["self"] []
def spLaw (K : PySem.W.Frag) : Sp := fun vs H Q _ => ∃ (a : Addr) (ns : List Int), vs = [.ref a] ∧ SqL K H a (ns.map V.int) ∧ ∀ H', Q (.bl true) H'
theorem scLaw : FnScope ["script", "state", "console", "other", "line", "k", "kept", "text", "entry"] ["script"] (defScope sLaw) := ⟨rfl, rfl, rfl, by decide +kernel, rfl, by decide +kernel, by decide +kernel⟩
section
variable {CN fN fL CM CF fRd fC fF fRp fDf CR fR e0 CC f0 f1 f2 fE fS fT fLE fNm : Addr} {fdL fdRd fdC fdRp fdDf fdR fd0 fd1 fd2 fdE fdS fdT fdLE fdNm fd : FuncData} {f : Addr}
theorem ok_law (F : Fun K "law" "law" sLaw f fd) (T : TxtE P w K mg CN fN fL CM CF fRd fC fF fRp fDf fdL fdRd fdC fdRp fdDf) (TR : TxtR K mg CR fR e0 fdR) (TK : TxtK K mg CC f0 f1 f2 fd0 fd1 fd2) (TL : TxtL K mg CF CC fE fdE)
    (TF : TxtF K mg CC fS fT fLE fNm fdS fdT fdLE fdNm) (b1 : Binds K fd1 ["self"] []) (b2 : Binds K fd2 ["self"] []) : FnOk P w K mg base CX0 12 f fd ["script"] (spLaw K) := by
  have GS : FnOk P w K mg base CX0 1 fS fdS ["script"] (spState K) := ok_state TF.FS TF.s
  have GT : FnOk P w K mg base CX0 1 fT fdT ["state", "m"] spTake := ok_take TF.FT TF.s
  have GL : FnOk P w K mg base CX0 10 fLE fdLE ["console", "line"] (spLEnter CC) := ok_lenter TF.FL T TR TK TL
  have GI : FnOk P w K mg base CX0 1 f0 fd0 ["self", "most"] (spCInit CC) := ok_cinit TK
  have GN : FnOk P w K mg base CX0 1 fNm fdNm ["self"] (spNames CC) := ok_names TF.FN TK
  have G1 : FnOk P w K mg base CX0 1 f1 fd1 ["self"] (spLen CC) := ok_len TK
  have G2 : FnS P w K mg base 1 f2 fd2 ["self"] (spIt K CC) := ok_iter TK
  obtain ⟨ds, rd, bI⟩ := bindC0 TK
  refine F.ok scLaw (fun vs H Q E h => ?_) (fun cdv A outer s H vs Q E hr h => ?_)
  · obtain ⟨a, ns, rfl, _⟩ := h
    rfl
  · obtain ⟨a, ns, rfl, hS, q⟩ := h
    have hr10 : Room 10 _ := hr.mono (by decide)
    have hr2 : Room 2 _ := hr.mono (by decide)
    have hr1 : Room 1 _ := hr.mono (by decide)
    have hu := hr.units
    have hu1 : (A.deeper (envOfC "law" (defScope sLaw) s.heap.objs.size f cdv)).units < cLine := by omega
    refine ⟨_, pss_cons (ps_set (i := 1) scLaw.nd rfl (Or.inl rfl) (pe_call GS hr1 (by rfl) TF.gS TF.kS TF.bS .nil pass0 (pa_cons (pv 0) pa_nil)))
      (pss_cons (ps_par (i := 2) (j := 3) rfl scLaw.nd rfl rfl (by decide) rfl rfl (pa_cons (pe_make0 TK.make GI hr2 (by rfl) TK.gC bI rd pass0) (pa_cons (pe_make0 TK.make GI hr2 (by rfl) TK.gC bI rd pass0) pa_nil)) (by rfl))
      (pss_cons (ps_set (i := 4) scLaw.nd rfl (Or.inl rfl) (pe_ix ix_list (pe_lst (pa_cons pe_str (pa_cons pe_str (pa_cons pe_str (pa_cons pe_str pa_nil))))) (pe_call GT hr1 (by rfl) TF.gT TF.kT TF.bT .nil pass0 (pa_cons (pv 1) (pa_cons pe_int pa_nil))) (fun _ _ => rfl)))
      (pss_cons (ps_for PassesOwn.never rfl (pi_range1 (by rfl) TF.range (pa_cons pe_int pa_nil)) (pg_name (i := 5) scLaw.nd rfl (Or.inl rfl))
        (pss_one (ps_if (pt_cmpR op_ne (pe_call GL hr10 (by rfl) TF.gL TF.kL TF.bL .nil pass0 (pa_cons (pv 2) (pa_cons (pv 4) pa_nil))) pe_str (nomark _)) pss_never pss_nil)))
      (pss_cons (ps_setLc (i := 6) (own := [("entry", 8)]) (g := gName 8) rfl scLaw.nd rfl rfl (sw_true rfl rfl rfl (by decide +kernel))
          (pi_own (pv 2) TK.hi TK.ii G2 hr1 b2) (blkOk_by (own := [("entry", 8)]) (N := ["script", "state", "console", "other", "line", "k", "kept", "text", "entry"]) (sc := defScope sLaw) (by decide +kernel))
          (fun _ _ _ _ _ => pg_name (i := 8) scLaw.nd rfl (Or.inl rfl)) (fun _ _ _ _ _ => pts_nil) (fun _ _ _ _ _ => pv 8))
      (pss_cons (ps_for PassesOwn.never rfl (pi_list (pe_lst (pa_cons (pv 4) (pa_cons pe_str (pa_cons pe_str (pa_cons pe_str pa_nil)))))) (pg_name (i := 7) scLaw.nd rfl (Or.inl rfl))
        (pss_one (ps_if (pt_cmpR op_ne (pe_call GL hr10 (by rfl) TF.gL TF.kL TF.bL .nil pass0 (pa_cons (pv 2) (pa_cons (pv 7) pa_nil))) pe_str (nomark _)) pss_never pss_nil)))
      (pss_cons (ps_if (PW.pt (pw_or (pt_cmpR op_ne (pe_callB (call_lenO TK.hl TK.il G1 hr2 b1) (by rfl) TK.len PySem.boot_len (pa_cons (pv 2) pa_nil)) pe_int (nomark _))
          (pw_or (pt_cmpR (op_neSame hu1) (pe_lc (own := [("entry", 8)]) (g := gName 8) rfl scLaw.nd (pi_own (pv 2) TK.hi TK.ii G2 hr1 b2) (blkOk_by (own := [("entry", 8)]) (N := ["script", "state", "console", "other", "line", "k", "kept", "text", "entry"]) (sc := defScope sLaw) (by decide +kernel))
              (fun _ _ _ _ _ => pg_name (i := 8) scLaw.nd rfl (Or.inl rfl)) (fun _ _ _ _ _ => pts_nil) (fun _ _ _ _ _ => pv 8)) (pv 6) (nomark _))
          (pw_or1 (pt_cmpR op_ne (pe_callB call_len_seq (by rfl) TK.len PySem.boot_len (pa_cons (pv 6) pa_nil)) pe_int (nomark _)))))) pss_never pss_nil)
      (pss_cons (ps_if (PW.pt (pw_or (pt_cmpR (op_ne_dictA hu1) (pe_meth0 (pv 2) TK.cl TF.mN GN hr1 TF.bN .nil pass0) pe_dnewK (nomark _))
          (pw_or (pt_cmpR op_ne (pe_callB (call_lenO TK.hl TK.il G1 hr2 b1) (by rfl) TK.len PySem.boot_len (pa_cons (pv 3) pa_nil)) pe_int (nomark _))
          (pw_or1 (pt_cmpR (op_neSame hu1) (pe_lc (own := [("entry", 8)]) (g := gName 8) rfl scLaw.nd (pi_own (pv 3) TK.hi TK.ii G2 hr1 b2) (blkOk_by (own := [("entry", 8)]) (N := ["script", "state", "console", "other", "line", "k", "kept", "text", "entry"]) (sc := defScope sLaw) (by decide +kernel))
              (fun _ _ _ _ _ => pg_name (i := 8) scLaw.nd rfl (Or.inl rfl)) (fun _ _ _ _ _ => pts_nil) (fun _ _ _ _ _ => pv 8)) (pe_lst pa_nil) (nomark _)))))) pss_never pss_nil)
      (pss_one (ps_ret (pe_and (pe_cmpR op_eq (pe_call GL hr10 (by rfl) TF.gL TF.kL TF.bL .nil pass0 (pa_cons (pv 3) (pa_cons (pv 4) pa_nil))) pe_str (nomark _))
          (pe_and (pe_cmpR op_eq (pe_callB (call_lenO TK.hl TK.il G1 hr2 b1) (by rfl) TK.len PySem.boot_len (pa_cons (pv 3) pa_nil)) pe_int (nomark _))
          (pe_one (pe_cmpR op_eq (pe_callB (call_lenO TK.hl TK.il G1 hr2 b1) (by rfl) TK.len PySem.boot_len (pa_cons (pv 2) pa_nil)) pe_int (nomark _)))))))))))))), ?_⟩
    refine ⟨_, rfl, a, ns, rfl, hS, fun H1 p s1 hp => ?_⟩
    -- two consoles
    intro x1 dx1 nx1 ndx1 ne1
    refine ⟨x1, dx1, rfl, upd_same, fun H2 m1 l1 nm1 nl1 _ k1 c1 => ⟨rfl, ?_⟩⟩
    intro x2 dx2 nx2 ndx2 ne2
    refine ⟨x2, dx2, rfl, upd_same, fun H3 m2 l2 nm2 nl2 _ k2 c2 => ⟨rfl, ?_⟩⟩
    have s12 : Same H1 H2 := fun b o e => by
      refine k1 b o (ne_of_none e nx1) ?_
      rw [upd_ne (ne_of_none e nx1), upd_ne (ne_of_none e ndx1)]
      exact e
    have s23 : Same H2 H3 := fun b o e => by
      refine k2 b o (ne_of_none e nx2) ?_
      rw [upd_ne (ne_of_none e nx2), upd_ne (ne_of_none e ndx2)]
      exact e
    have ne : l1 ≠ l2 := fun e => by
      have h := c1.l
      rw [e] at h
      rw [upd_ne (ne_of_none h nx2), upd_ne (ne_of_none h ndx2)] at nl2
      rw [h] at nl2
      cases nl2
    have c1 := c1.same s23
    have hp : StAt H3 p := by
      obtain ⟨u, v, e⟩ := hp
      exact ⟨u, v, s23 _ _ (s12 _ _ e)⟩
    clear k1 k2 s12 s23 nx1 nx2 ndx1 ndx2 ne1 ne2 nm1 nl1 nm2 nl2
    refine ⟨_, _, rfl, ?_⟩
    -- the line
    refine ⟨(by show 4 ≤ sizeLine; decide), fun q1 nq => ?_⟩
    have sq : Same H3 (upd H3 q1 (.lst [.str "", .str "# a", .str "  ", .str "?"])) := same_upd nq
    have hp' : StAt (upd H3 q1 (.lst [.str "", .str "# a", .str "  ", .str "?"])) p := by
      obtain ⟨u, v, e⟩ := hp
      exact ⟨u, v, sq _ _ e⟩
    obtain ⟨u0, w0, ep⟩ := hp
    have nqp : q1 ≠ p := (ne_of_none ep nq).symm
    refine ⟨_, rfl, p, 4, rfl, by decide, by decide, hp', fun H4 v v0 v4 k4 _ => ?_⟩
    have hz : ∃ z, atI [V.str "", .str "# a", .str "  ", .str "?"] v = some (V.str z) ∧ Line z := by
      have h : v = ((0 : Nat) : Int) ∨ v = ((1 : Nat) : Int) ∨ v = ((2 : Nat) : Int) ∨ v = ((3 : Nat) : Int) := by omega
      rcases h with rfl | rfl | rfl | rfl
      · exact ⟨_, atI_nat rfl, .inl (.inl rfl)⟩
      · exact ⟨_, atI_nat rfl, .inl (.inr (.inl rfl))⟩
      · exact ⟨_, atI_nat rfl, .inl (.inr (.inr rfl))⟩
      · exact ⟨_, atI_nat rfl, .inr rfl⟩
    obtain ⟨z, ez, hz⟩ := hz
    have offp : ∀ {CC a dx n l : Addr}, CoAt CC H3 a dx n l [] → CoAt CC H4 a dx n l [] := fun c =>
      ⟨k4 _ _ (ne_of c.i ep (by intro q; cases q)) (sq _ _ c.i), k4 _ _ (ne_of c.n ep (by intro q; cases q)) (sq _ _ c.n), k4 _ _ (ne_of c.l ep (by intro q; cases q)) (sq _ _ c.l)⟩
    have c1 := offp c1
    have c2 := offp c2
    refine ⟨q1, _, _, _, rfl, rfl, SqL.of (k4 _ _ nqp upd_same), ez, ?_⟩
    -- 300 lines
    refine ⟨300, rfl, (by decide), (by decide), for_range (lo := 0) (n := 300) (fun i σ H' => ∃ (cs : List Addr) (v : Option V), cs.length = i ∧ σ = [some (.ref a), some (.ref p), some (.ref x1), some (.ref x2), some (.str z), v, none, none, none] ∧ CoAt CC H' x1 dx1 m1 l1 (cs.map V.ref) ∧ CoAt CC H' x2 dx2 m2 l2 [])
      ⟨[], none, rfl, rfl, c1, c2⟩ ?_ ?_⟩
    · rintro i σ H5 hi ⟨cs, v, hcs, rfl, c1, c2⟩
      refine ⟨_, rfl, _, rfl, x1, dx1, m1, l1, cs, z, rfl, c1, .inl ⟨by omega, hz, fun H6 t k6 c6 => ?_⟩⟩
      refine ⟨rfl, _, rfl, ?_⟩
      rw [show (!decide (V.str "none" = V.str "none")) = false by decide +kernel]
      refine iteF ?_
      exact ⟨cs ++ [t], _, by rw [List.length_append, hcs]; rfl, rfl, c6, c2.off c1.l (Ne.symm ne) k6⟩
    rintro σ H5 ⟨cs, v, hcs, rfl, c1, c2⟩
    -- the copy
    dsimp only [tSeq, tAsg]
    refine copy_own (k := 2) rfl c1 (by omega) fun D H6 s6 hD nD => ?_
    have c1 := c1.same s6
    have c2 := c2.same s6
    -- four more lines
    refine ⟨_, rfl, (by show 4 ≤ sizeLine; decide), fun t nt => ?_⟩
    have s7 : Same H6 (upd H6 t (.lst [.str z, .str "", .str "# b", .str "?"])) := same_upd nt
    refine ⟨t, rfl, ⟨_, SqL.of upd_same⟩, for_list (K := K) (a := t) (xs := [.str z, .str "", .str "# b", .str "?"]) (fun i σ H' => Same (upd H6 t (.lst [.str z, .str "", .str "# b", .str "?"])) H' ∧ ∃ (v' : Option V), σ = [some (.ref a), some (.ref p), some (.ref x1), some (.ref x2), some (.str z), v, some (.ref D), v', none])
      ⟨Same.refl _, none, rfl⟩ (fun i σ H' _ hp => hp.1.seq (SqL.of upd_same)) ?_ ?_⟩
    · rintro i x σ H7 hi ⟨sm, v', rfl⟩
      obtain ⟨y, rfl⟩ : ∃ y, x = V.str y := by
        have h : x ∈ [V.str z, .str "", .str "# b", .str "?"] := List.mem_of_getElem? hi
        simp only [List.mem_cons, List.not_mem_nil, or_false] at h
        rcases h with h | h | h | h <;> exact ⟨_, h⟩
      refine ⟨_, rfl, _, rfl, x1, dx1, m1, l1, cs, y, rfl, (c1.same s7).same sm, .inr ⟨hcs, fun H8 s8 => ?_⟩⟩
      refine ⟨rfl, _, rfl, ?_⟩
      rw [show (!decide (V.str "lines" = V.str "lines")) = false by decide +kernel]
      refine iteF ?_
      exact ⟨sm.trans s8, _, rfl⟩
    rintro σ H7 ⟨sm, v', rfl⟩
    have c1 := (c1.same s7).same sm
    have c2 := (c2.same s7).same sm
    have hD := sm _ _ (s7 _ _ hD)
    have l300 : (((cs.map V.ref).length : Nat) : Int) = 300 := by rw [List.length_map, hcs]; rfl
    have n300 : (cs.map V.ref).length < 2 ^ 62 := by rw [List.length_map, hcs]; decide
    have noNm : ∀ n l : Addr, (cf n l).lookup ("names" : Str) = none := fun n l => cf_no _ _ (by decide +kernel) (by decide +kernel) (by decide +kernel)
    have no300 : (!decide (V.int (((cs.map V.ref).length : Nat) : Int) = V.int 300)) = false := by rw [l300]; simp
    dsimp only [tSeq, tIfS, tOr, tTest, tOp, tCB, tCons, tNil]
    refine ⟨_, rfl, x1, dx1, _, rfl, c1.i, x1, dx1, m1, l1, _, rfl, c1, _, rfl, n300, rfl, _, rfl, ?_⟩
    rw [no300]
    refine iteF ?_
    refine copy_own (k := 2) rfl c1 (by omega) fun D2 H8 s8 hD2 nD2 => ?_
    refine ⟨_, rfl, D2, D, cs, rfl, rfl, SqL.of hD2, SqL.of (s8 _ _ hD), _, rfl, ?_⟩
    refine iteF ?_
    refine ⟨_, rfl, D, _, rfl, .inl (SqL.of (s8 _ _ hD)), rfl, _, rfl, ?_⟩
    rw [no300]
    refine iteF ?_
    have c1 := c1.same s8
    have c2 := c2.same s8
    -- the names, the other console
    refine ⟨_, rfl, x1, dx1, _, rfl, c1.i, noNm _ _, ?_⟩
    refine ⟨x1, dx1, m1, l1, _, rfl, c1, fun d1 nd1 => ?_⟩
    intro d2 nd2
    have s9 : Same H8 (upd (upd H8 d1 (.dK [])) d2 (.dK [])) := (same_upd nd1).trans (same_upd nd2)
    refine ⟨d1, d2, [], [], rfl, rfl, ?_, upd_same, rfl, (fun p hp => by cases hp), _, rfl, ?_⟩
    · rw [upd_ne (ne_of_none upd_same nd2)]
      exact upd_same
    refine iteF ?_
    have c1 := c1.same s9
    have c2 := c2.same s9
    refine ⟨_, rfl, x2, dx2, _, rfl, c2.i, x2, dx2, m2, l2, _, rfl, c2, 0, rfl, by decide, rfl, _, rfl, ?_⟩
    rw [show (!decide (V.int ((0 : Nat) : Int) = V.int 0)) = false by decide +kernel]
    refine iteF ?_
    dsimp only [tTest, tOp]
    refine copy_own (k := 3) (cs := []) rfl c2 (by decide) fun D3 H9 s10 hD3 nD3 => ?_
    refine ⟨Nat.zero_le _, fun e1 ne1 => ?_⟩
    refine ⟨D3, e1, [], rfl, rfl, SqL.of ((same_upd ne1) _ _ hD3), SqL.of upd_same, _, rfl, ?_⟩
    refine iteF ?_
    have s11 := s10.trans (same_upd (p := e1) (o := .lst []) ne1)
    have c1 := c1.same s11
    have c2 := c2.same s11
    -- the last line
    refine ⟨_, rfl, _, rfl, x2, dx2, m2, l2, [], z, rfl, c2, .inl ⟨by decide, hz, fun H10 t2 k10 c3 => ?_⟩⟩
    have c1 := c1.off c2.l ne k10
    refine ⟨rfl, _, rfl, ?_⟩
    rw [show decide (V.str "none" = V.str "none") = true by decide +kernel]
    refine iteT ?_
    refine ⟨_, rfl, x2, dx2, _, rfl, c3.i, x2, dx2, m2, l2, _, rfl, c3, 1, rfl, by decide, rfl, _, rfl, ?_⟩
    rw [show decide (V.int ((1 : Nat) : Int) = V.int 1) = true by decide +kernel]
    refine iteT ?_
    refine ⟨_, rfl, x1, dx1, _, rfl, c1.i, x1, dx1, m1, l1, _, rfl, c1, _, rfl, n300, rfl, ?_⟩
    rw [show decide (V.int (((cs.map V.ref).length : Nat) : Int) = V.int 300) = true by rw [l300]; simp]
    exact q _
end
end
end K98
set_option Elab.async false
set_option linter.all false
set_option maxRecDepth 100000
set_option maxHeartbeats 2000000
/-! a Hook that tells facts by names: what some names reach, the statics, tables, own errors' __init__, one Bool more -/
namespace SR.Hd
open PySem PySem.Spec PyProof.Rows L2 He
/-! ### the part looked at -/
def growN (g : Addr → Option Obj) : Nat → List Addr → List Addr
  | 0, as => as
  | n + 1, as => growN g n (growD g as)
def asZ (g : Addr → Option Obj) (ns : List Str) (n : Nat) : List Addr := mainGlobals :: cStatics :: growN g n (ns.map (ga (frG g [mainGlobals])))
/-! ### an own error's __init__ that calls super().__init__ -/
abbrev SupV : Type := Option (Str × Str × Arguments × FuncBody × Scope × Addr × Addr)
def supW (K : PySem.W.Frag) (C : Str) : SupV := match K.lookup (ma K (ga K C) "__init__") with
  | some ⟨_, _, .func fd, _⟩ => some (fd.name, fd.qualname, fd.params, fd.body, fd.scope, fd.globals, fd.builtins)
  | _ => none
def cellB (K : PySem.W.Frag) (cc c : Addr) : Bool := match K.lookup cc with
  | some ⟨_, _, .cell (some (.ref d)), _⟩ => decide (d = c)
  | _ => false
theorem cellB_ok {K : PySem.W.Frag} {cc c : Addr} (h : cellB K cc c = true) : ∃ cl cld csl, K.lookup cc = some ⟨cl, cld, .cell (some (.ref c)), csl⟩ := by
  unfold cellB at h
  split at h
  · rename_i cl cld d csl hcc
    have ec : d = c := of_decide_eq_true h
    subst ec
    exact ⟨_, _, _, hcc⟩
  · cases h
def strB (o : Option Value) (file : Str) : Bool := match o with
  | some (.str f _) => decide (f = file)
  | _ => false
theorem strB_ok {o : Option Value} {file : Str} (h : strB o file = true) : ∃ tf, o = some (.str file tf) := by
  unfold strB at h
  split at h
  · rename_i f tf
    have ef : f = file := of_decide_eq_true h
    subst ef
    exact ⟨_, rfl⟩
  · cases h
def fileB (K : PySem.W.Frag) (cda : Addr) (file : Str) : Bool := match K.lookup cda with
  | some ⟨_, _, .fields vs, _⟩ => strB vs[2]? file
  | _ => false
theorem fileB_ok {K : PySem.W.Frag} {cda : Addr} {file : Str} (h : fileB K cda file = true) : ∃ ccl cdd vs ccs tf, K.lookup cda = some ⟨ccl, cdd, .fields vs, ccs⟩ ∧ vs[2]? = some (.str file tf) := by
  unfold fileB at h
  split at h
  · rename_i ccl cdd vs ccs hcd
    obtain ⟨tf, e⟩ := strB_ok h
    exact ⟨_, _, _, _, _, hcd, e⟩
  · cases h
def supFd (K : PySem.W.Frag) (C q file : Str) (fd : FuncData) : Bool := match fd.closure, fd.defaults, fd.kwdefaults, fd.code with
    | [(n, cc)], .none, .none, .ref cda => decide (n = ("__class__" : Str)) && (cellB K cc (ga K C) && (PySem.W.codeIn K (.ref cda) q && fileB K cda file))
    | _, _, _, _ => false
theorem supFd_ok {K : PySem.W.Frag} {C q file : Str} {fd : FuncData} (h : supFd K C q file fd = true) : ∃ cc cda, fd.closure = [(("__class__" : Str), cc)] ∧ fd.defaults = .none ∧ fd.kwdefaults = .none ∧ fd.code = .ref cda ∧ cellB K cc (ga K C) = true ∧ PySem.W.codeIn K (.ref cda) q = true ∧ fileB K cda file = true := by
  unfold supFd at h
  split at h
  · rename_i n cc cda e1 e2 e3 e4
    obtain ⟨a1, a2⟩ := ba h
    obtain ⟨a3, a4⟩ := ba a2
    obtain ⟨a5, a6⟩ := ba a4
    have en : n = ("__class__" : Str) := of_decide_eq_true a1
    subst en
    exact ⟨cc, cda, e1, e2, e3, e4, a3, a5, a6⟩
  · cases h
def supB (K : PySem.W.Frag) (C q file : Str) : Bool := match K.lookup (ma K (ga K C) "__init__") with
  | some ⟨_, _, .func fd, _⟩ => supFd K C q file fd
  | _ => false
theorem sup_fn {K : PySem.W.Frag} {C q file nm : Str} {params : Arguments} {body : List Stmt} {scope : Scope} (e : supW K C = (some (nm, q, params, FuncBody.stmts body, scope, mainGlobals, builtinsNs) : SupV)) (h : supB K C q file = true) :
    ∃ (oc : Value) (od : Option Addr) (doc pm : Value) (an : Option Addr) (cda cc : Addr) (ct : Value) (osl : Array (Option Value)) (ccl cl : Value) (cdd cld : Option Addr) (vs : Array Value) (ccs csl : Array (Option Value)) (tf : Tok),
    K.lookup (ma K (ga K C) "__init__") = some ⟨oc, od, .func (PySem.W.ksFn nm q params body scope .none .none doc pm an (.ref cda) ct cc), osl⟩ ∧ PySem.W.codeIn K (.ref cda) q = true ∧
    K.lookup cda = some ⟨ccl, cdd, .fields vs, ccs⟩ ∧ vs[2]? = some (.str file tf) ∧ K.lookup cc = some ⟨cl, cld, .cell (some (.ref (ga K C))), csl⟩ := by
  unfold supB at h
  unfold supW at e
  cases z : K.lookup (ma K (ga K C) "__init__") with
  | none => rw [z] at h; cases h
  | some o =>
    obtain ⟨oc, od, dt, osl⟩ := o
    rw [z] at h e
    cases dt with
    | func fd =>
      have h2 : supFd K C q file fd = true := h
      obtain ⟨cc, cda, e1, e2, e3, e4, a3, a5, a6⟩ := supFd_ok h2
      obtain ⟨n1, n2, n3, n4, n5, n6, n7, n8, n9, n10, n11, n12, n13, n14, n15⟩ := fd
      have e5 : (some (n1, n2, n3, n4, n5, n6, n15) : SupV) = some (nm, q, params, .stmts body, scope, mainGlobals, builtinsNs) := e
      simp only [Option.some.injEq, Prod.mk.injEq] at e5
      obtain ⟨h1, h2, h3, h4, h5, h6, h7⟩ := e5
      dsimp only at e1 e2 e3 e4
      subst h1 h2 h3 h4 h5 h6 h7 e1 e2 e3 e4
      obtain ⟨cl, cld, csl, hcc⟩ := cellB_ok a3
      obtain ⟨ccl, cdd, vs, ccs, tf, hcd, hvs⟩ := fileB_ok a6
      exact ⟨oc, od, _, _, _, cda, cc, _, osl, ccl, cl, cdd, cld, vs, ccs, csl, tf, rfl, a5, hcd, hvs, hcc⟩
    | _ => cases h
/-! ### an own error's class -/
def clsB (K : PySem.W.Frag) (C : Addr) : Bool := match K.lookup C with
  | some ⟨.type "type", _, .cls cd, sl⟩ => (match cd.mro, sl.toList with
    | .ref C' :: bm, [_, _, _, _, some (.builtin n), _] => C' == C && (n == "ValueError.__new__" && (!cd.hasDel && (cd.hasDict && PySem.HandSPX.refsVE bm)))
    | _, _ => false)
  | _ => false
theorem clsB_ok {K : PySem.W.Frag} {C : Addr} (h : clsB K C = true) : ∃ nm q N bs bm sn sub ab col dd k0 k1 k2 k3 k5, K.lookup C = some (excClassObj nm q C N bs bm true sn sub ab col dd k0 k1 k2 k3 k5 "ValueError.__new__") ∧ PySem.HandSPX.refsVE bm = true := by
  unfold clsB at h
  split at h
  · rename_i dd cd sl ho
    split at h
    · rename_i C' bm k0 k1 k2 k3 n k5 hm hs
      simp only [Bool.and_eq_true, beq_iff_eq, Bool.not_eq_true'] at h
      obtain ⟨rfl, rfl, hdel, hd, hr⟩ := h
      obtain ⟨nm, bs, mro, ns, qn, hd', sn, sub, ab, col, del⟩ := cd
      dsimp only at hm hdel hd
      subst hm hdel hd
      have hsl : sl = #[k0, k1, k2, k3, some (.builtin "ValueError.__new__"), k5] := by
        obtain ⟨l⟩ := sl
        simp only at hs
        rw [hs]
      subst hsl
      exact ⟨nm, qn, ns, bs, bm, sn, sub, ab, col, dd, k0, k1, k2, k3, k5, ho, hr⟩
    · cases h
  · cases h
/-- what is asked of an own error besides -/
def supMore (K : PySem.W.Frag) (C f : Str) : Bool := clsB K (ga K C) && (eqO (PySem.W.findIn K (.ref (ga K C)) "__setattr__") (some (some (.builtin "object.__setattr__"))) && (eqO (PySem.W.findIn K (.ref (ga K C)) f) (some none) &&
  (eqO (PySem.W.findIn K (.ref (ga K C)) "__init__") (some (some (.ref (ma K (ga K C) "__init__")))) && (decide (PySem.W.typeIn K (.ref (ma K (ga K C) "__init__")) = some (.type "function")) && (PySem.W.keepIn K (.ref (ga K C)) &&
  (decide (PySem.W.subIn K (.ref (ga K C)) (.type "BaseException") = some true) && (decide (PySem.W.subIn K (.ref (ga K C)) (.type "ValueError") = some true) && (decide (PySem.W.mroIn K (ga K C) (.ref (ga K C)) = some true) &&
  (decide (PySem.W.typeIn K (.ref (ga K C)) = some (.type "type")) && (eqO (PySem.W.ks_superIn K (ga K C) (ga K C) "__init__") (some (some (.builtin "ValueError.__init__"))) && eqO (PySem.W.nsIn K cStatics "thirdparty.any") (some none)))))))))))
section
variable {P : Program} {K : PySem.W.Frag} {mg : Str → Option Value}
theorem refused_txt {p1 p2 q1 q2 q4 q6 r1 r2 r3 r4 : Pos} (gC : mg "Refused" = some (.ref (ga K "Refused"))) (gS : mg "super" = none) (h : supMore K "Refused" "reason" = true) (top : (P.main.scope.names.lookup ("super" : Str)).isSome = false)
    (e : supW K "Refused" = (some ("__init__", "Refused.__init__", SupRefused.iA p1 p2, FuncBody.stmts (SupRefused.iB q1 q2 q4 q6 r1 r2 r3 r4), SupRefused.iS, mainGlobals, builtinsNs) : SupV)) (b : supB K "Refused" "Refused.__init__" P.main.file = true) :
    SupRefused.Txt P K mg (ga K "Refused") (ma K (ga K "Refused") "__init__") := by
  obtain ⟨a1, h⟩ := ba h
  obtain ⟨a2, h⟩ := ba h
  obtain ⟨a3, h⟩ := ba h
  obtain ⟨a4, h⟩ := ba h
  obtain ⟨a5, h⟩ := ba h
  obtain ⟨a6, h⟩ := ba h
  obtain ⟨a7, h⟩ := ba h
  obtain ⟨a8, h⟩ := ba h
  obtain ⟨a9, h⟩ := ba h
  obtain ⟨a10, h⟩ := ba h
  obtain ⟨a11, a12⟩ := ba h
  obtain ⟨oc, od, doc, pm, an, cda, cc, ct, osl, ccl, cl, cdd, cld, vs, ccs, csl, tf, z1, z2, z3, z4, z5⟩ := sup_fn e b
  exact ⟨gC, gS, clsB_ok a1, eqO_ok a2, eqO_ok a3, eqO_ok a4, of_decide_eq_true a5, a6, of_decide_eq_true a7, of_decide_eq_true a8, of_decide_eq_true a9, of_decide_eq_true a10, eqO_ok a11, eqO_ok a12, top,
    ⟨oc, od, doc, pm, an, cda, cc, ct, osl, p1, p2, q1, q2, q4, q6, r1, r2, r3, r4, ccl, cl, cdd, cld, vs, ccs, csl, P.main.file, tf, z1, z2, z3, z4, beq_self_eq_true _, z5⟩⟩
theorem notext_txt {p1 p2 q1 q2 q4 q6 r1 r2 r3 r4 : Pos} (gC : mg "NoText" = some (.ref (ga K "NoText"))) (gS : mg "super" = none) (h : supMore K "NoText" "at" = true) (top : (P.main.scope.names.lookup ("super" : Str)).isSome = false)
    (e : supW K "NoText" = (some ("__init__", "NoText.__init__", SupNoText.iA p1 p2, FuncBody.stmts (SupNoText.iB q1 q2 q4 q6 r1 r2 r3 r4), SupNoText.iS, mainGlobals, builtinsNs) : SupV)) (b : supB K "NoText" "NoText.__init__" P.main.file = true) :
    SupNoText.Txt P K mg (ga K "NoText") (ma K (ga K "NoText") "__init__") := by
  obtain ⟨a1, h⟩ := ba h
  obtain ⟨a2, h⟩ := ba h
  obtain ⟨a3, h⟩ := ba h
  obtain ⟨a4, h⟩ := ba h
  obtain ⟨a5, h⟩ := ba h
  obtain ⟨a6, h⟩ := ba h
  obtain ⟨a7, h⟩ := ba h
  obtain ⟨a8, h⟩ := ba h
  obtain ⟨a9, h⟩ := ba h
  obtain ⟨a10, h⟩ := ba h
  obtain ⟨a11, a12⟩ := ba h
  obtain ⟨oc, od, doc, pm, an, cda, cc, ct, osl, ccl, cl, cdd, cld, vs, ccs, csl, tf, z1, z2, z3, z4, z5⟩ := sup_fn e b
  exact ⟨gC, gS, clsB_ok a1, eqO_ok a2, eqO_ok a3, eqO_ok a4, of_decide_eq_true a5, a6, of_decide_eq_true a7, of_decide_eq_true a8, of_decide_eq_true a9, of_decide_eq_true a10, eqO_ok a11, eqO_ok a12, top,
    ⟨oc, od, doc, pm, an, cda, cc, ct, osl, p1, p2, q1, q2, q4, q6, r1, r2, r3, r4, ccl, cl, cdd, cld, vs, ccs, csl, P.main.file, tf, z1, z2, z3, z4, beq_self_eq_true _, z5⟩⟩
end
/-! ### the Hook -/
abbrev AlZ : Type := AlT × (List SupV × Bool)
def obsZ (ns : List Str) (n : Nat) (fa : List Fa) (fn : List DefD) (ts : List Tab) (su : List Str) (ex : PySem.W.Frag → Bool) (g : Addr → Option Obj) : AlZ := (obsT fa fn ts (frG g (asZ g ns n)), (su.map (supW (frG g (asZ g ns n))), ex (frG g (asZ g ns n))))
def valZ (fn : List DefD) (ts : List Tab) (sv : List SupV) (w : World) : AlZ := (valT fn ts w, (sv, true))
structure SaysZ (fa : List Fa) (fn : List DefD) (ts : List Tab) (su : List Str) (sv : List SupV) (ex : PySem.W.Frag → Bool) (w : World) (K : PySem.W.Frag) : Prop where
  t : SaysT fa fn ts w K
  s : su.map (supW K) = sv
  x : ex K = true
def hookZ (ns : List Str) (n : Nat) (fa : List Fa) (fn : List DefD) (ts : List Tab) (su : List Str) (sv : List SupV) (ex : PySem.W.Frag → Bool) : PySem.W.Hook where
  α := AlZ
  obs := fun s => obsZ ns n fa fn ts su ex s.heap.get?
  val := fun w => valZ fn ts sv w
  says := fun w h => ∃ K : PySem.W.Frag, K.In h ∧ SaysZ fa fn ts su sv ex w K
  of := fun _ _ e => ⟨_, frG_in, congrArg (fun z : AlZ => z.1) e, congrArg (fun z : AlZ => z.2.1) e, congrArg (fun z : AlZ => z.2.2) e⟩
  keeps := fun _ _ _ ⟨K, hK, c⟩ k => ⟨K, PySem.W.Frag.In.keeps hK k, c⟩
theorem obsZ_eq {ns : List Str} {n : Nat} {fa : List Fa} {fn : List DefD} {ts : List Tab} {su : List Str} {sv : List SupV} {ex : PySem.W.Frag → Bool} {g : Addr → Option Obj} {s : Shared} (h : ∀ a, g a = s.heap.get? a) : obsZ ns n fa fn ts su ex g = (hookZ ns n fa fn ts su sv ex).obs s := by
  have e : g = s.heap.get? := funext h
  rw [e] <;> rfl
end SR.Hd
set_option Elab.async false
set_option linter.all false
set_option maxRecDepth 100000
set_option maxHeartbeats 4000000
namespace K98
open PySem PySem.Spec PyProof.Rows L2 ItX SR He SR.Hd
/-! ### the head: facts by names -/
abbrev dOf (at_ : Str × Option Str) (qual : Str) (name : Str) (st : Stmt) : DefD := ⟨at_, name, qual, defArgs st, defBody st, defScope st, [], []⟩
def dIsLine : DefD := dOf ("is_line", none) "is_line" "is_line" sIsLine
def dRead : DefD := dOf ("read_line", none) "read_line" "read_line" sRead
def dRInit : DefD := ⟨("Reply", some "__init__"), "__init__", "Reply.__init__", defArgs sRInit, defBody sRInit, defScope sRInit, [.str "", .adr (dflAt ("Reply", some "__init__") 1)], []⟩
def dCarried : DefD := dOf ("carried_out", none) "carried_out" "carried_out" sCarried
def dReply : DefD := dOf ("reply_to", none) "reply_to" "reply_to" sReply
def dDefd : DefD := dOf ("defined", none) "defined" "defined" sDefd
def dCInit : DefD := ⟨("Console", some "__init__"), "__init__", "Console.__init__", defArgs sCInit, defBody sCInit, defScope sCInit, [], [("most", .int 300)]⟩
def dLen : DefD := dOf ("Console", some "__len__") "Console.__len__" "__len__" sLen
def dIter : DefD := dOf ("Console", some "__iter__") "Console.__iter__" "__iter__" sIter
def dEnter : DefD := dOf ("Console", some "enter") "Console.enter" "enter" sEnter
def dNames : DefD := dOf ("Console", some "names") "Console.names" "names" sNames
def dState : DefD := dOf ("_law_state", none) "_law_state" "_law_state" sState
def dTake : DefD := dOf ("_law_take", none) "_law_take" "_law_take" sTake
def dLEnter : DefD := dOf ("_law_enter", none) "_law_enter" "_law_enter" sLEnter
def dLaw : DefD := dOf ("law", none) "law" "law" sLaw
def hfn : List DefD := [dIsLine, dRead, dRInit, dCarried, dReply, dDefd, dCInit, dLen, dIter, dEnter, dNames, dState, dTake, dLEnter, dLaw]
def hnames : List Str := ["Refused", "NoText", "Malformed", "is_line", "read_line", "SHAPES", "Reply", "carried_out", "MAKING", "Console", "reply_to", "defined", "_law_state", "_law_take", "_law_enter", "law"]
def hfa : List Fa := [.glo "Refused", .glo "NoText", .glo "Malformed", .glo "is_line", .glo "read_line", .glo "SHAPES", .glo "Reply", .glo "carried_out", .glo "MAKING", .glo "Console", .glo "reply_to", .glo "defined", .glo "_law_state", .glo "_law_take", .glo "_law_enter", .glo "law"] ++
  [.free "super", .free "isinstance", .free "str", .free "len", .free "ord", .free "iter", .free "dict", .free "abs", .free "int", .free "range"] ++
  [.int "MOST_SIGNS_sheet" 2000, .cls "Reply", .noat "Reply" "kind", .noat "Reply" "text", .noat "Reply" "data", .mkr "Reply"] ++
  [.cls "Console", .noat "Console" "_most", .noat "Console" "_names", .noat "Console" "_entries", .mkr "Console", .meth "Console" "__len__", .meth "Console" "__iter__", .meth "Console" "enter", .meth "Console" "names", .exm "NoText" "NoText" true, .exm "Refused" "Refused" true]
def hts : List Tab := [(fun K => ga K "SHAPES", ["scaled", "added", "greater", "product", "linked", "show", "tree", "ultra", "cuts", "euclid", "isometric", "splits", "radius", "diameter", "hyperbolicity"])]
def hsu : List Str := ["Refused", "NoText"]
def mk : List Dv := [.str "let", .str "scaled", .str "added", .str "greater", .str "product", .str "linked"]
def hex (file : Str) (K : PySem.W.Frag) : Bool := supMore K "Refused" "reason" && (supB K "Refused" "Refused.__init__" file && (supMore K "NoText" "at" && (supB K "NoText" "NoText.__init__" file &&
  (decide (PySem.W.exmAny K (.ref (ga K "NoText")) [.ref (ga K "NoText"), .ref (ga K "Malformed"), .ref (ga K "Refused")] = some true) && (decide (PySem.W.nsIn K (ga K "SHAPES") "?" = some none) && (tupB K "MAKING" mk && xfB K (ga K "Refused")))))))
abbrev sFInit : Stmt := inClass (top 6) 0
abbrev sNInit : Stmt := inClass (top 7) 0
def hsv : List SupV := [some ("__init__", "Refused.__init__", defArgs sFInit, FuncBody.stmts (defBody sFInit), defScope sFInit, mainGlobals, builtinsNs), some ("__init__", "NoText.__init__", defArgs sNInit, FuncBody.stmts (defBody sNInit), defScope sNInit, mainGlobals, builtinsNs)]
abbrev lw : PySem.W.OpenLaw := PySem.Challenge.rw_spaceroads_k98_lines_as_many_as_told
theorem facts {w : World} {K : PySem.W.Frag} {h : Heap} {mg : Str → Option Value} {f : Addr} (X : K.In h) (G : h.Ns mainGlobals mg) (hfa' : mg ("law" : Str) = some (.ref f)) (c : SaysZ hfa hfn hts hsu hsv (hex lw.prog.main.file) w K) :
    ∃ fd : FuncData, (∀ (s : Shared) (v : Value), BindsTo s fd ⟨[v], []⟩ [("script", v)]) ∧ ∀ base : Heap, K.In base → base.Ns mainGlobals mg → FnOk lw.prog w K mg base CX0 12 f fd ["script"] (spLaw K) := by
  have d := c.t.d
  have fact : ∀ {x : Fa} (i : Nat), hfa[i]? = some x → x.ok K = true := fun {x} i e => d.fact i e
  have glo : ∀ {x : Str} (i : Nat), hfa[i]? = some (.glo x) → mg x = some (.ref (ga K x)) := fun i e => glo_ok X G (d.fact i e)
  have free : ∀ {x : Str} (i : Nat), hfa[i]? = some (.free x) → mg x = none := fun i e => free_ok X G (d.fact i e)
  obtain ⟨x1, hx⟩ := ba (show hex lw.prog.main.file K = true from c.x)
  obtain ⟨x2, hx⟩ := ba hx
  obtain ⟨x3, hx⟩ := ba hx
  obtain ⟨x4, hx⟩ := ba hx
  obtain ⟨x5, hx⟩ := ba hx
  obtain ⟨x6, hx⟩ := ba hx
  obtain ⟨x7, x8⟩ := ba hx
  have s0 : supW K "Refused" = _ := congrArg (fun l : List SupV => l.getD 0 none) c.s
  have s1 : supW K "NoText" = _ := congrArg (fun l : List SupV => l.getD 1 none) c.s
  have tF : SupRefused.Txt lw.prog K mg (ga K "Refused") (ma K (ga K "Refused") "__init__") := refused_txt (glo 0 rfl) (free 16 rfl) x1 (by decide +kernel) s0 x2
  have tN : SupNoText.Txt lw.prog K mg (ga K "NoText") (ma K (ga K "NoText") "__init__") := notext_txt (glo 1 rfl) (free 16 rfl) x3 (by decide +kernel) s1 x4
  obtain ⟨fd0, D0⟩ := d.def_ 0 (d := dIsLine) rfl
  obtain ⟨fd1, D1⟩ := d.def_ 1 (d := dRead) rfl
  obtain ⟨fd2, D2⟩ := d.def_ 2 (d := dRInit) rfl
  obtain ⟨fd3, D3⟩ := d.def_ 3 (d := dCarried) rfl
  obtain ⟨fd4, D4⟩ := d.def_ 4 (d := dReply) rfl
  obtain ⟨fd5, D5⟩ := d.def_ 5 (d := dDefd) rfl
  obtain ⟨fd6, D6⟩ := d.def_ 6 (d := dCInit) rfl
  obtain ⟨fd7, D7⟩ := d.def_ 7 (d := dLen) rfl
  obtain ⟨fd8, D8⟩ := d.def_ 8 (d := dIter) rfl
  obtain ⟨fd9, D9⟩ := d.def_ 9 (d := dEnter) rfl
  obtain ⟨fd10, D10⟩ := d.def_ 10 (d := dNames) rfl
  obtain ⟨fd11, D11⟩ := d.def_ 11 (d := dState) rfl
  obtain ⟨fd12, D12⟩ := d.def_ 12 (d := dTake) rfl
  obtain ⟨fd13, D13⟩ := d.def_ 13 (d := dLEnter) rfl
  obtain ⟨fd14, D14⟩ := d.def_ 14 (d := dLaw) rfl
  have Fu : ∀ {x qual : Str} {st : Stmt} {kws : List (Str × V)} {f : Addr} {fd : FuncData}, FunD K x qual (defArgs st) (defBody st) (defScope st) [] kws f fd → Fun K x qual st f fd := fun F => by
    obtain ⟨oc, od, dV, kV, doc, pm, an, cdv, ct, osl, e, l, c, hd, _⟩ := F.ex
    rcases hd with ⟨_, e2⟩ | ⟨e2, _⟩
    · subst e2
      exact ⟨⟨oc, od, kV, doc, pm, an, cdv, ct, osl, e, l, c⟩, F.kp⟩
    · exact absurd rfl e2
  have tA : TxtA K mg := ⟨free 17 rfl, free 18 rfl, free 19 rfl, free 20 rfl, int_ok X G (fact 26 rfl)⟩
  obtain ⟨es, n, kd⟩ := c.t.tab 0 (t := (fun K => ga K "SHAPES", _)) rfl
  have bL : Binds K fd0 ["value"] [] := FunD.bindsN D0 fun _ _ _ _ _ _ us hl => match us, hl with | [_], _ => rfl
  have tB : TxtB lw.prog w K mg (ga K "NoText") (ma K (ga K "NoText") "__init__") (fAd K dIsLine.at_) fd0 :=
    ⟨tA, tN, glo 3 rfl, D0.kp, Fu D0, bL, ⟨_, es, n, _, glo 5 rfl, kd, of_decide_eq_true x6, rfl⟩⟩
  have tR : TxtR K mg (ga K "Reply") (fAd K dRInit.at_) (dflAt ("Reply", some "__init__") 1 K) fd2 :=
    ⟨cls_ok (fact 27 rfl), noat_ok (fact 28 rfl), noat_ok (fact 29 rfl), noat_ok (fact 30 rfl), glo 6 rfl, mkr_ok (fact 31 rfl), D2⟩
  have bR : Binds K fd1 ["line"] [] := FunD.bindsN D1 fun _ _ _ _ _ _ us hl => match us, hl with | [_], _ => rfl
  have bC : Binds K fd3 ["names", "command"] [] := FunD.bindsN D3 fun _ _ _ _ _ _ us hl => match us, hl with | [_, _], _ => rfl
  have tC : TxtC lw.prog w K mg (ga K "NoText") (ma K (ga K "NoText") "__init__") (fAd K dIsLine.at_) (ga K "Malformed") (ga K "Refused") (fAd K dRead.at_) (fAd K dCarried.at_) fd0 fd1 fd3 :=
    ⟨tB, glo 2 rfl, glo 0 rfl, exm_ok (fact 41 rfl), of_decide_eq_true x5, glo 4 rfl, D1.kp, Fu D1, bR, glo 7 rfl, D3.kp, Fu D3, bC, ⟨_, glo 8 rfl, fun H => tupB_ok x7 H⟩⟩
  have bRp : Binds K fd4 ["names", "line"] [] := FunD.bindsN D4 fun _ _ _ _ _ _ us hl => match us, hl with | [_, _], _ => rfl
  have bDf : Binds K fd5 ["names", "line"] [] := FunD.bindsN D5 fun _ _ _ _ _ _ us hl => match us, hl with | [_, _], _ => rfl
  have tE : TxtE lw.prog w K mg (ga K "NoText") (ma K (ga K "NoText") "__init__") (fAd K dIsLine.at_) (ga K "Malformed") (ga K "Refused") (fAd K dRead.at_) (fAd K dCarried.at_) (ma K (ga K "Refused") "__init__") (fAd K dReply.at_) (fAd K dDefd.at_) fd0 fd1 fd3 fd4 fd5 :=
    ⟨tC, tF, glo 10 rfl, D4.kp, Fu D4, bRp, glo 11 rfl, D5.kp, Fu D5, bDf⟩
  have m1 := meth_ok (fact 37 rfl)
  have m2 := meth_ok (fact 38 rfl)
  have tK : TxtK K mg (ga K "Console") (fAd K dCInit.at_) (fAd K dLen.at_) (fAd K dIter.at_) fd6 fd7 fd8 :=
    ⟨cls_ok (fact 32 rfl), noat_ok (fact 33 rfl), noat_ok (fact 34 rfl), noat_ok (fact 35 rfl), glo 9 rfl, mkr_ok (fact 36 rfl), D6, m1.at_, m1.fn, Fu D7, m2.at_, m2.fn, Fu D8, free 19 rfl, free 21 rfl, free 22 rfl⟩
  have bE : Binds K fd9 ["self", "line"] [] := FunD.bindsN D9 fun _ _ _ _ _ _ us hl => match us, hl with | [_, _], _ => rfl
  have tL : TxtL K mg (ga K "Refused") (ga K "Console") (fAd K dEnter.at_) fd9 := ⟨xfB_ok x8, tF.noN, exm_ok (fact 42 rfl), glo 0 rfl, meth_ok (fact 39 rfl), Fu D9, bE⟩
  have bS : Binds K fd11 ["script"] [] := FunD.bindsN D11 fun _ _ _ _ _ _ us hl => match us, hl with | [_], _ => rfl
  have bT : Binds K fd12 ["state", "m"] [] := FunD.bindsN D12 fun _ _ _ _ _ _ us hl => match us, hl with | [_, _], _ => rfl
  have bLE : Binds K fd13 ["console", "line"] [] := FunD.bindsN D13 fun _ _ _ _ _ _ us hl => match us, hl with | [_, _], _ => rfl
  have bN : Binds K fd10 ["self"] [] := FunD.bindsN D10 fun _ _ _ _ _ _ us hl => match us, hl with | [_], _ => rfl
  have b1 : Binds K fd7 ["self"] [] := FunD.bindsN D7 fun _ _ _ _ _ _ us hl => match us, hl with | [_], _ => rfl
  have b2 : Binds K fd8 ["self"] [] := FunD.bindsN D8 fun _ _ _ _ _ _ us hl => match us, hl with | [_], _ => rfl
  have tFF : TxtF K mg (ga K "Console") (fAd K dState.at_) (fAd K dTake.at_) (fAd K dLEnter.at_) (fAd K dNames.at_) fd11 fd12 fd13 fd10 :=
    ⟨⟨free 23 rfl, free 24 rfl⟩, free 25 rfl, glo 12 rfl, D11.kp, Fu D11, bS, glo 13 rfl, D12.kp, Fu D12, bT, glo 14 rfl, D13.kp, Fu D13, bLE, meth_ok (fact 40 rfl), Fu D10, bN⟩
  have e := hfa'.symm.trans (glo (x := "law") 15 rfl)
  cases e
  have b := FunD.bindsA (ps := ["script"]) D14 fun _ _ _ _ _ _ us hl => match us, hl with | [_], _ => rfl
  exact ⟨fd14, fun s v => b s [v] rfl, fun base _ _ => ok_law (Fu D14) tE tR tK tL tFF b1 b2⟩
end K98
set_option Elab.async false
set_option linter.all false
set_option maxRecDepth 100000
set_option maxHeartbeats 0
namespace K98
open PySem PySem.Spec PyProof.Rows L2 ItX SR He SR.Hd
/-! ### the top, run in the kernel: once for each answer of the world's one row -/
abbrev R : PySem.W.OpenRow := PySem.W.OpenLaw.row lw
abbrev qv : Program := PySem.W.view R.prog [0, 145]
def loose0 : List PySem.Str := [PySem.Str.ofString "_wall", PySem.Str.ofString "__name__", PySem.Str.ofString "Fault", PySem.Str.ofString "Malformed", PySem.Str.ofString "ZeroDivisor", PySem.Str.ofString "Refused", PySem.Str.ofString "NoText", PySem.Str.ofString "DIGITS", PySem.Str.ofString "MOST_SIGNS_ratio", PySem.Str.ofString "is_integer", PySem.Str.ofString "Ratio", PySem.Str.ofString "less", PySem.Str.ofString "at_most", PySem.Str.ofString "zero", PySem.Str.ofString "is_rational", PySem.Str.ofString "as_ratio", PySem.Str.ofString "total", PySem.Str.ofString "least", PySem.Str.ofString "greatest", PySem.Str.ofString "ascending", PySem.Str.ofString "is_digits", PySem.Str.ofString "read_ratio", PySem.Str.ofString "MOST", PySem.Str.ofString "taken_rows", PySem.Str.ofString "keeps_triangles", PySem.Str.ofString "is_apart", PySem.Str.ofString "Metric", PySem.Str.ofString "read_metric", PySem.Str.ofString "check_count", PySem.Str.ofString "check_size", PySem.Str.ofString "length_of", PySem.Str.ofString "scaled", PySem.Str.ofString "check_alike", PySem.Str.ofString "added", PySem.Str.ofString "greater", PySem.Str.ofString "product", PySem.Str.ofString "check_points", PySem.Str.ofString "splits", PySem.Str.ofString "is_split", PySem.Str.ofString "cut_rows"]
def loose1 : List PySem.Str := [PySem.Str.ofString "row_factor", PySem.Str.ofString "starting", PySem.Str.ofString "costs", PySem.Str.ofString "leaving", PySem.Str.ofString "subtracted", PySem.Str.ofString "feasible", PySem.Str.ofString "pair_row", PySem.Str.ofString "cut_columns", PySem.Str.ofString "decided", PySem.Str.ofString "cut_weights", PySem.Str.ofString "cut_functional", PySem.Str.ofString "products_of", PySem.Str.ofString "gram", PySem.Str.ofString "next_place", PySem.Str.ofString "eliminated", PySem.Str.ofString "squares_of", PySem.Str.ofString "first_negative", PySem.Str.ofString "negative_vector", PySem.Str.ofString "is_euclidean", PySem.Str.ofString "told_squares", PySem.Str.ofString "coordinates", PySem.Str.ofString "eccentricity", PySem.Str.ofString "radius", PySem.Str.ofString "diameter", PySem.Str.ofString "gap", PySem.Str.ofString "gap_points", PySem.Str.ofString "quadruples", PySem.Str.ofString "quadruples_points", PySem.Str.ofString "widest", PySem.Str.ofString "hyperbolicity", PySem.Str.ofString "keeps", PySem.Str.ofString "isometries", PySem.Str.ofString "find_isometry", PySem.Str.ofString "other_side", PySem.Str.ofString "share", PySem.Str.ofString "index_in", PySem.Str.ofString "decomposition", PySem.Str.ofString "MOST_POINTS", PySem.Str.ofString "own_edge", PySem.Str.ofString "own_edges"]
def loose2 : List PySem.Str := [PySem.Str.ofString "distances", PySem.Str.ofString "degree", PySem.Str.ofString "Tree", PySem.Str.ofString "sums", PySem.Str.ofString "two_greatest_equal", PySem.Str.ofString "quadruples_tree", PySem.Str.ofString "failing_quadruple", PySem.Str.ofString "is_tree_metric", PySem.Str.ofString "median", PySem.Str.ofString "places", PySem.Str.ofString "gap_tree", PySem.Str.ofString "tree_of", PySem.Str.ofString "failing_triple", PySem.Str.ofString "single_linkage", PySem.Str.ofString "tree_paper", PySem.Str.ofString "ultra_paper", PySem.Str.ofString "cut_paper", PySem.Str.ofString "euclid_paper", PySem.Str.ofString "isometry_paper", PySem.Str.ofString "split_paper", PySem.Str.ofString "LETTERS", PySem.Str.ofString "SHAPES", PySem.Str.ofString "MOST_SIGNS_sheet", PySem.Str.ofString "MOST_LETTERS", PySem.Str.ofString "is_line", PySem.Str.ofString "read_name", PySem.Str.ofString "read_line", PySem.Str.ofString "MAKING", PySem.Str.ofString "PAPERS", PySem.Str.ofString "YES", PySem.Str.ofString "MOST_NUMBER", PySem.Str.ofString "Reply", PySem.Str.ofString "named", PySem.Str.ofString "made_freely", PySem.Str.ofString "made", PySem.Str.ofString "paper_of", PySem.Str.ofString "kind_of", PySem.Str.ofString "paper_text", PySem.Str.ofString "answer", PySem.Str.ofString "carried_out"]
def loose3 : List PySem.Str := [PySem.Str.ofString "reply_to", PySem.Str.ofString "defined", PySem.Str.ofString "Console", PySem.Str.ofString "_law_state", PySem.Str.ofString "_law_take", PySem.Str.ofString "_law_enter"]
def loose : List PySem.Str := loose0 ++ loose1 ++ loose2 ++ loose3
abbrev hk : PySem.W.Hook := hookZ hnames 5 hfa hfn hts hsu hsv (hex lw.prog.main.file)
def ob (s : PySem.W.SharedT) : AlZ := obsZ hnames 5 hfa hfn hts hsu (hex lw.prog.main.file) (HandSHeadRun.getT s)
theorem ob_eq (s : PySem.W.SharedT) : ob s = hk.obs s.abs := obsZ_eq (HandSHeadRun.getT_eq s)
def RE (w : World) : Prop := HandSHeadRun.RunEqI R qv hk ob 7000 loose w
theorem run0 (w : World) : RE (w.withFollow "special-get-raises" false) := by
  unfold RE HandSHeadRun.RunEqI
  kernel_rfl
theorem run1 (w : World) : RE (w.withFollow "special-get-raises" true) := by
  unfold RE HandSHeadRun.RunEqI
  kernel_rfl
theorem run (w : World) : HandSHeadRun.RunEqI R qv hk ob 7000 loose w := PySem.W.byRow2 "special-get-raises" (P := RE) run0 run1 w
end K98
open PySem PySem.W PySem.Calls PyProof.Rows
theorem PySem.Challenge.cw_spaceroads_k98_lines_as_many_as_told_holds : PySem.Challenge.rw_spaceroads_k98_lines_as_many_as_told.Holds := by
  w_on; o_law
  refine HandSHeadRun.head_imp (r := OpenLaw.row PySem.Challenge.rw_spaceroads_k98_lines_as_many_as_told) (q := K98.qv) (H := K98.hk) (ob := K98.ob) (M := 7000) (loose := K98.loose) (d := HandSHeadRun.topDef (OpenLaw.row PySem.Challenge.rw_spaceroads_k98_lines_as_many_as_told).prog 145) (kwd := []) K98.ob_eq
    K98.run (by kernel_rfl) (by kernel_rfl) (by kernel_rfl) (by rfl) (by first | assumption | decide +kernel) (by decide +kernel) ⟨rfl, rfl, rfl, rfl, rfl, by decide +kernel⟩ ?hw ?hc
  case hw => w_witness2
  case hc =>
    refine L2.walk_ofE (l := PySem.Challenge.rw_spaceroads_k98_lines_as_many_as_told) (n := 63) (k := 12) (x := "script") (CX := L2.CX0) rfl (by decide) (by kernel_rfl) ⟨rfl, by decide, by decide⟩ ?F (fun _ _ _ _ z => z)
    intro w mg fa h Y G hmg0
    obtain ⟨K, KX, c⟩ := Y
    have hmg : mg ("law" : PySem.Str) = some (.ref fa) := by
      have e : (HandSHeadRun.topDef (OpenLaw.row PySem.Challenge.rw_spaceroads_k98_lines_as_many_as_told).prog 145).name = ("law" : PySem.Str) := by kernel_rfl
      rw [← e]
      exact hmg0
    obtain ⟨fd, hb, hF⟩ := K98.facts (w := w) KX G hmg c
    exact ⟨K, fd, K98.spLaw K, KX, hb, fun H a ns hl _ hS => ⟨a, ns, rfl, hS, fun _ => rfl⟩, hF⟩
#print axioms PySem.Challenge.cw_spaceroads_k98_lines_as_many_as_told_holds
