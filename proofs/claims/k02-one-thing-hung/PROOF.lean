import PyProof.Rows.All
import Wide.All
import OpenK.AllK
import Wide.FinOn
import KE.KExcSuper
import KE.KExcIs
import KE.KSuper
import HandS.ForMost
import HandS.Exc
import HandS.ExcCtx
import HandS.ExcField
import HandS.ExcSuper
import HandS.WordsExc
import PySem.Challenge.RW_nestsay_k02_one_thing_hung
import HandS.Text
import HandS.Iter
import HandS.EndOwn
import HandS.EndTab
import HandS.IsInst
import KE.GoesEnum
import HandS.HotCalls
import HandS.TryMany
import HandS.Lambda
import HandS.TupAny
import HandS.Wide
import HandS.EndBits
import HandS.Words
set_option Elab.async false
set_option linter.all false
set_option maxRecDepth 100000
set_option maxHeartbeats 4000000
/-! the text by places -/
namespace Ns
open PySem L2
def top (i : Nat) : Stmt := PySem.Challenge.pw_nestsay_k02_one_thing_hung.main.body.getD i (.Pass ⟨0, 0, 0, 0⟩)
abbrev sInit : Stmt := inClass (top 1) 0
end Ns
/-! an error class over Refused: made -/
namespace PySem
namespace RefX
open PySem.W PySem.Calls PyProof.Rows PySem.HandSPX

/-- what the written part says of Refused (at D), of its __init__ (at fI; its code at cda, its cell at cc) -/
structure InitTxt (K : Frag) (P : Program) (D fI cda cc : Addr) : Prop where
  fn : ∃ (oc : Value) (od : Option Addr) (doc pm : Value) (an : Option Addr) (ct : Value) (osl : Array (Option Value)),
    K.lookup fI = some ⟨oc, od, .func (ksFn "__init__" "Refused.__init__" (L2.defArgs Ns.sInit) (L2.defBody Ns.sInit) (L2.defScope Ns.sInit) .none .none doc pm an (.ref cda) ct cc), osl⟩
  cd : codeIn K (.ref cda) "Refused.__init__" = true
  code : ∃ (a : Value) (b : Option Addr) (vs : Array Value) (c : Array (Option Value)) (file : Str) (tf : Tok), K.lookup cda = some ⟨a, b, .fields vs, c⟩ ∧ vs[2]? = some (.str file tf) ∧ ((P.main.file : Str) == file) = true
  cell : ∃ (a : Value) (b : Option Addr) (c : Array (Option Value)), K.lookup cc = some ⟨a, b, .cell (some (.ref D)), c⟩
  dcls : (clsIn K D).isSome = true
  any : nsIn K cStatics "thirdparty.any" = some none
  tI : typeIn K (.ref fI) = some (.type "function")
/-- what it says of an error class at C -/
structure RefTxt (K : Frag) (C D fI : Addr) : Prop where
  cls : ∃ nm q N bs bm sn sub ab col dd k0 k1 k2 k3 k5, K.lookup C = some (excClassObj nm q C N bs bm true sn sub ab col dd k0 k1 k2 k3 k5 "ValueError.__new__") ∧ refsVE bm = true
  sa : findIn K (.ref C) "__setattr__" = some (some (.builtin "object.__setattr__"))
  noN : findIn K (.ref C) "what" = some none
  iC : findIn K (.ref C) "__init__" = some (some (.ref fI))
  kC : keepIn K (.ref C) = true
  exC : subIn K (.ref C) (.type "BaseException") = some true
  veC : subIn K (.ref C) (.type "ValueError") = some true
  tyC : typeIn K (.ref C) = some (.type "type")
  subD : mroIn K C (.ref D) = some true
  sup : ks_superIn K C D "__init__" = some (some (.builtin "ValueError.__init__"))
theorem one_size (v : Value) : [v].length ≤ sizeLine := by
  rw [sizeLine_eq]
  exact (by decide : 1 ≤ 16777216)
/-- ValueError.__init__ bound to x, called -/
theorem call_mw {prog : Program} {w : World} {A : Around} {E : Value → Shared → Prop} {h : Heap} {g : Array GenState} {d : Drawn} {t : Nat} {os : OsState}
    {nm q : Str} {C N : Addr} {bs bm : List Value} {hdct : Bool} {sn : List Str} {sub : List Value} {ab : Bool} {col : Option Bool} {dd : Option Addr} {k0 k1 k2 k3 k5 : Option Value}
    {u e t0 : Addr} {rest : List Value} {Q : Value → Shared → Prop}
    (hC : h.get? C = some (excClassObj nm q C N bs bm hdct sn sub ab col dd k0 k1 k2 k3 k5 "ValueError.__new__")) (he : h.get? e = some (HandSPX.excO C t0)) (hu : h.get? u = some (kxs_mw "ValueError.__init__" e)) (hrest : rest.length ≤ sizeLine)
    (hq : ∀ h' t1, (∀ b o, b ≠ e → h.get? b = some o → h'.get? b = some o) → h'.get? e = some (HandSPX.excO C t1) → Q .none ⟨h', g, d, t, os⟩) :
    wpAny (model prog w) A (call (.ref u) rest) Q E ⟨h, g, d, t, os⟩ := by
  refine wpAny_call (codeAny_of_tree ?_)
  show wpAny _ A.in1 (callAny (.ref u) ⟨rest, []⟩) _ _ _
  simp only [callAny]
  refine wpAny_bind (wpAny_load hu ?_)
  simp only [kxs_mw, show (Value.type "method-wrapper" == Value.type "method" || Value.type "method-wrapper" == Value.type "builtin_function_or_method" || Value.type "method-wrapper" == Value.type "method-wrapper") = true by decide, if_true]
  refine KFB.if_so (by decide) ?_
  refine wpAny_bind (check_bound_init F.excBase_ValueError.toExcCallFacts hC he rfl ?_)
  refine wpAny_bind (wpAny_pure (wpAny_pure ?_))
  refine ⟨Code.quiet_builtin _ (by decide +kernel), codeAny_builtin F.excBase_ValueError.initEntry ?_⟩
  rw [Around.under_plainId F.excBase_ValueError.init.plain _]
  wp_walk
  refine hq _ h.objs.size (fun b o hb ho => ?_) ?_
  · rw [Heap.get?_update_other _ _ (Ne.symm hb)]
    exact Heap.get?_push_of_some _ ho
  · rw [Heap.get?_update_self _ (Heap.get?_push_of_some _ he) rfl]
    rfl
/-- what __init__ leaves of a fresh exception at x -/
structure InitEnd (h h' : Heap) (x C dx t1 : Addr) (v : Value) : Prop where
  keep : ∀ b o, b ≠ x → h.get? b = some o → h'.get? b = some o
  obj : h'.get? x = some { cls := .ref C, dict := some dx, data := .fields #[.ref t1, .none, .none, .none, .bool false, .none] }
  dbig : h.objs.size ≤ dx
  dne : dx ≠ x
  ns : h'.Ns1 dx (fun y => if y = "what" then some v else none)
section
variable {prog : Program} {w : World} {A : Around} {R : Result → Shared → Prop} {s : Shared} {K : Frag} {mg mb : Str → Option Value} {C D fI cda cc : Addr}
theorem kept_but {K : Frag} {h h' : Heap} {x : Addr} (X : K.In h) (hx : K.lookup x = none) (k : ∀ b o, b ≠ x → h.get? b = some o → h'.get? b = some o) : K.In h' := fun a o e =>
  k a o (fun z => by rw [z, hx] at e; cases e) (X a o e)
theorem ref_init (I : InitTxt K prog D fI cda cc) (T : RefTxt K C D fI) {x t0 : Addr} {v : Value} (X : K.In s.heap) (hlim : s.heap.NoLimit) (hg : s.heap.Ns mainGlobals mg) (hb : s.heap.Ns builtinsNs mb) (hms : mg "super" = none) (hbs : mb "super" = bootBuiltins "super")
    (htop : (prog.main.scope.names.lookup ("super" : Str)).isSome = false) (hx : s.heap.get? x = some (excO C t0)) (hnx : K.lookup x = none) (hroom : A.depth < recursionLimit)
    (hq : ∀ h' tk dx t1, InitEnd s.heap h' x C dx t1 v → R (.ok (.ret .none)) { s with heap := h', toks := tk }) :
    codeAny (model prog w) A (.call (.ref fI) ⟨[.ref x, v], []⟩) R s := by
  obtain ⟨oc, od, doc, pm, an, ct, osl, hfn⟩ := I.fn
  obtain ⟨nm, q, N, bs, bm, sn, sub, ab, col, dd, k0, k1, k2, k3, k5, hC, hbm⟩ := T.cls
  obtain ⟨ca, cb, cvs, ccs, file, tf, hcode, hvs, hfile⟩ := I.code
  obtain ⟨la, lb, lc, hcell⟩ := I.cell
  obtain ⟨cdD, hD⟩ := Option.isSome_iff_exists.mp I.dcls
  have hcl : clsIn K C = some { name := nm, bases := bs, mro := .ref C :: bm, ns := N, qualname := q, hasDict := true, slotNames := sn, subclasses := sub, abstract := ab, collection := col, hasDel := false } := by unfold clsIn; rw [hC] <;> rfl
  obtain ⟨hh, g, d, t, os⟩ := s
  have X : K.In hh := X
  have hx : hh.get? x = some (excO C t0) := hx
  have I0 : InstAt hh x (excO C t0) C none := ⟨hx, rfl, rfl, trivial⟩
  have hxC : x ≠ C := ks_ne X I0 hcl
  refine ks_codeAny_call_defAt (fd := ksFn "__init__" "Refused.__init__" (L2.defArgs Ns.sInit) (L2.defBody Ns.sInit) (L2.defScope Ns.sInit) .none .none doc pm an (.ref cda) ct cc) (body := L2.defBody Ns.sInit) (binds := [("self", .ref x), ("what", v)])
    hroom (X _ _ hfn) rfl hlim (codeRec_of X I.cd) rfl (BindsTo.of_eq (by first | rfl | with_unfolding_all rfl)) (show ∀ x ∈ (L2.defScope Ns.sInit).names, x.2 ≠ .cell by decide +kernel) (fun y hy => ?_) (fun h₁ hns hk => ?_) rfl rfl rfl
  · rcases List.mem_cons.mp hy with e | hy
    · rw [e]; exact (show (L2.defScope Ns.sInit).names.lookup ("self" : Str) = some .local by decide +kernel)
    · rcases List.mem_cons.mp hy with e | hy
      · rw [e]; exact (show (L2.defScope Ns.sInit).names.lookup ("what" : Str) = some .local by decide +kernel)
      · exact absurd hy (by simp)
  have hns : h₁.Ns hh.objs.size (fun y => ([("self", Value.ref x), ("what", v)] : List (Str × Value)).reverse.lookup y) := hns
  have hk : ∀ b o, hh.get? b = some o → h₁.get? b = some o := hk
  have X1 : K.In h₁ := X.keeps hk
  obtain ⟨oD, hD1, hD2⟩ : ∃ oD, h₁.get? D = some oD ∧ oD.data = .cls cdD := by
    unfold clsIn at hD
    split at hD
    · rename_i c d cd' sl ho
      cases hD
      exact ⟨_, X1 _ _ ho, rfl⟩
    · cases hD
  have mself : ([("self", Value.ref x), ("what", v)] : List (Str × Value)).reverse.lookup ("self" : Str) = some (.ref x) := by rfl
  have mwhat : ([("self", Value.ref x), ("what", v)] : List (Str × Value)).reverse.lookup ("what" : Str) = some v := by rfl
  refine ks_wpAt_execs_cons (ks_wpAt_Expr_any (ks_wpAt_MethodCall ?_) (by rfl) (by rfl))
  refine ks_wpAt_super_base (f := fI) (cc := cda) (by rfl) (by rfl) (by decide) rfl (X1 _ _ hfn) rfl (by rfl) rfl (X1 _ _ hcode) rfl hvs hfile htop ?_
  refine ks_loadName_global (by rfl) (by rfl) (loadGlobal_builtin (hg.keeps hk) hms (hb.keeps hk) (hbs.trans (show bootBuiltins "super" = some (.type "super") by decide +kernel)) ⟨rfl, ?_⟩)
  refine wpAny_loadName_free (by rfl) (by rfl) (by rfl) ⟨_, X1 _ _ hcell, rfl⟩ ?_
  refine wpAny_loadName_local (by rfl) (by rfl) hns mself ?_
  refine ks_wpAny_isType_cls hD1 hD2 ⟨rfl, ?_⟩
  have hx1 : h₁.get? x = some (excO C t0) := hk _ _ hx
  refine ks_wpAny_call_super hD1 hD2 hx1 rfl (fun c e => by cases e) (looks_mroIn X1 T.subD) (fun h2 e2 k2 => ?_)
  have X2 : K.In h2 := X1.keeps k2
  have hx2 : h2.get? x = some (excO C t0) := k2 _ _ hx1
  have I2 : InstAt h2 x (excO C t0) C none := ⟨hx2, rfl, rfl, trivial⟩
  have hsup := T.sup
  unfold ks_superIn at hsup
  rw [hcl] at hsup
  refine kxs_getMethod kxs_ValueError e2 (looks_opaque X2 I.any) (l₀ := .ref C :: bm) ?_ rfl X2 hsup (I2.type.andThen (looks_subIn X2 T.veC)) hxC (by decide) ?_
  · exact fun A Q E s k q => wpAny_bind ((looks_clsIn X2 hcl) A _ E s k (wpAny_pure q))
  have k3 : ∀ b o, h2.get? b = some o → (h2.push (kxs_mw "ValueError.__init__" x)).get? b = some o := fun b o e => Heap.get?_push_of_some _ e
  have hu : (h2.push (kxs_mw "ValueError.__init__" x)).get? h2.objs.size = some (kxs_mw "ValueError.__init__" x) := Heap.get?_push_size _ rfl
  generalize h2.push (kxs_mw "ValueError.__init__" x) = h3 at k3 hu ⊢
  generalize h2.objs.size = u at hu ⊢
  have kk : ∀ b o, hh.get? b = some o → h3.get? b = some o := fun b o e => k3 _ _ (k2 _ _ (hk _ _ e))
  have hx3 : h3.get? x = some (excO C t0) := k3 _ _ hx2
  have X3 : K.In h3 := X.keeps kk
  have hns3 : h3.Ns hh.objs.size (fun y => ([("self", Value.ref x), ("what", v)] : List (Str × Value)).reverse.lookup y) := hns.keeps fun b o e => k3 _ _ (k2 _ _ e)
  refine kxs_callWith (i := "ValueError.__init__") (x := x) (by rfl) (evalArgs_plain ?_)
  refine Calls.spliced_cons (ESX.ldL hns3 mwhat ?_)
  refine Calls.spliced_nil ⟨hu, ?_⟩
  refine call_mw (X3 _ _ hC) hx3 hu (one_size v) fun h4 t1 k4 hx4 => ?_
  have hxL : hh.objs.size ≠ x := Nat.ne_of_gt (Heap.lt_size hx)
  have k04 : ∀ b o, b ≠ x → hh.get? b = some o → h4.get? b = some o := fun b o hb e => k4 b o hb (kk b o e)
  have X4 : K.In h4 := kept_but X hnx k04
  have hns4 : h4.Ns hh.objs.size (fun y => ([("self", Value.ref x), ("what", v)] : List (Str × Value)).reverse.lookup y) := by
    obtain ⟨o, es, ep, ho, r⟩ := hns3
    exact ⟨o, es, ep, k4 _ _ hxL ho, r⟩
  refine wpAt_of_wpAny (wpAny_execs_cons (plainObj_wpAny_Assign_Attribute ?_))
  refine ESX.ldL hns4 mwhat (ESX.ldL hns4 mself ?_)
  refine set_plain X4 (ox := excO C t1) (od := none) ⟨hx4, rfl, rfl, trivial⟩ T.sa ?_
  refine exc_osa X4 hx4 hcl (show refsVE (.ref C :: bm) = true from hbm) rfl T.noN (fun h5 tk5 dx k5' dn dne hx5 hn5 => ?_)
  show wpAny _ _ (execs _ _) _ _ _
  have sz3 : hh.objs.size ≤ h4.objs.size := by
    obtain ⟨o, es, ep, ho, r⟩ := hns4
    exact Nat.le_of_lt (Heap.lt_size ho)
  exact wpAny_execs_nil (hq h5 tk5 dx t1 ⟨fun b o hb e => k5' b o hb (k04 b o hb e), hx5, Nat.le_trans sz3 dn, dne, hn5⟩)
/-- a made error -/
structure OwnMade (h h' : Heap) (e C d : Addr) (v : Value) : Prop where
  keep : ∀ b o, h.get? b = some o → h'.get? b = some o
  new : h.objs.size ≤ e
  obj : ∃ t1, h'.get? e = some { cls := .ref C, dict := some d, data := .fields #[.ref t1, .none, .none, .none, .bool false, .none] }
  dbig : h.objs.size ≤ d
  dne : d ≠ e
  ns : h'.Ns1 d (fun y => if y = "what" then some v else none)
theorem ref_made (I : InitTxt K prog D fI cda cc) (T : RefTxt K C D fI) {v : Value} (X : K.In s.heap) (hlim : s.heap.NoLimit) (hg : s.heap.Ns mainGlobals mg) (hb : s.heap.Ns builtinsNs mb) (hms : mg "super" = none) (hbs : mb "super" = bootBuiltins "super")
    (htop : (prog.main.scope.names.lookup ("super" : Str)).isSome = false) (hroom : A.depth + 1 < recursionLimit)
    (hq : ∀ h' tk e d, OwnMade s.heap h' e C d v → R (.ok (.ret (.ref e))) { s with heap := h', toks := tk }) :
    codeAny (model prog w) A (.call (.ref C) ⟨[v], []⟩) R s := by
  obtain ⟨nm, q, N, bs, bm, sn, sub, ab, col, dd, k0, k1, k2, k3, k5, hC, hbm⟩ := T.cls
  obtain ⟨hp, g, dr, tk, os⟩ := s
  have k : ∀ b o, hp.get? b = some o → ((hp.push (kdv_tup [v])).push (excO C hp.objs.size)).get? b = some o := fun b o e => Heap.get?_push_of_some _ (Heap.get?_push_of_some _ e)
  have hget : ((hp.push (kdv_tup [v])).push (excO C hp.objs.size)).get? (hp.objs.size + 1) = some (excO C hp.objs.size) := by heap_get
  have hnx : K.lookup (hp.objs.size + 1) = none := by
    cases e : K.lookup (hp.objs.size + 1) with
    | none => rfl
    | some o =>
      have z : hp.get? (hp.objs.size + 1) = some o := X _ _ e
      exact absurd (Nat.lt_of_succ_lt (Heap.lt_size z)) (Nat.lt_irrefl _)
  refine call_own F.excBase_ValueError (fun X => refsVE_contains X bm hbm) (X _ _ hC) (looks_findIn X T.iC) (fun self => bind_fn X self I.tI) (one_size v) ?_
  refine ref_init (s := ⟨(hp.push (kdv_tup [v])).push (excO C hp.objs.size), g, dr, tk, os⟩) I T (X.keeps k) (hlim.keeps k) (hg.keeps k) (hb.keeps k) hms hbs htop hget hnx ?_ fun h' tk' dx t1 ⟨k', hx, dn, dne, hns⟩ => ?_
  · show A.depth + 1 < recursionLimit
    exact hroom
  · have old : ∀ b o, hp.get? b = some o → h'.get? b = some o := fun b o e => k' b o (Nat.ne_of_lt (Nat.lt_succ_of_lt (Heap.lt_size e))) (k b o e)
    have z : hp.objs.size + 1 + 1 ≤ dx := by
      first
        | (simpa only [Heap.size_push] using dn)
        | exact dn
        | (have q := dn; rw [Heap.size_push, Heap.size_push] at q; exact q)
    exact ⟨rfl, hq h' tk' (hp.objs.size + 1) dx ⟨old, Nat.le_succ _, ⟨t1, hx⟩, Nat.le_trans (Nat.le_trans (Nat.le_succ _) (Nat.le_succ _)) z, dne, hns⟩⟩
end
end RefX
end PySem
namespace Ns
open PySem PySem.Spec PyProof.Rows L2
abbrev St := L2.St
theorem relO_what {v : V} {v' : Value} (r : RelV v v') (f : Str) : RelO (List.lookup f [(("what" : Str), v)]) (if f = "what" then some v' else none) := by
  by_cases hw : f = "what"
  · subst hw
    rw [if_pos rfl]
    have q : List.lookup ("what" : Str) [(("what" : Str), v)] = some v := by simp [List.lookup]
    rw [q]
    exact r
  · rw [if_neg hw]
    have qw : (f == ("what" : Str)) = false := by simpa using hw
    have q2 : List.lookup f [(("what" : Str), v)] = none := by simp [List.lookup, qw]
    rw [q2]
    trivial
section
variable {X : Cx} {C D fI cda cc : Addr}
/-- X(e), X an error class over Refused: e's value is kept in its dict -/
def tMkRef (C : Addr) (ta : TE) : St → Hp → XK → Prop := fun σ H Q => ta σ H fun v H1 => ∀ d, H1 d = none → Q (.ref C) (some d) (upd H1 d (.xd [(("what" : Str), v)]))
theorem pmk_ref {a : Expr} {ta : TE} {p pos : Pos} {k : Nat} {x : Str} (I0 : PySem.RefX.InitTxt X.K X.prog D fI cda cc) (T : PySem.RefX.RefTxt X.K C D fI) (gC : X.mg x = some (.ref C)) (hms : X.mg "super" = none)
    (htop : (X.prog.main.scope.names.lookup ("super" : Str)).isSome = false) (hr : Room k X.A) (ha : PE X a ta) (hg : Gl X x) (hdb : (x == ("__debug__" : Str)) = false := by decide)
    (he : starEach (a :: []) X.env = (false, eval a X.env) :: starEach [] X.env := by rfl) :
    L2N.PMk X (.Call (.Name x p) [a] [] pos) (tMkRef C ta) := by
  intro pins s σ H Q I h
  refine wpAny_Call_Name_kw (ld_glob I hg gC ?_ hdb)
  refine PySem.W.callWith_K (h₀ := X.base) I.ok.mod.kin T.kC ?_ he (by rfl)
  rw [he]
  show wpAny _ _ (spliced ((false, eval a X.env) :: backTo pos (starEach [] X.env))) _ _ s
  refine Calls.spliced_cons (thn (ha.run pins s σ H _ I h) fun v' s1 ⟨v, H1, I1, rv, q1⟩ => ?_)
  refine Calls.spliced_nil ⟨I1.kIn, ?_⟩
  show wpAny _ _ (call (.ref C) [v']) _ _ _
  have hlim := I1.nolimit
  obtain ⟨mb, hb1, hb2⟩ := I1.mod.blt
  have hbk := I1.bk
  have hkin := I1.kIn
  have hgl := I1.mod.glob.keeps hbk
  have hbl := hb1.keeps hbk
  obtain ⟨hp, g, dr, tk, os⟩ := s1
  refine wpAny_call (PySem.RefX.ref_made I0 T hkin hlim hgl hbl hms (hb2 _ (by decide)) htop (by have := hr.dp; omega) fun h' tk' e d M => ?_)
  show L2N.MkP X pins σ Q (.ref e) ⟨h', g, dr, tk', os⟩
  obtain ⟨t1, hoe⟩ := M.obj
  have hns := M.ns
  obtain ⟨G', g1, g2⟩ := restrict h' fun b => decide (b ≠ e)
  have gk : ∀ b, b ≠ e → G'.get? b = h'.get? b := fun b hb => g1 b (decide_eq_true hb)
  have ge : G'.get? e = none := g2 e (by simp)
  have old : ∀ b o, hp.get? b = some o → G'.get? b = some o := fun b o q => (gk b (Nat.ne_of_lt (Nat.lt_of_lt_of_le (Heap.lt_size q) M.new))).trans (M.keep b o q)
  have ob : ObjOk X.prog X.w (upd H1 d (.xd [(("what" : Str), v)])) G' d (.xd [(("what" : Str), v)]) :=
    ⟨_, hns.at (fun o q => (gk d M.dne).trans q), fun f => relO_what rv f⟩
  have J : Inv X pins σ (upd H1 d (.xd [(("what" : Str), v)])) ⟨G', g, dr, tk', os⟩ := I1.laid (t' := tk') old M.dbig ob
  refine ⟨e, _, _, ⟨G', g, dr, tk', os⟩, _, .ref C, some d, rfl, J, fun b o q => ?_, ge, hoe, ⟨rfl, rfl, fun vs e => by cases e; rfl⟩, rfl, rfl, ?_, rfl, I1.bare, raises_own T.exC T.tyC, q1 d (I1.hok.fresh M.dbig)⟩
  · by_cases hb : b = e
    · have q' : G'.get? b = some o := q
      rw [hb, ge] at q'; cases q'
    · exact (gk b hb).symm.trans q
  · rw [upd_ne (Ne.symm M.dne)]
    exact I1.hok.fresh M.new
/-- raise X(e) -/
def tRaiseR (C : Addr) (W : WX) (ta : TE) : TS := fun _ σ H => tMkRef C ta σ H fun cls d H' => W cls d σ H'
theorem ps_raiseR {a : Expr} {ta : TE} {W : WX} {p pos pos2 : Pos} {k : Nat} {x : Str} (hc : X.calm = true) (I0 : PySem.RefX.InitTxt X.K X.prog D fI cda cc) (T : PySem.RefX.RefTxt X.K C D fI) (gC : X.mg x = some (.ref C)) (hms : X.mg "super" = none)
    (htop : (X.prog.main.scope.names.lookup ("super" : Str)).isSome = false) (hr : Room k X.A) (tk : L2N.Takes X W) (ha : PE X a ta) (hg : Gl X x := by rfl) (hdb : (x == ("__debug__" : Str)) = false := by decide)
    (he : starEach (a :: []) X.env = (false, eval a X.env) :: starEach [] X.env := by rfl) :
    PS X (.Raise (some (.Call (.Name x p) [a] [] pos)) none pos2) (tRaiseR C W ta) := L2N.ps_raise hc tk (pmk_ref I0 T gC hms htop hr ha hg hdb he)
end
end Ns
/-! small data; what hung gives, in plain Lean -/
namespace Ns
open PySem L2
/-! ### small data: its text is short -/
structure Sm (n k : Nat) (d : PyData) : Prop where
  len : d.shown.length ≤ n
  ok : PyData.strOk d.shown = true
  sh : d.showable = true
  nd : d.hasDict = false
  lay : d.canLay0 = true
  dep : d.depth ≤ k
theorem Sm.mono {n n' k k' : Nat} {d : PyData} (s : Sm n k d) (h : n ≤ n') (hk : k ≤ k') : Sm n' k' d := ⟨Nat.le_trans s.len h, s.ok, s.sh, s.nd, s.lay, Nat.le_trans s.dep hk⟩
theorem strOk_app (a b : Str) : PyData.strOk (a ++ b) = (PyData.strOk a && PyData.strOk b) := by
  show ((a.cps ++ b.cps).all (· < 0x110000)) = _
  rw [Array.all_append]
  rfl
theorem sm_none : Sm 40 0 .none := ⟨by decide +kernel, by decide +kernel, rfl, rfl, rfl, Nat.le_refl _⟩
theorem int_texts : ∀ j : _root_.Fin 201, ((toString ((j.val : Int) - 100) : String) : Str).length ≤ 40 ∧ PyData.strOk ((toString ((j.val : Int) - 100) : String) : Str) = true ∧ ((j.val : Int) - 100).natAbs.log2 < 1920 := by decide +kernel
theorem sm_int {i : Int} (h1 : -100 ≤ i) (h2 : i ≤ 100) : Sm 40 0 (.int i) := by
  have h := int_texts ⟨(i + 100).toNat, by omega⟩
  have e : ((((i + 100).toNat : Nat) : Int) - 100) = i := by omega
  simp only [e] at h
  exact ⟨by simpa only [PyData.shown] using h.1, by simpa only [PyData.shown] using h.2.1, by simpa [PyData.showable] using h.2.2, rfl, rfl, Nat.le_refl _⟩
theorem sm_words : Sm 40 0 (.str "floor") ∧ Sm 40 0 (.str "y") ∧ Sm 40 0 (.str "1") := by
  refine ⟨⟨?_, ?_, rfl, rfl, ?_, Nat.le_refl _⟩, ⟨?_, ?_, rfl, rfl, ?_, Nat.le_refl _⟩, ⟨?_, ?_, rfl, rfl, ?_, Nat.le_refl _⟩⟩ <;> (simp only [PyData.shown, PyData.canLay0]; decide +kernel)
theorem join_ok : ∀ ts : List Str, (∀ t ∈ ts, PyData.strOk t = true) → PyData.strOk (Str.join ", " ts) = true
  | [], _ => by decide +kernel
  | [x], h => h x (by simp)
  | x :: y :: r, h => by
    have ih := join_ok (y :: r) fun t ht => h t (List.mem_cons_of_mem _ ht)
    have e : Str.join ", " (x :: y :: r) = x ++ ", " ++ Str.join ", " (y :: r) := rfl
    rw [e, strOk_app, strOk_app, h x (by simp), ih]
    decide +kernel
theorem tupleText_le (ts : List Str) : (tupleText ts).length ≤ piled ts + 3 := by
  unfold tupleText
  rw [strLen_append, strLen_append]
  have e1 : ((("(" : String) : Str)).length = 1 := rfl
  have e3 : (((if ts.length == 1 then ",)" else ")" : String) : Str)).length ≤ 2 := by split <;> decide
  rw [e1]
  by_cases h : ts = []
  · subst h
    have e4 : (Str.join ((", " : String) : Str) []).length = 0 := rfl
    rw [e4]
    have e5 : piled [] = 0 := rfl
    omega
  · have := join_length_add ts h
    omega
theorem all_of : ∀ {n k : Nat} {ds : List PyData}, (∀ d ∈ ds, Sm n k d) → piled (PyData.shownAll ds) ≤ ds.length * (n + 2) ∧ (∀ t ∈ PyData.shownAll ds, PyData.strOk t = true) ∧ PyData.showableAll ds = true ∧ PyData.hasDictAll ds = false ∧ PyData.canLayAll0 ds = true ∧ PyData.depthAll ds ≤ k
  | n, k, [], _ => ⟨by simp [PyData.shownAll, piled], by simp [PyData.shownAll], rfl, rfl, rfl, Nat.zero_le _⟩
  | n, k, d :: ds, h => by
    obtain ⟨a, b, c, e, f, g⟩ := all_of (ds := ds) fun x hx => h x (List.mem_cons_of_mem _ hx)
    have s := h d (by simp)
    refine ⟨?_, ?_, ?_, ?_, ?_, ?_⟩
    · simp only [PyData.shownAll]
      rw [piled_cons, List.length_cons, Nat.succ_mul]
      have := s.len
      omega
    · intro t ht
      simp only [PyData.shownAll] at ht
      rcases List.mem_cons.mp ht with e | ht
      · rw [e]; exact s.ok
      · exact b t ht
    · simp only [PyData.showableAll, s.sh, c, Bool.and_self]
    · simp only [PyData.hasDictAll, s.nd, e, Bool.or_self]
    · simp only [PyData.canLayAll0, s.lay, f, Bool.and_self]
    · simp only [PyData.depthAll]
      exact Nat.max_le.mpr ⟨s.dep, g⟩
theorem sm_tup {n k m : Nat} {ds : List PyData} (h : ∀ d ∈ ds, Sm n k d) (hm : ds.length ≤ m) : Sm (m * (n + 2) + 3) (k + 1) (.tuple ds) := by
  obtain ⟨a, b, c, e, f, g⟩ := all_of h
  refine ⟨?_, ?_, ?_, ?_, ?_, ?_⟩
  · simp only [PyData.shown]
    have h1 := tupleText_le (PyData.shownAll ds)
    have h2 := Nat.mul_le_mul_right (n + 2) hm
    omega
  · simp only [PyData.shown]
    unfold tupleText
    rw [strOk_app, strOk_app, join_ok _ b]
    split <;> decide +kernel
  · simpa only [PyData.showable] using c
  · simpa only [PyData.hasDict] using e
  · simpa only [PyData.canLay0] using f
  · simp only [PyData.depth]
    omega

/-! ### places, rooms, forests -/
/-- a place as it is handed in -/
inductive Pl where
  | floor
  | at (h r : Int)
  | word (s : Str)
  | row (is : List Int)
  | named (s : Str) (r : Int)
def Pl.dat : Pl → PyData
  | .floor => .none
  | .at h r => .tuple [.int h, .int r]
  | .word s => .str s
  | .row is => .tuple (is.map PyData.int)
  | .named s r => .tuple [.str s, .int r]
/-- an entry of rooms -/
inductive Rm where
  | num (i : Int)
  | word (s : Str)
def Rm.ok : Rm → Bool
  | .num i => decide (0 ≤ i) && decide (i ≤ 4)
  | .word _ => false
def Rm.val : Rm → Int
  | .num i => i
  | .word _ => 0
/-- the first number below n of which p does not hold -/
def fst (p : Nat → Bool) : Nat → Option Nat
  | 0 => none
  | n + 1 => match fst p n with
    | some j => some j
    | none => if p n = true then none else some n
theorem fst_none {p : Nat → Bool} : ∀ {n : Nat}, (∀ j, j < n → p j = true) → fst p n = none
  | 0, _ => rfl
  | n + 1, h => by
    unfold fst
    rw [fst_none fun j hj => h j (Nat.lt_succ_of_lt hj)]
    show (if p n = true then none else some n) = none
    rw [if_pos (h n (Nat.lt_succ_self n))]
theorem fst_some {p : Nat → Bool} {i : Nat} (hi : p i = false) (hb : ∀ j, j < i → p j = true) : ∀ {n : Nat}, i < n → fst p n = some i
  | 0, h => absurd h (Nat.not_lt_zero _)
  | n + 1, h => by
    unfold fst
    by_cases e : i = n
    · rw [fst_none fun j hj => hb j (by omega)]
      show (if p n = true then none else some n) = some i
      rw [← e, hi]
      rfl
    · rw [fst_some hi hb (show i < n by omega)]
theorem fst_is_none {p : Nat → Bool} : ∀ {n : Nat}, fst p n = none → ∀ j, j < n → p j = true
  | 0, _, j, hj => absurd hj (Nat.not_lt_zero _)
  | n + 1, h, j, hj => by
    unfold fst at h
    cases e : fst p n with
    | some k => rw [e] at h; cases h
    | none =>
      rw [e] at h
      have h : (if p n = true then none else some n) = (none : Option Nat) := h
      by_cases hn : p n = true
      · by_cases ej : j = n
        · rw [ej]; exact hn
        · exact fst_is_none e j (by omega)
      · rw [if_neg hn] at h; cases h
theorem fst_is_some {p : Nat → Bool} : ∀ {n i : Nat}, fst p n = some i → i < n ∧ p i = false ∧ ∀ j, j < i → p j = true
  | 0, _, h => by cases h
  | n + 1, i, h => by
    unfold fst at h
    cases e : fst p n with
    | some k =>
      rw [e] at h
      cases h
      obtain ⟨a, b, c⟩ := fst_is_some e
      exact ⟨Nat.lt_succ_of_lt a, b, c⟩
    | none =>
      rw [e] at h
      have h : (if p n = true then none else some n) = some i := h
      by_cases hn : p n = true
      · rw [if_pos hn] at h; cases h
      · rw [if_neg hn] at h
        cases h
        exact ⟨Nat.lt_succ_self _, by simpa using hn, fst_is_none e⟩
/-- whether p is a place of x -/
def okPl (rs : List Int) (x : Int) : Pl → Bool
  | .floor => true
  | .at h r => decide (0 ≤ h) && decide (h < rs.length) && !decide (h = x) && decide (0 ≤ r) && decide (r < rs.getD h.toNat 0)
  | _ => false
/-- the holder -/
def par (F : List Pl) (x : Int) : Option Int := match F.getD x.toNat .floor with
  | .at h _ => some h
  | _ => none
/-- the things around x, at most k -/
def anc (F : List Pl) : Nat → Int → List Int
  | 0, _ => []
  | k + 1, x => match par F x with
    | none => []
    | some h => h :: anc F k h
def inSelf (F : List Pl) (j : Nat) : Bool := decide ((j : Int) ∈ anc F F.length j)
/-- the error's class -/
inductive Ec where | rooms | forest | ring | thing | place | within
def Ec.name : Ec → Str
  | .rooms => "BadRooms" | .forest => "BadForest" | .ring => "Ring" | .thing => "BadThing" | .place => "BadPlace" | .within => "Within"
inductive Out where
  | bad (c : Ec) (w : PyData)
  | told (F : List Pl)
def okRm (rm : List Rm) (j : Nat) : Bool := (rm.getD j (.num 0)).ok
def nums (rm : List Rm) : List Int := rm.map Rm.val
def okAt (rm : List Rm) (F : List Pl) (j : Nat) : Bool := okPl (nums rm) (j : Int) (F.getD j .floor)
/-- made_forest: what is refused -/
def fBad (rm : List Rm) (F : List Pl) : Option (Ec × Nat) := match fst (okRm rm) rm.length with
  | some j => some (.rooms, j)
  | none => match fst (okAt rm F) F.length with
    | some j => some (.forest, j)
    | none => match fst (fun j => !inSelf F j) F.length with
      | some j => some (.ring, j)
      | none => none
/-- the rest of hung -/
def rest (rm : List Rm) (F : List Pl) (x : Int) (p : Pl) : Out :=
  if 0 ≤ x ∧ x < rm.length then
    if okPl (nums rm) x p = true then
      match p with
      | .at h r => if x ∈ anc F F.length h then .bad .within (.int h) else .told (F.set x.toNat (.at h r))
      | q => .told (F.set x.toNat q)
    else .bad .place p.dat
  else .bad .thing (.int x)
def out (rm : List Rm) (F : List Pl) (x : Int) (p : Pl) : Out := match fBad rm F with
  | some (c, j) => .bad c (.int j)
  | none => rest rm F x p
/-- what heard and due tell -/
def Out.text : Out → PyData
  | .bad c w => .list [.str "refused", .list [.str "ValueError", .str c.name], .str w.shown]
  | .told F => .list [.str "told", .str (PyData.tuple (F.map Pl.dat)).shown]
end Ns
/-! repr of data; defs that must know that no repr is running; enumerate of a tuple; the end -/
namespace Ns
open PySem PySem.Spec PyProof.Rows L2
/-! ### repr(v), v data -/
def rRepr (K : PySem.W.Frag) : List V → Hp → VK → Prop := fun xs H Q => ∃ (v : V) (d : PyData), xs = [v] ∧ Dp K H v d ∧ d.showable = true ∧ d.hasDict = false ∧ d.shown.length ≤ sizeLine ∧ d.depth ≤ 60 ∧ Q (.str d.shown) H
theorem call_reprD {X : Cx} (hg : X.A.guards = some []) (hu : X.A.units + 64 < cLine) : CallR X (.builtin "repr") (rRepr X.K) := by
  intro pins s σ H xs us Q I r h
  obtain ⟨v, d, rfl, hd, sh, nd, hz, dep, q⟩ := h
  obtain ⟨u, rfl, ru⟩ := vals1 r
  obtain ⟨as, rd⟩ := Dp.reads I d v u hd ru
  have go : ∀ a : Addr, u = .ref a → wpAny (model X.prog X.w) X.A (call (.builtin "repr") [u]) (EP X pins σ Q) X.xe s := fun a e => by
    subst e
    exact repr_of_reads' rd sh (PyData.noDict_hsm nd) hg (by omega) (fun _ _ e => e) (fun h' t tk k => ⟨.str d.shown, H, I.kept (t' := tk) k, ⟨t, rfl⟩, q⟩) hz
  cases hd with
  | non =>
    cases ru
    exact PySem.P.repr_of_none ⟨.str _, H, I.tok _, ⟨_, rfl⟩, by simpa only [PyData.shown] using q⟩
  | bl b =>
    cases ru
    exact PySem.P.repr_of_bool ⟨.str _, H, I.tok _, ⟨_, rfl⟩, by simpa only [PyData.shown] using q⟩
  | int i =>
    obtain ⟨t, rfl⟩ := ru
    exact PySem.P.repr_of_int (by simpa [PyData.showable] using sh) ⟨.str _, H, I.tok _, ⟨_, rfl⟩, by simpa only [PyData.shown] using q⟩
  | str x =>
    obtain ⟨t, rfl⟩ := ru
    exact PySem.P.repr_of_str ⟨.str _, H, I.tok _, ⟨_, rfl⟩, by simpa only [PyData.shown] using q⟩ (by simpa only [PyData.shown] using hz)
  | lst hs ha => exact go _ ru
  | tup hs ha => exact go _ ru
theorem rRepr_of {K : PySem.W.Frag} {H : Hp} {Q : VK} {v : V} {d : PyData} {n : Nat} (hd : Dp K H v d) (s : Sm n 60 d) (hn : n ≤ 16777216) (q : Q (.str d.shown) H) : rRepr K [v] H Q :=
  ⟨v, d, rfl, hd, s.sh, s.nd, Nat.le_trans s.len (by rw [sizeLine_eq]; exact hn), s.dep, q⟩
/-! ### defs called where no repr is running -/
structure FnG (P : Program) (w : World) (K : PySem.W.Frag) (mg : Str → Option Value) (base : Heap) (CX : CXT) (k : Nat) (f : Addr) (fd : FuncData) (ps : List Str) (sp : Sp) : Prop where
  len : ∀ vs H Q E, sp vs H Q E → vs.length = ps.length
  run : ∀ (A : Around) (outer : List Env) (s : Shared) (H : Hp) (args : Args) (us : List Value) (vs : List V) (Q : VK) (E : XK), Room k A → A.guards = some [] → Env0 P w K mg base A outer s H → BindsTo s fd args (ps.zip us) → Vals vs us → sp vs H Q E →
    codeAny (model P w) A (.call (.ref f) args) (CR CX outer P w H s Q E) s
section
variable {P : Program} {w : World} {K : PySem.W.Frag} {mg : Str → Option Value} {base : Heap}
theorem Fun.okG {CX : CXT} {x qual : Str} {st : Stmt} {f : Addr} {fd : FuncData} {N ps : List Str} {k : Nat} {sp : Sp} (F : L2.Fun K x qual st f fd) (S : FnScope N ps (defScope st)) (len : ∀ vs H Q E, sp vs H Q E → vs.length = ps.length)
    (hbody : ∀ (cdv : Value) (A : Around) (outer : List Env) (s : Shared) (H : Hp) (vs : List V) (Q : VK) (E : XK), Room k (A.deeper (envOfC qual (defScope st) s.heap.objs.size f cdv)) → (A.deeper (envOfC qual (defScope st) s.heap.objs.size f cdv)).guards = some [] → sp vs H Q E →
      (∃ od oc kV doc pm an ct osl, K.lookup f = some ⟨oc, od, .func (PySem.W.fnOf x qual (defArgs st) (defBody st) (defScope st) .none kV doc pm an cdv ct), osl⟩) →
      ∃ t, PSs (cxOf CX P w K mg base N qual (defScope st) f cdv A outer s H E) (defBody st) t ∧ t { nx := fun _ H' => Q .non H', rt := Q } (L2.start N vs) H) : FnG P w K mg base CX (k + 1) f fd ps sp := by
  obtain ⟨oc, od, kV, doc, pm, an, cdv, ct, osl, rfl, lk, hcd⟩ := F.ex
  refine ⟨len, fun A outer s H args us vs Q E hr hg e0 hb r hsp => ?_⟩
  have hl := len _ _ _ _ hsp
  have KX : K.In s.heap := e0.mod.kin.keeps fun b o e => (e0.bs b o e).1
  have lim : s.heap.NoLimit := e0.mod.nolimit.keeps fun b o e => (e0.bs b o e).1
  have hkind : ∀ y ∈ ps.zip us, (defScope st).names.lookup y.1 = some .local ∨ ((defScope st).names.lookup y.1 = some .cell ∧ ((cellsFrom (s.heap.objs.size + 1) (defScope st).names []).lookup y.1).isSome = true) := fun ⟨n, v⟩ hy => by
    rcases S.par n (List.of_mem_zip hy).1 with q | q
    · exact .inl q
    · exact .inr ⟨q, PySem.W.cellsFrom_some _ _ _ (.inl q)⟩
  refine codeAny_call_function hr.depth (KX _ _ lk) rfl S.co S.gen rfl (PySem.W.codeRec_of KX hcd) (hb _ _ _ _ ?_)
  refine wpAny_newFunctionEnv_cells S.kind hkind fun env he s1 x => ?_
  subst he
  refine ⟨lim.keeps x.toInCall.keep, codeAny_func ?_⟩
  obtain ⟨t, ht, hq⟩ := hbody cdv A outer s H vs Q E (hr.deeper _) hg hsp ⟨_, _, _, _, _, _, _, _, lk⟩
  have I := inv_start (CX := CX) (E := E) (f := f) (cd := cdv) S hr.hd e0 hl r x
  refine wpAny_mono (ht.run [] s1 (L2.start N vs) H _ I hq) (fun fl s' hs => ?_) fun e s' hs => hs
  have fin : ∀ {σ' : St} {H' : Hp} {v : V} {u : Value}, Inv (cxOf CX P w K mg base N qual (defScope st) f cdv A outer s H E) [] σ' H' s' → RelV v u → Q v H' → CE outer P w H s Q u s' :=
    fun {σ' H' v u} J rv q => ⟨v, H', J.os, J.bare, J.base, J.hok, rv, q⟩
  cases fl with
  | ret u =>
    obtain ⟨v, σ', H', J, rv, q⟩ := hs
    exact fin J rv q
  | next =>
    obtain ⟨σ', H', J, q⟩ := hs
    exact fin (v := V.non) (u := Value.none) J rfl q
  | brk =>
    obtain ⟨_, _, _, q⟩ := hs
    exact False.elim q
  | cont =>
    obtain ⟨_, _, _, q⟩ := hs
    exact False.elim q
end
section
variable {X : Cx} {CX : CXT} {k : Nat} {f : Addr} {fd : FuncData} {ps : List Str} {sp : Sp} {E : XK} {x : Str} {p pos : Pos} {e : Expr} {es : List Expr} {t : TA}
theorem pe_callG (F : FnG X.prog X.w X.K X.mg X.base CX k f fd ps sp) (hr : Room k X.A) (hgd : X.A.guards = some []) (hg : Gl X x) (hm : X.mg x = some (.ref f)) (hk : PySem.W.keepIn X.K (.ref f) = true) (hb : Binds X.K fd ps []) (hx : Passes CX X E)
    (ha : PA X (e :: es) t) (hdb : (x == ("__debug__" : Str)) = false := by decide) (he : starEach (e :: es) X.env = (false, eval e X.env) :: starEach es X.env := by rfl) (hpl : (backTo pos (starEach es X.env)).any (·.1) = false := by rfl) :
    PE X (.Call (.Name x p) (e :: es) [] pos) (tCall sp [] E t) := by
  refine ⟨fun pins s σ H Q I h => ?_⟩
  refine wpAny_Call_Name_kw (ld_glob I hg hm ?_ hdb)
  refine PySem.W.callWith_K (h₀ := X.base) I.ok.mod.kin hk (thn (ha.run pos pins s σ H _ I h) fun us s1 ⟨vs, H1, I1, r, q⟩ => ⟨I1.kIn, ?_⟩) he hpl
  have q : sp (vs ++ []) H1 Q E := q
  rw [List.append_nil] at q
  have hl : us.length = ps.length := by rw [← r.length]; exact F.len _ _ _ _ q
  have b := hb s1 us I1.kIn (by rw [List.append_nil]; exact hl)
  rw [List.append_nil] at b
  refine wpAny_call (codeAny_mono (F.run X.A X.stack s1 H1 ⟨us, []⟩ us vs Q E hr hgd I1.env0 b r q) fun r s' hq => ?_)
  cases r with
  | error e => exact hx pins σ H1 s1 e s' I1 hq
  | ok fl =>
    cases fl with
    | ret u => exact I1.after hq
    | next => exact False.elim hq
    | brk => exact False.elim hq
    | cont => exact False.elim hq
end
/-! ### for i, x in enumerate(t), t a tuple -/
def Iet (K : PySem.W.Frag) (a : Addr) : It :=
  ⟨fun i H => ∃ (xs : List V) (x : V), SqT K H a xs ∧ xs[i]? = some x, fun i H v H' => ∃ T x, v = .ref T ∧ H T = none ∧ H' = upd H T (.tup [.int (i : Nat), x]) ∧ ∀ xs, SqT K H a xs → xs[i]? = some x, fun i H => ∃ xs : List V, SqT K H a xs ∧ xs.length = i⟩
theorem isTuple_of {h : Heap} {a : Addr} {items : Array Value} (p : IsTup h a items) : h.IsTuple a items := p
theorem turn_enumT {P : Program} {w : World} {K : PySem.W.Frag} {elts : List Expr} {kk : Nat} {tpos : Pos} (a e it : Addr) :
    Turn P w K (.Tuple elts kk tpos) (Iet K a) [e, it] e (fun i h => (∃ old, IsEnum h e it ((i : Nat) : Int) old) ∧ h.IsTupleIter it a i ∧ e ≠ it ∧ a ≠ it ∧ a ≠ e) where
  mem := by simp
  obj := fun i h st b hb => by
    obtain ⟨⟨old, he⟩, ⟨o, ho, hc, hd⟩, _⟩ := st
    have e' : b = e ∨ b = it := by simpa using hb
    rcases e' with z | z
    · rw [z]; exact ⟨_, he, fun v q => nomatch q⟩
    · rw [z]; exact ⟨o, ho, fun v q => by rw [hd] at q; cases q⟩
  keep := fun i h h' st k => let ⟨⟨old, he⟩, hi, hne⟩ := st; ⟨⟨old, k e (by simp) _ he⟩, hi.at fun o q => k it (by simp) o q, hne⟩
  item := by
    intro X hP hw hK hc i pins s σ H E I hf st hg
    subst hP hw hK
    obtain ⟨⟨old, he⟩, hit, hne, nai, nae⟩ := st
    obtain ⟨xs, x, hq, hx⟩ := hg
    obtain ⟨its, rv, p, hz⟩ := I.tuple hq
    obtain ⟨u, hu, ru⟩ := rv.get hx
    have hel : e < s.heap.objs.size := Heap.lt_size he
    have hil : it < s.heap.objs.size := by obtain ⟨_, q, _⟩ := hit; exact Heap.lt_size q
    have hil2 : i < its.toArray.size := by
      obtain ⟨z, _⟩ := List.getElem?_eq_some_iff.mp hu
      simpa using z
    have nea : e ∉ [it, a] := fun hm => by
      rcases List.mem_cons.mp hm with z | hm
      · exact hne z
      · rcases List.mem_cons.mp hm with z | hm
        · exact nae z.symm
        · exact absurd hm (by simp)
    refine wpAny_pyNext_enum_itemD (Draws.tuple (prog := X.prog) (w := X.w) (A := X.A.in1) (I.ok.hd hc) it a nai its.toArray) he ⟨hit, isTuple_of p⟩ hil2 hne nea fun y h' tk hP ho hst' hT hsz hk => ?_
    have ey : y = u := by
      have hP : its.toArray[i]? = some y := hP
      rw [show its.toArray[i]? = some u by simpa using hu] at hP
      exact (Option.some.inj hP).symm
    subst ey
    refine ⟨_, rfl, wpAny_letOwnedTupleGo_enum (s := { s with heap := h', toks := tk + 1 }) ho fun h'' he' sb => ?_⟩
    have hT2 : h''.get? s.heap.objs.size = some { cls := .type "tuple", data := .seq #[.int i tk, y] } := (sb.2 _ (Nat.ne_of_gt hel)).trans hT
    have new : ObjOk X.prog X.w (upd H s.heap.objs.size (.tup [.int (i : Nat), x])) h'' s.heap.objs.size (.tup [.int (i : Nat), x]) :=
      ⟨by show 2 ≤ sizeLine; decide, [.int i tk, y], .cons ⟨_, rfl⟩ (.cons ru .nil), ⟨_, hT2, rfl, _, rfl⟩⟩
    have I1 : Inv X pins σ (upd H s.heap.objs.size (.tup [.int (i : Nat), x])) { s with heap := h'', toks := tk + 1 } :=
      I.turnedNew (ch := [e, it]) (fun b ob hb q => (sb.2 b (fun z => hb (by simp [z]))).trans (hk b ob (fun z => hb (by simp [z])) (fun z => hb (by simp [z])) q)) hf (Nat.le_refl _) new
    refine ⟨.ref s.heap.objs.size, _, I1, rfl, ⟨_, x, rfl, I.hok.fresh (Nat.le_refl _), rfl, fun ys hy => by rw [I.tuple_inj hy hq]; exact hx⟩, ⟨⟨y, ?_⟩, hst'.1.at fun o q => (sb.2 it (Ne.symm hne)).trans q, hne, nai, nae⟩, fun b hb => ?_⟩
    · have e1 : ((i + 1 : Nat) : Int) = (i : Int) + 1 := by omega
      rw [e1]; exact he'
    · have hb' : b < s.heap.objs.size := by
        have e' : b = e ∨ b = it := by simpa using hb
        rcases e' with z | z
        · rw [z]; exact hel
        · rw [z]; exact hil
      rw [upd_ne (Nat.ne_of_lt hb')]
      exact (hf b hb).1
  done := by
    intro X hP hw hK hc i pins s σ H E I hf st hg
    subst hP hw hK
    obtain ⟨⟨old, he⟩, hit, hne, nai, nae⟩ := st
    obtain ⟨xs, hq, hx⟩ := hg
    obtain ⟨its, rv, p, hz⟩ := I.tuple hq
    obtain ⟨f0, f1, f2, f3, f4, f5⟩ := hf it (by simp)
    have hl := rv.length
    have D := Draws.tuple (prog := X.prog) (w := X.w) (A := X.A.in1) (I.ok.hd hc) it a nai its.toArray
    have ei : i = its.toArray.size := by rw [List.size_toArray]; omega
    rw [ei] at hit
    exact wpAny_pyNext_enum_endD D he ⟨hit, isTuple_of p⟩ fun h' eb => ⟨rfl, I.turned (t' := s.toks) (fun b o hb q => eb b o hb q) f0 f1 f3 f4 f5⟩
  self := fun A i s Q E st h => let ⟨⟨_, he⟩, _⟩ := st; wpAny_pyIter_enum he h
theorem meets_enumerate_new1 {v : Value} {o : Obj} {H : Heap → Prop} (B : Begins v o H) :
    Meets (Builtin.«enumerate.__new__» ⟨[.type "enumerate", v], []⟩) (fun _ R s => H s.heap ∧
      R (.ok (.ret (.ref (s.heap.push o).objs.size))) { s with heap := (s.heap.push o).push { cls := .type "enumerate", data := .fields #[.none, .bool false, .ref s.heap.objs.size, rawInt 0, .none, .none] } }) :=
  .of_wp fun prog w A R s h => by
    obtain ⟨hp, g, d, tk, os⟩ := s; obtain ⟨h1, h⟩ := h
    have hsub := sub_enumerate
    have q1 : ∀ {A' : Around} {E : Value → Shared → Prop} {Q : Value → Shared → Prop}, Q (.ref hp.objs.size) ⟨hp.push o, g, d, tk, os⟩ → wpAny (model prog w) A' (pyIter v) Q E ⟨hp, g, d, tk, os⟩ :=
      fun q => B.iter prog w _ _ ⟨hp, g, d, tk, os⟩ _ h1 q
    wp_walk using q1
    refine wpAny_stack_any fun st => wpAny_pure ?_
    split
    · rename_i c _ _ _ _ _
      cases (c == Value.type "enumerate")
      · wp_walk using q1
        exact ⟨_, rfl, h⟩
      · wp_walk using q1
        exact ⟨_, rfl, h⟩
    · wp_walk using q1
      exact ⟨_, rfl, h⟩
theorem call_enumerate_tuple {prog : Program} {w : World} {A : Around} {E : Value → Shared → Prop} {s : Shared} {l : Addr} {items : Array Value} {Q : Value → Shared → Prop} (hL : s.heap.IsTuple l items)
    (h : ∀ h', IsEnum h' (s.heap.objs.size + 1) s.heap.objs.size 0 .none → h'.IsTupleIter s.heap.objs.size l 0 →
      (∀ b o, s.heap.get? b = some o → h'.get? b = some o) → Q (.ref (s.heap.objs.size + 1)) { s with heap := h' }) :
    wpAny (model prog w) A (call (.type "enumerate") [.ref l]) Q E s := by
  refine callType_new F.called_enumerate (by decide) (F.typeCall_enumerate_1 _) (F.newCall_enumerate_1 _) (fun obj => F.args_object_init_2 obj _) F.entry_enumerate_new
    (meets_enumerate_new1 (begins_tuple l items)) ⟨hL, ?_⟩
  have hz : (s.heap.push { cls := .type "tuple_iterator", data := .fields #[.ref l, .int 0 0] }).objs.size = s.heap.objs.size + 1 := Heap.size_push ..
  show _ ∧ _
  rw [hz]
  have he : IsEnum ((s.heap.push { cls := .type "tuple_iterator", data := .fields #[.ref l, .int 0 0] }).push
      { cls := .type "enumerate", data := .fields #[.none, .bool false, .ref s.heap.objs.size, rawInt 0, .none, .none] }) (s.heap.objs.size + 1) s.heap.objs.size 0 .none := by
    have := Heap.get?_push_size (s.heap.push { cls := .type "tuple_iterator", data := .fields #[.ref l, .int 0 0] })
      (o := { cls := .type "enumerate", data := .fields #[.none, .bool false, .ref s.heap.objs.size, rawInt 0, .none, .none] }) rfl
    rw [hz] at this; exact this
  refine ⟨⟨_, he, rfl⟩, h _ he ⟨_, Heap.get?_push_of_some _ (Heap.get?_push_size _ rfl), rfl, rfl⟩ fun b o x => Heap.get?_push_of_some _ (Heap.get?_push_of_some _ x)⟩
def iEnumT (K : PySem.W.Frag) (ta : TA) : TI := fun σ H R => ta σ H fun vs H1 => ∃ a xs, vs = [.ref a] ∧ SqT K H1 a xs ∧ R (Iet K a) H1
theorem pi_enumT {X : Cx} {e : Expr} {ta : TA} {p pos tpos : Pos} {elts : List Expr} {kk : Nat} (hg : Gl X "enumerate") (hm : X.mg "enumerate" = none) (ha : PA X [e] ta) (hs : starEach [e] X.env = [(false, eval e X.env)] := by rfl) :
    PI X (.Tuple elts kk tpos) (.Call (.Name "enumerate" p) [e] [] pos) (iEnumT X.K ta) := by
  refine ⟨fun pins s σ H R I h => ?_⟩
  refine Call_ (ld_blt I hg hm boot_enumerate (PyProof.Rows.callWith_type1 (thn (ha.run pos pins s σ H _ I h) fun us s1 ⟨vs, H1, I1, r1, q1⟩ => ?_) hs rfl))
  obtain ⟨a, xs, ex, hq, q⟩ := q1
  subst ex
  cases r1 with
  | cons r rr =>
    cases rr
    cases r
    obtain ⟨its, rv, p', hz⟩ := I1.tuple hq
    have hla : a < s1.heap.objs.size := by
      obtain ⟨o, ho, _⟩ := p'
      exact Heap.lt_size ho
    refine call_enumerate_tuple (isTuple_of p') fun h' he hit hk => wpAny_pyIter_enum he ?_
    have I2 : Inv X pins σ H1 { s1 with heap := h' } := I1.kept (t' := s1.toks) hk
    refine ⟨s1.heap.objs.size + 1, [s1.heap.objs.size + 1, s1.heap.objs.size], _, _, H1, rfl, I2, turn_enumT a (s1.heap.objs.size + 1) s1.heap.objs.size, ⟨⟨.none, he⟩, hit, Nat.succ_ne_self _, Nat.ne_of_lt hla, Nat.ne_of_lt (Nat.lt_succ_of_lt hla)⟩, fun b hb => ?_, q⟩
    have e' : b = s1.heap.objs.size + 1 ∨ b = s1.heap.objs.size := by simpa using hb
    have hle : s1.heap.objs.size ≤ b := by
      rcases e' with z | z
      · rw [z]; exact Nat.le_add_right _ _
      · rw [z]; exact Nat.le_refl _
    exact I1.fpOk hle (I1.hok.fresh hle)
theorem for_enumT {K : PySem.W.Frag} {a : Addr} {xs : List V} {g : TG} {tb : TS} {D : Ends} {σ : St} {H : Hp} (Pv : Nat → St → Hp → Prop) (h0 : Pv 0 σ H) (hl : ∀ i σ H, i ≤ xs.length → Pv i σ H → SqT K H a xs)
    (hs : ∀ i x T σ H, xs[i]? = some x → H T = none → Pv i σ H → g (.ref T) σ (upd H T (.tup [.int (i : Nat), x])) fun σ2 H2 => tb { D with nx := Pv (i + 1), ct := Pv (i + 1), bk := D.nx } σ2 H2) (hd : ∀ σ H, Pv xs.length σ H → D.nx σ H) :
    ∃ W : Nat → Nat → St → Hp → Prop, (∃ m, W 0 m σ H) ∧ ∀ i m σ H, W i m σ H →
      ((Iet K a).stop i H ∧ D.nx σ H) ∨ ((Iet K a).go i H ∧ ∃ N : St → Hp → Prop, (∀ σ' H', N σ' H' → ∃ m', m' < m ∧ W (i + 1) m' σ' H') ∧ ∀ x H', (Iet K a).yld i H x H' → g x σ H' fun σ2 H2 => tb { D with nx := N, ct := N, bk := D.nx } σ2 H2) := by
  refine ⟨fun i m σ H => m = xs.length - i ∧ i ≤ xs.length ∧ Pv i σ H, ⟨xs.length, by simp, Nat.zero_le _, h0⟩, ?_⟩
  rintro i m σ H ⟨rfl, hi, p⟩
  have q := hl i σ H hi p
  by_cases hlt : i < xs.length
  · refine .inr ⟨⟨xs, xs[i], q, by simp [hlt]⟩, Pv (i + 1), fun σ' H' p' => ⟨xs.length - (i + 1), by omega, rfl, hlt, p'⟩, fun x H' y => ?_⟩
    obtain ⟨T, z, e1, e2, e3, y⟩ := y
    subst e1 e3
    exact hs i z T σ _ (y xs q) e2 p
  · have e : i = xs.length := by omega
    subst e
    exact .inl ⟨⟨xs, q, rfl⟩, hd σ H p⟩
end Ns
/-! where an exception is handled: a def called with it; isinstance of it; a list comprehension -/
namespace Ns
open PySem PySem.Spec PyProof.Rows L2 HotX
open L2H (RoomH Hot1 PinOk cxH inv_startH)
section
variable {prog : Program} {w : World} {A : Around} {E : Value → Shared → Prop} {s : Shared}
theorem pyNext_list_end_hot {it l x1 : Addr} {i : Nat} {items : Array Value} {Q : Option Value → Shared → Prop} (hot : HotAt A x1 s.heap) (hne : x1 ≠ it)
    (hit : s.heap.IsListIter it l i) (hl : s.heap.IsList l items) (hx : items[i]? = none)
    (hQ : ∀ h', Heap.ExtBut it s.heap h' → Q none { s with heap := h' }) : wpAny (model prog w) A (pyNext (.ref it)) Q E s := by
  obtain ⟨o, ho, hc, hd⟩ := id hit
  obtain ⟨ol, hol, _, nl, hdl⟩ := hl
  obtain ⟨hh, o1, vs1, h1, d1, c1⟩ := hot
  unfold pyNext
  refine wpAny_bind (wpAny_attempt (wpAny_callSpecial?_slot (name := Str.ofString "__next__") hit.typeIs slot_listiter_next
    (wpAny_call_entry slot_listiter_next hit.typeIs entry_listiter_next ?_ (args_listiter_next _))))
  show wpAny _ _ (field (.ref it) 0 >>= _) _ _ s
  refine wpAny_bind (wpAny_field ho hd (x := .ref l) rfl ?_)
  show wpAny _ _ (if (Value.ref l == Value.none) = true then _ else _) _ _ s
  rw [if_neg (show ¬ ((Value.ref l == Value.none) = true) from Bool.false_ne_true)]
  show wpAny _ _ (field (.ref it) 1 >>= _) _ _ s
  refine wpAny_bind (wpAny_field ho hd (x := .int i 0) rfl ?_)
  show wpAny _ _ (seqItems? (.ref l) >>= _) _ _ s
  refine wpAny_bind (wpAny_seqItems hol hdl ?_)
  simp only [Int.toNat_natCast, hx]
  refine wpAny_bind (wpAny_rule (wpAny_bind (wpAny_setField ho hd (by simp) ?_)))
  show wpAny _ _ (newExc (.type "StopIteration") [] >>= _) _ _ _
  refine wpAny_bind ?_
  simp only [newExc, newTuple]
  refine wpAny_bind (wpAny_newObj_type ?_ (by size_fits))
  refine wpAny_bind (m := firstArgMember _ _) (wpAny_of_eq (a := Value.none) (by first | rfl | (simp only [firstArgMember]; rfl)) ?_)
  refine wpAny_newObj_type ?_ (by size_fits)
  have sb : Heap.SameBut it s.heap (s.heap.update it (Obj.mapFields (·.setIfInBounds 0 .none))) := Heap.SameBut.update ..
  have g1 := (sb.2 x1 hne).trans h1
  refine raiseNew_hot (x1 := x1) ⟨hh, o1, vs1, Heap.get?_push_of_some _ (Heap.get?_push_of_some _ g1), d1, c1⟩ (Nat.ne_of_lt (Heap.lt_size (Heap.get?_push_of_some _ g1))) (Heap.get?_push_size _ rfl) rfl (by first | (simp; done) | (simp; omega) | (simp only [Array.size_append]; simp; omega)) ?_
  refine wpAny_bind (wpAny_isInstance (T := "StopIteration") (b := true) ⟨_, Heap.get?_update_self _ (Heap.get?_push_size _ rfl) rfl, rfl⟩ isSubtype_stop ?_)
  refine wpAny_pure (hQ _ fun b o hb e => ?_)
  have e1 := (sb.2 b hb).trans e
  rw [Heap.get?_update_other _ _ (Nat.ne_of_gt (Heap.lt_size (Heap.get?_push_of_some _ e1)))]
  exact Heap.get?_push_of_some _ (Heap.get?_push_of_some _ e1)
end
/-! ### a def called with the handled exception -/
structure FnE (P : Program) (w : World) (K : PySem.W.Frag) (mg : Str → Option Value) (base : Heap) (k : Nat) (f : Addr) (fd : FuncData) (ps : List Str) (sp : Addr × Obj → Sp) : Prop where
  len : ∀ p vs H Q E, sp p vs H Q E → vs.length = ps.length
  run : ∀ (A : Around) (outer : List Env) (s : Shared) (H : Hp) (args : Args) (us : List Value) (vs : List V) (Q : VK) (E : XK) (p : Addr × Obj), RoomH k A → Hot1 A p → PinOk outer H s p → Env0 P w K mg base A outer s H → BindsTo s fd args (ps.zip us) → Vals vs us → sp p vs H Q E →
    codeAny (model P w) A (.call (.ref f) args) (CR CX0 outer P w H s Q E) s
theorem Fun.okE {P : Program} {w : World} {K : PySem.W.Frag} {mg : Str → Option Value} {base : Heap} {k : Nat} {f : Addr} {x qual : Str} {st : Stmt} {fd : FuncData} {N ps : List Str} {sp : Addr × Obj → Sp} (F : L2.Fun K x qual st f fd) (S : FnScope N ps (defScope st))
    (len : ∀ p vs H Q E, sp p vs H Q E → vs.length = ps.length)
    (hbody : ∀ (cdv : Value) (A : Around) (outer : List Env) (s : Shared) (H : Hp) (vs : List V) (Q : VK) (E : XK) (p : Addr × Obj), Hot1 A p → RoomH k (A.deeper (envOfC qual (defScope st) s.heap.objs.size f cdv)) → sp p vs H Q E →
      ∃ t, PSs (cxH CX0 P w K mg base N qual (defScope st) f cdv A outer s H E p).nox (defBody st) t ∧ t { nx := fun _ H' => Q .non H', rt := Q } (L2.start N vs) H) :
    FnE P w K mg base (k + 1) f fd ps sp := by
  obtain ⟨oc, od, kV, doc, pm, an, cdv, ct, osl, rfl, lk, hcd⟩ := F.ex
  refine ⟨len, fun A outer s H args us vs Q E p hr hot hpin e0 hb r hsp => ?_⟩
  have hl := len _ _ _ _ _ hsp
  have KX : K.In s.heap := e0.mod.kin.keeps fun b o e => (e0.bs b o e).1
  have lim : s.heap.NoLimit := e0.mod.nolimit.keeps fun b o e => (e0.bs b o e).1
  have hkind : ∀ y ∈ ps.zip us, (defScope st).names.lookup y.1 = some .local ∨ ((defScope st).names.lookup y.1 = some .cell ∧ ((cellsFrom (s.heap.objs.size + 1) (defScope st).names []).lookup y.1).isSome = true) := fun ⟨n, v⟩ hy => by
    rcases S.par n (List.of_mem_zip hy).1 with q | q
    · exact .inl q
    · exact .inr ⟨q, PySem.W.cellsFrom_some _ _ _ (.inl q)⟩
  refine codeAny_call_function hr.depth (KX _ _ lk) rfl S.co S.gen rfl (PySem.W.codeRec_of KX hcd) (hb _ _ _ _ ?_)
  refine wpAny_newFunctionEnv_cells S.kind hkind fun env he s1 x => ?_
  subst he
  refine ⟨lim.keeps x.toInCall.keep, codeAny_func ?_⟩
  obtain ⟨t, ht, hq⟩ := hbody cdv A outer s H vs Q E p hot (hr.deeper _) hsp
  have I : Inv (cxH CX0 P w K mg base N qual (defScope st) f cdv A outer s H E p) [] (L2.start N vs) H s1 := inv_startH S hpin e0 hl r x
  refine wpAny_mono (ht.nox.run [] s1 (L2.start N vs) H _ I hq) (fun fl s' hs => ?_) fun e s' hs => hs
  have fin : ∀ {σ' : St} {H' : Hp} {v : V} {u : Value}, Inv (cxH CX0 P w K mg base N qual (defScope st) f cdv A outer s H E p) [] σ' H' s' → RelV v u → Q v H' → CE outer P w H s Q u s' :=
    fun {σ' H' v u} J rv q => ⟨v, H', J.os, J.bare, J.base, J.hok, rv, q⟩
  cases fl with
  | ret u =>
    obtain ⟨v, σ', H', J, rv, q⟩ := hs
    exact fin J rv q
  | next =>
    obtain ⟨σ', H', J, q⟩ := hs
    exact fin (v := V.non) (u := Value.none) J rfl q
  | brk =>
    obtain ⟨_, _, _, q⟩ := hs
    exact False.elim q
  | cont =>
    obtain ⟨_, _, _, q⟩ := hs
    exact False.elim q
theorem pe_callE {X : Cx} {k : Nat} {f : Addr} {fd : FuncData} {ps : List Str} {sp : Addr × Obj → Sp} {x : Str} {q pos : Pos} {e : Expr} {es : List Expr} {t : TA} {pe : Addr × Obj} (F : FnE X.prog X.w X.K X.mg X.base k f fd ps sp) (hr : RoomH k X.A) (hot : Hot1 X.A pe) (hp : pe ∈ X.pn) (hg : Gl X x) (hm : X.mg x = some (.ref f)) (hk : PySem.W.keepIn X.K (.ref f) = true) (hb : Binds X.K fd ps [])
    (ha : PA X (e :: es) t) (hdb : (x == ("__debug__" : Str)) = false := by decide) (he : starEach (e :: es) X.env = (false, eval e X.env) :: starEach es X.env := by rfl) (hpl : (backTo pos (starEach es X.env)).any (·.1) = false := by rfl) :
    PE X (.Call (.Name x q) (e :: es) [] pos) (fun σ H Q => t σ H fun vs H1 => sp pe vs H1 Q E0) := by
  refine ⟨fun pins s σ H Q I h => ?_⟩
  refine wpAny_Call_Name_kw (ld_glob I hg hm ?_ hdb)
  refine PySem.W.callWith_K (h₀ := X.base) I.ok.mod.kin hk (thn (ha.run pos pins s σ H _ I h) fun us s1 ⟨vs, H1, I1, r, q⟩ => ⟨I1.kIn, ?_⟩) he hpl
  have hl : us.length = ps.length := by rw [← r.length]; exact F.len _ _ _ _ _ q
  have b := hb s1 us I1.kIn (by rw [List.append_nil]; exact hl)
  rw [List.append_nil] at b
  have P1 := I1.pin pe (List.mem_append_left _ hp)
  have hpin : PinOk X.stack H1 s1 pe := ⟨P1.1, P1.2.1, fun hm => (List.mem_cons.mp (I1.stkSub pe.1 hm)).elim P1.2.2.1 P1.2.2.2.1, P1.2.2.2.2⟩
  refine wpAny_call (codeAny_mono (F.run X.A X.stack s1 H1 ⟨us, []⟩ us vs Q E0 pe hr hot hpin I1.env0 b r q) fun r s' hq => ?_)
  cases r with
  | error e => exact (show False from hq).elim
  | ok fl =>
    cases fl with
    | ret u => exact I1.after hq
    | next => exact False.elim hq
    | brk => exact False.elim hq
    | cont => exact False.elim hq
/-! ### isinstance(e, c), e the handled error, its dict tracked -/
structure ErrK (K : PySem.W.Frag) (C : Addr) : Prop where
  cl : (PySem.W.clsIn K C).isSome = true
  ga : PySem.W.findIn K (.ref C) "__getattribute__" = some (some (.builtin "BaseException.__getattribute__"))
  gt : PySem.W.findIn K (.ref C) "__getattr__" = some none
  ex : PySem.W.subIn K (.ref C) (.type "BaseException") = some true
  ca : PySem.W.findIn K (.ref C) "__class__" = some (some (.builtin "object.__class__"))
  gn : PySem.W.specialIn K (.builtin "object.__class__") "__get__" = some (some (.builtin "getset_descriptor.__get__"))
  tk : PySem.W.takesIn K (.builtin "object.__class__") = some true
  mo : PySem.W.mroIn K C (.type "object") = some true
  hd : PySem.W.hasDictIn K C = true
  noN : PySem.W.findIn K (.ref C) "what" = some none
theorem inst_of {P : Program} {w : World} {H : Hp} {h : Heap} {p : Addr × Obj} {C d : Addr} {fs : List (Str × V)} (hok : HOk P w H h) (hg : h.get? p.1 = some p.2) (hz : Zc (.ref C) (some d) p.2) (hf : ∃ vs, p.2.data = .fields vs) (hd : H d = some (.xd fs)) :
    ∃ od, PySem.W.InstAt h p.1 p.2 C (some od) ∧ ∀ name v, fs.lookup name = some v → ∃ u, PySem.W.lookIn name od = some (some u) ∧ RelV v u := by
  obtain ⟨vs, hv⟩ := hf
  obtain ⟨mA, hns, hr⟩ := (show ObjOk P w H h d (.xd fs) from hok d _ hd)
  obtain ⟨od, ho, hl⟩ := lookIn_ns hns
  refine ⟨od, ⟨hg, hz.1, by unfold PySem.W.notCls; rw [hv] <;> rfl, by rw [hz.2]; exact ho⟩, fun name v e => ?_⟩
  obtain ⟨u, hu, ru⟩ := RelO.some_of (v := v) (o := mA name) (by rw [← e]; exact hr name)
  exact ⟨u, by rw [hl, hu], ru⟩
def rIsX (K : PySem.W.Frag) (C d a : Addr) : List V → Hp → VK → Prop := fun xs H Q => ∃ (c : V) (cv : Value) (b : Bool) (fs : List (Str × V)), xs = [.ref a, c] ∧ H d = some (.xd fs) ∧ ClsV c cv ∧ PySem.W.kitOne K (.ref C) cv = some b ∧ Q (.bl b) H
theorem call_isX {X : Cx} {p : Addr × Obj} {C d : Addr} (T : ErrK X.K C) (hp : p ∈ X.pn) (hz : Zc (.ref C) (some d) p.2) (hf : ∃ vs, p.2.data = .fields vs) : CallR X (.builtin "isinstance") (rIsX X.K C d p.1) := by
  intro pins s σ H xs us Q I r h
  obtain ⟨c, cv, b, fs, rfl, hd, hcv, e, q⟩ := h
  obtain ⟨u1, u2, rfl, r1, r2⟩ := vals2 r
  cases r1
  have ec := hcv.eq r2
  subst ec
  obtain ⟨hget, _⟩ := I.pin p (List.mem_append_left _ hp)
  obtain ⟨od, J, _⟩ := inst_of I.hok hget hz hf hd
  exact PySem.W.kia_one (PySem.W.kitx_exc (x := p.1) (ox := p.2) (od := some od) T.cl T.ga T.gt T.ex T.ca T.gn T.tk T.mo) I.kIn J e (fun z => nomatch z) fun tk => ⟨.bl b, H, I.tok tk, rfl, q⟩
/-- e.what -/
theorem pe_what {X : Cx} {p : Addr × Obj} {e : Expr} {te : TE} {pos : Pos} (hp : p ∈ X.pn) (hf : ∃ vs, p.2.data = .fields vs) (he : PE X e te) (hb : attributeBase e "what" X.env (eval e X.env) = eval e X.env := by rfl) :
    PE X (.Attribute e "what" pos) (fun σ H Q => te σ H fun x H1 => ∃ (C d : Addr) (fs : List (Str × V)) (v : V), x = .ref p.1 ∧ ErrK X.K C ∧ Zc (.ref C) (some d) p.2 ∧ H1 d = some (.xd fs) ∧ fs.lookup ("what" : Str) = some v ∧ Q v H1) := by
  refine ⟨fun pins s σ H Q I h => ?_⟩
  refine attr_of hb (thn (he.run pins s σ H _ I h) fun u s1 hh => ?_)
  obtain ⟨x, H1, I1, rx, C, d, fs, v, ex, T, hz, hd, l, q⟩ := hh
  subst ex
  obtain rfl : u = Value.ref p.1 := rx
  obtain ⟨hget, _⟩ := I1.pin p (List.mem_append_left _ hp)
  obtain ⟨od, J, hl⟩ := inst_of I1.hok hget hz hf hd
  obtain ⟨u, hu, ru⟩ := hl _ _ l
  exact HandSPX.exc_get I1.kIn J T.ga T.gt T.ex (PySem.W.findObj_own T.hd T.noN rfl hu) (handed_of ru) ⟨v, H1, I1.tok _, ru, q⟩
/-! ### [elt for target in list if ..] there -/
structure TurnE (P : Program) (w : World) (K : PySem.W.Frag) (tg : Expr) (J : It) (it : Addr) (tn : Nat → Heap → Prop) : Prop where
  obj : ∀ i h, tn i h → ∃ o, h.get? it = some o ∧ ∀ v, o.data ≠ .cell v
  keep : ∀ i h h', tn i h → (∀ o, h.get? it = some o → h'.get? it = some o) → tn i h'
  item : ∀ (X : Cx), X.prog = P → X.w = w → X.K = K → ∀ (i : Nat) (pins : List (Addr × Obj)) (s : Shared) (σ : St) (H : Hp) (E : Value → Shared → Prop), Inv X pins σ H s → FpOk X pins H it → tn i s.heap → J.go i H →
    wpAny (model P w) X.A (pyNext (.ref it)) (fun r s1 => ∃ u, r = some u ∧
      wpAny (model P w) X.A (letOwnedTupleGo tg (.ref it) u) (fun _ s2 => ∃ x H', Inv X pins σ H' s2 ∧ RelV x u ∧ J.yld i H x H' ∧ tn (i + 1) s2.heap ∧ H' it = none) E s1) E s
  done : ∀ (X : Cx), X.prog = P → X.w = w → X.K = K → ∀ (x1 : Addr), x1 ≠ it → ∀ (i : Nat) (pins : List (Addr × Obj)) (s : Shared) (σ : St) (H : Hp) (E : Value → Shared → Prop), HotAt X.A x1 s.heap → Inv X pins σ H s → FpOk X pins H it → tn i s.heap → J.stop i H →
    wpAny (model P w) X.A (pyNext (.ref it)) (fun r s1 => r = none ∧ Inv X pins σ H s1) E s
theorem turn_listE {P : Program} {w : World} {K : PySem.W.Frag} {tg : Expr} (a it : Addr) : TurnE P w K tg (Itl K a) it (fun i h => h.IsListIter it a i) where
  obj := fun i h st => by
    obtain ⟨o, e, c, d⟩ := st
    exact ⟨o, e, fun v z => by rw [d] at z; cases z⟩
  keep := fun i h h' st k => st.at k
  item := by
    intro X hP hw hK i pins s σ H E I hf st hg
    subst hP hw hK
    obtain ⟨xs, x, hq, hx⟩ := hg
    obtain ⟨its, rv, p, hz⟩ := I.list hq
    obtain ⟨u, hu, ru⟩ := rv.get hx
    obtain ⟨f0, f1, f2, f3, f4, f5⟩ := hf
    refine wpAny_pyNext_list_item st p.isList (x := u) (by simpa using hu) fun h' st' sb => ?_
    have I1 : Inv X pins σ H { s with heap := h' } := I.turned (t' := s.toks) (fun b o hb e => (sb.2 b hb).trans e) f0 f1 f3 f4 f5
    obtain ⟨o, e, c, d⟩ := id st'
    exact ⟨u, rfl, go_of (s := { s with heap := h' }) e c d (by decide) ⟨x, H, I1, ru, ⟨rfl, fun ys hy => by rw [I.list_inj hy hq]; exact hx⟩, st', f0⟩⟩
  done := by
    intro X hP hw hK x1 hne i pins s σ H E hot I hf st hg
    subst hP hw hK
    obtain ⟨xs, hq, hx⟩ := hg
    obtain ⟨its, rv, p, hz⟩ := I.list hq
    obtain ⟨f0, f1, f2, f3, f4, f5⟩ := hf
    have hl := rv.length
    exact pyNext_list_end_hot hot hne st p.isList (by simp; omega) fun h' eb => ⟨rfl, I.turned (t' := s.toks) (fun b o hb e => eb b o hb e) f0 f1 f3 f4 f5⟩
section
variable {X : Cx}
theorem pe_lcE {elt tg l : Expr} {ifs : List Expr} {scope : Scope} {own : List (Str × Nat)} {pos : Pos} {tl : TE} {g : TG} {tt : TT} {te : TE} {p : Addr × Obj} (hot : Hot1 X.A p) (hp : p ∈ X.pn) (hN : X.N.Nodup) (hl : PE X l tl) (ok : BlkOk X.N X.env.scope scope own)
    (hg : ∀ (s : Shared) (H : Hp) (C : Addr) (cl : List (Str × Addr)) (fp : List Addr), PG (X.blk s H scope (compEnvC scope cl C X.env) fp) tg g) (ht : ∀ (s : Shared) (H : Hp) (C : Addr) (cl : List (Str × Addr)) (fp : List Addr), PTs (X.blk s H scope (compEnvC scope cl C X.env) fp) ifs tt)
    (he : ∀ (s : Shared) (H : Hp) (C : Addr) (cl : List (Str × Addr)) (fp : List Addr), PE (X.blk s H scope (compEnvC scope cl C X.env) fp) elt te) (hs : ∀ x, foldedSetIterable l X.env x = pure x := by intro _; rfl) :
    PE X (.ListComp elt [⟨tg, l, ifs, 0⟩] scope pos) (tLc (iList X.K tl) g tt te (own.map (·.2))) := by
  refine ⟨fun pins s σ H Q I h => ?_⟩
  rw [eval_ListComp]
  have hRR : ∀ D C s' m H', Inv X pins σ H' s' → Q (.ref D) H' → s'.heap.Ns C m → FpOk X pins H' C → compPost (model X.prog X.w) X.A X.xe none (EP X pins σ Q) (.ref D) C (.ok .next) s' := fun D C s' m H' I' q hn f => ⟨m, hn, fun h'' sb => by
    obtain ⟨f0, f1, f2, f3, f4, f5⟩ := f
    exact ⟨.ref D, H', I'.turned (t' := s'.toks) (fun b o hb e => (sb.2 b hb).trans e) f0 f1 f3 f4 f5, rfl, q⟩⟩
  have hfree : ∀ y ∈ scope.names, y.2 = .free → ∃ c, X.env.cells.lookup y.1 = some c := fun y hy e => by
    rcases ok.free y hy e with k | k
    · exact I.ok.has _ (.inl k)
    · exact I.ok.has _ (.inr k)
  refine wpAny_comprehension_free (use := none) rfl hs (closure_ok hfree) ok.kind (fun y hy e => by rw [ok.uniq y hy, e])
    (thn (hl.run pins s σ H _ I h) fun xv s1 hx => ?_)
  obtain ⟨xV, H2, I1, r1, a, ea, ⟨xs, hq⟩, q⟩ := hx
  subst ea
  cases r1
  obtain ⟨its, rv, pl, hz⟩ := I1.list hq
  refine wpAny_pyIter_list pl.isList ?_
  generalize hit : s1.heap.objs.size = it
  generalize hs2 : ({ s1 with heap := s1.heap.push { cls := .type "list_iterator", data := .fields #[.ref a, .int 0 0] } } : Shared) = s2
  have I2 : Inv X pins σ H2 s2 := by
    rw [← hs2]
    exact I1.kept (t' := s1.toks) fun b o e => Heap.get?_push_of_some _ e
  have st2 : s2.heap.IsListIter it a 0 := by
    rw [← hs2, ← hit]
    exact ⟨_, Heap.get?_push_size _ rfl, rfl, rfl⟩
  have f2 : FpOk X pins H2 it := I1.fpOk (Nat.le_of_eq hit) (I1.hok.fresh (Nat.le_of_eq hit))
  have T := turn_listE (P := X.prog) (w := X.w) (K := X.K) (tg := tg) a it
  refine wpAny_newObj_type (newEnv_comp ?_) (by show 0 ≤ sizeLine; decide)
  generalize hD : s2.heap.objs.size = D
  have hDn : H2 D = none := I2.hok.fresh (Nat.le_of_eq hD)
  obtain ⟨W, ⟨m0, w0⟩, turn⟩ := q D hDn
  -- the new list
  generalize hs3 : ({ s2 with heap := s2.heap.push { cls := .type "list", data := .seq ([] : List Value).toArray } } : Shared) = s3
  have I3 : Inv X pins σ (upd H2 D (.lst [])) s3 := by
    rw [← hs3]
    refine I2.laid (t' := s2.toks) (fun b o e => Heap.get?_push_of_some _ e) (Nat.le_of_eq hD) ⟨Nat.zero_le _, [], 0, .nil, ?_⟩
    rw [← hD]
    exact Heap.get?_push_size _ rfl
  have h3 : s3.heap = s2.heap.push { cls := .type "list", data := .seq ([] : List Value).toArray } := by rw [← hs3]
  have sz : it < s2.heap.objs.size := by
    obtain ⟨o, e, _⟩ := T.obj _ _ st2
    exact Heap.lt_size e
  have f3 : FpOk X pins (upd H2 D (.lst [])) it ∧ it < s3.heap.objs.size := by
    refine ⟨⟨?_, f2.2⟩, by rw [h3, Heap.size_push]; exact Nat.lt_succ_of_lt sz⟩
    rw [upd_ne (by rw [← hD]; exact Nat.ne_of_lt sz)]
    exact f2.1
  have f3' : ∀ b ∈ [it], FpOk X pins (upd H2 D (.lst [])) b ∧ b < s3.heap.objs.size := fun b hb => by
    have e : b = it := by simpa using hb
    rw [e]
    exact f3
  have st3 : s3.heap.IsListIter it a 0 := T.keep _ _ _ st2 fun o e => by rw [h3]; exact Heap.get?_push_of_some _ e
  have I4 := block_start I3 ok hN f3'
  -- the handled error stands
  have P3 := I3.pin p (List.mem_append_left _ hp)
  have p3s : p.1 ∉ frs X.stack := fun hm => (List.mem_cons.mp (I3.stkSub p.1 hm)).elim P3.2.2.1 P3.2.2.2.1
  have p3i : p.1 ≠ it := f3.1.2.2.2.2.2 p (List.mem_append_left _ hp)
  have pg := hg s3 (upd H2 D (.lst [])) s3.heap.objs.size (cellsFrom (s3.heap.objs.size + 1) scope.names (cloFrom X.env.cells scope.names [])) [it]
  have pt := ht s3 (upd H2 D (.lst [])) s3.heap.objs.size (cellsFrom (s3.heap.objs.size + 1) scope.names (cloFrom X.env.cells scope.names [])) [it]
  have pe := he s3 (upd H2 D (.lst [])) s3.heap.objs.size (cellsFrom (s3.heap.objs.size + 1) scope.names (cloFrom X.env.cells scope.names [])) [it]
  show codeAny _ _ (.compStart (.ListComp elt [⟨tg, l, ifs, 0⟩] scope pos) 0 (.ref it) (.ref D) (compEnvC scope (cellsFrom (s3.heap.objs.size + 1) scope.names (cloFrom X.env.cells scope.names [])) s3.heap.objs.size X.env)) (compPost (model X.prog X.w) X.A X.xe none (EP X pins σ Q) (.ref D) s3.heap.objs.size) { s3 with heap := pushCells (s3.heap.push { cls := .type "dict", data := .dict #[] }) scope.names }
  generalize hce : compEnvC scope (cellsFrom (s3.heap.objs.size + 1) scope.names (cloFrom X.env.cells scope.names [])) s3.heap.objs.size X.env = ce at I4 pg pt pe ⊢
  have cL : ce.locals = s3.heap.objs.size := by subst hce; rfl
  generalize hH3 : upd H2 D (.lst []) = H3 at I3 I4 pg pt pe w0 f3 f3' P3
  generalize hs4 : ({ s3 with heap := pushCells (s3.heap.push { cls := .type "dict", data := .dict #[] }) scope.names } : Shared) = s4 at I4 ⊢
  have st4 : s4.heap.IsListIter it a 0 := T.keep _ _ _ st3 fun o e => by rw [← hs4]; exact pushCells_keeps _ _ _ _ (Heap.get?_push_of_some _ e)
  have stat : ∀ {σ' : St} {H' : Hp} {s' : Shared}, Inv (X.blk s3 H3 scope ce [it]) [] σ' H' s' → H' it = none → FpOk (X.blk s3 H3 scope ce [it]) [] H' it := fun {σ' H' s'} I' hn =>
    ⟨hn, (I'.ok.exf it (by simp)).1, I'.ok.exfs it (by simp), .inl (by simp), fun x c e => (I'.ok.exf it (by simp)).2 x c e, fun p hp => absurd (show p ∈ ([] : List (Addr × Obj)) ++ [] from hp) (by simp)⟩
  have hotB : ∀ {σ' : St} {H' : Hp} {s' : Shared}, Inv (X.blk s3 H3 scope ce [it]) [] σ' H' s' → HotAt X.A p.1 s'.heap := fun {σ' H' s'} I' => by
    obtain ⟨hh, v1, e1, c1⟩ := hot
    exact ⟨hh, p.2, v1, I'.base.keep p.1 p.2 P3.1 P3.2.1 p3s (fun hm => p3i (by simpa using hm)), e1, c1⟩
  have loop : codeAny (model X.prog X.w) X.A (.compLoop (.ListComp elt [⟨tg, l, ifs, 0⟩] scope pos) 0 (.ref it) (.ref D) ce) (compPost (model X.prog X.w) X.A X.xe none (EP X pins σ Q) (.ref D) s3.heap.objs.size) s4 := by
    refine compLoop_any (fun n s' => ∃ i H', Inv (X.blk s3 H3 scope ce [it]) [] (wipe σ (own.map (·.2))) H' s' ∧ s'.heap.IsListIter it a i ∧ H' it = none ∧ W i n H') ?_ m0 ⟨0, H3, I4, st4, f3.1.1, w0⟩
    rintro n s5 ⟨i, H5, I5, st5, n5, w5⟩
    rcases turn i n H5 w5 with ⟨stop, qq⟩ | ⟨go, Nx, hNx, step⟩
    · have td := T.done (X.blk s3 H3 scope ce [it]) rfl rfl rfl p.1 p3i i [] s5 _ H5 (fun _ _ => False) (hotB I5) I5 (stat I5 n5) st5 stop
      refine thnF td fun r s6 ⟨hr, I6⟩ => ?_
      subst hr
      have I7 : Inv X pins σ H5 s6 := I3.call' (ch := [it]) I6.os I6.base I6.hok I6.bare fun b hb => ⟨(f3' b hb).1.2.2.2.1, (f3' b hb).1.2.1, (f3' b hb).1.2.2.2.2.1, (f3' b hb).1.2.2.2.2.2⟩
      have nC : H5 s3.heap.objs.size = none := by
        have z : H5 ce.locals = none := I6.free
        rw [cL] at z
        exact z
      obtain ⟨m, hn, _⟩ := I6.loc
      have hn : s6.heap.Ns ce.locals m := hn
      rw [cL] at hn
      exact hRR D s3.heap.objs.size s6 m H5 I7 qq hn (I3.fpOk (Nat.le_refl _) nC)
    · have ti := T.item (X.blk s3 H3 scope ce [it]) rfl rfl rfl i [] s5 _ H5 (fun _ _ => False) I5 (stat I5 n5) st5 go
      refine thnF ti fun r s6 ⟨u, hr, h6⟩ => ?_
      subst hr
      refine thnF h6 fun _ s7 ⟨x, H7, I7, r7, y7, st7, n7⟩ => ?_
      have stat' : ∀ b ∈ [it], FpOk (X.blk s3 H3 scope ce [it]) [] H7 b := fun b hb => by
        have e : b = it := by simpa using hb
        rw [e]
        exact stat I7 n7
      have I7' := I7.pinned stat' (fun b hb => by
        have e : b = it := by simpa using hb
        rw [e]
        exact T.obj _ _ st7)
      refine thnF (pg.run _ s7 _ H7 x u _ I7' r7 (step x H7 y7)) fun _ s8 ⟨σ8, H8, I8, hw8, q8⟩ => ?_
      refine thnF (pt.run _ s8 σ8 H8 _ I8 q8) fun b s9 ⟨H9, I9, q9⟩ => ?_
      have fin : ∀ {s' : Shared} {H' : Hp}, Inv (X.blk s3 H3 scope ce [it]) ([] ++ pinsAt [it] s7.heap) σ8 H' s' → Nx H' → ∃ m, m < n ∧ ∃ i H', Inv (X.blk s3 H3 scope ce [it]) [] (wipe σ (own.map (·.2))) H' s' ∧ s'.heap.IsListIter it a i ∧ H' it = none ∧ W i m H' := fun {s' H'} I' nx => by
        obtain ⟨m', hm, w'⟩ := hNx H' nx
        have pin' : ∀ o, s7.heap.get? it = some o → s'.heap.get? it = some o ∧ H' it = none := fun o e =>
          let z := I'.pin (it, o) (List.mem_append_right _ (List.mem_append_right _ (mem_pinsAt (by simp) e)))
          ⟨z.1, z.2.1⟩
        have hl : (wipe σ (own.map (·.2))).length = σ8.length := by rw [← hw8, wipe_length]
        refine ⟨m', hm, i + 1, H', (I'.unpinned (pins := [])).weak hl (fun j v e => ?_), T.keep _ _ _ st7 fun o e => (pin' o e).1, ?_, w'⟩
        · rw [← hw8] at e
          exact (wipe_some e).1
        · obtain ⟨o, e, _⟩ := T.obj _ _ st7
          exact (pin' o e).2
      cases b with
      | false =>
        simp only [Bool.false_eq_true, if_false] at q9 ⊢
        exact fin I9 q9
      | true =>
        simp only [if_true] at q9 ⊢
        refine thnF (pe.run _ s9 σ8 H9 _ I9 q9) fun z s10 ⟨yv, H10, I10, r10, acc, hD10, hz10, nx⟩ => ?_
        exact app_ok (X := X.blk s3 H3 scope ce [it]) I10 hD10 hz10 r10 fun s11 I11 => fin I11 nx
  exact codeAny_compStart_list loop (wpAny_pyIter_listiter st4 loop)
end
end Ns
/-! a lambda whose body may raise (the errors' context is None), handed to a def that calls it in a try -/
namespace Ns
open PySem PySem.Spec PyProof.Rows L2
open LamX (CodeO TabS Tabs ExtN TabB LamS lamEnv lamCx lam_start2 lam_make2 run_ofS tLam)
section
variable {X : Cx} {pins : List (Addr × Obj)} {σ : St} {H HZ : Hp} {s s1 : Shared}
abbrev lamXE (X : Cx) (A : Around) (outer : List Env) (s : Shared) (H : Hp) (E : XK) (scope : Scope) (f c' : Addr) : Value → Shared → Prop := fun e s' =>
  wpAny (model X.prog X.w) (A.deeper (lamEnv X scope s.heap.objs.size f c')) (leaving (lamEnv X scope s.heap.objs.size f c') e) (fun _ s'' => L2N.CX X.prog X.w outer H s E e s'') (fun e' s'' => L2N.CX X.prog X.w outer H s E e' s'') s'
/-- the context of the lambda's body -/
abbrev lamN (X : Cx) (A : Around) (outer : List Env) (s : Shared) (H : Hp) (E : XK) (scope : Scope) (f c' : Addr) : Cx := { lamCx X A outer s H E scope f c' with xe := lamXE X A outer s H E scope f c' }
/-- x(), in the def that got the lambda -/
theorem pe_actN {CXg : CXT} {Eg : XK} {Ng : List Str} {qg : Str} {sg : Scope} {g f c' : Addr} {cdg pm ctv : Value} {params : Arguments} {body : Expr} {scope : Scope} {k i : Nat} {a : Str} {pn : List (Addr × Obj)} {xe : Value → Shared → Prop} {W : WX} {E : XK} {tb : TE} {p1 p2 : Pos}
    (I : Inv X pins σ H s) (L : LamS X.env.scope scope) (hf : s.heap.get? f = some (PySem.W.kla_obj "<lambda>" (X.env.qual ++ "<lambda>") params body scope (cloFrom X.env.cells scope.names []) pm c' ctv)) (hfn : H f = none) (hfr : f ∉ frs X.stack)
    (hbind : bindArgs (PySem.W.kla_fn "<lambda>" (X.env.qual ++ "<lambda>") params body scope (cloFrom X.env.cells scope.names []) pm (.ref c') ctv) ⟨[], []⟩ = pure [])
    (tk : L2N.Takes ((cxOf CXg X.prog X.w X.K X.mg X.base Ng qg sg g cdg X.A X.stack s H Eg).tr pn xe) W) (hW : ∀ cls d σ' H', E cls d H' → W cls d σ' H') (hr : Room (k + 1) (X.A.deeper (envOfC qg sg s.heap.objs.size g cdg)))
    (hbody : ∀ (A : Around) (outer : List Env) (s : Shared) (H : Hp), Room k (A.deeper (lamEnv X scope s.heap.objs.size f c')) → PE (lamN X A outer s H E scope f c') body tb)
    (hN : Ng[i]? = some a) (hv : Vis sg a) (hd : (a == ("__debug__" : Str)) = false := by decide) (hcd : (a == ("__classdict__" : Str)) = false := by decide) :
    PE ((cxOf CXg X.prog X.w X.K X.mg X.base Ng qg sg g cdg X.A X.stack s H Eg).tr pn xe) (.Call (.Name a p1) [] [] p2)
      (fun σZ HZ Q => σZ[i]? = some (some (.ref f)) ∧ HZ c' = some (CodeO c' (X.env.qual ++ "<lambda>")) ∧ tb σ HZ Q) := by
  refine ⟨fun pinsZ sZ σZ HZ Q IZ h => ?_⟩
  obtain ⟨hs, hc, ht⟩ := h
  refine wpAny_Call_Name_kw (thn ((pe_var (pos := p1) (i := i) hN hv hd hcd).run pinsZ sZ σZ HZ (fun v H1 => v = .ref f ∧ H1 = HZ) IZ ⟨.ref f, hs, rfl, rfl⟩) fun u s1 ⟨v, H1, I1, r1, q1⟩ => ?_)
  obtain ⟨ev, eH⟩ := q1
  subst ev
  rw [eH] at I1
  obtain rfl : u = Value.ref f := r1
  have of1 : s1.heap.get? f = some (PySem.W.kla_obj "<lambda>" (X.env.qual ++ "<lambda>") params body scope (cloFrom X.env.cells scope.names []) pm c' ctv) := I1.base.keep f _ hf hfn hfr (fun z => nomatch (show f ∈ ([] : List Addr) from z))
  refine PySem.W.callWith_F0 ⟨_, _, _, _, of1⟩ ?_
  have un : Un (frs X.stack) [] H HZ s.heap s1.heap := I1.base
  obtain ⟨⟨oc, vs, t, hoc, hdc, hvc⟩, _, _⟩ := I1.hok c' _ hc
  have rc : codeAny (model X.prog X.w) (X.A.deeper (envOfC qg sg s.heap.objs.size g cdg)) (.call (.ref f) ⟨[], []⟩) (CR (L2N.CX X.prog X.w) (envOfC qg sg s.heap.objs.size g cdg :: X.stack) X.prog X.w HZ s1 Q E) s1 := by
    refine PySem.W.kla_callFunE hr.depth of1 rfl L.co L.gen rfl ⟨c', oc, vs, t, rfl, hoc, hdc, hvc⟩ ?_
    rw [hbind]
    refine wpAny_pure (wpAny_newFunctionEnv (fun y hy => (L.own y hy).2) (fun y hy => absurd hy (by simp)) (fun h₁ hns hsb => ⟨I1.nolimit.fresh _ hsb, ?_⟩) L.kind)
    show codeAny _ _ (.expr body (lamEnv X scope s1.heap.objs.size f c')) _ _
    have kp : ∀ b o, s1.heap.get? b = some o → h₁.get? b = some o := fun b o e => hsb.extBut b o (Nat.ne_of_lt (Heap.lt_size e)) (Heap.get?_push_of_some _ e)
    have J : Inv (lamN X (X.A.deeper (envOfC qg sg s.heap.objs.size g cdg)) (envOfC qg sg s.heap.objs.size g cdg :: X.stack) s1 HZ E scope f c') [] σ HZ { s1 with heap := h₁, toks := s1.toks + ([] : List (Str × Value)).length } :=
      Inv.wish (X := lamCx X (X.A.deeper (envOfC qg sg s.heap.objs.size g cdg)) (envOfC qg sg s.heap.objs.size g cdg :: X.stack) s1 HZ E scope f c') (lam_start2 I L I1.env0 hr.hd un hns kp) (lamXE X (X.A.deeper (envOfC qg sg s.heap.objs.size g cdg)) (envOfC qg sg s.heap.objs.size g cdg :: X.stack) s1 HZ E scope f c')
    refine PySem.W.kla_codeExpr (wpAny_mono ((hbody _ _ s1 HZ (hr.deeper _)).run [] _ _ HZ Q J ht) (fun v s' hq => ?_) fun e s' hq => hq)
    obtain ⟨w', H', J', rv, q⟩ := hq
    exact ⟨w', H', J'.os, J'.bare, J'.base, J'.hok, rv, q⟩
  have hx : Passes (L2N.CX X.prog X.w) ((cxOf CXg X.prog X.w X.K X.mg X.base Ng qg sg g cdg X.A X.stack s H Eg).tr pn xe) E := L2N.passes_call tk hW
  refine wpAny_call (codeAny_mono rc fun r s' hq => ?_)
  cases r with
  | error e => exact hx pinsZ σZ HZ s1 e s' I1 hq
  | ok fl =>
    cases fl with
    | ret u => exact I1.after hq
    | next => exact False.elim hq
    | brk => exact False.elim hq
    | cont => exact False.elim hq
end
/-- the def that calls what it got: a calls it; TT: what it makes of the lambda's reading -/
def GivesN (X : Cx) (Ng : List Str) (x : Str) (sg : Scope) (g : Addr) (cdg : Value) (bg : List Stmt) (a : Str) (q : Str) (k : Nat) (TT : (XK → Hp → VK → Prop) → Hp → VK → Prop) : Prop :=
  ∀ (f c' : Addr) (s : Shared) (H : Hp) (Q : VK) (tl : XK → Hp → VK → Prop), Room (k + 1) (X.A.deeper (envOfC x sg s.heap.objs.size g cdg)) →
    (∀ (W : WX) (pn : List (Addr × Obj)) (xe : Value → Shared → Prop) (E : XK) (p1 p2 : Pos), L2N.Takes ((cxOf CX0 X.prog X.w X.K X.mg X.base Ng x sg g cdg X.A X.stack s H E0).tr pn xe) W → (∀ cls d σ' H', E cls d H' → W cls d σ' H') →
      PE ((cxOf CX0 X.prog X.w X.K X.mg X.base Ng x sg g cdg X.A X.stack s H E0).tr pn xe) (.Call (.Name a p1) [] [] p2) (fun σZ HZ Q => σZ[0]? = some (some (.ref f)) ∧ HZ c' = some (CodeO c' q) ∧ tl E HZ Q)) →
    H c' = some (CodeO c' q) → TT tl H Q →
    ∃ t, PSs (cxOf CX0 X.prog X.w X.K X.mg X.base Ng x sg g cdg X.A X.stack s H E0).nox bg t ∧ t { nx := fun _ H' => Q .non H', rt := Q } (L2.start Ng [.ref f]) H
section
variable {X : Cx}
/-- x(lambda: body) -/
theorem pe_lamcallN {T : List (Addr × Str)} {TT : (XK → Hp → VK → Prop) → Hp → VK → Prop} {x a : Str} {g c P : Addr} {k : Nat} {pg : Arguments} {bg : List Stmt} {sg : Scope} {dV kV doc pm cdv ct oc : Value} {an od : Option Addr} {osl : Array (Option Value)} {Ng : List Str}
    {params : Arguments} {body : Expr} {scope : Scope} {t : XK → TE} {p lpos pos : Pos} (hg : Gl X x) (hm : X.mg x = some (.ref g)) (hk : PySem.W.keepIn X.K (.ref g) = true)
    (lk : X.K.lookup g = some ⟨oc, od, .func (PySem.W.fnOf x x pg bg sg dV kV doc pm an cdv ct), osl⟩) (hcg : PySem.W.codeIn X.K cdv x = true) (hb : L2.Binds X.K (PySem.W.fnOf x x pg bg sg dV kV doc pm an cdv ct) [a] []) (Sg : FnScope Ng [a] sg) (hNg : Ng[0]? = some a) (hva : Vis sg a)
    (hG : GivesN X Ng x sg g cdv bg a (X.env.qual ++ "<lambda>") k TT)
    (TB : TabB X.base X.mg c P) (hcode : X.env.code = .ref c) (hmT : (P, X.env.qual ++ "<lambda>") ∈ T) (hu : ∀ p ∈ T, p.1 = P → p.2 = X.env.qual ++ "<lambda>") (hr : Room (k + 2) X.A) (L : LamS X.env.scope scope) (hdef : defaultsOf params X.env = ([], []))
    (hbind : ∀ (q : Str) (cl : List (Str × Addr)) (pm cv ctv : Value), bindArgs (PySem.W.kla_fn "<lambda>" q params body scope cl pm cv ctv) ⟨[], []⟩ = pure [])
    (hbody : ∀ (A : Around) (outer : List Env) (s : Shared) (H : Hp) (E : XK) (f c' : Addr), Room k (A.deeper (lamEnv X scope s.heap.objs.size f c')) → PE (lamN X A outer s H E scope f c') body (t E))
    (hdb : (x == ("__debug__" : Str)) = false := by decide) (hd : (a == ("__debug__" : Str)) = false := by decide) (hcd : (a == ("__classdict__" : Str)) = false := by decide) :
    PE X (.Call (.Name x p) [.Lambda params body scope lpos] [] pos) (tLam T TT t) := by
  refine ⟨fun pins s σ H Q I h => ?_⟩
  obtain ⟨hT, h⟩ := h
  refine wpAny_Call_Name_kw (ld_glob I hg hm ?_ hdb)
  refine PySem.W.callWith_K (h₀ := X.base) I.ok.mod.kin hk ?_ (by rfl) (by rfl)
  show wpAny _ _ (spliced ((false, eval (.Lambda params body scope lpos) X.env) :: backTo pos (starEach [] X.env))) _ _ s
  refine Calls.spliced_cons (lam_make2 I TB hcode hmT hu hT hdef (L.has I.ok) fun f c' pm' ctv H1 s' I1 eN T1 hf hfn hfr hco => ?_)
  refine Calls.spliced_nil ⟨I1.kIn, ?_⟩
  have rc : codeAny (model X.prog X.w) X.A (.call (.ref g) ⟨[.ref f], []⟩) (CR CX0 X.stack X.prog X.w H1 s' Q E0) s' := by
    refine run_ofS (N := Ng) (ps := [a]) (us := [.ref f]) (vs := [.ref f]) lk hcg Sg hr I1.env0 (hb s' [.ref f] I1.kIn rfl) (.cons rfl .nil) rfl fun hr' => ?_
    obtain ⟨t', ht', hq'⟩ := hG f c' s' H1 Q (fun E H' Q' => t E σ H' Q') hr' (fun W pn xe E p1 p2 tk hW => pe_actN (i := 0) I1 L hf hfn hfr (hbind _ _ _ _ _) tk hW hr' (fun A outer s H hr2 => hbody A outer s H E f c' hr2) hNg hva hd hcd) hco (h H1 eN T1)
    exact ⟨t', ht'.nox, hq'⟩
  refine wpAny_call (codeAny_mono rc fun r s2 hq => ?_)
  cases r with
  | error e => exact (show False from hq).elim
  | ok fl =>
    cases fl with
    | ret u => exact I1.after hq
    | next => exact False.elim hq
    | brk => exact False.elim hq
    | cont => exact False.elim hq
end
end Ns
/-! chains of holders -/
namespace Ns
open PySem L2
/-- the i-th thing outward -/
def it (F : List Pl) : Nat → Int → Option Int
  | 0, x => some x
  | i + 1, x => match par F x with
    | none => none
    | some h => it F i h
theorem it_succ {F : List Pl} {x h : Int} (e : par F x = some h) (i : Nat) : it F (i + 1) x = it F i h := by
  show (match par F x with | none => none | some h => it F i h) = _
  rw [e]
theorem it_none {F : List Pl} {x : Int} (e : par F x = none) (i : Nat) : it F (i + 1) x = none := by
  show (match par F x with | none => none | some h => it F i h) = _
  rw [e]
/-- one more at the end -/
theorem it_end {F : List Pl} : ∀ {i : Nat} {x c : Int}, it F i x = some c → it F (i + 1) x = par F c
  | 0, x, c, h => by
    have e : x = c := Option.some.inj h
    subst e
    show (match par F x with | none => none | some h => it F 0 h) = _
    cases par F x with
    | none => rfl
    | some h => rfl
  | i + 1, x, c, h => by
    cases e : par F x with
    | none => rw [it_none e] at h; cases h
    | some p =>
      rw [it_succ e] at h ⊢
      exact it_end h
theorem it_add {F : List Pl} : ∀ {i : Nat} (j : Nat) {x c : Int}, it F i x = some c → it F (i + j) x = it F j c
  | 0, j, x, c, h => by
    have e : x = c := Option.some.inj h
    subst e
    rw [Nat.zero_add]
  | i + 1, j, x, c, h => by
    cases e : par F x with
    | none => rw [it_none e] at h; cases h
    | some p =>
      rw [it_succ e] at h
      rw [show i + 1 + j = (i + j) + 1 by omega, it_succ e]
      exact it_add j h
theorem it_none_mono {F : List Pl} {x : Int} : ∀ {i j : Nat}, it F i x = none → i ≤ j → it F j x = none
  | i, 0, h, hl => by
    have : i = 0 := by omega
    subst this
    exact h
  | i, j + 1, h, hl => by
    by_cases e : i = j + 1
    · rw [← e]; exact h
    · have h2 := it_none_mono h (show i ≤ j by omega)
      cases e2 : it F (j + 1) x with
      | none => rfl
      | some c =>
        cases e3 : it F j x with
        | none =>
          -- from none nothing comes
          exfalso
          clear h hl e h2
          induction j generalizing x with
          | zero => cases e3
          | succ j ih =>
            cases ep : par F x with
            | none => rw [it_none ep] at e2; cases e2
            | some p =>
              rw [it_succ ep] at e2 e3
              exact ih e2 e3
        | some d => rw [h2] at e3; cases e3
theorem it_some_le {F : List Pl} {x c : Int} {i j : Nat} (h : it F j x = some c) (hl : i ≤ j) : ∃ d, it F i x = some d := by
  cases e : it F i x with
  | some d => exact ⟨d, rfl⟩
  | none => rw [it_none_mono e hl] at h; cases h
theorem mem_anc {F : List Pl} {y : Int} : ∀ {k : Nat} {x : Int}, y ∈ anc F k x ↔ ∃ i, i < k ∧ it F (i + 1) x = some y
  | 0, x => by simp [anc]
  | k + 1, x => by
    unfold anc
    cases e : par F x with
    | none =>
      simp only [List.not_mem_nil, false_iff]
      rintro ⟨i, _, h⟩
      rw [it_none e] at h
      cases h
    | some p =>
      simp only [List.mem_cons]
      rw [mem_anc (k := k) (x := p)]
      constructor
      · rintro (h | ⟨i, hi, h⟩)
        · exact ⟨0, Nat.succ_pos _, by rw [it_succ e, h]; rfl⟩
        · exact ⟨i + 1, Nat.succ_lt_succ hi, by rw [it_succ e]; exact h⟩
      · rintro ⟨i, hi, h⟩
        rw [it_succ e] at h
        cases i with
        | zero => exact .inl (Option.some.inj h).symm
        | succ i => exact .inr ⟨i, Nat.lt_of_succ_lt_succ hi, h⟩
theorem anc_snoc {F : List Pl} : ∀ {i : Nat} {x c p : Int}, it F i x = some c → par F c = some p → anc F (i + 1) x = anc F i x ++ [p]
  | 0, x, c, p, h, hp => by
    have e : x = c := Option.some.inj h
    subst e
    show (match par F x with | none => [] | some h => h :: anc F 0 h) = [] ++ [p]
    rw [hp]
    rfl
  | i + 1, x, c, p, h, hp => by
    cases e : par F x with
    | none => rw [it_none e] at h; cases h
    | some q =>
      rw [it_succ e] at h
      have ih := anc_snoc h hp
      have e1 : anc F (i + 1 + 1) x = q :: anc F (i + 1) q := by
        show (match par F x with | none => [] | some h => h :: anc F (i + 1) h) = _
        rw [e]
      have e2 : anc F (i + 1) x = q :: anc F i q := by
        show (match par F x with | none => [] | some h => h :: anc F i h) = _
        rw [e]
      rw [e1, e2, ih]
      rfl
theorem anc_stop {F : List Pl} : ∀ {i : Nat} {x c : Int}, it F i x = some c → par F c = none → ∀ {k : Nat}, i ≤ k → anc F k x = anc F i x
  | 0, x, c, h, hp, k, hk => by
    have e : x = c := Option.some.inj h
    subst e
    cases k with
    | zero => rfl
    | succ k =>
      show (match par F x with | none => [] | some h => h :: anc F k h) = []
      rw [hp]
  | i + 1, x, c, h, hp, k, hk => by
    cases e : par F x with
    | none => rw [it_none e] at h; cases h
    | some q =>
      rw [it_succ e] at h
      cases k with
      | zero => omega
      | succ k =>
        have ih := anc_stop h hp (show i ≤ k by omega)
        show (match par F x with | none => [] | some h => h :: anc F k h) = (match par F x with | none => [] | some h => h :: anc F i h)
        rw [e]
        show q :: anc F k q = q :: anc F i q
        rw [ih]
/-! ### no ring: chains end -/
theorem pigeon : ∀ (n : Nat) (f : Nat → Nat), (∀ i, i ≤ n → f i < n) → ∃ i j, i < j ∧ j ≤ n ∧ f i = f j
  | 0, f, h => absurd (h 0 (Nat.le_refl 0)) (Nat.not_lt_zero _)
  | n + 1, f, h => by
    by_cases hex : ∃ i, i ≤ n ∧ f i = f (n + 1)
    · obtain ⟨i, hi, e⟩ := hex
      exact ⟨i, n + 1, by omega, Nat.le_refl _, e⟩
    · have hne : ∀ i, i ≤ n → f i ≠ f (n + 1) := fun i hi e => hex ⟨i, hi, e⟩
      obtain ⟨i, j, hij, hj, e⟩ := pigeon n (fun i => if f (n + 1) < f i then f i - 1 else f i) fun i hi => by
        have h1 := h i (by omega)
        have h2 := h (n + 1) (Nat.le_refl _)
        have h3 := hne i hi
        show (if f (n + 1) < f i then f i - 1 else f i) < n
        split <;> omega
      have e : (if f (n + 1) < f i then f i - 1 else f i) = (if f (n + 1) < f j then f j - 1 else f j) := e
      have h3 := hne i (by omega)
      have h4 := hne j hj
      refine ⟨i, j, hij, by omega, ?_⟩
      split at e <;> split at e <;> omega
/-- all holders are things -/
def Holds (F : List Pl) : Prop := ∀ (x h : Int), par F x = some h → 0 ≤ h ∧ h < F.length
theorem it_range {F : List Pl} (hv : Holds F) : ∀ {i : Nat} {x c : Int}, 0 ≤ x → x < F.length → it F i x = some c → 0 ≤ c ∧ c < F.length
  | 0, x, c, h0, h1, h => by
    have e : x = c := Option.some.inj h
    subst e
    exact ⟨h0, h1⟩
  | i + 1, x, c, h0, h1, h => by
    cases e : par F x with
    | none => rw [it_none e] at h; cases h
    | some q =>
      rw [it_succ e] at h
      obtain ⟨a, b⟩ := hv x q e
      exact it_range hv a b h
def NoRing (F : List Pl) : Prop := ∀ j, j < F.length → inSelf F j = false
theorem chain_ends {F : List Pl} (hv : Holds F) (nr : NoRing F) {x : Int} (h0 : 0 ≤ x) (h1 : x < F.length) : it F F.length x = none := by
  cases e : it F F.length x with
  | none => rfl
  | some z =>
    exfalso
    have all : ∀ i, i ≤ F.length → ∃ d, it F i x = some d := fun i hi => it_some_le e hi
    obtain ⟨i, j, hij, hj, ef⟩ := pigeon F.length (fun i => ((it F i x).getD 0).toNat) fun i hi => by
      obtain ⟨d, hd⟩ := all i hi
      obtain ⟨a, b⟩ := it_range hv h0 h1 hd
      show ((it F i x).getD 0).toNat < F.length
      rw [hd]
      show d.toNat < F.length
      omega
    obtain ⟨d, hd⟩ := all i (by omega)
    obtain ⟨d', hd'⟩ := all j hj
    obtain ⟨a, b⟩ := it_range hv h0 h1 hd
    obtain ⟨a', b'⟩ := it_range hv h0 h1 hd'
    have ef : ((it F i x).getD 0).toNat = ((it F j x).getD 0).toNat := ef
    rw [hd, hd'] at ef
    have ed : d = d' := by
      have ef : d.toNat = d'.toNat := ef
      omega
    subst ed
    have hjd : it F (j - i) d = some d := by
      have := it_add (j - i) hd
      rw [show i + (j - i) = j by omega, hd'] at this
      exact this.symm
    have hn := nr d.toNat (by omega)
    unfold inSelf at hn
    have hm : ((d.toNat : Nat) : Int) ∈ anc F F.length ((d.toNat : Nat) : Int) := by
      have ec : ((d.toNat : Nat) : Int) = d := by omega
      rw [ec, mem_anc]
      refine ⟨j - i - 1, by omega, ?_⟩
      rw [show j - i - 1 + 1 = j - i by omega]
      exact hjd
    rw [decide_eq_true hm] at hn
    cases hn
/-- in itself, by turns -/
theorem inSelf_of {F : List Pl} {j i : Nat} (hi : i < F.length) (h : it F (i + 1) j = some (j : Int)) : inSelf F j = true := by
  unfold inSelf
  exact decide_eq_true (mem_anc.mpr ⟨i, hi, h⟩)
theorem inSelf_not {F : List Pl} {j : Nat} (h : ∀ i, i < F.length → it F (i + 1) j ≠ some (j : Int)) : inSelf F j = false := by
  unfold inSelf
  exact decide_eq_false fun hm => by
    obtain ⟨i, hi, e⟩ := mem_anc.mp hm
    exact h i hi e
end Ns
/-! the program's defs -/
namespace Ns
open PySem PySem.Spec PyProof.Rows L2
/-! ### how rooms and forests stand in the heap -/
def Rm.v : Rm → V
  | .num i => .int i
  | .word s => .str s
def RmAt (H : Hp) (a : Addr) (rm : List Rm) : Prop := H a = some (.tup (rm.map Rm.v))
inductive PlV (H : Hp) : V → Pl → Prop where
  | floor : PlV H .non .floor
  | at {a : Addr} {h r : Int} (e : H a = some (.tup [.int h, .int r])) : PlV H (.ref a) (.at h r)
  | word (s : Str) : PlV H (.str s) (.word s)
  | row {a : Addr} {is : List Int} (e : H a = some (.tup (is.map V.int))) (n : is.length ≠ 2) : PlV H (.ref a) (.row is)
  | named {a : Addr} {s : Str} {r : Int} (e : H a = some (.tup [.str s, .int r])) : PlV H (.ref a) (.named s r)
def FoAt (H : Hp) (a : Addr) (F : List Pl) : Prop := ∃ vs, H a = some (.tup vs) ∧ Paired (PlV H) vs F
/-- all tuples stand as they stood -/
def TS (H H' : Hp) : Prop := ∀ b xs, H b = some (.tup xs) → H' b = some (.tup xs)
theorem TS.of {H H' : Hp} (s : Same H H') : TS H H' := fun b xs e => s b _ e
theorem TS.refl (H : Hp) : TS H H := fun _ _ e => e
theorem TS.trans {H H1 H2 : Hp} (a : TS H H1) (b : TS H1 H2) : TS H H2 := fun c xs e => b c xs (a c xs e)
theorem TS.new {H : Hp} {a : Addr} {o : HO} (h : H a = none) : TS H (upd H a o) := fun b xs e => by rw [upd_ne (ne_of_none e h)]; exact e
theorem TS.lst {H : Hp} {a : Addr} {o : HO} {xs : List V} (h : H a = some (.lst xs)) : TS H (upd H a o) := fun b ys e => by
  rw [upd_ne (ne_of e h (by intro z; cases z))]; exact e
theorem Same.new {H : Hp} {a : Addr} {o : HO} (h : H a = none) : Same H (upd H a o) := fun b u e => by rw [upd_ne (ne_of_none e h)]; exact e
theorem RmAt.mono {H H' : Hp} {a : Addr} {rm : List Rm} (h : RmAt H a rm) (s : TS H H') : RmAt H' a rm := s _ _ h
theorem PlV.mono {H H' : Hp} {v : V} {p : Pl} (h : PlV H v p) (s : TS H H') : PlV H' v p := by
  cases h with
  | floor => exact .floor
  | «at» e => exact .at (s _ _ e)
  | word x => exact .word x
  | row e n => exact .row (s _ _ e) n
  | named e => exact .named (s _ _ e)
theorem FoAt.mono {H H' : Hp} {a : Addr} {F : List Pl} (h : FoAt H a F) (s : TS H H') : FoAt H' a F := by
  obtain ⟨vs, e, r⟩ := h
  exact ⟨vs, s _ _ e, L2.Paired.mapP r fun _ _ q => q.mono s⟩
theorem dpInts {K : PySem.W.Frag} {H : Hp} : ∀ is : List Int, DpAll K H (is.map V.int) (is.map PyData.int)
  | [] => .nil
  | i :: is => .cons (.int i) (dpInts is)
theorem PlV.dp {K : PySem.W.Frag} {H : Hp} {v : V} {p : Pl} (h : PlV H v p) : Dp K H v p.dat := by
  cases h with
  | floor => exact .non
  | «at» e => exact .tup (SqT.of e) (.cons (.int _) (.cons (.int _) .nil))
  | word x => exact .str x
  | row e n => exact .tup (SqT.of e) (dpInts _)
  | named e => exact .tup (SqT.of e) (.cons (.str _) (.cons (.int _) .nil))
theorem dpPls {K : PySem.W.Frag} {H : Hp} : ∀ {vs : List V} {F : List Pl}, Paired (PlV H) vs F → DpAll K H vs (F.map Pl.dat)
  | _, _, .nil => .nil
  | _, _, .cons r t => .cons r.dp (dpPls t)
theorem FoAt.dp {K : PySem.W.Frag} {H : Hp} {a : Addr} {F : List Pl} (h : FoAt H a F) : Dp K H (.ref a) (.tuple (F.map Pl.dat)) := by
  obtain ⟨vs, e, r⟩ := h
  exact .tup (SqT.of e) (dpPls r)
theorem paired_get {α β : Type} {R : α → β → Prop} : ∀ {l : List α} {m : List β} {i : Nat} {x : α}, Paired R l m → l[i]? = some x → ∃ y, m[i]? = some y ∧ R x y
  | _, _, _, _, .nil, e => by simp at e
  | _, _, 0, _, .cons r _, e => by simp at e; subst e; exact ⟨_, rfl, r⟩
  | _, _, i + 1, x, .cons _ t, e => by
    obtain ⟨y, h1, h2⟩ := paired_get (i := i) (x := x) t (by simpa using e)
    exact ⟨y, by simpa using h1, h2⟩
theorem paired_get' {α β : Type} {R : α → β → Prop} : ∀ {l : List α} {m : List β} {i : Nat} {y : β}, Paired R l m → m[i]? = some y → ∃ x, l[i]? = some x ∧ R x y
  | _, _, _, _, .nil, e => by simp at e
  | _, _, 0, _, .cons r _, e => by simp at e; subst e; exact ⟨_, rfl, r⟩
  | _, _, i + 1, x, .cons _ t, e => by
    obtain ⟨y, h1, h2⟩ := paired_get' (i := i) (y := x) t (by simpa using e)
    exact ⟨y, by simpa using h1, h2⟩
/-! ### what the top has written -/
/-- a def of the module -/
def Df (K : PySem.W.Frag) (mg : Str → Option Value) (nm : Str) (i : Nat) : Prop := ∃ f fd, L2.Fun K nm nm (top i) f fd ∧ mg nm = some (.ref f)
def Has (P : Program) (w : World) (K : PySem.W.Frag) (mg : Str → Option Value) (base : Heap) (CX : CXT) (k : Nat) (nm : Str) (ps : List Str) (sp : Sp) : Prop :=
  ∃ f fd, mg nm = some (.ref f) ∧ PySem.W.keepIn K (.ref f) = true ∧ Binds K fd ps [] ∧ FnOk P w K mg base CX k f fd ps sp
theorem pe_has {X : Cx} {CX : CXT} {k : Nat} {nm : Str} {ps : List Str} {sp : Sp} {E : XK} {p pos : Pos} {e : Expr} {es : List Expr} {t : TA} (h : Has X.prog X.w X.K X.mg X.base CX k nm ps sp) (hr : Room k X.A) (hx : Passes CX X E) (ha : PA X (e :: es) t) (hg : Gl X nm := by rfl)
    (hdb : (nm == ("__debug__" : Str)) = false := by decide) (he : starEach (e :: es) X.env = (false, eval e X.env) :: starEach es X.env := by rfl) (hpl : (backTo pos (starEach es X.env)).any (·.1) = false := by rfl) :
    PE X (.Call (.Name nm p) (e :: es) [] pos) (tCall sp [] E t) := by
  obtain ⟨f, fd, hm, hk, hb, G⟩ := h
  exact pe_call G hr hg hm hk hb .nil hx ha hdb he hpl
/-- the errors' classes and what the module's names hold -/
structure Tx (P : Program) (K : PySem.W.Frag) (mg : Str → Option Value) (ad : Ec → Addr) (D fI cda cc : Addr) : Prop where
  isi : mg "isinstance" = none
  len : mg "len" = none
  tuple : mg "tuple" = none
  int : mg "int" = none
  bool : mg "bool" = none
  str : mg "str" = none
  enum : mg "enumerate" = none
  range : mg "range" = none
  list : mg "list" = none
  max : mg "max" = none
  repr : mg "repr" = none
  sup : mg "super" = none
  ve : mg "ValueError" = none
  mT : ∃ t, mg "MOST_THINGS" = some (.int 24 t)
  mR : ∃ t, mg "MOST_ROOMS" = some (.int 4 t)
  gE : ∀ c : Ec, mg c.name = some (.ref (ad c))
  I0 : PySem.RefX.InitTxt K P D fI cda cc
  err : ∀ c : Ec, PySem.RefX.RefTxt K (ad c) D fI
  top_ : (P.main.scope.names.lookup ("super" : Str)).isSome = false
/-- what is wished of an error -/
def Rz (K : PySem.W.Frag) (ad : Ec → Addr) (E : XK) (H : Hp) (c : Ec) (w : PyData) : Prop := ∀ (H' : Hp) (d : Addr) (v : V), Same H H' → H' d = some (.xd [(("what" : Str), v)]) → Dp K H' v w → E (.ref (ad c)) (some d) H'
theorem Rz.mono {K : PySem.W.Frag} {ad : Ec → Addr} {E : XK} {H H1 : Hp} {c : Ec} {w : PyData} (r : Rz K ad E H c w) (s : Same H H1) : Rz K ad E H1 c w := fun H' d v h1 h2 h3 => r H' d v (s.trans h1) h2 h3
theorem if_true_of {c : Bool} {A B : Prop} (hc : c = true) (h : A) : if c = true then A else B := by
  rw [if_pos hc]
  exact h
theorem if_false_of {c : Bool} {A B : Prop} (hc : c = false) (h : B) : if c = true then A else B := by
  rw [hc, if_neg Bool.false_ne_true]
  exact h
/-! ### is_whole -/
section
variable {P : Program} {w : World} {K : PySem.W.Frag} {mg : Str → Option Value} {base : Heap} {ad : Ec → Addr} {D fI cda cc : Addr}
def spWhole : Sp := fun vs H Q _ => ∃ v, vs = [v] ∧ ((∃ i, v = .int i ∧ Q (.bl true) H) ∨ ∃ s, v = .str s ∧ Q (.bl false) H)
theorem sc13 : FnScope ["value"] ["value"] (defScope (top 13)) := ⟨rfl, rfl, rfl, by decide +kernel, rfl, by decide +kernel, by decide +kernel⟩
theorem has_whole (T : Tx P K mg ad D fI cda cc) (d : Df K mg "is_whole" 13) : Has P w K mg base CX0 1 "is_whole" ["value"] spWhole := by
  obtain ⟨f, fd, F, hm⟩ := d
  refine ⟨f, fd, hm, F.kp, F.binds (fun _ _ _ _ _ _ us hl => match us, hl with | [_], _ => rfl), ?_⟩
  refine F.ok sc13 (fun vs H Q E h => ?_) (fun cdv A outer s H vs Q E hr h => ?_)
  · obtain ⟨v, rfl, _⟩ := h
    rfl
  · obtain ⟨v, rfl, h⟩ := h
    refine ⟨_, pss_one (ps_ret (pe_and (pe_callB call_isi (by rfl) T.isi boot_isinstance (pa_cons (pv 0) (pa_cons (pe_bltn (v := .ty "int") (by rfl) T.int boot_int rfl) pa_nil)))
      (pe_one (pe_not (pe_callB call_isi (by rfl) T.isi boot_isinstance (pa_cons (pv 0) (pa_cons (pe_bltn (v := .ty "bool") (by rfl) T.bool boot_bool rfl) pa_nil))))))), ?_⟩
    rcases h with ⟨i, rfl, k⟩ | ⟨s, rfl, k⟩
    · refine ⟨_, rfl, _, _, _, _, true, rfl, .ty _, .base (.int i), kit_ty (by decide +kernel), true, rfl, iteT ?_⟩
      exact ⟨_, rfl, _, _, _, _, false, rfl, .ty _, .base (.int i), kit_ty (by decide +kernel), false, rfl, k⟩
    · exact ⟨_, rfl, _, _, _, _, false, rfl, .ty _, .base (.str s), kit_ty (by decide +kernel), false, rfl, iteF k⟩
/-! ### made_rooms -/
def spRooms (K : PySem.W.Frag) (ad : Ec → Addr) : Sp := fun vs H Q E => ∃ (a : Addr) (rm : List Rm), vs = [.ref a] ∧ RmAt H a rm ∧ rm.length ≤ 24 ∧
  (∀ j, fst (okRm rm) rm.length = some j → Rz K ad E H .rooms (.int j)) ∧ (fst (okRm rm) rm.length = none → ∀ H', Same H H' → Q (.ref a) H')
theorem sc14 : FnScope ["thing", "x", "many"] ["thing"] (defScope (top 14)) := ⟨rfl, rfl, rfl, by decide +kernel, rfl, by decide +kernel, by decide +kernel⟩
theorem fn_okN {CX : CXT} {x qual : Str} {st : Stmt} {f : Addr} {fd : FuncData} {N ps : List Str} {k : Nat} {sp : Sp} (F : L2.Fun K x qual st f fd) (S : FnScope N ps (defScope st)) (len : ∀ vs H Q E, sp vs H Q E → vs.length = ps.length)
    (hbody : ∀ (cdv : Value) (A : Around) (outer : List Env) (s : Shared) (H : Hp) (vs : List V) (Q : VK) (E : XK), Room k (A.deeper (envOfC qual (defScope st) s.heap.objs.size f cdv)) → sp vs H Q E →
      ∃ t, PSs (cxOf CX P w K mg base N qual (defScope st) f cdv A outer s H E) (defBody st) t ∧ t { nx := fun _ H' => Q .non H', rt := Q } (L2.start N vs) H) : FnOk P w K mg base CX (k + 1) f fd ps sp := by
  obtain ⟨oc, od, kV, doc, pm, an, cdv, ct, osl, rfl, lk, hcd⟩ := F.ex
  exact fn_of lk hcd S len fun A outer s H vs Q E hr hsp => hbody cdv A outer s H vs Q E hr hsp
theorem passN {X : Cx} : Passes CX0 X E0 := fun _ _ _ _ _ _ _ h => h.elim
theorem has_rooms (T : Tx P K mg ad D fI cda cc) (d : Df K mg "made_rooms" 14) (hW : Has P w K mg base CX0 1 "is_whole" ["value"] spWhole) : Has P w K mg base (L2N.CX P w) 3 "made_rooms" ["thing"] (spRooms K ad) := by
  obtain ⟨f, fd, F, hm⟩ := d
  refine ⟨f, fd, hm, F.kp, F.binds (fun _ _ _ _ _ _ us hl => match us, hl with | [_], _ => rfl), ?_⟩
  refine fn_okN F sc14 (fun vs H Q E h => ?_) (fun cdv A outer s H vs Q E hr h => ?_)
  · obtain ⟨a, rm, rfl, _⟩ := h
    rfl
  · obtain ⟨a, rm, rfl, hR, hl, kE, kQ⟩ := h
    have hr1 : Room 1 _ := hr.mono (by decide)
    obtain ⟨t4, hR4⟩ := T.mR
    obtain ⟨t24, hT24⟩ := T.mT
    refine ⟨_, pss_cons (ps_if (pt_not (pt_val (pe_callB call_isi (by rfl) T.isi boot_isinstance (pa_cons (pv 0) (pa_cons (pe_bltn (v := .ty "tuple") (by rfl) T.tuple boot_tuple rfl) pa_nil))))) (pss_one ps_never) pss_nil)
      (pss_cons (ps_if (pt_cmpR op_gt (pe_callB call_len (by rfl) T.len boot_len (pa_cons (pv 0) pa_nil)) (pe_glob (v := .int 24) (by rfl) hT24 ⟨_, rfl⟩) (nomark _)) (pss_one ps_never) pss_nil)
      (pss_cons (ps_for (passes_of rfl) rfl (pi_enumT (by rfl) T.enum (pa_cons (pv 0) pa_nil)) (pg_tup rfl (pgs_cons (pg_name (i := 1) sc14.nd rfl (Or.inl rfl)) (pgs_cons (pg_name (i := 2) sc14.nd rfl (Or.inl rfl)) pgs_nil)))
        (pss_one (ps_if (PW.pt (pw_or (pt_not (pt_val (pe_has hW hr1 pass0 (pa_cons (pv 2) pa_nil)))) (pw_or1 (pt_not (pt_chain op_le op_le pe_int (pv 2) (pe_glob (v := .int 4) (by rfl) hR4 ⟨_, rfl⟩))))))
          (pss_one (ps_raiseR rfl T.I0 (T.err .rooms) (T.gE .rooms) T.sup T.top_ hr (L2N.takes_of rfl rfl rfl rfl) (pv 1))) pss_nil)))
      (pss_one (ps_ret (pv 0))))), ?_⟩
    refine ⟨_, rfl, _, _, _, _, true, rfl, .ty _, .base (.tup hR), kit_ty (by decide +kernel), true, rfl, iteF ?_⟩
    refine ⟨_, rfl, _, rm.length, rfl, .inr ⟨_, SqT.of hR, by rw [List.length_map]⟩, _, _, rfl, rfl, _, rfl, ?_⟩
    refine if_false_of (decide_eq_false (by omega)) ?_
    refine ⟨_, rfl, a, rm.map Rm.v, rfl, SqT.of hR, for_enumT (K := K) (a := a) (xs := rm.map Rm.v) (fun i σ H' => ∃ v1 v2, σ = [some (.ref a), v1, v2] ∧ Same H H' ∧ ∀ j, j < i → okRm rm j = true) ⟨none, none, rfl, Same.refl H, fun j hj => absurd hj (Nat.not_lt_zero _)⟩
      (fun i σ H' _ ⟨_, _, _, s, _⟩ => SqT.of (s _ _ hR)) ?_ ?_⟩
    · rintro i x t σ H' hi ht ⟨v1, v2, rfl, s, hok⟩
      obtain ⟨r, hr', rfl⟩ : ∃ r, rm[i]? = some r ∧ x = r.v := by
        rw [List.getElem?_map] at hi
        cases e : rm[i]? with
        | none => rw [e] at hi; cases hi
        | some r => rw [e] at hi; exact ⟨r, rfl, (Option.some.inj hi).symm⟩
      have hil : i < rm.length := (List.getElem?_eq_some_iff.mp hr').1
      have er : okRm rm i = r.ok := by
        unfold okRm
        rw [List.getD_eq_getElem?_getD, hr']
        rfl
      have s2 : Same H (upd H' t (.tup [.int (i : Nat), r.v])) := s.trans (Same.new ht)
      refine ⟨_, _, rfl, SqT.of upd_same, rfl, _, _, rfl, _, _, rfl, rfl, ?_⟩
      cases r with
      | num n =>
        refine ⟨_, rfl, _, rfl, .inl ⟨n, rfl, true, rfl, iteF ?_⟩⟩
        have bad : (Rm.num n).ok = false → ∀ (H1 : Hp), Same H H1 → ∀ d, H1 d = none → E (.ref (ad .rooms)) (some d) (upd H1 d (.xd [(("what" : Str), .int (i : Nat))])) := fun hb H1 s1 d hd =>
          kE i (fst_some (by rw [er]; exact hb) hok hil) _ d _ (s1.trans (Same.new hd)) upd_same (.int _)
        refine ⟨_, rfl, 0, n, rfl, rfl, _, rfl, ite2 (fun h1 => ?_) (fun h1 => ?_)⟩
        · refine ⟨n, 4, rfl, rfl, _, rfl, ite2 (fun h2 => ?_) (fun h2 => ?_)⟩
          · exact ⟨_, rfl, fun d hd => bad (by unfold Rm.ok; simp at h2; simp; omega) _ s2 d hd⟩
          · refine ⟨_, _, rfl, s2, fun j hj => ?_⟩
            by_cases e : j = i
            · rw [e, er]
              simp at h1 h2
              unfold Rm.ok
              simp
              omega
            · exact hok j (by omega)
        · refine ⟨_, rfl, ite2 (fun h2 => ?_) (fun h2 => ?_)⟩
          · exact ⟨_, rfl, fun d hd => bad (by unfold Rm.ok; simp at h1; simp; omega) _ s2 d hd⟩
          · exact absurd rfl h2
      | word z =>
        refine ⟨_, rfl, _, rfl, .inr ⟨z, rfl, false, rfl, iteT ?_⟩⟩
        refine iteT ?_
        refine ⟨_, rfl, fun d hd => ?_⟩
        exact kE i (fst_some (by rw [er]; rfl) hok hil) _ d _ (s2.trans (Same.new hd)) upd_same (.int _)
    · rintro σ H' ⟨v1, v2, rfl, s, hok⟩
      rw [List.length_map] at hok
      exact ⟨_, rfl, kQ (fst_none hok) H' s⟩
/-! ### is_thing, want_thing -/
def spThing : Sp := fun vs H Q _ => ∃ (a : Addr) (x : Int) (rm : List Rm), vs = [.ref a, .int x] ∧ RmAt H a rm ∧ Q (.bl (decide (0 ≤ x) && decide (x < rm.length))) H
theorem sc15 : FnScope ["rooms", "x"] ["rooms", "x"] (defScope (top 15)) := ⟨rfl, rfl, rfl, by decide +kernel, rfl, by decide +kernel, by decide +kernel⟩
theorem has_thing (T : Tx P K mg ad D fI cda cc) (d : Df K mg "is_thing" 15) (hW : Has P w K mg base CX0 1 "is_whole" ["value"] spWhole) : Has P w K mg base CX0 2 "is_thing" ["rooms", "x"] spThing := by
  obtain ⟨f, fd, F, hm⟩ := d
  refine ⟨f, fd, hm, F.kp, F.binds (fun _ _ _ _ _ _ us hl => match us, hl with | [_, _], _ => rfl), ?_⟩
  refine F.ok sc15 (fun vs H Q E h => ?_) (fun cdv A outer s H vs Q E hr h => ?_)
  · obtain ⟨a, x, rm, rfl, _⟩ := h
    rfl
  · obtain ⟨a, x, rm, rfl, hR, k⟩ := h
    refine ⟨_, pss_one (ps_ret (pe_and (pe_has hW hr pass0 (pa_cons (pv 1) pa_nil)) (pe_one (pe_chain op_le op_lt pe_int (pv 1) (pe_callB call_len (by rfl) T.len boot_len (pa_cons (pv 0) pa_nil)))))), ?_⟩
    refine ⟨_, rfl, _, rfl, .inl ⟨x, rfl, true, rfl, iteT ?_⟩⟩
    refine ⟨_, rfl, 0, x, rfl, rfl, _, rfl, ite2 (fun h1 => ?_) (fun h1 => ?_)⟩
    · have e : decide (0 ≤ x) = true := h1
      rw [e] at k
      exact ⟨_, rfl, _, rm.length, rfl, .inr ⟨_, SqT.of hR, by rw [List.length_map]⟩, x, rm.length, rfl, rfl, k⟩
    · have e : decide (0 ≤ x) = false := by simpa using h1
      rw [e] at k
      exact k
def spWant (K : PySem.W.Frag) (ad : Ec → Addr) : Sp := fun vs H Q E => ∃ (a : Addr) (x : Int) (rm : List Rm), vs = [.ref a, .int x] ∧ RmAt H a rm ∧ (0 ≤ x ∧ x < rm.length → Q .non H) ∧ (¬ (0 ≤ x ∧ x < rm.length) → Rz K ad E H .thing (.int x))
theorem sc16 : FnScope ["rooms", "x"] ["rooms", "x"] (defScope (top 16)) := ⟨rfl, rfl, rfl, by decide +kernel, rfl, by decide +kernel, by decide +kernel⟩
theorem has_want (T : Tx P K mg ad D fI cda cc) (d : Df K mg "want_thing" 16) (hT : Has P w K mg base CX0 2 "is_thing" ["rooms", "x"] spThing) : Has P w K mg base (L2N.CX P w) 3 "want_thing" ["rooms", "x"] (spWant K ad) := by
  obtain ⟨f, fd, F, hm⟩ := d
  refine ⟨f, fd, hm, F.kp, F.binds (fun _ _ _ _ _ _ us hl => match us, hl with | [_, _], _ => rfl), ?_⟩
  refine fn_okN F sc16 (fun vs H Q E h => ?_) (fun cdv A outer s H vs Q E hr h => ?_)
  · obtain ⟨a, x, rm, rfl, _⟩ := h
    rfl
  · obtain ⟨a, x, rm, rfl, hR, kQ, kE⟩ := h
    refine ⟨_, pss_one (ps_if (pt_not (pt_val (pe_has hT hr pass0 (pa_cons (pv 0) (pa_cons (pv 1) pa_nil))))) (pss_one (ps_raiseR rfl T.I0 (T.err .thing) (T.gE .thing) T.sup T.top_ hr (L2N.takes_of rfl rfl rfl rfl) (pv 1))) pss_nil), ?_⟩
    refine ⟨_, rfl, _, rfl, a, x, rm, rfl, hR, _, rfl, ite2 (fun h1 => ?_) (fun h1 => ?_)⟩
    · exact ⟨_, rfl, fun d hd => kE (by simp at h1; omega) _ d _ (Same.new hd) upd_same (.int _)⟩
    · exact kQ (by simp at h1; omega)
/-! ### is_place -/
def spPlace : Sp := fun vs H Q _ => ∃ (a : Addr) (x : Int) (v : V) (rs : List Int) (p : Pl), vs = [.ref a, .int x, v] ∧ H a = some (.tup (rs.map V.int)) ∧ PlV H v p ∧ Q (.bl (okPl rs x p)) H
theorem sc18 : FnScope ["rooms", "x", "place", "holder", "room"] ["rooms", "x", "place"] (defScope (top 18)) := ⟨rfl, rfl, rfl, by decide +kernel, rfl, by decide +kernel, by decide +kernel⟩
theorem getD_of {rs : List Int} {h : Int} (h0 : 0 ≤ h) (h1 : h < rs.length) : (rs.map V.int)[h.toNat]? = some (.int (rs.getD h.toNat 0)) := by
  have hl : h.toNat < rs.length := by omega
  rw [List.getElem?_map, List.getElem?_eq_getElem hl, List.getD_eq_getElem?_getD, List.getElem?_eq_getElem hl]
  rfl
theorem has_place (T : Tx P K mg ad D fI cda cc) (d : Df K mg "is_place" 18) (hW : Has P w K mg base CX0 1 "is_whole" ["value"] spWhole) : Has P w K mg base CX0 2 "is_place" ["rooms", "x", "place"] spPlace := by
  obtain ⟨f, fd, F, hm⟩ := d
  refine ⟨f, fd, hm, F.kp, F.binds (fun _ _ _ _ _ _ us hl => match us, hl with | [_, _, _], _ => rfl), ?_⟩
  refine F.ok sc18 (fun vs H Q E h => ?_) (fun cdv A outer s H vs Q E hr h => ?_)
  · obtain ⟨a, x, v, rs, p, rfl, _⟩ := h
    rfl
  · obtain ⟨a, x, v, rs, p, rfl, hR, hp, k⟩ := h
    refine ⟨_, pss_cons (ps_if (pt_cmpR op_isN (pv 2) pe_non (nomark _)) (pss_one (ps_ret pe_bl)) pss_nil)
      (pss_cons (ps_if (PW.pt (pw_or (pt_not (pt_val (pe_callB call_isi (by rfl) T.isi boot_isinstance (pa_cons (pv 2) (pa_cons (pe_bltn (v := .ty "tuple") (by rfl) T.tuple boot_tuple rfl) pa_nil)))))
          (pw_or (pt_cmpR op_ne (pe_callB call_len (by rfl) T.len boot_len (pa_cons (pv 2) pa_nil)) pe_int (nomark _))
          (pw_or (pt_not (pt_val (pe_has hW hr pass0 (pa_cons (pe_ix ix_tup (pv 2) pe_int (fun _ _ => rfl)) pa_nil))))
          (pw_or1 (pt_not (pt_val (pe_has hW hr pass0 (pa_cons (pe_ix ix_tup (pv 2) pe_int (fun _ _ => rfl)) pa_nil)))))))))
        (pss_one (ps_ret pe_bl)) pss_nil)
      (pss_cons (ps_asg (pv 2) (pg_tup rfl (pgs_cons (pg_name (i := 3) sc18.nd rfl (Or.inl rfl)) (pgs_cons (pg_name (i := 4) sc18.nd rfl (Or.inl rfl)) pgs_nil))))
      (pss_one (ps_ret (pe_and (pe_chain op_le op_lt pe_int (pv 3) (pe_callB call_len (by rfl) T.len boot_len (pa_cons (pv 0) pa_nil)))
        (pe_and (pe_cmpR op_ne (pv 3) (pv 1) (nomark _))
        (pe_one (pe_chain op_le op_lt pe_int (pv 4) (pe_ix ix_tup (pv 0) (pv 3) (fun _ _ => rfl)))))))))), ?_⟩
    cases hp with
    | floor => exact ⟨_, rfl, rfl, _, rfl, iteT k⟩
    | word z =>
      refine ⟨_, rfl, rfl, _, rfl, iteF ?_⟩
      refine ⟨_, rfl, _, _, _, _, false, rfl, .ty _, .base (.str z), kit_ty (by decide +kernel), false, rfl, iteT ?_⟩
      exact iteT k
    | @row b is e n =>
      refine ⟨_, rfl, rfl, _, rfl, iteF ?_⟩
      refine ⟨_, rfl, _, _, _, _, true, rfl, .ty _, .base (.tup e), kit_ty (by decide +kernel), true, rfl, iteF ?_⟩
      refine ⟨_, rfl, _, is.length, rfl, .inr ⟨_, SqT.of e, by rw [List.length_map]⟩, rfl, _, rfl, ?_⟩
      refine if_true_of ?_ (iteT k)
      simp [n]
      omega
    | @named b z r e =>
      refine ⟨_, rfl, rfl, _, rfl, iteF ?_⟩
      refine ⟨_, rfl, _, _, _, _, true, rfl, .ty _, .base (.tup e), kit_ty (by decide +kernel), true, rfl, iteF ?_⟩
      refine ⟨_, rfl, _, 2, rfl, .inr ⟨_, SqT.of e, rfl⟩, rfl, _, rfl, iteF ?_⟩
      refine ⟨_, rfl, _, _, _, _, rfl, rfl, SqT.of e, at_of (j := 0) rfl rfl, _, rfl, .inr ⟨z, rfl, false, rfl, iteT ?_⟩⟩
      exact iteT k
    | @«at» b h r e =>
      refine ⟨_, rfl, rfl, _, rfl, iteF ?_⟩
      refine ⟨_, rfl, _, _, _, _, true, rfl, .ty _, .base (.tup e), kit_ty (by decide +kernel), true, rfl, iteF ?_⟩
      refine ⟨_, rfl, _, 2, rfl, .inr ⟨_, SqT.of e, rfl⟩, rfl, _, rfl, iteF ?_⟩
      refine ⟨_, rfl, _, _, _, _, rfl, rfl, SqT.of e, at_of (j := 0) rfl rfl, _, rfl, .inl ⟨h, rfl, true, rfl, iteF ?_⟩⟩
      refine ⟨_, rfl, _, _, _, _, rfl, rfl, SqT.of e, at_of (j := 1) rfl rfl, _, rfl, .inl ⟨r, rfl, true, rfl, iteF ?_⟩⟩
      refine ⟨_, rfl, _, _, rfl, SqT.of e, rfl, _, _, rfl, _, _, rfl, rfl, ?_⟩
      have kF : okPl rs x (.at h r) = false → Q (.bl false) H := fun e => by rw [e] at k; exact k
      refine ⟨_, rfl, 0, h, rfl, rfl, _, rfl, ite2 (fun h1 => ?_) (fun h1 => ?_)⟩
      · have h1 : 0 ≤ h := by simpa using h1
        refine ⟨_, rfl, _, rs.length, rfl, .inr ⟨_, SqT.of hR, by rw [List.length_map]⟩, h, rs.length, rfl, rfl, _, rfl, ite2 (fun h2 => ?_) (fun h2 => ?_)⟩
        · have h2 : h < rs.length := by simpa using h2
          refine ⟨_, rfl, _, rfl, rfl, _, rfl, ite2 (fun h3 => ?_) (fun h3 => ?_)⟩
          · have h3 : h ≠ x := by simpa using h3
            refine ⟨_, rfl, 0, r, rfl, rfl, _, rfl, ite2 (fun h4 => ?_) (fun h4 => ?_)⟩
            · have h4 : 0 ≤ r := by simpa using h4
              refine ⟨_, rfl, _, rfl, _, _, h, _, rfl, rfl, SqT.of hR, at_of (j := h.toNat) (by omega) (getD_of h1 h2), r, _, rfl, rfl, ?_⟩
              have e : okPl rs x (.at h r) = decide (r < rs.getD h.toNat 0) := by
                unfold okPl
                simp [h1, h2, h3, h4]
              rw [e] at k
              exact k
            · exact kF (by unfold okPl; simp at h4; simp; omega)
          · exact kF (by unfold okPl; simp at h3; simp [h3])
        · exact kF (by unfold okPl; simp at h2; simp; omega)
      · exact ⟨_, rfl, iteF (kF (by unfold okPl; simp at h1; simp; omega))⟩
end
end Ns
/-! the program's defs, the forests -/
namespace Ns
open PySem PySem.Spec PyProof.Rows L2
theorem Same.put {H H' : Hp} {a : Addr} {o : HO} (s : Same H H') (h : H a = none) : Same H (upd H' a o) := fun b u e => by
  rw [upd_ne (ne_of_none e h)]
  exact s b u e
theorem paired_set {α β : Type} {R : α → β → Prop} {x : α} {y : β} (r : R x y) : ∀ {l : List α} {m : List β} (i : Nat), Paired R l m → Paired R (l.set i x) (m.set i y)
  | _, _, _, .nil => .nil
  | _, _, 0, .cons _ t => .cons r t
  | _, _, i + 1, .cons q t => .cons q (paired_set r i t)
theorem paired_app {α β : Type} {R : α → β → Prop} : ∀ {l l' : List α} {m m' : List β}, Paired R l m → Paired R l' m' → Paired R (l ++ l') (m ++ m')
  | _, _, _, _, .nil, s => s
  | _, _, _, _, .cons r t, s => .cons r (paired_app t s)
theorem take_more {α : Type} : ∀ {l : List α} {i : Nat} {x : α}, l[i]? = some x → l.take (i + 1) = l.take i ++ [x]
  | [], i, x, h => by simp at h
  | a :: l, 0, x, h => by
    have e : a = x := Option.some.inj h
    subst e
    rfl
  | a :: l, i + 1, x, h => by
    have ih := take_more (l := l) (i := i) (x := x) h
    show a :: l.take (i + 1) = a :: l.take i ++ [x]
    rw [ih]
    rfl
/-! ### tuples cut and joined -/
theorem sl_any {K : PySem.W.Frag} {H : Hp} {a : Addr} {xs : List V} {lo hi : Option Int} {Q : VK} (h : H a = some (.tup xs)) (q : ∀ H' p, Same H H' → H' p = some (.tup (cutV xs lo hi)) → Q (.ref p) H') : rSlA K (.ref a) lo hi H Q := by
  refine ⟨a, xs, rfl, SqT.of h, fun hw => ?_, fun _ p hp => q _ p (Same.new hp) upd_same⟩
  refine q H a (Same.refl H) ?_
  rw [h]
  unfold cutV
  rw [hw.1, hw.2]
  simp
theorem cat_any {K : PySem.W.Frag} {H : Hp} {a b : Addr} {xs ys : List V} {Q : VK} (h : H a = some (.tup xs)) (h' : H b = some (.tup ys)) (hl : xs.length + ys.length ≤ sizeLine) (q : ∀ H' p, Same H H' → H' p = some (.tup (xs ++ ys)) → Q (.ref p) H') : rCatA K (.ref a) (.ref b) H Q := by
  refine ⟨a, b, xs, ys, rfl, rfl, SqT.of h, SqT.of h', hl, fun e => ?_, fun _ e => ?_, fun _ _ p hp => q _ p (Same.new hp) upd_same⟩
  · subst e
    exact q H b (Same.refl H) h'
  · subst e
    exact q H a (Same.refl H) (by rw [h, List.append_nil])
theorem sl_mono {K : PySem.W.Frag} {H : Hp} {x : V} {lo hi : Option Int} {Q Q' : VK} (h : rSlA K x lo hi H Q) (m : ∀ v H', Q v H' → Q' v H') : rSlA K x lo hi H Q' := by
  obtain ⟨a, xs, e, s, q0, q1⟩ := h
  exact ⟨a, xs, e, s, fun z => m _ _ (q0 z), fun z p hp => m _ _ (q1 z p hp)⟩
theorem cat_mono {K : PySem.W.Frag} {H : Hp} {x y : V} {Q Q' : VK} (h : rCatA K x y H Q) (m : ∀ v H', Q v H' → Q' v H') : rCatA K x y H Q' := by
  obtain ⟨a, b, xs, ys, e, e', s, s', hl, q0, q1, q2⟩ := h
  exact ⟨a, b, xs, ys, e, e', s, s', hl, fun z => m _ _ (q0 z), fun z z' => m _ _ (q1 z z'), fun z z' p hp => m _ _ (q2 z z' p hp)⟩
theorem cut_lo (xs : List V) {k : Nat} (hk : k ≤ xs.length) : cutV xs none (some (k : Int)) = xs.take k := by
  unfold cutV
  rw [HT.sIx_none, HT.sIx_nat]
  simp [Nat.min_eq_left hk]
theorem cut_hi (xs : List V) {k : Nat} (hk : k ≤ xs.length) : cutV xs (some (k : Int)) none = xs.drop k := by
  unfold cutV
  rw [HT.sIx_none, HT.sIx_nat, Nat.min_eq_left hk]
  rw [List.take_of_length_le]
  rw [List.length_drop]
  exact Nat.le_refl _
theorem set_parts (xs : List V) {k : Nat} (v : V) (hk : k < xs.length) : xs.take k ++ [v] ++ xs.drop (k + 1) = xs.set k v := by
  rw [List.set_eq_take_append_cons_drop, if_pos hk]
  simp
/-- t[:i] + (v,) + t[i + 1:] -/
theorem parts_go {K : PySem.W.Frag} {H : Hp} {a : Addr} {xs : List V} {i : Int} {v : V} {Q : VK} (h : H a = some (.tup xs)) (h0 : 0 ≤ i) (h1 : i < xs.length) (hl : xs.length ≤ 1000) (q : ∀ H' p, Same H H' → H' p = some (.tup (xs.set i.toNat v)) → Q (.ref p) H') :
    rSlA K (.ref a) none (some i) H fun x H1 => [v].length ≤ sizeLine ∧ ∀ p, H1 p = none → rCatA K x (.ref p) (upd H1 p (.tup [v])) fun y H2 => rSlA K (.ref a) (some (i + 1)) none H2 fun z H3 => rCatA K y z H3 Q := by
  obtain ⟨k, rfl⟩ : ∃ k : Nat, i = (k : Int) := ⟨i.toNat, by omega⟩
  have hk : k < xs.length := by omega
  have sz : ∀ n, n ≤ 2002 → n ≤ sizeLine := fun n hn => Nat.le_trans hn (by rw [sizeLine_eq]; decide)
  refine sl_any h fun H1 p1 s1 e1 => ⟨sz 1 (by omega), fun p hp => ?_⟩
  rw [cut_lo xs (Nat.le_of_lt hk)] at e1
  have s2 : Same H1 (upd H1 p (.tup [v])) := Same.new hp
  refine cat_any (s2 _ _ e1) upd_same (sz _ (by rw [List.length_take, List.length_singleton]; omega)) fun H2 p2 s3 e2 => ?_
  have ek : ((k : Int) + 1) = ((k + 1 : Nat) : Int) := by omega
  rw [ek]
  refine sl_any (s3 _ _ (s2 _ _ (s1 _ _ h))) fun H3 p3 s4 e3 => ?_
  rw [cut_hi xs (by omega)] at e3
  refine cat_any (s4 _ _ e2) e3 (sz _ (by rw [List.length_append, List.length_take, List.length_singleton, List.length_drop]; omega)) fun H4 p4 s5 e4 => ?_
  rw [set_parts xs v hk] at e4
  exact q H4 p4 (s1.trans (s2.trans (s3.trans (s4.trans s5)))) e4
/-! ### forests whose places are right -/
def VF (F : List Pl) : Prop := ∀ (i : Nat) (p : Pl), F[i]? = some p → p = .floor ∨ ∃ h r, p = .at h r ∧ 0 ≤ h ∧ h < F.length
def hold : Pl → Option Int
  | .at h _ => some h
  | _ => none
theorem par_of {F : List Pl} {x : Int} {p : Pl} (h : F[x.toNat]? = some p) : par F x = hold p := by
  unfold par
  rw [List.getD_eq_getElem?_getD, h]
  cases p <;> rfl
theorem VF.holds {F : List Pl} (v : VF F) : Holds F := fun x h e => by
  unfold par at e
  cases q : F[x.toNat]? with
  | none =>
    rw [List.getD_eq_getElem?_getD, q] at e
    cases e
  | some p =>
    rw [List.getD_eq_getElem?_getD, q] at e
    rcases v _ _ q with z | ⟨h', r, z, h1, h2⟩
    · rw [z] at e; cases e
    · rw [z] at e
      have e : some h' = some h := e
      cases e
      exact ⟨h1, h2⟩
theorem at_i {F : List Pl} {c : Int} (h0 : 0 ≤ c) (h1 : c < F.length) : ∃ p, F[c.toNat]? = some p := ⟨_, List.getElem?_eq_getElem (by omega)⟩
/-- forest[c] -/
theorem fo_get {K : PySem.W.Frag} {H : Hp} {vs : List V} {F : List Pl} {c : Int} (r : Paired (PlV H) vs F) (h0 : 0 ≤ c) (h1 : c < F.length) : ∃ v p, atI vs c = some v ∧ F[c.toNat]? = some p ∧ PlV H v p := by
  obtain ⟨p, hp⟩ := at_i h0 h1
  obtain ⟨v, hv, q⟩ := paired_get' r hp
  exact ⟨v, p, at_of (j := c.toNat) (by omega) hv, hp, q⟩
theorem int_eq {i j : Int} : decide (V.int i = V.int j) = decide (i = j) := by
  by_cases e : i = j
  · subst e; simp
  · have n : ¬ V.int i = V.int j := fun z => e (V.int.inj z)
    rw [decide_eq_false e, decide_eq_false n]
section
variable {P : Program} {w : World} {K : PySem.W.Frag} {mg : Str → Option Value} {base : Heap} {ad : Ec → Addr} {D fI cda cc : Addr}
/-! ### lies_in_itself -/
def spSelf : Sp := fun vs H Q _ => ∃ (a : Addr) (j : Nat) (F : List Pl), vs = [.ref a, .int j] ∧ FoAt H a F ∧ VF F ∧ j < F.length ∧ F.length ≤ 24 ∧ Q (.bl (inSelf F j)) H
theorem sc19 : FnScope ["forest", "x", "here", "_"] ["forest", "x"] (defScope (top 19)) := ⟨rfl, rfl, rfl, by decide +kernel, rfl, by decide +kernel, by decide +kernel⟩
theorem has_self (T : Tx P K mg ad D fI cda cc) (d : Df K mg "lies_in_itself" 19) : Has P w K mg base CX0 1 "lies_in_itself" ["forest", "x"] spSelf := by
  obtain ⟨f, fd, F, hm⟩ := d
  refine ⟨f, fd, hm, F.kp, F.binds (fun _ _ _ _ _ _ us hl => match us, hl with | [_, _], _ => rfl), ?_⟩
  refine F.ok sc19 (fun vs H Q E h => ?_) (fun cdv A outer s H vs Q E hr h => ?_)
  · obtain ⟨a, j, F, rfl, _⟩ := h
    rfl
  · obtain ⟨a, j, G, rfl, ⟨xs, hx, rp⟩, hv, hj, hl, k⟩ := h
    have hlen : xs.length = G.length := rp.length
    refine ⟨_, pss_cons (ps_set (i := 2) sc19.nd rfl (Or.inl rfl) (pv 1))
      (pss_cons (ps_for PassesOwn.never rfl (pi_range1 (by rfl) T.range (pa_cons (pe_callB call_len (by rfl) T.len boot_len (pa_cons (pv 0) pa_nil)) pa_nil)) (pg_name (i := 3) sc19.nd rfl (Or.inl rfl))
        (pss_cons (ps_if (pt_cmpR op_isN (pe_ix ix_tup (pv 0) (pv 2) (fun _ _ => rfl)) pe_non (nomark _)) (pss_one (ps_ret pe_bl)) pss_nil)
        (pss_cons (ps_set (i := 2) sc19.nd rfl (Or.inl rfl) (pe_ix ix_tup (pe_ix ix_tup (pv 0) (pv 2) (fun _ _ => rfl)) pe_int (fun _ _ => rfl)))
        (pss_one (ps_if (pt_cmpR op_eq (pv 2) (pv 1) (nomark _)) (pss_one (ps_ret pe_bl)) pss_nil)))))
      (pss_one (ps_ret pe_bl))), ?_⟩
    refine ⟨_, rfl, ?_⟩
    refine ⟨_, rfl, _, G.length, rfl, .inr ⟨_, SqT.of hx, hlen.symm⟩, (G.length : Int), rfl, by omega, by omega, ?_⟩
    refine for_range (lo := 0) (n := ((G.length : Nat) : Int).toNat) (fun i σ H' => ∃ c v, σ = [some (.ref a), some (.int j), some (.int c), v] ∧ H' = H ∧ it G i j = some c ∧ ∀ m, m < i → it G (m + 1) j ≠ some (j : Int))
      ⟨j, none, rfl, rfl, rfl, fun m hm => absurd hm (Nat.not_lt_zero _)⟩ ?_ ?_
    · rintro i σ H' hi ⟨c, v, rfl, rfl, hc, hn⟩
      have hi : i < G.length := by simpa using hi
      obtain ⟨c0, c1⟩ := it_range hv.holds (by omega) (by omega) hc
      obtain ⟨u, p, hu, hp, hup⟩ := fo_get (K := K) rp c0 c1
      have hpar := par_of hp
      refine ⟨_, rfl, _, rfl, _, xs, c, u, rfl, rfl, SqT.of hx, hu, rfl, _, rfl, ?_⟩
      rcases hv _ _ hp with rfl | ⟨h, r, rfl, hh0, hh1⟩
      · cases hup
        refine iteT ?_
        have e : inSelf G j = false := inSelf_not fun m hm z => by
          by_cases hmi : m < i
          · exact hn m hmi z
          · have z1 : it G (i + 1) j = none := (it_end hc).trans hpar
            rw [it_none_mono z1 (show i + 1 ≤ m + 1 by omega)] at z
            cases z
        rw [e] at k
        exact k
      · cases hup with
        | @«at» b _ _ eb =>
          have hne : decide (V.ref b = V.non) = false := decide_eq_false (fun z => by cases z)
          rw [hne]
          refine iteF ?_
          refine ⟨_, rfl, _, rfl, _, xs, c, _, rfl, rfl, SqT.of hx, hu, b, _, 0, _, rfl, rfl, SqT.of eb, at_of (j := 0) rfl rfl, ?_⟩
          have hc1 : it G (i + 1) j = some h := (it_end hc).trans hpar
          refine ⟨_, rfl, _, rfl, rfl, _, rfl, ?_⟩
          by_cases ehj : h = j
          · subst ehj
            refine if_true_of (by simp) ?_
            have e : inSelf G j = true := inSelf_of hi hc1
            rw [e] at k
            exact k
          · refine if_false_of (by rw [int_eq]; exact decide_eq_false ehj) ?_
            refine ⟨h, _, rfl, rfl, hc1, fun m hm z => ?_⟩
            by_cases hmi : m < i
            · exact hn m hmi z
            · have em : m = i := by omega
              rw [em, hc1] at z
              exact ehj (Option.some.inj z)
    · rintro σ H' ⟨c, v, rfl, rfl, hc, hn⟩
      have e : inSelf G j = false := inSelf_not fun m hm => hn m (by simpa using hm)
      rw [e] at k
      exact k
/-! ### first_bad, first_ring -/
def optV : Option Nat → V
  | some j => .int (j : Nat)
  | none => .non
def spBad : Sp := fun vs H Q _ => ∃ (a b : Addr) (rs : List Int) (F : List Pl), vs = [.ref a, .ref b] ∧ H a = some (.tup (rs.map V.int)) ∧ FoAt H b F ∧ F.length ≤ 24 ∧
  ∀ H', Same H H' → Q (optV (fst (fun j => okPl rs (j : Int) (F.getD j .floor)) F.length)) H'
theorem sc20 : FnScope ["rooms", "forest", "x", "place"] ["rooms", "forest"] (defScope (top 20)) := ⟨rfl, rfl, rfl, by decide +kernel, rfl, by decide +kernel, by decide +kernel⟩
theorem has_bad (T : Tx P K mg ad D fI cda cc) (d : Df K mg "first_bad" 20) (hP : Has P w K mg base CX0 2 "is_place" ["rooms", "x", "place"] spPlace) : Has P w K mg base CX0 3 "first_bad" ["rooms", "forest"] spBad := by
  obtain ⟨f, fd, F, hm⟩ := d
  refine ⟨f, fd, hm, F.kp, F.binds (fun _ _ _ _ _ _ us hl => match us, hl with | [_, _], _ => rfl), ?_⟩
  refine F.ok sc20 (fun vs H Q E h => ?_) (fun cdv A outer s H vs Q E hr h => ?_)
  · obtain ⟨a, b, rs, F, rfl, _⟩ := h
    rfl
  · obtain ⟨a, b, rs, G, rfl, hR, ⟨xs, hx, rp⟩, hl, k⟩ := h
    have hlen : xs.length = G.length := rp.length
    refine ⟨_, pss_cons (ps_for PassesOwn.never rfl (pi_enumT (by rfl) T.enum (pa_cons (pv 1) pa_nil)) (pg_tup rfl (pgs_cons (pg_name (i := 2) sc20.nd rfl (Or.inl rfl)) (pgs_cons (pg_name (i := 3) sc20.nd rfl (Or.inl rfl)) pgs_nil)))
        (pss_one (ps_if (pt_not (pt_val (pe_has hP hr pass0 (pa_cons (pv 0) (pa_cons (pv 2) (pa_cons (pv 3) pa_nil)))))) (pss_one (ps_ret (pv 2))) pss_nil)))
      (pss_one (ps_ret pe_non)), ?_⟩
    refine ⟨_, rfl, b, xs, rfl, SqT.of hx, for_enumT (K := K) (a := b) (xs := xs) (fun i σ H' => ∃ v1 v2, σ = [some (.ref a), some (.ref b), v1, v2] ∧ Same H H' ∧ ∀ j, j < i → okPl rs (j : Int) (G.getD j .floor) = true) ⟨none, none, rfl, Same.refl H, fun j hj => absurd hj (Nat.not_lt_zero _)⟩
      (fun i σ H' _ ⟨_, _, _, s, _⟩ => SqT.of (s _ _ hx)) ?_ ?_⟩
    · rintro i x t σ H' hi ht ⟨v1, v2, rfl, s, hok⟩
      obtain ⟨p, hp, hxp⟩ := paired_get rp hi
      have hil : i < G.length := (List.getElem?_eq_some_iff.mp hp).1
      have eg : G.getD i .floor = p := by
        rw [List.getD_eq_getElem?_getD, hp]
        rfl
      have s2 : Same H (upd H' t (.tup [.int (i : Nat), x])) := s.trans (Same.new ht)
      refine ⟨_, _, rfl, SqT.of upd_same, rfl, _, _, rfl, _, _, rfl, rfl, ?_⟩
      refine ⟨_, rfl, _, rfl, _, rfl, a, _, _, rs, p, rfl, s2 _ _ hR, hxp.mono (TS.of s2), _, rfl, ite2 (fun h1 => ?_) (fun h1 => ?_)⟩
      · have e : okPl rs (i : Int) (G.getD i .floor) = false := by rw [eg]; simpa using h1
        have q := k _ s2
        rw [fst_some e hok hil] at q
        exact ⟨_, rfl, q⟩
      · refine ⟨_, _, rfl, s2, fun j hj => ?_⟩
        by_cases e : j = i
        · rw [e, eg]; simpa using h1
        · exact hok j (by omega)
    · rintro σ H' ⟨v1, v2, rfl, s, hok⟩
      have q := k H' s
      rw [fst_none (fun j hj => hok j (by rw [hlen]; exact hj))] at q
      exact q
def spRing : Sp := fun vs H Q _ => ∃ (b : Addr) (F : List Pl), vs = [.ref b] ∧ FoAt H b F ∧ VF F ∧ F.length ≤ 24 ∧ Q (optV (fst (fun j => !inSelf F j) F.length)) H
theorem sc21 : FnScope ["forest", "x"] ["forest"] (defScope (top 21)) := ⟨rfl, rfl, rfl, by decide +kernel, rfl, by decide +kernel, by decide +kernel⟩
theorem has_ring (T : Tx P K mg ad D fI cda cc) (d : Df K mg "first_ring" 21) (hS : Has P w K mg base CX0 1 "lies_in_itself" ["forest", "x"] spSelf) : Has P w K mg base CX0 2 "first_ring" ["forest"] spRing := by
  obtain ⟨f, fd, F, hm⟩ := d
  refine ⟨f, fd, hm, F.kp, F.binds (fun _ _ _ _ _ _ us hl => match us, hl with | [_], _ => rfl), ?_⟩
  refine F.ok sc21 (fun vs H Q E h => ?_) (fun cdv A outer s H vs Q E hr h => ?_)
  · obtain ⟨b, F, rfl, _⟩ := h
    rfl
  · obtain ⟨b, G, rfl, hF, hv, hl, k⟩ := h
    obtain ⟨xs, hx, rp⟩ := id hF
    have hlen : xs.length = G.length := rp.length
    refine ⟨_, pss_cons (ps_for PassesOwn.never rfl (pi_range1 (by rfl) T.range (pa_cons (pe_callB call_len (by rfl) T.len boot_len (pa_cons (pv 0) pa_nil)) pa_nil)) (pg_name (i := 1) sc21.nd rfl (Or.inl rfl))
        (pss_one (ps_if (pt_val (pe_has hS hr pass0 (pa_cons (pv 0) (pa_cons (pv 1) pa_nil)))) (pss_one (ps_ret (pv 1))) pss_nil)))
      (pss_one (ps_ret pe_non)), ?_⟩
    refine ⟨_, rfl, _, G.length, rfl, .inr ⟨_, SqT.of hx, hlen.symm⟩, (G.length : Int), rfl, by omega, by omega, ?_⟩
    refine for_range (lo := 0) (n := ((G.length : Nat) : Int).toNat) (fun i σ H' => ∃ v, σ = [some (.ref b), v] ∧ H' = H ∧ ∀ j, j < i → (!inSelf G j) = true) ⟨none, rfl, rfl, fun j hj => absurd hj (Nat.not_lt_zero _)⟩ ?_ ?_
    · rintro i σ H' hi ⟨v, rfl, rfl, hok⟩
      have hi : i < G.length := by simpa using hi
      refine ⟨_, rfl, _, rfl, b, i, G, by rw [Int.zero_add]; rfl, hF, hv, hi, hl, _, rfl, ite2 (fun h1 => ?_) (fun h1 => ?_)⟩
      · rw [fst_some (i := i) (by simp [h1]) hok hi] at k
        refine ⟨_, rfl, ?_⟩
        rw [Int.zero_add]
        exact k
      · refine ⟨_, rfl, rfl, fun j hj => ?_⟩
        by_cases e : j = i
        · rw [e]; simpa using h1
        · exact hok j (by omega)
    · rintro σ H' ⟨v, rfl, rfl, hok⟩
      rw [fst_none (fun j hj => hok j (by simpa using hj))] at k
      exact k
/-! ### made_forest -/
theorem nums_v : ∀ {rm : List Rm}, (∀ j, j < rm.length → okRm rm j = true) → rm.map Rm.v = (nums rm).map V.int
  | [], _ => rfl
  | r :: rm, h => by
    have h0 : r.ok = true := h 0 (Nat.succ_pos _)
    have ih := nums_v (rm := rm) fun j hj => by
      have := h (j + 1) (Nat.succ_lt_succ hj)
      simpa [okRm] using this
    cases r with
    | num i =>
      show V.int i :: rm.map Rm.v = V.int i :: (nums rm).map V.int
      rw [ih]
    | word s => cases h0
theorem vf_of {rm : List Rm} {F : List Pl} (hl : F.length = rm.length) (h : ∀ j, j < F.length → okAt rm F j = true) : VF F := fun i p hp => by
  have hi : i < F.length := (List.getElem?_eq_some_iff.mp hp).1
  have := h i hi
  unfold okAt at this
  rw [List.getD_eq_getElem?_getD, hp] at this
  have this : okPl (nums rm) (i : Int) p = true := this
  cases p with
  | floor => exact .inl rfl
  | «at» a r =>
    right
    unfold okPl at this
    simp at this
    refine ⟨a, r, rfl, ?_, ?_⟩
    · omega
    · have hn : (nums rm).length = rm.length := by unfold nums; rw [List.length_map]
      rw [hl, ← hn]
      omega
  | word s => cases this
  | row is => cases this
  | named s r => cases this
def spForest (K : PySem.W.Frag) (ad : Ec → Addr) : Sp := fun vs H Q E => ∃ (a b : Addr) (rm : List Rm) (F : List Pl), vs = [.ref a, .ref b] ∧ RmAt H a rm ∧ rm.length ≤ 24 ∧ FoAt H b F ∧ F.length = rm.length ∧
  (∀ c j, fBad rm F = some (c, j) → Rz K ad E H c (.int j)) ∧ (fBad rm F = none → ∀ H' t, Same H H' → FoAt H' t F → Q (.ref t) H')
theorem sc22 : FnScope ["rooms", "forest", "bad", "ring", "place"] ["rooms", "forest"] (defScope (top 22)) := ⟨rfl, rfl, rfl, by decide +kernel, rfl, by decide +kernel, by decide +kernel⟩
theorem has_forest (T : Tx P K mg ad D fI cda cc) (d : Df K mg "made_forest" 22) (hR : Has P w K mg base (L2N.CX P w) 3 "made_rooms" ["thing"] (spRooms K ad)) (hB : Has P w K mg base CX0 3 "first_bad" ["rooms", "forest"] spBad)
    (hG : Has P w K mg base CX0 2 "first_ring" ["forest"] spRing) : Has P w K mg base (L2N.CX P w) 4 "made_forest" ["rooms", "forest"] (spForest K ad) := by
  obtain ⟨f, fd, F, hm⟩ := d
  refine ⟨f, fd, hm, F.kp, F.binds (fun _ _ _ _ _ _ us hl => match us, hl with | [_, _], _ => rfl), ?_⟩
  refine fn_okN F sc22 (fun vs H Q E h => ?_) (fun cdv A outer s H vs Q E hr h => ?_)
  · obtain ⟨a, b, rm, F, rfl, _⟩ := h
    rfl
  · obtain ⟨a, b, rm, G, rfl, hA, hl24, hF, hl, kE, kQ⟩ := h
    obtain ⟨xs, hx, rp⟩ := id hF
    have hlen : xs.length = G.length := rp.length
    have hr2 : Room 2 _ := hr.mono (by decide)
    refine ⟨_, pss_cons (ps_set (i := 0) sc22.nd rfl (Or.inl rfl) (pe_has hR hr (L2N.passes_call (L2N.takes_of rfl rfl rfl rfl) (fun _ _ _ _ h => h)) (pa_cons (pv 0) pa_nil)))
      (pss_cons (ps_if (PW.pt (pw_or (pt_not (pt_val (pe_callB call_isi (by rfl) T.isi boot_isinstance (pa_cons (pv 1) (pa_cons (pe_bltn (v := .ty "tuple") (by rfl) T.tuple boot_tuple rfl) pa_nil)))))
          (pw_or1 (pt_cmpR op_ne (pe_callB call_len (by rfl) T.len boot_len (pa_cons (pv 1) pa_nil)) (pe_callB call_len (by rfl) T.len boot_len (pa_cons (pv 0) pa_nil)) (nomark _))))) (pss_one ps_never) pss_nil)
      (pss_cons (ps_set (i := 2) sc22.nd rfl (Or.inl rfl) (pe_has hB hr pass0 (pa_cons (pv 0) (pa_cons (pv 1) pa_nil))))
      (pss_cons (ps_if (pt_cmpR op_notN (pv 2) pe_non (nomark _)) (pss_one (ps_raiseR rfl T.I0 (T.err .forest) (T.gE .forest) T.sup T.top_ hr (L2N.takes_of rfl rfl rfl rfl) (pv 2))) pss_nil)
      (pss_cons (ps_set (i := 3) sc22.nd rfl (Or.inl rfl) (pe_has hG hr2 pass0 (pa_cons (pv 1) pa_nil)))
      (pss_cons (ps_if (pt_cmpR op_notN (pv 3) pe_non (nomark _)) (pss_one (ps_raiseR rfl T.I0 (T.err .ring) (T.gE .ring) T.sup T.top_ hr (L2N.takes_of rfl rfl rfl rfl) (pv 3))) pss_nil)
      (pss_one (ps_ret (pe_callTy call_tuple_of (by rfl) T.tuple boot_tuple (pa_cons (pe_lc (own := [("place", 4)]) (g := gName 4) (tt := tYes) rfl sc22.nd (pi_tup (pv 1)) (blkOk_by (own := [("place", 4)]) (N := ["rooms", "forest", "bad", "ring", "place"]) (sc := defScope (top 22)) (by decide +kernel))
        (fun _ _ _ _ _ => pg_name (i := 4) sc22.nd rfl (Or.inl rfl)) (fun _ _ _ _ _ => pts_nil)
        (fun _ _ _ _ _ => pe_ifExp (pt_cmpR op_isN (pv 4) pe_non (nomark _)) pe_non (pe_tup (pa_cons (pe_ix (r := rIxT K) ix_tup (pv 4) pe_int (fun _ _ => rfl)) (pa_cons (pe_ix (r := rIxT K) ix_tup (pv 4) pe_int (fun _ _ => rfl)) pa_nil))))) pa_nil))))))))), ?_⟩
    refine ⟨_, rfl, a, rm, rfl, hA, hl24, fun j hj => ?_, fun hnone H1 s1 => ?_⟩
    · exact kE .rooms j (by unfold fBad; rw [hj])
    have hA1 : H1 a = some (.tup ((nums rm).map V.int)) := by
      rw [← nums_v (fst_is_none hnone)]
      exact s1 _ _ hA
    have hF1 : FoAt H1 b G := hF.mono (TS.of s1)
    have hx1 := s1 _ _ hx
    have hnl : (nums rm).length = rm.length := by unfold nums; rw [List.length_map]
    refine ⟨_, rfl, _, _, _, _, true, rfl, .ty _, .base (.tup hx1), kit_ty (by decide +kernel), true, rfl, iteF ?_⟩
    refine ⟨_, rfl, _, G.length, rfl, .inr ⟨_, SqT.of hx1, hlen.symm⟩, _, rfl, _, rm.length, rfl, .inr ⟨_, SqT.of hA1, by rw [List.length_map, hnl]⟩, rfl, _, rfl, ?_⟩
    refine if_false_of (by rw [int_eq, hl]; simp) ?_
    refine ⟨_, rfl, _, rfl, a, b, nums rm, G, rfl, hA1, hF1, by omega, fun H2 s2 => ?_⟩
    have hA2 := s2 _ _ hA1
    have s12 := s1.trans s2
    cases hb : fst (fun j => okPl (nums rm) (j : Int) (G.getD j .floor)) G.length with
    | some j =>
      refine ⟨_, rfl, rfl, _, rfl, iteT ?_⟩
      refine ⟨_, rfl, fun d hd => ?_⟩
      refine kE .forest j ?_ _ d _ (s12.trans (Same.new hd)) upd_same (.int _)
      unfold fBad
      rw [hnone]
      show (match fst (okAt rm G) G.length with | some j => some (Ec.forest, j) | none => _) = _
      have e : okAt rm G = fun (j : Nat) => okPl (nums rm) (j : Int) (G.getD j .floor) := rfl
      rw [e, hb]
    | none =>
      have hv : VF G := vf_of hl (fst_is_none hb)
      refine ⟨_, rfl, rfl, _, rfl, iteF ?_⟩
      refine ⟨_, rfl, b, G, rfl, hF.mono (TS.of s12), hv, by omega, ?_⟩
      cases hg : fst (fun j => !inSelf G j) G.length with
      | some j =>
        refine ⟨_, rfl, rfl, _, rfl, iteT ?_⟩
        refine ⟨_, rfl, fun d hd => ?_⟩
        refine kE .ring j ?_ _ d _ (s12.trans (Same.new hd)) upd_same (.int _)
        unfold fBad
        rw [hnone]
        show (match fst (okAt rm G) G.length with | some j => some (Ec.forest, j) | none => _) = _
        have e : okAt rm G = fun (j : Nat) => okPl (nums rm) (j : Int) (G.getD j .floor) := rfl
        rw [e, hb]
        show (match fst (fun j => !inSelf G j) G.length with | some j => some (Ec.ring, j) | none => none) = _
        rw [hg]
      | none =>
        have hok : fBad rm G = none := by
          unfold fBad
          rw [hnone]
          show (match fst (okAt rm G) G.length with | some j => some (Ec.forest, j) | none => _) = _
          have e : okAt rm G = fun (j : Nat) => okPl (nums rm) (j : Int) (G.getD j .floor) := rfl
          rw [e, hb]
          show (match fst (fun j => !inSelf G j) G.length with | some j => some (Ec.ring, j) | none => none) = _
          rw [hg]
        refine ⟨_, rfl, rfl, _, rfl, iteF ?_⟩
        have hx2 := s12 _ _ hx
        refine ⟨_, rfl, b, rfl, ⟨xs, SqT.of hx2⟩, fun L hL => ?_⟩
        refine lc_tup (K := K) (a := b) (xs := xs) (fun i H' => Same H2 H' ∧ ∃ acc, H' L = some (.lst acc) ∧ Paired (PlV H') acc (G.take i)) ⟨Same.new hL, [], upd_same, .nil⟩ (fun i H' _ ⟨s3, _⟩ => SqT.of (s3 _ _ hx2)) ?_ ?_
        · rintro i x H' hi ⟨s3, acc, hacc, pacc⟩
          obtain ⟨p, hp, hxp⟩ := paired_get rp hi
          have hxp' : PlV H' x p := hxp.mono (TS.of (s12.trans s3))
          have tk := take_more hp
          have hal : acc.length < sizeLine := by
            have h1 := pacc.length
            rw [List.length_take] at h1
            exact Nat.lt_of_le_of_lt (show acc.length ≤ 24 by omega) (by rw [sizeLine_eq]; decide)
          refine ⟨rfl, ?_⟩
          refine ⟨_, rfl, rfl, _, rfl, ?_⟩
          rcases hv _ _ hp with rfl | ⟨h, r, rfl, hh0, hh1⟩
          · cases hxp'
            refine iteT ?_
            refine ⟨acc, hacc, hal, Same.put s3 hL, acc ++ [.non], upd_same, ?_⟩
            rw [tk]
            exact paired_app (L2.Paired.mapP pacc fun _ _ q => q.mono (TS.lst hacc)) (.cons .floor .nil)
          · cases hxp' with
            | @«at» c _ _ ec =>
              have hne : decide (V.ref c = V.non) = false := decide_eq_false (fun z => by cases z)
              rw [hne]
              refine iteF ?_
              refine ⟨_, rfl, _, _, 0, _, rfl, rfl, SqT.of ec, at_of (j := 0) rfl rfl, _, rfl, _, _, 1, _, rfl, rfl, SqT.of ec, at_of (j := 1) rfl rfl, by show 2 ≤ sizeLine; decide, fun q hq => ?_⟩
              have sq : Same H' (upd H' q (.tup [.int h, .int r])) := Same.new hq
              have hacc2 := sq _ _ hacc
              refine ⟨acc, hacc2, hal, Same.put (s3.trans sq) hL, _, upd_same, ?_⟩
              rw [tk]
              have sl : TS (upd H' q (.tup [.int h, .int r])) (upd (upd H' q (.tup [.int h, .int r])) L (.lst (acc ++ [.ref q]))) := TS.lst hacc2
              exact paired_app (L2.Paired.mapP pacc fun _ _ z => (z.mono (TS.of sq)).mono sl) (.cons (.at (sl _ _ upd_same)) .nil)
        · rintro H' ⟨s3, acc, hacc, pacc⟩
          rw [hlen, List.take_length] at pacc
          refine ⟨L, acc, rfl, .inl ⟨SqL.of hacc, fun t ht => ?_⟩⟩
          refine kQ hok _ t ((s12.trans s3).trans (Same.new ht)) ⟨acc, upd_same, L2.Paired.mapP pacc fun _ _ z => z.mono (TS.new ht)⟩
/-! ### around, put, hung -/
theorem anc_len {F : List Pl} : ∀ {m : Nat} {x c : Int}, it F m x = some c → (anc F m x).length = m
  | 0, x, c, h => rfl
  | m + 1, x, c, h => by
    cases e : par F x with
    | none => rw [it_none e] at h; cases h
    | some q =>
      rw [it_succ e] at h
      have ih := anc_len h
      show (match par F x with | none => [] | some h => h :: anc F m h).length = m + 1
      rw [e]
      show (q :: anc F m q).length = m + 1
      rw [List.length_cons, ih]
def spAround : Sp := fun vs H Q _ => ∃ (a : Addr) (x : Int) (F : List Pl), vs = [.ref a, .int x] ∧ FoAt H a F ∧ VF F ∧ NoRing F ∧ 0 ≤ x ∧ x < F.length ∧ F.length ≤ 24 ∧
  ∀ H' t, Same H H' → H' t = some (.tup ((anc F F.length x).map V.int)) → Q (.ref t) H'
theorem sc23 : FnScope ["forest", "x", "told", "place"] ["forest", "x"] (defScope (top 23)) := ⟨rfl, rfl, rfl, by decide +kernel, rfl, by decide +kernel, by decide +kernel⟩
/-- how long the list at slot i is -/
def lenAt (i : Nat) (σ : St) (H : Hp) : Nat := match σ[i]? with
  | some (some (.ref L)) => match H L with
    | some (.lst xs) => xs.length
    | _ => 0
  | _ => 0
theorem has_around (T : Tx P K mg ad D fI cda cc) (d : Df K mg "around" 23) : Has P w K mg base CX0 1 "around" ["forest", "x"] spAround := by
  obtain ⟨f, fd, F, hm⟩ := d
  refine ⟨f, fd, hm, F.kp, F.binds (fun _ _ _ _ _ _ us hl => match us, hl with | [_, _], _ => rfl), ?_⟩
  refine F.ok sc23 (fun vs H Q E h => ?_) (fun cdv A outer s H vs Q E hr h => ?_)
  · obtain ⟨a, x, F, rfl, _⟩ := h
    rfl
  · obtain ⟨a, x, G, rfl, ⟨xs, hx, rp⟩, hv, nr, x0, x1, hl, k⟩ := h
    have hlen : xs.length = G.length := rp.length
    refine ⟨_, pss_cons (ps_set (i := 2) sc23.nd rfl (Or.inl rfl) (pe_lst pa_nil))
      (pss_cons (ps_set (i := 3) sc23.nd rfl (Or.inl rfl) (pe_ix ix_tup (pv 0) (pv 1) (fun _ _ => rfl)))
      (pss_cons (ps_while PassesOwn.never (pt_cmpR op_notN (pv 3) pe_non (nomark _))
        (pss_cons (ps_expr (pe_bm PySem.F.plainAttrs_list PySem.F.slot_list_append PySem.F.type_list_append mt_append (pv 2) (pa_cons (pe_ix ix_tup (pv 3) pe_int (fun _ _ => rfl)) pa_nil)))
        (pss_one (ps_set (i := 3) sc23.nd rfl (Or.inl rfl) (pe_ix ix_tup (pv 0) (pe_ix ix_tup (pv 3) pe_int (fun _ _ => rfl)) (fun _ _ => rfl))))))
      (pss_one (ps_ret (pe_callTy call_tuple_of (by rfl) T.tuple boot_tuple (pa_cons (pv 2) pa_nil)))))), ?_⟩
    refine ⟨Nat.zero_le _, fun L hL => ?_⟩
    have sL : Same H (upd H L (.lst [])) := Same.new hL
    obtain ⟨u, p, hu, hp, hup⟩ := fo_get (K := K) rp x0 x1
    refine ⟨_, rfl, _, rfl, _, xs, x, u, rfl, rfl, SqT.of (sL _ _ hx), hu, ?_⟩
    refine while_by (fun σ H' => ∃ c v p m, σ = [some (.ref a), some (.int x), some (.ref L), some v] ∧ Same H H' ∧ H' L = some (.lst ((anc G m x).map V.int)) ∧ it G m x = some c ∧ PlV H' v p ∧ G[c.toNat]? = some p) (fun σ H' => G.length - lenAt 2 σ H')
      ⟨x, u, p, 0, rfl, sL, upd_same, rfl, hup.mono (TS.of sL), hp⟩ ?_ (fun σ H Q Q' h ⟨v, hv, e, k, ek, q⟩ => ⟨v, hv, e, k, ek, h _ _ q⟩)
    rintro σ H' ⟨c, v, p, m, rfl, s, hLm, hc, hvp, hp⟩
    obtain ⟨c0, c1⟩ := it_range hv.holds x0 x1 hc
    have hpar := par_of hp
    have hml := anc_len hc
    have mlt : m < G.length := by
      have z := chain_ends hv.holds nr x0 x1
      by_cases h : m < G.length
      · exact h
      · rw [it_none_mono z (by omega)] at hc
        cases hc
    refine ⟨_, rfl, rfl, _, rfl, ?_⟩
    rcases hv _ _ hp with rfl | ⟨h, r, rfl, hh0, hh1⟩
    · cases hvp
      refine iteF ?_
      refine ⟨_, rfl, L, _, rfl, .inl ⟨SqL.of hLm, fun t ht => ?_⟩⟩
      refine k _ t (s.trans (Same.new ht)) ?_
      rw [anc_stop hc hpar (Nat.le_of_lt mlt)]
      exact upd_same
    · cases hvp with
      | @«at» b _ _ eb =>
        have hne : decide (V.ref b = V.non) = false := decide_eq_false (fun z => by cases z)
        rw [hne]
        refine iteT ?_
        have sz : ((anc G m x).map V.int).length < sizeLine := by
          rw [List.length_map, hml]
          exact Nat.lt_of_le_of_lt (show m ≤ 24 by omega) (by rw [sizeLine_eq]; decide)
        refine ⟨_, rfl, .inl ⟨rfl, _, SqL.of hLm⟩, _, rfl, b, _, 0, _, rfl, rfl, SqT.of eb, at_of (j := 0) rfl rfl, L, _, _, rfl, rfl, hLm, sz, ?_⟩
        have sT : TS H' (upd H' L (.lst ((anc G m x).map V.int ++ [V.int h]))) := TS.lst hLm
        have sS : Same H (upd H' L (.lst ((anc G m x).map V.int ++ [V.int h]))) := Same.put s hL
        obtain ⟨u2, p2, hu2, hp2, hup2⟩ := fo_get (K := K) rp hh0 hh1
        refine ⟨_, rfl, _, rfl, b, _, 0, _, rfl, rfl, SqT.of (sT _ _ eb), at_of (j := 0) rfl rfl, _, xs, h, u2, rfl, rfl, SqT.of (sS _ _ hx), hu2, ?_⟩
        have hc1 : it G (m + 1) x = some h := (it_end hc).trans hpar
        refine ⟨⟨h, u2, p2, m + 1, rfl, sS, ?_, hc1, hup2.mono (TS.of sS), hp2⟩, ?_⟩
        · rw [upd_same, anc_snoc hc hpar, List.map_append]
          rfl
        · have e1 : lenAt 2 [some (V.ref a), some (V.int x), some (V.ref L), some (V.ref b)] H' = m := by
            show (match H' L with | some (.lst xs) => xs.length | _ => 0) = m
            rw [hLm]
            show ((anc G m x).map V.int).length = m
            rw [List.length_map, hml]
          have e2 : lenAt 2 [some (V.ref a), some (V.int x), some (V.ref L), some u2] (upd H' L (.lst ((anc G m x).map V.int ++ [V.int h]))) = m + 1 := by
            show (match (upd H' L (.lst ((anc G m x).map V.int ++ [V.int h]))) L with | some (.lst xs) => xs.length | _ => 0) = m + 1
            rw [upd_same]
            show ((anc G m x).map V.int ++ [V.int h]).length = m + 1
            rw [List.length_append, List.length_map, hml, List.length_singleton]
          show G.length - lenAt 2 [some (V.ref a), some (V.int x), some (V.ref L), some u2] _ < G.length - lenAt 2 [some (V.ref a), some (V.int x), some (V.ref L), some (V.ref b)] H'
          rw [e1, e2]
          omega
def spPut : Sp := fun vs H Q _ => ∃ (a : Addr) (x : Int) (v : V) (F : List Pl) (p : Pl), vs = [.ref a, .int x, v] ∧ FoAt H a F ∧ PlV H v p ∧ 0 ≤ x ∧ x < F.length ∧ F.length ≤ 24 ∧
  ∀ H' t, Same H H' → FoAt H' t (F.set x.toNat p) → Q (.ref t) H'
theorem sc24 : FnScope ["forest", "x", "place"] ["forest", "x", "place"] (defScope (top 24)) := ⟨rfl, rfl, rfl, by decide +kernel, rfl, by decide +kernel, by decide +kernel⟩
theorem has_put (T : Tx P K mg ad D fI cda cc) (d : Df K mg "put" 24) : Has P w K mg base CX0 1 "put" ["forest", "x", "place"] spPut := by
  obtain ⟨f, fd, F, hm⟩ := d
  refine ⟨f, fd, hm, F.kp, F.binds (fun _ _ _ _ _ _ us hl => match us, hl with | [_, _, _], _ => rfl), ?_⟩
  refine F.ok sc24 (fun vs H Q E h => ?_) (fun cdv A outer s H vs Q E hr h => ?_)
  · obtain ⟨a, x, v, F, p, rfl, _⟩ := h
    rfl
  · obtain ⟨a, x, v, G, p, rfl, ⟨xs, hx, rp⟩, hp, x0, x1, hl, k⟩ := h
    have hlen : xs.length = G.length := rp.length
    refine ⟨_, pss_one (ps_ret (pe_op op_catA (pe_op op_catA (pe_slice sl_tupA (pv 0) po_none (po_some (pv 1))) (pe_tup (pa_cons (pv 2) pa_nil))) (pe_slice sl_tupA (pv 0) (po_some (pe_op op_add (pv 1) pe_int)) po_none))), ?_⟩
    have go := parts_go (K := K) (Q := Q) (v := v) hx x0 (by omega) (by omega) fun H' t s e => k H' t s ⟨_, e, paired_set (hp.mono (TS.of s)) _ (L2.Paired.mapP rp fun _ _ q => q.mono (TS.of s))⟩
    refine ⟨_, rfl, _, rfl, x, rfl, sl_mono go fun y1 H1 h1 => ⟨_, rfl, h1.1, fun p hp => cat_mono (h1.2 p hp) fun y2 H2 h2 => ?_⟩⟩
    exact ⟨_, rfl, _, rfl, _, _, rfl, rfl, _, rfl, sl_mono h2 fun y3 H3 h3 => h3⟩
end
end Ns
/-! hung -/
namespace Ns
open PySem PySem.Spec PyProof.Rows L2
section
variable {P : Program} {w : World} {K : PySem.W.Frag} {mg : Str → Option Value} {base : Heap} {ad : Ec → Addr} {D fI cda cc : Addr}
def spHung (K : PySem.W.Frag) (ad : Ec → Addr) : Sp := fun vs H Q E => ∃ (a b : Addr) (x : Int) (v : V) (rm : List Rm) (F : List Pl) (p : Pl), vs = [.ref a, .ref b, .int x, v] ∧ RmAt H a rm ∧ rm.length ≤ 24 ∧ FoAt H b F ∧ F.length = rm.length ∧ PlV H v p ∧
  (∀ c w, out rm F x p = .bad c w → Rz K ad E H c w) ∧ (∀ F', out rm F x p = .told F' → ∀ H' t, Same H H' → FoAt H' t F' → Q (.ref t) H')
theorem sc25 : FnScope ["rooms", "forest", "x", "place"] ["rooms", "forest", "x", "place"] (defScope (top 25)) := ⟨rfl, rfl, rfl, by decide +kernel, rfl, by decide +kernel, by decide +kernel⟩
theorem fBad_none {rm : List Rm} {F : List Pl} (h : fBad rm F = none) : fst (okRm rm) rm.length = none ∧ fst (okAt rm F) F.length = none ∧ fst (fun j => !inSelf F j) F.length = none := by
  unfold fBad at h
  cases e1 : fst (okRm rm) rm.length with
  | some j => rw [e1] at h; cases h
  | none =>
    rw [e1] at h
    cases e2 : fst (okAt rm F) F.length with
    | some j => 
      have h : (match fst (okAt rm F) F.length with | some j => some (Ec.forest, j) | none => _) = none := h
      rw [e2] at h; cases h
    | none =>
      have h : (match fst (okAt rm F) F.length with | some j => some (Ec.forest, j) | none => match fst (fun j => !inSelf F j) F.length with | some j => some (Ec.ring, j) | none => none) = none := h
      rw [e2] at h
      cases e3 : fst (fun j => !inSelf F j) F.length with
      | some j =>
        have h : (match fst (fun j => !inSelf F j) F.length with | some j => some (Ec.ring, j) | none => none) = none := h
        rw [e3] at h; cases h
      | none => exact ⟨rfl, rfl, rfl⟩
theorem all_flat (is : List Int) : (is.map V.int).all flatV = true := by
  rw [List.all_eq_true]
  intro v hv
  obtain ⟨i, _, rfl⟩ := List.mem_map.mp hv
  rfl
theorem inV_ints (x : Int) : ∀ is : List Int, inV (.int x) (is.map V.int) = decide (x ∈ is)
  | [] => by simp [inV]
  | i :: is => by
    have ih := inV_ints x is
    unfold inV at ih ⊢
    rw [List.map_cons, List.any_cons, ih]
    show ((i == x) || decide (x ∈ is)) = decide (x ∈ i :: is)
    by_cases e : i = x
    · subst e; simp
    · have e' : ¬ x = i := fun z => e z.symm
      simp [e, e']
theorem has_hung (T : Tx P K mg ad D fI cda cc) (d : Df K mg "hung" 25) (hR : Has P w K mg base (L2N.CX P w) 3 "made_rooms" ["thing"] (spRooms K ad)) (hF : Has P w K mg base (L2N.CX P w) 4 "made_forest" ["rooms", "forest"] (spForest K ad))
    (hW : Has P w K mg base (L2N.CX P w) 3 "want_thing" ["rooms", "x"] (spWant K ad)) (hP : Has P w K mg base CX0 2 "is_place" ["rooms", "x", "place"] spPlace) (hA : Has P w K mg base CX0 1 "around" ["forest", "x"] spAround)
    (hU : Has P w K mg base CX0 1 "put" ["forest", "x", "place"] spPut) : Has P w K mg base (L2N.CX P w) 5 "hung" ["rooms", "forest", "x", "place"] (spHung K ad) := by
  obtain ⟨f, fd, F, hm⟩ := d
  refine ⟨f, fd, hm, F.kp, F.binds (fun _ _ _ _ _ _ us hl => match us, hl with | [_, _, _, _], _ => rfl), ?_⟩
  refine fn_okN F sc25 (fun vs H Q E h => ?_) (fun cdv A outer s H vs Q E hr h => ?_)
  · obtain ⟨a, b, x, v, rm, F, p, rfl, _⟩ := h
    rfl
  · obtain ⟨a, b, x, v, rm, G, p, rfl, hA0, hl24, hF0, hl, hp, kE, kQ⟩ := h
    have hr3 : Room 3 _ := hr.mono (by decide)
    have hr2 : Room 2 _ := hr.mono (by decide)
    have hr1 : Room 1 _ := hr.mono (by decide)
    have pN : ∀ {q : Prop}, q → q := fun h => h
    refine ⟨_, pss_cons (ps_set (i := 0) sc25.nd rfl (Or.inl rfl) (pe_has hR hr3 (L2N.passes_call (L2N.takes_of rfl rfl rfl rfl) (fun _ _ _ _ h => h)) (pa_cons (pv 0) pa_nil)))
      (pss_cons (ps_set (i := 1) sc25.nd rfl (Or.inl rfl) (pe_has hF hr (L2N.passes_call (L2N.takes_of rfl rfl rfl rfl) (fun _ _ _ _ h => h)) (pa_cons (pv 0) (pa_cons (pv 1) pa_nil))))
      (pss_cons (ps_expr (pe_has hW hr3 (L2N.passes_call (L2N.takes_of rfl rfl rfl rfl) (fun _ _ _ _ h => h)) (pa_cons (pv 0) (pa_cons (pv 2) pa_nil))))
      (pss_cons (ps_if (pt_not (pt_val (pe_has hP hr2 pass0 (pa_cons (pv 0) (pa_cons (pv 2) (pa_cons (pv 3) pa_nil)))))) (pss_one (ps_raiseR rfl T.I0 (T.err .place) (T.gE .place) T.sup T.top_ hr (L2N.takes_of rfl rfl rfl rfl) (pv 3))) pss_nil)
      (pss_cons (ps_if (PW.pt (pw_and (pt_cmpR op_notN (pv 3) pe_non (nomark _)) (pw_and1 (pt_cmpR op_in_seq (pv 2) (pe_has hA hr1 pass0 (pa_cons (pv 1) (pa_cons (pe_ix ix_tup (pv 3) pe_int (fun _ _ => rfl)) pa_nil))) (by rfl)))))
        (pss_one (ps_raiseR rfl T.I0 (T.err .within) (T.gE .within) T.sup T.top_ hr (L2N.takes_of rfl rfl rfl rfl) (pe_ix ix_tup (pv 3) pe_int (fun _ _ => rfl)))) pss_nil)
      (pss_one (ps_ret (pe_has hU hr1 pass0 (pa_cons (pv 1) (pa_cons (pv 2) (pa_cons (pv 3) pa_nil)))))))))), ?_⟩
    refine ⟨_, rfl, a, rm, rfl, hA0, hl24, fun j hj => ?_, fun hnone H1 s1 => ?_⟩
    · refine kE .rooms (.int j) ?_
      unfold out fBad
      rw [hj]
    refine ⟨_, rfl, _, rfl, a, b, rm, G, rfl, hA0.mono (TS.of s1), hl24, hF0.mono (TS.of s1), hl, fun c j hj => ?_, fun hok H2 t s2 hF2 => ?_⟩
    · refine (kE c (.int j) ?_).mono s1
      unfold out
      rw [hj]
    have eo : out rm G x p = rest rm G x p := by
      unfold out
      rw [hok]
    have s12 := s1.trans s2
    have hA2 := hA0.mono (TS.of s12)
    have hp2 := hp.mono (TS.of s12)
    obtain ⟨f1, f2, f3⟩ := fBad_none hok
    have hv : VF G := vf_of hl (fst_is_none f2)
    have nr : NoRing G := fun j hj => by simpa using fst_is_none f3 j hj
    have hn : H2 a = some (.tup ((nums rm).map V.int)) := by rw [← nums_v (fst_is_none f1)]; exact hA2
    have hnl : (nums rm).length = rm.length := by unfold nums; rw [List.length_map]
    refine ⟨_, rfl, _, rfl, a, x, rm, rfl, hA2, fun hin => ?_, fun hnin => ?_⟩
    · refine ⟨_, rfl, _, rfl, _, rfl, a, x, v, nums rm, p, rfl, hn, hp2, _, rfl, ite2 (fun h1 => ?_) (fun h1 => ?_)⟩
      · refine ⟨_, rfl, fun d hd => ?_⟩
        refine kE .place p.dat ?_ _ d v (s12.trans (Same.new hd)) upd_same (hp2.mono (TS.new hd)).dp
        rw [eo]
        unfold rest
        rw [if_pos hin, if_neg (by simpa using h1)]
      · have h1 : okPl (nums rm) x p = true := by simpa using h1
        have fin : ∀ H3, Same H2 H3 → (out rm G x p = .told (G.set x.toNat p)) → spPut [.ref t, .int x, v] H3 Q E0 := fun H3 s3 e =>
          ⟨t, x, v, G, p, rfl, hF2.mono (TS.of s3), hp2.mono (TS.of s3), hin.1, by omega, by omega, fun H4 u s4 h4 => kQ _ e _ _ ((s12.trans s3).trans s4) h4⟩
        refine ⟨_, rfl, rfl, ?_⟩
        cases p with
        | floor =>
          cases hp
          refine ⟨_, rfl, iteF ?_⟩
          refine ⟨_, rfl, _, rfl, _, rfl, fin _ (Same.refl _) ?_⟩
          rw [eo]
          unfold rest
          rw [if_pos hin, if_pos h1]
        | word z => cases h1
        | row is => cases h1
        | named z r => cases h1
        | «at» h r =>
          cases hp with
          | @«at» c _ _ ec =>
            have ec2 : H2 c = some (.tup [.int h, .int r]) := s12 _ _ ec
            have hne : decide (V.ref c = V.non) = false := decide_eq_false (fun z => by cases z)
            rw [hne]
            refine ⟨_, rfl, iteT ?_⟩
            have h1' := h1
            unfold okPl at h1'
            simp at h1'
            obtain ⟨⟨⟨⟨y1, y2⟩, y3⟩, y4⟩, y5⟩ := h1'
            refine ⟨_, rfl, _, rfl, _, rfl, _, _, 0, _, rfl, rfl, SqT.of ec2, at_of (j := 0) rfl rfl, t, h, G, rfl, hF2, hv, nr, y1, by omega, by omega, fun H3 u s3 hu => ?_⟩
            refine ⟨u, _, rfl, .inr (SqT.of hu), rfl, all_flat _, _, rfl, ?_⟩
            show if inV (.int x) ((anc G G.length h).map V.int) = true then _ else _
            rw [inV_ints]
            refine ite2 (fun h2 => ?_) (fun h2 => ?_)
            · have h2 : x ∈ anc G G.length h := by simpa using h2
              have ec3 := s3 _ _ ec2
              refine ⟨_, rfl, _, _, 0, _, rfl, rfl, SqT.of ec3, at_of (j := 0) rfl rfl, fun d hd => ?_⟩
              refine kE .within (.int h) ?_ _ d _ ((s12.trans s3).trans (Same.new hd)) upd_same (.int _)
              rw [eo]
              unfold rest
              rw [if_pos hin, if_pos h1]
              show (if x ∈ anc G G.length h then Out.bad .within (.int h) else _) = _
              rw [if_pos h2]
            · have h2 : x ∉ anc G G.length h := by simpa using h2
              refine ⟨_, rfl, _, rfl, _, rfl, fin _ s3 ?_⟩
              rw [eo]
              unfold rest
              rw [if_pos hin, if_pos h1]
              show (if x ∈ anc G G.length h then Out.bad .within (.int h) else _) = _
              rw [if_neg h2]
    · refine (kE .thing (.int x) ?_).mono s12
      rw [eo]
      unfold rest
      rw [if_neg hnin]
end
end Ns
/-! the law's defs: what is drawn -/
namespace Ns
open PySem PySem.Spec PyProof.Rows L2
/-- all stand but p -/
def But (p : Addr) (H H' : Hp) : Prop := ∀ b u, b ≠ p → H b = some u → H' b = some u
theorem But.refl (p : Addr) (H : Hp) : But p H H := fun _ _ _ e => e
theorem But.trans {p : Addr} {H H1 H2 : Hp} (a : But p H H1) (b : But p H1 H2) : But p H H2 := fun c u n e => b c u n (a c u n e)
theorem But.of {p : Addr} {H H' : Hp} (s : Same H H') : But p H H' := fun b u _ e => s b u e
theorem But.put {p a : Addr} {o : HO} {H H' : Hp} (s : But p H H') (h : H a = none) : But p H (upd H' a o) := fun b u n e => by
  rw [upd_ne (ne_of_none e h)]
  exact s b u n e
theorem But.here {p : Addr} {o : HO} {H H' : Hp} (s : But p H H') : But p H (upd H' p o) := fun b u n e => by
  rw [upd_ne n]
  exact s b u n e
/-- the source of the draws -/
def Src (H : Hp) (p : Addr) : Prop := ∃ b m : Int, H p = some (.lst [.int b, .int m]) ∧ 0 ≤ b ∧ 0 ≤ m ∧ m < 2147483648
theorem un_new {H : Hp} {a b : Addr} {o : HO} (h : upd H b o a = none) : H a = none := by
  by_cases e : a = b
  · subst e
    rw [upd_same] at h
    cases h
  · rw [upd_ne e] at h
    exact h
theorem Room.u64 {k : Nat} {A : Around} (r : L2.Room k A) : A.units + 64 < cLine := by
  have := r.un
  omega
theorem Src.ne {H : Hp} {p a : Addr} {xs : List V} (s : Src H p) (h : H a = some (.tup xs)) : a ≠ p := fun e => by
  obtain ⟨b, m, hp, _⟩ := s
  rw [e, hp] at h
  cases h
theorem Src.nn {H : Hp} {p a : Addr} (s : Src H p) (h : H a = none) : a ≠ p := fun e => by
  obtain ⟨b, m, hp, _⟩ := s
  rw [e, hp] at h
  cases h
theorem But.ts {p : Addr} {H H' : Hp} (b : But p H H') (s : Src H p) : TS H H' := fun a xs e => b a _ (s.ne e) e
theorem Src.same {H H' : Hp} {p : Addr} (s : Src H p) (k : Same H H') : Src H' p := by
  obtain ⟨b, m, hp, h⟩ := s
  exact ⟨b, m, k _ _ hp, h⟩
theorem Src.put {H : Hp} {p a : Addr} {o : HO} (s : Src H p) (n : a ≠ p) : Src (upd H a o) p := by
  obtain ⟨b, m, hp, h⟩ := s
  exact ⟨b, m, by rw [upd_ne (Ne.symm n)]; exact hp, h⟩
section
variable {P : Program} {w : World} {K : PySem.W.Frag} {mg : Str → Option Value} {base : Heap} {ad : Ec → Addr} {D fI cda cc : Addr}
/-! ### _law_pool -/
theorem sq_same {K : PySem.W.Frag} {H H' : Hp} {a : Addr} {xs : List V} (h : SqL K H a xs) (s : Same H H') : SqL K H' a xs :=
  h.elim (fun h => .inl (h.elim (fun h => .inl (s _ _ h)) fun ⟨o, h⟩ => .inr ⟨o, s _ _ h⟩)) fun h => .inr h
def spPool (K : PySem.W.Frag) : Sp := fun vs H Q _ => ∃ (a : Addr) (js : List Int), vs = [.ref a, .int 0] ∧ SqL K H a (js.map V.int) ∧ ∀ p H', H p = none → Src H' p → Same H H' → Q (.ref p) H'
theorem sc27 : FnScope ["_law_script", "_law_k", "_law_cell", "_law_big", "_law_mixed_here"] ["_law_script", "_law_k"] (defScope (top 27)) := ⟨rfl, rfl, rfl, by decide +kernel, rfl, by decide +kernel, by decide +kernel⟩
theorem has_pool (T : Tx P K mg ad D fI cda cc) (d : Df K mg "_law_pool" 27) : Has P w K mg base CX0 1 "_law_pool" ["_law_script", "_law_k"] (spPool K) := by
  obtain ⟨f, fd, F, hm⟩ := d
  refine ⟨f, fd, hm, F.kp, F.binds (fun _ _ _ _ _ _ us hl => match us, hl with | [_, _], _ => rfl), ?_⟩
  refine F.ok sc27 (fun vs H Q E h => ?_) (fun cdv A outer s H vs Q E hr h => ?_)
  · obtain ⟨a, js, rfl, _⟩ := h
    rfl
  · obtain ⟨a, js, rfl, hx, k⟩ := h
    have hu := hr.un
    refine ⟨_, pss_cons (ps_set (i := 2) sc27.nd rfl (Or.inl rfl) pe_int)
      (pss_cons (ps_if (pt_cmpR op_lt (pv 1) (pe_callB call_len (by rfl) T.len boot_len (pa_cons (pv 0) pa_nil)) (nomark _)) (pss_one (ps_set (i := 2) sc27.nd rfl (Or.inl rfl) (pe_ix (r := rIxL K) ix_list (pv 0) (pv 1) (fun _ _ => rfl))))
        (pss_one (ps_if (pt_cmpR (op_neD (Room.u64 hr)) (pv 0) (pe_lst pa_nil) (nomark _)) (pss_one ps_never) pss_nil)))
      (pss_cons (ps_set (i := 3) sc27.nd rfl (Or.inl rfl) (pe_callB (call_max2 rfl) (by rfl) T.max boot_max (pa_cons (pe_callTy call_int1 (by rfl) T.int boot_int (pa_cons (pv 2) pa_nil)) (pa_cons (pe_callTy call_int1 (by rfl) T.int boot_int (pa_cons (pe_op op_sub (pe_un un_neg pe_int) (pv 2)) pa_nil)) pa_nil))))
      (pss_cons (ps_set (i := 4) sc27.nd rfl (Or.inl rfl) (pe_op op_mod (pe_callTy call_int1 (by rfl) T.int boot_int (pa_cons (pe_op op_mul (pe_op op_add (pe_op op_add (pe_op op_add (pe_op op_mod (pe_callTy call_int1 (by rfl) T.int boot_int (pa_cons (pv 3) pa_nil)) pe_int)
          (pe_op op_mul (pe_op op_mul pe_int (pv 1)) (pv 1))) (pe_op op_mul pe_int (pv 1))) pe_int) pe_int) pa_nil)) pe_int))
      (pss_one (ps_ret (pe_lst (pa_cons (pe_op op_mul (pv 3) (pe_callTy call_int1 (by rfl) T.int boot_int (pa_cons (pe_and (pe_cmpR op_ge (pv 3) (pe_op op_pow pe_int pe_int) (nomark _)) (pe_one (pe_cmpR op_lt (pv 1) (pe_callB call_len (by rfl) T.len boot_len (pa_cons (pv 0) pa_nil)) (nomark _)))) pa_nil)))
        (pa_cons (pv 4) pa_nil)))))))), ?_⟩
    have hlen : LenV K (.ref a) H js.length := .inl ⟨_, hx, by rw [List.length_map]⟩
    have cm : ∀ i j : Int, -(2 ^ 64) < j → j < 2 ^ 64 → CMul i j := fun i j h h' => .inr ⟨h, h'⟩
    have mx : ∀ c : Int, 0 ≤ (if -1 - c > c then -1 - c else c) := fun c => by split <;> omega
    have bw : ∀ z : Bool, -(2 ^ 64) < (if z = true then (1 : Int) else 0) ∧ (if z = true then (1 : Int) else 0) < 2 ^ 64 := fun z => by cases z <;> decide
    have b01 : ∀ z : Bool, 0 ≤ (if z = true then (1 : Int) else 0) := fun z => by cases z <;> decide
    have ml : ∀ z : Int, z % 2147483647 < 2147483648 := fun z => by have := Int.emod_lt_of_pos z (show (0 : Int) < 2147483647 by decide); omega
    have sz2 : ∀ {x y : V}, [x, y].length ≤ sizeLine := fun {x y} => by rw [sizeLine_eq]; exact (by decide : 2 ≤ 16777216)
    cases js with
    | cons j js =>
      have h0 : (0 : Int) < ((j :: js).length : Nat) := by rw [List.length_cons]; omega
      refine ⟨_, rfl, _, rfl, _, (j :: js).length, rfl, hlen, _, _, rfl, rfl, _, rfl, if_true_of (decide_eq_true h0) ?_⟩
      refine ⟨_, rfl, _, rfl, _, _, 0, V.int j, rfl, rfl, hx, at_of (j := 0) rfl rfl, ?_⟩
      refine ⟨_, rfl, .inl ⟨_, rfl, 1, rfl, _, rfl, _, _, rfl, rfl, .inl ⟨_, rfl, _, _, rfl, ?_⟩⟩⟩
      generalize hbig : (if -1 - j > j then -1 - j else j) = big
      have b0 : 0 ≤ big := hbig ▸ mx j
      refine ⟨_, rfl, .inl ⟨_, rfl, _, _, rfl, rfl, (show (0 : Int) < 2147483629 by decide), _, rfl, _, _, rfl, rfl, cm _ _ (by decide) (by decide), _, rfl, _, _, rfl, rfl, cm _ _ (by decide) (by decide), _, _, rfl, rfl, ?_⟩⟩
      refine ⟨_, rfl, _, _, rfl, rfl, cm _ _ (by decide) (by decide), _, _, rfl, rfl, _, _, rfl, rfl, _, _, rfl, rfl, cm _ _ (by decide) (by decide), .inl ⟨_, rfl, _, _, rfl, rfl, (show (0 : Int) < 2147483647 by decide), ?_⟩⟩
      refine ⟨_, rfl, _, rfl, _, _, rfl, rfl, ⟨by decide, by decide, by decide⟩, _, _, rfl, rfl, _, rfl, ite2 (fun h1 => ?_) (fun h1 => ?_)⟩
      · refine ⟨_, rfl, _, rfl, _, (j :: js).length, rfl, hlen, _, _, rfl, rfl, .inr ⟨_, rfl, _, _, rfl, rfl, cm _ _ (bw _).1 (bw _).2, _, rfl, sz2, fun p hp => k p _ hp ⟨_, _, upd_same, Int.mul_nonneg b0 (b01 _), Int.emod_nonneg _ (by decide), ml _⟩ (Same.new hp)⟩⟩
      · refine .inr ⟨_, rfl, _, _, rfl, rfl, cm _ _ (bw _).1 (bw _).2, _, rfl, sz2, fun p hp => k p _ hp ⟨_, _, upd_same, Int.mul_nonneg b0 (b01 _), Int.emod_nonneg _ (by decide), ml _⟩ (Same.new hp)⟩
    | nil =>
      refine ⟨_, rfl, _, rfl, _, 0, rfl, hlen, _, _, rfl, rfl, _, rfl, if_false_of (by decide) ?_⟩
      have hd : Dp K H (.ref a) (.list []) := .lst (hx) .nil
      refine ⟨_, rfl, Nat.zero_le _, fun L hL => ⟨.list [], .list [], .lst (sq_same hx (Same.new hL)) .nil, .lst (SqL.of upd_same) .nil, by decide +kernel, by decide +kernel, _, rfl, if_false_of (by decide +kernel) ?_⟩⟩
      have hlen : LenV K (.ref a) (upd H L (.lst [])) 0 := .inl ⟨_, sq_same hx (Same.new hL), rfl⟩
      have k : ∀ p H', (upd H L (.lst [])) p = none → Src H' p → Same (upd H L (.lst [])) H' → Q (.ref p) H' := fun p H' h1 h2 h3 => k p H' (un_new h1) h2 ((Same.new hL).trans h3)
      refine ⟨_, rfl, .inl ⟨_, rfl, 1, rfl, _, rfl, _, _, rfl, rfl, .inl ⟨_, rfl, _, _, rfl, ?_⟩⟩⟩
      generalize hbig : (if -1 - 0 > 0 then -1 - 0 else 0) = big
      have b0 : 0 ≤ big := hbig ▸ mx 0
      refine ⟨_, rfl, .inl ⟨_, rfl, _, _, rfl, rfl, (show (0 : Int) < 2147483629 by decide), _, rfl, _, _, rfl, rfl, cm _ _ (by decide) (by decide), _, rfl, _, _, rfl, rfl, cm _ _ (by decide) (by decide), _, _, rfl, rfl, ?_⟩⟩
      refine ⟨_, rfl, _, _, rfl, rfl, cm _ _ (by decide) (by decide), _, _, rfl, rfl, _, _, rfl, rfl, _, _, rfl, rfl, cm _ _ (by decide) (by decide), .inl ⟨_, rfl, _, _, rfl, rfl, (show (0 : Int) < 2147483647 by decide), ?_⟩⟩
      refine ⟨_, rfl, _, rfl, _, _, rfl, rfl, ⟨by decide, by decide, by decide⟩, _, _, rfl, rfl, _, rfl, ite2 (fun h1 => ?_) (fun h1 => ?_)⟩
      · refine ⟨_, rfl, _, rfl, _, 0, rfl, hlen, _, _, rfl, rfl, .inr ⟨_, rfl, _, _, rfl, rfl, cm _ _ (bw _).1 (bw _).2, _, rfl, sz2, fun p hp => k p _ hp ⟨_, _, upd_same, Int.mul_nonneg b0 (b01 _), Int.emod_nonneg _ (by decide), ml _⟩ (Same.new hp)⟩⟩
      · refine .inr ⟨_, rfl, _, _, rfl, rfl, cm _ _ (bw _).1 (bw _).2, _, rfl, sz2, fun p hp => k p _ hp ⟨_, _, upd_same, Int.mul_nonneg b0 (b01 _), Int.emod_nonneg _ (by decide), ml _⟩ (Same.new hp)⟩
/-! ### _law_take -/
def spTake : Sp := fun vs H Q _ => ∃ (p : Addr) (n : Int), vs = [.ref p, .int n] ∧ Src H p ∧ 1 ≤ n ∧ n ≤ 1000 ∧ ∀ r H', 0 ≤ r → r < n → Src H' p → But p H H' → Q (.int r) H'
theorem sc28 : FnScope ["_law_source", "_law_top", "_law_drawn"] ["_law_source", "_law_top"] (defScope (top 28)) := ⟨rfl, rfl, rfl, by decide +kernel, rfl, by decide +kernel, by decide +kernel⟩
theorem has_take (T : Tx P K mg ad D fI cda cc) (d : Df K mg "_law_take" 28) : Has P w K mg base CX0 1 "_law_take" ["_law_source", "_law_top"] spTake := by
  obtain ⟨f, fd, F, hm⟩ := d
  refine ⟨f, fd, hm, F.kp, F.binds (fun _ _ _ _ _ _ us hl => match us, hl with | [_, _], _ => rfl), ?_⟩
  refine F.ok sc28 (fun vs H Q E h => ?_) (fun cdv A outer s H vs Q E hr h => ?_)
  · obtain ⟨p, n, rfl, _⟩ := h
    rfl
  · obtain ⟨p, n, rfl, hs, h1, h2, k⟩ := h
    obtain ⟨b, m, hp, b0, m0, m1⟩ := hs
    refine ⟨_, pss_cons (ps_if (pt_cmpR op_gt (pe_ix (r := rIxL K) ix_list (pv 0) pe_int (fun _ _ => rfl)) pe_int (nomark _))
        (pss_cons (ps_set (i := 2) sc28.nd rfl (Or.inl rfl) (pe_op op_mod (pe_callTy call_int1 (by rfl) T.int boot_int (pa_cons (pe_ix (r := rIxL K) ix_list (pv 0) pe_int (fun _ _ => rfl)) pa_nil)) (pv 1)))
        (pss_cons (ps_asg (pe_op op_fdiv (pe_ix (r := rIxL K) ix_list (pv 0) pe_int (fun _ _ => rfl)) (pv 1)) (pg_sub (pv 0) pe_int set_list))
        (pss_one (ps_ret (pv 2))))) pss_nil)
      (pss_cons (ps_asg (pe_op op_mod (pe_callTy call_int1 (by rfl) T.int boot_int (pa_cons (pe_op op_add (pe_op op_mul (pe_ix (r := rIxL K) ix_list (pv 0) pe_int (fun _ _ => rfl)) pe_int) pe_int) pa_nil)) pe_int) (pg_sub (pv 0) pe_int set_list))
      (pss_one (ps_ret (pe_op op_mod (pe_callTy call_int1 (by rfl) T.int boot_int (pa_cons (pe_op op_fdiv (pe_op op_mod (pe_callTy call_int1 (by rfl) T.int boot_int (pa_cons (pe_op op_mul (pe_ix (r := rIxL K) ix_list (pv 0) pe_int (fun _ _ => rfl)) (pe_ix (r := rIxL K) ix_list (pv 0) pe_int (fun _ _ => rfl))) pa_nil)) pe_int) pe_int) pa_nil)) (pv 1))))), ?_⟩
    have cm : ∀ i j : Int, -(2 ^ 64) < j → j < 2 ^ 64 → CMul i j := fun i j h h' => .inr ⟨h, h'⟩
    refine ⟨_, rfl, _, _, _, _, rfl, rfl, SqL.of hp, rfl, _, _, rfl, rfl, _, rfl, ite2 (fun hb => ?_) (fun hb => ?_)⟩
    · have hb : 0 < b := by simpa using hb
      refine ⟨_, rfl, _, _, _, _, rfl, rfl, SqL.of hp, rfl, .inl ⟨_, rfl, _, rfl, _, _, rfl, rfl, by show 0 < n; omega, ?_⟩⟩
      refine ⟨_, rfl, _, _, _, _, rfl, rfl, SqL.of hp, rfl, _, rfl, _, _, rfl, rfl, ⟨by omega, by omega⟩, _, rfl, p, _, 0, 0, rfl, rfl, hp, rfl, ?_⟩
      refine ⟨_, rfl, k _ _ (Int.emod_nonneg _ (by omega)) (Int.emod_lt_of_pos _ (by omega)) ⟨b / n, m, upd_same, Int.ediv_nonneg b0 (by omega), m0, m1⟩ (But.here (But.refl _ _))⟩
    · refine ⟨_, rfl, _, _, _, _, rfl, rfl, SqL.of hp, rfl, _, _, rfl, rfl, cm _ _ (by decide) (by decide), _, _, rfl, rfl, .inl ⟨_, rfl, _, _, rfl, rfl, (show (0 : Int) < 2147483647 by decide), _, rfl, p, _, 1, 1, rfl, rfl, hp, rfl, ?_⟩⟩
      have hp2 : (upd H p (.lst [.int b, .int ((m * 39373 + 7) % 2147483647)])) p = some (.lst [.int b, .int ((m * 39373 + 7) % 2147483647)]) := upd_same
      have m2 : 0 ≤ (m * 39373 + 7) % 2147483647 := Int.emod_nonneg _ (by decide)
      have m3 : (m * 39373 + 7) % 2147483647 < 2147483647 := Int.emod_lt_of_pos _ (by decide)
      refine ⟨_, rfl, _, _, _, _, rfl, rfl, SqL.of hp2, rfl, _, rfl, _, _, _, _, rfl, rfl, SqL.of hp2, rfl, _, _, rfl, rfl, cm _ _ (by omega) (by omega), .inl ⟨_, rfl, _, _, rfl, rfl, (show (0 : Int) < 2147483629 by decide), _, _, rfl, rfl, ⟨by decide, by decide⟩, .inl ⟨_, rfl, _, rfl, _, _, rfl, rfl, by show 0 < n; omega, ?_⟩⟩⟩
      exact k _ _ (Int.emod_nonneg _ (by omega)) (Int.emod_lt_of_pos _ (by omega)) ⟨b, _, hp2, b0, m2, by omega⟩ (But.here (But.refl _ _))
end
end Ns
/-! the law's defs: one, mixed, climb -/
namespace Ns
open PySem PySem.Spec PyProof.Rows L2
section
variable {P : Program} {w : World} {K : PySem.W.Frag} {mg : Str → Option Value} {base : Heap} {ad : Ec → Addr} {D fI cda cc : Addr}
def spOne : Sp := fun vs H Q _ => ∃ (p L : Addr) (xs : List V), vs = [.ref p, .ref L] ∧ Src H p ∧ H L = some (.lst xs) ∧ L ≠ p ∧ 1 ≤ xs.length ∧ xs.length ≤ 1000 ∧ ∀ y H', y ∈ xs → Src H' p → But p H H' → Q y H'
theorem sc29 : FnScope ["_law_source", "_law_things"] ["_law_source", "_law_things"] (defScope (top 29)) := ⟨rfl, rfl, rfl, by decide +kernel, rfl, by decide +kernel, by decide +kernel⟩
theorem at_nn {xs : List V} {r : Int} (h0 : 0 ≤ r) (h1 : r < xs.length) : ∃ y, atI xs r = some y ∧ xs[r.toNat]? = some y ∧ y ∈ xs := by
  have hl : r.toNat < xs.length := by omega
  exact ⟨xs[r.toNat], at_of (j := r.toNat) (show r = ((r.toNat : Nat) : Int) by omega) (List.getElem?_eq_getElem hl), List.getElem?_eq_getElem hl, List.getElem_mem hl⟩
theorem has_one (T : Tx P K mg ad D fI cda cc) (d : Df K mg "_law_one" 29) (hT : Has P w K mg base CX0 1 "_law_take" ["_law_source", "_law_top"] spTake) : Has P w K mg base CX0 2 "_law_one" ["_law_source", "_law_things"] spOne := by
  obtain ⟨f, fd, F, hm⟩ := d
  refine ⟨f, fd, hm, F.kp, F.binds (fun _ _ _ _ _ _ us hl => match us, hl with | [_, _], _ => rfl), ?_⟩
  refine F.ok sc29 (fun vs H Q E h => ?_) (fun cdv A outer s H vs Q E hr h => ?_)
  · obtain ⟨p, L, xs, rfl, _⟩ := h
    rfl
  · obtain ⟨p, L, xs, rfl, hs, hL, hne, h1, h2, k⟩ := h
    refine ⟨_, pss_one (ps_ret (pe_ix (r := rIxL K) ix_list (pv 1) (pe_has hT hr pass0 (pa_cons (pv 0) (pa_cons (pe_callB call_len (by rfl) T.len boot_len (pa_cons (pv 1) pa_nil)) pa_nil))) (fun _ _ => rfl))), ?_⟩
    refine ⟨_, rfl, _, rfl, _, rfl, _, xs.length, rfl, .inl ⟨_, SqL.of hL, rfl⟩, p, _, rfl, hs, by omega, by omega, fun r H' r0 r1 hs' hb => ?_⟩
    obtain ⟨y, hy, _, hm⟩ := at_nn r0 r1
    exact ⟨_, _, _, y, rfl, rfl, SqL.of (hb _ _ hne hL), hy, k _ _ hm hs' hb⟩
/-! ### _law_mixed -/
def spMixed : Sp := fun vs H Q _ => ∃ (p L : Addr) (xs : List V), vs = [.ref p, .ref L] ∧ Src H p ∧ H L = some (.lst xs) ∧ L ≠ p ∧ xs.length ≤ 1000 ∧ ∀ B fs H', H B = none → H' B = some (.lst fs) → fs.length = xs.length → (∀ y, y ∈ fs → y ∈ xs) → Src H' p → But p H H' → Q (.ref B) H'
theorem sc30 : FnScope ["_law_source", "_law_things", "_law_left", "_law_found", "_law_turn"] ["_law_source", "_law_things"] (defScope (top 30)) := ⟨rfl, rfl, rfl, by decide +kernel, rfl, by decide +kernel, by decide +kernel⟩
theorem has_mixed (T : Tx P K mg ad D fI cda cc) (d : Df K mg "_law_mixed" 30) (hT : Has P w K mg base CX0 1 "_law_take" ["_law_source", "_law_top"] spTake) : Has P w K mg base CX0 2 "_law_mixed" ["_law_source", "_law_things"] spMixed := by
  obtain ⟨f, fd, F, hm⟩ := d
  refine ⟨f, fd, hm, F.kp, F.binds (fun _ _ _ _ _ _ us hl => match us, hl with | [_, _], _ => rfl), ?_⟩
  refine F.ok sc30 (fun vs H Q E h => ?_) (fun cdv A outer s H vs Q E hr h => ?_)
  · obtain ⟨p, L, xs, rfl, _⟩ := h
    rfl
  · obtain ⟨p, L, xs, rfl, hs, hL, hne, hl, k⟩ := h
    refine ⟨_, pss_cons (ps_par (i := 2) (j := 3) rfl sc30.nd rfl rfl (by decide) rfl rfl (pa_cons (pe_callTy call_list_of (by rfl) T.list boot_list (pa_cons (pv 1) pa_nil)) (pa_cons (pe_lst pa_nil) pa_nil)) (by rfl))
      (pss_cons (ps_for PassesOwn.never rfl (pi_range1 (by rfl) T.range (pa_cons (pe_callB call_len (by rfl) T.len boot_len (pa_cons (pv 1) pa_nil)) pa_nil)) (pg_name (i := 4) sc30.nd rfl (Or.inl rfl))
        (pss_one (ps_expr (pe_bm PySem.F.plainAttrs_list PySem.F.slot_list_append PySem.F.type_list_append mt_append (pv 3) (pa_cons (pe_bm PySem.F.plainAttrs_list PySem.F.slot_list_pop PySem.F.type_list_pop mt_popAt (pv 2)
          (pa_cons (pe_has hT hr pass0 (pa_cons (pv 0) (pa_cons (pe_callB call_len (by rfl) T.len boot_len (pa_cons (pv 2) pa_nil)) pa_nil))) pa_nil)) pa_nil)))))
      (pss_one (ps_ret (pv 3)))), ?_⟩
    refine ⟨_, rfl, L, xs, rfl, .inl (SqL.of hL), fun A1 hA1 => ⟨Nat.zero_le _, fun B hB => ⟨_, _, rfl, ?_⟩⟩⟩
    have hAB : A1 ≠ B := fun e => by rw [← e, upd_same] at hB; cases hB
    have hB0 := un_new hB
    have b1 : But p H (upd (upd H A1 (.lst xs)) B (.lst [])) := ((But.refl p H).put hA1).put hB0
    have e1 : (upd (upd H A1 (.lst xs)) B (.lst [])) A1 = some (.lst xs) := by
      rw [upd_ne hAB, upd_same]
    have e2 : (upd (upd H A1 (.lst xs)) B (.lst [])) B = some (.lst []) := upd_same
    have hs1 : Src (upd (upd H A1 (.lst xs)) B (.lst [])) p := (hs.put (hs.nn hA1)).put (hs.nn hB0)
    have q1 : A1 ≠ p := hs.nn hA1
    have q2 : B ≠ p := hs.nn hB0
    generalize (upd (upd H A1 (.lst xs)) B (.lst [])) = H1 at b1 e1 e2 hs1 ⊢
    have hL1 := b1 _ _ hne hL
    refine ⟨_, rfl, _, xs.length, rfl, .inl ⟨_, SqL.of hL1, rfl⟩, (xs.length : Int), rfl, by omega, by omega, ?_⟩
    refine for_range (lo := 0) (n := ((xs.length : Nat) : Int).toNat) (fun i σ H' => ∃ ls fs v, σ = [some (.ref p), some (.ref L), some (.ref A1), some (.ref B), v] ∧ Src H' p ∧ But p H H' ∧ H' A1 = some (.lst ls) ∧ H' B = some (.lst fs) ∧ ls.length + i = xs.length ∧ fs.length = i ∧ (∀ y, y ∈ ls → y ∈ xs) ∧ (∀ y, y ∈ fs → y ∈ xs))
      ⟨xs, [], none, rfl, hs1, b1, e1, e2, rfl, rfl, fun _ h => h, fun _ h => absurd h (by simp)⟩ ?_ ?_
    · rintro i σ H' hi ⟨ls, fs, v, rfl, hs', hb', eA, eB, l1, l2, m1, m2⟩
      have hi : i < xs.length := by simpa using hi
      refine ⟨_, rfl, .inl ⟨rfl, _, SqL.of eB⟩, _, rfl, .inl ⟨rfl, _, SqL.of eA⟩, _, rfl, _, rfl, _, ls.length, rfl, .inl ⟨_, SqL.of eA, rfl⟩, p, _, rfl, hs', by omega, by omega, fun r H2 r0 r1 hs2 hb2 => ?_⟩
      obtain ⟨y, hy, hy2, hm⟩ := at_nn r0 r1
      have eA2 := hb2 _ _ q1 eA
      have eB2 := hb2 _ _ q2 eB
      refine ⟨A1, ls, r, r.toNat, y, rfl, rfl, eA2, by omega, by omega, seqIndex_of r0 r1, hy2, B, fs, y, rfl, rfl, ?_, ?_, ?_⟩
      · rw [upd_ne (Ne.symm hAB)]; exact eB2
      · exact Nat.lt_of_le_of_lt (show fs.length ≤ 1000 by omega) (by rw [sizeLine_eq]; decide)
      · refine ⟨ls.eraseIdx r.toNat, fs ++ [y], _, rfl, (hs2.put q1).put q2, (((hb'.trans hb2).put hA1).put hB0), ?_, upd_same, ?_, ?_, fun z hz => m1 z (List.mem_of_mem_eraseIdx hz), fun z hz => ?_⟩
        · rw [upd_ne hAB, upd_same]
        · rw [List.length_eraseIdx, if_pos (by omega)]
          omega
        · rw [List.length_append, l2]
          rfl
        · rcases List.mem_append.mp hz with hz | hz
          · exact m2 z hz
          · have e : z = y := by simpa using hz
            rw [e]
            exact m1 y hm
    · rintro σ H' ⟨ls, fs, v, rfl, hs', hb', eA, eB, l1, l2, m1, m2⟩
      exact ⟨_, rfl, k B fs H' hB0 eB (by rw [l2]; simp) m2 hs' hb'⟩
/-! ### _law_climb -/
def HeadIs (H : Hp) (v : V) (h : Int) : Prop := ∃ (b : Addr) (r : Int), v = .ref b ∧ H b = some (.tup [.int h, .int r])
theorem HeadIs.mono {H H' : Hp} {v : V} {h : Int} (k : HeadIs H v h) (s : TS H H') : HeadIs H' v h := by
  obtain ⟨b, r, e, eb⟩ := k
  exact ⟨b, r, e, s _ _ eb⟩
def spClimb : Sp := fun vs H Q _ => ∃ (a : Addr) (x : Int) (F : List Pl), vs = [.ref a, .int x] ∧ FoAt H a F ∧ VF F ∧ 0 ≤ x ∧ x < F.length ∧ F.length ≤ 24 ∧ ∀ L ys H', H L = none → Same H H' → H' L = some (.lst ys) → Paired (HeadIs H') ys (anc F F.length x) → Q (.ref L) H'
theorem sc31 : FnScope ["_law_forest", "_law_x", "_law_found", "_law_here", "_law_turn"] ["_law_forest", "_law_x"] (defScope (top 31)) := ⟨rfl, rfl, rfl, by decide +kernel, rfl, by decide +kernel, by decide +kernel⟩
theorem has_climb (T : Tx P K mg ad D fI cda cc) (d : Df K mg "_law_climb" 31) : Has P w K mg base CX0 1 "_law_climb" ["_law_forest", "_law_x"] spClimb := by
  obtain ⟨f, fd, F, hm⟩ := d
  refine ⟨f, fd, hm, F.kp, F.binds (fun _ _ _ _ _ _ us hl => match us, hl with | [_, _], _ => rfl), ?_⟩
  refine F.ok sc31 (fun vs H Q E h => ?_) (fun cdv A outer s H vs Q E hr h => ?_)
  · obtain ⟨a, x, F, rfl, _⟩ := h
    rfl
  · obtain ⟨a, x, G, rfl, ⟨xs, hx, rp⟩, hv, x0, x1, hl, k⟩ := h
    have hlen : xs.length = G.length := rp.length
    refine ⟨_, pss_cons (ps_par (i := 2) (j := 3) rfl sc31.nd rfl rfl (by decide) rfl rfl (pa_cons (pe_lst pa_nil) (pa_cons (pe_ix (r := rIxT K) ix_tup (pv 0) (pv 1) (fun _ _ => rfl)) pa_nil)) (by rfl))
      (pss_cons (ps_for PassesOwn.never rfl (pi_range1 (by rfl) T.range (pa_cons (pe_callB call_len (by rfl) T.len boot_len (pa_cons (pv 0) pa_nil)) pa_nil)) (pg_name (i := 4) sc31.nd rfl (Or.inl rfl))
        (pss_cons (ps_if (pt_cmpR op_isN (pv 3) pe_non (nomark _)) (pss_one ps_break) pss_nil)
        (pss_cons (ps_expr (pe_bm PySem.F.plainAttrs_list PySem.F.slot_list_append PySem.F.type_list_append mt_append (pv 2) (pa_cons (pv 3) pa_nil)))
        (pss_one (ps_set (i := 3) sc31.nd rfl (Or.inl rfl) (pe_ix (r := rIxT K) ix_tup (pv 0) (pe_ix (r := rIxT K) ix_tup (pv 3) pe_int (fun _ _ => rfl)) (fun _ _ => rfl)))))))
      (pss_one (ps_ret (pv 2)))), ?_⟩
    obtain ⟨u, p, hu, hp, hup⟩ := fo_get (K := K) rp x0 x1
    refine ⟨Nat.zero_le _, fun L hL => ⟨_, rfl, _, rfl, _, xs, x, u, rfl, rfl, SqT.of (Same.new hL _ _ hx), hu, _, _, rfl, ?_⟩⟩
    have s1 : Same H (upd H L (.lst [])) := Same.new hL
    have e1 : (upd H L (.lst [])) L = some (.lst []) := upd_same
    generalize (upd H L (.lst [])) = H1 at s1 e1 ⊢
    refine ⟨_, rfl, _, G.length, rfl, .inr ⟨_, SqT.of (s1 _ _ hx), hlen.symm⟩, (G.length : Int), rfl, by omega, by omega, ?_⟩
    have fin : ∀ H' ys i c, Same H H' → H' L = some (.lst ys) → Paired (HeadIs H') ys (anc G i x) → it G i x = some c → i ≤ G.length → (i = G.length ∨ par G c = none) → Q (.ref L) H' := fun H' ys i c s e pr hi hle hor => by
      refine k L ys H' hL s e ?_
      rcases hor with h | h
      · rw [← h]; exact pr
      · rw [anc_stop hi h hle]; exact pr
    refine for_range (lo := 0) (n := ((G.length : Nat) : Int).toNat) (fun i σ H' => ∃ c v p ys t, σ = [some (.ref a), some (.int x), some (.ref L), some v, t] ∧ Same H H' ∧ H' L = some (.lst ys) ∧ Paired (HeadIs H') ys (anc G i x) ∧ it G i x = some c ∧ PlV H' v p ∧ G[c.toNat]? = some p ∧ ys.length = i)
      ⟨x, u, p, [], none, rfl, s1, e1, .nil, rfl, hup.mono (TS.of s1), hp, rfl⟩ ?_ ?_
    · rintro i σ H' hi ⟨c, v, p, ys, t, rfl, s, eL, pr, hc, hvp, hp, yl⟩
      have hi : i < G.length := by simpa using hi
      have hpar := par_of hp
      refine ⟨_, rfl, rfl, _, rfl, ?_⟩
      rcases hv _ _ hp with rfl | ⟨h, r, rfl, hh0, hh1⟩
      · cases hvp
        refine iteT ?_
        exact ⟨_, rfl, fin H' ys i c s eL pr hc (Nat.le_of_lt hi) (.inr hpar)⟩
      · cases hvp with
        | @«at» b _ _ eb =>
          have hne : decide (V.ref b = V.non) = false := decide_eq_false (fun z => by cases z)
          rw [hne]
          refine iteF ?_
          refine ⟨_, rfl, .inl ⟨rfl, _, SqL.of eL⟩, _, rfl, L, ys, _, rfl, rfl, eL, Nat.lt_of_le_of_lt (show ys.length ≤ 24 by omega) (by rw [sizeLine_eq]; decide), ?_⟩
          have sT : TS H' (upd H' L (.lst (ys ++ [.ref b]))) := TS.lst eL
          have sS : Same H (upd H' L (.lst (ys ++ [.ref b]))) := Same.put s hL
          obtain ⟨u2, p2, hu2, hp2, hup2⟩ := fo_get (K := K) rp hh0 hh1
          have hc1 : it G (i + 1) x = some h := (it_end hc).trans hpar
          refine ⟨_, rfl, _, rfl, b, _, 0, _, rfl, rfl, SqT.of (sT _ _ eb), at_of (j := 0) rfl rfl, _, xs, h, u2, rfl, rfl, SqT.of (sS _ _ hx), hu2, ?_⟩
          refine ⟨h, u2, p2, _, _, rfl, sS, upd_same, ?_, hc1, hup2.mono (TS.of sS), hp2, ?_⟩
          · rw [anc_snoc hc hpar]
            exact paired_app (L2.Paired.mapP pr fun _ _ q => q.mono sT) (.cons ⟨b, r, rfl, sT _ _ eb⟩ .nil)
          · rw [List.length_append, yl]
            rfl
    · rintro σ H' ⟨c, v, p, ys, t, rfl, s, eL, pr, hc, hvp, hp, yl⟩
      exact ⟨_, rfl, fin H' ys _ c s eL pr hc (by simp) (.inl (by simp))⟩
end
end Ns
/-! the law's defs: refused, is_place, ring, grown -/
namespace Ns
open PySem PySem.Spec PyProof.Rows L2
def HasG (P : Program) (w : World) (K : PySem.W.Frag) (mg : Str → Option Value) (base : Heap) (CX : CXT) (k : Nat) (nm : Str) (ps : List Str) (sp : Sp) : Prop :=
  ∃ f fd, mg nm = some (.ref f) ∧ PySem.W.keepIn K (.ref f) = true ∧ Binds K fd ps [] ∧ FnG P w K mg base CX k f fd ps sp
theorem pe_hasG {X : Cx} {CX : CXT} {k : Nat} {nm : Str} {ps : List Str} {sp : Sp} {E : XK} {p pos : Pos} {e : Expr} {es : List Expr} {t : TA} (h : HasG X.prog X.w X.K X.mg X.base CX k nm ps sp) (hr : Room k X.A) (hgd : X.A.guards = some []) (hx : Passes CX X E) (ha : PA X (e :: es) t) (hg : Gl X nm := by rfl)
    (hdb : (nm == ("__debug__" : Str)) = false := by decide) (he : starEach (e :: es) X.env = (false, eval e X.env) :: starEach es X.env := by rfl) (hpl : (backTo pos (starEach es X.env)).any (·.1) = false := by rfl) :
    PE X (.Call (.Name nm p) (e :: es) [] pos) (tCall sp [] E t) := by
  obtain ⟨f, fd, hm, hk, hb, G⟩ := h
  exact pe_callG G hr hgd hg hm hk hb hx ha hdb he hpl
/-! ### numbers that are told -/
def sel (q : Nat → Bool) : Nat → List Nat
  | 0 => []
  | n + 1 => if q n = true then sel q n ++ [n] else sel q n
theorem sel_yes {q : Nat → Bool} {n : Nat} (h : q n = true) : sel q (n + 1) = sel q n ++ [n] := by
  show (if q n = true then _ else _) = _
  rw [if_pos h]
theorem sel_no {q : Nat → Bool} {n : Nat} (h : q n = false) : sel q (n + 1) = sel q n := by
  show (if q n = true then _ else _) = _
  rw [h]
  rfl
theorem sel_len (q : Nat → Bool) : ∀ n, (sel q n).length ≤ n
  | 0 => Nat.le_refl _
  | n + 1 => by
    have := sel_len q n
    cases h : q n with
    | true => rw [sel_yes h, List.length_append]; simp; omega
    | false => rw [sel_no h]; omega
theorem sel_head (q : Nat → Bool) : ∀ n, (sel q n).head? = fst (fun j => !q j) n
  | 0 => rfl
  | n + 1 => by
    have ih := sel_head q n
    unfold fst
    cases h : q n with
    | true =>
      rw [sel_yes h, List.head?_append, ih]
      cases fst (fun j => !q j) n with
      | some j => rfl
      | none => simp [h]
    | false =>
      rw [sel_no h, ih]
      cases fst (fun j => !q j) n with
      | some j => rfl
      | none => simp [h]
theorem sel_mem {q : Nat → Bool} : ∀ {n j : Nat}, j ∈ sel q n → j < n ∧ q j = true
  | 0, j, h => absurd h (by simp [sel])
  | n + 1, j, h => by
    cases e : q n with
    | true =>
      rw [sel_yes e] at h
      rcases List.mem_append.mp h with h | h
      · have := sel_mem h
        exact ⟨by omega, this.2⟩
      · have z : j = n := by simpa using h
        rw [z]
        exact ⟨by omega, e⟩
    | false =>
      rw [sel_no e] at h
      have := sel_mem h
      exact ⟨by omega, this.2⟩
def selV (q : Nat → Bool) (n : Nat) : List V := (sel q n).map fun j => V.int (j : Nat)
theorem selV_ints (q : Nat → Bool) (n : Nat) : selV q n = ((sel q n).map fun j => ((j : Nat) : Int)).map V.int := by
  unfold selV
  rw [List.map_map]
  rfl
theorem selV_yes {q : Nat → Bool} {n : Nat} (h : q n = true) : selV q (n + 1) = selV q n ++ [.int (n : Nat)] := by
  unfold selV
  rw [sel_yes h, List.map_append]
  rfl
theorem selV_no {q : Nat → Bool} {n : Nat} (h : q n = false) : selV q (n + 1) = selV q n := by
  unfold selV
  rw [sel_no h]
theorem selV_small {q : Nat → Bool} {n : Nat} (h : n ≤ 1000) : (selV q n).length < sizeLine := by
  unfold selV
  rw [List.length_map]
  exact Nat.lt_of_le_of_lt (Nat.le_trans (sel_len q n) h) (by rw [sizeLine_eq]; decide)
theorem dints_lay : ∀ is : List Int, PyData.canLayAll0 (is.map PyData.int) = true ∧ PyData.depthAll (is.map PyData.int) ≤ 0
  | [] => ⟨rfl, Nat.le_refl _⟩
  | i :: is => by
    have ih := dints_lay is
    refine ⟨?_, ?_⟩
    · show PyData.canLayAll0 (PyData.int i :: is.map PyData.int) = true
      simp only [PyData.canLayAll0, PyData.canLay0, ih.1, Bool.and_self]
    · show PyData.depthAll (PyData.int i :: is.map PyData.int) ≤ 0
      simp only [PyData.depthAll, PyData.depth]
      have := ih.2
      omega
theorem dints_shaped (is : List Int) : SeqAt.shaped (.list (is.map PyData.int)) = true := by
  have h := dints_lay is
  unfold SeqAt.shaped
  have h2 := h.2
  have e : (PyData.list (is.map PyData.int)).depth ≤ 64 := by
    simp only [PyData.depth]
    omega
  have e0 : (PyData.list (is.map PyData.int)).canLay0 = true := by simpa only [PyData.canLay0] using h.1
  rw [e0, decide_eq_true e]
  rfl
theorem eqv_nil (is : List Int) : PyData.eqv (.list (is.map PyData.int)) (.list []) = is.isEmpty := by
  cases is with
  | nil => simp [PyData.eqv, PyData.eqvAll]
  | cons i is => simp [PyData.eqv, PyData.eqvAll]
theorem ne_nil {K : PySem.W.Frag} {H : Hp} {a b : Addr} {is : List Int} {Q : VK} (h : H a = some (.lst (is.map V.int))) (hb : H b = some (.lst [])) (q : Q (.bl (!is.isEmpty)) H) : rNeD K (.ref a) (.ref b) H Q := by
  refine ⟨.list (is.map PyData.int), .list [], .lst (SqL.of h) (dpInts _), .lst (SqL.of hb) .nil, dints_shaped _, dints_shaped [], ?_⟩
  rw [eqv_nil]
  exact q
theorem eq_nil {K : PySem.W.Frag} {H : Hp} {a b : Addr} {is : List Int} {Q : VK} (h : H a = some (.lst (is.map V.int))) (hb : H b = some (.lst [])) (q : Q (.bl is.isEmpty) H) : rEqD K (.ref a) (.ref b) H Q := by
  refine ⟨.list (is.map PyData.int), .list [], .lst (SqL.of h) (dpInts _), .lst (SqL.of hb) .nil, dints_shaped _, dints_shaped [], ?_⟩
  rw [eqv_nil]
  exact q
theorem ints_of {fs : List V} {n : Nat} : (∀ y, y ∈ fs → ∃ j : Nat, y = .int (j : Nat) ∧ j < n) → ∃ os : List Int, fs = os.map V.int ∧ ∀ o, o ∈ os → 0 ≤ o ∧ o < n := by
  induction fs with
  | nil => exact fun _ => ⟨[], rfl, fun o h => absurd h (by simp)⟩
  | cons f fs ih =>
    intro h
    obtain ⟨os, e, m⟩ := ih fun y hy => h y (List.mem_cons_of_mem _ hy)
    obtain ⟨j, ej, hj⟩ := h f (by simp)
    refine ⟨(j : Int) :: os, by rw [List.map_cons, ← e, ej], fun o ho => ?_⟩
    rcases List.mem_cons.mp ho with z | ho
    · rw [z]; omega
    · exact m o ho
section
variable {P : Program} {w : World} {K : PySem.W.Frag} {mg : Str → Option Value} {base : Heap} {ad : Ec → Addr} {D fI cda cc : Addr}
/-! ### _law_refused -/
def spRefused (K : PySem.W.Frag) : Sp := fun vs H Q _ => ∃ (nm : Str) (v : V) (d : PyData) (m : Nat), vs = [.str nm, v] ∧ (∀ H', Same H H' → Dp K H' v d) ∧ Sm m 60 d ∧ m ≤ 16777216 ∧
  ∀ H' L M, Same H H' → H' L = some (.lst [.str "refused", .ref M, .str d.shown]) → H' M = some (.lst [.str "ValueError", .str nm]) → Q (.ref L) H'
theorem sc34 : FnScope ["_law_name", "_law_what"] ["_law_name", "_law_what"] (defScope (top 34)) := ⟨rfl, rfl, rfl, by decide +kernel, rfl, by decide +kernel, by decide +kernel⟩
theorem sz_small {xs : List V} (h : xs.length ≤ 1000) : xs.length ≤ sizeLine := Nat.le_trans h (by rw [sizeLine_eq]; decide)
theorem has_refused (T : Tx P K mg ad D fI cda cc) (d : Df K mg "_law_refused" 34) : HasG P w K mg base CX0 1 "_law_refused" ["_law_name", "_law_what"] (spRefused K) := by
  obtain ⟨f, fd, F, hm⟩ := d
  refine ⟨f, fd, hm, F.kp, F.binds (fun _ _ _ _ _ _ us hl => match us, hl with | [_, _], _ => rfl), ?_⟩
  refine Fun.okG F sc34 (fun vs H Q E h => ?_) (fun cdv A outer s H vs Q E hr hgd h _ => ?_)
  · obtain ⟨nm, v, d, m, rfl, _⟩ := h
    rfl
  · obtain ⟨nm, v, d, m, rfl, hd, sm, hm, k⟩ := h
    refine ⟨_, PSs.nox (pss_one (ps_ret (pe_lst (pa_cons pe_str (pa_cons (pe_lst (pa_cons pe_str (pa_cons (pv 0) pa_nil))) (pa_cons (pe_callB (call_reprD hgd (Room.u64 hr)) (by rfl) T.repr boot_repr (pa_cons (pv 1) pa_nil)) pa_nil)))))), ?_⟩
    refine ⟨_, rfl, sz_small (by show 2 ≤ 1000; decide), fun M hM => ?_⟩
    refine ⟨_, rfl, v, d, rfl, hd _ (Same.new hM), sm.sh, sm.nd, Nat.le_trans sm.len (by rw [sizeLine_eq]; exact hm), sm.dep, sz_small (by show 3 ≤ 1000; decide), fun L hL => ?_⟩
    exact k _ L M ((Same.new hM).trans (Same.new hL)) upd_same (Same.new hL _ _ upd_same)
/-! ### _law_is_place -/
theorem sc36 : FnScope ["_law_rooms", "_law_x", "_law_place_here"] ["_law_rooms", "_law_x", "_law_place_here"] (defScope (top 36)) := ⟨rfl, rfl, rfl, by decide +kernel, rfl, by decide +kernel, by decide +kernel⟩
theorem has_isplace (T : Tx P K mg ad D fI cda cc) (d : Df K mg "_law_is_place" 36) : Has P w K mg base CX0 1 "_law_is_place" ["_law_rooms", "_law_x", "_law_place_here"] spPlace := by
  obtain ⟨f, fd, F, hm⟩ := d
  refine ⟨f, fd, hm, F.kp, F.binds (fun _ _ _ _ _ _ us hl => match us, hl with | [_, _, _], _ => rfl), ?_⟩
  refine F.ok sc36 (fun vs H Q E h => ?_) (fun cdv A outer s H vs Q E hr h => ?_)
  · obtain ⟨a, x, v, rs, p, rfl, _⟩ := h
    rfl
  · obtain ⟨a, x, v, rs, p, rfl, hR, hp, k⟩ := h
    refine ⟨_, pss_cons (ps_if (pt_cmpR op_isN (pv 2) pe_non (nomark _)) (pss_one (ps_ret pe_bl)) pss_nil)
      (pss_cons (ps_if (PW.pt (pw_or (pt_not (pt_val (pe_callB call_isi (by rfl) T.isi boot_isinstance (pa_cons (pv 2) (pa_cons (pe_bltn (v := .ty "tuple") (by rfl) T.tuple boot_tuple rfl) pa_nil)))))
          (pw_or (pt_cmpR op_ne (pe_callB call_len (by rfl) T.len boot_len (pa_cons (pv 2) pa_nil)) pe_int (nomark _))
          (pw_or1 (pt_val (pe_callB call_isi (by rfl) T.isi boot_isinstance (pa_cons (pe_ix (r := rIxT K) ix_tup (pv 2) pe_int (fun _ _ => rfl)) (pa_cons (pe_bltn (v := .ty "str") (by rfl) T.str boot_str rfl) pa_nil))))))))
        (pss_one (ps_ret pe_bl)) pss_nil)
      (pss_one (ps_ret (pe_and (pe_chain op_le op_lt pe_int (pe_ix (r := rIxT K) ix_tup (pv 2) pe_int (fun _ _ => rfl)) (pe_callB call_len (by rfl) T.len boot_len (pa_cons (pv 0) pa_nil)))
        (pe_and (pe_cmpR op_ne (pe_ix (r := rIxT K) ix_tup (pv 2) pe_int (fun _ _ => rfl)) (pv 1) (nomark _))
        (pe_one (pe_chain op_le op_lt pe_int (pe_ix (r := rIxT K) ix_tup (pv 2) pe_int (fun _ _ => rfl)) (pe_ix (r := rIxT K) ix_tup (pv 0) (pe_ix (r := rIxT K) ix_tup (pv 2) pe_int (fun _ _ => rfl)) (fun _ _ => rfl))))))))), ?_⟩
    cases hp with
    | floor => exact ⟨_, rfl, rfl, _, rfl, iteT k⟩
    | word z =>
      refine ⟨_, rfl, rfl, _, rfl, iteF ?_⟩
      refine ⟨_, rfl, _, _, _, _, false, rfl, .ty _, .base (.str z), kit_ty (by decide +kernel), false, rfl, iteT ?_⟩
      exact iteT k
    | @row b is e n =>
      refine ⟨_, rfl, rfl, _, rfl, iteF ?_⟩
      refine ⟨_, rfl, _, _, _, _, true, rfl, .ty _, .base (.tup e), kit_ty (by decide +kernel), true, rfl, iteF ?_⟩
      refine ⟨_, rfl, _, is.length, rfl, .inr ⟨_, SqT.of e, by rw [List.length_map]⟩, rfl, _, rfl, ?_⟩
      refine if_true_of ?_ (iteT k)
      simp [n]
      omega
    | @named b z r e =>
      refine ⟨_, rfl, rfl, _, rfl, iteF ?_⟩
      refine ⟨_, rfl, _, _, _, _, true, rfl, .ty _, .base (.tup e), kit_ty (by decide +kernel), true, rfl, iteF ?_⟩
      refine ⟨_, rfl, _, 2, rfl, .inr ⟨_, SqT.of e, rfl⟩, rfl, _, rfl, iteF ?_⟩
      refine ⟨_, rfl, _, _, _, _, rfl, rfl, SqT.of e, at_of (j := 0) rfl rfl, _, _, _, _, true, rfl, .ty _, .base (.str z), kit_ty (by decide +kernel), true, rfl, ?_⟩
      exact iteT k
    | @«at» b h r e =>
      refine ⟨_, rfl, rfl, _, rfl, iteF ?_⟩
      refine ⟨_, rfl, _, _, _, _, true, rfl, .ty _, .base (.tup e), kit_ty (by decide +kernel), true, rfl, iteF ?_⟩
      refine ⟨_, rfl, _, 2, rfl, .inr ⟨_, SqT.of e, rfl⟩, rfl, _, rfl, iteF ?_⟩
      refine ⟨_, rfl, _, _, _, _, rfl, rfl, SqT.of e, at_of (j := 0) rfl rfl, _, _, _, _, false, rfl, .ty _, .base (.int h), kit_ty (by decide +kernel), false, rfl, ?_⟩
      refine iteF ?_
      have kF : okPl rs x (.at h r) = false → Q (.bl false) H := fun e => by rw [e] at k; exact k
      refine ⟨_, rfl, _, _, _, _, rfl, rfl, SqT.of e, at_of (j := 0) rfl rfl, 0, h, rfl, rfl, _, rfl, ite2 (fun h1 => ?_) (fun h1 => ?_)⟩
      · have h1 : 0 ≤ h := by simpa using h1
        refine ⟨_, rfl, _, rs.length, rfl, .inr ⟨_, SqT.of hR, by rw [List.length_map]⟩, h, rs.length, rfl, rfl, _, rfl, ite2 (fun h2 => ?_) (fun h2 => ?_)⟩
        · have h2 : h < rs.length := by simpa using h2
          refine ⟨_, rfl, _, _, _, _, rfl, rfl, SqT.of e, at_of (j := 0) rfl rfl, _, rfl, rfl, _, rfl, ite2 (fun h3 => ?_) (fun h3 => ?_)⟩
          · have h3 : h ≠ x := by simpa using h3
            refine ⟨_, rfl, _, _, _, _, rfl, rfl, SqT.of e, at_of (j := 1) rfl rfl, 0, r, rfl, rfl, _, rfl, ite2 (fun h4 => ?_) (fun h4 => ?_)⟩
            · have h4 : 0 ≤ r := by simpa using h4
              refine ⟨_, rfl, _, rfl, _, _, _, _, rfl, rfl, SqT.of e, at_of (j := 0) rfl rfl, _, _, h, _, rfl, rfl, SqT.of hR, at_of (j := h.toNat) (by omega) (getD_of h1 h2), r, _, rfl, rfl, ?_⟩
              have e : okPl rs x (.at h r) = decide (r < rs.getD h.toNat 0) := by
                unfold okPl
                simp [h1, h2, h3, h4]
              rw [e] at k
              exact k
            · exact kF (by unfold okPl; simp at h4; simp; omega)
          · exact kF (by unfold okPl; simp at h3; simp [h3])
        · exact kF (by unfold okPl; simp at h2; simp; omega)
      · exact ⟨_, rfl, iteF (kF (by unfold okPl; simp at h1; simp; omega))⟩
end
end Ns
/-! the law's defs: ring, grown -/
namespace Ns
open PySem PySem.Spec PyProof.Rows L2
/-- [h[0] for h in l], l a list of pairs -/
theorem lc_heads {K : PySem.W.Frag} {L1 D : Addr} {H1 : Hp} {ys : List V} {hs : List Int} {σ : St} {j : Nat} {Qd : Hp → Prop} (hL : H1 L1 = some (.lst ys)) (pr : Paired (HeadIs H1) ys hs) (hj : j < σ.length) (hl : hs.length ≤ 1000) (hD : H1 D = none)
    (q : ∀ H', Same H1 H' → H' D = some (.lst (hs.map V.int)) → Qd H') :
    ∃ W : Nat → Nat → Hp → Prop, (∃ m, W 0 m (upd H1 D (.lst []))) ∧ ∀ i m H, W i m H →
      ((Itl K L1).stop i H ∧ Qd H) ∨ ((Itl K L1).go i H ∧ ∃ Nx : Hp → Prop, (∀ H', Nx H' → ∃ m', m' < m ∧ W (i + 1) m' H') ∧ ∀ x H', (Itl K L1).yld i H x H' → gName j x (wipe σ [j]) H' fun σ2 H2 => wipe σ2 [j] = wipe σ [j] ∧ tYes σ2 H2 fun b H3 =>
        if b = true then tOp (rIxT K) (tVar j) (tC (.int 0)) σ2 H3 fun y H4 => ∃ acc, H4 D = some (.lst acc) ∧ acc.length < sizeLine ∧ Nx (upd H4 D (.lst (acc ++ [y]))) else Nx H3) := by
  have hlen : ys.length = hs.length := pr.length
  refine lc_list (K := K) (a := L1) (xs := ys) (fun i H' => Same H1 H' ∧ H' D = some (.lst ((hs.take i).map V.int))) ⟨Same.new hD, upd_same⟩ (fun i H' _ ⟨s, _⟩ => SqL.of (s _ _ hL)) ?_ ?_
  · rintro i x H' hi ⟨s, e⟩
    obtain ⟨h, hh, b, r, rfl, eb⟩ := paired_get pr hi
    have hz : ((hs.take i).map V.int).length < sizeLine := by
      rw [List.length_map, List.length_take]
      exact Nat.lt_of_le_of_lt (show min i hs.length ≤ 1000 by omega) (by rw [sizeLine_eq]; decide)
    have wl : (σ.set j none)[j]? = some none := by rw [List.getElem?_set_self hj]
    refine ⟨?_, ?_⟩
    · show ((σ.set j none).set j (some (V.ref b))).set j none = σ.set j none
      rw [List.set_set, List.set_set]
    · refine ⟨V.ref b, ?_, ?_⟩
      · show ((σ.set j none).set j (some (V.ref b)))[j]? = some (some (V.ref b))
        rw [List.getElem?_set_self (by rw [List.length_set]; exact hj)]
      · refine ⟨b, _, 0, _, rfl, rfl, SqT.of (s _ _ eb), at_of (j := 0) rfl rfl, _, e, hz, Same.put s hD, ?_⟩
        rw [upd_same, take_more hh, List.map_append]
        rfl
  · rintro H' ⟨s, e⟩
    rw [hlen, List.take_length] at e
    exact q H' s e
section
variable {P : Program} {w : World} {K : PySem.W.Frag} {mg : Str → Option Value} {base : Heap} {ad : Ec → Addr} {D fI cda cc : Addr}
/-! ### _law_ring -/
def spRings : Sp := fun vs H Q _ => ∃ (a : Addr) (F : List Pl), vs = [.ref a] ∧ FoAt H a F ∧ VF F ∧ F.length ≤ 24 ∧ ∀ L H', H L = none → Same H H' → H' L = some (.lst (selV (inSelf F) F.length)) → Q (.ref L) H'
theorem sc37 : FnScope ["_law_forest", "_law_found", "_law_x", "_law_place_here"] ["_law_forest"] (defScope (top 37)) := ⟨rfl, rfl, rfl, by decide +kernel, rfl, by decide +kernel, by decide +kernel⟩
theorem anc_le {F : List Pl} : ∀ (k : Nat) (x : Int), (anc F k x).length ≤ k
  | 0, _ => Nat.le_refl _
  | k + 1, x => by
    show (match par F x with | none => [] | some h => h :: anc F k h).length ≤ k + 1
    cases par F x with
    | none => exact Nat.zero_le _
    | some h => exact Nat.succ_le_succ (anc_le k h)
theorem has_rings (T : Tx P K mg ad D fI cda cc) (d : Df K mg "_law_ring" 37) (hC : Has P w K mg base CX0 1 "_law_climb" ["_law_forest", "_law_x"] spClimb) : Has P w K mg base CX0 2 "_law_ring" ["_law_forest"] spRings := by
  obtain ⟨f, fd, F, hm⟩ := d
  refine ⟨f, fd, hm, F.kp, F.binds (fun _ _ _ _ _ _ us hl => match us, hl with | [_], _ => rfl), ?_⟩
  refine F.ok sc37 (fun vs H Q E h => ?_) (fun cdv A outer s H vs Q E hr h => ?_)
  · obtain ⟨a, F, rfl, _⟩ := h
    rfl
  · obtain ⟨a, G, rfl, hF, hv, hl, k⟩ := h
    obtain ⟨xs, hx, rp⟩ := id hF
    have hlen : xs.length = G.length := rp.length
    refine ⟨_, pss_cons (ps_set (i := 1) sc37.nd rfl (Or.inl rfl) (pe_lst pa_nil))
      (pss_cons (ps_for PassesOwn.never rfl (pi_range1 (by rfl) T.range (pa_cons (pe_callB call_len (by rfl) T.len boot_len (pa_cons (pv 0) pa_nil)) pa_nil)) (pg_name (i := 2) sc37.nd rfl (Or.inl rfl))
        (pss_one (ps_if (pt_cmpR op_in_seq (pv 2) (pe_lc (own := [("_law_place_here", 3)]) (g := gName 3) (tt := tYes) rfl sc37.nd (pi_list (pe_has hC hr pass0 (pa_cons (pv 0) (pa_cons (pv 2) pa_nil)))) (blkOk_by (own := [("_law_place_here", 3)]) (N := ["_law_forest", "_law_found", "_law_x", "_law_place_here"]) (sc := defScope (top 37)) (by decide +kernel))
            (fun _ _ _ _ _ => pg_name (i := 3) sc37.nd rfl (Or.inl rfl)) (fun _ _ _ _ _ => pts_nil) (fun _ _ _ _ _ => pe_ix (r := rIxT K) ix_tup (pv 3) pe_int (fun _ _ => rfl))) (by rfl))
          (pss_one (ps_expr (pe_bm PySem.F.plainAttrs_list PySem.F.slot_list_append PySem.F.type_list_append mt_append (pv 1) (pa_cons (pv 2) pa_nil)))) pss_nil)))
      (pss_one (ps_ret (pv 1)))), ?_⟩
    refine ⟨Nat.zero_le _, fun L hL => ?_⟩
    have s1 : Same H (upd H L (.lst [])) := Same.new hL
    refine ⟨_, rfl, _, G.length, rfl, .inr ⟨_, SqT.of (s1 _ _ hx), hlen.symm⟩, (G.length : Int), rfl, by omega, by omega, ?_⟩
    refine for_range (lo := 0) (n := ((G.length : Nat) : Int).toNat) (fun i σ H' => ∃ v, σ = [some (.ref a), some (.ref L), v, none] ∧ Same H H' ∧ H' L = some (.lst (selV (inSelf G) i))) ⟨none, rfl, s1, upd_same⟩ ?_ ?_
    · rintro i σ H' hi ⟨v, rfl, s, e⟩
      have hi : i < G.length := by simpa using hi
      refine ⟨_, rfl, _, rfl, _, rfl, a, i, G, by rw [Int.zero_add]; rfl, hF.mono (TS.of s), hv, by omega, by omega, hl, fun L1 ys H2 hL1 s2 e2 pr => ⟨L1, rfl, ⟨ys, SqL.of e2⟩, fun D1 hD1 => ?_⟩⟩
      refine lc_heads (K := K) (j := 3) (σ := [some (V.ref a), some (V.ref L), some (V.int (0 + (i : Nat))), none]) e2 pr (show 3 < 4 by decide) (Nat.le_trans (anc_le _ _) (by omega)) hD1 fun H3 s3 e3 => ?_
      refine ⟨D1, _, rfl, .inl (SqL.of e3), rfl, all_flat _, _, rfl, ?_⟩
      show if inV (.int (0 + (i : Nat))) ((anc G G.length i).map V.int) = true then _ else _
      rw [Int.zero_add, inV_ints]
      have s23 := s2.trans s3
      have eL := s23 _ _ e
      have b : ∀ z, decide (((i : Nat) : Int) ∈ anc G G.length i) = z → inSelf G i = z := fun z h => h
      refine ite2 (fun h1 => ?_) (fun h1 => ?_)
      · refine ⟨_, rfl, .inl ⟨rfl, _, SqL.of eL⟩, _, rfl, L, _, _, rfl, rfl, eL, selV_small (by omega), ?_⟩
        refine ⟨_, rfl, Same.put (s.trans s23) hL, ?_⟩
        rw [upd_same, selV_yes (b _ h1)]
      · refine ⟨_, rfl, s.trans s23, ?_⟩
        rw [selV_no (b _ (by simpa using h1))]
        exact eL
    · rintro σ H' ⟨v, rfl, s, e⟩
      exact ⟨_, rfl, k L H' hL s e⟩
/-! ### _law_grown -/
def Gd (n : Nat) (F : List Pl) : Prop := F.length = n ∧ ∀ (i : Nat) (p : Pl), F[i]? = some p → p = .floor ∨ ∃ h r, p = .at h r ∧ 0 ≤ h ∧ h < n ∧ 0 ≤ r ∧ r ≤ 4
theorem Gd.vf {n : Nat} {F : List Pl} (g : Gd n F) : VF F := fun i p h => by
  rcases g.2 i p h with e | ⟨h, r, e, a, b, c, d⟩
  · exact .inl e
  · exact .inr ⟨h, r, e, a, by rw [g.1]; exact b⟩
theorem Gd.set {n : Nat} {F : List Pl} (g : Gd n F) (k : Nat) {p : Pl} (hp : p = .floor ∨ ∃ h r, p = .at h r ∧ 0 ≤ h ∧ h < n ∧ 0 ≤ r ∧ r ≤ 4) : Gd n (F.set k p) := by
  refine ⟨by rw [List.length_set]; exact g.1, fun i q h => ?_⟩
  by_cases e : k = i
  · subst e
    by_cases hl : k < F.length
    · rw [List.getElem?_set_self hl] at h
      rw [← Option.some.inj h]
      exact hp
    · rw [List.getElem?_eq_none (by rw [List.length_set]; omega)] at h
      cases h
  · rw [List.getElem?_set_ne e] at h
    exact g.2 i q h
theorem ixN_ok {n j : Nat} (h : j < n) : ixN n (j : Int) = some j := by
  unfold ixN
  rw [if_pos (by omega), if_pos (by omega)]
  simp
theorem rep_pair (H : Hp) : ∀ n, Paired (PlV H) (List.replicate n .non) (List.replicate n .floor)
  | 0 => .nil
  | n + 1 => .cons .floor (rep_pair H n)
theorem cut_turn {os : List Int} {i : Nat} (h : i ≤ os.length) : cutV (os.map V.int) none (some (0 + (i : Int))) = (os.take i).map V.int := by
  rw [Int.zero_add, cut_lo _ (by rw [List.length_map]; exact h), List.map_take]
def spGrown : Sp := fun vs H Q _ => ∃ (p R : Addr) (rs : List Int), vs = [.ref p, .ref R] ∧ Src H p ∧ H R = some (.tup (rs.map V.int)) ∧ rs.length ≤ 24 ∧ (∀ r, r ∈ rs → 0 ≤ r ∧ r ≤ 4) ∧ ∀ H' t F, FoAt H' t F → Gd rs.length F → Src H' p → But p H H' → Q (.ref t) H'
theorem sc35 : FnScope ["_law_source", "_law_rooms", "_law_order", "_law_places", "_law_at", "_law_some", "_law_holder", "_law_x", "_law_y"] ["_law_source", "_law_rooms"] (defScope (top 35)) := ⟨rfl, rfl, rfl, by decide +kernel, rfl, by decide +kernel, by decide +kernel⟩
theorem has_grown (T : Tx P K mg ad D fI cda cc) (d : Df K mg "_law_grown" 35) (hT : Has P w K mg base CX0 1 "_law_take" ["_law_source", "_law_top"] spTake) (hO : Has P w K mg base CX0 2 "_law_one" ["_law_source", "_law_things"] spOne) (hM : Has P w K mg base CX0 2 "_law_mixed" ["_law_source", "_law_things"] spMixed) :
    Has P w K mg base CX0 3 "_law_grown" ["_law_source", "_law_rooms"] spGrown := by
  obtain ⟨f, fd, F, hm⟩ := d
  refine ⟨f, fd, hm, F.kp, F.binds (fun _ _ _ _ _ _ us hl => match us, hl with | [_, _], _ => rfl), ?_⟩
  refine F.ok sc35 (fun vs H Q E h => ?_) (fun cdv A outer s H vs Q E hr h => ?_)
  · obtain ⟨p, R, rs, rfl, _⟩ := h
    rfl
  · obtain ⟨p, R, rs, rfl, hs, hR, hl, hrs, k⟩ := h
    have hr1 : Room 1 _ := hr.mono (by decide)
    refine ⟨_, pss_cons (ps_set (i := 2) sc35.nd rfl (Or.inl rfl) (pe_has hM hr pass0 (pa_cons (pv 0) (pa_cons (pe_lc (own := [("_law_x", 7)]) (g := gName 7) (tt := tYes) rfl sc35.nd (pi_range1 (by rfl) T.range (pa_cons (pe_callB call_len (by rfl) T.len boot_len (pa_cons (pv 1) pa_nil)) pa_nil))
          (blkOk_by (own := [("_law_x", 7)]) (N := ["_law_source", "_law_rooms", "_law_order", "_law_places", "_law_at", "_law_some", "_law_holder", "_law_x", "_law_y"]) (sc := defScope (top 35)) (by decide +kernel))
          (fun _ _ _ _ _ => pg_name (i := 7) sc35.nd rfl (Or.inl rfl)) (fun _ _ _ _ _ => pts_nil) (fun _ _ _ _ _ => pv 7)) pa_nil))))
      (pss_cons (ps_setLc (i := 3) (own := [("_law_x", 7)]) (g := gName 7) (tt := tYes) rfl sc35.nd rfl rfl (sw_true rfl rfl rfl (by decide +kernel)) (pi_range1 (by rfl) T.range (pa_cons (pe_callB call_len (by rfl) T.len boot_len (pa_cons (pv 1) pa_nil)) pa_nil))
          (blkOk_by (own := [("_law_x", 7)]) (N := ["_law_source", "_law_rooms", "_law_order", "_law_places", "_law_at", "_law_some", "_law_holder", "_law_x", "_law_y"]) (sc := defScope (top 35)) (by decide +kernel))
          (fun _ _ _ _ _ => pg_name (i := 7) sc35.nd rfl (Or.inl rfl)) (fun _ _ _ _ _ => pts_nil) (fun _ _ _ _ _ => pe_non))
      (pss_cons (ps_for PassesOwn.never rfl (pi_range1 (by rfl) T.range (pa_cons (pe_callB call_len (by rfl) T.len boot_len (pa_cons (pv 2) pa_nil)) pa_nil)) (pg_name (i := 4) sc35.nd rfl (Or.inl rfl))
        (pss_cons (ps_setLc (i := 5) (own := [("_law_y", 8)]) (g := gName 8) rfl sc35.nd rfl rfl (sw_true rfl rfl rfl (by decide +kernel)) (pi_list (pe_slice sl_list (pv 2) po_none (po_some (pv 4))))
            (blkOk_by (own := [("_law_y", 8)]) (N := ["_law_source", "_law_rooms", "_law_order", "_law_places", "_law_at", "_law_some", "_law_holder", "_law_x", "_law_y"]) (sc := defScope (top 35)) (by decide +kernel))
            (fun _ _ _ _ _ => pg_name (i := 8) sc35.nd rfl (Or.inl rfl)) (fun _ _ _ _ _ => pts_one (pt_cmpR op_gt (pe_ix (r := rIxT K) ix_tup (pv 1) (pv 8) (fun _ _ => rfl)) pe_int (nomark _))) (fun _ _ _ _ _ => pv 8))
        (pss_one (ps_if (PW.pt (pw_and (pt_cmpR (op_neD (Room.u64 hr)) (pv 5) (pe_lst pa_nil) (nomark _)) (pw_and1 (pt_cmpR op_gt (pe_has hT hr1 pass0 (pa_cons (pv 0) (pa_cons pe_int pa_nil))) pe_int (nomark _)))))
          (pss_cons (ps_set (i := 6) sc35.nd rfl (Or.inl rfl) (pe_has hO hr pass0 (pa_cons (pv 0) (pa_cons (pv 5) pa_nil))))
          (pss_one (ps_asg (pe_tup (pa_cons (pv 6) (pa_cons (pe_has hT hr1 pass0 (pa_cons (pv 0) (pa_cons (pe_ix (r := rIxT K) ix_tup (pv 1) (pv 6) (fun _ _ => rfl)) pa_nil))) pa_nil)))
            (pg_sub (pv 3) (pe_ix (r := rIxL K) ix_list (pv 2) (pv 4) (fun _ _ => rfl)) set_list)))) pss_nil))))
      (pss_one (ps_ret (pe_callTy call_tuple_of (by rfl) T.tuple boot_tuple (pa_cons (pv 3) pa_nil)))))), ?_⟩
    have hlenR : ∀ H', H' R = some (.tup (rs.map V.int)) → LenV K (.ref R) H' rs.length := fun H' h => .inr ⟨_, SqT.of h, by rw [List.length_map]⟩
    refine ⟨_, rfl, _, rfl, _, rs.length, rfl, hlenR _ hR, (rs.length : Int), rfl, by omega, by omega, fun X1 hX1 => ?_⟩
    refine lc_range (lo := 0) (n := ((rs.length : Nat) : Int).toNat) (fun i H' => Same H H' ∧ ∃ is : List V, H' X1 = some (.lst is) ∧ is.length = i ∧ ∀ y, y ∈ is → ∃ j : Nat, y = .int (j : Nat) ∧ j < i) ⟨Same.new hX1, [], upd_same, rfl, fun y h => absurd h (by simp)⟩ ?_ ?_
    · rintro i H' hi ⟨s1, is, e1, l1, m1⟩
      have hi : i < rs.length := by simpa using hi
      refine ⟨rfl, ?_⟩
      refine ⟨_, rfl, is, e1, Nat.lt_of_le_of_lt (show is.length ≤ 24 by omega) (by rw [sizeLine_eq]; decide), Same.put s1 hX1, is ++ [.int (0 + (i : Nat))], upd_same, by rw [List.length_append, l1]; rfl, fun y hy => ?_⟩
      rcases List.mem_append.mp hy with hy | hy
      · obtain ⟨j, e, hj⟩ := m1 y hy
        exact ⟨j, e, by omega⟩
      · have e : y = .int (0 + (i : Nat)) := by simpa using hy
        exact ⟨i, by rw [e, Int.zero_add], by omega⟩
    · rintro H1 ⟨s1, is, e1, l1, m1⟩
      have l1 : is.length = rs.length := by simpa using l1
      have hs1 := hs.same s1
      refine ⟨p, X1, is, rfl, hs1, e1, hs.nn hX1, by omega, fun O fs H2 hO2 eO lO mO hs2 b2 => ?_⟩
      obtain ⟨os, rfl, mos⟩ := ints_of (fs := fs) (n := rs.length) fun y hy => by
        obtain ⟨j, e, hj⟩ := m1 y (mO y hy)
        exact ⟨j, e, by simpa using hj⟩
      have b02 : But p H H2 := (But.of s1).trans b2
      have nR : R ≠ p := hs.ne hR
      have hR2 := b02 _ _ nR hR
      refine ⟨_, rfl, _, rs.length, rfl, hlenR _ hR2, (rs.length : Int), rfl, by omega, by omega, fun L hL => ?_⟩
      have hO0 : H O = none := by
        cases e : H O with
        | none => rfl
        | some u => rw [s1 _ _ e] at hO2; cases hO2
      have hL0 : H L = none := by
        cases e : H L with
        | none => rfl
        | some u =>
          by_cases z : L = p
          · exact absurd z (hs2.nn hL)
          · rw [b02 _ _ z e] at hL; cases hL
      have nOL : O ≠ L := fun e => by rw [← e, eO] at hL; cases hL
      refine lc_range (lo := 0) (n := ((rs.length : Nat) : Int).toNat) (fun i H' => Same H2 H' ∧ H' L = some (.lst (List.replicate i .non))) ⟨Same.new hL, upd_same⟩ ?_ ?_
      · rintro i H' hi ⟨s3, e3⟩
        have hi : i < rs.length := by simpa using hi
        refine ⟨rfl, ?_⟩
        refine ⟨_, e3, Nat.lt_of_le_of_lt (show (List.replicate i V.non).length ≤ 24 by rw [List.length_replicate]; omega) (by rw [sizeLine_eq]; decide), Same.put s3 hL, ?_⟩
        rw [upd_same, List.replicate_succ']
      · rintro H3 ⟨s3, e3⟩
        have e3 : H3 L = some (.lst (List.replicate rs.length .non)) := by simpa using e3
        have lOs : os.length = rs.length := by rw [List.length_map] at lO; omega
        have b03 : But p H H3 := b02.trans (But.of s3)
        refine ⟨_, rfl, _, rs.length, rfl, .inl ⟨_, SqL.of (s3 _ _ eO), by rw [List.length_map, lOs]⟩, (rs.length : Int), rfl, by omega, by omega, ?_⟩
        refine for_range (lo := 0) (n := ((rs.length : Nat) : Int).toNat) (fun i σ H' => ∃ v4 v5 v6 vs F, σ = [some (.ref p), some (.ref R), some (.ref O), some (.ref L), v4, v5, v6, none, none] ∧ Src H' p ∧ But p H H' ∧ H' O = some (.lst (os.map V.int)) ∧ H' L = some (.lst vs) ∧ Paired (PlV H') vs F ∧ Gd rs.length F)
          ⟨none, none, none, _, List.replicate rs.length .floor, rfl, hs2.same s3, b03, s3 _ _ eO, e3, ?_, ?_⟩ ?_ ?_
        · exact rep_pair _ _
        · refine ⟨List.length_replicate, fun i q h => .inl ?_⟩
          have := List.mem_of_getElem? h
          rw [List.mem_replicate] at this
          exact this.2
        · rintro i σ H' hi ⟨v4, v5, v6, vs, F, rfl, hs', b', eO', eL', pr, gd⟩
          have hi : i < rs.length := by simpa using hi
          have nO : O ≠ p := hs.nn hO0
          have nL : L ≠ p := hs.nn hL0
          refine ⟨_, rfl, _, rfl, _, rfl, O, _, rfl, SqL.of eO', fun S hS => ⟨S, rfl, ⟨_, SqL.of upd_same⟩, fun W hW => ?_⟩⟩
          rw [cut_turn (show i ≤ os.length by omega)] at hW ⊢
          have bS : Same H' (upd H' S (.lst ((os.take i).map V.int))) := Same.new hS
          have eS : (upd H' S (.lst ((os.take i).map V.int))) S = some (.lst ((os.take i).map V.int)) := upd_same
          generalize (upd H' S (.lst ((os.take i).map V.int))) = H4 at bS eS hW ⊢
          have hR4 := bS _ _ (b' _ _ nR hR)
          refine lc_list (K := K) (a := S) (xs := (os.take i).map V.int) (fun j H5 => Same H4 H5 ∧ ∃ is : List Int, H5 W = some (.lst (is.map V.int)) ∧ is.length ≤ j ∧ ∀ o, o ∈ is → o ∈ os ∧ 0 < rs.getD o.toNat 0) ⟨Same.new hW, [], upd_same, Nat.le_refl _, fun o h => absurd h (by simp)⟩ (fun j H5 _ ⟨s5, _⟩ => SqL.of (s5 _ _ eS)) ?_ ?_
          · rintro j x H5 hj ⟨s5, is, e5, l5, m5⟩
            obtain ⟨o, ho, rfl⟩ : ∃ o, (os.take i)[j]? = some o ∧ x = .int o := by
              rw [List.getElem?_map] at hj
              cases z : (os.take i)[j]? with
              | none => rw [z] at hj; cases hj
              | some o => rw [z] at hj; exact ⟨o, rfl, (Option.some.inj hj).symm⟩
            have hos : o ∈ os := List.mem_of_mem_take (List.mem_of_getElem? ho)
            obtain ⟨o0, o1⟩ := mos o hos
            have hj24 : j < 24 := by
              have := (List.getElem?_eq_some_iff.mp ho).1
              rw [List.length_take] at this
              omega
            refine ⟨rfl, ?_⟩
            refine ⟨_, rfl, _, rfl, R, _, o, _, rfl, rfl, SqT.of (s5 _ _ hR4), at_of (j := o.toNat) (show o = ((o.toNat : Nat) : Int) by omega) (getD_of o0 o1), _, _, rfl, rfl, _, rfl, ite2 (fun h1 => ?_) (fun h1 => ?_)⟩
            · refine ⟨_, rfl, _, e5, Nat.lt_of_le_of_lt (show (is.map V.int).length ≤ 24 by rw [List.length_map]; omega) (by rw [sizeLine_eq]; decide), Same.put s5 hW, is ++ [o], ?_, by rw [List.length_append]; simp; omega, fun z hz => ?_⟩
              · rw [upd_same, List.map_append]
                rfl
              · rcases List.mem_append.mp hz with hz | hz
                · exact m5 z hz
                · have e : z = o := by simpa using hz
                  rw [e]
                  exact ⟨hos, by simpa using h1⟩
            · exact ⟨s5, is, e5, by omega, m5⟩
          · rintro H6 ⟨s6, is, e6, l6, m6⟩
            have hs6 : Src H6 p := (hs'.same bS).same s6
            have b6 : But p H' H6 := But.of (bS.trans s6)
            have nW : W ≠ p := (hs'.same bS).nn hW
            have lis : is.length ≤ 24 := by
              rw [List.length_map, List.length_take] at l6
              omega
            have done : ∀ H7 v5 v6, Src H7 p → But p H' H7 → (fun σ H' => ∃ v4 v5 v6 vs F, σ = [some (.ref p), some (.ref R), some (.ref O), some (.ref L), v4, v5, v6, none, none] ∧ Src H' p ∧ But p H H' ∧ H' O = some (.lst (os.map V.int)) ∧ H' L = some (.lst vs) ∧ Paired (PlV H') vs F ∧ Gd rs.length F)
              ([some (V.ref p), some (V.ref R), some (V.ref O), some (V.ref L), some (V.int (0 + (i : Nat))), v5, v6, none, none] : L2.St) H7 := fun H7 v5 v6 h1 h2 =>
              ⟨_, _, _, vs, F, rfl, h1, b'.trans h2, h2 _ _ nO eO', h2 _ _ nL eL', L2.Paired.mapP pr fun _ _ q => q.mono (h2.ts hs'), gd⟩
            refine ⟨_, rfl, Nat.zero_le _, fun Z hZ => ?_⟩
            have sZ : Same H6 (upd H6 Z (.lst [])) := Same.new hZ
            refine ne_nil (K := K) (is := is) (sZ _ _ e6) upd_same ?_
            have hsZ : Src (upd H6 Z (.lst [])) p := hs6.same sZ
            have bZ : But p H' (upd H6 Z (.lst [])) := b6.trans (But.of sZ)
            have eW := sZ _ _ e6
            generalize (upd H6 Z (.lst [])) = H7 at hsZ bZ eW ⊢
            refine ⟨_, rfl, ite2 (fun h1 => ?_) (fun h1 => ?_)⟩
            · have h1 : is.isEmpty = false := by simpa using h1
              have l1 : 1 ≤ is.length := by
                cases is with
                | nil => cases h1
                | cons a is => rw [List.length_cons]; omega
              refine ⟨_, rfl, p, 4, rfl, hsZ, by decide, by decide, fun r H8 r0 r1 hs8 b8 => ?_⟩
              refine ⟨_, _, rfl, rfl, _, rfl, ite2 (fun h2 => ?_) (fun h2 => ?_)⟩
              · have eW8 := b8 _ _ nW eW
                refine ⟨_, rfl, _, rfl, p, W, is.map V.int, rfl, hs8, eW8, nW, by rw [List.length_map]; exact l1, by rw [List.length_map]; omega, fun y H9 hy hs9 b9 => ?_⟩
                obtain ⟨h, hh, rfl⟩ := List.mem_map.mp hy
                obtain ⟨ho, hp⟩ := m6 h hh
                obtain ⟨o0, o1⟩ := mos h ho
                have b09 : But p H' H9 := bZ.trans (b8.trans b9)
                have hR9 := b'.trans b09 _ _ nR hR
                have hmem : rs.getD h.toNat 0 ∈ rs := by
                  have hl : h.toNat < rs.length := by omega
                  rw [List.getD_eq_getElem?_getD, List.getElem?_eq_getElem hl]
                  exact List.getElem_mem hl
                have hr4 := hrs _ hmem
                refine ⟨_, rfl, _, rfl, _, rfl, _, rfl, R, _, h, _, rfl, rfl, SqT.of hR9, at_of (j := h.toNat) (show h = ((h.toNat : Nat) : Int) by omega) (getD_of o0 o1), p, _, rfl, hs9, by omega, by omega, fun r2 H10 q0 q1 hs10 b10 => ?_⟩
                refine ⟨by show 2 ≤ sizeLine; decide, fun t ht => ?_⟩
                have st : Same H10 (upd H10 t (.tup [.int h, .int r2])) := Same.new ht
                have et : (upd H10 t (.tup [.int h, .int r2])) t = some (.tup [.int h, .int r2]) := upd_same
                have hs11 := hs10.same st
                have b11 : But p H' (upd H10 t (.tup [.int h, .int r2])) := b09.trans (b10.trans (But.of st))
                generalize (upd H10 t (.tup [.int h, .int r2])) = H11 at et hs11 b11 ⊢
                have iOs : i < (os.map V.int).length := by rw [List.length_map]; omega
                obtain ⟨o, ho2⟩ : ∃ o, os[i]? = some o := ⟨_, List.getElem?_eq_getElem (by omega)⟩
                obtain ⟨z0, z1⟩ := mos o (List.mem_of_getElem? ho2)
                have lvs : vs.length = rs.length := pr.length.trans gd.1
                refine ⟨_, rfl, _, rfl, _, rfl, O, _, (0 + (i : Nat)), .int o, rfl, rfl, SqL.of (b11 _ _ nO eO'), at_of (j := i) (by omega) (by rw [List.getElem?_map, ho2]; rfl), L, vs, o, o.toNat, rfl, rfl, b11 _ _ nL eL', ?_, ?_⟩
                · rw [lvs, show o = ((o.toNat : Nat) : Int) by omega]
                  exact ixN_ok (by omega)
                · refine ⟨_, _, _, vs.set o.toNat (.ref t), F.set o.toNat (.at h r2), rfl, hs11.put nL, (b'.trans b11).put hL0, ?_, upd_same, ?_, gd.set _ (.inr ⟨h, r2, rfl, o0, by omega, q0, by omega⟩)⟩
                  · rw [upd_ne nOL]
                    exact b11 _ _ nO eO'
                  · have sl : TS H11 (upd H11 L (.lst (vs.set o.toNat (.ref t)))) := TS.lst (b11 _ _ nL eL')
                    refine paired_set (.at (sl _ _ et)) _ (L2.Paired.mapP pr fun _ _ q => (q.mono (b11.ts hs')).mono sl)
              · exact done _ _ _ hs8 (bZ.trans b8)
            · exact iteF (done _ _ _ hsZ bZ)
        · rintro σ H' ⟨v4, v5, v6, vs, F, rfl, hs', b', eO', eL', pr, gd⟩
          refine ⟨_, rfl, L, vs, rfl, .inl ⟨SqL.of eL', fun t ht => ?_⟩⟩
          have st : Same H' (upd H' t (.tup vs)) := Same.new ht
          exact k _ t F ⟨vs, upd_same, L2.Paired.mapP pr fun _ _ q => q.mono (TS.of st)⟩ gd (hs'.same st) (b'.trans (But.of st))
end
end Ns
/-! the law's defs: due -/
namespace Ns
open PySem PySem.Spec PyProof.Rows L2
/-- what heard and due give, at L -/
def TxAt (H : Hp) (L : Addr) : Out → Prop
  | .bad c w => ∃ M, H L = some (.lst [.str "refused", .ref M, .str w.shown]) ∧ H M = some (.lst [.str "ValueError", .str c.name])
  | .told F => H L = some (.lst [.str "told", .str (PyData.tuple (F.map Pl.dat)).shown])
def SmPl (p : Pl) : Prop := Sm 129 1 p.dat
theorem told_sm {F : List Pl} (h : ∀ p, p ∈ F → SmPl p) (hl : F.length ≤ 24) : Sm (24 * 131 + 3) 60 (.tuple (F.map Pl.dat)) := by
  have := sm_tup (n := 129) (k := 1) (m := 24) (ds := F.map Pl.dat) (fun d hd => by
    obtain ⟨p, hp, rfl⟩ := List.mem_map.mp hd
    exact h p hp) (by rw [List.length_map]; exact hl)
  exact this.mono (Nat.le_refl _) (by decide)
theorem mem_set {α : Type} {l : List α} {i : Nat} {a x : α} (h : x ∈ l.set i a) : x ∈ l ∨ x = a := List.mem_or_eq_of_mem_set h
theorem sel_fst (q : Nat → Bool) (n : Nat) : (sel q n = [] ∧ fst (fun j => !q j) n = none) ∨ ∃ j r, sel q n = j :: r ∧ fst (fun j => !q j) n = some j := by
  have h := sel_head q n
  cases e : sel q n with
  | nil =>
    rw [e] at h
    exact .inl ⟨rfl, h.symm⟩
  | cons j r =>
    rw [e] at h
    exact .inr ⟨j, r, rfl, h.symm⟩
theorem sel_ok (ok : Nat → Bool) (n : Nat) : (sel (fun j => !ok j) n = [] ∧ fst ok n = none) ∨ ∃ j r, sel (fun j => !ok j) n = j :: r ∧ fst ok n = some j := by
  have h : (sel (fun j => !ok j) n = [] ∧ fst (fun j => !!ok j) n = none) ∨ ∃ j r, sel (fun j => !ok j) n = j :: r ∧ fst (fun j => !!ok j) n = some j := sel_fst (fun j => !ok j) n
  have e : (fun j => !!ok j) = ok := by
    funext j
    exact Bool.not_not _
  rw [e] at h
  exact h
section
variable {P : Program} {w : World} {K : PySem.W.Frag} {mg : Str → Option Value} {base : Heap} {ad : Ec → Addr} {D fI cda cc : Addr}
def spDue : Sp := fun vs H Q _ => ∃ (a b : Addr) (x : Int) (v : V) (rm : List Rm) (F : List Pl) (p : Pl), vs = [.ref a, .ref b, .int x, v] ∧ RmAt H a rm ∧ rm.length ≤ 24 ∧ FoAt H b F ∧ F.length = rm.length ∧ PlV H v p ∧ SmPl p ∧ (∀ q, q ∈ F → SmPl q) ∧ -100 ≤ x ∧ x ≤ 100 ∧
  ∀ H' L, Same H H' → TxAt H' L (out rm F x p) → Q (.ref L) H'
abbrev N38 : List Str := ["_law_rooms", "_law_forest", "_law_x", "_law_place_here", "_law_wrong", "_law_ring_here", "_law_places", "_law_y", "_law_one_here"]
theorem sc38 : FnScope N38 ["_law_rooms", "_law_forest", "_law_x", "_law_place_here"] (defScope (top 38)) := ⟨rfl, rfl, rfl, by decide +kernel, rfl, by decide +kernel, by decide +kernel⟩
theorem ok38 : True := trivial
theorem sm_small {i : Int} (h1 : -100 ≤ i) (h2 : i ≤ 100) : Sm 40 60 (.int i) := (sm_int h1 h2).mono (Nat.le_refl _) (by decide)
theorem has_due (T : Tx P K mg ad D fI cda cc) (d : Df K mg "_law_due" 38) (hR : HasG P w K mg base CX0 1 "_law_refused" ["_law_name", "_law_what"] (spRefused K)) (hP : Has P w K mg base CX0 1 "_law_is_place" ["_law_rooms", "_law_x", "_law_place_here"] spPlace)
    (hG : Has P w K mg base CX0 2 "_law_ring" ["_law_forest"] spRings) (hC : Has P w K mg base CX0 1 "_law_climb" ["_law_forest", "_law_x"] spClimb) : HasG P w K mg base CX0 3 "_law_due" ["_law_rooms", "_law_forest", "_law_x", "_law_place_here"] spDue := by
  obtain ⟨f, fd, F, hm⟩ := d
  refine ⟨f, fd, hm, F.kp, F.binds (fun _ _ _ _ _ _ us hl => match us, hl with | [_, _, _, _], _ => rfl), ?_⟩
  refine Fun.okG F sc38 (fun vs H Q E h => ?_) (fun cdv A outer s H vs Q E hr hgd h _ => ?_)
  · obtain ⟨a, b, x, v, rm, F, p, rfl, _⟩ := h
    rfl
  · obtain ⟨a, b, x, v, rm, G, p, rfl, hA, hl24, hF, hl, hp, hps, hFs, x0, x1, k⟩ := h
    obtain ⟨xs, hx, rp⟩ := id hF
    have hlen : xs.length = G.length := rp.length
    have hr1 : Room 1 _ := hr.mono (by decide)
    refine ⟨_, PSs.nox (pss_cons (ps_setLc (i := 4) (own := [("_law_y", 7)]) (g := gName 7) rfl sc38.nd rfl rfl (sw_true rfl rfl rfl (by decide +kernel)) (pi_range1 (by rfl) T.range (pa_cons (pe_callB call_len (by rfl) T.len boot_len (pa_cons (pv 0) pa_nil)) pa_nil))
            (blkOk_by (own := [("_law_y", 7)]) (N := N38) (sc := defScope (top 38)) (by decide +kernel))
            (fun _ _ _ _ _ => pg_name (i := 7) sc38.nd rfl (Or.inl rfl)) (fun _ _ _ _ _ => pts_one (PW.pt (pw_or (pt_val (pe_callB (r := rIsi K) call_isi (by rfl) T.isi boot_isinstance (pa_cons (pe_ix (r := rIxT K) ix_tup (pv 0) (pv 7) (fun _ _ => rfl)) (pa_cons (pe_bltn (v := .ty "str") (by rfl) T.str boot_str rfl) pa_nil))))
              (pw_or1 (pt_not (pt_chain op_le op_le pe_int (pe_ix (r := rIxT K) ix_tup (pv 0) (pv 7) (fun _ _ => rfl)) pe_int)))))) (fun _ _ _ _ _ => pv 7))
      (pss_cons (ps_if (pt_cmpR (op_neD (Room.u64 hr)) (pv 4) (pe_lst pa_nil) (nomark _)) (pss_one (ps_ret (pe_hasG hR hr1 hgd pass0 (pa_cons pe_str (pa_cons (pe_ix (r := rIxL K) ix_list (pv 4) pe_int (fun _ _ => rfl)) pa_nil))))) pss_nil)
      (pss_cons (ps_setLc (i := 4) (own := [("_law_y", 7)]) (g := gName 7) rfl sc38.nd rfl rfl (sw_true rfl rfl rfl (by decide +kernel)) (pi_range1 (by rfl) T.range (pa_cons (pe_callB call_len (by rfl) T.len boot_len (pa_cons (pv 1) pa_nil)) pa_nil))
            (blkOk_by (own := [("_law_y", 7)]) (N := N38) (sc := defScope (top 38)) (by decide +kernel))
            (fun _ _ _ _ _ => pg_name (i := 7) sc38.nd rfl (Or.inl rfl)) (fun _ _ _ _ _ => pts_one (pt_not (pt_val (pe_has hP hr1 pass0 (pa_cons (pv 0) (pa_cons (pv 7) (pa_cons (pe_ix (r := rIxT K) ix_tup (pv 1) (pv 7) (fun _ _ => rfl)) pa_nil))))))) (fun _ _ _ _ _ => pv 7))
      (pss_cons (ps_if (pt_cmpR (op_neD (Room.u64 hr)) (pv 4) (pe_lst pa_nil) (nomark _)) (pss_one (ps_ret (pe_hasG hR hr1 hgd pass0 (pa_cons pe_str (pa_cons (pe_ix (r := rIxL K) ix_list (pv 4) pe_int (fun _ _ => rfl)) pa_nil))))) pss_nil)
      (pss_cons (ps_set (i := 5) sc38.nd rfl (Or.inl rfl) (pe_has hG hr pass0 (pa_cons (pv 1) pa_nil)))
      (pss_cons (ps_if (pt_cmpR (op_neD (Room.u64 hr)) (pv 5) (pe_lst pa_nil) (nomark _)) (pss_one (ps_ret (pe_hasG hR hr1 hgd pass0 (pa_cons pe_str (pa_cons (pe_ix (r := rIxL K) ix_list (pv 5) pe_int (fun _ _ => rfl)) pa_nil))))) pss_nil)
      (pss_cons (ps_if (pt_not (pt_chain op_le op_lt pe_int (pv 2) (pe_callB call_len (by rfl) T.len boot_len (pa_cons (pv 0) pa_nil)))) (pss_one (ps_ret (pe_hasG hR hr1 hgd pass0 (pa_cons pe_str (pa_cons (pv 2) pa_nil))))) pss_nil)
      (pss_cons (ps_if (pt_not (pt_val (pe_has hP hr1 pass0 (pa_cons (pv 0) (pa_cons (pv 2) (pa_cons (pv 3) pa_nil)))))) (pss_one (ps_ret (pe_hasG hR hr1 hgd pass0 (pa_cons pe_str (pa_cons (pv 3) pa_nil))))) pss_nil)
      (pss_cons (ps_if (PW.pt (pw_and (pt_cmpR op_notN (pv 3) pe_non (nomark _)) (pw_and1 (pt_cmpR op_in_seq (pv 2) (pe_lc (own := [("_law_one_here", 8)]) (g := gName 8) (tt := tYes) rfl sc38.nd (pi_list (pe_has hC hr1 pass0 (pa_cons (pv 1) (pa_cons (pe_ix (r := rIxT K) ix_tup (pv 3) pe_int (fun _ _ => rfl)) pa_nil))))
            (blkOk_by (own := [("_law_one_here", 8)]) (N := N38) (sc := defScope (top 38)) (by decide +kernel))
            (fun _ _ _ _ _ => pg_name (i := 8) sc38.nd rfl (Or.inl rfl)) (fun _ _ _ _ _ => pts_nil) (fun _ _ _ _ _ => pe_ix (r := rIxT K) ix_tup (pv 8) pe_int (fun _ _ => rfl))) (by rfl)))))
          (pss_one (ps_ret (pe_hasG hR hr1 hgd pass0 (pa_cons pe_str (pa_cons (pe_ix (r := rIxT K) ix_tup (pv 3) pe_int (fun _ _ => rfl)) pa_nil))))) pss_nil)
      (pss_cons (ps_setLc (i := 6) (own := [("_law_y", 7)]) (g := gName 7) (tt := tYes) rfl sc38.nd rfl rfl (sw_true rfl rfl rfl (by decide +kernel)) (pi_range1 (by rfl) T.range (pa_cons (pe_callB call_len (by rfl) T.len boot_len (pa_cons (pv 1) pa_nil)) pa_nil))
            (blkOk_by (own := [("_law_y", 7)]) (N := N38) (sc := defScope (top 38)) (by decide +kernel))
            (fun _ _ _ _ _ => pg_name (i := 7) sc38.nd rfl (Or.inl rfl)) (fun _ _ _ _ _ => pts_nil) (fun _ _ _ _ _ => pe_ix (r := rIxT K) ix_tup (pv 1) (pv 7) (fun _ _ => rfl)))
      (pss_cons (ps_asg (pv 3) (pg_sub (pv 6) (pv 2) set_list))
      (pss_one (ps_ret (pe_lst (pa_cons pe_str (pa_cons (pe_callB (call_reprD hgd (Room.u64 hr)) (by rfl) T.repr boot_repr (pa_cons (pe_callTy call_tuple_of (by rfl) T.tuple boot_tuple (pa_cons (pv 6) pa_nil)) pa_nil)) pa_nil)))))))))))))))), ?_⟩
    have hlenA : ∀ H', RmAt H' a rm → LenV K (.ref a) H' rm.length := fun H' h => .inr ⟨_, SqT.of h, by rw [List.length_map]⟩
    refine ⟨_, rfl, _, rm.length, rfl, hlenA _ hA, (rm.length : Int), rfl, by omega, by omega, fun L1 hL1 => ?_⟩
    refine lc_range (lo := 0) (n := ((rm.length : Nat) : Int).toNat) (fun i H' => Same H H' ∧ H' L1 = some (.lst (selV (fun j => !okRm rm j) i))) ⟨Same.new hL1, upd_same⟩ ?_ ?_
    · rintro i H' hi ⟨s1, e1⟩
      have hi : i < rm.length := by simpa using hi
      obtain ⟨r, hr'⟩ : ∃ r, rm[i]? = some r := ⟨_, List.getElem?_eq_getElem hi⟩
      have er : okRm rm i = r.ok := by
        unfold okRm
        rw [List.getD_eq_getElem?_getD, hr']
        rfl
      have hA1 := hA.mono (TS.of s1)
      have hat : atI (rm.map Rm.v) (0 + (i : Int)) = some r.v := at_of (j := i) (by omega) (by rw [List.getElem?_map, hr']; rfl)
      have yes : r.ok = false → selV (fun j => !okRm rm j) (i + 1) = selV (fun j => !okRm rm j) i ++ [.int (i : Nat)] := fun h => selV_yes (by rw [er, h]; rfl)
      have no : r.ok = true → selV (fun j => !okRm rm j) (i + 1) = selV (fun j => !okRm rm j) i := fun h => selV_no (by rw [er, h]; rfl)
      refine ⟨rfl, ?_⟩
      have app : r.ok = false → Same H (upd H' L1 (.lst (selV (fun j => !okRm rm j) i ++ [.int (0 + (i : Int))]))) ∧ (upd H' L1 (.lst (selV (fun j => !okRm rm j) i ++ [.int (0 + (i : Int))]))) L1 = some (.lst (selV (fun j => !okRm rm j) (i + 1))) := fun h =>
        ⟨Same.put s1 hL1, by rw [upd_same, yes h, Int.zero_add]⟩
      have sm1 : (selV (fun j => !okRm rm j) i).length < sizeLine := selV_small (by omega)
      cases r with
      | word z =>
        refine ⟨_, rfl, _, rfl, _, _, _, _, rfl, rfl, SqT.of hA1, hat, _, _, _, _, true, rfl, .ty _, .base (.str z), kit_ty (by decide +kernel), true, rfl, ?_⟩
        refine iteT ?_
        exact ⟨_, rfl, _, e1, sm1, app rfl⟩
      | num n =>
        refine ⟨_, rfl, _, rfl, _, _, _, _, rfl, rfl, SqT.of hA1, hat, _, _, _, _, false, rfl, .ty _, .base (.int n), kit_ty (by decide +kernel), false, rfl, iteF ?_⟩
        refine ⟨_, rfl, _, rfl, _, _, _, _, rfl, rfl, SqT.of hA1, hat, 0, n, rfl, rfl, _, rfl, ite2 (fun h1 => ?_) (fun h1 => ?_)⟩
        · refine ⟨n, 4, rfl, rfl, _, rfl, ite2 (fun h2 => ?_) (fun h2 => ?_)⟩
          · exact ⟨_, rfl, _, e1, sm1, app (by unfold Rm.ok; simp at h2; simp; omega)⟩
          · exact ⟨s1, by rw [no (by simp at h1 h2; unfold Rm.ok; simp; omega)]; exact e1⟩
        · refine ⟨_, rfl, ite2 (fun h2 => ?_) (fun h2 => ?_)⟩
          · exact ⟨_, rfl, _, e1, sm1, app (by unfold Rm.ok; simp at h1; simp; omega)⟩
          · exact absurd rfl h2
    · rintro H1 ⟨s1, e1⟩
      have e1 : H1 L1 = some (.lst (((sel (fun j => !okRm rm j) rm.length).map fun j => ((j : Nat) : Int)).map V.int)) := by
        rw [← selV_ints]
        simpa using e1
      have fin : ∀ (c : Ec) (w : PyData), out rm G x p = .bad c w → ∀ H' L M, Same H H' → H' L = some (.lst [.str "refused", .ref M, .str w.shown]) → H' M = some (.lst [.str "ValueError", .str c.name]) → Q (.ref L) H' := fun c w e H' L M s' eL eM =>
        k H' L s' (by rw [e]; exact ⟨M, eL, eM⟩)
      refine ⟨_, rfl, Nat.zero_le _, fun Z1 hZ1 => ?_⟩
      have sZ1 : Same H1 (upd H1 Z1 (.lst [])) := Same.new hZ1
      refine ne_nil (K := K) (sZ1 _ _ e1) upd_same ?_
      have s2 : Same H (upd H1 Z1 (.lst [])) := s1.trans sZ1
      have e2 := sZ1 _ _ e1
      generalize (upd H1 Z1 (.lst [])) = H2 at s2 e2 ⊢
      rcases sel_ok (okRm rm) rm.length with ⟨hs, hnone⟩ | ⟨j, r, hs, hj⟩
      · rw [hs]
        refine ⟨_, rfl, iteF ?_⟩
        have hA2 : H2 a = some (.tup ((nums rm).map V.int)) := by
          rw [← nums_v (fst_is_none hnone)]
          exact s2 _ _ hA
        have hnl : (nums rm).length = rm.length := by unfold nums; rw [List.length_map]
        have hx2 := s2 _ _ hx
        refine ⟨_, rfl, _, G.length, rfl, .inr ⟨_, SqT.of hx2, hlen.symm⟩, (G.length : Int), rfl, by omega, by omega, fun L2 hL2 => ?_⟩
        refine lc_range (lo := 0) (n := ((G.length : Nat) : Int).toNat) (fun i H' => Same H2 H' ∧ H' L2 = some (.lst (selV (fun j => !okAt rm G j) i))) ⟨Same.new hL2, upd_same⟩ ?_ ?_
        · rintro i H' hi ⟨s3, e3⟩
          have hi : i < G.length := by simpa using hi
          obtain ⟨u, q, hu, hq, huq⟩ := fo_get (K := K) rp (show (0 : Int) ≤ (0 + (i : Int)) by omega) (show (0 + (i : Int)) < G.length by omega)
          have eq : G.getD i .floor = q := by
            have hq : G[i]? = some q := by
              rw [show (0 + (i : Int)).toNat = i by omega] at hq
              exact hq
            rw [List.getD_eq_getElem?_getD, hq]
            rfl
          have s23 := s2.trans s3
          refine ⟨rfl, ?_⟩
          refine ⟨_, rfl, _, rfl, _, rfl, _, rfl, _, _, _, u, rfl, rfl, SqT.of (s23 _ _ hx), hu, a, (i : Nat), u, nums rm, q, ?_, s3 _ _ hA2, huq.mono (TS.of s23), _, rfl, ite2 (fun h1 => ?_) (fun h1 => ?_)⟩
          · rw [Int.zero_add]
            rfl
          · have h1 : okAt rm G i = false := by
              unfold okAt
              rw [eq]
              simpa using h1
            refine ⟨_, rfl, _, e3, selV_small (by omega), Same.put s3 hL2, ?_⟩
            rw [upd_same, selV_yes (by rw [h1]; rfl), Int.zero_add]
          · have h1 : okAt rm G i = true := by
              unfold okAt
              rw [eq]
              simpa using h1
            refine ⟨s3, ?_⟩
            rw [selV_no (by rw [h1]; rfl)]
            exact e3
        · rintro H3 ⟨s3, e3⟩
          have e3 : H3 L2 = some (.lst (((sel (fun j => !okAt rm G j) G.length).map fun j => ((j : Nat) : Int)).map V.int)) := by
            rw [← selV_ints]
            simpa using e3
          refine ⟨_, rfl, Nat.zero_le _, fun Z2 hZ2 => ?_⟩
          have sZ2 : Same H3 (upd H3 Z2 (.lst [])) := Same.new hZ2
          refine ne_nil (K := K) (sZ2 _ _ e3) upd_same ?_
          have s24 : Same H2 (upd H3 Z2 (.lst [])) := s3.trans sZ2
          have s4 : Same H (upd H3 Z2 (.lst [])) := s2.trans s24
          have e4 := sZ2 _ _ e3
          generalize (upd H3 Z2 (.lst [])) = H4 at s4 s24 e4 ⊢
          rcases sel_ok (okAt rm G) G.length with ⟨hs2, hn2⟩ | ⟨j, r, hs2, hj⟩
          · rw [hs2]
            refine ⟨_, rfl, iteF ?_⟩
            have hv : VF G := vf_of hl (fst_is_none hn2)
            refine ⟨_, rfl, b, G, rfl, hF.mono (TS.of s4), hv, by omega, fun L3 H5 hL3 s5 e5 => ?_⟩
            have e5 : H5 L3 = some (.lst (((sel (inSelf G) G.length).map fun j => ((j : Nat) : Int)).map V.int)) := by
              rw [← selV_ints]
              exact e5
            refine ⟨_, rfl, Nat.zero_le _, fun Z3 hZ3 => ?_⟩
            have sZ3 : Same H5 (upd H5 Z3 (.lst [])) := Same.new hZ3
            refine ne_nil (K := K) (sZ3 _ _ e5) upd_same ?_
            have s6 : Same H (upd H5 Z3 (.lst [])) := s4.trans (s5.trans sZ3)
            have s26 : Same H2 (upd H5 Z3 (.lst [])) := s24.trans (s5.trans sZ3)
            have e6 := sZ3 _ _ e5
            generalize (upd H5 Z3 (.lst [])) = H6 at s6 s26 e6 ⊢
            rcases sel_fst (inSelf G) G.length with ⟨hs3, hn3⟩ | ⟨j, r, hs3, hj⟩
            · rw [hs3]
              refine ⟨_, rfl, iteF ?_⟩
              have nr : NoRing G := fun j hj => by simpa using fst_is_none hn3 j hj
              have eo : out rm G x p = rest rm G x p := by
                unfold out fBad
                rw [hnone]
                show (match (match fst (okAt rm G) G.length with | some j => some (Ec.forest, j) | none => match fst (fun j => !inSelf G j) G.length with | some j => some (Ec.ring, j) | none => none) with | some (c, j) => _ | none => _) = _
                rw [hn2, hn3]
              have hA6 := s26 _ _ hA2
              have hp6 := hp.mono (TS.of s6)
              have thing : ¬ (0 ≤ x ∧ x < rm.length) → ∀ H' L M, Same H6 H' → H' L = some (.lst [.str "refused", .ref M, .str (PyData.int x).shown]) → H' M = some (.lst [.str "ValueError", .str "BadThing"]) → Q (.ref L) H' := fun h H' L M s' eL eM =>
                fin .thing (.int x) (by rw [eo]; unfold rest; rw [if_neg h]) H' L M (s6.trans s') eL eM
              refine ⟨_, rfl, 0, x, rfl, rfl, _, rfl, ite2 (fun h1 => ?_) (fun h1 => ?_)⟩
              · have h1 : 0 ≤ x := by simpa using h1
                refine ⟨_, rfl, _, rm.length, rfl, .inr ⟨_, SqT.of hA6, by rw [List.length_map, hnl]⟩, x, _, rfl, rfl, _, rfl, ite2 (fun h2 => ?_) (fun h2 => ?_)⟩
                · have h2 : ¬ x < rm.length := by simpa using h2
                  exact ⟨_, rfl, "BadThing", .int x, .int x, 40, rfl, fun _ _ => .int _, sm_small x0 x1, by decide, fun H' L M s' eL eM => thing (fun z => h2 z.2) H' L M s' eL eM⟩
                · have h2 : x < rm.length := by simpa using h2
                  have hin : 0 ≤ x ∧ x < rm.length := ⟨h1, h2⟩
                  refine ⟨_, rfl, _, rfl, _, rfl, a, x, v, nums rm, p, rfl, hA6, hp6, _, rfl, ite2 (fun h3 => ?_) (fun h3 => ?_)⟩
                  · have h3 : ¬ okPl (nums rm) x p = true := by simpa using h3
                    refine ⟨_, rfl, "BadPlace", v, p.dat, 129, rfl, fun H' s' => (hp6.mono (TS.of s')).dp, hps.mono (Nat.le_refl _) (by decide), by decide, fun H' L M s' eL eM => ?_⟩
                    refine fin .place p.dat ?_ H' L M (s6.trans s') eL eM
                    rw [eo]
                    unfold rest
                    rw [if_pos hin, if_neg h3]
                  · have h3 : okPl (nums rm) x p = true := by simpa using h3
                    refine ⟨_, rfl, rfl, ?_⟩
                    cases p with
                    | word z => cases h3
                    | row is => cases h3
                    | named z r => cases h3
                    | floor =>
                      cases hp
                      have eo' : out rm G x .floor = .told (G.set x.toNat .floor) := by
                        rw [eo]
                        unfold rest
                        rw [if_pos hin, if_pos h3]
                      refine ⟨_, rfl, iteF (iteF ?_)⟩
                      have hp : PlV H .non .floor := .floor
                      have sm24 : (G.set x.toNat .floor).length ≤ 24 := by rw [List.length_set]; omega
                      have smT := told_sm (F := G.set x.toNat .floor) (fun q hq => by
                        rcases mem_set hq with z | z
                        · exact hFs q z
                        · rw [z]; exact hps) sm24
                      refine ⟨_, rfl, _, G.length, rfl, .inr ⟨_, SqT.of (s6 _ _ hx), hlen.symm⟩, (G.length : Int), rfl, by omega, by omega, fun L4 hL4 => ?_⟩
                      refine lc_range (lo := 0) (n := ((G.length : Nat) : Int).toNat) (fun i H' => Same H6 H' ∧ H' L4 = some (.lst (xs.take i))) ⟨Same.new hL4, upd_same⟩ ?_ ?_
                      · rintro i H' hi ⟨s8, e8⟩
                        have hi : i < G.length := by simpa using hi
                        obtain ⟨u, hu⟩ : ∃ u, xs[i]? = some u := ⟨_, List.getElem?_eq_getElem (by omega)⟩
                        refine ⟨rfl, ?_⟩
                        refine ⟨_, rfl, _, rfl, b, xs, _, u, rfl, rfl, SqT.of (s8 _ _ (s6 _ _ hx)), at_of (j := i) (by omega) hu, _, e8, Nat.lt_of_le_of_lt (show (xs.take i).length ≤ 24 by rw [List.length_take]; omega) (by rw [sizeLine_eq]; decide), Same.put s8 hL4, ?_⟩
                        rw [upd_same, take_more hu]
                      · rintro H8 ⟨s8, e8⟩
                        have e8 : H8 L4 = some (.lst xs) := by
                          rw [e8, List.take_of_length_le (by rw [hlen]; simp)]
                        refine ⟨_, rfl, _, rfl, _, rfl, L4, xs, x, x.toNat, rfl, rfl, e8, ?_, ?_⟩
                        · have z := ixN_ok (n := xs.length) (j := x.toNat) (by omega)
                          rw [show ((x.toNat : Nat) : Int) = x by omega] at z
                          exact z
                        · have s9 : Same H (upd H8 L4 (.lst (xs.set x.toNat .non))) := s6.trans (Same.put s8 hL4)
                          refine ⟨_, rfl, L4, _, rfl, .inl ⟨SqL.of upd_same, fun t ht => ?_⟩⟩
                          have s10 := s9.trans (Same.new (o := .tup (xs.set x.toNat .non)) ht)
                          have fo : FoAt (upd (upd H8 L4 (.lst (xs.set x.toNat .non))) t (.tup (xs.set x.toNat .non))) t (G.set x.toNat .floor) := ⟨_, upd_same, paired_set (hp.mono (TS.of s10)) _ (_root_.L2.Paired.mapP rp fun _ _ q => q.mono (TS.of s10))⟩
                          refine ⟨_, _, rfl, fo.dp, smT.sh, smT.nd, Nat.le_trans smT.len (by rw [sizeLine_eq]; decide), smT.dep, sz_small (by show 2 ≤ 1000; decide), fun L hL => ?_⟩
                          exact k _ L (s10.trans (Same.new hL)) (by rw [eo']; exact upd_same)
                    | «at» h r =>
                      cases hp with
                      | @«at» c _ _ ec =>
                        have ec6 := s6 _ _ ec
                        have hne : decide (V.ref c = V.non) = false := decide_eq_false (fun z => by cases z)
                        rw [hne]
                        refine ⟨_, rfl, iteT ?_⟩
                        have h3' := h3
                        unfold okPl at h3'
                        simp at h3'
                        obtain ⟨⟨⟨⟨y1, y2⟩, y3⟩, y4⟩, y5⟩ := h3'
                        refine ⟨_, rfl, _, rfl, _, rfl, _, _, 0, _, rfl, rfl, SqT.of ec6, at_of (j := 0) rfl rfl, b, h, G, rfl, hF.mono (TS.of s6), hv, y1, by omega, by omega, fun L5 ys H7 hL5 s7' e7 pr => ⟨L5, rfl, ⟨ys, SqL.of e7⟩, fun D5 hD5 => ?_⟩⟩
                        refine lc_heads (K := K) (j := 8) e7 pr (show 8 < 9 by decide) (Nat.le_trans (anc_le _ _) (by omega)) hD5 fun H8 s8' e8' => ?_
                        refine ⟨D5, _, rfl, .inl (SqL.of e8'), rfl, all_flat _, _, rfl, ?_⟩
                        show if inV (.int x) ((anc G G.length h).map V.int) = true then _ else _
                        rw [inV_ints]
                        have s7 : Same H H8 := s6.trans (s7'.trans s8')
                        refine ite2 (fun h4 => ?_) (fun h4 => ?_)
                        · have h4 : x ∈ anc G G.length h := by simpa using h4
                          refine ⟨_, rfl, _, _, 0, _, rfl, rfl, SqT.of (s7 _ _ ec), at_of (j := 0) rfl rfl, "Within", .int h, .int h, 40, rfl, fun _ _ => .int _, sm_small (by omega) (by omega), by decide, fun H' L M s' eL eM => ?_⟩
                          refine fin .within (.int h) ?_ H' L M (s7.trans s') eL eM
                          rw [eo]
                          unfold rest
                          rw [if_pos hin, if_pos h3]
                          show (if x ∈ anc G G.length h then Out.bad .within (.int h) else _) = _
                          rw [if_pos h4]
                        · have h4 : x ∉ anc G G.length h := by simpa using h4
                          have eo' : out rm G x (.at h r) = .told (G.set x.toNat (.at h r)) := by
                            rw [eo]
                            unfold rest
                            rw [if_pos hin, if_pos h3]
                            show (if x ∈ anc G G.length h then Out.bad .within (.int h) else _) = _
                            rw [if_neg h4]
                          have hp : PlV H (.ref c) (.at h r) := .at ec
                          have sm24 : (G.set x.toNat (.at h r)).length ≤ 24 := by rw [List.length_set]; omega
                          have smT := told_sm (F := G.set x.toNat (.at h r)) (fun q hq => by
                            rcases mem_set hq with z | z
                            · exact hFs q z
                            · rw [z]; exact hps) sm24
                          refine ⟨_, rfl, _, G.length, rfl, .inr ⟨_, SqT.of (s7 _ _ hx), hlen.symm⟩, (G.length : Int), rfl, by omega, by omega, fun L4 hL4 => ?_⟩
                          refine lc_range (lo := 0) (n := ((G.length : Nat) : Int).toNat) (fun i H' => Same H8 H' ∧ H' L4 = some (.lst (xs.take i))) ⟨Same.new hL4, upd_same⟩ ?_ ?_
                          · rintro i H' hi ⟨s8, e8⟩
                            have hi : i < G.length := by simpa using hi
                            obtain ⟨u, hu⟩ : ∃ u, xs[i]? = some u := ⟨_, List.getElem?_eq_getElem (by omega)⟩
                            refine ⟨rfl, ?_⟩
                            refine ⟨_, rfl, _, rfl, b, xs, _, u, rfl, rfl, SqT.of (s8 _ _ (s7 _ _ hx)), at_of (j := i) (by omega) hu, _, e8, Nat.lt_of_le_of_lt (show (xs.take i).length ≤ 24 by rw [List.length_take]; omega) (by rw [sizeLine_eq]; decide), Same.put s8 hL4, ?_⟩
                            rw [upd_same, take_more hu]
                          · rintro H9 ⟨s8, e8⟩
                            have e8 : H9 L4 = some (.lst xs) := by
                              rw [e8, List.take_of_length_le (by rw [hlen]; simp)]
                            refine ⟨_, rfl, _, rfl, _, rfl, L4, xs, x, x.toNat, rfl, rfl, e8, ?_, ?_⟩
                            · have z := ixN_ok (n := xs.length) (j := x.toNat) (by omega)
                              rw [show ((x.toNat : Nat) : Int) = x by omega] at z
                              exact z
                            · have s9 : Same H (upd H9 L4 (.lst (xs.set x.toNat (.ref c)))) := s7.trans (Same.put s8 hL4)
                              refine ⟨_, rfl, L4, _, rfl, .inl ⟨SqL.of upd_same, fun t ht => ?_⟩⟩
                              have s10 := s9.trans (Same.new (o := .tup (xs.set x.toNat (.ref c))) ht)
                              have fo : FoAt (upd (upd H9 L4 (.lst (xs.set x.toNat (.ref c)))) t (.tup (xs.set x.toNat (.ref c)))) t (G.set x.toNat (.at h r)) := ⟨_, upd_same, paired_set (hp.mono (TS.of s10)) _ (_root_.L2.Paired.mapP rp fun _ _ q => q.mono (TS.of s10))⟩
                              refine ⟨_, _, rfl, fo.dp, smT.sh, smT.nd, Nat.le_trans smT.len (by rw [sizeLine_eq]; decide), smT.dep, sz_small (by show 2 ≤ 1000; decide), fun L hL => ?_⟩
                              exact k _ L (s10.trans (Same.new hL)) (by rw [eo']; exact upd_same)
              · have h1 : ¬ 0 ≤ x := by simpa using h1
                exact ⟨_, rfl, iteT ⟨_, rfl, "BadThing", .int x, .int x, 40, rfl, fun _ _ => .int _, sm_small x0 x1, by decide, fun H' L M s' eL eM => thing (fun z => h1 z.1) H' L M s' eL eM⟩⟩
            · rw [hs3] at e6 ⊢
              refine ⟨_, rfl, iteT ?_⟩
              have hj24 : j < G.length := (fst_is_some hj).1
              refine ⟨_, rfl, L3, _, 0, .int (j : Nat), rfl, rfl, SqL.of e6, at_of (j := 0) rfl rfl, "Ring", .int (j : Nat), .int (j : Nat), 40, rfl, fun _ _ => .int _, sm_small (by omega) (by omega), by decide, fun H' L M s' eL eM => ?_⟩
              refine fin .ring (.int (j : Nat)) ?_ H' L M (s6.trans s') eL eM
              unfold out fBad
              rw [hnone]
              show (match (match fst (okAt rm G) G.length with | some j => some (Ec.forest, j) | none => match fst (fun j => !inSelf G j) G.length with | some j => some (Ec.ring, j) | none => none) with | some (c, j) => _ | none => _) = _
              rw [hn2, hj]
          · rw [hs2] at e4 ⊢
            refine ⟨_, rfl, iteT ?_⟩
            have hj24 : j < G.length := (fst_is_some hj).1
            refine ⟨_, rfl, L2, _, 0, .int (j : Nat), rfl, rfl, SqL.of e4, at_of (j := 0) rfl rfl, "BadForest", .int (j : Nat), .int (j : Nat), 40, rfl, fun _ _ => .int _, sm_small (by omega) (by omega), by decide, fun H' L M s' eL eM => ?_⟩
            refine fin .forest (.int (j : Nat)) ?_ H' L M (s4.trans s') eL eM
            unfold out fBad
            rw [hnone]
            show (match (match fst (okAt rm G) G.length with | some j => some (Ec.forest, j) | none => _) with | some (c, j) => _ | none => _) = _
            rw [hj]
      · rw [hs] at e2 ⊢
        refine ⟨_, rfl, iteT ?_⟩
        have hj24 : j < rm.length := (fst_is_some hj).1
        refine ⟨_, rfl, L1, _, 0, .int (j : Nat), rfl, rfl, SqL.of e2, at_of (j := 0) rfl rfl, "BadRooms", .int (j : Nat), .int (j : Nat), 40, rfl, fun _ _ => .int _, sm_small (by omega) (by omega), by decide, fun H' L M s' eL eM => ?_⟩
        refine fin .rooms (.int (j : Nat)) ?_ H' L M (s2.trans s') eL eM
        unfold out fBad
        rw [hj]
end
end Ns
/-! the law's defs: place -/
namespace Ns
open PySem PySem.Spec PyProof.Rows L2
theorem sm_at {h r : Int} (h1 : -100 ≤ h) (h2 : h ≤ 100) (r1 : -100 ≤ r) (r2 : r ≤ 100) : SmPl (.at h r) := by
  have := sm_tup (n := 40) (k := 0) (m := 2) (ds := [.int h, .int r]) (fun d hd => by
    rcases List.mem_cons.mp hd with e | hd
    · rw [e]; exact sm_int h1 h2
    · rcases List.mem_cons.mp hd with e | hd
      · rw [e]; exact sm_int r1 r2
      · exact absurd hd (by simp)) (Nat.le_refl _)
  exact this.mono (by decide) (Nat.le_refl _)
theorem sm_row {is : List Int} (h : ∀ i, i ∈ is → -100 ≤ i ∧ i ≤ 100) (hl : is.length ≤ 3) : SmPl (.row is) := by
  have := sm_tup (n := 40) (k := 0) (m := 3) (ds := is.map PyData.int) (fun d hd => by
    obtain ⟨i, hi, rfl⟩ := List.mem_map.mp hd
    exact sm_int (h i hi).1 (h i hi).2) (by rw [List.length_map]; exact hl)
  exact this.mono (by decide) (Nat.le_refl _)
theorem sm_named : SmPl (.named "y" 0) := by
  have := sm_tup (n := 40) (k := 0) (m := 2) (ds := [.str "y", .int 0]) (fun d hd => by
    rcases List.mem_cons.mp hd with e | hd
    · rw [e]; exact sm_words.2.1
    · rcases List.mem_cons.mp hd with e | hd
      · rw [e]; exact sm_int (by decide) (by decide)
      · exact absurd hd (by simp)) (Nat.le_refl _)
  exact this.mono (by decide) (Nat.le_refl _)
theorem sm_floorW : SmPl (.word "floor") := sm_words.1.mono (by decide) (by decide)
theorem sm_floor : SmPl .floor := sm_none.mono (by decide) (by decide)
theorem Gd.sm {n : Nat} {F : List Pl} (g : Gd n F) (hn : n ≤ 24) : ∀ q, q ∈ F → SmPl q := fun q hq => by
  obtain ⟨i, hi⟩ := List.getElem?_of_mem hq
  rcases g.2 i q hi with e | ⟨h, r, e, a, b, c, d⟩
  · rw [e]; exact sm_floor
  · rw [e]; exact sm_at (by omega) (by omega) (by omega) (by omega)
section
variable {P : Program} {w : World} {K : PySem.W.Frag} {mg : Str → Option Value} {base : Heap} {ad : Ec → Addr} {D fI cda cc : Addr}
def spPlaceD : Sp := fun vs H Q _ => ∃ (p R Fo : Addr) (x : Int) (rs : List Int) (F : List Pl), vs = [.ref p, .ref R, .ref Fo, .int x] ∧ Src H p ∧ H R = some (.tup (rs.map V.int)) ∧ 1 ≤ rs.length ∧ rs.length ≤ 24 ∧ (∀ r, r ∈ rs → 0 ≤ r ∧ r ≤ 4) ∧ FoAt H Fo F ∧ Gd rs.length F ∧ -1 ≤ x ∧ x ≤ 24 ∧
  ∀ H' v pl, PlV H' v pl → SmPl pl → Src H' p → But p H H' → Q v H'
theorem sc39 : FnScope ["_law_source", "_law_rooms", "_law_forest", "_law_x", "_law_y", "_law_room", "_law_way", "_law_wrong"] ["_law_source", "_law_rooms", "_law_forest", "_law_x"] (defScope (top 39)) := ⟨rfl, rfl, rfl, by decide +kernel, rfl, by decide +kernel, by decide +kernel⟩
theorem rs_at {rs : List Int} {y : Int} (h0 : 0 ≤ y) (h1 : y < rs.length) : ∃ r, atI (rs.map V.int) y = some (.int r) ∧ r ∈ rs := by
  have hl : y.toNat < rs.length := by omega
  exact ⟨rs[y.toNat], at_of (j := y.toNat) (by omega) (by rw [List.getElem?_map, List.getElem?_eq_getElem hl]; rfl), List.getElem_mem hl⟩
theorem has_placeD (T : Tx P K mg ad D fI cda cc) (d : Df K mg "_law_place" 39) (hT : Has P w K mg base CX0 1 "_law_take" ["_law_source", "_law_top"] spTake) (hO : Has P w K mg base CX0 2 "_law_one" ["_law_source", "_law_things"] spOne) :
    Has P w K mg base CX0 3 "_law_place" ["_law_source", "_law_rooms", "_law_forest", "_law_x"] spPlaceD := by
  obtain ⟨f, fd, F, hm⟩ := d
  refine ⟨f, fd, hm, F.kp, F.binds (fun _ _ _ _ _ _ us hl => match us, hl with | [_, _, _, _], _ => rfl), ?_⟩
  refine F.ok sc39 (fun vs H Q E h => ?_) (fun cdv A outer s H vs Q E hr h => ?_)
  · obtain ⟨p, R, Fo, x, rs, F, rfl, _⟩ := h
    rfl
  · obtain ⟨p, R, Fo, x, rs, G, rfl, hs, hR, hn, hl, hrs, hF, gd, x0, x1, k⟩ := h
    have hr1 : Room 1 _ := hr.mono (by decide)
    refine ⟨_, pss_cons (ps_set (i := 4) sc39.nd rfl (Or.inl rfl) (pe_has hT hr1 pass0 (pa_cons (pv 0) (pa_cons (pe_callB call_len (by rfl) T.len boot_len (pa_cons (pv 1) pa_nil)) pa_nil))))
      (pss_cons (ps_set (i := 5) sc39.nd rfl (Or.inl rfl) (pe_ifExp (pt_cmpR op_eq (pe_ix (r := rIxT K) ix_tup (pv 1) (pv 4) (fun _ _ => rfl)) pe_int (nomark _)) pe_int (pe_has hT hr1 pass0 (pa_cons (pv 0) (pa_cons (pe_ix (r := rIxT K) ix_tup (pv 1) (pv 4) (fun _ _ => rfl)) pa_nil)))))
      (pss_cons (ps_set (i := 6) sc39.nd rfl (Or.inl rfl) (pe_has hT hr1 pass0 (pa_cons (pv 0) (pa_cons pe_int pa_nil))))
      (pss_cons (ps_if (pt_cmpR op_lt (pv 6) pe_int (nomark _))
        (pss_cons (ps_set (i := 7) sc39.nd rfl (Or.inl rfl) (pe_lst (pa_cons (pe_tup (pa_cons (pv 3) (pa_cons pe_int pa_nil))) (pa_cons (pe_tup (pa_cons (pv 4) (pa_cons (pe_ix (r := rIxT K) ix_tup (pv 1) (pv 4) (fun _ _ => rfl)) pa_nil)))
          (pa_cons (pe_tup (pa_cons (pv 4) (pa_cons (pe_op op_sub pe_int pe_int) pa_nil))) (pa_cons (pe_tup (pa_cons (pe_callB call_len (by rfl) T.len boot_len (pa_cons (pv 1) pa_nil)) (pa_cons pe_int pa_nil))) (pa_cons (pe_tup (pa_cons (pe_op op_sub pe_int pe_int) (pa_cons pe_int pa_nil)))
          (pa_cons (pe_tup (pa_cons (pv 4) pa_nil)) (pa_cons (pe_tup (pa_cons (pv 4) (pa_cons (pv 5) (pa_cons pe_int pa_nil)))) (pa_cons pe_str (pa_cons (pe_tup (pa_cons pe_str (pa_cons pe_int pa_nil))) pa_nil)))))))))))
        (pss_one (ps_ret (pe_has hO hr pass0 (pa_cons (pv 0) (pa_cons (pv 7) pa_nil)))))) pss_nil)
      (pss_cons (ps_if (PW.pt (pw_and (pt_cmpR op_eq (pv 6) pe_int (nomark _)) (pw_and1 (pt_chain op_le op_lt pe_int (pv 3) (pe_callB call_len (by rfl) T.len boot_len (pa_cons (pv 1) pa_nil)))))) (pss_one (ps_ret (pe_ix (r := rIxT K) ix_tup (pv 2) (pv 3) (fun _ _ => rfl)))) pss_nil)
      (pss_one (ps_ret (pe_ifExp (pt_cmpR op_eq (pv 6) pe_int (nomark _)) pe_non (pe_tup (pa_cons (pv 4) (pa_cons (pv 5) pa_nil)))))))))), ?_⟩
    have hlenR : ∀ H', H' R = some (.tup (rs.map V.int)) → LenV K (.ref R) H' rs.length := fun H' h => .inr ⟨_, SqT.of h, by rw [List.length_map]⟩
    have nR : R ≠ p := hs.ne hR
    refine ⟨_, rfl, _, rfl, _, rs.length, rfl, hlenR _ hR, p, _, rfl, hs, by omega, by omega, fun y H1 y0 y1 hs1 b1 => ?_⟩
    have hR1 := b1 _ _ nR hR
    obtain ⟨r, hat, hrm⟩ := rs_at y0 y1
    obtain ⟨r0, r4⟩ := hrs r hrm
    refine ⟨_, rfl, _, rfl, _, _, _, _, rfl, rfl, SqT.of hR1, hat, rfl, _, rfl, ite2 (fun hz => ?_) (fun hz => ?_)⟩
    · have hs2 := hs1
      have b2 := b1
      refine ⟨_, rfl, p, 10, rfl, hs2, by decide, by decide, fun way H3 w0 w1 hs3 b3 => ?_⟩
      have b03 : But p H H3 := b2.trans b3
      have hR3 := b03 _ _ nR hR
      refine ⟨_, rfl, _, _, rfl, rfl, _, rfl, ite2 (fun h1 => ?_) (fun h1 => ?_)⟩
      · refine ⟨_, rfl, (sz_small (by show 2 ≤ 1000; decide)), fun t1 g1 => ?_⟩
        have a1 : Same H3 (upd H3 t1 (.tup [.int x, .int 0])) := Same.new g1
        have e1 : (upd H3 t1 (.tup [.int x, .int 0])) t1 = some (.tup [.int x, .int 0]) := upd_same
        generalize (upd H3 t1 (.tup [.int x, .int 0])) = A1 at a1 e1 ⊢
        have c1 : Same H3 A1 := a1
        refine ⟨_, rfl, _, rfl, _, rfl, _, _, _, _, rfl, rfl, SqT.of (c1 _ _ hR3), hat, (sz_small (by show 2 ≤ 1000; decide)), fun t2 g2 => ?_⟩
        have a2 : Same A1 (upd A1 t2 (.tup [.int y, .int r])) := Same.new g2
        have e2 : (upd A1 t2 (.tup [.int y, .int r])) t2 = some (.tup [.int y, .int r]) := upd_same
        generalize (upd A1 t2 (.tup [.int y, .int r])) = A2 at a2 e2 ⊢
        have c2 : Same H3 A2 := c1.trans a2
        refine ⟨_, rfl, _, _, rfl, rfl, (sz_small (by show 2 ≤ 1000; decide)), fun t3 g3 => ?_⟩
        have a3 : Same A2 (upd A2 t3 (.tup [.int y, .int (0 - 1)])) := Same.new g3
        have e3 : (upd A2 t3 (.tup [.int y, .int (0 - 1)])) t3 = some (.tup [.int y, .int (0 - 1)]) := upd_same
        generalize (upd A2 t3 (.tup [.int y, .int (0 - 1)])) = A3 at a3 e3 ⊢
        have c3 : Same H3 A3 := c2.trans a3
        refine ⟨_, rfl, _, rs.length, rfl, hlenR _ (c3 _ _ hR3), (sz_small (by show 2 ≤ 1000; decide)), fun t4 g4 => ?_⟩
        have a4 : Same A3 (upd A3 t4 (.tup [.int (rs.length : Nat), .int 0])) := Same.new g4
        have e4 : (upd A3 t4 (.tup [.int (rs.length : Nat), .int 0])) t4 = some (.tup [.int (rs.length : Nat), .int 0]) := upd_same
        generalize (upd A3 t4 (.tup [.int (rs.length : Nat), .int 0])) = A4 at a4 e4 ⊢
        have c4 : Same H3 A4 := c3.trans a4
        refine ⟨_, _, rfl, rfl, (sz_small (by show 2 ≤ 1000; decide)), fun t5 g5 => ?_⟩
        have a5 : Same A4 (upd A4 t5 (.tup [.int (0 - 1), .int 0])) := Same.new g5
        have e5 : (upd A4 t5 (.tup [.int (0 - 1), .int 0])) t5 = some (.tup [.int (0 - 1), .int 0]) := upd_same
        generalize (upd A4 t5 (.tup [.int (0 - 1), .int 0])) = A5 at a5 e5 ⊢
        have c5 : Same H3 A5 := c4.trans a5
        refine ⟨_, rfl, (sz_small (by show 1 ≤ 1000; decide)), fun t6 g6 => ?_⟩
        have a6 : Same A5 (upd A5 t6 (.tup [.int y])) := Same.new g6
        have e6 : (upd A5 t6 (.tup [.int y])) t6 = some (.tup [.int y]) := upd_same
        generalize (upd A5 t6 (.tup [.int y])) = A6 at a6 e6 ⊢
        have c6 : Same H3 A6 := c5.trans a6
        refine ⟨_, rfl, _, rfl, (sz_small (by show 3 ≤ 1000; decide)), fun t7 g7 => ?_⟩
        have a7 : Same A6 (upd A6 t7 (.tup [.int y, .int 0, .int 0])) := Same.new g7
        have e7 : (upd A6 t7 (.tup [.int y, .int 0, .int 0])) t7 = some (.tup [.int y, .int 0, .int 0]) := upd_same
        generalize (upd A6 t7 (.tup [.int y, .int 0, .int 0])) = A7 at a7 e7 ⊢
        have c7 : Same H3 A7 := c6.trans a7
        refine ⟨(sz_small (by show 2 ≤ 1000; decide)), fun t8 g8 => ?_⟩
        have a8 : Same A7 (upd A7 t8 (.tup [.str "y", .int 0])) := Same.new g8
        have e8 : (upd A7 t8 (.tup [.str "y", .int 0])) t8 = some (.tup [.str "y", .int 0]) := upd_same
        generalize (upd A7 t8 (.tup [.str "y", .int 0])) = A8 at a8 e8 ⊢
        have c8 : Same H3 A8 := c7.trans a8
        have f1 := (a8 _ _ (a7 _ _ (a6 _ _ (a5 _ _ (a4 _ _ (a3 _ _ (a2 _ _ e1)))))))
        have f2 := (a8 _ _ (a7 _ _ (a6 _ _ (a5 _ _ (a4 _ _ (a3 _ _ e2))))))
        have f3 := (a8 _ _ (a7 _ _ (a6 _ _ (a5 _ _ (a4 _ _ e3)))))
        have f4 := (a8 _ _ (a7 _ _ (a6 _ _ (a5 _ _ e4))))
        have f5 := (a8 _ _ (a7 _ _ (a6 _ _ e5)))
        have f6 := (a8 _ _ (a7 _ _ e6))
        have f7 := (a8 _ _ e7)
        have f8 := e8
        have hs8 := hs3.same c8
        refine ⟨sz_small (by show 9 ≤ 1000; decide), fun W hW => ?_⟩
        have sW : Same A8 (upd A8 W (.lst [.ref t1, .ref t2, .ref t3, .ref t4, .ref t5, .ref t6, .ref t7, .str "floor", .ref t8])) := Same.new hW
        refine ⟨_, rfl, _, rfl, p, W, _, rfl, hs8.same sW, upd_same, hs8.nn hW, by show 1 ≤ 9; decide, by show 9 ≤ 1000; decide, fun y' H' hy hs' b' => ?_⟩
        have bT : But p A8 H' := (But.of sW).trans b'
        have bF : But p H H' := b03.trans ((But.of c8).trans bT)
        simp only [List.mem_cons, List.not_mem_nil, or_false] at hy
        rcases hy with rfl | rfl | rfl | rfl | rfl | rfl | rfl | rfl | rfl
        · exact k H' _ (.at x 0) (.at (bT _ _ (hs8.ne f1) f1)) (sm_at (by omega) (by omega) (by decide) (by decide)) hs' bF
        · exact k H' _ (.at y r) (.at (bT _ _ (hs8.ne f2) f2)) (sm_at (by omega) (by omega) (by omega) (by omega)) hs' bF
        · exact k H' _ (.at y (0 - 1)) (.at (bT _ _ (hs8.ne f3) f3)) (sm_at (by omega) (by omega) (by decide) (by decide)) hs' bF
        · exact k H' _ (.at (rs.length : Nat) 0) (.at (bT _ _ (hs8.ne f4) f4)) (sm_at (by omega) (by omega) (by decide) (by decide)) hs' bF
        · exact k H' _ (.at (0 - 1) 0) (.at (bT _ _ (hs8.ne f5) f5)) (sm_at (by decide) (by decide) (by decide) (by decide)) hs' bF
        · exact k H' _ (.row [y]) (.row (bT _ _ (hs8.ne f6) f6) (by show 1 ≠ 2; decide)) (sm_row (fun i hi => by simp only [List.mem_cons, List.not_mem_nil, or_false] at hi; omega) (by show 1 ≤ 3; decide)) hs' bF
        · exact k H' _ (.row [y, 0, 0]) (.row (bT _ _ (hs8.ne f7) f7) (by show 3 ≠ 2; decide)) (sm_row (fun i hi => by simp only [List.mem_cons, List.not_mem_nil, or_false] at hi; omega) (by show 3 ≤ 3; decide)) hs' bF
        · exact k H' _ (.word "floor") (.word _) sm_floorW hs' bF
        · exact k H' _ (.named "y" 0) (.named (bT _ _ (hs8.ne f8) f8)) sm_named hs' bF
      · refine ⟨_, rfl, rfl, _, rfl, ite2 (fun h2 => ?_) (fun h2 => ?_)⟩
        · refine ⟨_, rfl, 0, x, rfl, rfl, _, rfl, ite2 (fun h3 => ?_) (fun h3 => ?_)⟩
          · have h3 : 0 ≤ x := by simpa using h3
            refine ⟨_, rfl, _, rs.length, rfl, hlenR _ hR3, x, _, rfl, rfl, _, rfl, ite2 (fun h4 => ?_) (fun h4 => ?_)⟩
            · have h4 : x < rs.length := by simpa using h4
              have hF3 := hF.mono (b03.ts hs)
              obtain ⟨xs, hx, rp⟩ := hF3
              have g1 := gd.1
              obtain ⟨u, q, hu, hq, huq⟩ := fo_get (K := K) rp h3 (by omega)
              exact ⟨_, rfl, _, rfl, Fo, xs, x, u, rfl, rfl, SqT.of hx, hu, k H3 u q huq (gd.sm hl q (List.mem_of_getElem? hq)) hs3 b03⟩
            · exact ⟨_, rfl, rfl, _, rfl, ite2 (fun _ => k H3 .non .floor .floor sm_floor hs3 b03) (fun _ => ⟨_, rfl, _, rfl, (sz_small (by show 2 ≤ 1000; decide)), fun t ht => k _ (.ref t) (.at y 0) (.at upd_same) (sm_at (by omega) (by omega) (by omega) (by omega)) (hs3.same (Same.new ht)) (b03.trans (But.of (Same.new ht)))⟩)⟩
          · refine ⟨_, rfl, iteF ?_⟩
            exact ⟨_, rfl, rfl, _, rfl, ite2 (fun _ => k H3 .non .floor .floor sm_floor hs3 b03) (fun _ => ⟨_, rfl, _, rfl, (sz_small (by show 2 ≤ 1000; decide)), fun t ht => k _ (.ref t) (.at y 0) (.at upd_same) (sm_at (by omega) (by omega) (by omega) (by omega)) (hs3.same (Same.new ht)) (b03.trans (But.of (Same.new ht)))⟩)⟩
        · refine iteF ?_
          exact ⟨_, rfl, rfl, _, rfl, ite2 (fun _ => k H3 .non .floor .floor sm_floor hs3 b03) (fun _ => ⟨_, rfl, _, rfl, (sz_small (by show 2 ≤ 1000; decide)), fun t ht => k _ (.ref t) (.at y 0) (.at upd_same) (sm_at (by omega) (by omega) (by omega) (by omega)) (hs3.same (Same.new ht)) (b03.trans (But.of (Same.new ht)))⟩)⟩
    · have hz : r ≠ 0 := by
        rw [int_eq] at hz
        simpa using hz
      refine ⟨_, rfl, _, rfl, _, rfl, _, _, _, _, rfl, rfl, SqT.of hR1, hat, p, _, rfl, hs1, by omega, by omega, fun room H2 q0 q1 hs2 b2' => ?_⟩
      have b2 := b1.trans b2'
      refine ⟨_, rfl, p, 10, rfl, hs2, by decide, by decide, fun way H3 w0 w1 hs3 b3 => ?_⟩
      have b03 : But p H H3 := b2.trans b3
      have hR3 := b03 _ _ nR hR
      refine ⟨_, rfl, _, _, rfl, rfl, _, rfl, ite2 (fun h1 => ?_) (fun h1 => ?_)⟩
      · refine ⟨_, rfl, (sz_small (by show 2 ≤ 1000; decide)), fun t1 g1 => ?_⟩
        have a1 : Same H3 (upd H3 t1 (.tup [.int x, .int 0])) := Same.new g1
        have e1 : (upd H3 t1 (.tup [.int x, .int 0])) t1 = some (.tup [.int x, .int 0]) := upd_same
        generalize (upd H3 t1 (.tup [.int x, .int 0])) = A1 at a1 e1 ⊢
        have c1 : Same H3 A1 := a1
        refine ⟨_, rfl, _, rfl, _, rfl, _, _, _, _, rfl, rfl, SqT.of (c1 _ _ hR3), hat, (sz_small (by show 2 ≤ 1000; decide)), fun t2 g2 => ?_⟩
        have a2 : Same A1 (upd A1 t2 (.tup [.int y, .int r])) := Same.new g2
        have e2 : (upd A1 t2 (.tup [.int y, .int r])) t2 = some (.tup [.int y, .int r]) := upd_same
        generalize (upd A1 t2 (.tup [.int y, .int r])) = A2 at a2 e2 ⊢
        have c2 : Same H3 A2 := c1.trans a2
        refine ⟨_, rfl, _, _, rfl, rfl, (sz_small (by show 2 ≤ 1000; decide)), fun t3 g3 => ?_⟩
        have a3 : Same A2 (upd A2 t3 (.tup [.int y, .int (0 - 1)])) := Same.new g3
        have e3 : (upd A2 t3 (.tup [.int y, .int (0 - 1)])) t3 = some (.tup [.int y, .int (0 - 1)]) := upd_same
        generalize (upd A2 t3 (.tup [.int y, .int (0 - 1)])) = A3 at a3 e3 ⊢
        have c3 : Same H3 A3 := c2.trans a3
        refine ⟨_, rfl, _, rs.length, rfl, hlenR _ (c3 _ _ hR3), (sz_small (by show 2 ≤ 1000; decide)), fun t4 g4 => ?_⟩
        have a4 : Same A3 (upd A3 t4 (.tup [.int (rs.length : Nat), .int 0])) := Same.new g4
        have e4 : (upd A3 t4 (.tup [.int (rs.length : Nat), .int 0])) t4 = some (.tup [.int (rs.length : Nat), .int 0]) := upd_same
        generalize (upd A3 t4 (.tup [.int (rs.length : Nat), .int 0])) = A4 at a4 e4 ⊢
        have c4 : Same H3 A4 := c3.trans a4
        refine ⟨_, _, rfl, rfl, (sz_small (by show 2 ≤ 1000; decide)), fun t5 g5 => ?_⟩
        have a5 : Same A4 (upd A4 t5 (.tup [.int (0 - 1), .int 0])) := Same.new g5
        have e5 : (upd A4 t5 (.tup [.int (0 - 1), .int 0])) t5 = some (.tup [.int (0 - 1), .int 0]) := upd_same
        generalize (upd A4 t5 (.tup [.int (0 - 1), .int 0])) = A5 at a5 e5 ⊢
        have c5 : Same H3 A5 := c4.trans a5
        refine ⟨_, rfl, (sz_small (by show 1 ≤ 1000; decide)), fun t6 g6 => ?_⟩
        have a6 : Same A5 (upd A5 t6 (.tup [.int y])) := Same.new g6
        have e6 : (upd A5 t6 (.tup [.int y])) t6 = some (.tup [.int y]) := upd_same
        generalize (upd A5 t6 (.tup [.int y])) = A6 at a6 e6 ⊢
        have c6 : Same H3 A6 := c5.trans a6
        refine ⟨_, rfl, _, rfl, (sz_small (by show 3 ≤ 1000; decide)), fun t7 g7 => ?_⟩
        have a7 : Same A6 (upd A6 t7 (.tup [.int y, .int room, .int 0])) := Same.new g7
        have e7 : (upd A6 t7 (.tup [.int y, .int room, .int 0])) t7 = some (.tup [.int y, .int room, .int 0]) := upd_same
        generalize (upd A6 t7 (.tup [.int y, .int room, .int 0])) = A7 at a7 e7 ⊢
        have c7 : Same H3 A7 := c6.trans a7
        refine ⟨(sz_small (by show 2 ≤ 1000; decide)), fun t8 g8 => ?_⟩
        have a8 : Same A7 (upd A7 t8 (.tup [.str "y", .int 0])) := Same.new g8
        have e8 : (upd A7 t8 (.tup [.str "y", .int 0])) t8 = some (.tup [.str "y", .int 0]) := upd_same
        generalize (upd A7 t8 (.tup [.str "y", .int 0])) = A8 at a8 e8 ⊢
        have c8 : Same H3 A8 := c7.trans a8
        have f1 := (a8 _ _ (a7 _ _ (a6 _ _ (a5 _ _ (a4 _ _ (a3 _ _ (a2 _ _ e1)))))))
        have f2 := (a8 _ _ (a7 _ _ (a6 _ _ (a5 _ _ (a4 _ _ (a3 _ _ e2))))))
        have f3 := (a8 _ _ (a7 _ _ (a6 _ _ (a5 _ _ (a4 _ _ e3)))))
        have f4 := (a8 _ _ (a7 _ _ (a6 _ _ (a5 _ _ e4))))
        have f5 := (a8 _ _ (a7 _ _ (a6 _ _ e5)))
        have f6 := (a8 _ _ (a7 _ _ e6))
        have f7 := (a8 _ _ e7)
        have f8 := e8
        have hs8 := hs3.same c8
        refine ⟨sz_small (by show 9 ≤ 1000; decide), fun W hW => ?_⟩
        have sW : Same A8 (upd A8 W (.lst [.ref t1, .ref t2, .ref t3, .ref t4, .ref t5, .ref t6, .ref t7, .str "floor", .ref t8])) := Same.new hW
        refine ⟨_, rfl, _, rfl, p, W, _, rfl, hs8.same sW, upd_same, hs8.nn hW, by show 1 ≤ 9; decide, by show 9 ≤ 1000; decide, fun y' H' hy hs' b' => ?_⟩
        have bT : But p A8 H' := (But.of sW).trans b'
        have bF : But p H H' := b03.trans ((But.of c8).trans bT)
        simp only [List.mem_cons, List.not_mem_nil, or_false] at hy
        rcases hy with rfl | rfl | rfl | rfl | rfl | rfl | rfl | rfl | rfl
        · exact k H' _ (.at x 0) (.at (bT _ _ (hs8.ne f1) f1)) (sm_at (by omega) (by omega) (by decide) (by decide)) hs' bF
        · exact k H' _ (.at y r) (.at (bT _ _ (hs8.ne f2) f2)) (sm_at (by omega) (by omega) (by omega) (by omega)) hs' bF
        · exact k H' _ (.at y (0 - 1)) (.at (bT _ _ (hs8.ne f3) f3)) (sm_at (by omega) (by omega) (by decide) (by decide)) hs' bF
        · exact k H' _ (.at (rs.length : Nat) 0) (.at (bT _ _ (hs8.ne f4) f4)) (sm_at (by omega) (by omega) (by decide) (by decide)) hs' bF
        · exact k H' _ (.at (0 - 1) 0) (.at (bT _ _ (hs8.ne f5) f5)) (sm_at (by decide) (by decide) (by decide) (by decide)) hs' bF
        · exact k H' _ (.row [y]) (.row (bT _ _ (hs8.ne f6) f6) (by show 1 ≠ 2; decide)) (sm_row (fun i hi => by simp only [List.mem_cons, List.not_mem_nil, or_false] at hi; omega) (by show 1 ≤ 3; decide)) hs' bF
        · exact k H' _ (.row [y, room, 0]) (.row (bT _ _ (hs8.ne f7) f7) (by show 3 ≠ 2; decide)) (sm_row (fun i hi => by simp only [List.mem_cons, List.not_mem_nil, or_false] at hi; omega) (by show 3 ≤ 3; decide)) hs' bF
        · exact k H' _ (.word "floor") (.word _) sm_floorW hs' bF
        · exact k H' _ (.named "y" 0) (.named (bT _ _ (hs8.ne f8) f8)) sm_named hs' bF
      · refine ⟨_, rfl, rfl, _, rfl, ite2 (fun h2 => ?_) (fun h2 => ?_)⟩
        · refine ⟨_, rfl, 0, x, rfl, rfl, _, rfl, ite2 (fun h3 => ?_) (fun h3 => ?_)⟩
          · have h3 : 0 ≤ x := by simpa using h3
            refine ⟨_, rfl, _, rs.length, rfl, hlenR _ hR3, x, _, rfl, rfl, _, rfl, ite2 (fun h4 => ?_) (fun h4 => ?_)⟩
            · have h4 : x < rs.length := by simpa using h4
              have hF3 := hF.mono (b03.ts hs)
              obtain ⟨xs, hx, rp⟩ := hF3
              have g1 := gd.1
              obtain ⟨u, q, hu, hq, huq⟩ := fo_get (K := K) rp h3 (by omega)
              exact ⟨_, rfl, _, rfl, Fo, xs, x, u, rfl, rfl, SqT.of hx, hu, k H3 u q huq (gd.sm hl q (List.mem_of_getElem? hq)) hs3 b03⟩
            · exact ⟨_, rfl, rfl, _, rfl, ite2 (fun _ => k H3 .non .floor .floor sm_floor hs3 b03) (fun _ => ⟨_, rfl, _, rfl, (sz_small (by show 2 ≤ 1000; decide)), fun t ht => k _ (.ref t) (.at y room) (.at upd_same) (sm_at (by omega) (by omega) (by omega) (by omega)) (hs3.same (Same.new ht)) (b03.trans (But.of (Same.new ht)))⟩)⟩
          · refine ⟨_, rfl, iteF ?_⟩
            exact ⟨_, rfl, rfl, _, rfl, ite2 (fun _ => k H3 .non .floor .floor sm_floor hs3 b03) (fun _ => ⟨_, rfl, _, rfl, (sz_small (by show 2 ≤ 1000; decide)), fun t ht => k _ (.ref t) (.at y room) (.at upd_same) (sm_at (by omega) (by omega) (by omega) (by omega)) (hs3.same (Same.new ht)) (b03.trans (But.of (Same.new ht)))⟩)⟩
        · refine iteF ?_
          exact ⟨_, rfl, rfl, _, rfl, ite2 (fun _ => k H3 .non .floor .floor sm_floor hs3 b03) (fun _ => ⟨_, rfl, _, rfl, (sz_small (by show 2 ≤ 1000; decide)), fun t ht => k _ (.ref t) (.at y room) (.at upd_same) (sm_at (by omega) (by omega) (by omega) (by omega)) (hs3.same (Same.new ht)) (b03.trans (But.of (Same.new ht)))⟩)⟩
end
end Ns
/-! the law's defs: spoilt -/
namespace Ns
open PySem PySem.Spec PyProof.Rows L2
abbrev scY : Scope := { kind := .function, names := [(".0", .local), ("_law_y", .local), ("_law_climb", .globalImplicit), ("_law_at", .cell), ("_law_forest", .cell), ("_law_rooms", .cell)], isGenerator := false, isCoroutine := false }
theorem parts_go2 {K : PySem.W.Frag} {H : Hp} {a : Addr} {xs : List V} {i : Int} {Q : V → Hp → VK} (h : H a = some (.tup xs)) (h0 : 0 ≤ i) (h1 : i < xs.length) (hl : xs.length ≤ 1000) (q : ∀ v Hm H' p, Same H Hm → Same Hm H' → H' p = some (.tup (xs.set i.toNat v)) → Q v Hm (.ref p) H') :
    rSlA K (.ref a) none (some i) H fun x H1 => Same H H1 ∧ ∀ v Hm, Same H1 Hm → [v].length ≤ sizeLine ∧ ∀ p, Hm p = none → rCatA K x (.ref p) (upd Hm p (.tup [v])) fun y H2 => rSlA K (.ref a) (some (i + 1)) none H2 fun z H3 => rCatA K y z H3 (Q v Hm) := by
  obtain ⟨k, rfl⟩ : ∃ k : Nat, i = (k : Int) := ⟨i.toNat, by omega⟩
  have hk : k < xs.length := by omega
  have sz : ∀ n, n ≤ 2002 → n ≤ sizeLine := fun n hn => Nat.le_trans hn (by rw [sizeLine_eq]; decide)
  refine sl_any h fun H1 p1 s1 e1 => ⟨s1, fun v Hm sm => ⟨sz 1 (by omega), fun p hp => ?_⟩⟩
  rw [cut_lo xs (Nat.le_of_lt hk)] at e1
  have s2 : Same Hm (upd Hm p (.tup [v])) := Same.new hp
  refine cat_any (s2 _ _ (sm _ _ e1)) upd_same (sz _ (by rw [List.length_take, List.length_singleton]; omega)) fun H2 p2 s3 e2 => ?_
  have ek : ((k : Int) + 1) = ((k + 1 : Nat) : Int) := by omega
  rw [ek]
  refine sl_any (s3 _ _ (s2 _ _ (sm _ _ (s1 _ _ h)))) fun H3 p3 s4 e3 => ?_
  rw [cut_hi xs (by omega)] at e3
  refine cat_any (s4 _ _ e2) e3 (sz _ (by rw [List.length_append, List.length_take, List.length_singleton, List.length_drop]; omega)) fun H4 p4 s5 e4 => ?_
  rw [set_parts xs v hk] at e4
  exact q v Hm H4 p4 (s1.trans sm) (s2.trans (s3.trans (s4.trans s5))) e4
section
variable {P : Program} {w : World} {K : PySem.W.Frag} {mg : Str → Option Value} {base : Heap} {ad : Ec → Addr} {D fI cda cc : Addr}
def spSpoilt : Sp := fun vs H Q _ => ∃ (p R Fo : Addr) (rs : List Int) (F : List Pl), vs = [.ref p, .ref R, .ref Fo] ∧ Src H p ∧ H R = some (.tup (rs.map V.int)) ∧ 1 ≤ rs.length ∧ rs.length ≤ 24 ∧ FoAt H Fo F ∧ Gd rs.length F ∧
  ∀ H' t R' Fo' rm F', H' t = some (.tup [.ref R', .ref Fo']) → RmAt H' R' rm → rm.length = rs.length → FoAt H' Fo' F' → F'.length = rs.length → (∀ q, q ∈ F' → SmPl q) → Src H' p → But p H H' → Q (.ref t) H'
abbrev N40 : List Str := ["_law_source", "_law_rooms", "_law_forest", "_law_at", "_law_way", "_law_wrong", "_law_inner", "_law_y", "_law_one_here"]
theorem sc40 : FnScope N40 ["_law_source", "_law_rooms", "_law_forest"] (defScope (top 40)) := ⟨rfl, rfl, rfl, by decide +kernel, rfl, by decide +kernel, by decide +kernel⟩
theorem num_v (rs : List Int) : (rs.map Rm.num).map Rm.v = rs.map V.int := by
  rw [List.map_map]
  rfl
theorem set_v (rs : List Int) (i : Nat) (r : Rm) : ((rs.map Rm.num).set i r).map Rm.v = (rs.map V.int).set i r.v := by
  rw [List.map_set, num_v]
theorem sm_set {F : List Pl} {i : Nat} {p : Pl} (h : ∀ q, q ∈ F → SmPl q) (hp : SmPl p) : ∀ q, q ∈ F.set i p → SmPl q := fun q hq => by
  rcases mem_set hq with z | z
  · exact h q z
  · rw [z]; exact hp
theorem has_spoilt (T : Tx P K mg ad D fI cda cc) (d : Df K mg "_law_spoilt" 40) (hT : Has P w K mg base CX0 1 "_law_take" ["_law_source", "_law_top"] spTake) (hO : Has P w K mg base CX0 2 "_law_one" ["_law_source", "_law_things"] spOne) (hC : Has P w K mg base CX0 1 "_law_climb" ["_law_forest", "_law_x"] spClimb) :
    Has P w K mg base CX0 3 "_law_spoilt" ["_law_source", "_law_rooms", "_law_forest"] spSpoilt := by
  obtain ⟨f, fd, F, hm⟩ := d
  refine ⟨f, fd, hm, F.kp, F.binds (fun _ _ _ _ _ _ us hl => match us, hl with | [_, _, _], _ => rfl), ?_⟩
  refine F.ok sc40 (fun vs H Q E h => ?_) (fun cdv A outer s H vs Q E hr h => ?_)
  · obtain ⟨p, R, Fo, rs, F, rfl, _⟩ := h
    rfl
  · obtain ⟨p, R, Fo, rs, G, rfl, hs, hR, hn, hl, hF, gd, k⟩ := h
    have hr1 : Room 1 _ := hr.mono (by decide)
    refine ⟨_, pss_cons (ps_asg (pe_tup (pa_cons (pe_has hT hr1 pass0 (pa_cons (pv 0) (pa_cons (pe_callB call_len (by rfl) T.len boot_len (pa_cons (pv 1) pa_nil)) pa_nil))) (pa_cons (pe_has hT hr1 pass0 (pa_cons (pv 0) (pa_cons pe_int pa_nil))) pa_nil))) (pg_tup rfl (pgs_cons (pg_name (i := 3) sc40.nd rfl (Or.inr rfl)) (pgs_cons (pg_name (i := 4) sc40.nd rfl (Or.inl rfl)) pgs_nil))))
      (pss_cons (ps_if (pt_cmpR op_eq (pv 4) pe_int (nomark _))
        (pss_cons (ps_set (i := 5) sc40.nd rfl (Or.inl rfl) (pe_has hO hr pass0 (pa_cons (pv 0) (pa_cons (pe_lst (pa_cons pe_int (pa_cons (pe_op op_sub pe_int pe_int) (pa_cons pe_str pa_nil)))) pa_nil))))
        (pss_one (ps_ret (pe_tup (pa_cons (pe_op op_catA (pe_op op_catA (pe_slice sl_tupA (pv 1) po_none (po_some (pv 3))) (pe_tup (pa_cons (pv 5) pa_nil))) (pe_slice sl_tupA (pv 1) (po_some (pe_op op_add (pv 3) pe_int)) po_none)) (pa_cons (pv 2) pa_nil)))))) pss_nil)
      (pss_cons (ps_if (pt_cmpR op_eq (pv 4) pe_int (nomark _))
        (pss_cons (ps_set (i := 5) sc40.nd rfl (Or.inl rfl) (pe_has hO hr pass0 (pa_cons (pv 0) (pa_cons (pe_lst (pa_cons (pe_tup (pa_cons (pv 3) (pa_cons pe_int pa_nil))) (pa_cons (pe_tup (pa_cons (pe_callB call_len (by rfl) T.len boot_len (pa_cons (pv 1) pa_nil)) (pa_cons pe_int pa_nil)))
            (pa_cons (pe_tup (pa_cons (pe_op op_sub pe_int pe_int) (pa_cons pe_int pa_nil))) (pa_cons (pe_tup (pa_cons pe_int pa_nil)) (pa_cons pe_str (pa_cons (pe_tup (pa_cons (pe_op op_sub (pv 3) pe_int) (pa_cons pe_int pa_nil))) pa_nil))))))) pa_nil))))
        (pss_one (ps_ret (pe_tup (pa_cons (pv 1) (pa_cons (pe_op op_catA (pe_op op_catA (pe_slice sl_tupA (pv 2) po_none (po_some (pv 3))) (pe_tup (pa_cons (pv 5) pa_nil))) (pe_slice sl_tupA (pv 2) (po_some (pe_op op_add (pv 3) pe_int)) po_none)) pa_nil)))))) pss_nil)
      (pss_cons (ps_setLc (i := 6) (own := [("_law_y", 7)]) (g := gName 7) rfl sc40.nd rfl rfl (sw_true rfl rfl rfl (by decide +kernel)) (pi_range1 (by rfl) T.range (pa_cons (pe_callB call_len (by rfl) T.len boot_len (pa_cons (pv 1) pa_nil)) pa_nil))
            (blkOk_by (own := [("_law_y", 7)]) (N := N40) (sc := defScope (top 40)) (by decide +kernel))
            (fun _ _ _ _ _ => pg_name (i := 7) sc40.nd rfl (Or.inl rfl))
            (fun _ _ _ _ _ => pts_one (PW.pt (pw_and (pt_cmpR (r := rIn K false) op_in_seq (pv 3) (pe_lc (own := [("_law_one_here", 8)]) (wi := iList K (tCall spClimb [] E0 (tCons (tVar 2) (tCons (tVar 7) tNil)))) (te := tOp (rIxT K) (tVar 8) (tC (.int 0))) (g := gName 8) (tt := tYes) rfl sc40.nd (pi_list (pe_has hC hr1 pass0 (pa_cons (pv 2) (pa_cons (pv 7) pa_nil)))) (blkOk_by (own := [("_law_one_here", 8)]) (N := N40) (sc := scY) (by decide +kernel))
              (fun _ _ _ _ _ => pg_name (i := 8) sc40.nd rfl (Or.inl rfl)) (fun _ _ _ _ _ => pts_nil) (fun _ _ _ _ _ => pe_ix (r := rIxT K) ix_tup (pv 8) pe_int (fun _ _ => rfl))) (by rfl))
              (pw_and1 (pt_cmpR op_gt (pe_ix (r := rIxT K) ix_tup (pv 1) (pv 7) (fun _ _ => rfl)) pe_int (nomark _)))))) (fun _ _ _ _ _ => pv 7))
      (pss_cons (ps_if (pt_cmpR (op_eqD (Room.u64 hr)) (pv 6) (pe_lst pa_nil) (nomark _)) (pss_one (ps_ret (pe_tup (pa_cons (pv 1) (pa_cons (pv 2) pa_nil))))) pss_nil)
      (pss_one (ps_ret (pe_tup (pa_cons (pv 1) (pa_cons (pe_op op_catA (pe_op op_catA (pe_slice sl_tupA (pv 2) po_none (po_some (pv 3))) (pe_tup (pa_cons (pe_tup (pa_cons (pe_ix (r := rIxL K) ix_list (pv 6) (pe_op op_sub (pe_callB call_len (by rfl) T.len boot_len (pa_cons (pv 6) pa_nil)) pe_int) (fun _ _ => rfl)) (pa_cons pe_int pa_nil))) pa_nil))) (pe_slice sl_tupA (pv 2) (po_some (pe_op op_add (pv 3) pe_int)) po_none)) pa_nil))))))))), ?_⟩
    have hlenR : ∀ H', H' R = some (.tup (rs.map V.int)) → LenV K (.ref R) H' rs.length := fun H' h => .inr ⟨_, SqT.of h, by rw [List.length_map]⟩
    have nR : R ≠ p := hs.ne hR
    have g1 := gd.1
    have gsm := gd.sm hl
    refine ⟨_, rfl, _, rfl, _, rs.length, rfl, hlenR _ hR, p, _, rfl, hs, by omega, by omega, fun at_ H1 a0 a1 hs1 b1 => ?_⟩
    refine ⟨_, rfl, p, 3, rfl, hs1, by decide, by decide, fun way H2 w0 w1 hs2 b2 => ⟨(sz_small (by show 2 ≤ 1000; decide)), fun t ht => ?_⟩⟩
    refine ⟨t, _, rfl, SqT.of upd_same, rfl, _, _, rfl, _, _, rfl, rfl, ?_⟩
    have st : Same H2 (upd H2 t (.tup [.int at_, .int way])) := Same.new ht
    have hs3 := hs2.same st
    have b03 : But p H (upd H2 t (.tup [.int at_, .int way])) := b1.trans (b2.trans (But.of st))
    generalize (upd H2 t (.tup [.int at_, .int way])) = H3 at hs3 b03 ⊢
    have hR3 := b03 _ _ nR hR
    have hF3 := hF.mono (b03.ts hs)
    have fin : ∀ H' t R' Fo' rm F', H' t = some (.tup [.ref R', .ref Fo']) → RmAt H' R' rm → rm.length = rs.length → FoAt H' Fo' F' → F'.length = rs.length → (∀ q, q ∈ F' → SmPl q) → Src H' p → But p H3 H' → Q (.ref t) H' :=
      fun H' t R' Fo' rm F' h1 h2 h3 h4 h5 h6 h7 h8 => k H' t R' Fo' rm F' h1 h2 h3 h4 h5 h6 h7 (b03.trans h8)
    refine ⟨_, rfl, rfl, _, rfl, ite2 (fun h1 => ?_) (fun h1 => ?_)⟩
    · refine ⟨_, rfl, _, _, rfl, rfl, (sz_small (by show 3 ≤ 1000; decide)), fun W hW => ?_⟩
      have sW : Same H3 (upd H3 W (.lst [.int 5, .int (0 - 1), .str "1"])) := Same.new hW
      refine ⟨p, W, _, rfl, hs3.same sW, upd_same, hs3.nn hW, by show 1 ≤ 3; decide, by show 3 ≤ 1000; decide, fun y H' hy hs' b' => ?_⟩
      obtain ⟨r, rfl⟩ : ∃ r : Rm, y = r.v := by
        simp only [List.mem_cons, List.not_mem_nil, or_false] at hy
        rcases hy with rfl | rfl | rfl
        · exact ⟨.num 5, rfl⟩
        · exact ⟨.num (0 - 1), rfl⟩
        · exact ⟨.word "1", rfl⟩
      have bT : But p H3 H' := (But.of sW).trans b'
      have hR' := bT _ _ nR hR3
      have hF' := hF3.mono (bT.ts hs3)
      have go := parts_go (K := K) (i := at_) (v := r.v) (Q := fun z H5 => ∃ t, z = .ref t ∧ Same H' H5 ∧ H5 t = some (.tup ((rs.map V.int).set at_.toNat r.v))) hR' a0 (by rw [List.length_map]; omega) (by rw [List.length_map]; omega) fun H5 t s e => ⟨t, rfl, s, e⟩
      refine ⟨_, rfl, _, rfl, at_, rfl, sl_mono go fun y1 H5 h1 => ⟨_, rfl, h1.1, fun q hq => cat_mono (h1.2 q hq) fun y2 H6 h2 => ?_⟩⟩
      refine ⟨_, rfl, _, rfl, _, _, rfl, rfl, _, rfl, sl_mono h2 fun y3 H7 h3 => cat_mono h3 fun z H8 hz => ?_⟩
      obtain ⟨t', rfl, s8, e8⟩ := hz
      refine ⟨_, rfl, (sz_small (by show 2 ≤ 1000; decide)), fun t2 ht2 => ?_⟩
      have s9 : Same H8 (upd H8 t2 (.tup [.ref t', .ref Fo])) := Same.new ht2
      exact fin _ t2 t' Fo ((rs.map Rm.num).set at_.toNat r) G upd_same (by unfold RmAt; rw [set_v]; exact s9 _ _ e8) (by rw [List.length_set, List.length_map]) (hF'.mono (TS.of (s8.trans s9))) g1 gsm (hs'.same (s8.trans s9)) (bT.trans (But.of (s8.trans s9)))
    · refine ⟨_, rfl, rfl, _, rfl, ite2 (fun h2 => ?_) (fun h2 => ?_)⟩
      · refine ⟨_, rfl, _, rfl, (sz_small (by show 2 ≤ 1000; decide)), fun t1 g1' => ?_⟩
        have a1' : Same H3 (upd H3 t1 (.tup [.int at_, .int 0])) := Same.new g1'
        have e1 : (upd H3 t1 (.tup [.int at_, .int 0])) t1 = some (.tup [.int at_, .int 0]) := upd_same
        generalize (upd H3 t1 (.tup [.int at_, .int 0])) = A1 at a1' e1 ⊢
        have c1 : Same H3 A1 := a1'
        refine ⟨_, rfl, _, rs.length, rfl, hlenR _ (c1 _ _ hR3), (sz_small (by show 2 ≤ 1000; decide)), fun t2 g2' => ?_⟩
        have a2' : Same A1 (upd A1 t2 (.tup [.int (rs.length : Nat), .int 0])) := Same.new g2'
        have e2 : (upd A1 t2 (.tup [.int (rs.length : Nat), .int 0])) t2 = some (.tup [.int (rs.length : Nat), .int 0]) := upd_same
        generalize (upd A1 t2 (.tup [.int (rs.length : Nat), .int 0])) = A2 at a2' e2 ⊢
        have c2 : Same H3 A2 := c1.trans a2'
        refine ⟨_, _, rfl, rfl, (sz_small (by show 2 ≤ 1000; decide)), fun t3 g3' => ?_⟩
        have a3' : Same A2 (upd A2 t3 (.tup [.int (0 - 1), .int 0])) := Same.new g3'
        have e3 : (upd A2 t3 (.tup [.int (0 - 1), .int 0])) t3 = some (.tup [.int (0 - 1), .int 0]) := upd_same
        generalize (upd A2 t3 (.tup [.int (0 - 1), .int 0])) = A3 at a3' e3 ⊢
        have c3 : Same H3 A3 := c2.trans a3'
        refine ⟨(sz_small (by show 1 ≤ 1000; decide)), fun t4 g4' => ?_⟩
        have a4' : Same A3 (upd A3 t4 (.tup [.int 0])) := Same.new g4'
        have e4 : (upd A3 t4 (.tup [.int 0])) t4 = some (.tup [.int 0]) := upd_same
        generalize (upd A3 t4 (.tup [.int 0])) = A4 at a4' e4 ⊢
        have c4 : Same H3 A4 := c3.trans a4'
        refine ⟨_, rfl, _, _, rfl, rfl, (sz_small (by show 2 ≤ 1000; decide)), fun t5 g5' => ?_⟩
        have a5' : Same A4 (upd A4 t5 (.tup [.int (at_ - 1), .int 9])) := Same.new g5'
        have e5 : (upd A4 t5 (.tup [.int (at_ - 1), .int 9])) t5 = some (.tup [.int (at_ - 1), .int 9]) := upd_same
        generalize (upd A4 t5 (.tup [.int (at_ - 1), .int 9])) = A5 at a5' e5 ⊢
        have c5 : Same H3 A5 := c4.trans a5'
        have f1 := (a5' _ _ (a4' _ _ (a3' _ _ (a2' _ _ e1))))
        have f2 := (a5' _ _ (a4' _ _ (a3' _ _ e2)))
        have f3 := (a5' _ _ (a4' _ _ e3))
        have f4 := (a5' _ _ e4)
        have f5 := e5
        have hs8 := hs3.same c5
        refine ⟨(sz_small (by show 6 ≤ 1000; decide)), fun W hW => ?_⟩
        have sW : Same A5 (upd A5 W (.lst [.ref t1, .ref t2, .ref t3, .ref t4, .str "floor", .ref t5])) := Same.new hW
        refine ⟨p, W, _, rfl, hs8.same sW, upd_same, hs8.nn hW, by show 1 ≤ 6; decide, by show 6 ≤ 1000; decide, fun y' H' hy hs' b' => ?_⟩
        have bT : But p A5 H' := (But.of sW).trans b'
        have bF : But p H3 H' := (But.of c5).trans bT
        obtain ⟨pl, hpl, spl⟩ : ∃ pl, PlV H' y' pl ∧ SmPl pl := by
          simp only [List.mem_cons, List.not_mem_nil, or_false] at hy
          rcases hy with rfl | rfl | rfl | rfl | rfl | rfl
          · exact ⟨.at at_ 0, .at (bT _ _ (hs8.ne f1) f1), sm_at (by omega) (by omega) (by decide) (by decide)⟩
          · exact ⟨.at (rs.length : Nat) 0, .at (bT _ _ (hs8.ne f2) f2), sm_at (by omega) (by omega) (by decide) (by decide)⟩
          · exact ⟨.at (0 - 1) 0, .at (bT _ _ (hs8.ne f3) f3), sm_at (by decide) (by decide) (by decide) (by decide)⟩
          · exact ⟨.row [0], .row (bT _ _ (hs8.ne f4) f4) (by show 1 ≠ 2; decide), sm_row (fun i hi => by simp only [List.mem_cons, List.not_mem_nil, or_false] at hi; omega) (by show 1 ≤ 3; decide)⟩
          · exact ⟨.word "floor", .word _, sm_floorW⟩
          · exact ⟨.at (at_ - 1) 9, .at (bT _ _ (hs8.ne f5) f5), sm_at (by omega) (by omega) (by decide) (by decide)⟩
        have hR' := bF _ _ nR hR3
        obtain ⟨xs, hx, rp⟩ := hF3.mono (bF.ts hs3)
        have hxl : xs.length = rs.length := rp.length.trans g1
        have go := parts_go (K := K) (i := at_) (v := y') (Q := fun z H5 => ∃ t, z = .ref t ∧ Same H' H5 ∧ H5 t = some (.tup (xs.set at_.toNat y'))) hx a0 (by omega) (by omega) fun H5 t s e => ⟨t, rfl, s, e⟩
        refine ⟨_, rfl, _, rfl, _, rfl, at_, rfl, sl_mono go fun y1 H5 h1 => ⟨_, rfl, h1.1, fun q hq => cat_mono (h1.2 q hq) fun y2 H6 h2 => ?_⟩⟩
        refine ⟨_, rfl, _, rfl, _, _, rfl, rfl, _, rfl, sl_mono h2 fun y3 H7 h3 => cat_mono h3 fun z H8 hz => ?_⟩
        obtain ⟨t', rfl, s8, e8⟩ := hz
        refine ⟨(sz_small (by show 2 ≤ 1000; decide)), fun t6 ht6 => ?_⟩
        have s9 : Same H8 (upd H8 t6 (.tup [.ref R, .ref t'])) := Same.new ht6
        have s89 := s8.trans s9
        exact fin _ t6 R t' (rs.map Rm.num) (G.set at_.toNat pl) upd_same (by unfold RmAt; rw [num_v]; exact s89 _ _ hR') (by rw [List.length_map]) ⟨_, s9 _ _ e8, paired_set (hpl.mono (TS.of s89)) _ (L2.Paired.mapP rp fun _ _ q => q.mono (TS.of s89))⟩ (by rw [List.length_set]; exact g1) (sm_set gsm spl) (hs'.same s89) (bF.trans (But.of s89))
      · refine ⟨_, rfl, _, rs.length, rfl, hlenR _ hR3, (rs.length : Int), rfl, by omega, by omega, fun L hL => ?_⟩
        refine lc_range (lo := 0) (n := ((rs.length : Nat) : Int).toNat) (fun i H' => Same H3 H' ∧ ∃ is : List Int, H' L = some (.lst (is.map V.int)) ∧ is.length ≤ i ∧ ∀ o, o ∈ is → 0 ≤ o ∧ o < rs.length) ⟨Same.new hL, [], upd_same, Nat.le_refl _, fun o h => absurd h (by simp)⟩ ?_ ?_
        · rintro i H' hi ⟨s4, is, e4, l4, m4⟩
          have hi : i < rs.length := by simpa using hi
          refine ⟨rfl, ?_⟩
          refine ⟨_, rfl, _, rfl, _, rfl, Fo, (0 + (i : Int)), G, rfl, hF3.mono (TS.of s4), gd.vf, by omega, by omega, by omega, fun L1 ys H5 hL1 s5 e5 pr => ⟨L1, rfl, ⟨ys, SqL.of e5⟩, fun D1 hD1 => ?_⟩⟩
          refine lc_heads (K := K) (j := 8) e5 pr (show 8 < 9 by decide) (Nat.le_trans (anc_le _ _) (by omega)) hD1 fun H6 s6 e6 => ?_
          refine ⟨D1, _, rfl, .inl (SqL.of e6), rfl, all_flat _, _, rfl, ?_⟩
          have s46 := s4.trans (s5.trans s6)
          have e46 := s6 _ _ (s5 _ _ e4)
          refine ite2 (fun h3 => ?_) (fun h3 => ?_)
          · obtain ⟨r, hat, hrm⟩ := rs_at (rs := rs) (y := 0 + (i : Int)) (by omega) (by omega)
            refine ⟨_, rfl, _, rfl, _, _, _, _, rfl, rfl, SqT.of (s46 _ _ hR3), hat, _, _, rfl, rfl, _, rfl, ite2 (fun h4 => ?_) (fun h4 => ?_)⟩
            · refine ⟨_, rfl, _, e46, Nat.lt_of_le_of_lt (show (is.map V.int).length ≤ 24 by rw [List.length_map]; omega) (by rw [sizeLine_eq]; decide), Same.put s46 hL, is ++ [0 + (i : Int)], ?_, by rw [List.length_append]; simp; omega, fun o ho => ?_⟩
              · rw [upd_same, List.map_append]
                rfl
              · rcases List.mem_append.mp ho with ho | ho
                · exact m4 o ho
                · have e : o = 0 + (i : Int) := by simpa using ho
                  omega
            · exact ⟨s46, is, e46, by omega, m4⟩
          · exact iteF ⟨s46, is, e46, by omega, m4⟩
        · rintro H4 ⟨s4, is, e4, l4, m4⟩
          refine ⟨_, rfl, Nat.zero_le _, fun Z hZ => ?_⟩
          have sZ : Same H4 (upd H4 Z (.lst [])) := Same.new hZ
          refine eq_nil (K := K) (sZ _ _ e4) upd_same ?_
          have s5 := s4.trans sZ
          have e5 := sZ _ _ e4
          generalize (upd H4 Z (.lst [])) = H5 at s5 e5 ⊢
          have hR5 := s5 _ _ hR3
          refine ⟨_, rfl, ite2 (fun h3 => ?_) (fun h3 => ?_)⟩
          · refine ⟨_, rfl, _, rfl, (sz_small (by show 2 ≤ 1000; decide)), fun t6 ht6 => ?_⟩
            have s9 : Same H5 (upd H5 t6 (.tup [.ref R, .ref Fo])) := Same.new ht6
            have s89 := s5.trans s9
            exact fin _ t6 R Fo (rs.map Rm.num) G upd_same (by unfold RmAt; rw [num_v]; exact s89 _ _ hR3) (by rw [List.length_map]) (hF3.mono (TS.of s89)) g1 gsm (hs3.same s89) (But.of s89)
          · have lis : 1 ≤ is.length := by
              cases is with
              | nil => exact absurd rfl h3
              | cons a is => rw [List.length_cons]; omega
            obtain ⟨xs, hx, rp⟩ := hF3.mono (TS.of s5)
            have hxl : xs.length = rs.length := rp.length.trans g1
            have go := parts_go2 (K := K) (i := at_) (Q := fun v Hm z H' => ∃ t, z = .ref t ∧ Same H5 Hm ∧ Same Hm H' ∧ H' t = some (.tup (xs.set at_.toNat v))) hx a0 (by omega) (by omega) fun v Hm H' t s s' e => ⟨t, rfl, s, s', e⟩
            obtain ⟨y, hy, _, hm⟩ := at_nn (xs := is.map V.int) (r := (is.length : Int) - 1) (by omega) (by rw [List.length_map]; omega)
            obtain ⟨o, ho, rfl⟩ := List.mem_map.mp hm
            obtain ⟨o0, o1⟩ := m4 o ho
            refine ⟨_, rfl, _, rfl, _, rfl, at_, rfl, sl_mono go fun y1 H6 h1 => ?_⟩
            have e6 := h1.1 _ _ e5
            refine ⟨_, rfl, _, rfl, _, is.length, rfl, .inl ⟨_, SqL.of e6, by rw [List.length_map]⟩, _, _, rfl, rfl, _, _, _, _, rfl, rfl, SqL.of e6, hy, (sz_small (by show 2 ≤ 1000; decide)), fun t7 ht7 => ?_⟩
            have s7 : Same H6 (upd H6 t7 (.tup [.int o, .int 0])) := Same.new ht7
            refine ⟨(h1.2 (.ref t7) _ s7).1, fun q hq => cat_mono ((h1.2 (.ref t7) _ s7).2 q hq) fun y2 H8 h2 => ?_⟩
            refine ⟨_, rfl, _, rfl, _, _, rfl, rfl, _, rfl, sl_mono h2 fun y3 H9 h3 => cat_mono h3 fun z H10 hz => ?_⟩
            obtain ⟨t', rfl, sa, sb, e8⟩ := hz
            refine ⟨(sz_small (by show 2 ≤ 1000; decide)), fun t6 ht6 => ?_⟩
            have s9 : Same H10 (upd H10 t6 (.tup [.ref R, .ref t'])) := Same.new ht6
            have sb9 := sb.trans s9
            have s59 := sa.trans sb9
            have s89 := s5.trans s59
            exact fin _ t6 R t' (rs.map Rm.num) (G.set at_.toNat (.at o 0)) upd_same (by unfold RmAt; rw [num_v]; exact s89 _ _ hR3) (by rw [List.length_map]) ⟨_, s9 _ _ e8, paired_set (.at (sb9 _ _ upd_same)) _ (L2.Paired.mapP rp fun _ _ q => q.mono (TS.of s59))⟩ (by rw [List.length_set]; exact g1) (sm_set gsm (sm_at (by omega) (by omega) (by decide) (by decide))) (hs3.same s89) (But.of s89)
end
end Ns
/-! the law's defs: classes, heard -/
namespace Ns
open PySem PySem.Spec PyProof.Rows L2 HotX
open L2H (RoomH Hot1 PinOk cxH inv_startH)
def Ec.ix : Ec → Nat
  | .rooms => 0 | .forest => 1 | .ring => 2 | .thing => 3 | .place => 4 | .within => 5
/-- what isinstance says of the errors -/
structure Kt (K : PySem.W.Frag) (mg : Str → Option Value) (ad : Ec → Addr) (D xr xt : Addr) : Prop where
  gr : mg "BadRoom" = some (.ref xr)
  gt : mg "TooMany" = some (.ref xt)
  ek : ∀ c, ErrK K (ad c)
  ve : ∀ c, PySem.W.kitOne K (.ref (ad c)) (.type "ValueError") = some true
  kr : ∀ c, PySem.W.kitOne K (.ref (ad c)) (.ref xr) = some false
  kt : ∀ c, PySem.W.kitOne K (.ref (ad c)) (.ref xt) = some false
  ii : ∀ c c', PySem.W.kitOne K (.ref (ad c)) (.ref (ad c')) = some (c.ix == c'.ix)
  gD : mg "Refused" = some (.ref D)
  xm : ∀ c, PySem.W.exmOne K (.ref (ad c)) (.ref D) = some true
def RowIs (H : Hp) (v : V) (r : Str × Bool) : Prop := ∃ t, v = .ref t ∧ H t = some (.tup [.str r.1, .bl r.2])
theorem lc_rows {K : PySem.W.Frag} {L1 D : Addr} {H1 : Hp} {ys : List V} {rows : List (Str × Bool)} {σ : St} {j : Nat} {Qd : Hp → Prop} (hL : H1 L1 = some (.lst ys)) (pr : Paired (RowIs H1) ys rows) (hj : j < σ.length) (hl : rows.length ≤ 1000) (hD : H1 D = none)
    (q : ∀ H', Same H1 H' → H' D = some (.lst ((rows.filter (·.2)).map fun r => V.str r.1)) → Qd H') :
    ∃ W : Nat → Nat → Hp → Prop, (∃ m, W 0 m (upd H1 D (.lst []))) ∧ ∀ i m H, W i m H →
      ((Itl K L1).stop i H ∧ Qd H) ∨ ((Itl K L1).go i H ∧ ∃ Nx : Hp → Prop, (∀ H', Nx H' → ∃ m', m' < m ∧ W (i + 1) m' H') ∧ ∀ x H', (Itl K L1).yld i H x H' → gName j x (wipe σ [j]) H' fun σ2 H2 => wipe σ2 [j] = wipe σ [j] ∧ tB (tOp (rIxT K) (tVar j) (tC (.int 1))) σ2 H2 fun b H3 =>
        if b = true then tOp (rIxT K) (tVar j) (tC (.int 0)) σ2 H3 fun y H4 => ∃ acc, H4 D = some (.lst acc) ∧ acc.length < sizeLine ∧ Nx (upd H4 D (.lst (acc ++ [y]))) else Nx H3) := by
  have hlen : ys.length = rows.length := pr.length
  refine lc_list (K := K) (a := L1) (xs := ys) (fun i H' => Same H1 H' ∧ H' D = some (.lst (((rows.take i).filter (·.2)).map fun r => V.str r.1))) ⟨Same.new hD, upd_same⟩ (fun i H' _ ⟨s, _⟩ => SqL.of (s _ _ hL)) ?_ ?_
  · rintro i x H' hi ⟨s, e⟩
    obtain ⟨⟨nm, b⟩, hh, t, rfl, et⟩ := paired_get pr hi
    have hz : (((rows.take i).filter (·.2)).map fun r => V.str r.1).length < sizeLine := by
      rw [List.length_map]
      have h1 := List.length_filter_le (·.2) (rows.take i)
      rw [List.length_take] at h1
      exact Nat.lt_of_le_of_lt (show _ ≤ 1000 by omega) (by rw [sizeLine_eq]; decide)
    have sl : ((σ.set j none).set j (some (V.ref t)))[j]? = some (some (V.ref t)) := by rw [List.getElem?_set_self (by rw [List.length_set]; exact hj)]
    have tk := take_more hh
    refine ⟨?_, ?_⟩
    · show ((σ.set j none).set j (some (V.ref t))).set j none = σ.set j none
      rw [List.set_set, List.set_set]
    · refine ⟨V.ref t, sl, t, _, 1, .bl b, rfl, rfl, SqT.of (s _ _ et), at_of (j := 1) rfl rfl, b, rfl, ?_⟩
      cases b with
      | true =>
        refine iteT ?_
        refine ⟨V.ref t, sl, t, _, 0, .str nm, rfl, rfl, SqT.of (s _ _ et), at_of (j := 0) rfl rfl, _, e, hz, Same.put s hD, ?_⟩
        rw [upd_same, tk, List.filter_append, List.map_append]
        rfl
      | false =>
        refine iteF ⟨s, ?_⟩
        rw [tk, List.filter_append, List.map_append]
        simpa using e
  · rintro H' ⟨s, e⟩
    rw [hlen, List.take_length] at e
    exact q H' s e
section
variable {P : Program} {w : World} {K : PySem.W.Frag} {mg : Str → Option Value} {base : Heap} {ad : Ec → Addr} {D fI cda cc xr xt : Addr}
def spClasses (ad : Ec → Addr) : Addr × Obj → Sp := fun p vs H Q _ => ∃ (c : Ec) (d : Addr) (v : V), vs = [.ref p.1] ∧ Zc (.ref (ad c)) (some d) p.2 ∧ H d = some (.xd [(("what" : Str), v)]) ∧ ∀ H' L, Same H H' → H' L = some (.lst [.str "ValueError", .str c.name]) → Q (.ref L) H'
abbrev N32 : List Str := ["_law_e", "_law_rows", "_law_row"]
theorem sc32 : FnScope N32 ["_law_e"] (defScope (top 32)) := ⟨rfl, rfl, rfl, by decide +kernel, rfl, by decide +kernel, by decide +kernel⟩
theorem has_classes (T : Tx P K mg ad D fI cda cc) (k : Kt K mg ad D xr xt) (d : Df K mg "_law_classes" 32) : ∃ f fd, mg "_law_classes" = some (.ref f) ∧ PySem.W.keepIn K (.ref f) = true ∧ Binds K fd ["_law_e"] [] ∧ FnE P w K mg base 1 f fd ["_law_e"] (spClasses ad) := by
  obtain ⟨f, fd, F, hm⟩ := d
  refine ⟨f, fd, hm, F.kp, F.binds (fun _ _ _ _ _ _ us hl => match us, hl with | [_], _ => rfl), ?_⟩
  refine Fun.okE F sc32 (fun p vs H Q E h => ?_) (fun cdv A outer s H vs Q E p hot hr h => ?_)
  · obtain ⟨c, d, v, rfl, _⟩ := h
    rfl
  · obtain ⟨c, d, v, rfl, hz, hd, q⟩ := h
    have hf : ∃ vs, p.2.data = .fields vs := by
      obtain ⟨_, vs, e, _⟩ := hot
      exact ⟨vs, e⟩
    have hpn : p ∈ (cxH CX0 P w K mg base N32 "_law_classes" (defScope (top 32)) f cdv A outer s H E p).nox.pn := List.mem_singleton.mpr rfl
    refine ⟨_, pss_cons (ps_set (i := 1) sc32.nd rfl (Or.inl rfl) (pe_lst (pa_cons (pe_tup (pa_cons pe_str (pa_cons (pe_callB (r := rIsX K (ad c) d p.1) (call_isX (k.ek c) hpn hz hf) (by rfl) T.isi boot_isinstance (pa_cons (pv 0) (pa_cons (pe_bltn (v := .ty "ValueError") (by rfl) T.ve (by decide +kernel) rfl) pa_nil))) pa_nil))) pa_nil)))
      (pss_cons (ps_set (i := 1) sc32.nd rfl (Or.inl rfl) (pe_op op_cat (pv 1) (pe_lst (pa_cons (pe_tup (pa_cons pe_str (pa_cons (pe_callB (r := rIsX K (ad c) d p.1) (call_isX (k.ek c) hpn hz hf) (by rfl) T.isi boot_isinstance (pa_cons (pv 0) (pa_cons (pe_glob (v := .ref (ad .forest)) (by rfl) (T.gE .forest) rfl) pa_nil))) pa_nil))) (pa_cons (pe_tup (pa_cons pe_str (pa_cons (pe_callB (r := rIsX K (ad c) d p.1) (call_isX (k.ek c) hpn hz hf) (by rfl) T.isi boot_isinstance (pa_cons (pv 0) (pa_cons (pe_glob (v := .ref (ad .place)) (by rfl) (T.gE .place) rfl) pa_nil))) pa_nil))) pa_nil)))))
      (pss_cons (ps_set (i := 1) sc32.nd rfl (Or.inl rfl) (pe_op op_cat (pv 1) (pe_lst (pa_cons (pe_tup (pa_cons pe_str (pa_cons (pe_callB (r := rIsX K (ad c) d p.1) (call_isX (k.ek c) hpn hz hf) (by rfl) T.isi boot_isinstance (pa_cons (pv 0) (pa_cons (pe_glob (v := .ref xr) (by rfl) k.gr rfl) pa_nil))) pa_nil))) (pa_cons (pe_tup (pa_cons pe_str (pa_cons (pe_callB (r := rIsX K (ad c) d p.1) (call_isX (k.ek c) hpn hz hf) (by rfl) T.isi boot_isinstance (pa_cons (pv 0) (pa_cons (pe_glob (v := .ref (ad .rooms)) (by rfl) (T.gE .rooms) rfl) pa_nil))) pa_nil))) pa_nil)))))
      (pss_cons (ps_set (i := 1) sc32.nd rfl (Or.inl rfl) (pe_op op_cat (pv 1) (pe_lst (pa_cons (pe_tup (pa_cons pe_str (pa_cons (pe_callB (r := rIsX K (ad c) d p.1) (call_isX (k.ek c) hpn hz hf) (by rfl) T.isi boot_isinstance (pa_cons (pv 0) (pa_cons (pe_glob (v := .ref (ad .thing)) (by rfl) (T.gE .thing) rfl) pa_nil))) pa_nil))) (pa_cons (pe_tup (pa_cons pe_str (pa_cons (pe_callB (r := rIsX K (ad c) d p.1) (call_isX (k.ek c) hpn hz hf) (by rfl) T.isi boot_isinstance (pa_cons (pv 0) (pa_cons (pe_glob (v := .ref (ad .ring)) (by rfl) (T.gE .ring) rfl) pa_nil))) pa_nil))) pa_nil)))))
      (pss_cons (ps_set (i := 1) sc32.nd rfl (Or.inl rfl) (pe_op op_cat (pv 1) (pe_lst (pa_cons (pe_tup (pa_cons pe_str (pa_cons (pe_callB (r := rIsX K (ad c) d p.1) (call_isX (k.ek c) hpn hz hf) (by rfl) T.isi boot_isinstance (pa_cons (pv 0) (pa_cons (pe_glob (v := .ref xt) (by rfl) k.gt rfl) pa_nil))) pa_nil))) (pa_cons (pe_tup (pa_cons pe_str (pa_cons (pe_callB (r := rIsX K (ad c) d p.1) (call_isX (k.ek c) hpn hz hf) (by rfl) T.isi boot_isinstance (pa_cons (pv 0) (pa_cons (pe_glob (v := .ref (ad .within)) (by rfl) (T.gE .within) rfl) pa_nil))) pa_nil))) pa_nil)))))
      (pss_one (ps_ret (pe_lcE (own := [("_law_row", 2)]) (g := gName 2) hot hpn sc32.nd (pv 1) (blkOk_by (own := [("_law_row", 2)]) (N := N32) (sc := defScope (top 32)) (by decide +kernel))
        (fun _ _ _ _ _ => pg_name (i := 2) sc32.nd rfl (Or.inl rfl)) (fun _ _ _ _ _ => pts_one (pt_val (pe_ix (r := rIxT K) ix_tup (pv 2) pe_int (fun _ _ => rfl)))) (fun _ _ _ _ _ => pe_ix (r := rIxT K) ix_tup (pv 2) pe_int (fun _ _ => rfl))))))))), ?_⟩
    -- rows
    refine ⟨_, rfl, _, _, _, _, rfl, hd, .ty _, k.ve c, (sz_small (by show 2 ≤ 1000; decide)), fun t0 g0 => ⟨(sz_small (by show 1 ≤ 1000; decide)), fun L0 hL0 => ?_⟩⟩
    have s0 : Same H (upd (upd H t0 (.tup [.str "ValueError", .bl true])) L0 (.lst [.ref t0])) := (Same.new g0).trans (Same.new hL0)
    have r0 : RowIs (upd (upd H t0 (.tup [.str "ValueError", .bl true])) L0 (.lst [.ref t0])) (.ref t0) ("ValueError", true) := ⟨t0, rfl, Same.new hL0 _ _ upd_same⟩
    have l0 : (upd (upd H t0 (.tup [.str "ValueError", .bl true])) L0 (.lst [.ref t0])) L0 = some (.lst [.ref t0]) := upd_same
    generalize (upd (upd H t0 (.tup [.str "ValueError", .bl true])) L0 (.lst [.ref t0])) = H0 at s0 r0 l0 ⊢
    have p0 : Paired (RowIs H0) [.ref t0] [(("ValueError" : Str), true)] := .cons r0 .nil
    refine ⟨_, rfl, _, rfl, _, _, _, _, rfl, s0 _ _ hd, .own _, k.ii c .forest, (sz_small (by show 2 ≤ 1000; decide)), fun t1 g1 => ?_⟩
    have u1 : Same H0 (upd H0 t1 (.tup [.str "BadForest", .bl (c.ix == Ec.forest.ix)])) := Same.new g1
    have e1 : (upd H0 t1 (.tup [.str "BadForest", .bl (c.ix == Ec.forest.ix)])) t1 = some (.tup [.str "BadForest", .bl (c.ix == Ec.forest.ix)]) := upd_same
    generalize (upd H0 t1 (.tup [.str "BadForest", .bl (c.ix == Ec.forest.ix)])) = A1 at u1 e1 ⊢
    refine ⟨_, rfl, _, _, _, _, rfl, u1 _ _ (s0 _ _ hd), .own _, k.ii c .place, (sz_small (by show 2 ≤ 1000; decide)), fun t2 g2 => ⟨(sz_small (by show 2 ≤ 1000; decide)), fun M1 hM1 => ?_⟩⟩
    have u2 : Same A1 (upd A1 t2 (.tup [.str "BadPlace", .bl (c.ix == Ec.place.ix)])) := Same.new g2
    have e2 : (upd A1 t2 (.tup [.str "BadPlace", .bl (c.ix == Ec.place.ix)])) t2 = some (.tup [.str "BadPlace", .bl (c.ix == Ec.place.ix)]) := upd_same
    generalize (upd A1 t2 (.tup [.str "BadPlace", .bl (c.ix == Ec.place.ix)])) = A2 at u2 e2 hM1 ⊢
    have v1 : Same A2 (upd A2 M1 (.lst [.ref t1, .ref t2])) := Same.new hM1
    have m1 : (upd A2 M1 (.lst [.ref t1, .ref t2])) M1 = some (.lst [.ref t1, .ref t2]) := upd_same
    generalize (upd A2 M1 (.lst [.ref t1, .ref t2])) = B1 at v1 m1 ⊢
    have w1 : Same H0 B1 := u1.trans (u2.trans v1)
    refine ⟨_, _, _, _, rfl, rfl, w1 _ _ l0, m1, by rw [sizeLine_eq]; show 1 + 2 ≤ 16777216; decide, fun L1 hL1 => ?_⟩
    have x1 : Same B1 (upd B1 L1 (.lst ([.ref t0] ++ [.ref t1, .ref t2]))) := Same.new hL1
    have l1 : (upd B1 L1 (.lst ([.ref t0] ++ [.ref t1, .ref t2]))) L1 = some (.lst [.ref t0, .ref t1, .ref t2]) := upd_same
    generalize (upd B1 L1 (.lst ([.ref t0] ++ [.ref t1, .ref t2]))) = H1 at x1 l1 ⊢
    have s1 : Same H H1 := s0.trans (w1.trans x1)
    have p1 : Paired (RowIs H1) [.ref t0, .ref t1, .ref t2] [(("ValueError" : Str), true), (("BadForest" : Str), (c.ix == Ec.forest.ix)), (("BadPlace" : Str), (c.ix == Ec.place.ix))] := paired_app (_root_.L2.Paired.mapP p0 fun _ _ q => let ⟨t, e, h⟩ := q; ⟨t, e, x1 _ _ (w1 _ _ h)⟩) (.cons ⟨t1, rfl, x1 _ _ (v1 _ _ (u2 _ _ e1))⟩ (.cons ⟨t2, rfl, x1 _ _ (v1 _ _ e2)⟩ .nil))
    refine ⟨_, rfl, _, rfl, _, _, _, _, rfl, s1 _ _ hd, .own _, k.kr c, (sz_small (by show 2 ≤ 1000; decide)), fun t3 g3 => ?_⟩
    have u3 : Same H1 (upd H1 t3 (.tup [.str "BadRoom", .bl false])) := Same.new g3
    have e3 : (upd H1 t3 (.tup [.str "BadRoom", .bl false])) t3 = some (.tup [.str "BadRoom", .bl false]) := upd_same
    generalize (upd H1 t3 (.tup [.str "BadRoom", .bl false])) = A3 at u3 e3 ⊢
    refine ⟨_, rfl, _, _, _, _, rfl, u3 _ _ (s1 _ _ hd), .own _, k.ii c .rooms, (sz_small (by show 2 ≤ 1000; decide)), fun t4 g4 => ⟨(sz_small (by show 2 ≤ 1000; decide)), fun M2 hM2 => ?_⟩⟩
    have u4 : Same A3 (upd A3 t4 (.tup [.str "BadRooms", .bl (c.ix == Ec.rooms.ix)])) := Same.new g4
    have e4 : (upd A3 t4 (.tup [.str "BadRooms", .bl (c.ix == Ec.rooms.ix)])) t4 = some (.tup [.str "BadRooms", .bl (c.ix == Ec.rooms.ix)]) := upd_same
    generalize (upd A3 t4 (.tup [.str "BadRooms", .bl (c.ix == Ec.rooms.ix)])) = A4 at u4 e4 hM2 ⊢
    have v2 : Same A4 (upd A4 M2 (.lst [.ref t3, .ref t4])) := Same.new hM2
    have m2 : (upd A4 M2 (.lst [.ref t3, .ref t4])) M2 = some (.lst [.ref t3, .ref t4]) := upd_same
    generalize (upd A4 M2 (.lst [.ref t3, .ref t4])) = B2 at v2 m2 ⊢
    have w2 : Same H1 B2 := u3.trans (u4.trans v2)
    refine ⟨_, _, _, _, rfl, rfl, w2 _ _ l1, m2, by rw [sizeLine_eq]; show 3 + 2 ≤ 16777216; decide, fun L2 hL2 => ?_⟩
    have x2 : Same B2 (upd B2 L2 (.lst ([.ref t0, .ref t1, .ref t2] ++ [.ref t3, .ref t4]))) := Same.new hL2
    have l2 : (upd B2 L2 (.lst ([.ref t0, .ref t1, .ref t2] ++ [.ref t3, .ref t4]))) L2 = some (.lst [.ref t0, .ref t1, .ref t2, .ref t3, .ref t4]) := upd_same
    generalize (upd B2 L2 (.lst ([.ref t0, .ref t1, .ref t2] ++ [.ref t3, .ref t4]))) = H2 at x2 l2 ⊢
    have s2 : Same H H2 := s1.trans (w2.trans x2)
    have p2 : Paired (RowIs H2) [.ref t0, .ref t1, .ref t2, .ref t3, .ref t4] [(("ValueError" : Str), true), (("BadForest" : Str), (c.ix == Ec.forest.ix)), (("BadPlace" : Str), (c.ix == Ec.place.ix)), (("BadRoom" : Str), false), (("BadRooms" : Str), (c.ix == Ec.rooms.ix))] := paired_app (_root_.L2.Paired.mapP p1 fun _ _ q => let ⟨t, e, h⟩ := q; ⟨t, e, x2 _ _ (w2 _ _ h)⟩) (.cons ⟨t3, rfl, x2 _ _ (v2 _ _ (u4 _ _ e3))⟩ (.cons ⟨t4, rfl, x2 _ _ (v2 _ _ e4)⟩ .nil))
    refine ⟨_, rfl, _, rfl, _, _, _, _, rfl, s2 _ _ hd, .own _, k.ii c .thing, (sz_small (by show 2 ≤ 1000; decide)), fun t5 g5 => ?_⟩
    have u5 : Same H2 (upd H2 t5 (.tup [.str "BadThing", .bl (c.ix == Ec.thing.ix)])) := Same.new g5
    have e5 : (upd H2 t5 (.tup [.str "BadThing", .bl (c.ix == Ec.thing.ix)])) t5 = some (.tup [.str "BadThing", .bl (c.ix == Ec.thing.ix)]) := upd_same
    generalize (upd H2 t5 (.tup [.str "BadThing", .bl (c.ix == Ec.thing.ix)])) = A5 at u5 e5 ⊢
    refine ⟨_, rfl, _, _, _, _, rfl, u5 _ _ (s2 _ _ hd), .own _, k.ii c .ring, (sz_small (by show 2 ≤ 1000; decide)), fun t6 g6 => ⟨(sz_small (by show 2 ≤ 1000; decide)), fun M3 hM3 => ?_⟩⟩
    have u6 : Same A5 (upd A5 t6 (.tup [.str "Ring", .bl (c.ix == Ec.ring.ix)])) := Same.new g6
    have e6 : (upd A5 t6 (.tup [.str "Ring", .bl (c.ix == Ec.ring.ix)])) t6 = some (.tup [.str "Ring", .bl (c.ix == Ec.ring.ix)]) := upd_same
    generalize (upd A5 t6 (.tup [.str "Ring", .bl (c.ix == Ec.ring.ix)])) = A6 at u6 e6 hM3 ⊢
    have v3 : Same A6 (upd A6 M3 (.lst [.ref t5, .ref t6])) := Same.new hM3
    have m3 : (upd A6 M3 (.lst [.ref t5, .ref t6])) M3 = some (.lst [.ref t5, .ref t6]) := upd_same
    generalize (upd A6 M3 (.lst [.ref t5, .ref t6])) = B3 at v3 m3 ⊢
    have w3 : Same H2 B3 := u5.trans (u6.trans v3)
    refine ⟨_, _, _, _, rfl, rfl, w3 _ _ l2, m3, by rw [sizeLine_eq]; show 5 + 2 ≤ 16777216; decide, fun L3 hL3 => ?_⟩
    have x3 : Same B3 (upd B3 L3 (.lst ([.ref t0, .ref t1, .ref t2, .ref t3, .ref t4] ++ [.ref t5, .ref t6]))) := Same.new hL3
    have l3 : (upd B3 L3 (.lst ([.ref t0, .ref t1, .ref t2, .ref t3, .ref t4] ++ [.ref t5, .ref t6]))) L3 = some (.lst [.ref t0, .ref t1, .ref t2, .ref t3, .ref t4, .ref t5, .ref t6]) := upd_same
    generalize (upd B3 L3 (.lst ([.ref t0, .ref t1, .ref t2, .ref t3, .ref t4] ++ [.ref t5, .ref t6]))) = H3 at x3 l3 ⊢
    have s3 : Same H H3 := s2.trans (w3.trans x3)
    have p3 : Paired (RowIs H3) [.ref t0, .ref t1, .ref t2, .ref t3, .ref t4, .ref t5, .ref t6] [(("ValueError" : Str), true), (("BadForest" : Str), (c.ix == Ec.forest.ix)), (("BadPlace" : Str), (c.ix == Ec.place.ix)), (("BadRoom" : Str), false), (("BadRooms" : Str), (c.ix == Ec.rooms.ix)), (("BadThing" : Str), (c.ix == Ec.thing.ix)), (("Ring" : Str), (c.ix == Ec.ring.ix))] := paired_app (_root_.L2.Paired.mapP p2 fun _ _ q => let ⟨t, e, h⟩ := q; ⟨t, e, x3 _ _ (w3 _ _ h)⟩) (.cons ⟨t5, rfl, x3 _ _ (v3 _ _ (u6 _ _ e5))⟩ (.cons ⟨t6, rfl, x3 _ _ (v3 _ _ e6)⟩ .nil))
    refine ⟨_, rfl, _, rfl, _, _, _, _, rfl, s3 _ _ hd, .own _, k.kt c, (sz_small (by show 2 ≤ 1000; decide)), fun t7 g7 => ?_⟩
    have u7 : Same H3 (upd H3 t7 (.tup [.str "TooMany", .bl false])) := Same.new g7
    have e7 : (upd H3 t7 (.tup [.str "TooMany", .bl false])) t7 = some (.tup [.str "TooMany", .bl false]) := upd_same
    generalize (upd H3 t7 (.tup [.str "TooMany", .bl false])) = A7 at u7 e7 ⊢
    refine ⟨_, rfl, _, _, _, _, rfl, u7 _ _ (s3 _ _ hd), .own _, k.ii c .within, (sz_small (by show 2 ≤ 1000; decide)), fun t8 g8 => ⟨(sz_small (by show 2 ≤ 1000; decide)), fun M4 hM4 => ?_⟩⟩
    have u8 : Same A7 (upd A7 t8 (.tup [.str "Within", .bl (c.ix == Ec.within.ix)])) := Same.new g8
    have e8 : (upd A7 t8 (.tup [.str "Within", .bl (c.ix == Ec.within.ix)])) t8 = some (.tup [.str "Within", .bl (c.ix == Ec.within.ix)]) := upd_same
    generalize (upd A7 t8 (.tup [.str "Within", .bl (c.ix == Ec.within.ix)])) = A8 at u8 e8 hM4 ⊢
    have v4 : Same A8 (upd A8 M4 (.lst [.ref t7, .ref t8])) := Same.new hM4
    have m4 : (upd A8 M4 (.lst [.ref t7, .ref t8])) M4 = some (.lst [.ref t7, .ref t8]) := upd_same
    generalize (upd A8 M4 (.lst [.ref t7, .ref t8])) = B4 at v4 m4 ⊢
    have w4 : Same H3 B4 := u7.trans (u8.trans v4)
    refine ⟨_, _, _, _, rfl, rfl, w4 _ _ l3, m4, by rw [sizeLine_eq]; show 7 + 2 ≤ 16777216; decide, fun L4 hL4 => ?_⟩
    have x4 : Same B4 (upd B4 L4 (.lst ([.ref t0, .ref t1, .ref t2, .ref t3, .ref t4, .ref t5, .ref t6] ++ [.ref t7, .ref t8]))) := Same.new hL4
    have l4 : (upd B4 L4 (.lst ([.ref t0, .ref t1, .ref t2, .ref t3, .ref t4, .ref t5, .ref t6] ++ [.ref t7, .ref t8]))) L4 = some (.lst [.ref t0, .ref t1, .ref t2, .ref t3, .ref t4, .ref t5, .ref t6, .ref t7, .ref t8]) := upd_same
    generalize (upd B4 L4 (.lst ([.ref t0, .ref t1, .ref t2, .ref t3, .ref t4, .ref t5, .ref t6] ++ [.ref t7, .ref t8]))) = H4 at x4 l4 ⊢
    have s4 : Same H H4 := s3.trans (w4.trans x4)
    have p4 : Paired (RowIs H4) [.ref t0, .ref t1, .ref t2, .ref t3, .ref t4, .ref t5, .ref t6, .ref t7, .ref t8] [(("ValueError" : Str), true), (("BadForest" : Str), (c.ix == Ec.forest.ix)), (("BadPlace" : Str), (c.ix == Ec.place.ix)), (("BadRoom" : Str), false), (("BadRooms" : Str), (c.ix == Ec.rooms.ix)), (("BadThing" : Str), (c.ix == Ec.thing.ix)), (("Ring" : Str), (c.ix == Ec.ring.ix)), (("TooMany" : Str), false), (("Within" : Str), (c.ix == Ec.within.ix))] := paired_app (_root_.L2.Paired.mapP p3 fun _ _ q => let ⟨t, e, h⟩ := q; ⟨t, e, x4 _ _ (w4 _ _ h)⟩) (.cons ⟨t7, rfl, x4 _ _ (v4 _ _ (u8 _ _ e7))⟩ (.cons ⟨t8, rfl, x4 _ _ (v4 _ _ e8)⟩ .nil))
    refine ⟨_, rfl, L4, rfl, ⟨_, SqL.of l4⟩, fun D1 hD1 => ?_⟩
    refine lc_rows (K := K) (j := 2) l4 p4 (show 2 < 3 by decide) (by show 9 ≤ 1000; decide) hD1 fun H5 s5 e5 => q H5 D1 (s4.trans s5) ?_
    rw [e5]
    cases c <;> rfl
end
end Ns
/-! the law's defs: heard -/
namespace Ns
open PySem PySem.Spec PyProof.Rows L2 HotX
open L2H (RoomH Hot1 PinOk cxH inv_startH)
open LamX (CodeO)
/-- heard: what it makes of the call's reading -/
def TTh (K : PySem.W.Frag) (ad : Ec → Addr) : (XK → Hp → VK → Prop) → Hp → VK → Prop := fun tl H Q =>
  tl (fun cls d H' => ∃ (c : Ec) (dd : Addr) (v : V) (w : PyData), cls = .ref (ad c) ∧ d = some dd ∧ H' dd = some (.xd [(("what" : Str), v)]) ∧ (∀ H'', Same H' H'' → Dp K H'' v w) ∧ Sm 8000 60 w ∧ ∀ H'' L, Same H' H'' → TxAt H'' L (.bad c w) → Q (.ref L) H'')
    H (fun v H' => rRepr K [v] H' fun x H2 => [V.str "told", x].length ≤ sizeLine ∧ ∀ L, H2 L = none → Q (.ref L) (upd H2 L (.lst [.str "told", x])))
theorem sc33 : FnScope ["_law_call", "_law_e"] ["_law_call"] (defScope (top 33)) := ⟨rfl, rfl, rfl, by decide +kernel, rfl, by decide +kernel, by decide +kernel⟩
theorem takesN0 {X : Cx} : L2N.Takes X (fun _ _ _ _ => False) := fun u s' ⟨a, B, sI, pins, σ, H, cls, d, e, I, nb, up, sky, na, os, ag, w⟩ => w.elim
section
variable {X : Cx} {ad : Ec → Addr} {D fI cda cc xr xt : Addr}
theorem heard_gives {q : Str} {g : Addr} {cdg : Value} {kk : Nat} (T : Tx X.prog X.K X.mg ad D fI cda cc) (k : Kt X.K X.mg ad D xr xt) (hgd : X.A.guards = some [])
    (hE : ∃ f fd, X.mg "_law_classes" = some (.ref f) ∧ PySem.W.keepIn X.K (.ref f) = true ∧ Binds X.K fd ["_law_e"] [] ∧ FnE X.prog X.w X.K X.mg X.base 1 f fd ["_law_e"] (spClasses ad)) :
    GivesN X ["_law_call", "_law_e"] "_law_heard" (defScope (top 33)) g cdg (defBody (top 33)) "_law_call" q kk (TTh X.K ad) := by
  intro f c' s H Q tl hr act hc h
  obtain ⟨fc, fdc, hmc, hkc, hbc, Fc⟩ := hE
  have hu : (X.A.deeper (envOfC "_law_heard" (defScope (top 33)) s.heap.objs.size g cdg)).units + 64 < cLine := Room.u64 hr
  refine ⟨_, pss_one (L2N.ps_try_as (X := (cxOf CX0 X.prog X.w X.K X.mg X.base ["_law_call", "_law_e"] "_law_heard" (defScope (top 33)) g cdg X.A X.stack s H E0).nox) (c := .ref D) (i := 1) (Wout := fun _ _ _ _ => False)
      (tb := fun W D' σ H => ∃ Ech : XK, (∀ cls d σ' H', Ech cls d H' → W cls d σ' H') ∧ σ[0]? = some (some (.ref f)) ∧ H c' = some (CodeO c' q) ∧ tl Ech H (fun v H' => rRepr X.K [v] H' fun x H2 => [V.str "told", x].length ≤ sizeLine ∧ ∀ L, H2 L = none → D'.rt (.ref L) (upd H2 L (.lst [.str "told", x]))))
      (ts := fun a cls d D' σ H => (∃ σ0 : L2.St, σ = σ0.set 1 (some (.ref a))) ∧ ∃ (c : Ec) (dd : Addr) (v : V) (w : PyData), cls = .ref (ad c) ∧ d = some dd ∧ H dd = some (.xd [(("what" : Str), v)]) ∧ (∀ H'', Same H H'' → Dp X.K H'' v w) ∧ Sm 8000 60 w ∧ ∀ H'' L, Same H H'' → TxAt H'' L (.bad c w) → D'.rt (.ref L) H'')
      rfl rfl sc33.nd rfl rfl ⟨by rfl, by decide, .inl k.gD⟩ takesN0 (fun W pn xe tk _ => ?_) (fun a oe cls d pn hz hf => ?_)), ?_⟩
  · refine ⟨fun pins s' σ H' D' I h' => ?_⟩
    obtain ⟨Ech, hW, h1, h2, h3⟩ := h'
    exact PSs.run (X := (cxOf CX0 X.prog X.w X.K X.mg X.base ["_law_call", "_law_e"] "_law_heard" (defScope (top 33)) g cdg X.A X.stack s H E0).nox.tr pn xe) (pss_one (ps_ret (pe_lst (pa_cons pe_str (pa_cons (pe_callB (call_reprD (X := (cxOf CX0 X.prog X.w X.K X.mg X.base ["_law_call", "_law_e"] "_law_heard" (defScope (top 33)) g cdg X.A X.stack s H E0).nox.tr pn xe) hgd hu) (by rfl) T.repr boot_repr (pa_cons (act W pn xe Ech _ _ tk hW) pa_nil)) pa_nil))))) pins s' σ H' D' I ⟨h1, h2, h3⟩
  · refine ⟨fun pins s' σ H' D' I h' => ?_⟩
    obtain ⟨⟨σ0, e0⟩, c, dd, v, w, ec, ed, hH, hd, sm, hQ⟩ := h'
    have hlen : σ0.length = 2 := by
      have := I.len
      rw [e0, List.length_set] at this
      exact this
    have hs1 : σ[1]? = some (some (.ref a)) := by rw [e0, List.getElem?_set_self (by omega)]
    have hzc := hz.zc
    rw [ec, ed] at hzc
    have hot : Hot1 ((cxOf CX0 X.prog X.w X.K X.mg X.base ["_law_call", "_law_e"] "_law_heard" (defScope (top 33)) g cdg X.A X.stack s H E0).nox.suite a ((a, oe) :: pn)).A (a, oe) := by
      obtain ⟨vs, hv⟩ := hf
      exact ⟨rfl, vs, hv, hz.2.2 vs hv⟩
    have hpn : (a, oe) ∈ ((cxOf CX0 X.prog X.w X.K X.mg X.base ["_law_call", "_law_e"] "_law_heard" (defScope (top 33)) g cdg X.A X.stack s H E0).nox.suite a ((a, oe) :: pn)).pn := List.mem_cons_self
    have hrH : RoomH 1 ((cxOf CX0 X.prog X.w X.K X.mg X.base ["_law_call", "_law_e"] "_law_heard" (defScope (top 33)) g cdg X.A X.stack s H E0).nox.suite a ((a, oe) :: pn)).A := by
      have r1 : L2.Room 1 (X.A.deeper (envOfC "_law_heard" (defScope (top 33)) s.heap.objs.size g cdg)) := L2.Room.mono hr (show 1 ≤ kk + 1 by omega)
      exact ⟨r1.dp, r1.un⟩
    refine PSs.run (X := (cxOf CX0 X.prog X.w X.K X.mg X.base ["_law_call", "_law_e"] "_law_heard" (defScope (top 33)) g cdg X.A X.stack s H E0).nox.suite a ((a, oe) :: pn)) (pss_one (ps_ret (pe_lst (pa_cons pe_str (pa_cons (pe_callE Fc hrH hot hpn (by rfl) hmc hkc hbc (pa_cons (pv 1) pa_nil)) (pa_cons (pe_callB (call_reprD (X := (cxOf CX0 X.prog X.w X.K X.mg X.base ["_law_call", "_law_e"] "_law_heard" (defScope (top 33)) g cdg X.A X.stack s H E0).nox.suite a ((a, oe) :: pn)) hgd hu) (by rfl) T.repr boot_repr (pa_cons (pe_what hpn hf (pv 1)) pa_nil)) pa_nil)))))) pins s' σ H' D' I ?_
    refine ⟨_, hs1, c, dd, v, rfl, hzc, hH, fun H1 L s1 e1 => ?_⟩
    refine ⟨_, hs1, ad c, dd, _, v, rfl, k.ek c, hzc, s1 _ _ hH, by rfl, v, w, rfl, hd _ s1, sm.sh, sm.nd, Nat.le_trans sm.len (by rw [sizeLine_eq]; decide), sm.dep, sz_small (by show 3 ≤ 1000; decide), fun L2 hL2 => ?_⟩
    exact hQ _ L2 (s1.trans (Same.new hL2)) ⟨L, upd_same, Same.new hL2 _ _ e1⟩
  · refine ⟨_, fun cls d σ' H' hE => ⟨true, ?_, fun _ a ha => ⟨⟨σ', rfl⟩, hE⟩, fun z => nomatch z⟩, rfl, hc, h⟩
    obtain ⟨c, dd, v, w, ec, _⟩ := hE
    rw [ec]
    exact k.xm c
end
end Ns
/-! the law: what its walk needs -/
namespace Ns
open PySem PySem.Spec PyProof.Rows L2
open LamX (CodeO TabS Tabs ExtN TabB LamS)
section
variable {K : PySem.W.Frag} {H H' : Hp}
mutual
theorem dp_same (s : Same H H') : ∀ (d : PyData) (v : V), Dp K H v d → Dp K H' v d
  | .none, _, h => by cases h; exact .non
  | .bool b, _, h => by cases h; exact .bl b
  | .int i, _, h => by cases h; exact .int i
  | .str x, _, h => by cases h; exact .str x
  | .list ds, _, h => by
    cases h with
    | lst hs ha => exact .lst (sq_same hs s) (dpAll_same s ds _ ha)
  | .tuple ds, _, h => by
    cases h with
    | tup hs ha => exact .tup (hs.elim (fun h => .inl (h.elim (fun h => .inl (s _ _ h)) fun ⟨o, h⟩ => .inr ⟨o, s _ _ h⟩)) fun h => .inr h) (dpAll_same s ds _ ha)
  | .dict _, _, h => by cases h
theorem dpAll_same (s : Same H H') : ∀ (ds : List PyData) (vs : List V), DpAll K H vs ds → DpAll K H' vs ds
  | [], _, h => by cases h; exact .nil
  | d :: ds, _, h => by
    cases h with
    | cons h t => exact .cons (dp_same s d _ h) (dpAll_same s ds _ t)
end
theorem TabS.but {p P : Addr} {q : Str} (s : Src H p) (b : But p H H') (t : TabS H P q) : TabS H' P q := by
  obtain ⟨bg, m, hp, _⟩ := s
  obtain ⟨ps, h1, h2, h3⟩ := t
  refine ⟨ps, b _ _ (fun e => by rw [e, hp] at h1; cases h1) h1, h2, fun pos cv hc => ?_⟩
  obtain ⟨c, e1, e2⟩ := h3 pos cv hc
  exact ⟨c, e1, b _ _ (fun e => by rw [e, hp] at e2; cases e2) e2⟩
theorem Tabs.but {p : Addr} {T : List (Addr × Str)} (s : Src H p) (b : But p H H') (t : Tabs T H) : Tabs T H' := fun z hz => TabS.but s b (t z hz)
theorem ExtN.ts (e : ExtN H H') : TS H H' := fun b xs h => e b _ h fun ps z => by cases z
theorem Src.extN {p : Addr} (s : Src H p) (e : ExtN H H') : Src H' p := by
  obtain ⟨b, m, hp, h⟩ := s
  exact ⟨b, m, e _ _ hp (fun ps z => by cases z), h⟩
theorem TxAt.same {L : Addr} : ∀ {o : Out}, TxAt H L o → Same H H' → TxAt H' L o
  | .bad c w, ⟨M, h1, h2⟩, s => ⟨M, s _ _ h1, s _ _ h2⟩
  | .told F, h, s => s _ _ h
theorem TxAt.extN {L : Addr} : ∀ {o : Out}, TxAt H L o → ExtN H H' → TxAt H' L o
  | .bad c w, ⟨M, h1, h2⟩, s => ⟨M, s _ _ h1 (fun ps z => by cases z), s _ _ h2 (fun ps z => by cases z)⟩
  | .told F, h, s => s _ _ h (fun ps z => by cases z)
theorem TxAt.dp {L : Addr} : ∀ {o : Out}, TxAt H L o → Dp K H (.ref L) o.text
  | .bad c w, ⟨M, h1, h2⟩ => .lst (SqL.of h1) (.cons (.str _) (.cons (.lst (SqL.of h2) (.cons (.str _) (.cons (.str _) .nil))) (.cons (.str _) .nil)))
  | .told F, h => .lst (SqL.of h) (.cons (.str _) (.cons (.str _) .nil))
end
theorem out_bad {rm : List Rm} {F : List Pl} {x : Int} {p : Pl} {c : Ec} {w : PyData} (h : out rm F x p = .bad c w) (hl : rm.length ≤ 24) (hF : F.length = rm.length) (x0 : -100 ≤ x) (x1 : x ≤ 100) (hp : SmPl p) : Sm 129 60 w := by
  unfold out at h
  cases e : fBad rm F with
  | some z =>
    obtain ⟨c', j⟩ := z
    rw [e] at h
    have h : Out.bad c' (.int (j : Nat)) = .bad c w := h
    cases h
    have hj : j < 24 := by
      unfold fBad at e
      cases e1 : fst (okRm rm) rm.length with
      | some i => rw [e1] at e; cases e; have := (fst_is_some e1).1; omega
      | none =>
        rw [e1] at e
        have e : (match fst (okAt rm F) F.length with | some j => some (Ec.forest, j) | none => match fst (fun j => !inSelf F j) F.length with | some j => some (Ec.ring, j) | none => none) = some (c, j) := e
        cases e2 : fst (okAt rm F) F.length with
        | some i => rw [e2] at e; cases e; have := (fst_is_some e2).1; omega
        | none =>
          rw [e2] at e
          have e : (match fst (fun j => !inSelf F j) F.length with | some j => some (Ec.ring, j) | none => none) = some (c, j) := e
          cases e3 : fst (fun j => !inSelf F j) F.length with
          | some i => rw [e3] at e; cases e; have := (fst_is_some e3).1; omega
          | none => rw [e3] at e; cases e
    exact (sm_small (by omega) (by omega)).mono (by decide) (Nat.le_refl _)
  | none =>
    rw [e] at h
    have h : rest rm F x p = .bad c w := h
    unfold rest at h
    by_cases hin : 0 ≤ x ∧ x < rm.length
    · rw [if_pos hin] at h
      by_cases hok : okPl (nums rm) x p = true
      · rw [if_pos hok] at h
        cases p with
        | floor => cases h
        | word z => cases h
        | row is => cases h
        | named z r => cases h
        | «at» g r =>
          have h : (if x ∈ anc F F.length g then Out.bad .within (.int g) else .told (F.set x.toNat (.at g r))) = .bad c w := h
          by_cases hm : x ∈ anc F F.length g
          · rw [if_pos hm] at h
            cases h
            unfold okPl at hok
            simp at hok
            have hn : (nums rm).length = rm.length := by unfold nums; rw [List.length_map]
            obtain ⟨⟨⟨⟨y1, y2⟩, y3⟩, y4⟩, y5⟩ := hok
            exact (sm_small (by omega) (by omega)).mono (by decide) (Nat.le_refl _)
          · rw [if_neg hm] at h
            cases h
      · rw [if_neg hok] at h
        cases h
        exact hp.mono (Nat.le_refl _) (by decide)
    · rw [if_neg hin] at h
      cases h
      exact (sm_small x0 x1).mono (by decide) (Nat.le_refl _)
theorem out_told {rm : List Rm} {F F' : List Pl} {x : Int} {p : Pl} (h : out rm F x p = .told F') : 0 ≤ x ∧ x < rm.length ∧ okPl (nums rm) x p = true ∧ F' = F.set x.toNat p := by
  unfold out at h
  cases e : fBad rm F with
  | some z => rw [e] at h; cases h
  | none =>
    rw [e] at h
    have h : rest rm F x p = .told F' := h
    unfold rest at h
    by_cases hin : 0 ≤ x ∧ x < rm.length
    · rw [if_pos hin] at h
      by_cases hok : okPl (nums rm) x p = true
      · rw [if_pos hok] at h
        refine ⟨hin.1, hin.2, hok, ?_⟩
        cases p with
        | floor => cases h; rfl
        | word z => cases h; rfl
        | row is => cases h; rfl
        | named z r => cases h; rfl
        | «at» g r =>
          have h : (if x ∈ anc F F.length g then Out.bad .within (.int g) else .told (F.set x.toNat (.at g r))) = .told F' := h
          by_cases hm : x ∈ anc F F.length g
          · rw [if_pos hm] at h; cases h
          · rw [if_neg hm] at h; cases h; rfl
      · rw [if_neg hok] at h; cases h
    · rw [if_neg hin] at h; cases h
theorem nums_num (rs : List Int) : nums (rs.map .num) = rs := by
  unfold nums
  rw [List.map_map]
  exact List.map_id' rs
/-- the place that was hung is as the forest's others -/
theorem ok_gd {rs : List Int} {x : Int} {p : Pl} (hrs : ∀ r, r ∈ rs → 0 ≤ r ∧ r ≤ 4) (h : okPl rs x p = true) : p = .floor ∨ ∃ g r, p = .at g r ∧ 0 ≤ g ∧ g < rs.length ∧ 0 ≤ r ∧ r ≤ 4 := by
  cases p with
  | floor => exact .inl rfl
  | word z => cases h
  | row is => cases h
  | named z r => cases h
  | «at» g r =>
    unfold okPl at h
    simp at h
    obtain ⟨⟨⟨⟨y1, y2⟩, y3⟩, y4⟩, y5⟩ := h
    have hl : g.toNat < rs.length := by omega
    have hm : rs.getD g.toNat 0 ∈ rs := by
      rw [List.getD_eq_getElem?_getD, List.getElem?_eq_getElem hl]
      exact List.getElem_mem hl
    have h4 := hrs _ hm
    rw [List.getD_eq_getElem?_getD] at h4
    refine .inr ⟨g, r, rfl, y1, y2, y4, ?_⟩
    have y5' : r < rs[g.toNat]?.getD 0 := y5
    omega
theorem text_lay {o : Out} {n : Nat} (h : ∀ c w, o = .bad c w → Sm n 60 w) (h' : ∀ F, o = .told F → Sm n 60 (.tuple (F.map Pl.dat))) : SeqAt.shaped o.text = true ∧ o.text.canLay0 = true := by
  have nm : ∀ c : Ec, PyData.strOk c.name = true := fun c => by cases c <;> decide +kernel
  have w1 : PyData.strOk ("refused" : Str) = true := by decide +kernel
  have w2 : PyData.strOk ("ValueError" : Str) = true := by decide +kernel
  have w3 : PyData.strOk ("told" : Str) = true := by decide +kernel
  cases o with
  | bad c w =>
    have e : (Out.bad c w).text.canLay0 = true := by
      simp only [Out.text, PyData.canLay0, PyData.canLayAll0, nm, w1, w2, (h c w rfl).ok, Bool.and_self]
    refine ⟨?_, e⟩
    unfold SeqAt.shaped
    rw [e]
    simp [Out.text, PyData.depth, PyData.depthAll]
  | told F =>
    have e : (Out.told F).text.canLay0 = true := by
      simp only [Out.text, PyData.canLay0, PyData.canLayAll0, w3, (h' F rfl).ok, Bool.and_self]
    refine ⟨?_, e⟩
    unfold SeqAt.shaped
    rw [e]
    simp [Out.text, PyData.depth, PyData.depthAll]
end Ns
/-! the law -/
namespace Ns
open PySem PySem.Spec PyProof.Rows L2
open LamX (CodeO TabS Tabs ExtN TabB LamS)
theorem ne_same {K : PySem.W.Frag} {H : Hp} {a b : Addr} {o : Out} {Q : VK} (ha : TxAt H a o) (hb : TxAt H b o) (hl : SeqAt.shaped o.text = true ∧ o.text.canLay0 = true) (q : Q (.bl false) H) : rNeD K (.ref a) (.ref b) H Q :=
  ⟨o.text, o.text, ha.dp, hb.dp, hl.1, hl.1, by rw [PySem.SeqAt.eqv_refl _ hl.2]; exact q⟩
theorem eq_same {K : PySem.W.Frag} {H : Hp} {a b : Addr} {o : Out} {Q : VK} (ha : TxAt H a o) (hb : TxAt H b o) (hl : SeqAt.shaped o.text = true ∧ o.text.canLay0 = true) (q : Q (.bl true) H) : rEqD K (.ref a) (.ref b) H Q :=
  ⟨o.text, o.text, ha.dp, hb.dp, hl.1, hl.1, by rw [PySem.SeqAt.eqv_refl _ hl.2]; exact q⟩
abbrev N41 : List Str := ["_law_script", "_law_source", "_law_many", "_law_rooms", "_law_forest", "_law_turn", "_law_x", "_law_place_here", "_law_due_here", "_law_places", "_law_spoilt_here", "_law_told", "_law_y"]
theorem sc41 : FnScope N41 ["_law_script"] (defScope (top 41)) := ⟨rfl, rfl, rfl, by decide +kernel, rfl, by decide +kernel, by decide +kernel⟩
def qLam : Str := (("law" : Str) ++ ".<locals>.") ++ "<lambda>"
def tabs (Pt : Addr) : List (Addr × Str) := [(Pt, qLam)]
def spLaw (K : PySem.W.Frag) (Pt : Addr) : Sp := fun vs H Q _ => ∃ (a : Addr) (js : List Int), vs = [.ref a] ∧ SqL K H a (js.map V.int) ∧ H Pt = some (.tbl #[]) ∧ ∀ H', Q (.bl true) H'
section
variable {P : Program} {w : World} {K : PySem.W.Frag} {mg : Str → Option Value} {base : Heap} {ad : Ec → Addr} {D fI cda cc xr xt : Addr}
theorem has_law {c Pt fL : Addr} {fdL : FuncData} (T : Tx P K mg ad D fI cda cc) (kt : Kt K mg ad D xr xt) (F : L2.Fun K "law" "law" (top 41) fL fdL)
    (lkc : ∀ oc od kV doc pm an cdv ct osl, K.lookup fL = some ⟨oc, od, .func (PySem.W.fnOf "law" "law" (defArgs (top 41)) (defBody (top 41)) (defScope (top 41)) .none kV doc pm an cdv ct), osl⟩ → cdv = .ref c) (TB : TabB base mg c Pt)
    (hE : ∃ f fd, mg "_law_classes" = some (.ref f) ∧ PySem.W.keepIn K (.ref f) = true ∧ Binds K fd ["_law_e"] [] ∧ FnE P w K mg base 1 f fd ["_law_e"] (spClasses ad)) (dH : Df K mg "_law_heard" 33)
    (hH : Has P w K mg base (L2N.CX P w) 5 "hung" ["rooms", "forest", "x", "place"] (spHung K ad))
    (hPo : Has P w K mg base CX0 1 "_law_pool" ["_law_script", "_law_k"] (spPool K)) (hT : Has P w K mg base CX0 1 "_law_take" ["_law_source", "_law_top"] spTake) (hO : Has P w K mg base CX0 2 "_law_one" ["_law_source", "_law_things"] spOne)
    (hGr : Has P w K mg base CX0 3 "_law_grown" ["_law_source", "_law_rooms"] spGrown) (hD : HasG P w K mg base CX0 3 "_law_due" ["_law_rooms", "_law_forest", "_law_x", "_law_place_here"] spDue)
    (hPl : Has P w K mg base CX0 3 "_law_place" ["_law_source", "_law_rooms", "_law_forest", "_law_x"] spPlaceD) (hSp : Has P w K mg base CX0 3 "_law_spoilt" ["_law_source", "_law_rooms", "_law_forest"] spSpoilt) :
    FnG P w K mg base CX0 8 fL fdL ["_law_script"] (spLaw K Pt) := by
  refine Fun.okG F sc41 (fun vs H Q E h => ?_) (fun cdv A outer s H vs Q E hr hgd h hlk => ?_)
  · obtain ⟨a, js, rfl, _⟩ := h
    rfl
  · obtain ⟨a, js, rfl, hx, hTb, k⟩ := h
    obtain ⟨od', oc', kV', doc', pm', an', ct', osl', lk'⟩ := hlk
    have ecd := lkc _ _ _ _ _ _ _ _ _ lk'
    subst ecd
    obtain ⟨fh, fdh, Fh, hmh⟩ := dH
    have bindh := Fh.binds (ps := ["_law_call"]) (fun _ _ _ _ _ _ us hl => match us, hl with | [_], _ => rfl)
    have kph := Fh.kp
    obtain ⟨oc, od, kV, doc, pm, an, cdh, ct, osl, rfl, lk, hcd⟩ := Fh.ex
    have hr1 : Room 1 _ := hr.mono (by decide)
    have hr2 : Room 2 _ := hr.mono (by decide)
    have hr3 : Room 3 _ := hr.mono (by decide)
    obtain ⟨tR, pR, qR⟩ : ∃ tR, PSs (cxOf CX0 P w K mg base N41 "law" (defScope (top 41)) fL (.ref c) A outer s H E).nox (List.drop 2 (defBody (top 41))) tR ∧ ∀ (n : Nat) (p : Addr) (H2 : Hp), 2 ≤ n → n ≤ 24 → Src H2 p → Tabs (tabs Pt) H2 → tR ({ nx := fun _ H' => Q .non H', rt := Q } : Ends) [some (.ref a), some (.ref p), some (.int (n : Nat)), none, none, none, none, none, none, none, none, none, none] H2 := by
      refine ⟨_, (pss_cons (ps_set (i := 3) sc41.nd rfl (Or.inr rfl) (pe_callTy call_tuple_of (by rfl) T.tuple boot_tuple (pa_cons (pe_lc (own := [("_law_x", 6)]) (g := gName 6) (tt := tYes) rfl sc41.nd (pi_range1 (by rfl) T.range (pa_cons (pv 2) pa_nil))
          (blkOk_by (own := [("_law_x", 6)]) (N := N41) (sc := defScope (top 41)) (by decide +kernel))
          (fun _ _ _ _ _ => pg_name (i := 6) sc41.nd rfl (Or.inl rfl)) (fun _ _ _ _ _ => pts_nil) (fun _ _ _ _ _ => pe_has hO hr2 pass0 (pa_cons (pv 1) (pa_cons (pe_lst (pa_cons pe_int (pa_cons pe_int (pa_cons pe_int (pa_cons pe_int (pa_cons pe_int (pa_cons pe_int (pa_cons pe_int pa_nil)))))))) pa_nil)))) pa_nil)))
      (pss_cons (ps_set (i := 4) sc41.nd rfl (Or.inr rfl) (pe_has hGr hr3 pass0 (pa_cons (pv 1) (pa_cons (pv 3) pa_nil))))
      (pss_cons (ps_for PassesOwn.never rfl (pi_range1 (by rfl) T.range (pa_cons pe_int pa_nil)) (pg_name (i := 5) sc41.nd rfl (Or.inl rfl))
        (pss_cons (ps_set (i := 6) sc41.nd rfl (Or.inr rfl) (pe_has hO hr2 pass0 (pa_cons (pv 1) (pa_cons (pe_lst (pa_cons (pe_has hT hr1 pass0 (pa_cons (pv 1) (pa_cons (pv 2) pa_nil))) (pa_cons (pe_has hT hr1 pass0 (pa_cons (pv 1) (pa_cons (pv 2) pa_nil)))
            (pa_cons (pe_has hT hr1 pass0 (pa_cons (pv 1) (pa_cons (pv 2) pa_nil))) (pa_cons (pv 2) (pa_cons (pe_op op_sub pe_int pe_int) pa_nil)))))) pa_nil))))
        (pss_cons (ps_set (i := 7) sc41.nd rfl (Or.inr rfl) (pe_has hPl hr3 pass0 (pa_cons (pv 1) (pa_cons (pv 3) (pa_cons (pv 4) (pa_cons (pv 6) pa_nil))))))
        (pss_cons (ps_set (i := 8) sc41.nd rfl (Or.inl rfl) (pe_hasG hD hr3 hgd pass0 (pa_cons (pv 3) (pa_cons (pv 4) (pa_cons (pv 6) (pa_cons (pv 7) pa_nil))))))
        (pss_cons (ps_if (pt_cmpR (op_neD (Room.u64 hr)) (pe_lamcallN (k := 5) (T := tabs Pt) (by rfl) hmh kph lk hcd bindh sc33 rfl (Or.inl rfl) (heard_gives T kt hgd hE) TB rfl (List.mem_singleton.mpr rfl) (fun p hp _ => by rw [List.mem_singleton.mp hp]; rfl) hr (LamX.lamS_by (sc := defScope (top 41)) (by decide +kernel)) (by rfl) (fun _ _ _ _ _ => by rfl)
            (fun A outer s H E f c' hr' => pe_has hH hr' (L2N.passes_call (L2N.takes_of rfl rfl rfl rfl) (fun _ _ _ _ h => h)) (pa_cons (pv 3) (pa_cons (pv 4) (pa_cons (pv 6) (pa_cons (pv 7) pa_nil))))))
            (pv 8) (nomark _)) (pss_one (ps_ret pe_bl)) pss_nil)
        (pss_one (ps_if (pt_cmpR op_eq (pe_ix (r := rIxL K) ix_list (pv 8) pe_int (fun _ _ => rfl)) pe_str (nomark _))
          (pss_cons (ps_setLc (i := 9) (own := [("_law_y", 12)]) (g := gName 12) (tt := tYes) rfl sc41.nd rfl rfl (sw_true rfl rfl rfl (by decide +kernel)) (pi_range1 (by rfl) T.range (pa_cons (pv 2) pa_nil))
            (blkOk_by (own := [("_law_y", 12)]) (N := N41) (sc := defScope (top 41)) (by decide +kernel))
            (fun _ _ _ _ _ => pg_name (i := 12) sc41.nd rfl (Or.inl rfl)) (fun _ _ _ _ _ => pts_nil) (fun _ _ _ _ _ => pe_ix (r := rIxT K) ix_tup (pv 4) (pv 12) (fun _ _ => rfl)))
          (pss_cons (ps_asg (pv 7) (pg_sub (pv 9) (pv 6) set_list))
          (pss_one (ps_set (i := 4) sc41.nd rfl (Or.inr rfl) (pe_callTy call_tuple_of (by rfl) T.tuple boot_tuple (pa_cons (pv 9) pa_nil)))))) pss_nil)))))))
      (pss_cons (ps_if (pt_cmpR op_gt (pe_has hT hr1 pass0 (pa_cons (pv 1) (pa_cons pe_int pa_nil))) pe_int (nomark _)) (pss_one (ps_ret pe_bl)) pss_nil)
      (pss_cons (ps_set (i := 6) sc41.nd rfl (Or.inr rfl) (pe_has hO hr2 pass0 (pa_cons (pv 1) (pa_cons (pe_lst (pa_cons pe_int (pa_cons (pv 2) (pa_cons (pe_op op_sub pe_int pe_int) pa_nil)))) pa_nil))))
      (pss_cons (ps_set (i := 10) sc41.nd rfl (Or.inr rfl) (pe_has hSp hr3 pass0 (pa_cons (pv 1) (pa_cons (pv 3) (pa_cons (pv 4) pa_nil)))))
      (pss_cons (ps_set (i := 7) sc41.nd rfl (Or.inr rfl) (pe_has hPl hr3 pass0 (pa_cons (pv 1) (pa_cons (pv 3) (pa_cons (pv 4) (pa_cons (pv 6) pa_nil))))))
      (pss_cons (ps_set (i := 11) sc41.nd rfl (Or.inl rfl) (pe_lamcallN (k := 5) (T := tabs Pt) (by rfl) hmh kph lk hcd bindh sc33 rfl (Or.inl rfl) (heard_gives T kt hgd hE) TB rfl (List.mem_singleton.mpr rfl) (fun p hp _ => by rw [List.mem_singleton.mp hp]; rfl) hr (LamX.lamS_by (sc := defScope (top 41)) (by decide +kernel)) (by rfl) (fun _ _ _ _ _ => by rfl)
            (fun A outer s H E f c' hr' => pe_has hH hr' (L2N.passes_call (L2N.takes_of rfl rfl rfl rfl) (fun _ _ _ _ h => h)) (pa_cons (pe_ix (r := rIxT K) ix_tup (pv 10) pe_int (fun _ _ => rfl)) (pa_cons (pe_ix (r := rIxT K) ix_tup (pv 10) pe_int (fun _ _ => rfl)) (pa_cons (pv 6) (pa_cons (pv 7) pa_nil)))))))
      (pss_one (ps_ret (pe_cmpR (op_eqD (Room.u64 hr)) (pv 11) (pe_hasG hD hr3 hgd pass0 (pa_cons (pe_ix (r := rIxT K) ix_tup (pv 10) pe_int (fun _ _ => rfl)) (pa_cons (pe_ix (r := rIxT K) ix_tup (pv 10) pe_int (fun _ _ => rfl)) (pa_cons (pv 6) (pa_cons (pv 7) pa_nil))))) (nomark _)))))))))))), ?_⟩
      intro n p H2 n2 n24 hs2 tb2
      refine ⟨_, rfl, (n : Int), rfl, by omega, by omega, fun L hL => ?_⟩
      have nL : L ≠ p := hs2.nn hL
      refine lc_range (lo := 0) (n := ((n : Nat) : Int).toNat) (fun i H' => Src H' p ∧ But p H2 H' ∧ ∃ rs : List Int, H' L = some (.lst (rs.map V.int)) ∧ rs.length = i ∧ ∀ r, r ∈ rs → 0 ≤ r ∧ r ≤ 4) ⟨hs2.put nL, (But.refl p H2).put hL, [], upd_same, rfl, fun r h => absurd h (by simp)⟩ ?_ ?_
      · rintro i H' hi ⟨hs', b', rs, e, l, m⟩
        have hi : i < n := by simpa using hi
        refine ⟨rfl, ?_⟩
        refine ⟨_, rfl, (sz_small (by show 7 ≤ 1000; decide)), fun W hW => ?_⟩
        have sW : Same H' (upd H' W (.lst [.int 1, .int 1, .int 2, .int 0, .int 1, .int 3, .int 4])) := Same.new hW
        refine ⟨p, W, _, rfl, hs'.same sW, upd_same, hs'.nn hW, by show 1 ≤ 7; decide, by show 7 ≤ 1000; decide, fun y H3 hy hs3 b3 => ?_⟩
        obtain ⟨r, rfl, r0, r4⟩ : ∃ r : Int, y = .int r ∧ 0 ≤ r ∧ r ≤ 4 := by
          simp only [List.mem_cons, List.not_mem_nil, or_false] at hy
          rcases hy with rfl | rfl | rfl | rfl | rfl | rfl | rfl
          · exact ⟨1, rfl, by decide, by decide⟩
          · exact ⟨1, rfl, by decide, by decide⟩
          · exact ⟨2, rfl, by decide, by decide⟩
          · exact ⟨0, rfl, by decide, by decide⟩
          · exact ⟨1, rfl, by decide, by decide⟩
          · exact ⟨3, rfl, by decide, by decide⟩
          · exact ⟨4, rfl, by decide, by decide⟩
        have bT : But p H' H3 := (But.of sW).trans b3
        have e3 := bT _ _ nL e
        refine ⟨_, e3, Nat.lt_of_le_of_lt (show (rs.map V.int).length ≤ 24 by rw [List.length_map]; omega) (by rw [sizeLine_eq]; decide), hs3.put nL, (b'.trans bT).put hL, rs ++ [r], ?_, by rw [List.length_append, l]; rfl, fun z hz => ?_⟩
        · rw [upd_same, List.map_append]
          rfl
        · rcases List.mem_append.mp hz with hz | hz
          · exact m z hz
          · have e : z = r := by simpa using hz
            rw [e]
            exact ⟨r0, r4⟩
      · rintro H3 ⟨hs3, b3, rs, e3, l3, hrs⟩
        have l3 : rs.length = n := by simpa using l3
        refine ⟨L, _, rfl, .inl ⟨SqL.of e3, fun R hR => ?_⟩⟩
        have sR : Same H3 (upd H3 R (.tup (rs.map V.int))) := Same.new hR
        have hs4 := hs3.same sR
        have eR : (upd H3 R (.tup (rs.map V.int))) R = some (.tup (rs.map V.int)) := upd_same
        have tb4 : Tabs (tabs Pt) (upd H3 R (.tup (rs.map V.int))) := Tabs.but hs2 (b3.trans (But.of sR)) tb2
        generalize (upd H3 R (.tup (rs.map V.int))) = H4 at hs4 eR tb4 ⊢
        refine ⟨_, rfl, _, rfl, p, R, rs, rfl, hs4, eR, by omega, hrs, fun H5 Fo F hF gd hs5 b5 => ?_⟩
        have eR5 := b5.ts hs4 _ _ eR
        have tb5 := Tabs.but hs4 b5 tb4
        refine ⟨5, rfl, by decide, by decide, ?_⟩
        refine for_range (lo := 0) (n := (5 : Int).toNat) (fun i σ H' => ∃ Fo F v5 v6 v7 v8 v9, σ = [some (.ref a), some (.ref p), some (.int (n : Nat)), some (.ref R), some (.ref Fo), v5, v6, v7, v8, v9, none, none, none] ∧ Src H' p ∧ H' R = some (.tup (rs.map V.int)) ∧ FoAt H' Fo F ∧ Gd rs.length F ∧ Tabs (tabs Pt) H')
          ⟨Fo, F, none, none, none, none, none, rfl, hs5, eR5, hF, gd, tb5⟩ ?_ ?_
        · rintro i σ H0 hi ⟨Fo, F, v5, v6, v7, v8, v9, rfl, hs0, eR0, hF0, gd, tb0⟩
          refine ⟨_, rfl, _, rfl, _, rfl, p, _, rfl, hs0, by omega, by omega, fun x1 H1 p0 p1 hs1 b1 => ?_⟩
          refine ⟨_, rfl, _, rfl, p, _, rfl, hs1, by omega, by omega, fun x2 H1b p2 p3 hs1b b1b => ?_⟩
          refine ⟨_, rfl, _, rfl, p, _, rfl, hs1b, by omega, by omega, fun x3 H1c p4 p5 hs1c b1c => ?_⟩
          refine ⟨_, rfl, _, _, rfl, rfl, (sz_small (by show 5 ≤ 1000; decide)), fun W hW => ?_⟩
          have sW : Same H1c (upd H1c W (.lst [.int x1, .int x2, .int x3, .int (n : Nat), .int (0 - 1)])) := Same.new hW
          refine ⟨p, W, _, rfl, hs1c.same sW, upd_same, hs1c.nn hW, by show 1 ≤ 5; decide, by show 5 ≤ 1000; decide, fun y H4 hy hs4 b4 => ?_⟩
          obtain ⟨x, rfl, x0, x1'⟩ : ∃ x : Int, y = .int x ∧ -1 ≤ x ∧ x ≤ 24 := by
            simp only [List.mem_cons, List.not_mem_nil, or_false] at hy
            rcases hy with rfl | rfl | rfl | rfl | rfl
            · exact ⟨_, rfl, by omega, by omega⟩
            · exact ⟨_, rfl, by omega, by omega⟩
            · exact ⟨_, rfl, by omega, by omega⟩
            · exact ⟨_, rfl, by omega, by omega⟩
            · exact ⟨_, rfl, by omega, by omega⟩
          have b04 : But p H0 H4 := b1.trans (b1b.trans (b1c.trans ((But.of sW).trans b4)))
          have eR4 := b04.ts hs0 _ _ eR0
          have hF4 := hF0.mono (b04.ts hs0)
          refine ⟨_, rfl, _, rfl, _, rfl, _, rfl, p, R, Fo, x, rs, F, rfl, hs4, eR4, by omega, by omega, hrs, hF4, gd, x0, x1', fun H5 v pl hv spl hs5 b5 => ?_⟩
          have b05 := b04.trans b5
          have eR5 := b05.ts hs0 _ _ eR0
          have hF5 := hF0.mono (b05.ts hs0)
          have hRm : ∀ H', H' R = some (.tup (rs.map V.int)) → RmAt H' R (rs.map .num) := fun H' h => by unfold RmAt; rw [num_v]; exact h
          have gsm := gd.sm (show rs.length ≤ 24 by omega)
          refine ⟨_, rfl, _, rfl, _, rfl, _, rfl, R, Fo, x, v, rs.map .num, F, pl, rfl, hRm _ eR5, by rw [List.length_map]; omega, hF5, by rw [List.length_map]; exact gd.1, hv, spl, gsm, by omega, by omega, fun H6 L0 s6 tx => ?_⟩
          have tb6 : Tabs (tabs Pt) H6 := (Tabs.but hs0 b05 tb0).ext s6
          refine ⟨tb6, fun H7 e7 tb7 => ?_⟩
          have e7s := ExtN.ts e7
          have t57 : TS H5 H7 := (TS.of s6).trans e7s
          have eR7 := t57 _ _ eR5
          have hF7 := hF5.mono t57
          have hv7 := hv.mono t57
          have hs7 := (hs5.same s6).extN e7
          have tx7 := tx.extN e7
          have lay : SeqAt.shaped (out (rs.map .num) F x pl).text = true ∧ (out (rs.map .num) F x pl).text.canLay0 = true :=
            text_lay (n := 8000) (fun c w h => (out_bad h (by rw [List.length_map]; omega) (by rw [List.length_map]; exact gd.1) (by omega) (by omega) spl).mono (by decide) (Nat.le_refl _))
              (fun F' h => by
                obtain ⟨_, _, _, e⟩ := out_told h
                rw [e]
                exact (told_sm (sm_set gsm spl) (by rw [List.length_set, gd.1]; omega)).mono (by decide) (Nat.le_refl _))
          refine ⟨_, rfl, _, rfl, _, rfl, _, rfl, R, Fo, x, v, rs.map .num, F, pl, rfl, hRm _ eR7, by rw [List.length_map]; omega, hF7, by rw [List.length_map]; exact gd.1, hv7, ?_, ?_⟩
          · intro c w ho H8 d v' s8 hd hdp
            refine ⟨c, d, v', w, rfl, rfl, hd, fun H'' s => dp_same s _ _ hdp, (out_bad ho (by rw [List.length_map]; omega) (by rw [List.length_map]; exact gd.1) (by omega) (by omega) spl).mono (by decide) (Nat.le_refl _), fun H9 L1 s9 t9 => ?_⟩
            have s79 := s8.trans s9
            have tx9 := tx7.same s79
            refine ⟨_, rfl, ?_⟩
            refine ne_same (K := K) (o := out (rs.map .num) F x pl) (by rw [ho]; exact t9) tx9 lay ?_
            refine ⟨_, rfl, iteF ?_⟩
            rw [ho] at tx9
            obtain ⟨M, eL0, eM⟩ := tx9
            refine ⟨_, rfl, L0, _, 0, .str "refused", rfl, rfl, SqL.of eL0, at_of (j := 0) rfl rfl, rfl, _, rfl, if_false_of (by decide +kernel) ?_⟩
            exact ⟨Fo, F, _, _, _, _, _, rfl, hs7.same s79, s79 _ _ eR7, hF7.mono (TS.of s79), gd, tb7.ext s79⟩
          · intro F' ho H8 t s8 hF8
            obtain ⟨xin0, xin1, xok, eF⟩ := out_told ho
            have xin1 : x < rs.length := by rw [List.length_map] at xin1; exact xin1
            rw [nums_num] at xok
            have smT : Sm (24 * 131 + 3) 60 (.tuple (F'.map Pl.dat)) := by
              rw [eF]
              exact told_sm (sm_set gsm spl) (by rw [List.length_set, gd.1]; omega)
            refine ⟨_, _, rfl, hF8.dp, smT.sh, smT.nd, Nat.le_trans smT.len (by rw [sizeLine_eq]; decide), smT.dep, (sz_small (by show 2 ≤ 1000; decide)), fun L1 hL1 => ?_⟩
            have s9 : Same H8 (upd H8 L1 (.lst [.str "told", .str (PyData.tuple (F'.map Pl.dat)).shown])) := Same.new hL1
            have t9 : TxAt (upd H8 L1 (.lst [.str "told", .str (PyData.tuple (F'.map Pl.dat)).shown])) L1 (.told F') := upd_same
            generalize (upd H8 L1 (.lst [.str "told", .str (PyData.tuple (F'.map Pl.dat)).shown])) = H9 at s9 t9 ⊢
            have s79 := s8.trans s9
            have tx9 := tx7.same s79
            refine ⟨_, rfl, ?_⟩
            refine ne_same (K := K) (o := out (rs.map .num) F x pl) (by rw [ho]; exact t9) tx9 lay ?_
            refine ⟨_, rfl, iteF ?_⟩
            rw [ho] at tx9
            have eL0 : H9 L0 = some (.lst [.str "told", .str (PyData.tuple (F'.map Pl.dat)).shown]) := tx9
            refine ⟨_, rfl, L0, _, 0, .str "told", rfl, rfl, SqL.of eL0, at_of (j := 0) rfl rfl, rfl, _, rfl, if_true_of (by decide +kernel) ?_⟩
            have hs9 := hs7.same s79
            have eR9 := s79 _ _ eR7
            have hv9 := hv7.mono (TS.of s79)
            have tb9 := tb7.ext s79
            obtain ⟨xs, hx9, rp⟩ := hF7.mono (TS.of s79)
            have g1 := gd.1
            have hlen : xs.length = F.length := rp.length
            refine ⟨_, rfl, (n : Int), rfl, by omega, by omega, fun L4 hL4 => ?_⟩
            refine lc_range (lo := 0) (n := ((n : Nat) : Int).toNat) (fun i H' => Same H9 H' ∧ H' L4 = some (.lst (xs.take i))) ⟨Same.new hL4, upd_same⟩ ?_ ?_
            · rintro i H' hi ⟨s8, e8⟩
              have hi : i < n := by simpa using hi
              obtain ⟨u, hu⟩ : ∃ u, xs[i]? = some u := ⟨_, List.getElem?_eq_getElem (by omega)⟩
              refine ⟨rfl, ?_⟩
              refine ⟨_, rfl, _, rfl, Fo, xs, _, u, rfl, rfl, SqT.of (s8 _ _ hx9), at_of (j := i) (by omega) hu, _, e8, Nat.lt_of_le_of_lt (show (xs.take i).length ≤ 24 by rw [List.length_take]; omega) (by rw [sizeLine_eq]; decide), Same.put s8 hL4, ?_⟩
              rw [upd_same, take_more hu]
            · rintro H10 ⟨s10, e10⟩
              have e10 : H10 L4 = some (.lst xs) := by
                rw [e10, List.take_of_length_le (by rw [hlen]; simp; omega)]
              refine ⟨_, rfl, _, rfl, _, rfl, L4, xs, x, x.toNat, rfl, rfl, e10, ?_, ?_⟩
              · have z := ixN_ok (n := xs.length) (j := x.toNat) (by omega)
                rw [show ((x.toNat : Nat) : Int) = x by omega] at z
                exact z
              · have s11 : Same H9 (upd H10 L4 (.lst (xs.set x.toNat v))) := Same.put s10 hL4
                refine ⟨_, rfl, L4, _, rfl, .inl ⟨SqL.of upd_same, fun t2 ht2 => ?_⟩⟩
                have s12 := s11.trans (Same.new (o := .tup (xs.set x.toNat v)) ht2)
                exact ⟨t2, F.set x.toNat pl, _, _, _, _, _, rfl, hs9.same s12, s12 _ _ eR9, ⟨_, upd_same, paired_set (hv9.mono (TS.of s12)) _ (_root_.L2.Paired.mapP rp fun _ _ q => q.mono (TS.of s12))⟩, gd.set _ (ok_gd hrs xok), tb9.ext s12⟩
        · rintro σ H0 ⟨Fo, F, v5, v6, v7, v8, v9, rfl, hs0, eR0, hF0, gd, tb0⟩
          have g1 := gd.1
          have gsm := gd.sm (show rs.length ≤ 24 by omega)
          refine ⟨_, rfl, p, 5, rfl, hs0, by decide, by decide, fun r H1 r0 r1 hs1 b1 => ⟨_, _, rfl, rfl, _, rfl, ite2 (fun _ => k H1) (fun _ => ?_)⟩⟩
          refine ⟨_, rfl, _, rfl, _, _, rfl, rfl, (sz_small (by show 3 ≤ 1000; decide)), fun W hW => ?_⟩
          have sW : Same H1 (upd H1 W (.lst [.int 0, .int (n : Nat), .int (0 - 1)])) := Same.new hW
          refine ⟨p, W, _, rfl, hs1.same sW, upd_same, hs1.nn hW, by show 1 ≤ 3; decide, by show 3 ≤ 1000; decide, fun y H4 hy hs4 b4 => ?_⟩
          obtain ⟨x, rfl, x0, x1'⟩ : ∃ x : Int, y = .int x ∧ -1 ≤ x ∧ x ≤ 24 := by
            simp only [List.mem_cons, List.not_mem_nil, or_false] at hy
            rcases hy with rfl | rfl | rfl
            · exact ⟨_, rfl, by omega, by omega⟩
            · exact ⟨_, rfl, by omega, by omega⟩
            · exact ⟨_, rfl, by omega, by omega⟩
          have b04 : But p H0 H4 := b1.trans ((But.of sW).trans b4)
          have eR4 := b04.ts hs0 _ _ eR0
          have hF4 := hF0.mono (b04.ts hs0)
          have tb4 := Tabs.but hs0 b04 tb0
          refine ⟨_, rfl, _, rfl, _, rfl, p, R, Fo, rs, F, rfl, hs4, eR4, by omega, by omega, hF4, gd, fun H5 t R' Fo' rm F' et hRm lrm hF' lF' smF' hs5 b5 => ?_⟩
          have eR5 := b5.ts hs4 _ _ eR4
          have hF5 := hF4.mono (b5.ts hs4)
          have tb5 := Tabs.but hs4 b5 tb4
          refine ⟨_, rfl, _, rfl, _, rfl, _, rfl, p, R, Fo, x, rs, F, rfl, hs5, eR5, by omega, by omega, hrs, hF5, gd, x0, x1', fun H6 v pl hv spl hs6 b6 => ?_⟩
          have et6 := b6.ts hs5 _ _ et
          have hRm6 := hRm.mono (b6.ts hs5)
          have hF6 := hF'.mono (b6.ts hs5)
          have tb6 := Tabs.but hs5 b6 tb5
          refine ⟨tb6, fun H7 e7 tb7 => ?_⟩
          have e7s := ExtN.ts e7
          have et7 := e7s _ _ et6
          have hRm7 := hRm6.mono e7s
          have hF7 := hF6.mono e7s
          have hv7 := hv.mono e7s
          have lay : SeqAt.shaped (out rm F' x pl).text = true ∧ (out rm F' x pl).text.canLay0 = true :=
            text_lay (n := 8000) (fun c w h => (out_bad h (by omega) (by omega) (by omega) (by omega) spl).mono (by decide) (Nat.le_refl _))
              (fun F2 h => by
                obtain ⟨_, _, _, e⟩ := out_told h
                rw [e]
                exact (told_sm (sm_set smF' spl) (by rw [List.length_set]; omega)).mono (by decide) (Nat.le_refl _))
          refine ⟨_, rfl, t, _, 0, _, rfl, rfl, SqT.of et7, at_of (j := 0) rfl rfl, _, rfl, t, _, 1, _, rfl, rfl, SqT.of et7, at_of (j := 1) rfl rfl, _, rfl, _, rfl, R', Fo', x, v, rm, F', pl, rfl, hRm7, by omega, hF7, by omega, hv7, ?_, ?_⟩
          · intro c w ho H8 d v' s8 hd hdp
            refine ⟨c, d, v', w, rfl, rfl, hd, fun H'' s => dp_same s _ _ hdp, (out_bad ho (by omega) (by omega) (by omega) (by omega) spl).mono (by decide) (Nat.le_refl _), fun H9 L1 s9 t9 => ?_⟩
            have s79 := s8.trans s9
            have t79 := TS.of s79
            refine ⟨_, rfl, _, rfl, t, _, 0, _, rfl, rfl, SqT.of (t79 _ _ et7), at_of (j := 0) rfl rfl, _, rfl, t, _, 1, _, rfl, rfl, SqT.of (t79 _ _ et7), at_of (j := 1) rfl rfl, _, rfl, _, rfl, R', Fo', x, v, rm, F', pl, rfl, hRm7.mono t79, by omega, hF7.mono t79, by omega, hv7.mono t79, spl, smF', by omega, by omega, fun H12 L0 s12 tx => ?_⟩
            exact eq_same (K := K) (o := out rm F' x pl) (by rw [ho]; exact t9.same s12) tx lay (k _)
          · intro F2 ho H8 t2 s8 hF8
            obtain ⟨xin0, xin1, xok, eF⟩ := out_told ho
            have smT : Sm (24 * 131 + 3) 60 (.tuple (F2.map Pl.dat)) := by
              rw [eF]
              exact told_sm (sm_set smF' spl) (by rw [List.length_set]; omega)
            refine ⟨_, _, rfl, hF8.dp, smT.sh, smT.nd, Nat.le_trans smT.len (by rw [sizeLine_eq]; decide), smT.dep, (sz_small (by show 2 ≤ 1000; decide)), fun L1 hL1 => ?_⟩
            have s9 : Same H8 (upd H8 L1 (.lst [.str "told", .str (PyData.tuple (F2.map Pl.dat)).shown])) := Same.new hL1
            have t9 : TxAt (upd H8 L1 (.lst [.str "told", .str (PyData.tuple (F2.map Pl.dat)).shown])) L1 (.told F2) := upd_same
            generalize (upd H8 L1 (.lst [.str "told", .str (PyData.tuple (F2.map Pl.dat)).shown])) = H9 at s9 t9 ⊢
            have s79 := s8.trans s9
            have t79 := TS.of s79
            refine ⟨_, rfl, _, rfl, t, _, 0, _, rfl, rfl, SqT.of (t79 _ _ et7), at_of (j := 0) rfl rfl, _, rfl, t, _, 1, _, rfl, rfl, SqT.of (t79 _ _ et7), at_of (j := 1) rfl rfl, _, rfl, _, rfl, R', Fo', x, v, rm, F', pl, rfl, hRm7.mono t79, by omega, hF7.mono t79, by omega, hv7.mono t79, spl, smF', by omega, by omega, fun H12 L0 s12 tx => ?_⟩
            exact eq_same (K := K) (o := out rm F' x pl) (by rw [ho]; exact t9.same s12) tx lay (k _)
    refine ⟨_, PSs.nox (pss_cons (ps_set (i := 1) sc41.nd rfl (Or.inr rfl) (pe_has hPo hr1 pass0 (pa_cons (pv 0) (pa_cons pe_int pa_nil))))
      (pss_cons (ps_set (i := 2) sc41.nd rfl (Or.inl rfl) (pe_ifExp (pt_cmpR op_eq (pe_has hT hr1 pass0 (pa_cons (pv 1) (pa_cons pe_int pa_nil))) pe_int (nomark _)) pe_int (pe_op op_add pe_int (pe_has hT hr1 pass0 (pa_cons (pv 1) (pa_cons pe_int pa_nil))))))
      pR)), ?_⟩
    refine ⟨_, rfl, a, js, rfl, hx, fun p H1 hp0 hs1 s1 => ?_⟩
    have tb1 : Tabs (tabs Pt) H1 := fun z hz => by
      rw [List.mem_singleton.mp hz]
      exact TabS.nil (s1 _ _ hTb)
    refine ⟨_, rfl, p, 6, rfl, hs1, by decide, by decide, fun r H2 r0 r1 hs2 b2 => ⟨rfl, _, rfl, ite2 (fun _ => ?_) (fun _ => ?_)⟩⟩
    · exact qR 24 p H2 (by decide) (by decide) hs2 (Tabs.but hs1 b2 tb1)
    · refine ⟨_, rfl, p, 6, rfl, hs2, by decide, by decide, fun r' H3 q0 q1 hs3 b3 => ⟨_, _, rfl, rfl, ?_⟩⟩
      have e : (2 : Int) + r' = (((2 + r').toNat : Nat) : Int) := by omega
      have z := qR (2 + r').toNat p H3 (by omega) (by omega) hs3 (Tabs.but hs1 (b2.trans b3) tb1)
      rw [← e] at z
      exact z
end
end Ns
/-! the end: the law is called where no repr is running -/
namespace Ns
open PySem PySem.Spec PyProof.Rows L2
open LamX (TabB)
section
variable {P : Program} {w : World} {K : PySem.W.Frag} {mg mb : Str → Option Value} {s : Shared} {a Pt c : Addr} {vs : List Value} {ns : List Int}
/-- what is followed at the law's call: its own table, the script where it is no part of the written state -/
def seen (K : PySem.W.Frag) (Pt a : Addr) (vs : List Value) (ns : List Int) : Hp := fun b =>
  if b = Pt then some (.tbl #[]) else if b = a ∧ K.lookup a = none then some (.frz { cls := .type "list", data := .seq vs.toArray } (.lst (ns.map V.int))) else none
theorem seen_tab : seen K Pt a vs ns Pt = some (.tbl #[]) := if_pos rfl
theorem seen_cases {b : Addr} {u : HO} (h : seen K Pt a vs ns b = some u) : (b = Pt ∧ u = .tbl #[]) ∨ (b = a ∧ K.lookup a = none ∧ u = .frz { cls := .type "list", data := .seq vs.toArray } (.lst (ns.map V.int))) := by
  unfold seen at h
  by_cases e : b = Pt
  · rw [if_pos e] at h
    exact .inl ⟨e, (Option.some.inj h).symm⟩
  · rw [if_neg e] at h
    by_cases e2 : b = a ∧ K.lookup a = none
    · rw [if_pos e2] at h
      exact .inr ⟨e2.1, e2.2, (Option.some.inj h).symm⟩
    · rw [if_neg e2] at h
      cases h
/-- the base's state holds what is not followed -/
theorem unseen {b : Addr} {o : Obj} (hT : s.heap.get? Pt = some { cls := .none, data := .fields #[] }) (ha : s.heap.get? a = some { cls := .type "list", data := .seq vs.toArray }) (h : s.heap.get? b = some o) (n1 : o.data ≠ .fields #[]) (n2 : ∀ xs n, o.data ≠ .seq xs n) : seen K Pt a vs ns b = none := by
  cases e : seen K Pt a vs ns b with
  | none => rfl
  | some u =>
    rcases seen_cases e with ⟨z, _⟩ | ⟨z, _, _⟩
    · rw [z, hT] at h
      cases h
      exact absurd rfl n1
    · rw [z, ha] at h
      cases h
      exact absurd rfl (n2 _ _)
theorem law_endG {k : Nat} {fa : Addr} {fd : FuncData} {x : Str} {sp : Sp} (KX : K.In s.heap) (hns : s.heap.Ns mainGlobals mg) (hb : s.heap.Ns builtinsNs mb) (hbb : ∀ x : Str, x ≠ "__name__" → mb x = bootBuiltins x) (hlim : s.heap.NoLimit) (hg : s.gens = #[])
    (hT : s.heap.get? Pt = some { cls := .none, data := .fields #[] }) (nT : K.lookup Pt = none) (hC : PySem.W.CodeHd s.heap c Pt)
    (hbm : ∃ (bm : Addr) (ob : Obj), mg "__builtins__" = some (.ref bm) ∧ bm ≠ builtinsNs ∧ s.heap.get? bm = some ob ∧ ob.cls = .type "module" ∧ ob.dict = some builtinsNs ∧ ob.data = .plain)
    (ha : s.heap.get? a = some { cls := .type "list", data := .seq vs.toArray }) (hi : IntsAre vs ns) (hl : ns.length ≤ sizeLine) (hr : Room k callerA) (F : ∀ base : Heap, K.In base → base.Ns mainGlobals mg → TabB base mg c Pt → FnG P w K mg base CX0 k fa fd [x] sp)
    (hbind : ∀ (s : Shared) (u : Value), BindsTo s fd ⟨[u], []⟩ [(x, u)]) (hsp : ∀ H : Hp, H Pt = some (.tbl #[]) → SqL K H a (ns.map V.int) → sp [.ref a] H (fun v _ => v = .bl true) fun _ _ _ => False) :
    codeAny (model P w) callerA (.call (.ref fa) ⟨[.ref a], []⟩) (fun r s' => r = .ok (.ret (.bool true)) ∧ OldK s.heap s'.heap ∧ s'.os = s.os ∧ AllBare s'.gens) s := by
  have rv := vals_ints hi
  have lenV := hi.length
  generalize hH : seen K Pt a vs ns = H
  have e1 : H Pt = some (.tbl #[]) := by rw [← hH]; exact seen_tab
  have cs : ∀ {b : Addr} {u : HO}, H b = some u → (b = Pt ∧ u = .tbl #[]) ∨ (b = a ∧ K.lookup a = none ∧ u = .frz { cls := .type "list", data := .seq vs.toArray } (.lst (ns.map V.int))) := fun h => seen_cases (by rw [hH]; exact h)
  have un : ∀ {b : Addr} {o : Obj}, s.heap.get? b = some o → o.data ≠ .fields #[] → (∀ xs n, o.data ≠ .seq xs n) → H b = none := fun h h1 h2 => by rw [← hH]; exact unseen hT ha h h1 h2
  have naP : a ≠ Pt := fun z => by
    rw [z, hT] at ha
    cases ha
  have hS : SqL K H a (ns.map V.int) := by
    cases q : K.lookup a with
    | some o =>
      have e := KX a o q
      rw [ha] at e
      cases e
      exact .inr ⟨_, vs.toArray, _, q, rfl, rfl, rfl, by rw [List.size_toArray, lenV]; exact hl, by simpa using rv⟩
    | none =>
      refine .inl (.inr ⟨{ cls := .type "list", data := .seq vs.toArray }, ?_⟩)
      rw [← hH]
      unfold seen
      rw [if_neg naP, if_pos ⟨rfl, q⟩]
  have hok : HOk P w H s.heap := fun b u e => by
    rcases cs e with ⟨z, rfl⟩ | ⟨z, _, rfl⟩
    · rw [z]; exact hT
    · rw [z]; exact ⟨ha, by rw [List.length_map]; exact hl, vs, _, rv, ha⟩
  have nsB : ∀ {b : Addr} {m : Str → Option Value}, s.heap.Ns b m → (hidT s.heap H).Ns b m := fun {b m} ⟨o, es, ep, e, d, r⟩ =>
    ⟨o, es, ep, hidT_get e (un e (fun z => by rw [d] at z; cases z) fun _ _ z => by rw [d] at z; cases z), d, r⟩
  have KB : K.In (hidT s.heap H) := fun b o e => hidT_get (KX b o e) (by
    cases q : H b with
    | none => rfl
    | some u =>
      rcases cs q with ⟨z, _⟩ | ⟨z, z2, _⟩
      · rw [z, nT] at e; cases e
      · rw [z, z2] at e; cases e)
  have TB : TabB (hidT s.heap H) mg c Pt := by
    refine ⟨?_, ?_, fun z => ?_⟩
    · obtain ⟨o, us, file, tf, flags, tg, inF, text, tt, g1, r1, r2, r3, rest⟩ := hC
      refine ⟨o, us, file, tf, flags, tg, inF, text, tt, hidT_get g1 (un g1 (fun z => ?_) fun _ _ z => ?_), r1, r2, r3, rest⟩
      · rw [r2] at z
        cases z
        simp at r3
      · rw [r2] at z
        cases z
    · obtain ⟨bm, ob, b1, b2, b3, b4, b5, b6⟩ := hbm
      refine ⟨bm, ob, b1, b2, fun q => ?_, fun q => ?_, hidT_get b3 (un b3 (fun z => ?_) fun _ _ z => ?_), b4, b5, b6⟩
      · obtain ⟨o, es, ep, e, hd, _⟩ := hns
        rw [q, e] at b3
        cases b3
        rw [hd] at b6
        cases b6
      · rw [q, hT] at b3
        cases b3
        cases b6
      · rw [b6] at z; cases z
      · rw [b6] at z; cases z
    · obtain ⟨o, es, ep, e, hd, _⟩ := hns
      rw [z, hT] at e
      cases e
      cases hd
  have e0 : Env0 P w K mg (hidT s.heap H) callerA [] s H :=
    { frames := rfl, mod := ⟨KB, nsB hns, ⟨mb, nsB hb, hbb⟩, let ⟨mc, h1, h2⟩ := hlim; ⟨mc, nsB h1, h2⟩⟩, bs := fun b o e => of_hidT e, bsz := Nat.le_of_eq (hidT_size _ _), funs := trivial, frf := fun b hb => absurd (show b ∈ ([] : List Addr) from hb) (by simp), hok := hok, bare := .of_eq hg }
  refine codeAny_mono ((F _ KB (nsB hns) TB).run callerA [] s H ⟨[.ref a], []⟩ [.ref a] [.ref a] _ _ hr rfl e0 (hbind s (.ref a)) (.cons rfl .nil) (hsp H e1 hS)) fun r s' h => ?_
  cases r with
  | error e => exact (show False from h).elim
  | ok fl =>
    cases fl with
    | next => exact False.elim h
    | brk => exact False.elim h
    | cont => exact False.elim h
    | ret u =>
      obtain ⟨v, H', os, bare, ub, hok', r', q⟩ := h
      have q : v = .bl true := q
      subst q
      obtain rfl : u = Value.bool true := r'
      obtain ⟨more, hP'⟩ : ∃ more : Array Value, s'.heap.get? Pt = some { cls := .none, data := .fields more } := by
        obtain ⟨m0, tm⟩ := ub.tbls Pt #[] e1
        exact ⟨_, hok' Pt _ tm⟩
      have keep : ∀ b o, b ≠ Pt → s.heap.get? b = some o → s'.heap.get? b = some o := fun b o nb e => by
        cases z : H b with
        | none => exact ub.keep b o e z (fun hm => absurd (show b ∈ ([] : List Addr) from hm) (by simp)) (by simp)
        | some u =>
          rcases cs z with ⟨zz, _⟩ | ⟨zz, _, rfl⟩
          · exact absurd zz nb
          · have e2 := (hok' b _ (ub.frzs b _ _ z)).1
            have e3 := (hok b _ z).1
            rw [e] at e3
            cases e3
            exact e2
      refine ⟨rfl, ⟨fun b o e => ?_, fun b o e => ?_⟩, os, bare⟩
      · by_cases nb : b = Pt
        · rw [nb, hT] at e
          cases e
          rw [nb]
          exact .inr (.inl ⟨(hC.tab hT).isCodeTable, rfl, #[], more, rfl, by rw [Array.empty_append]; exact hP'⟩)
        · exact .inl (keep b o nb e)
      · by_cases nb : b = Pt
        · rw [nb]
          exact ⟨_, hP'⟩
        · exact ⟨o, keep b o nb e⟩
end
/-- the walk's end -/
theorem walkG {l : PySem.W.OpenLaw} {n k : Nat} {q : Program} {loose : List Str} {XP : (Str → Option Value) → Heap → Prop} {YP : World → Heap → Prop} {d : DefRec} {K : Params → PySem.W.Frag} {x : Str}
    (hn : l.most = some n) (hn2 : n ≤ sizeLine) (hdf : d.params.defaults = []) (hr : Room k callerA) (hrec : ((recsOf q).any fun e => e.name == d.name) = true) (hY : ∀ (w : World) (h : Heap), YP w h → (K w.params).In h)
    (F : ∀ (w : World) (mg : Str → Option Value) (fa : Addr) (h : Heap), (K w.params).In h → h.Ns mainGlobals mg → mg d.name = some (.ref fa) →
      ∃ (fd : FuncData) (c Pt : Addr) (o : Obj) (e : Value) (dd : Option Addr) (us : Array Value) (sl : Array (Option Value)), (K w.params).lookup fa = some o ∧ o.data = .func fd ∧ fd.code = .ref c ∧ (K w.params).lookup c = some ⟨e, dd, .fields us, sl⟩ ∧ us[11]? = some (.ref Pt) ∧ (K w.params).lookup Pt = none ∧ PySem.W.CodeHd h c Pt ∧
        (∀ (s : Shared) (u : Value), BindsTo s fd ⟨[u], []⟩ [(x, u)]) ∧ ∀ base : Heap, (K w.params).In base → base.Ns mainGlobals mg → TabB base mg c Pt → FnG l.prog w (K w.params) mg base CX0 k fa fd [x] (spLaw (K w.params) Pt)) :
    PySem.W.WalkO q loose XP YP l.row.toRowW d [] (fun f vs => PySem.call f vs) := by
  refine Att.attach_callB hn hdf fun w s₀ s₁ mg mb fa o pm cd doc a vs ns G Y ho hd hcd hmg hobj hints hlen hbits hg => ?_
  have KX := hY w _ Y
  obtain ⟨fd, c, Pt, o1, e, dd, us, sl, k1, k2, k3, k4, k5, k6, hC, hb, hF⟩ := F w mg fa _ KX G.T.g hmg
  have hT : s₁.heap.get? Pt = some { cls := .none, data := .fields #[] } := by
    obtain ⟨dL, hm, hn1⟩ := List.any_eq_true.mp hrec
    have hn2 : dL.name = d.name := beq_iff_eq.mp hn1
    obtain ⟨a', o', fd', c', P', h1, h2, h3, h4, h5, h6⟩ := G.T.tab dL hm
    rw [hn2, hmg] at h1
    cases h1
    have g1 := KX _ _ k1
    rw [g1] at h2
    cases h2
    rw [k2] at h3
    cases h3
    rw [k3] at h4
    cases h4
    obtain ⟨⟨oc, vc, x1, _, x3, x4⟩, hP⟩ := h6
    rw [KX _ _ k4] at x1
    cases x1
    cases x3
    rw [k5] at x4
    cases x4
    exact hP
  exact law_endG KX G.T.g G.T.b G.T.builtins G.T.nolimit hg hT k6 hC G.T.bmain hobj hints (Nat.le_trans hlen hn2) hr hF hb fun H h1 h2 => ⟨a, ns, rfl, h2, h1, fun _ => rfl⟩
end Ns
/-! what the top has written -/
namespace Ns
open PySem PySem.Spec PyProof.Rows L2
open LamX (TabB)
/-- a def of the module, as the written state tells it -/
def DfK (K : PySem.W.Frag) (nm : Str) (i : Nat) : Prop := ∃ (f : Addr) (oc : Value) (od an : Option Addr) (sl : Array (Option Value)) (kV dc pm cd ct : Value), PySem.W.nsIn K mainGlobals nm = some (some (.ref f)) ∧
  K.lookup f = some ⟨oc, od, .func (PySem.W.fnOf nm nm (defArgs (top i)) (defBody (top i)) (defScope (top i)) .none kV dc pm an cd ct), sl⟩ ∧ PySem.W.codeIn K cd nm = true ∧ PySem.W.keepIn K (.ref f) = true
theorem df_mk {K : PySem.W.Frag} {nm : Str} {i : Nat} {f : Addr} {oc : Value} {od an : Option Addr} {sl : Array (Option Value)} {kV dc pm cd ct : Value} (a : PySem.W.nsIn K mainGlobals nm = some (some (.ref f)))
    (l : K.lookup f = some ⟨oc, od, .func (PySem.W.fnOf nm nm (defArgs (top i)) (defBody (top i)) (defScope (top i)) .none kV dc pm an cd ct), sl⟩) (c : PySem.W.codeIn K cd nm = true) (k : PySem.W.keepIn K (.ref f) = true) : DfK K nm i :=
  ⟨f, oc, od, an, sl, kV, dc, pm, cd, ct, a, l, c, k⟩
theorem df_of {K : PySem.W.Frag} {h : Heap} {mg : Str → Option Value} {nm : Str} {i : Nat} (X : K.In h) (G : h.Ns mainGlobals mg) (d : DfK K nm i) : Df K mg nm i := by
  obtain ⟨f, oc, od, an, sl, kV, dc, pm, cd, ct, a, l, c, k⟩ := d
  exact ⟨f, _, fun_mk (st := top i) l c k, PySem.W.mg_of X G a⟩
/-- an error's class -/
structure ClK (K : PySem.W.Frag) (C D fI : Addr) : Prop where
  ref : PySem.RefX.RefTxt K C D fI
  err : ErrK K C
  ve : PySem.W.kitOne K (.ref C) (.type "ValueError") = some true
  xm : PySem.W.exmOne K (.ref C) (.ref D) = some true
theorem cl_mk {K : PySem.W.Frag} {C D fI N : Addr} {nm q : Str} {bs bm : List Value} {sn : List Str} {sub : List Value} {ab : Bool} {col : Option Bool} {dd : Option Addr} {k0 k1 k2 k3 k5 : Option Value}
    (cls : K.lookup C = some (excClassObj nm q C N bs bm true sn sub ab col dd k0 k1 k2 k3 k5 "ValueError.__new__")) (rv : PySem.HandSPX.refsVE bm = true) (sa : PySem.W.findIn K (.ref C) "__setattr__" = some (some (.builtin "object.__setattr__"))) (noN : PySem.W.findIn K (.ref C) "what" = some none)
    (iC : PySem.W.findIn K (.ref C) "__init__" = some (some (.ref fI))) (kC : PySem.W.keepIn K (.ref C) = true) (exC : PySem.W.subIn K (.ref C) (.type "BaseException") = some true) (veC : PySem.W.subIn K (.ref C) (.type "ValueError") = some true) (tyC : PySem.W.typeIn K (.ref C) = some (.type "type"))
    (subD : PySem.W.mroIn K C (.ref D) = some true) (sup : PySem.W.ks_superIn K C D "__init__" = some (some (.builtin "ValueError.__init__")))
    (cl : (PySem.W.clsIn K C).isSome = true) (ga : PySem.W.findIn K (.ref C) "__getattribute__" = some (some (.builtin "BaseException.__getattribute__"))) (gt : PySem.W.findIn K (.ref C) "__getattr__" = some none) (ca : PySem.W.findIn K (.ref C) "__class__" = some (some (.builtin "object.__class__")))
    (gn : PySem.W.specialIn K (.builtin "object.__class__") "__get__" = some (some (.builtin "getset_descriptor.__get__"))) (tk : PySem.W.takesIn K (.builtin "object.__class__") = some true) (mo : PySem.W.mroIn K C (.type "object") = some true) (hd : PySem.W.hasDictIn K C = true)
    (ve : PySem.W.kitOne K (.ref C) (.type "ValueError") = some true) (xm : PySem.W.exmOne K (.ref C) (.ref D) = some true) : ClK K C D fI :=
  ⟨⟨⟨nm, q, N, bs, bm, sn, sub, ab, col, dd, k0, k1, k2, k3, k5, cls, rv⟩, sa, noN, iC, kC, exC, veC, tyC, subD, sup⟩, ⟨cl, ga, gt, exC, ca, gn, tk, mo, hd, noN⟩, ve, xm⟩
/-- the classes, seen from C: which is its own -/
structure KiK (K : PySem.W.Frag) (C C0 C1 C2 C3 C4 C5 xr xt : Addr) (n : Nat) : Prop where
  c0 : PySem.W.kitOne K (.ref C) (.ref C0) = some (n == 0)
  c1 : PySem.W.kitOne K (.ref C) (.ref C1) = some (n == 1)
  c2 : PySem.W.kitOne K (.ref C) (.ref C2) = some (n == 2)
  c3 : PySem.W.kitOne K (.ref C) (.ref C3) = some (n == 3)
  c4 : PySem.W.kitOne K (.ref C) (.ref C4) = some (n == 4)
  c5 : PySem.W.kitOne K (.ref C) (.ref C5) = some (n == 5)
  r : PySem.W.kitOne K (.ref C) (.ref xr) = some false
  t : PySem.W.kitOne K (.ref C) (.ref xt) = some false
def adOf (C0 C1 C2 C3 C4 C5 : Addr) : Ec → Addr
  | .rooms => C0 | .forest => C1 | .ring => C2 | .thing => C3 | .place => C4 | .within => C5
theorem init_mk {K : PySem.W.Frag} {P : Program} {D fI cda cc : Addr} {oc : Value} {od : Option Addr} {doc pm : Value} {an : Option Addr} {ct : Value} {osl : Array (Option Value)} {a1 : Value} {b1 : Option Addr} {vs : Array Value} {s1 : Array (Option Value)} {file : Str} {tf : Tok} {a2 : Value} {b2 : Option Addr} {s2 : Array (Option Value)}
    (fn : K.lookup fI = some ⟨oc, od, .func (PySem.W.ksFn "__init__" "Refused.__init__" (L2.defArgs Ns.sInit) (L2.defBody Ns.sInit) (L2.defScope Ns.sInit) .none .none doc pm an (.ref cda) ct cc), osl⟩) (cd : PySem.W.codeIn K (.ref cda) "Refused.__init__" = true)
    (code : K.lookup cda = some ⟨a1, b1, .fields vs, s1⟩) (hv : vs[2]? = some (.str file tf)) (hf : ((P.main.file : Str) == file) = true) (cell : K.lookup cc = some ⟨a2, b2, .cell (some (.ref D)), s2⟩) (dcls : (PySem.W.clsIn K D).isSome = true)
    (any : PySem.W.nsIn K cStatics "thirdparty.any" = some none) (tI : PySem.W.typeIn K (.ref fI) = some (.type "function")) : PySem.RefX.InitTxt K P D fI cda cc :=
  ⟨⟨oc, od, doc, pm, an, ct, osl, fn⟩, cd, ⟨a1, b1, vs, s1, file, tf, code, hv, hf⟩, ⟨a2, b2, s2, cell⟩, dcls, any, tI⟩
theorem all_mk {l : PySem.W.OpenLaw} {w : World} {K : PySem.W.Frag} {h : Heap} {mg : Str → Option Value} {fa f D fI cda cc C0 C1 C2 C3 C4 C5 xr xt c Pt : Addr} {oc : Value} {od an : Option Addr} {osl : Array (Option Value)} {kV doc pm ct : Value} {tT tR : Tok} {dd : Option Addr} {us : Array Value} {sl : Array (Option Value)} {file : Str} {tf tg tt : Tok} {flags text : Int} {inF : Bool}
    (X : K.In h) (G : h.Ns mainGlobals mg) (hfa : mg "law" = some (.ref fa))
    (aD : PySem.W.nsIn K mainGlobals "Refused" = some (some (.ref D)))
    (a0 : PySem.W.nsIn K mainGlobals "BadRooms" = some (some (.ref C0)))
    (a1 : PySem.W.nsIn K mainGlobals "BadForest" = some (some (.ref C1)))
    (a2 : PySem.W.nsIn K mainGlobals "Ring" = some (some (.ref C2)))
    (a3 : PySem.W.nsIn K mainGlobals "BadThing" = some (some (.ref C3)))
    (a4 : PySem.W.nsIn K mainGlobals "BadPlace" = some (some (.ref C4)))
    (a5 : PySem.W.nsIn K mainGlobals "Within" = some (some (.ref C5)))
    (ar : PySem.W.nsIn K mainGlobals "BadRoom" = some (some (.ref xr))) (at_ : PySem.W.nsIn K mainGlobals "TooMany" = some (some (.ref xt)))
    (aI : PySem.W.findIn K (.ref D) "__init__" = some (some (.ref fI)))
    (it : PySem.RefX.InitTxt K l.prog D fI cda cc)
    (k0 : ClK K C0 D fI) (i0 : KiK K C0 C0 C1 C2 C3 C4 C5 xr xt 0)
    (k1 : ClK K C1 D fI) (i1 : KiK K C1 C0 C1 C2 C3 C4 C5 xr xt 1)
    (k2 : ClK K C2 D fI) (i2 : KiK K C2 C0 C1 C2 C3 C4 C5 xr xt 2)
    (k3 : ClK K C3 D fI) (i3 : KiK K C3 C0 C1 C2 C3 C4 C5 xr xt 3)
    (k4 : ClK K C4 D fI) (i4 : KiK K C4 C0 C1 C2 C3 C4 C5 xr xt 4)
    (k5 : ClK K C5 D fI) (i5 : KiK K C5 C0 C1 C2 C3 C4 C5 xr xt 5)
    (z_isi : PySem.W.nsIn K mainGlobals "isinstance" = some none)    (z_len : PySem.W.nsIn K mainGlobals "len" = some none)    (z_tuple : PySem.W.nsIn K mainGlobals "tuple" = some none)    (z_int : PySem.W.nsIn K mainGlobals "int" = some none)    (z_bool : PySem.W.nsIn K mainGlobals "bool" = some none)    (z_str : PySem.W.nsIn K mainGlobals "str" = some none)    (z_enum : PySem.W.nsIn K mainGlobals "enumerate" = some none)    (z_range : PySem.W.nsIn K mainGlobals "range" = some none)    (z_list : PySem.W.nsIn K mainGlobals "list" = some none)    (z_max : PySem.W.nsIn K mainGlobals "max" = some none)    (z_repr : PySem.W.nsIn K mainGlobals "repr" = some none)    (z_sup : PySem.W.nsIn K mainGlobals "super" = some none)    (z_ve : PySem.W.nsIn K mainGlobals "ValueError" = some none)
    (mT : PySem.W.nsIn K mainGlobals "MOST_THINGS" = some (some (.int 24 tT))) (mR : PySem.W.nsIn K mainGlobals "MOST_ROOMS" = some (some (.int 4 tR)))
    (d13 : DfK K "is_whole" 13)    (d14 : DfK K "made_rooms" 14)    (d15 : DfK K "is_thing" 15)    (d16 : DfK K "want_thing" 16)    (d18 : DfK K "is_place" 18)    (d19 : DfK K "lies_in_itself" 19)    (d20 : DfK K "first_bad" 20)    (d21 : DfK K "first_ring" 21)    (d22 : DfK K "made_forest" 22)    (d23 : DfK K "around" 23)    (d24 : DfK K "put" 24)    (d25 : DfK K "hung" 25)    (d27 : DfK K "_law_pool" 27)    (d28 : DfK K "_law_take" 28)    (d29 : DfK K "_law_one" 29)    (d30 : DfK K "_law_mixed" 30)    (d31 : DfK K "_law_climb" 31)    (d32 : DfK K "_law_classes" 32)    (d33 : DfK K "_law_heard" 33)    (d34 : DfK K "_law_refused" 34)    (d35 : DfK K "_law_grown" 35)    (d36 : DfK K "_law_is_place" 36)    (d37 : DfK K "_law_ring" 37)    (d38 : DfK K "_law_due" 38)    (d39 : DfK K "_law_place" 39)    (d40 : DfK K "_law_spoilt" 40)
    (aL : PySem.W.nsIn K mainGlobals "law" = some (some (.ref f))) (lL : K.lookup f = some ⟨oc, od, .func (PySem.W.fnOf "law" "law" (defArgs (top 41)) (defBody (top 41)) (defScope (top 41)) .none kV doc pm an (.ref c) ct), osl⟩) (cL : PySem.W.codeIn K (.ref c) "law" = true) (kL : PySem.W.keepIn K (.ref f) = true)
    (lc : K.lookup c = some ⟨.type "code", dd, .fields us, sl⟩) (u11 : us[11]? = some (.ref Pt)) (u11' : us.getD 11 .none = .ref Pt) (u18 : us.getD 18 .none = .str file tf) (u7 : us.getD 7 .none = .int flags tg) (u9 : us.getD 9 .none = .bool inF) (u10 : us.getD 10 .none = .int text tt) (ncP : (c == Pt) = false) (lP : K.lookup Pt = none)
    (htop : (l.prog.main.scope.names.lookup ("super" : Str)).isSome = false) :
    ∃ (fd : FuncData) (c Pt : Addr) (o : Obj) (e : Value) (dd : Option Addr) (us : Array Value) (sl : Array (Option Value)), K.lookup fa = some o ∧ o.data = .func fd ∧ fd.code = .ref c ∧ K.lookup c = some ⟨e, dd, .fields us, sl⟩ ∧ us[11]? = some (.ref Pt) ∧ K.lookup Pt = none ∧ PySem.W.CodeHd h c Pt ∧
        (∀ (s : Shared) (u : Value), BindsTo s fd ⟨[u], []⟩ [(("_law_script" : Str), u)]) ∧ ∀ base : Heap, K.In base → base.Ns mainGlobals mg → TabB base mg c Pt → FnG l.prog w K mg base CX0 8 fa fd ["_law_script"] (spLaw K Pt) := by
  have e := hfa.symm.trans (PySem.W.mg_of X G aL)
  cases e
  have T : Tx l.prog K mg (adOf C0 C1 C2 C3 C4 C5) D fI cda cc :=
    { isi := PySem.W.mg_none_of X G z_isi, len := PySem.W.mg_none_of X G z_len, tuple := PySem.W.mg_none_of X G z_tuple, int := PySem.W.mg_none_of X G z_int, bool := PySem.W.mg_none_of X G z_bool, str := PySem.W.mg_none_of X G z_str, enum := PySem.W.mg_none_of X G z_enum, range := PySem.W.mg_none_of X G z_range, list := PySem.W.mg_none_of X G z_list, max := PySem.W.mg_none_of X G z_max, repr := PySem.W.mg_none_of X G z_repr, sup := PySem.W.mg_none_of X G z_sup, ve := PySem.W.mg_none_of X G z_ve, mT := ⟨_, PySem.W.mg_of X G mT⟩, mR := ⟨_, PySem.W.mg_of X G mR⟩, gE := fun c => by
        cases c
        · exact PySem.W.mg_of X G a0
        · exact PySem.W.mg_of X G a1
        · exact PySem.W.mg_of X G a2
        · exact PySem.W.mg_of X G a3
        · exact PySem.W.mg_of X G a4
        · exact PySem.W.mg_of X G a5
      I0 := it, err := fun c => by
        cases c
        · exact k0.ref
        · exact k1.ref
        · exact k2.ref
        · exact k3.ref
        · exact k4.ref
        · exact k5.ref
      top_ := htop }
  have kt : Kt K mg (adOf C0 C1 C2 C3 C4 C5) D xr xt :=
    { gr := PySem.W.mg_of X G ar, gt := PySem.W.mg_of X G at_, gD := PySem.W.mg_of X G aD
      ek := fun c => by
        cases c
        · exact k0.err
        · exact k1.err
        · exact k2.err
        · exact k3.err
        · exact k4.err
        · exact k5.err
      ve := fun c => by
        cases c
        · exact k0.ve
        · exact k1.ve
        · exact k2.ve
        · exact k3.ve
        · exact k4.ve
        · exact k5.ve
      xm := fun c => by
        cases c
        · exact k0.xm
        · exact k1.xm
        · exact k2.xm
        · exact k3.xm
        · exact k4.xm
        · exact k5.xm
      kr := fun c => by
        cases c
        · exact i0.r
        · exact i1.r
        · exact i2.r
        · exact i3.r
        · exact i4.r
        · exact i5.r
      kt := fun c => by
        cases c
        · exact i0.t
        · exact i1.t
        · exact i2.t
        · exact i3.t
        · exact i4.t
        · exact i5.t
      ii := fun c c' => by
        cases c <;> cases c'
        · exact i0.c0
        · exact i0.c1
        · exact i0.c2
        · exact i0.c3
        · exact i0.c4
        · exact i0.c5
        · exact i1.c0
        · exact i1.c1
        · exact i1.c2
        · exact i1.c3
        · exact i1.c4
        · exact i1.c5
        · exact i2.c0
        · exact i2.c1
        · exact i2.c2
        · exact i2.c3
        · exact i2.c4
        · exact i2.c5
        · exact i3.c0
        · exact i3.c1
        · exact i3.c2
        · exact i3.c3
        · exact i3.c4
        · exact i3.c5
        · exact i4.c0
        · exact i4.c1
        · exact i4.c2
        · exact i4.c3
        · exact i4.c4
        · exact i4.c5
        · exact i5.c0
        · exact i5.c1
        · exact i5.c2
        · exact i5.c3
        · exact i5.c4
        · exact i5.c5 }
  have Fl := fun_mk (st := top 41) lL cL kL
  have nPc : c ≠ Pt := by simpa using ncP
  refine ⟨_, c, Pt, _, _, _, us, _, lL, rfl, rfl, lc, u11, lP, ⟨_, us, file, tf, flags, tg, inF, text, tt, X _ _ lc, rfl, rfl, u11, u11', u18, u7, u9, u10, nPc⟩, fun s u => .of_eq rfl, fun base KB GB TB => ?_⟩
  have hW := has_whole (w := w) (base := base) T (df_of X G d13)
  have hR := has_rooms (w := w) (base := base) T (df_of X G d14) hW
  have hTh := has_thing (w := w) (base := base) T (df_of X G d15) hW
  have hWa := has_want (w := w) (base := base) T (df_of X G d16) hTh
  have hP := has_place (w := w) (base := base) T (df_of X G d18) hW
  have hSe := has_self (w := w) (base := base) T (df_of X G d19)
  have hB := has_bad (w := w) (base := base) T (df_of X G d20) hP
  have hRi := has_ring (w := w) (base := base) T (df_of X G d21) hSe
  have hF := has_forest (w := w) (base := base) T (df_of X G d22) hR hB hRi
  have hA := has_around (w := w) (base := base) T (df_of X G d23)
  have hU := has_put (w := w) (base := base) T (df_of X G d24)
  have hH := has_hung (w := w) (base := base) T (df_of X G d25) hR hF hWa hP hA hU
  have lPo := has_pool (w := w) (base := base) T (df_of X G d27)
  have lT := has_take (w := w) (base := base) T (df_of X G d28)
  have lO := has_one (w := w) (base := base) T (df_of X G d29) lT
  have lM := has_mixed (w := w) (base := base) T (df_of X G d30) lT
  have lC := has_climb (w := w) (base := base) T (df_of X G d31)
  have lE := has_classes (P := l.prog) (w := w) (base := base) T kt (df_of X G d32)
  have lR := has_refused (w := w) (base := base) T (df_of X G d34)
  have lG := has_grown (w := w) (base := base) T (df_of X G d35) lT lO lM
  have lI := has_isplace (w := w) (base := base) T (df_of X G d36)
  have lRi := has_rings (w := w) (base := base) T (df_of X G d37) lC
  have lD := has_due (w := w) (base := base) T (df_of X G d38) lR lI lRi lC
  have lPl := has_placeD (w := w) (base := base) T (df_of X G d39) lT lO
  have lS := has_spoilt (w := w) (base := base) T (df_of X G d40) lT lO lC
  refine has_law (c := c) T kt Fl (fun oc od kV doc pm an cdv ct osl h => ?_) TB lE (df_of X G d33) hH lPo lT lO lG lD lPl lS
  rw [lL] at h
  cases h
  rfl
end Ns
open PySem PySem.W PyProof.Rows in
set_option maxRecDepth 100000 in
set_option maxHeartbeats 0 in
theorem PySem.Challenge.cw_nestsay_k02_one_thing_hung_holds : PySem.Challenge.rw_nestsay_k02_one_thing_hung.Holds := by
  w_on; o_law; k_head; (case hw => w_witness2)
  k_fill
  refine Ns.walkG (l := PySem.Challenge.rw_nestsay_k02_one_thing_hung) (k := 8) (x := "_law_script") rfl (by decide) rfl ⟨rfl, by decide, by decide⟩ (by decide +kernel) (fun w h Y => PySem.W.km_in_of Y) ?F
  case F =>
    intro w mg fa h KX G hmg
    refine' Ns.all_mk KX G hmg ?aD ?a0 ?a1 ?a2 ?a3 ?a4 ?a5 ?ar ?at_ ?aI ?it ?k0 ?i0 ?k1 ?i1 ?k2 ?i2 ?k3 ?i3 ?k4 ?i4 ?k5 ?i5 ?z_isi ?z_len ?z_tuple ?z_int ?z_bool ?z_str ?z_enum ?z_range ?z_list ?z_max ?z_repr ?z_sup ?z_ve ?mT ?mR ?d13 ?d14 ?d15 ?d16 ?d18 ?d19 ?d20 ?d21 ?d22 ?d23 ?d24 ?d25 ?d27 ?d28 ?d29 ?d30 ?d31 ?d32 ?d33 ?d34 ?d35 ?d36 ?d37 ?d38 ?d39 ?d40 ?aL ?lL ?cL ?kL ?lc ?u11 ?u11' ?u18 ?u7 ?u9 ?u10 ?ncP ?lP ?htop
    (case aD => k_is)
    (case a0 => k_is)
    (case a1 => k_is)
    (case a2 => k_is)
    (case a3 => k_is)
    (case a4 => k_is)
    (case a5 => k_is)
    (case ar => k_is)
    (case at_ => k_is)
    (case aI => k_is)
    (case it =>
      refine' Ns.init_mk ?fn ?cd ?code ?hv ?hf ?cell ?dcls ?any ?tI
      (case fn => first | k_is | rfl)
      (case cd => first | k_is | rfl)
      (case code => first | k_is | rfl)
      (case hv => first | rfl | k_is)
      (case hf => first | decide +kernel | rfl)
      (case cell => first | k_is | rfl)
      (case dcls => first | k_is | rfl)
      (case any => first | k_is | rfl)
      (case tI => first | k_is | rfl))
    (case k0 =>
      refine' Ns.cl_mk ?cls ?rv ?sa ?noN ?iC ?kC ?exC ?veC ?tyC ?subD ?sup ?cl ?ga ?gt ?ca ?gn ?tk ?mo ?hd ?ve ?xm
      (case cls => first | k_is | rfl)
      (case rv => first | decide +kernel | rfl)
      (case sa => first | k_is | rfl)
      (case noN => first | k_is | rfl)
      (case iC => first | k_is | rfl)
      (case kC => first | k_is | rfl)
      (case exC => first | k_is | rfl)
      (case veC => first | k_is | rfl)
      (case tyC => first | k_is | rfl)
      (case subD => first | k_is | rfl)
      (case sup => first | k_is | rfl)
      (case cl => first | k_is | rfl)
      (case ga => first | k_is | rfl)
      (case gt => first | k_is | rfl)
      (case ca => first | k_is | rfl)
      (case gn => first | k_is | rfl)
      (case tk => first | k_is | rfl)
      (case mo => first | k_is | rfl)
      (case hd => first | k_is | rfl)
      (case ve => first | k_is | rfl)
      (case xm => first | k_is | rfl))
    (case i0 =>
      refine' Ns.KiK.mk ?c0 ?c1 ?c2 ?c3 ?c4 ?c5 ?r ?t
      (case c0 => first | k_is | rfl)
      (case c1 => first | k_is | rfl)
      (case c2 => first | k_is | rfl)
      (case c3 => first | k_is | rfl)
      (case c4 => first | k_is | rfl)
      (case c5 => first | k_is | rfl)
      (case r => first | k_is | rfl)
      (case t => first | k_is | rfl))
    (case k1 =>
      refine' Ns.cl_mk ?cls ?rv ?sa ?noN ?iC ?kC ?exC ?veC ?tyC ?subD ?sup ?cl ?ga ?gt ?ca ?gn ?tk ?mo ?hd ?ve ?xm
      (case cls => first | k_is | rfl)
      (case rv => first | decide +kernel | rfl)
      (case sa => first | k_is | rfl)
      (case noN => first | k_is | rfl)
      (case iC => first | k_is | rfl)
      (case kC => first | k_is | rfl)
      (case exC => first | k_is | rfl)
      (case veC => first | k_is | rfl)
      (case tyC => first | k_is | rfl)
      (case subD => first | k_is | rfl)
      (case sup => first | k_is | rfl)
      (case cl => first | k_is | rfl)
      (case ga => first | k_is | rfl)
      (case gt => first | k_is | rfl)
      (case ca => first | k_is | rfl)
      (case gn => first | k_is | rfl)
      (case tk => first | k_is | rfl)
      (case mo => first | k_is | rfl)
      (case hd => first | k_is | rfl)
      (case ve => first | k_is | rfl)
      (case xm => first | k_is | rfl))
    (case i1 =>
      refine' Ns.KiK.mk ?c0 ?c1 ?c2 ?c3 ?c4 ?c5 ?r ?t
      (case c0 => first | k_is | rfl)
      (case c1 => first | k_is | rfl)
      (case c2 => first | k_is | rfl)
      (case c3 => first | k_is | rfl)
      (case c4 => first | k_is | rfl)
      (case c5 => first | k_is | rfl)
      (case r => first | k_is | rfl)
      (case t => first | k_is | rfl))
    (case k2 =>
      refine' Ns.cl_mk ?cls ?rv ?sa ?noN ?iC ?kC ?exC ?veC ?tyC ?subD ?sup ?cl ?ga ?gt ?ca ?gn ?tk ?mo ?hd ?ve ?xm
      (case cls => first | k_is | rfl)
      (case rv => first | decide +kernel | rfl)
      (case sa => first | k_is | rfl)
      (case noN => first | k_is | rfl)
      (case iC => first | k_is | rfl)
      (case kC => first | k_is | rfl)
      (case exC => first | k_is | rfl)
      (case veC => first | k_is | rfl)
      (case tyC => first | k_is | rfl)
      (case subD => first | k_is | rfl)
      (case sup => first | k_is | rfl)
      (case cl => first | k_is | rfl)
      (case ga => first | k_is | rfl)
      (case gt => first | k_is | rfl)
      (case ca => first | k_is | rfl)
      (case gn => first | k_is | rfl)
      (case tk => first | k_is | rfl)
      (case mo => first | k_is | rfl)
      (case hd => first | k_is | rfl)
      (case ve => first | k_is | rfl)
      (case xm => first | k_is | rfl))
    (case i2 =>
      refine' Ns.KiK.mk ?c0 ?c1 ?c2 ?c3 ?c4 ?c5 ?r ?t
      (case c0 => first | k_is | rfl)
      (case c1 => first | k_is | rfl)
      (case c2 => first | k_is | rfl)
      (case c3 => first | k_is | rfl)
      (case c4 => first | k_is | rfl)
      (case c5 => first | k_is | rfl)
      (case r => first | k_is | rfl)
      (case t => first | k_is | rfl))
    (case k3 =>
      refine' Ns.cl_mk ?cls ?rv ?sa ?noN ?iC ?kC ?exC ?veC ?tyC ?subD ?sup ?cl ?ga ?gt ?ca ?gn ?tk ?mo ?hd ?ve ?xm
      (case cls => first | k_is | rfl)
      (case rv => first | decide +kernel | rfl)
      (case sa => first | k_is | rfl)
      (case noN => first | k_is | rfl)
      (case iC => first | k_is | rfl)
      (case kC => first | k_is | rfl)
      (case exC => first | k_is | rfl)
      (case veC => first | k_is | rfl)
      (case tyC => first | k_is | rfl)
      (case subD => first | k_is | rfl)
      (case sup => first | k_is | rfl)
      (case cl => first | k_is | rfl)
      (case ga => first | k_is | rfl)
      (case gt => first | k_is | rfl)
      (case ca => first | k_is | rfl)
      (case gn => first | k_is | rfl)
      (case tk => first | k_is | rfl)
      (case mo => first | k_is | rfl)
      (case hd => first | k_is | rfl)
      (case ve => first | k_is | rfl)
      (case xm => first | k_is | rfl))
    (case i3 =>
      refine' Ns.KiK.mk ?c0 ?c1 ?c2 ?c3 ?c4 ?c5 ?r ?t
      (case c0 => first | k_is | rfl)
      (case c1 => first | k_is | rfl)
      (case c2 => first | k_is | rfl)
      (case c3 => first | k_is | rfl)
      (case c4 => first | k_is | rfl)
      (case c5 => first | k_is | rfl)
      (case r => first | k_is | rfl)
      (case t => first | k_is | rfl))
    (case k4 =>
      refine' Ns.cl_mk ?cls ?rv ?sa ?noN ?iC ?kC ?exC ?veC ?tyC ?subD ?sup ?cl ?ga ?gt ?ca ?gn ?tk ?mo ?hd ?ve ?xm
      (case cls => first | k_is | rfl)
      (case rv => first | decide +kernel | rfl)
      (case sa => first | k_is | rfl)
      (case noN => first | k_is | rfl)
      (case iC => first | k_is | rfl)
      (case kC => first | k_is | rfl)
      (case exC => first | k_is | rfl)
      (case veC => first | k_is | rfl)
      (case tyC => first | k_is | rfl)
      (case subD => first | k_is | rfl)
      (case sup => first | k_is | rfl)
      (case cl => first | k_is | rfl)
      (case ga => first | k_is | rfl)
      (case gt => first | k_is | rfl)
      (case ca => first | k_is | rfl)
      (case gn => first | k_is | rfl)
      (case tk => first | k_is | rfl)
      (case mo => first | k_is | rfl)
      (case hd => first | k_is | rfl)
      (case ve => first | k_is | rfl)
      (case xm => first | k_is | rfl))
    (case i4 =>
      refine' Ns.KiK.mk ?c0 ?c1 ?c2 ?c3 ?c4 ?c5 ?r ?t
      (case c0 => first | k_is | rfl)
      (case c1 => first | k_is | rfl)
      (case c2 => first | k_is | rfl)
      (case c3 => first | k_is | rfl)
      (case c4 => first | k_is | rfl)
      (case c5 => first | k_is | rfl)
      (case r => first | k_is | rfl)
      (case t => first | k_is | rfl))
    (case k5 =>
      refine' Ns.cl_mk ?cls ?rv ?sa ?noN ?iC ?kC ?exC ?veC ?tyC ?subD ?sup ?cl ?ga ?gt ?ca ?gn ?tk ?mo ?hd ?ve ?xm
      (case cls => first | k_is | rfl)
      (case rv => first | decide +kernel | rfl)
      (case sa => first | k_is | rfl)
      (case noN => first | k_is | rfl)
      (case iC => first | k_is | rfl)
      (case kC => first | k_is | rfl)
      (case exC => first | k_is | rfl)
      (case veC => first | k_is | rfl)
      (case tyC => first | k_is | rfl)
      (case subD => first | k_is | rfl)
      (case sup => first | k_is | rfl)
      (case cl => first | k_is | rfl)
      (case ga => first | k_is | rfl)
      (case gt => first | k_is | rfl)
      (case ca => first | k_is | rfl)
      (case gn => first | k_is | rfl)
      (case tk => first | k_is | rfl)
      (case mo => first | k_is | rfl)
      (case hd => first | k_is | rfl)
      (case ve => first | k_is | rfl)
      (case xm => first | k_is | rfl))
    (case i5 =>
      refine' Ns.KiK.mk ?c0 ?c1 ?c2 ?c3 ?c4 ?c5 ?r ?t
      (case c0 => first | k_is | rfl)
      (case c1 => first | k_is | rfl)
      (case c2 => first | k_is | rfl)
      (case c3 => first | k_is | rfl)
      (case c4 => first | k_is | rfl)
      (case c5 => first | k_is | rfl)
      (case r => first | k_is | rfl)
      (case t => first | k_is | rfl))
    (case z_isi => k_is)
    (case z_len => k_is)
    (case z_tuple => k_is)
    (case z_int => k_is)
    (case z_bool => k_is)
    (case z_str => k_is)
    (case z_enum => k_is)
    (case z_range => k_is)
    (case z_list => k_is)
    (case z_max => k_is)
    (case z_repr => k_is)
    (case z_sup => k_is)
    (case z_ve => k_is)
    (case mT => k_is)
    (case mR => k_is)
    (case d13 =>
      refine' Ns.df_mk ?a ?l ?c ?k
      (case a => k_is)
      (case l => k_is)
      (case c => k_is)
      (case k => k_is))
    (case d14 =>
      refine' Ns.df_mk ?a ?l ?c ?k
      (case a => k_is)
      (case l => k_is)
      (case c => k_is)
      (case k => k_is))
    (case d15 =>
      refine' Ns.df_mk ?a ?l ?c ?k
      (case a => k_is)
      (case l => k_is)
      (case c => k_is)
      (case k => k_is))
    (case d16 =>
      refine' Ns.df_mk ?a ?l ?c ?k
      (case a => k_is)
      (case l => k_is)
      (case c => k_is)
      (case k => k_is))
    (case d18 =>
      refine' Ns.df_mk ?a ?l ?c ?k
      (case a => k_is)
      (case l => k_is)
      (case c => k_is)
      (case k => k_is))
    (case d19 =>
      refine' Ns.df_mk ?a ?l ?c ?k
      (case a => k_is)
      (case l => k_is)
      (case c => k_is)
      (case k => k_is))
    (case d20 =>
      refine' Ns.df_mk ?a ?l ?c ?k
      (case a => k_is)
      (case l => k_is)
      (case c => k_is)
      (case k => k_is))
    (case d21 =>
      refine' Ns.df_mk ?a ?l ?c ?k
      (case a => k_is)
      (case l => k_is)
      (case c => k_is)
      (case k => k_is))
    (case d22 =>
      refine' Ns.df_mk ?a ?l ?c ?k
      (case a => k_is)
      (case l => k_is)
      (case c => k_is)
      (case k => k_is))
    (case d23 =>
      refine' Ns.df_mk ?a ?l ?c ?k
      (case a => k_is)
      (case l => k_is)
      (case c => k_is)
      (case k => k_is))
    (case d24 =>
      refine' Ns.df_mk ?a ?l ?c ?k
      (case a => k_is)
      (case l => k_is)
      (case c => k_is)
      (case k => k_is))
    (case d25 =>
      refine' Ns.df_mk ?a ?l ?c ?k
      (case a => k_is)
      (case l => k_is)
      (case c => k_is)
      (case k => k_is))
    (case d27 =>
      refine' Ns.df_mk ?a ?l ?c ?k
      (case a => k_is)
      (case l => k_is)
      (case c => k_is)
      (case k => k_is))
    (case d28 =>
      refine' Ns.df_mk ?a ?l ?c ?k
      (case a => k_is)
      (case l => k_is)
      (case c => k_is)
      (case k => k_is))
    (case d29 =>
      refine' Ns.df_mk ?a ?l ?c ?k
      (case a => k_is)
      (case l => k_is)
      (case c => k_is)
      (case k => k_is))
    (case d30 =>
      refine' Ns.df_mk ?a ?l ?c ?k
      (case a => k_is)
      (case l => k_is)
      (case c => k_is)
      (case k => k_is))
    (case d31 =>
      refine' Ns.df_mk ?a ?l ?c ?k
      (case a => k_is)
      (case l => k_is)
      (case c => k_is)
      (case k => k_is))
    (case d32 =>
      refine' Ns.df_mk ?a ?l ?c ?k
      (case a => k_is)
      (case l => k_is)
      (case c => k_is)
      (case k => k_is))
    (case d33 =>
      refine' Ns.df_mk ?a ?l ?c ?k
      (case a => k_is)
      (case l => k_is)
      (case c => k_is)
      (case k => k_is))
    (case d34 =>
      refine' Ns.df_mk ?a ?l ?c ?k
      (case a => k_is)
      (case l => k_is)
      (case c => k_is)
      (case k => k_is))
    (case d35 =>
      refine' Ns.df_mk ?a ?l ?c ?k
      (case a => k_is)
      (case l => k_is)
      (case c => k_is)
      (case k => k_is))
    (case d36 =>
      refine' Ns.df_mk ?a ?l ?c ?k
      (case a => k_is)
      (case l => k_is)
      (case c => k_is)
      (case k => k_is))
    (case d37 =>
      refine' Ns.df_mk ?a ?l ?c ?k
      (case a => k_is)
      (case l => k_is)
      (case c => k_is)
      (case k => k_is))
    (case d38 =>
      refine' Ns.df_mk ?a ?l ?c ?k
      (case a => k_is)
      (case l => k_is)
      (case c => k_is)
      (case k => k_is))
    (case d39 =>
      refine' Ns.df_mk ?a ?l ?c ?k
      (case a => k_is)
      (case l => k_is)
      (case c => k_is)
      (case k => k_is))
    (case d40 =>
      refine' Ns.df_mk ?a ?l ?c ?k
      (case a => k_is)
      (case l => k_is)
      (case c => k_is)
      (case k => k_is))
    (case aL => k_is)
    (case lL => k_is)
    (case cL => k_is)
    (case kL => k_is)
    (case lc => k_is)
    (case u11 => first | rfl | k_is)
    (case u11' => first | rfl | k_is)
    (case u18 => first | rfl | k_is)
    (case u7 => first | rfl | k_is)
    (case u9 => first | rfl | k_is)
    (case u10 => first | rfl | k_is)
    (case ncP => first | decide +kernel | rfl)
    (case lP => first | rfl | k_is | decide +kernel)
    (case htop => first | decide +kernel | rfl)
