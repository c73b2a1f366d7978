import PyProof.Rows.All
import Wide.All
import OpenK.AllK
import Wide.FinOn
import HandS.HotCalls
import HandS.Comp
import HandS.ExcOwn
import HandS.ExcField
import HandS.ExcIs
import HandS.ExcInit
import HandS.ExcInitHot
import HandS.Defaults
import KE.KExcIs
import HandS.ForMost
import HandS.Conv
import HandS.Words
import HandS.More
import HandS.DeepEq
import HandS.Wide
import HandS.Head0
import HandS.Head1
import HandS.Head2
import HandS.HeadHook1
import HandS.HeadHook2
import HandS.HeadHook3
import HandS.HeadHook4
import HandS.HeadEnd
import PySem.Challenge.RW_signedoff_k19_errors_apart
set_option Elab.async false
set_option linter.all false
set_option maxRecDepth 100000
set_option maxHeartbeats 2000000
namespace Kh
open PySem PySem.Spec PyProof.Rows L2 L2H HotX

/-- the block's context, the pins kept -/
abbrev blkP (X : Cx) (s : Shared) (H : Hp) (sc : Scope) (ce : Env) (fp : List Addr) : Cx := { X.blk s H sc ce fp with pn := X.pn }
section
variable {X : Cx} {pins : List (Addr × Obj)} {σ : L2.St} {H : Hp} {s : Shared}
theorem Inv.lessPins (I : Inv X pins σ H s) : Inv X [] σ H s :=
  ⟨I.ok, I.os, I.bare, I.base, I.loc, I.cell, I.free, I.freeC, fun p hp => I.pin p (by rw [List.append_nil] at hp; exact List.mem_append_left _ hp), I.hok, I.len⟩
theorem okP {s0 : Shared} {H0 : Hp} {sc : Scope} {ce : Env} {fp : List Addr} (ok : (X.blk s0 H0 sc ce fp).Ok) : (blkP X s0 H0 sc ce fp).Ok :=
  ⟨ok.mod, ok.kind, ok.glob, ok.blt, ok.above, ok.inj, ok.has, ok.cab, ok.hd, ok.frames, ok.stk, ok.exf, ok.bs, ok.bsz, ok.noex, ok.exfs, ok.funs, ok.frf⟩
theorem block_startP {scope : Scope} {own : List (Str × Nat)} {fp : List Addr} (I : Inv X pins σ H s) (ok : BlkOk X.N X.env.scope scope own) (hN : X.N.Nodup) (hfp : ∀ b ∈ fp, FpOk X pins H b ∧ b < s.heap.objs.size) :
    Inv (blkP X s H scope (compEnvC scope (cellsFrom (s.heap.objs.size + 1) scope.names (cloFrom X.env.cells scope.names [])) s.heap.objs.size X.env) fp) [] (wipe σ (own.map (·.2))) H { s with heap := pushCells (s.heap.push { cls := .type "dict", data := .dict #[] }) scope.names } := by
  have J := block_start I ok hN hfp
  refine ⟨okP J.ok, J.os, J.bare, J.base, J.loc, J.cell, J.free, J.freeC, fun p hp => ?_, J.hok, J.len⟩
  have hp' : p ∈ X.pn := by simpa using hp
  obtain ⟨e, n, ne, nf, d⟩ := I.pin p (List.mem_append_left _ hp')
  refine ⟨pushCells_keeps _ _ _ _ (Heap.get?_push_of_some _ e), n, ?_, ?_, d⟩
  · exact Nat.ne_of_lt (Heap.lt_size e)
  · exact fun z => (List.mem_cons.mp (I.stkSub p.1 z)).elim ne nf
end
/-- [elt for target in iter] in a suite: V by the turn, a measure -/
def tLcH (wi : TI) (g : TG) (te : TE) (vs : List Nat) : TE := fun σ H Q => wi σ H fun J H1 => ∀ D, H1 D = none → ∃ V : Nat → Nat → Hp → Prop, (∃ m, V 0 m (upd H1 D (.lst []))) ∧ ∀ i m H, V i m H →
  (J.stop i H ∧ Q (.ref D) H) ∨ (J.go i H ∧ ∃ Nx : Hp → Prop, (∀ H', Nx H' → ∃ m', m' < m ∧ V (i + 1) m' H') ∧ ∀ x H', J.yld i H x H' → g x (wipe σ vs) H' fun σ2 H2 => wipe σ2 vs = wipe σ vs ∧ te σ2 H2 fun y H4 => ∃ acc, H4 D = some (.lst acc) ∧ acc.length < sizeLine ∧ Nx (upd H4 D (.lst (acc ++ [y]))))
section
variable {X : Cx}
theorem pe_lcH {elt tg iter : Expr} {scope : Scope} {own : List (Str × Nat)} {pos : Pos} {wi : TI} {g : TG} {te : TE} (hc : HotC X) (hN : X.N.Nodup) (hi : PIH X tg iter wi) (ok : BlkOk X.N X.env.scope scope own)
    (hg : ∀ (s : Shared) (H : Hp) (C : Addr) (cl : List (Str × Addr)) (fp : List Addr), PG (blkP X s H scope (compEnvC scope cl C X.env) fp) tg g)
    (he : ∀ (s : Shared) (H : Hp) (C : Addr) (cl : List (Str × Addr)) (fp : List Addr), PE (blkP X s H scope (compEnvC scope cl C X.env) fp) elt te) (hs : ∀ x, foldedSetIterable iter X.env x = pure x := by intro _; rfl) :
    PE X (.ListComp elt [⟨tg, iter, [], 0⟩] scope pos) (tLcH wi g te (own.map (·.2))) := by
  refine ⟨fun pins s σ H Q I hw => ?_⟩
  rw [eval_ListComp]
  have cells : ∀ y ∈ scope.names, y.2 = .free → ∃ c, X.env.cells.lookup y.1 = some c := fun y hy e =>
    I.ok.has _ (ok.free y hy e)
  refine wpAny_comprehension_free rfl hs (closure_ok cells) ok.kind (fun y hy e => by rw [ok.uniq y hy, e])
    (thn (hi.run pins s σ H _ I hw) fun xv s1 hx => thn hx fun itv s2 h2 => ?_)
  obtain ⟨it, fp, tn, J, H2, rfl, I2, T, st2, f2, q⟩ := h2
  refine wpAny_newObj_type (newEnv_comp ?_) (Nat.zero_le sizeLine)
  generalize eD : s2.heap.objs.size = D
  have nD : H2 D = none := I2.hok.fresh (Nat.le_of_eq eD)
  obtain ⟨Vw, ⟨m0, v0⟩, turn⟩ := q D nD
  generalize e3 : ({ s2 with heap := s2.heap.push { cls := .type "list", data := .seq ([] : List Value).toArray } } : Shared) = t3
  have I3 : Inv X pins σ (upd H2 D (.lst [])) t3 := by
    rw [← e3]
    refine I2.laid (t' := s2.toks) (fun b o e => Heap.get?_push_of_some _ e) (Nat.le_of_eq eD) ⟨Nat.zero_le _, [], 0, .nil, ?_⟩
    rw [← eD]
    exact Heap.get?_push_size _ rfl
  have h3 : t3.heap = s2.heap.push { cls := .type "list", data := .seq ([] : List Value).toArray } := by rw [← e3]
  have f3 : ∀ b ∈ fp, FpOk X pins (upd H2 D (.lst [])) b ∧ b < t3.heap.objs.size := fun b hb => by
    obtain ⟨ob, eb, _⟩ := T.obj _ _ st2 b hb
    have l := Heap.lt_size eb
    refine ⟨⟨?_, (f2 b hb).2⟩, by rw [h3, Heap.size_push]; exact Nat.lt_succ_of_lt l⟩
    rw [upd_ne (by rw [← eD]; exact Nat.ne_of_lt l)]
    exact (f2 b hb).1
  have st3 : tn 0 t3.heap := T.keep _ _ _ st2 fun b _ o e => h3 ▸ Heap.get?_push_of_some _ e
  have I4 := block_startP I3 ok hN f3
  have pg := hg t3 (upd H2 D (.lst [])) t3.heap.objs.size (cellsFrom (t3.heap.objs.size + 1) scope.names (cloFrom X.env.cells scope.names [])) fp
  have pe := he t3 (upd H2 D (.lst [])) t3.heap.objs.size (cellsFrom (t3.heap.objs.size + 1) scope.names (cloFrom X.env.cells scope.names [])) fp
  show codeAny (model X.prog X.w) X.A (.compStart (.ListComp elt [⟨tg, iter, [], 0⟩] scope pos) 0 (.ref it) (.ref D) (compEnvC scope (cellsFrom (t3.heap.objs.size + 1) scope.names (cloFrom X.env.cells scope.names [])) t3.heap.objs.size X.env)) (compPost (model X.prog X.w) X.A X.xe none (EP X pins σ Q) (.ref D) t3.heap.objs.size) { t3 with heap := pushCells (t3.heap.push { cls := .type "dict", data := .dict #[] }) scope.names }
  generalize hce : compEnvC scope (cellsFrom (t3.heap.objs.size + 1) scope.names (cloFrom X.env.cells scope.names [])) t3.heap.objs.size X.env = ev at I4 pg pe ⊢
  have cL : ev.locals = t3.heap.objs.size := by subst hce; rfl
  generalize hH3 : upd H2 D (.lst []) = G3 at I3 I4 pg pe v0 f3
  generalize hs4 : ({ t3 with heap := pushCells (t3.heap.push { cls := .type "dict", data := .dict #[] }) scope.names } : Shared) = t4 at I4 ⊢
  have st4 : tn 0 t4.heap := T.keep _ _ _ st3 fun b _ o e => hs4 ▸ pushCells_keeps _ _ _ _ (Heap.get?_push_of_some _ e)
  have hot : HotC (blkP X t3 G3 scope ev fp) := hc
  have fpB : ∀ {σ' : L2.St} {H' : Hp} {s' : Shared}, Inv (blkP X t3 G3 scope ev fp) [] σ' H' s' → (∀ b ∈ fp, H' b = none) → ∀ b ∈ fp, FpOk (blkP X t3 G3 scope ev fp) [] H' b := fun {σ' H' s'} I' hn b hb =>
    ⟨hn b hb, (I'.ok.exf b hb).1, I'.ok.exfs b hb, .inl hb, fun x c e => (I'.ok.exf b hb).2 x c e, fun p hp z => (f3 b hb).1.2.2.2.2.2 p (List.mem_append_left _ (by simpa using hp)) z⟩
  have loop : codeAny (model X.prog X.w) X.A (.compLoop (.ListComp elt [⟨tg, iter, [], 0⟩] scope pos) 0 (.ref it) (.ref D) ev) (compPost (model X.prog X.w) X.A X.xe none (EP X pins σ Q) (.ref D) t3.heap.objs.size) t4 := by
    refine compLoop_any (fun n s' => ∃ i H', Inv (blkP X t3 G3 scope ev fp) [] (wipe σ (own.map (·.2))) H' s' ∧ tn i s'.heap ∧ (∀ b ∈ fp, H' b = none) ∧ Vw i n H') ?_ m0 ⟨0, G3, I4, st4, fun b hb => (f3 b hb).1.1, v0⟩
    rintro n s5 ⟨i, H5, I5, st5, n5, w5⟩
    rcases turn i n H5 w5 with ⟨stop, qq⟩ | ⟨go, Nx, hNx, step⟩
    · have td := T.done (blkP X t3 G3 scope ev fp) rfl rfl rfl hot i [] s5 _ H5 (fun _ _ => False) I5 (fpB I5 n5) st5 stop
      refine thnF td fun r s6 ⟨hr, I6⟩ => ?_
      subst hr
      have I7 : Inv X pins σ H5 s6 := I3.call' (ch := fp) I6.os I6.base I6.hok I6.bare fun b hb => by
        obtain ⟨y0, y1, y2, y3, y4, y5⟩ := (f3 b hb).1
        exact ⟨y3, y1, y4, y5⟩
      have fr : H5 ev.locals = none := I6.free
      obtain ⟨m, (hn : s6.heap.Ns ev.locals m), _⟩ := I6.loc
      rw [cL] at hn fr
      obtain ⟨z0, z1, z2, z3, z4, z5⟩ := I3.fpOk (H' := H5) (Nat.le_refl _) fr
      exact ⟨m, hn, fun g2 sb => ⟨.ref D, H5, I7.turned (t' := s6.toks) (fun b o hb e => (sb.2 b hb).trans e) z0 z1 z3 z4 z5, rfl, qq⟩⟩
    · have ti := T.item (blkP X t3 G3 scope ev fp) rfl rfl rfl hot i [] s5 _ H5 (fun _ _ => False) I5 (fpB I5 n5) st5 go
      refine thnF ti fun r s6 ⟨u, hr, h6⟩ => ?_
      subst hr
      refine thnF h6 fun _ s7 ⟨x, H7, I7, r7, y7, st7, n7⟩ => ?_
      have P7 := I7.pinned (fpB I7 n7) (T.obj _ _ st7)
      refine thnF (pg.run _ s7 _ H7 x u _ P7 r7 (step x H7 y7)) fun _ s8 ⟨σ8, H8, I8, hw8, q8⟩ => ?_
      refine wpAny_tests_nil ?_
      rw [if_pos rfl]
      refine thnF (pe.run _ s8 σ8 H8 _ I8 q8) fun z s10 ⟨yv, H10, I10, r10, acc, hD10, hz10, nx⟩ => ?_
      refine app_ok (X := blkP X t3 G3 scope ev fp) I10 hD10 hz10 r10 fun s11 I11 => ?_
      obtain ⟨m', hm, w'⟩ := hNx _ nx
      have still : ∀ b ∈ fp, ∀ o, s7.heap.get? b = some o → s11.heap.get? b = some o ∧ upd H10 D (.lst (acc ++ [yv])) b = none := fun b hb o e => by
        obtain ⟨y1, y2, _⟩ := I11.pin (b, o) (List.mem_append_right _ (List.mem_append_right _ (mem_pinsAt hb e)))
        exact ⟨y1, y2⟩
      have hl : (wipe σ (own.map (·.2))).length = σ8.length := by rw [← hw8, wipe_length]
      refine ⟨m', hm, i + 1, _, (I11.unpinned (pins := [])).weak hl (fun j v e => ?_), T.keep _ _ _ st7 fun b hb o e => (still b hb o e).1, fun b hb => ?_, w'⟩
      · rw [← hw8] at e
        exact (wipe_some e).1
      · obtain ⟨o, e, _⟩ := T.obj _ _ st7 b hb
        exact (still b hb o e).2
  exact codeAny_compStart_list loop (T.self X.A 0 _ _ _ st4 loop)
end
end Kh
set_option Elab.async false
set_option linter.all false
set_option maxRecDepth 100000
set_option maxHeartbeats 2000000
namespace Kh
open PySem PySem.Spec PyProof.Rows L2 L2H HotX

/-! ### making an error -/
section
variable {X : Cx} {C : Addr} {bmB : List Value} {B newId initId : String}
/-- X(), no __init__ of its own -/
theorem pmk_bare {x : Str} {p pos : Pos} (F : ExcBaseFacts B newId initId bmB) (q : PySem.W.excIn X.K C bmB newId = true) (gC : X.mg x = some (.ref C)) (kC : PySem.W.keepIn X.K (.ref C) = true) (r : Raises X (.ref C)) (hg : Gl X x)
    (hdb : (x == ("__debug__" : Str)) = false := by decide) : L2N.PMk X (.Call (.Name x p) [] [] pos) (fun _ H Q => Q (.ref C) none H) := by
  intro pins s σ H Q I hw
  refine wpAny_Call_Name_kw (ld_glob I hg gC ?_ hdb)
  refine PySem.W.callWith_K0 I.kIn kC ?_
  obtain ⟨bm, N, nm, qn, bs, hdct, sn, sub, ab, col, dd, k0, k1, k2, k3, k5, mN, hC, hN, hni, T⟩ := exc_obj I.kIn q
  exact wpAny_call_exc_subT F T hC hN hni (fun g2 e hm => L2N.mk_of I hm r hw (I.hok.gone hm.new)) (Nat.zero_le _)
end
/-- X(e, ..), its __init__ a def that keeps sp; the context is told -/
theorem pmk_init {X : Cx} {CX : CXT} {x : Str} {C fI : Addr} {k : Nat} {fd : FuncData} {ps : List Str} {sp : Sp} {e : Expr} {es : List Expr} {ta : TA} {p pos : Pos} (T : OexC X.K C) (iC : PySem.W.findIn X.K (.ref C) "__init__" = some (some (.ref fI))) (tI : PySem.W.typeIn X.K (.ref fI) = some (.type "function"))
    (F1 : FnOk X.prog X.w X.K X.mg X.base CX k fI fd ps sp) (hr : Room (k + 1) X.A) (hb : Binds X.K fd ps []) (hx : Passes CX X (fun _ _ _ => False)) (hg : Gl X x) (hm : X.mg x = some (.ref C)) (ha : PA X (e :: es) ta)
    (hdb : (x == ("__debug__" : Str)) = false := by decide) (he : starEach (e :: es) X.env = (false, eval e X.env) :: starEach es X.env := by rfl) (hpl : (backTo pos (starEach es X.env)).any (·.1) = false := by rfl) :
    L2N.PMk X (.Call (.Name x p) (e :: es) [] pos) (tMkO C sp [] ta) := by
  intro pins s σ H Q I hw
  obtain ⟨nm, q, N, bs, bm, sn, sub, ab, col, dd, k0, k1, k2, k3, k5, hC, hbm⟩ := T.cls
  refine wpAny_Call_Name_kw (ld_glob I hg hm ?_ hdb)
  refine PySem.W.callWith_K (h₀ := X.base) I.ok.mod.kin T.kC (thn (ha.run pos pins s σ H _ I hw) fun us s1 ⟨vs, H1, I1, r1, hz, q1⟩ => ⟨I1.kIn, ?_⟩) he hpl
  show wpAny _ _ (call (.ref C) us) _ _ _
  obtain ⟨g1, gs1, dr1, tk1, os1⟩ := s1
  obtain ⟨z, hz0⟩ : ∃ z, z = g1.objs.size + 1 := ⟨_, rfl⟩
  have big : g1.objs.size ≤ z := by omega
  have hn : H1 z = none := I1.hok.fresh big
  have sp1 := q1 z hn
  rw [List.append_nil] at sp1
  have kk : ∀ b o, g1.get? b = some o → ((g1.push (PySem.W.kdv_tup us)).push (PySem.HandSPX.excO C g1.objs.size)).get? b = some o := fun b o w => Heap.get?_push_of_some _ (Heap.get?_push_of_some _ w)
  have there : ((g1.push (PySem.W.kdv_tup us)).push (PySem.HandSPX.excO C g1.objs.size)).get? z = some (PySem.HandSPX.excO C g1.objs.size) := by rw [hz0]; heap_get
  have I2 : Inv X pins σ (upd H1 z (exo z C none)) ⟨(g1.push (PySem.W.kdv_tup us)).push (PySem.HandSPX.excO C g1.objs.size), gs1, dr1, tk1, os1⟩ :=
    I1.laid (t' := tk1) (a := z) (o := exo z C none) (h' := (g1.push (PySem.W.kdv_tup us)).push (PySem.HandSPX.excO C g1.objs.size)) kk big (exo_ok there)
  have r2 : Vals (V.ref z :: vs) (Value.ref z :: us) := .cons rfl r1
  have hl : (Value.ref z :: us ++ []).length = ps.length := by
    rw [List.append_nil, ← r2.length]
    exact F1.len _ _ _ _ sp1
  have hus : us.length ≤ sizeLine := by
    rw [← Paired.length r1, sizeLine_eq]
    omega
  have b2 := hb _ (Value.ref z :: us) I2.kIn hl
  rw [List.append_nil] at b2
  have run := F1.run _ X.stack _ _ ⟨Value.ref z :: us, []⟩ (Value.ref z :: us) _ _ (fun _ _ _ => False) (hr.make C us []) (I2.env0.make C us []) b2 r2 sp1
  rw [hz0] at run
  refine wpAny_call (PySem.HandSPX.call_own F.excBase_ValueError (fun Y => PySem.HandSPX.refsVE_contains Y bm hbm) (I1.kIn _ _ hC) (PySem.W.looks_findIn I1.kIn iC) (fun self => PySem.W.bind_fn I1.kIn self tI) hus
    (codeAny_mono run fun r s2 hq2 => ?_))
  rw [← hz0] at hq2
  cases r with
  | error er => exact hx pins σ _ _ er s2 I2 hq2
  | ok fl =>
    cases fl with
    | ret u =>
      obtain ⟨v, H2, os2, bare2, un2, hok2, rv, ev, d, fs, ea, ed, hd1, q2⟩ := hq2
      subst ev
      obtain ⟨g2, gs2, dr2, tk2, os3⟩ := s2
      obtain ⟨t0, G, J, kG, ge, hoe, na⟩ := mk_end0 (d2 := dr2) (t2 := tk2) I1 big kk un2 hok2 os2 bare2 ea ed hd1
      rw [← hz0]
      refine ⟨rv, z, _, _, ⟨G, gs2, dr2, tk2, os3⟩, _, .ref C, some d, rfl, J, kG, ge, hoe, ⟨rfl, rfl, fun fv hv => ?_⟩, rfl, rfl, na, rfl, bare2, raises_own T.exC T.tyC, q2⟩
      cases hv
      rfl
    | next => exact hq2.elim
    | brk => exact hq2.elim
    | cont => exact hq2.elim

/-! ### defs that are called with the error that is handled -/
structure FnQ (P : Program) (w : World) (K : PySem.W.Frag) (mg : Str → Option Value) (base : Heap) (CX : CXT) (k : Nat) (f : Addr) (fd : FuncData) (ps : List Str) (sp : Addr × Obj → Sp) : Prop where
  len : ∀ p vs H Q E, sp p vs H Q E → vs.length = ps.length
  run : ∀ (A : Around) (outer : List Env) (s : Shared) (H : Hp) (args : Args) (us : List Value) (vs : List V) (Q : VK) (E : XK) (p : Addr × Obj), RoomH k A → Hot1 A p → PinOk outer H s p → Env0 P w K mg base A outer s H → BindsTo s fd args (ps.zip us) → Vals vs us → sp p vs H Q E →
    codeAny (model P w) A (.call (.ref f) args) (CR CX outer P w H s Q E) s
theorem fnD_Q {CX : CXT} {P : Program} {w : World} {K : PySem.W.Frag} {mg : Str → Option Value} {base : Heap} {k : Nat} {f : Addr} {fd : FuncData} {name qual : Str} {params : Arguments} {body : List Stmt} {scope : Scope} {dvs : List V} {kws : List (Str × V)} {N ps : List Str} {sp : Addr × Obj → Sp}
    (F : FunD K name qual params body scope dvs kws f fd) (S : FnScope N ps scope) (len : ∀ p vs H Q E, sp p vs H Q E → vs.length = ps.length)
    (hbody : ∀ (cdv : Value) (A : Around) (outer : List Env) (s : Shared) (H : Hp) (vs : List V) (Q : VK) (E : XK) (p : Addr × Obj), Hot1 A p → RoomH k (A.deeper (envOfC qual scope s.heap.objs.size f cdv)) → sp p vs H Q E →
      ∃ t, PSs (cxH CX P w K mg base N qual scope f cdv A outer s H E p) body t ∧ t { nx := fun _ H' => Q .non H', rt := Q } (L2.start N vs) H) : FnQ P w K mg base CX (k + 1) f fd ps sp := by
  obtain ⟨oc, od, dV, kV, doc, pm, an, cdv, ct, osl, rfl, lk, hcd, _, _⟩ := F.ex
  refine ⟨len, fun A outer s H args us vs Q E p hr hot hpin e0 hb r hsp => ?_⟩
  have e1 := len _ _ _ _ _ hsp
  have kin : K.In s.heap := e0.mod.kin.keeps fun b o e => (e0.bs b o e).1
  have free : s.heap.NoLimit := e0.mod.nolimit.keeps fun b o e => (e0.bs b o e).1
  have kinds : ∀ y ∈ ps.zip us, scope.names.lookup y.1 = some .local ∨ (scope.names.lookup y.1 = some .cell ∧ ((cellsFrom (s.heap.objs.size + 1) scope.names []).lookup y.1).isSome = true) := fun y hy => by
    have m : y.1 ∈ ps := (List.of_mem_zip (a := y.1) (b := y.2) hy).1
    exact (S.par y.1 m).imp id fun q => ⟨q, PySem.W.cellsFrom_some _ _ _ (.inl q)⟩
  refine codeAny_call_function hr.depth (kin _ _ lk) rfl S.co S.gen rfl (PySem.W.codeRec_of kin hcd) (hb _ _ _ _ ?_)
  refine wpAny_newFunctionEnv_cells S.kind kinds fun ev hev t1 started => ?_
  subst hev
  refine ⟨free.keeps started.toInCall.keep, codeAny_func ?_⟩
  obtain ⟨t, ht, q0⟩ := hbody cdv A outer s H vs Q E p hot (hr.deeper _) hsp
  have J0 : Inv (cxH CX P w K mg base N qual scope f cdv A outer s H E p) [] (L2.start N vs) H t1 := inv_startH S hpin e0 e1 r started
  refine wpAny_mono (ht.run [] t1 (L2.start N vs) H _ J0 q0) (fun fl t2 hs => ?_) fun _ _ hs => hs
  cases fl with
  | ret u =>
    obtain ⟨v, _, H2, J, rv, q⟩ := hs
    exact ⟨v, H2, J.os, J.bare, J.base, J.hok, rv, q⟩
  | next =>
    obtain ⟨_, H2, J, q⟩ := hs
    exact ⟨V.non, H2, J.os, J.bare, J.base, J.hok, rfl, q⟩
  | brk => exact hs.elim fun _ z => z.elim fun _ z => z.2.elim
  | cont => exact hs.elim fun _ z => z.elim fun _ z => z.2.elim
section
variable {X : Cx} {CX : CXT} {k : Nat} {f : Addr} {fd : FuncData} {ps : List Str} {sp : Addr × Obj → Sp} {E : L2.St → XK} {x : Str} {q pos : Pos} {e : Expr} {es : List Expr} {t : TA} {p : Addr × Obj}
theorem pe_callR {R : List V → Hp → VK → Prop} (hR : ∀ vs H Q, R vs H Q → sp p vs H Q (fun _ _ _ => False)) (F : FnQ X.prog X.w X.K X.mg X.base CX k f fd ps sp) (hr : RoomH k X.A) (hot : Hot1 X.A p) (hp : p ∈ X.pn) (hg : Gl X x) (hm : X.mg x = some (.ref f)) (hk : PySem.W.keepIn X.K (.ref f) = true) (hb : Binds X.K fd ps []) (hx : ∀ σ, PassesAt CX X σ (fun _ _ _ => False))
    (ha : PA X (e :: es) t) (hdb : (x == ("__debug__" : Str)) = false := by decide) (he : starEach (e :: es) X.env = (false, eval e X.env) :: starEach es X.env := by rfl) (hpl : (backTo pos (starEach es X.env)).any (·.1) = false := by rfl) :
    PE X (.Call (.Name x q) (e :: es) [] pos) (fun σ H Q => t σ H fun vs H1 => R vs H1 Q) := by
  refine ⟨fun pins s σ H Q I hw => ?_⟩
  refine wpAny_Call_Name_kw (ld_glob I hg hm ?_ hdb)
  refine PySem.W.callWith_K (h₀ := X.base) I.ok.mod.kin hk (thn (ha.run pos pins s σ H _ I hw) fun us s1 ⟨vs, H1, I1, r, q⟩ => ⟨I1.kIn, ?_⟩) he hpl
  have q := hR _ _ _ q
  have hl : us.length = ps.length := by rw [← r.length]; exact F.len _ _ _ _ _ q
  have b := hb s1 us I1.kIn (by rw [List.append_nil]; exact hl)
  rw [List.append_nil] at b
  obtain ⟨y1, y2, y3, y4, y5⟩ := I1.pin p (List.mem_append_left _ hp)
  have there : PinOk X.stack H1 s1 p := ⟨y1, y2, fun hm => (List.mem_cons.mp (I1.stkSub p.1 hm)).elim y3 y4, y5⟩
  refine wpAny_call (codeAny_mono (F.run X.A X.stack s1 H1 ⟨us, []⟩ us vs Q (fun _ _ _ => False) p hr hot there I1.env0 b r q) fun fin s2 hq => ?_)
  cases fin with
  | error er => exact hx σ pins H1 s1 er s2 I1 hq
  | ok fl =>
    cases fl with
    | ret u => exact I1.after hq
    | next => exact hq.elim
    | brk => exact hq.elim
    | cont => exact hq.elim
end

/-! ### what is asked of the error -/
section
variable {X : Cx} {a C : Addr} {oe : Obj}
/-- the error's dict, if it has one, is tracked -/
def DictAt (d : Option Addr) (H : Hp) : Prop := d = none ∨ ∃ (dd : Addr) (fs : List (Str × V)), d = some dd ∧ H dd = some (.xd fs)
theorem inst_of {pins : List (Addr × Obj)} {σ : L2.St} {H : Hp} {s : Shared} {d : Option Addr} (I : Inv X pins σ H s) (hp : (a, oe) ∈ X.pn) (hz : Zc (.ref C) d oe) (hf : ∃ vs, oe.data = .fields vs) (hd : DictAt d H) : ∃ od, PySem.W.InstAt s.heap a oe C od := by
  obtain ⟨g, _⟩ := I.pin (a, oe) (List.mem_append_left _ hp)
  obtain ⟨vs, hv⟩ := hf
  have no : PySem.W.notCls oe = true := by unfold PySem.W.notCls; rw [hv]
  rcases hd with rfl | ⟨dd, fs, rfl, hx⟩
  · exact ⟨none, g, hz.1, no, by rw [hz.2]; trivial⟩
  · obtain ⟨mA, ⟨o, es, ep, ho, _⟩, _⟩ := (show ObjOk X.prog X.w H s.heap dd (.xd fs) from I.hok dd _ hx)
    exact ⟨some o, g, hz.1, no, by rw [hz.2]; exact ho⟩
/-- isinstance(e, c), e the error at a -/
def rIsP (K : PySem.W.Frag) (a : Addr) (cls : Value) (d : Option Addr) : List V → Hp → VK → Prop := fun xs H Q => ∃ (D : Addr) (c : V) (cv : Value) (b : Bool), cls = .ref D ∧ ExcC K D ∧ xs = [.ref a, c] ∧ (∀ u, RelV c u → u = cv) ∧ PySem.W.kitOne K (.ref D) cv = some b ∧ DictAt d H ∧ Q (.bl b) H
theorem call_isP {cls : Value} {d : Option Addr} (hp : (a, oe) ∈ X.pn) (hz : Zc cls d oe) (hf : ∃ vs, oe.data = .fields vs) : CallR X (.builtin "isinstance") (rIsP X.K a cls d) := by
  intro pins s σ H xs us Q I r ⟨D, c, cv, b, e0, T, e1, hcv, e, hd, q⟩
  subst e0 e1
  cases r with
  | cons rx rr =>
    cases rr with
    | cons rt rr =>
      cases rr
      cases rx
      have ec := hcv _ rt
      subst ec
      obtain ⟨od, J⟩ := inst_of I hp hz hf hd
      obtain ⟨cd, hc, _⟩ := PySem.W.any_some T.hd
      exact PySem.W.kia_one (PySem.W.kitx_exc (by rw [hc]; rfl) T.hg T.hk T.hs T.ha T.hn T.ht T.hm) I.kIn J e (fun z => nomatch z) fun tk => ⟨.bl b, H, I.kept (t' := tk) fun _ _ z => z, rfl, q⟩
/-- e.f, e the error at a -/
def tXfP (K : PySem.W.Frag) (a : Addr) (cls : Value) (d : Option Addr) (n : Str) (te : TE) : TE := fun σ H Q => te σ H fun x H1 => x = .ref a ∧ ∃ (D dd : Addr) (fs : List (Str × V)) (v : V), cls = .ref D ∧ XfC K D ∧ PySem.W.findIn K (.ref D) n = some none ∧ d = some dd ∧ H1 dd = some (.xd fs) ∧ fs.lookup n = some v ∧ Q v H1
theorem pe_xfP {cls : Value} {d : Option Addr} {e : Expr} {te : TE} {pos : Pos} {n : Str}
    (hp : (a, oe) ∈ X.pn) (hz : Zc cls d oe) (hf : ∃ vs, oe.data = .fields vs) (he : PE X e te) (hb : attributeBase e n X.env (eval e X.env) = eval e X.env := by rfl) :
    PE X (.Attribute e n pos) (tXfP X.K a cls d n te) := by
  refine ⟨fun pins s σ H Q I hw => ?_⟩
  refine attr_of hb (thn (he.run pins s σ H _ I hw) fun u s1 ⟨x, H1, I1, rx, ex, D, dd, fs, v, ec, T, hno, ed, ea, l, q⟩ => ?_)
  subst ex ec ed
  obtain rfl : u = Value.ref a := rx
  obtain ⟨g, _⟩ := I1.pin (a, oe) (List.mem_append_left _ hp)
  obtain ⟨vs, hv⟩ := hf
  obtain ⟨mA, hns, hr⟩ := (show ObjOk X.prog X.w H1 s1.heap dd (.xd fs) from I1.hok dd _ ea)
  obtain ⟨od, ho, hl⟩ := lookIn_ns hns
  obtain ⟨w, hw2, rw'⟩ := RelO.some_of (v := v) (o := mA n) (by rw [← l]; exact hr n)
  have J : PySem.W.InstAt s1.heap a oe D (some od) := ⟨g, hz.1, by unfold PySem.W.notCls; rw [hv], by rw [hz.2]; exact ho⟩
  exact HandSPX.exc_get I1.kIn J T.ga T.gg T.exC (PySem.W.findObj_own T.hdC hno rfl (by rw [hl, hw2])) (handed_of rw') ⟨v, H1, I1.tok _, rw', q⟩
end
end Kh
set_option Elab.async false
set_option linter.all false
set_option maxRecDepth 100000
set_option maxHeartbeats 2000000
namespace Kt
open PySem PySem.Spec PyProof.Rows L2 L2H HotX Kh
def top (i : Nat) : Stmt := PySem.Challenge.pw_signedoff_k19_errors_apart.main.body.getD i (.Pass ⟨0, 0, 0, 0⟩)
abbrev sMix : Stmt := top 17
abbrev sNext : Stmt := top 18
abbrev FnP (K : PySem.W.Frag) (x : Str) (st : Stmt) (f : Addr) (fd : FuncData) : Prop := FunD K x x (defArgs st) (defBody st) (defScope st) [] [] f fd

/-- what was tracked stands -/
def Kp (H H' : Hp) : Prop := ∀ b o, H b = some o → H' b = some o
theorem Kp.refl {H : Hp} : Kp H H := fun _ _ e => e
theorem Kp.trans {H H' H'' : Hp} (a : Kp H H') (b : Kp H' H'') : Kp H H'' := fun x o e => b x o (a x o e)
theorem Kp.new {H : Hp} {p : Addr} {o : HO} (hp : H p = none) : Kp H (upd H p o) := fun b u e => by rw [upd_ne (ne_of_none e hp)]; exact e

/-! ### _law_mix -/
def rAdd : R2 := rI0 fun i j => .int (i + j)
def rMul : R2 := rI CMul fun i j => .int (i * j)
def rMod : R2 := rI (fun _ j => 0 < j) fun i j => .int (i % j)
def rDiv : R2 := rI CDiv fun i j => .int (i / j)
def rInt : List V → Hp → VK → Prop := fun xs H Q => (∃ i, xs = [.int i] ∧ Q (.int i) H) ∨ ∃ k, xs = [.bl k] ∧ Q (.int (if k then 1 else 0)) H
def rLst (K : PySem.W.Frag) : List V → Hp → VK → Prop := fun xs H Q => ∃ p ys, xs = [.ref p] ∧ (SqL K H p ys ∨ SqT K H p ys) ∧ ∀ l, H l = none → Q (.ref l) (upd H l (.lst ys))
def tInt (te : TE) : TE := tCB rInt (tCons te tNil)
/-- slots: script, seed, state, cell -/
def t_mix (K : PySem.W.Frag) : TS :=
  tSeq (tAsg (tVar 1) (gName 2)) (tSeq (tFor (iList K (tVar 0)) (gName 3)
    (tAsg (tOp rMod (tInt (tOp rAdd (tOp rAdd (tOp rMul (tVar 2) (tC (.int 48271))) (tOp rMod (tInt (tVar 3)) (tC (.int 2147483629)))) (tC (.int 1)))) (tC (.int 2147483647))) (gName 2)))
    (tRet (tLst (tCons (tVar 2) (tCons (tCB (rLst K) (tCons (tVar 0) tNil)) (tCons (tC (.int 0)) (tCons (tC (.int 14)) tNil)))))))
/-- a source of draws stands at h -/
def SrcH (H : Hp) (h : Addr) (n : Nat) : Prop := ∃ (l : Addr) (st ix z : Int) (cs : List Int), h ≠ l ∧ H h = some (.lst [.int st, .ref l, .int ix, .int z]) ∧ H l = some (.lst (cs.map V.int)) ∧ cs.length = n
def spMix (K : PySem.W.Frag) : Sp := fun vs H Q _ => ∃ (a : Addr) (ns : List Int) (sd : Int), vs = [.ref a, .int sd] ∧ SqL K H a (ns.map V.int) ∧ ns.length ≤ 63 ∧ ∀ h H', Kp H H' → H h = none → SrcH H' h ns.length → Q (.ref h) H'
theorem mix_ok {K : PySem.W.Frag} (vs : List V) (H : Hp) (Q : VK) (E : XK) (w : spMix K vs H Q E) : t_mix K { nx := fun _ H' => Q .non H', rt := Q } (start ["_law_script", "_law_seed", "_law_state", "_law_cell"] vs) H := by
  obtain ⟨a, ns, sd, rfl, hS, hl, k⟩ := w
  refine ⟨_, rfl, _, rfl, a, rfl, ⟨_, hS⟩, for_list (K := K) (a := a) (xs := ns.map V.int) (fun i σ H' => ∃ (st : Int) (v : Option V), σ = [some (.ref a), some (.int sd), some (.int st), v] ∧ H' = H) ⟨sd, none, rfl, rfl⟩ (fun i σ H' _ ⟨_, _, _, e⟩ => e ▸ hS) ?_ ?_⟩
  · rintro i y σ H' hi ⟨st, v, rfl, rfl⟩
    obtain ⟨z, rfl⟩ : ∃ z, y = V.int z := by
      rw [List.getElem?_map] at hi
      cases e : ns[i]? with
      | none => rw [e] at hi; cases hi
      | some z => rw [e] at hi; exact ⟨z, (Option.some.inj hi).symm⟩
    refine ⟨_, rfl, _, _, rfl, rfl, .inr ⟨by decide, by decide⟩, ?_⟩
    refine ⟨_, rfl, .inl ⟨_, rfl, _, _, rfl, rfl, (by show (0 : Int) < _; decide), ?_⟩⟩
    refine ⟨_, _, rfl, rfl, _, _, rfl, rfl, .inl ⟨_, rfl, _, _, rfl, rfl, (by show (0 : Int) < _; decide), ?_⟩⟩
    exact ⟨_, _, rfl, rfl⟩
  · rintro σ H' ⟨st, v, rfl, rfl⟩
    refine ⟨_, rfl, _, rfl, a, _, rfl, .inl hS, fun l nl => ⟨by show 4 ≤ sizeLine; decide, fun h nh => ?_⟩⟩
    have e : h ≠ l := fun z => by rw [z, upd_same] at nh; cases nh
    rw [upd_ne e] at nh
    refine k h _ ((Kp.new nl).trans (Kp.new (by rw [upd_ne e]; exact nh))) nh ⟨l, st, 0, 14, ns, e, upd_same, ?_, rfl⟩
    rw [upd_ne (Ne.symm e), upd_same]
section
variable {P : Program} {w : World} {K : PySem.W.Frag} {mg : Str → Option Value} {base : Heap} {f : Addr} {fd : FuncData}
theorem scMix : FnScope ["_law_script", "_law_seed", "_law_state", "_law_cell"] ["_law_script", "_law_seed"] (defScope sMix) := ⟨rfl, rfl, rfl, by decide +kernel, rfl, by decide +kernel, by decide +kernel⟩
theorem ok_mix (F : FnP K "_law_mix" sMix f fd) (gI : mg "int" = none) (gL : mg "list" = none) : FnOk P w K mg base CX0 1 f fd ["_law_script", "_law_seed"] (spMix K) := by
  refine F.ok scMix (fun vs H Q E h => ?_) (fun cdv A outer s H vs Q E hr h => ⟨t_mix K, PSs.nox ?_, mix_ok vs H Q E h⟩)
  · obtain ⟨a, ns, sd, rfl, _⟩ := h
    rfl
  · exact pss_cons (ps_set (i := 2) scMix.nd rfl (Or.inl rfl) (pv 1))
      (pss_cons (ps_for PassesOwn.never rfl (pi_list (pv 0)) (pg_name (i := 3) scMix.nd rfl (Or.inl rfl))
        (pss_one (ps_set (i := 2) scMix.nd rfl (Or.inl rfl) (pe_op op_mod (pe_callTy call_int1 rfl gI PySem.Pv.boot_int (pa_cons (pe_op op_add (pe_op op_add (pe_op op_mul (pv 2) pe_int) (pe_op op_mod (pe_callTy call_int1 rfl gI PySem.Pv.boot_int (pa_cons (pv 3) pa_nil)) pe_int)) pe_int) pa_nil)) pe_int))))
      (pss_one (ps_ret (pe_lst (pa_cons (pv 2) (pa_cons (pe_callTy call_list_of rfl gL PySem.Pv.boot_list (pa_cons (pv 0) pa_nil)) (pa_cons pe_int (pa_cons pe_int pa_nil))))))))
/-! ### _law_next -/
def rMax2 : List V → Hp → VK → Prop := fun xs H Q => ∃ i j, xs = [.int i, .int j] ∧ Q (.int (if j > i then j else i)) H
def rPow : R2 := rI CPow fun i j => .int (i ^ j.toNat)
def rGe : R2 := rI0 fun i j => .bl (decide (j ≤ i))
/-- h[k] -/
def tH (K : PySem.W.Frag) (k : Int) : TE := tOp (rIxL K) (tVar 0) (tC (.int k))
def tLn (K : PySem.W.Frag) (te : TE) : TE := tCB (rLen K) (tCons te tNil)
/-- slots: h, bound, cell -/
def t_next (K : PySem.W.Frag) : TS :=
  tSeq (tAsg (tOp (rIxL K) (tOp rCat (tH K 1) (tLst (tCons (tC (.int 0)) tNil))) (tOp rMod (tInt (tH K 2)) (tCB rMax2 (tCons (tC (.int 1)) (tCons (tLn K (tH K 1)) tNil))))) (gName 2))
    (tSeq (tIfS (tTest (tOp rGe (tVar 2) (tOp rPow (tC (.int 10)) (tC (.int 18)))))
        (tSeq (tAsg (tOp rDiv (tVar 2) (tVar 1)) (gSub (tH K 1) (tOp rMod (tInt (tH K 2)) (tLn K (tH K 1))) rSetL)) (tRet (tOp rMod (tInt (tVar 2)) (tVar 1)))) tNext)
      (tSeq (tAsg (tOp rMod (tInt (tOp rAdd (tOp rAdd (tOp rMul (tH K 0) (tC (.int 48271))) (tOp rMul (tVar 2) (tC (.int 69621)))) (tC (.int 11)))) (tC (.int 2147483647))) (gSub (tVar 0) (tC (.int 0)) rSetL))
        (tSeq (tAsg (tOp rAdd (tH K 2) (tC (.int 1))) (gSub (tVar 0) (tC (.int 2)) rSetL))
          (tRet (tOp rMod (tInt (tOp rDiv (tH K 0) (tC (.int 7)))) (tVar 1))))))
/-- what was tracked and is no part of the source stands -/
def KpBut (h : Addr) (H H' : Hp) : Prop := ∀ b o, b ≠ h → (∀ l st ix z, H h = some (.lst [.int st, .ref l, .int ix, .int z]) → b ≠ l) → H b = some o → H' b = some o
def spNext : Sp := fun vs H Q _ => ∃ (h : Addr) (n : Nat) (bd : Int), vs = [.ref h, .int bd] ∧ 0 < bd ∧ bd < 1073741824 ∧ n ≤ 63 ∧ SrcH H h n ∧ ∀ (r : Int) H', 0 ≤ r → r < bd → SrcH H' h n → KpBut h H H' → Q (.int r) H'
theorem scNext : FnScope ["_law_h", "_law_bound", "_law_cell"] ["_law_h", "_law_bound"] (defScope sNext) := ⟨rfl, rfl, rfl, by decide +kernel, rfl, by decide +kernel, by decide +kernel⟩
theorem ok_next (pure_ : ∀ (vs : List V) (H : Hp) (Q : VK) (E : XK), spNext vs H Q E → t_next K { nx := fun _ H' => Q .non H', rt := Q } (start ["_law_h", "_law_bound", "_law_cell"] vs) H)
    (F : FnP K "_law_next" sNext f fd) (gI : mg "int" = none) (gM : mg "max" = none) (gL : mg "len" = none) : FnOk P w K mg base CX0 1 f fd ["_law_h", "_law_bound"] spNext := by
  refine F.ok scNext (fun vs H Q E h => ?_) (fun cdv A outer s H vs Q E hr h => ⟨t_next K, PSs.nox ?_, pure_ vs H Q E h⟩)
  · obtain ⟨h, n, bd, rfl, _⟩ := h
    rfl
  · exact pss_cons (ps_set (i := 2) scNext.nd rfl (Or.inl rfl) (pe_ix ix_list (pe_op op_cat (pe_ix ix_list (pv 0) pe_int (fun _ _ => rfl)) (pe_lst (pa_cons pe_int pa_nil)))
          (pe_op op_mod (pe_callTy call_int1 rfl gI PySem.Pv.boot_int (pa_cons (pe_ix ix_list (pv 0) pe_int (fun _ _ => rfl)) pa_nil)) (pe_callB (call_max2 rfl) rfl gM PyProof.Rows.boot_max (pa_cons pe_int (pa_cons (pe_callB call_len rfl gL PySem.boot_len (pa_cons (pe_ix ix_list (pv 0) pe_int (fun _ _ => rfl)) pa_nil)) pa_nil)))) (fun _ _ => rfl)))
      (pss_cons (ps_if (pt_cmpR op_ge (pv 2) (pe_op op_pow pe_int pe_int) (nomark _))
          (pss_cons (ps_asg (pe_op op_fdiv (pv 2) (pv 1)) (pg_sub (pe_ix ix_list (pv 0) pe_int (fun _ _ => rfl)) (pe_op op_mod (pe_callTy call_int1 rfl gI PySem.Pv.boot_int (pa_cons (pe_ix ix_list (pv 0) pe_int (fun _ _ => rfl)) pa_nil)) (pe_callB call_len rfl gL PySem.boot_len (pa_cons (pe_ix ix_list (pv 0) pe_int (fun _ _ => rfl)) pa_nil))) set_list))
            (pss_one (ps_ret (pe_op op_mod (pe_callTy call_int1 rfl gI PySem.Pv.boot_int (pa_cons (pv 2) pa_nil)) (pv 1))))) pss_nil)
        (pss_cons (ps_asg (pe_op op_mod (pe_callTy call_int1 rfl gI PySem.Pv.boot_int (pa_cons (pe_op op_add (pe_op op_add (pe_op op_mul (pe_ix ix_list (pv 0) pe_int (fun _ _ => rfl)) pe_int) (pe_op op_mul (pv 2) pe_int)) pe_int) pa_nil)) pe_int) (pg_sub (pv 0) pe_int set_list))
          (pss_cons (ps_asg (pe_op op_add (pe_ix ix_list (pv 0) pe_int (fun _ _ => rfl)) pe_int) (pg_sub (pv 0) pe_int set_list))
            (pss_one (ps_ret (pe_op op_mod (pe_callTy call_int1 rfl gI PySem.Pv.boot_int (pa_cons (pe_op op_fdiv (pe_ix ix_list (pv 0) pe_int (fun _ _ => rfl)) pe_int) pa_nil)) (pv 1)))))))
end
end Kt
set_option Elab.async false
set_option linter.all false
set_option maxRecDepth 100000
set_option maxHeartbeats 2000000
namespace Kt
open PySem PySem.Spec PyProof.Rows L2 L2H HotX Kh
section
variable {K : PySem.W.Frag} {σ : L2.St} {H : Hp} {Q : VK} {h l : Addr}
theorem tH_at {k : Int} {xs : List V} {v : V} (hσ : σ[0]? = some (some (.ref h))) (e : H h = some (.lst xs)) (a : atI xs k = some v) (q : Q v H) : tH K k σ H Q := ⟨_, hσ, _, _, _, _, rfl, rfl, SqL.of e, a, q⟩
theorem tLn_at {te : TE} {xs : List V} (w : te σ H fun v H1 => v = .ref l ∧ H1 l = some (.lst xs) ∧ Q (.int xs.length) H1) (mono : ∀ R R' : VK, (∀ v H1, R v H1 → R' v H1) → te σ H R → te σ H R') : tLn K te σ H Q :=
  mono _ _ (fun v H1 ⟨e, a, q⟩ => by subst e; exact ⟨_, _, rfl, .inl ⟨_, SqL.of a, rfl⟩, q⟩) w
theorem tH_mono {k : Int} : ∀ R R' : VK, (∀ v H1, R v H1 → R' v H1) → tH K k σ H R → tH K k σ H R' := fun R R' m ⟨a, b, p, xs, i, v, c, d, e, f, q⟩ => ⟨a, b, p, xs, i, v, c, d, e, f, m _ _ q⟩
end
theorem ixN_nat {n j : Nat} (h : j < n) : ixN n (j : Int) = some j := by
  unfold ixN
  rw [if_pos (by omega), if_pos (by omega)]
  rfl
theorem next_pure {K : PySem.W.Frag} (vs : List V) (H : Hp) (Q : VK) (E : XK) (w : spNext vs H Q E) : t_next K { nx := fun _ H' => Q .non H', rt := Q } (start ["_law_h", "_law_bound", "_law_cell"] vs) H := by
  obtain ⟨h, n, bd, rfl, b0, b1, hn, ⟨l, st, ix, z, cs, hl, eh, el, hc⟩, k⟩ := w
  -- the cell's place
  obtain ⟨m, hm, m1, m2⟩ : ∃ m : Nat, (if ((cs.length : Nat) : Int) > 1 then ((cs.length : Nat) : Int) else 1) = (m : Int) ∧ 0 < m ∧ (0 < cs.length → m = cs.length) := by
    by_cases q : ((cs.length : Nat) : Int) > 1
    · exact ⟨cs.length, if_pos q, by omega, fun _ => rfl⟩
    · exact ⟨1, if_neg q, by omega, fun _ => by omega⟩
  obtain ⟨j, hj, jm⟩ : ∃ j : Nat, ix % (m : Int) = (j : Int) ∧ j < m := by
    have a1 := Int.emod_nonneg ix (show (m : Int) ≠ 0 by omega)
    have a2 := Int.emod_lt_of_pos ix (show (0 : Int) < m by omega)
    exact ⟨(ix % (m : Int)).toNat, by omega, by omega⟩
  obtain ⟨c, hcell, big⟩ : ∃ c : Int, (cs.map V.int ++ [V.int 0])[j]? = some (V.int c) ∧ (c ≠ 0 → j < cs.length) := by
    by_cases q : j < cs.length
    · exact ⟨cs[j], by rw [List.getElem?_append_left (by simpa using q), List.getElem?_map, List.getElem?_eq_getElem q]; rfl, fun _ => q⟩
    · have z0 : cs.length = 0 := by
        by_cases y : 0 < cs.length
        · have := m2 y; omega
        · omega
      have j0 : j = 0 := by omega
      have e0 : cs = [] := List.length_eq_zero_iff.mp z0
      subst e0
      subst j0
      exact ⟨0, rfl, fun y => absurd rfl y⟩
  have rng : ∀ x : Int, 0 ≤ x % bd ∧ x % bd < bd := fun x => ⟨Int.emod_nonneg _ (by omega), Int.emod_lt_of_pos _ b0⟩
  -- the first line
  refine tH_at rfl eh rfl ?_
  refine ⟨by show 1 ≤ sizeLine; decide, fun p1 n1 => ?_⟩
  have h1 : h ≠ p1 := fun e => by rw [← e, eh] at n1; cases n1
  have l1 : l ≠ p1 := fun e => by rw [← e, el] at n1; cases n1
  refine ⟨l, p1, _, _, rfl, rfl, (upd_ne l1).trans el, upd_same, by show (cs.map V.int).length + 1 ≤ sizeLine; rw [List.length_map, sizeLine_eq]; omega, fun p2 n2 => ?_⟩
  have p12 : p1 ≠ p2 := fun e => by rw [← e, upd_same] at n2; cases n2
  have n2' : H p2 = none := by rw [upd_ne (Ne.symm p12)] at n2; exact n2
  have h2 : h ≠ p2 := fun e => by rw [← e, eh] at n2'; cases n2'
  have l2 : l ≠ p2 := fun e => by rw [← e, el] at n2'; cases n2'
  generalize hG : upd (upd H p1 (.lst [V.int 0])) p2 (.lst (cs.map V.int ++ [V.int 0])) = G
  have gh : G h = some (.lst [.int st, .ref l, .int ix, .int z]) := by rw [← hG, upd_ne h2, upd_ne h1]; exact eh
  have gl : G l = some (.lst (cs.map V.int)) := by rw [← hG, upd_ne l2, upd_ne l1]; exact el
  have gp : G p2 = some (.lst (cs.map V.int ++ [V.int 0])) := by rw [← hG]; exact upd_same
  have gk : Kp H G := by
    rw [← hG]
    exact (Kp.new n1).trans (Kp.new n2)
  refine tH_at rfl gh rfl ?_
  refine .inl ⟨ix, rfl, ?_⟩
  refine tLn_at (tH_at rfl gh rfl ⟨rfl, gl, ?_⟩) tH_mono
  refine ⟨1, ((cs.map V.int).length : Int), rfl, ?_⟩
  rw [List.length_map, hm]
  refine ⟨ix, (m : Int), rfl, rfl, (by show (0 : Int) < m; omega), ?_⟩
  refine ⟨p2, _, ix % (m : Int), V.int c, rfl, rfl, SqL.of gp, by rw [hj]; exact atI_nat hcell, ?_⟩
  -- if cell >= 10 ** 18
  show tSeq _ _ _ [some (V.ref h), some (V.int bd), some (V.int c)] G
  refine ⟨_, rfl, 10, 18, rfl, rfl, ⟨by decide, by decide, by decide⟩, c, _, rfl, rfl, _, rfl, ?_⟩
  refine ite2 (fun q => ?_) (fun q => ?_)
  · have c18 : (10 : Int) ^ (18 : Int).toNat ≤ c := of_decide_eq_true q
    have cp : c ≠ 0 := fun e => by rw [e] at c18; exact absurd c18 (by decide)
    have jl := big cp
    have ml : m = cs.length := m2 (by omega)
    refine ⟨_, rfl, _, rfl, c, bd, rfl, rfl, ⟨b0, b1⟩, ?_⟩
    refine tH_at rfl gh rfl ?_
    refine tH_at rfl gh rfl (.inl ⟨ix, rfl, ?_⟩)
    refine tLn_at (tH_at rfl gh rfl ⟨rfl, gl, ?_⟩) tH_mono
    rw [List.length_map]
    refine ⟨ix, (cs.length : Int), rfl, rfl, (by show (0 : Int) < cs.length; omega), ?_⟩
    refine ⟨l, _, ix % (cs.length : Int), j, rfl, rfl, gl, by rw [← ml, hj]; exact ixN_nat (by rw [List.length_map]; exact jl), ?_⟩
    refine ⟨_, rfl, .inl ⟨c, rfl, _, rfl, c, bd, rfl, rfl, b0, ?_⟩⟩
    refine k (c % bd) _ (rng c).1 (rng c).2 ⟨l, st, ix, z, cs.set j (c / bd), hl, (upd_ne hl).trans gh, ?_, by rw [List.length_set]; exact hc⟩ fun b o bh bl e => ?_
    · rw [upd_same, List.map_set]
    · rw [upd_ne (bl l st ix z eh)]
      exact gk b o e
  · refine tH_at rfl gh rfl ?_
    refine ⟨_, _, rfl, rfl, .inr ⟨by decide, by decide⟩, _, rfl, _, _, rfl, rfl, .inr ⟨by decide, by decide⟩, _, _, rfl, rfl, _, _, rfl, rfl, .inl ⟨_, rfl, _, _, rfl, rfl, (by show (0 : Int) < _; decide), ?_⟩⟩
    refine ⟨_, rfl, h, _, 0, 0, rfl, rfl, gh, rfl, ?_⟩
    obtain ⟨s1, hs⟩ : ∃ s1 : Int, s1 = (st * 48271 + c * 69621 + 11) % 2147483647 := ⟨_, rfl⟩
    have es : ([.int st, .ref l, .int ix, .int z] : List V).set 0 (.int ((st * 48271 + c * 69621 + 11) % 2147483647)) = [.int s1, .ref l, .int ix, .int z] := by rw [hs]; rfl
    dsimp only
    rw [es]
    refine tH_at (xs := [.int s1, .ref l, .int ix, .int z]) rfl upd_same rfl ?_
    refine ⟨_, _, rfl, rfl, ?_⟩
    refine ⟨_, rfl, h, [.int s1, .ref l, .int ix, .int z], 2, 2, rfl, rfl, upd_same, rfl, ?_⟩
    refine tH_at (xs := [.int s1, .ref l, .int (ix + 1), .int z]) rfl upd_same rfl ?_
    refine ⟨_, _, rfl, rfl, ⟨by decide, by decide⟩, .inl ⟨_, rfl, _, rfl, _, _, rfl, rfl, b0, ?_⟩⟩
    refine k _ _ (rng _).1 (rng _).2 ⟨l, s1, ix + 1, z, cs, hl, upd_same, ?_, hc⟩ fun b o bh bl e => ?_
    · rw [upd_ne (Ne.symm hl), upd_ne (Ne.symm hl)]
      exact gl
    · rw [upd_ne bh, upd_ne bh]
      exact gk b o e
end Kt
set_option Elab.async false
set_option linter.all false
set_option maxRecDepth 100000
set_option maxHeartbeats 2000000
namespace Kt
open PySem PySem.Spec PyProof.Rows L2 L2H HotX Kh
def cn : List Str := ["InvalidParts", "InvalidContents", "InvalidManner", "InvalidWords", "NotComparable", "InvalidDeed", "UnknownKind", "UnknownIndex", "InvalidPerson", "UnknownPerson", "UnknownDeed", "UnknownThing", "Possible", "InvalidText"]
def cx (k : Nat) : Str := cn.getD k ""
def cA (K : PySem.W.Frag) (k : Nat) : Addr := He.ga K (cx k)
/-- the fields of the class with number k -/
def fl (k : Nat) : List Str := ([[], [], [], [], [], ["index"], ["index"], ["index"], ["name"], ["name"], ["deed"], ["thing"], ["row"], ["line", "word"]] : List (List Str)).getD k []
structure ClK (K : PySem.W.Frag) (mg : Str → Option Value) (k : Nat) : Prop where
  g : mg (cx k) = some (.ref (cA K k))
  kp : PySem.W.keepIn K (.ref (cA K k)) = true
  sub : PySem.W.subIn K (.ref (cA K k)) (.type "BaseException") = some true
  ty : PySem.W.typeIn K (.ref (cA K k)) = some (.type "type")
  exm : PySem.W.exmOne K (.ref (cA K k)) (.ref (He.ga K "SignError")) = some true
  ec : ExcC K (cA K k)
  kit : ∀ i, i < 14 → PySem.W.kitOne K (.ref (cA K k)) (.ref (cA K i)) = some (decide (i = k))
  kitV : PySem.W.kitOne K (.ref (cA K k)) (.type "ValueError") = some true
structure InitK (K : PySem.W.Frag) (k : Nat) : Prop where
  ox : OexC K (cA K k)
  iC : PySem.W.findIn K (.ref (cA K k)) "__init__" = some (some (.ref (He.ma K (cA K k) "__init__")))
  tI : PySem.W.typeIn K (.ref (He.ma K (cA K k) "__init__")) = some (.type "function")
  xf : XfC K (cA K k)
  no : ∀ f ∈ fl k, PySem.W.findIn K (.ref (cA K k)) f = some none
structure T19 (K : PySem.W.Frag) (mg : Str → Option Value) : Prop where
  cl : ∀ k, k < 14 → ClK K mg k
  bare : ∀ k, k < 5 → PySem.W.excIn K (cA K k) He.veBase "ValueError.__new__" = true
  ini : ∀ k, 5 ≤ k → k < 14 → InitK K k
  sign : mg "SignError" = some (.ref (He.ga K "SignError"))

/-! ### _law_bare -/
abbrev sBare : Stmt := top 19
abbrev sThrown : Stmt := top 20
def spBare (K : PySem.W.Frag) : Sp := fun vs H _ E => ∃ k : Nat, vs = [.int k] ∧ k < 5 ∧ E (.ref (cA K k)) none H
def rLt : R2 := rI0 fun i j => .bl (decide (i < j))
def tEq0 (n : Int) : TT := tTest (tOp rEq (tVar 0) (tC (.int n)))
def tLt0 (n : Int) : TT := tTest (tOp rLt (tVar 0) (tC (.int n)))
theorem eq0 {n k : Int} {σ : L2.St} {H : Hp} {Q : Bool → Hp → Prop} (h : σ[0]? = some (some (.int k))) (q : Q (decide (k = n)) H) : tEq0 n σ H Q := by
  refine ⟨_, h, rfl, _, rfl, ?_⟩
  by_cases e : k = n
  · subst e
    rw [decide_eq_true rfl] at q ⊢
    exact q
  · rw [decide_eq_false e] at q
    rw [decide_eq_false (fun z => e (by injection z))]
    exact q
theorem lt0 {n k : Int} {σ : L2.St} {H : Hp} {Q : Bool → Hp → Prop} (h : σ[0]? = some (some (.int k))) (q : Q (decide (k < n)) H) : tLt0 n σ H Q := ⟨_, h, _, _, rfl, rfl, _, rfl, q⟩
def tBr (K : PySem.W.Frag) (W : WX) (k : Nat) : TS := fun _ σ H => W (.ref (cA K k)) none σ H
def t_bare (K : PySem.W.Frag) (E : XK) : TS :=
  tSeq (tIfS (tEq0 0) (tBr K (fun c d _ H => E c d H) 0) tNext) (tSeq (tIfS (tEq0 1) (tBr K (fun c d _ H => E c d H) 1) tNext) (tSeq (tIfS (tEq0 2) (tBr K (fun c d _ H => E c d H) 2) tNext)
    (tSeq (tIfS (tEq0 3) (tBr K (fun c d _ H => E c d H) 3) tNext) (tBr K (fun c d _ H => E c d H) 4))))
theorem if_step {n k : Int} {t u : TS} {D : Ends} {σ : L2.St} {H : Hp} (h : σ[0]? = some (some (.int k))) (yes : k = n → t D σ H) (no : k ≠ n → u D σ H) : tIfS (tEq0 n) t u D σ H := by
  refine eq0 h ?_
  by_cases e : k = n
  · rw [decide_eq_true e]; exact iteT (yes e)
  · rw [decide_eq_false e]; exact iteF (no e)
theorem if_lt {n k : Int} {t u : TS} {D : Ends} {σ : L2.St} {H : Hp} (h : σ[0]? = some (some (.int k))) (yes : k < n → t D σ H) (no : ¬ k < n → u D σ H) : tIfS (tLt0 n) t u D σ H := by
  refine lt0 h ?_
  by_cases e : k < n
  · rw [decide_eq_true e]; exact iteT (yes e)
  · rw [decide_eq_false e]; exact iteF (no e)
theorem bare_pure {K : PySem.W.Frag} (vs : List V) (H : Hp) (Q : VK) (E : XK) (w : spBare K vs H Q E) : t_bare K E { nx := fun _ H' => Q .non H', rt := Q } (start ["_law_k"] vs) H := by
  obtain ⟨k, rfl, hk, e⟩ := w
  refine if_step rfl (fun z => ?_) fun z0 => ?_
  · rw [show k = 0 by omega] at e; exact e
  refine if_step rfl (fun z => ?_) fun z1 => ?_
  · rw [show k = 1 by omega] at e; exact e
  refine if_step rfl (fun z => ?_) fun z2 => ?_
  · rw [show k = 2 by omega] at e; exact e
  refine if_step rfl (fun z => ?_) fun z3 => ?_
  · rw [show k = 3 by omega] at e; exact e
  rw [show k = 4 by omega] at e
  exact e
section
variable {P : Program} {w : World} {K : PySem.W.Frag} {mg : Str → Option Value} {base : Heap} {f : Addr} {fd : FuncData}
theorem scBare : FnScope ["_law_k"] ["_law_k"] (defScope sBare) := ⟨rfl, rfl, rfl, by decide +kernel, rfl, by decide +kernel, by decide +kernel⟩
theorem ps_rb {X : Cx} {W : WX} {k : Nat} {x : Str} {p pos pos2 : Pos} (T : T19 X.K X.mg) (hk : k < 5) (hc : X.calm = true) (tk : L2N.Takes X W) (hx : x = cx k) (hg : Gl X x) (hdb : (x == ("__debug__" : Str)) = false := by decide) :
    PS X (.Raise (some (.Call (.Name x p) [] [] pos)) none pos2) (tBr X.K W k) := by
  have c := T.cl k (by omega)
  exact L2N.ps_raise hc tk (pmk_bare PySem.F.excBase_ValueError (T.bare k hk) (by rw [hx]; exact c.g) c.kp (raises_own c.sub c.ty) hg hdb)
theorem ok_bare (F : FnP K "_law_bare" sBare f fd) (T : T19 K mg) : FnOk P w K mg base (L2N.CX P w) 1 f fd ["_law_k"] (spBare K) := by
  refine F.ok scBare (fun vs H Q E h => ?_) (fun cdv A outer s H vs Q E hr h => ⟨t_bare K E, ?_, bare_pure vs H Q E h⟩)
  · obtain ⟨k, rfl, _⟩ := h
    rfl
  · have tk := L2N.takes_of (X := cxOf (L2N.CX P w) P w K mg base ["_law_k"] "_law_bare" (defScope sBare) f cdv A outer s H E) (E := E) rfl rfl rfl rfl
    exact pss_cons (ps_if (pt_cmpR op_eq (pv 0) pe_int (nomark _)) (pss_one (ps_rb (k := 0) T (by decide) rfl tk rfl rfl)) pss_nil)
      (pss_cons (ps_if (pt_cmpR op_eq (pv 0) pe_int (nomark _)) (pss_one (ps_rb (k := 1) T (by decide) rfl tk rfl rfl)) pss_nil)
      (pss_cons (ps_if (pt_cmpR op_eq (pv 0) pe_int (nomark _)) (pss_one (ps_rb (k := 2) T (by decide) rfl tk rfl rfl)) pss_nil)
      (pss_cons (ps_if (pt_cmpR op_eq (pv 0) pe_int (nomark _)) (pss_one (ps_rb (k := 3) T (by decide) rfl tk rfl rfl)) pss_nil)
      (pss_one (ps_rb (k := 4) T (by decide) rfl tk rfl rfl)))))
end
end Kt
set_option Elab.async false
set_option linter.all false
set_option maxRecDepth 100000
set_option maxHeartbeats 2000000
namespace Kt
open PySem PySem.Spec PyProof.Rows L2 L2H HotX Kh
def init (i : Nat) : Stmt := match top i with
  | .ClassDef (body := b) .. => b.getD 0 (.Pass ⟨0, 0, 0, 0⟩)
  | _ => .Pass ⟨0, 0, 0, 0⟩
abbrev FnI (K : PySem.W.Frag) (k : Nat) (q : Str) (st : Stmt) (fd : FuncData) : Prop := FunD K "__init__" q (defArgs st) (defBody st) (defScope st) [] [] (He.ma K (cA K k) "__init__") fd
def spI1 (C : Addr) (n : Str) : Sp := fun vs H Q _ => ∃ (a : Addr) (y : V), vs = [.ref a, y] ∧ H a = some (exo a C none) ∧ ∀ dx, H dx = none → dx ≠ a → Q .non (upd (upd H dx (exd dx [(n, y)])) a (exo a C (some dx)))
def spI2 (C : Addr) (n m : Str) : Sp := fun vs H Q _ => ∃ (a : Addr) (y z : V), vs = [.ref a, y, z] ∧ H a = some (exo a C none) ∧ ∀ dx, H dx = none → dx ≠ a → Q .non (upd (upd (upd H dx (exd dx [(n, y)])) a (exo a C (some dx))) dx (exd dx [(m, z), (n, y)]))
section
variable {P : Program} {w : World} {K : PySem.W.Frag} {mg : Str → Option Value} {base : Heap} {fd : FuncData}
theorem ok_i1 {k : Nat} {q n : Str} {st : Stmt} {p1 p2 p3 p4 : Pos} (F : FnI K k q st fd) (T : InitK K k) (hf : n ∈ fl k) (S : FnScope ["self", n] ["self", n] (defScope st)) (hs : (defScope st).names.lookup ("self" : Str) = some .local) (hn : (defScope st).names.lookup n = some .local)
    (hb : defBody st = [.Assign [.Attribute (.Name "self" p1) n p2] (.Name n p3) p4]) (hd : (n == ("__debug__" : Str)) = false) (hcd : (n == ("__classdict__" : Str)) = false) : FnOk P w K mg base CX0 1 (He.ma K (cA K k) "__init__") fd ["self", n] (spI1 (cA K k) n) := by
  refine F.ok S (fun vs H Q E h => ?_) (fun cdv A outer s H vs Q E hr h => ⟨tOst K n (tVar 0) (tVar 1), PSs.nox ?_, ?_⟩)
  · obtain ⟨a, y, rfl, _⟩ := h
    rfl
  · rw [hb]
    exact pss_one (ps_ost (pe_var (i := 0) rfl (Or.inl hs)) (pe_var (i := 1) rfl (Or.inl hn) hd hcd))
  · obtain ⟨a, y, rfl, ea, k2⟩ := h
    exact ⟨_, rfl, _, rfl, a, cA K k, rfl, T.ox, T.no n hf, .inl ⟨ea, fun dx h1 h2 => k2 dx h1 h2⟩⟩
theorem ok_i2 {k : Nat} {q n m : Str} {st : Stmt} {p1 p2 p3 p4 p5 p6 p7 p8 : Pos} (F : FnI K k q st fd) (T : InitK K k) (hf : n ∈ fl k) (hg : m ∈ fl k) (S : FnScope ["self", n, m] ["self", n, m] (defScope st)) (hs : (defScope st).names.lookup ("self" : Str) = some .local) (hn : (defScope st).names.lookup n = some .local) (hm : (defScope st).names.lookup m = some .local)
    (hb : defBody st = [.Assign [.Attribute (.Name "self" p1) n p2] (.Name n p3) p4, .Assign [.Attribute (.Name "self" p5) m p6] (.Name m p7) p8]) (hd : (n == ("__debug__" : Str)) = false) (hcd : (n == ("__classdict__" : Str)) = false) (hd2 : (m == ("__debug__" : Str)) = false) (hcd2 : (m == ("__classdict__" : Str)) = false) :
    FnOk P w K mg base CX0 1 (He.ma K (cA K k) "__init__") fd ["self", n, m] (spI2 (cA K k) n m) := by
  refine F.ok S (fun vs H Q E h => ?_) (fun cdv A outer s H vs Q E hr h => ⟨tSeq (tOst K n (tVar 0) (tVar 1)) (tOst K m (tVar 0) (tVar 2)), PSs.nox ?_, ?_⟩)
  · obtain ⟨a, y, z, rfl, _⟩ := h
    rfl
  · rw [hb]
    exact pss_cons (ps_ost (pe_var (i := 0) rfl (Or.inl hs)) (pe_var (i := 1) rfl (Or.inl hn) hd hcd)) (pss_one (ps_ost (pe_var (i := 0) rfl (Or.inl hs)) (pe_var (i := 2) rfl (Or.inl hm) hd2 hcd2)))
  · obtain ⟨a, y, z, rfl, ea, k2⟩ := h
    refine ⟨_, rfl, _, rfl, a, cA K k, rfl, T.ox, T.no n hf, .inl ⟨ea, fun dx h1 h2 => ?_⟩⟩
    exact ⟨_, rfl, _, rfl, a, cA K k, rfl, T.ox, T.no m hg, .inr ⟨dx, [(n, y)], upd_same, (upd_ne h2).trans upd_same, (by show (1 : Nat) ≤ 900; decide), k2 dx h1 h2⟩⟩
end
/-- a made error, its dict told -/
theorem kp_end {H : Hp} {a d : Addr} {x o o' e e' : HO} (na : H a = none) (nd : H d = none) (ne : d ≠ a) : Kp H (upd (del (upd (upd (upd H a o) d e) a o') a) d x) := fun b u hb => by
  have h1 : b ≠ a := ne_of_none hb na
  have h2 : b ≠ d := ne_of_none hb nd
  rw [upd_ne h2, del_ne h1, upd_ne h1, upd_ne h2, upd_ne h1]
  exact hb
theorem kp_end2 {H : Hp} {a d : Addr} {x o o' e e' : HO} (na : H a = none) (nd : H d = none) (ne : d ≠ a) : Kp H (upd (del (upd (upd (upd (upd H a o) d e) a o') d e') a) d x) := fun b u hb => by
  have h1 : b ≠ a := ne_of_none hb na
  have h2 : b ≠ d := ne_of_none hb nd
  rw [upd_ne h2, del_ne h1, upd_ne h2, upd_ne h1, upd_ne h2, upd_ne h1]
  exact hb
theorem mk1 {C : Addr} {n : Str} {i : Nat} {y : V} {σ : L2.St} {H : Hp} {Q : XK} (hy : σ[i]? = some (some y)) (k : ∀ d H', Kp H H' → H' d = some (.xd [(n, y)]) → Q (.ref C) (some d) H') : tMkO C (spI1 C n) [] (tCons (tVar i) tNil) σ H Q := by
  refine ⟨y, hy, (by show (1 : Nat) ≤ 1000; decide), fun a na => ⟨a, y, rfl, upd_same, fun dx hx ne => ⟨rfl, dx, [(n, y)], upd_same, (upd_ne ne).trans upd_same, ?_, ?_⟩⟩⟩
  · rw [upd_ne ne] at hx
    exact hx
  · rw [upd_ne ne] at hx
    exact k dx _ (kp_end (e' := exd dx []) na hx ne) upd_same
theorem mk2 {C : Addr} {n m : Str} {i j : Nat} {y z : V} {σ : L2.St} {H : Hp} {Q : XK} (hy : σ[i]? = some (some y)) (hz : σ[j]? = some (some z)) (k : ∀ d H', Kp H H' → H' d = some (.xd [(m, z), (n, y)]) → Q (.ref C) (some d) H') : tMkO C (spI2 C n m) [] (tCons (tVar i) (tCons (tVar j) tNil)) σ H Q := by
  refine ⟨y, hy, z, hz, (by show (2 : Nat) ≤ 1000; decide), fun a na => ⟨a, y, z, rfl, upd_same, fun dx hx ne => ⟨rfl, dx, [(m, z), (n, y)], ?_, upd_same, ?_, ?_⟩⟩⟩
  · rw [upd_ne (Ne.symm ne)]
    exact upd_same
  · rw [upd_ne ne] at hx
    exact hx
  · rw [upd_ne ne] at hx
    exact k dx _ (kp_end2 na hx ne) upd_same

/-! ### _law_thrown -/
def flds (k : Nat) (y z : V) : List (Str × V) := if k < 8 then [("index", y)] else if k < 10 then [("name", y)] else if k < 11 then [("deed", y)] else if k < 12 then [("thing", y)] else if k < 13 then [("row", y)] else [("word", z), ("line", y)]
/-- the dict d of an error of the class k -/
def ErrD (H : Hp) (k : Nat) (y z : V) (d : Option Addr) : Prop := if k < 5 then d = none else ∃ dd, d = some dd ∧ H dd = some (.xd (flds k y z))
def spThrown (K : PySem.W.Frag) : Sp := fun vs H _ E => ∃ (k : Nat) (y z : V), vs = [.int k, y, z] ∧ k < 14 ∧ ∀ d H', Kp H H' → ErrD H' k y z d → E (.ref (cA K k)) d H'
abbrev WT (E : XK) : WX := fun c d _ H => E c d H
def tMk1 (K : PySem.W.Frag) (E : XK) (k : Nat) (n : Str) : TS := fun _ σ H => tMkO (cA K k) (spI1 (cA K k) n) [] (tCons (tVar 1) tNil) σ H fun c d H' => WT E c d σ H'
def t_thrown (K : PySem.W.Frag) (E : XK) : TS :=
  tSeq (tIfS (tLt0 5) (tDrop (tCallS (spBare K) (WE (WT E)) (tCons (tVar 0) tNil))) tNext) (tSeq (tIfS (tEq0 5) (tMk1 K E 5 "index") tNext) (tSeq (tIfS (tEq0 6) (tMk1 K E 6 "index") tNext)
    (tSeq (tIfS (tEq0 7) (tMk1 K E 7 "index") tNext) (tSeq (tIfS (tEq0 8) (tMk1 K E 8 "name") tNext) (tSeq (tIfS (tEq0 9) (tMk1 K E 9 "name") tNext) (tSeq (tIfS (tEq0 10) (tMk1 K E 10 "deed") tNext)
    (tSeq (tIfS (tEq0 11) (tMk1 K E 11 "thing") tNext) (tSeq (tIfS (tEq0 12) (tMk1 K E 12 "row") tNext)
      (fun _ σ H => tMkO (cA K 13) (spI2 (cA K 13) "line" "word") [] (tCons (tVar 1) (tCons (tVar 2) tNil)) σ H fun c d H' => WT E c d σ H')))))))))
theorem thrown_pure {K : PySem.W.Frag} (vs : List V) (H : Hp) (Q : VK) (E : XK) (w : spThrown K vs H Q E) : t_thrown K E { nx := fun _ H' => Q .non H', rt := Q } (start ["_law_k", "_law_one", "_law_two"] vs) H := by
  obtain ⟨k, y, z, rfl, hk, e⟩ := w
  refine if_lt rfl (fun q => ?_) fun q => ?_
  · exact ⟨_, rfl, k, rfl, by omega, e none H Kp.refl (by unfold ErrD; rw [if_pos (by omega)])⟩
  have fin : ∀ {j : Nat} {n : Str} {D : Ends}, k = j → ¬ j < 5 → flds j y z = [(n, y)] → tMk1 K E j n D (start ["_law_k", "_law_one", "_law_two"] [.int k, y, z]) H := fun {j n D} ej h5 ef => by
    subst ej
    exact mk1 (y := y) rfl fun d H' kp hd => e (some d) H' kp (by unfold ErrD; rw [if_neg h5, ef]; exact ⟨d, rfl, hd⟩)
  refine if_step rfl (fun z => fin (by omega) (by decide) rfl) fun z5 => ?_
  refine if_step rfl (fun z => fin (by omega) (by decide) rfl) fun z6 => ?_
  refine if_step rfl (fun z => fin (by omega) (by decide) rfl) fun z7 => ?_
  refine if_step rfl (fun z => fin (by omega) (by decide) rfl) fun z8 => ?_
  refine if_step rfl (fun z => fin (by omega) (by decide) rfl) fun z9 => ?_
  refine if_step rfl (fun z => fin (by omega) (by decide) rfl) fun z10 => ?_
  refine if_step rfl (fun z => fin (by omega) (by decide) rfl) fun z11 => ?_
  refine if_step rfl (fun z => fin (by omega) (by decide) rfl) fun z12 => ?_
  obtain rfl : k = 13 := by omega
  exact mk2 (y := y) (z := z) rfl rfl fun d H' kp hd => e (some d) H' kp ⟨d, rfl, hd⟩

/-- the __init__s, by the class's number -/
structure I19 (K : PySem.W.Frag) : Prop where
  i5 : ∃ fd, FnI K 5 "InvalidDeed.__init__" (init 8) fd
  i6 : ∃ fd, FnI K 6 "UnknownKind.__init__" (init 13) fd
  i7 : ∃ fd, FnI K 7 "UnknownIndex.__init__" (init 14) fd
  i8 : ∃ fd, FnI K 8 "InvalidPerson.__init__" (init 3) fd
  i9 : ∃ fd, FnI K 9 "UnknownPerson.__init__" (init 7) fd
  i10 : ∃ fd, FnI K 10 "UnknownDeed.__init__" (init 9) fd
  i11 : ∃ fd, FnI K 11 "UnknownThing.__init__" (init 10) fd
  i12 : ∃ fd, FnI K 12 "Possible.__init__" (init 11) fd
  i13 : ∃ fd, FnI K 13 "InvalidText.__init__" (init 15) fd
section
variable {P : Program} {w : World} {K : PySem.W.Frag} {mg : Str → Option Value} {base : Heap} {f : Addr} {fd : FuncData}
/-- an __init__ and how it binds -/
def Ini (P : Program) (w : World) (K : PySem.W.Frag) (mg : Str → Option Value) (base : Heap) (k : Nat) (ps : List Str) (sp : Sp) : Prop :=
  ∃ fd, FnOk P w K mg base CX0 1 (He.ma K (cA K k) "__init__") fd ps sp ∧ Binds K fd ps []
theorem ini1 {k : Nat} {q n : Str} {st : Stmt} {p1 p2 p3 p4 : Pos} (F : ∃ fd, FnI K k q st fd) (T : InitK K k) (hf : n ∈ fl k) (S : FnScope ["self", n] ["self", n] (defScope st)) (hs : (defScope st).names.lookup ("self" : Str) = some .local) (hn : (defScope st).names.lookup n = some .local)
    (hb : defBody st = [.Assign [.Attribute (.Name "self" p1) n p2] (.Name n p3) p4]) (hd : (n == ("__debug__" : Str)) = false) (hcd : (n == ("__classdict__" : Str)) = false)
    (hbi : ∀ (kV doc pm : Value) (an : Option Addr) (cdv ct : Value) (us : List Value), us.length = (["self", n] : List Str).length → bindArgs (PySem.W.fnOf "__init__" q (defArgs st) (defBody st) (defScope st) .none kV doc pm an cdv ct) ⟨us, []⟩ = pure ((["self", n] : List Str).zip us)) :
    Ini P w K mg base k ["self", n] (spI1 (cA K k) n) := by
  obtain ⟨fd, F⟩ := F
  exact ⟨fd, ok_i1 F T hf S hs hn hb hd hcd, F.bindsN hbi⟩
theorem ps_rf {X : Cx} {E : XK} {k : Nat} {x n : Str} {p pos pos2 pa : Pos} {y : Str} (T : T19 X.K X.mg) (h5 : 5 ≤ k) (hk : k < 14) (I : Ini X.prog X.w X.K X.mg X.base k ["self", n] (spI1 (cA X.K k) n)) (hr : Room 2 X.A) (hc : X.calm = true) (tk : L2N.Takes X (WT E)) (hx : x = cx k) (hg : Gl X x)
    (hN : X.N[1]? = some y) (hv : Vis X.env.scope y) (hdb : (x == ("__debug__" : Str)) = false := by decide) (hd : (y == ("__debug__" : Str)) = false := by decide) (hcd : (y == ("__classdict__" : Str)) = false := by decide)
    (he : starEach [.Name y pa] X.env = (false, eval (.Name y pa) X.env) :: starEach [] X.env := by rfl) :
    PS X (.Raise (some (.Call (.Name x p) [.Name y pa] [] pos)) none pos2) (tMk1 X.K E k n) := by
  obtain ⟨fd, G, B⟩ := I
  have c := T.cl k hk
  have t := T.ini k h5 hk
  exact L2N.ps_raise hc tk (pmk_init t.ox t.iC t.tI G hr B pass0 hg (by rw [hx]; exact c.g) (pa_cons (pe_var hN hv hd hcd) pa_nil) hdb he rfl)
theorem scThrown : FnScope ["_law_k", "_law_one", "_law_two"] ["_law_k", "_law_one", "_law_two"] (defScope sThrown) := ⟨rfl, rfl, rfl, by decide +kernel, rfl, by decide +kernel, by decide +kernel⟩
theorem scI {n : Str} {st : Stmt} (h : (decide ((defScope st).kind = .function) && (!(defScope st).isCoroutine && (!(defScope st).isGenerator && (decide ((["self", n] : List Str).Nodup) && (decide ((defScope st).names.lookup ("self" : Str) = some .local) && (decide ((defScope st).names.lookup n = some .local) && (defScope st).names.all fun y => decide (y.2 ≠ .free))))))) = true) :
    FnScope ["self", n] ["self", n] (defScope st) ∧ (defScope st).names.lookup ("self" : Str) = some .local ∧ (defScope st).names.lookup n = some .local := by
  simp only [Bool.and_eq_true, decide_eq_true_eq, Bool.not_eq_true', List.all_eq_true] at h
  obtain ⟨h1, h2, h3, h4, h5, h6, h7⟩ := h
  refine ⟨⟨h1, h2, h3, h4, rfl, fun x hx => ?_, h7⟩, h5, h6⟩
  rcases List.mem_cons.mp hx with e | hx
  · rw [e]; exact .inl h5
  · rw [List.mem_singleton.mp hx]; exact .inl h6
theorem all_ini (J : I19 K) (T : T19 K mg) : (Ini P w K mg base 5 ["self", "index"] (spI1 (cA K 5) "index") ∧ Ini P w K mg base 6 ["self", "index"] (spI1 (cA K 6) "index") ∧ Ini P w K mg base 7 ["self", "index"] (spI1 (cA K 7) "index")) ∧
    (Ini P w K mg base 8 ["self", "name"] (spI1 (cA K 8) "name") ∧ Ini P w K mg base 9 ["self", "name"] (spI1 (cA K 9) "name") ∧ Ini P w K mg base 10 ["self", "deed"] (spI1 (cA K 10) "deed")) ∧
    (Ini P w K mg base 11 ["self", "thing"] (spI1 (cA K 11) "thing") ∧ Ini P w K mg base 12 ["self", "row"] (spI1 (cA K 12) "row")) ∧ Ini P w K mg base 13 ["self", "line", "word"] (spI2 (cA K 13) "line" "word") := by
  refine ⟨⟨?_, ?_, ?_⟩, ⟨?_, ?_, ?_⟩, ⟨?_, ?_⟩, ?_⟩
  · obtain ⟨S, s1, s2⟩ := scI (n := "index") (st := init 8) (by decide +kernel)
    exact ini1 J.i5 (T.ini 5 (by decide) (by decide)) (by decide +kernel) S s1 s2 rfl (by decide) (by decide) fun _ _ _ _ _ _ us hl => match us, hl with | [_, _], _ => rfl
  · obtain ⟨S, s1, s2⟩ := scI (n := "index") (st := init 13) (by decide +kernel)
    exact ini1 J.i6 (T.ini 6 (by decide) (by decide)) (by decide +kernel) S s1 s2 rfl (by decide) (by decide) fun _ _ _ _ _ _ us hl => match us, hl with | [_, _], _ => rfl
  · obtain ⟨S, s1, s2⟩ := scI (n := "index") (st := init 14) (by decide +kernel)
    exact ini1 J.i7 (T.ini 7 (by decide) (by decide)) (by decide +kernel) S s1 s2 rfl (by decide) (by decide) fun _ _ _ _ _ _ us hl => match us, hl with | [_, _], _ => rfl
  · obtain ⟨S, s1, s2⟩ := scI (n := "name") (st := init 3) (by decide +kernel)
    exact ini1 J.i8 (T.ini 8 (by decide) (by decide)) (by decide +kernel) S s1 s2 rfl (by decide) (by decide) fun _ _ _ _ _ _ us hl => match us, hl with | [_, _], _ => rfl
  · obtain ⟨S, s1, s2⟩ := scI (n := "name") (st := init 7) (by decide +kernel)
    exact ini1 J.i9 (T.ini 9 (by decide) (by decide)) (by decide +kernel) S s1 s2 rfl (by decide) (by decide) fun _ _ _ _ _ _ us hl => match us, hl with | [_, _], _ => rfl
  · obtain ⟨S, s1, s2⟩ := scI (n := "deed") (st := init 9) (by decide +kernel)
    exact ini1 J.i10 (T.ini 10 (by decide) (by decide)) (by decide +kernel) S s1 s2 rfl (by decide) (by decide) fun _ _ _ _ _ _ us hl => match us, hl with | [_, _], _ => rfl
  · obtain ⟨S, s1, s2⟩ := scI (n := "thing") (st := init 10) (by decide +kernel)
    exact ini1 J.i11 (T.ini 11 (by decide) (by decide)) (by decide +kernel) S s1 s2 rfl (by decide) (by decide) fun _ _ _ _ _ _ us hl => match us, hl with | [_, _], _ => rfl
  · obtain ⟨S, s1, s2⟩ := scI (n := "row") (st := init 11) (by decide +kernel)
    exact ini1 J.i12 (T.ini 12 (by decide) (by decide)) (by decide +kernel) S s1 s2 rfl (by decide) (by decide) fun _ _ _ _ _ _ us hl => match us, hl with | [_, _], _ => rfl
  · obtain ⟨fd, F⟩ := J.i13
    exact ⟨fd, ok_i2 F (T.ini 13 (by decide) (by decide)) (by decide +kernel) (by decide +kernel) ⟨rfl, rfl, rfl, by decide +kernel, rfl, by decide +kernel, by decide +kernel⟩ (by decide +kernel) (by decide +kernel) (by decide +kernel) rfl (by decide) (by decide) (by decide) (by decide),
      F.bindsN fun _ _ _ _ _ _ us hl => match us, hl with | [_, _, _], _ => rfl⟩
theorem ok_thrown {fB : Addr} {fdB : FuncData} (F : FnP K "_law_thrown" sThrown f fd) (T : T19 K mg) (J : I19 K) (FB : FnP K "_law_bare" sBare fB fdB) (gB : mg "_law_bare" = some (.ref fB)) : FnOk P w K mg base (L2N.CX P w) 3 f fd ["_law_k", "_law_one", "_law_two"] (spThrown K) := by
  have GB : FnOk P w K mg base (L2N.CX P w) 1 fB fdB ["_law_k"] (spBare K) := ok_bare FB T
  have bB : Binds K fdB ["_law_k"] [] := FB.bindsN fun _ _ _ _ _ _ us hl => match us, hl with | [_], _ => rfl
  obtain ⟨⟨a5, a6, a7⟩, ⟨a8, a9, a10⟩, ⟨a11, a12⟩, a13⟩ := all_ini (P := P) (w := w) (base := base) J T
  refine F.ok scThrown (fun vs H Q E h => ?_) (fun cdv A outer s H vs Q E hr h => ⟨t_thrown K E, ?_, thrown_pure vs H Q E h⟩)
  · obtain ⟨k, y, z, rfl, _⟩ := h
    rfl
  · have tk := L2N.takes_of (X := cxOf (L2N.CX P w) P w K mg base ["_law_k", "_law_one", "_law_two"] "_law_thrown" (defScope sThrown) f cdv A outer s H E) (E := E) rfl rfl rfl rfl
    have c13 := T.cl 13 (by decide)
    have t13 := T.ini 13 (by decide) (by decide)
    obtain ⟨fd13, G13, B13⟩ := a13
    exact pss_cons (ps_if (pt_cmpR op_lt (pv 0) pe_int (nomark _)) (pss_one (ps_expr (pe_callS GB (hr.mono (by decide)) rfl gB FB.kp bB (fun σ => L2N.passAt tk σ) (pa_cons (pv 0) pa_nil)))) pss_nil)
      (pss_cons (ps_if (pt_cmpR op_eq (pv 0) pe_int (nomark _)) (pss_one (ps_rf T (by decide) (by decide) a5 hr rfl tk rfl rfl rfl (Or.inl rfl))) pss_nil)
      (pss_cons (ps_if (pt_cmpR op_eq (pv 0) pe_int (nomark _)) (pss_one (ps_rf T (by decide) (by decide) a6 hr rfl tk rfl rfl rfl (Or.inl rfl))) pss_nil)
      (pss_cons (ps_if (pt_cmpR op_eq (pv 0) pe_int (nomark _)) (pss_one (ps_rf T (by decide) (by decide) a7 hr rfl tk rfl rfl rfl (Or.inl rfl))) pss_nil)
      (pss_cons (ps_if (pt_cmpR op_eq (pv 0) pe_int (nomark _)) (pss_one (ps_rf T (by decide) (by decide) a8 hr rfl tk rfl rfl rfl (Or.inl rfl))) pss_nil)
      (pss_cons (ps_if (pt_cmpR op_eq (pv 0) pe_int (nomark _)) (pss_one (ps_rf T (by decide) (by decide) a9 hr rfl tk rfl rfl rfl (Or.inl rfl))) pss_nil)
      (pss_cons (ps_if (pt_cmpR op_eq (pv 0) pe_int (nomark _)) (pss_one (ps_rf T (by decide) (by decide) a10 hr rfl tk rfl rfl rfl (Or.inl rfl))) pss_nil)
      (pss_cons (ps_if (pt_cmpR op_eq (pv 0) pe_int (nomark _)) (pss_one (ps_rf T (by decide) (by decide) a11 hr rfl tk rfl rfl rfl (Or.inl rfl))) pss_nil)
      (pss_cons (ps_if (pt_cmpR op_eq (pv 0) pe_int (nomark _)) (pss_one (ps_rf T (by decide) (by decide) a12 hr rfl tk rfl rfl rfl (Or.inl rfl))) pss_nil)
      (pss_one (L2N.ps_raise rfl tk (pmk_init t13.ox t13.iC t13.tI G13 hr B13 pass0 rfl c13.g (pa_cons (pv 1) (pa_cons (pv 2) pa_nil)))))))))))))
end
end Kt
set_option Elab.async false
set_option linter.all false
set_option maxRecDepth 100000
set_option maxHeartbeats 2000000
namespace Kt
open PySem PySem.Spec PyProof.Rows L2 L2H HotX Kh
abbrev sClasses : Stmt := top 21
abbrev sParts : Stmt := top 22
theorem dict_kp {d : Option Addr} {H H' : Hp} (h : DictAt d H) (k : Kp H H') : DictAt d H' := by
  rcases h with h | ⟨dd, fs, e, hx⟩
  · exact .inl h
  · exact .inr ⟨dd, fs, e, k _ _ hx⟩
def bits (k : Nat) : List V := (List.range 14).map fun i => .bl (decide (i = k))
def spClasses (K : PySem.W.Frag) (p : Addr × Obj) : Sp := fun vs H Q _ => ∃ (k : Nat) (d : Option Addr), vs = [.ref p.1] ∧ k < 14 ∧ Zc (.ref (cA K k)) d p.2 ∧ (∃ vs, p.2.data = .fields vs) ∧ DictAt d H ∧ ∀ l H', Kp H H' → H l = none → H' l = some (.lst (bits k)) → Q (.ref l) H'
def isE (K : PySem.W.Frag) (a : Addr) (cls : Value) (d : Option Addr) (i : Nat) : TE := tCB (rIsP K a cls d) (tCons (tVar 0) (tCons (tC (.ref (cA K i))) tNil))
def ls3 (K : PySem.W.Frag) (a : Addr) (cls : Value) (d : Option Addr) (i : Nat) : TE := tLst (tCons (isE K a cls d i) (tCons (isE K a cls d (i + 1)) (tCons (isE K a cls d (i + 2)) tNil)))
def t_classes (K : PySem.W.Frag) (a : Addr) (cls : Value) (d : Option Addr) : TS :=
  tSeq (tAsg (ls3 K a cls d 0) (gName 1)) (tSeq (tAsg (tOp rCat (tVar 1) (ls3 K a cls d 3)) (gName 1)) (tSeq (tAsg (tOp rCat (tVar 1) (ls3 K a cls d 6)) (gName 1)) (tSeq (tAsg (tOp rCat (tVar 1) (ls3 K a cls d 9)) (gName 1))
    (tRet (tOp rCat (tVar 1) (tLst (tCons (isE K a cls d 12) (tCons (isE K a cls d 13) tNil))))))))
section
variable {K : PySem.W.Frag} {mg : Str → Option Value} {a : Addr} {d : Option Addr} {k i : Nat} {σ : L2.St} {H : Hp} {Q : VK}
theorem isE_at (T : T19 K mg) (hk : k < 14) (hi : i < 14) (h : σ[0]? = some (some (.ref a))) (hd : DictAt d H) (q : Q (.bl (decide (i = k))) H) : isE K a (.ref (cA K k)) d i σ H Q :=
  ⟨_, h, cA K k, .ref (cA K i), .ref (cA K i), _, rfl, (T.cl k hk).ec, rfl, fun u r => r, (T.cl k hk).kit i hi, hd, q⟩
theorem ls3_at (T : T19 K mg) (hk : k < 14) (hi : i + 2 < 14) (h : σ[0]? = some (some (.ref a))) (hd : DictAt d H)
    (q : ∀ p, H p = none → Q (.ref p) (upd H p (.lst [.bl (decide (i = k)), .bl (decide (i + 1 = k)), .bl (decide (i + 2 = k))]))) : ls3 K a (.ref (cA K k)) d i σ H Q :=
  isE_at T hk (by omega) h hd (isE_at T hk (by omega) h hd (isE_at T hk hi h hd ⟨by show 3 ≤ sizeLine; decide, q⟩))
theorem cat3_at (T : T19 K mg) (hk : k < 14) (hi : i + 2 < 14) (h : σ[0]? = some (some (.ref a))) (hd : DictAt d H) {l : Addr} {xs : List V} (h1 : σ[1]? = some (some (.ref l))) (hl : H l = some (.lst xs)) (hx : xs.length ≤ 20)
    (q : ∀ p H', Kp H H' → H p = none → H' p = some (.lst (xs ++ [.bl (decide (i = k)), .bl (decide (i + 1 = k)), .bl (decide (i + 2 = k))])) → Q (.ref p) H') : tOp rCat (tVar 1) (ls3 K a (.ref (cA K k)) d i) σ H Q := by
  refine ⟨_, h1, ls3_at T hk hi h hd fun p np => ?_⟩
  have e : l ≠ p := ne_of_none hl np
  refine ⟨l, p, xs, _, rfl, rfl, (upd_ne e).trans hl, upd_same, (by show xs.length + 3 ≤ sizeLine; rw [sizeLine_eq]; omega), fun p2 n2 => ?_⟩
  have e2 : p2 ≠ p := fun z => by rw [z, upd_same] at n2; cases n2
  have n3 : H p2 = none := by rw [upd_ne e2] at n2; exact n2
  exact q p2 _ ((Kp.new np).trans (Kp.new n2)) n3 upd_same
theorem classes_pure (T : T19 K mg) (hk : k < 14) (hd : DictAt d H) (q : ∀ l H', Kp H H' → H l = none → H' l = some (.lst (bits k)) → Q (.ref l) H') :
    t_classes K a (.ref (cA K k)) d { nx := fun _ H' => Q .non H', rt := Q } (start ["_law_e", "_law_found"] [.ref a]) H := by
  unfold t_classes tSeq tAsg
  dsimp only
  refine ls3_at (i := 0) T hk (by decide) rfl hd fun p0 n0 => ?_
  have k0 : Kp H (upd H p0 (.lst [.bl (decide (0 = k)), .bl (decide (0 + 1 = k)), .bl (decide (0 + 2 = k))])) := Kp.new n0
  refine cat3_at (i := 3) T hk (by decide) rfl (dict_kp hd k0) rfl upd_same (by show 3 ≤ 20; decide) fun p1 H1 k1 n1 e1 => ?_
  refine cat3_at (i := 6) T hk (by decide) rfl (dict_kp hd (k0.trans k1)) rfl e1 (by show 6 ≤ 20; decide) fun p2 H2 k2 n2 e2 => ?_
  refine cat3_at (i := 9) T hk (by decide) rfl (dict_kp hd ((k0.trans k1).trans k2)) rfl e2 (by show 9 ≤ 20; decide) fun p3 H3 k3 n3 e3 => ?_
  have d3 := dict_kp hd (((k0.trans k1).trans k2).trans k3)
  have k03 := ((k0.trans k1).trans k2).trans k3
  refine ⟨_, rfl, isE_at T hk (by decide) rfl d3 (isE_at T hk (by decide) rfl d3 ⟨by show 2 ≤ sizeLine; decide, fun p4 n4 => ?_⟩)⟩
  have e : p3 ≠ p4 := ne_of_none e3 n4
  refine ⟨p3, p4, _, _, rfl, rfl, (upd_ne e).trans e3, upd_same, (by show (14 : Nat) ≤ sizeLine; decide), fun p5 n5 => ?_⟩
  have e5 : p5 ≠ p4 := fun z => by rw [z, upd_same] at n5; cases n5
  have n6 : H3 p5 = none := by rw [upd_ne e5] at n5; exact n5
  have n7 : H p5 = none := by
    cases z : H p5 with
    | none => rfl
    | some o => rw [k03 _ _ z] at n6; cases n6
  exact q p5 _ (k03.trans ((Kp.new n4).trans (Kp.new n5))) n7 upd_same
end
section
variable {P : Program} {w : World} {K : PySem.W.Frag} {mg : Str → Option Value} {base : Heap} {f : Addr} {fd : FuncData}
theorem scClasses : FnScope ["_law_e", "_law_found"] ["_law_e"] (defScope sClasses) := ⟨rfl, rfl, rfl, by decide +kernel, rfl, by decide +kernel, by decide +kernel⟩
theorem pe_is {X : Cx} {p : Addr × Obj} {cls : Value} {d : Option Addr} {i : Nat} {x : Str} {p1 p2 p3 p4 : Pos} (T : T19 X.K X.mg) (hi : i < 14) (gI : X.mg "isinstance" = none) (hp : p ∈ X.pn) (hz : Zc cls d p.2) (hf : ∃ vs, p.2.data = .fields vs) (hx : x = cx i) (gx : Gl X x) (gis : Gl X "isinstance") (hN : X.N[0]? = some ("_law_e" : Str)) (hv : Vis X.env.scope "_law_e")
    (hdb : (x == ("__debug__" : Str)) = false := by decide)
    (he : starEach [.Name "_law_e" p2, .Name x p3] X.env = (false, eval (.Name "_law_e" p2) X.env) :: starEach [.Name x p3] X.env := by rfl) (hpl : (backTo p4 (starEach [.Name x p3] X.env)).any (·.1) = false := by rfl) :
    PE X (.Call (.Name "isinstance" p1) [.Name "_law_e" p2, .Name x p3] [] p4) (isE X.K p.1 cls d i) :=
  pe_callB (call_isP (a := p.1) (oe := p.2) hp hz hf) gis gI PyProof.Rows.boot_isinstance (pa_cons (pe_var hN hv) (pa_cons (pe_glob gx (by rw [hx]; exact (T.cl i hi).g) rfl hdb) pa_nil)) (by decide) (by decide) he hpl
theorem ok_classes (F : FnP K "_law_classes" sClasses f fd) (T : T19 K mg) (gI : mg "isinstance" = none) : FnQ P w K mg base CX0 1 f fd ["_law_e"] (spClasses K) := by
  refine fnD_Q F scClasses (fun p vs H Q E h => ?_) (fun cdv A outer s H vs Q E p hot hr h => ?_)
  · obtain ⟨k, d, rfl, _⟩ := h
    rfl
  · obtain ⟨k, d, rfl, hk, hz, hf, hd, q⟩ := h
    refine ⟨t_classes K p.1 (.ref (cA K k)) d, PSs.nox ?_, classes_pure T hk hd q⟩
    have m : p ∈ ([p] : List (Addr × Obj)) := List.mem_cons_self
    exact pss_cons (ps_set (i := 1) scClasses.nd rfl (Or.inl rfl) (pe_lst (pa_cons (pe_is (i := 0) T (by decide) gI m hz hf rfl rfl rfl rfl (Or.inl rfl)) (pa_cons (pe_is (i := 1) T (by decide) gI m hz hf rfl rfl rfl rfl (Or.inl rfl)) (pa_cons (pe_is (i := 2) T (by decide) gI m hz hf rfl rfl rfl rfl (Or.inl rfl)) pa_nil)))))
      (pss_cons (ps_set (i := 1) scClasses.nd rfl (Or.inl rfl) (pe_op op_cat (pv 1) (pe_lst (pa_cons (pe_is (i := 3) T (by decide) gI m hz hf rfl rfl rfl rfl (Or.inl rfl)) (pa_cons (pe_is (i := 4) T (by decide) gI m hz hf rfl rfl rfl rfl (Or.inl rfl)) (pa_cons (pe_is (i := 5) T (by decide) gI m hz hf rfl rfl rfl rfl (Or.inl rfl)) pa_nil))))))
      (pss_cons (ps_set (i := 1) scClasses.nd rfl (Or.inl rfl) (pe_op op_cat (pv 1) (pe_lst (pa_cons (pe_is (i := 6) T (by decide) gI m hz hf rfl rfl rfl rfl (Or.inl rfl)) (pa_cons (pe_is (i := 7) T (by decide) gI m hz hf rfl rfl rfl rfl (Or.inl rfl)) (pa_cons (pe_is (i := 8) T (by decide) gI m hz hf rfl rfl rfl rfl (Or.inl rfl)) pa_nil))))))
      (pss_cons (ps_set (i := 1) scClasses.nd rfl (Or.inl rfl) (pe_op op_cat (pv 1) (pe_lst (pa_cons (pe_is (i := 9) T (by decide) gI m hz hf rfl rfl rfl rfl (Or.inl rfl)) (pa_cons (pe_is (i := 10) T (by decide) gI m hz hf rfl rfl rfl rfl (Or.inl rfl)) (pa_cons (pe_is (i := 11) T (by decide) gI m hz hf rfl rfl rfl rfl (Or.inl rfl)) pa_nil))))))
      (pss_one (ps_ret (pe_op op_cat (pv 1) (pe_lst (pa_cons (pe_is (i := 12) T (by decide) gI m hz hf rfl rfl rfl rfl (Or.inl rfl)) (pa_cons (pe_is (i := 13) T (by decide) gI m hz hf rfl rfl rfl rfl (Or.inl rfl)) pa_nil)))))))))
end
/-! ### _law_parts -/
def due (k : Nat) (y z : V) : List V := if k < 5 then [] else if k < 13 then [y] else [y, z]
def spParts (K : PySem.W.Frag) (p : Addr × Obj) : Sp := fun vs H Q _ => ∃ (k : Nat) (d : Option Addr) (y z : V), vs = [.int k, .ref p.1] ∧ k < 14 ∧ Zc (.ref (cA K k)) d p.2 ∧ (∃ vs, p.2.data = .fields vs) ∧ ErrD H k y z d ∧ ∀ l H', Kp H H' → H l = none → H' l = some (.lst (due k y z)) → Q (.ref l) H'
def tF1 (K : PySem.W.Frag) (a : Addr) (cls : Value) (d : Option Addr) (n : Str) : TE := tLst (tCons (tXfP K a cls d n (tVar 1)) tNil)
def t_parts (K : PySem.W.Frag) (a : Addr) (cls : Value) (d : Option Addr) : TS :=
  tSeq (tIfS (tLt0 5) (tRet (tLst tNil)) tNext) (tSeq (tIfS (tLt0 8) (tRet (tF1 K a cls d "index")) tNext) (tSeq (tIfS (tLt0 10) (tRet (tF1 K a cls d "name")) tNext) (tSeq (tIfS (tEq0 10) (tRet (tF1 K a cls d "deed")) tNext)
    (tSeq (tIfS (tEq0 11) (tRet (tF1 K a cls d "thing")) tNext) (tRet (tIf (tEq0 12) (tF1 K a cls d "row") (tLst (tCons (tXfP K a cls d "line" (tVar 1)) (tCons (tXfP K a cls d "word" (tVar 1)) tNil)))))))))
theorem parts_pure {K : PySem.W.Frag} {mg : Str → Option Value} {a : Addr} {d : Option Addr} {k : Nat} {y z : V} {H : Hp} {Q : VK} (T : T19 K mg) (hk : k < 14) (hd : ErrD H k y z d) (q : ∀ l H', Kp H H' → H l = none → H' l = some (.lst (due k y z)) → Q (.ref l) H') :
    t_parts K a (.ref (cA K k)) d { nx := fun _ H' => Q .non H', rt := Q } (start ["_law_k", "_law_e"] [.int k, .ref a]) H := by
  have give : ∀ {xs : List V}, due k y z = xs → ∀ p, H p = none → Q (.ref p) (upd H p (.lst xs)) := fun {xs} e p np => q p _ (Kp.new np) np (by rw [e]; exact upd_same)
  refine if_lt rfl (fun c => ?_) fun c5 => ?_
  · exact ⟨by show 0 ≤ sizeLine; decide, give (by unfold due; rw [if_pos (by omega)])⟩
  have k5 : 5 ≤ k := by omega
  obtain ⟨dd, ed, hx⟩ : ∃ dd, d = some dd ∧ H dd = some (.xd (flds k y z)) := by
    have h := hd
    unfold ErrD at h
    rw [if_neg (by omega)] at h
    exact h
  have I := T.ini k k5 hk
  have f1 : ∀ {n : Str}, n ∈ fl k → flds k y z = [(n, y)] → k < 13 → tF1 K a (.ref (cA K k)) d n (start ["_law_k", "_law_e"] [.int k, .ref a]) H Q := fun {n} hn e h13 =>
    ⟨_, rfl, rfl, cA K k, dd, _, y, rfl, I.xf, I.no n hn, ed, hx, by rw [e, lookup_put, if_pos rfl], by show 1 ≤ sizeLine; decide, give (by unfold due; rw [if_neg (by omega), if_pos h13])⟩
  refine if_lt rfl (fun c => ?_) fun c8 => ?_
  · refine f1 ?_ (by unfold flds; rw [if_pos (by omega)]) (by omega)
    rcases (by omega : k = 5 ∨ k = 6 ∨ k = 7) with r | r | r <;> subst r <;> decide +kernel
  refine if_lt rfl (fun c => ?_) fun c10 => ?_
  · refine f1 ?_ (by unfold flds; rw [if_neg (by omega), if_pos (by omega)]) (by omega)
    rcases (by omega : k = 8 ∨ k = 9) with r | r <;> subst r <;> decide +kernel
  refine if_step rfl (fun c => ?_) fun c11 => ?_
  · obtain rfl : k = 10 := by omega
    exact f1 (by decide +kernel) rfl (by decide)
  refine if_step rfl (fun c => ?_) fun c12 => ?_
  · obtain rfl : k = 11 := by omega
    exact f1 (by decide +kernel) rfl (by decide)
  refine eq0 (k := k) rfl ?_
  by_cases c : (k : Int) = 12
  · obtain rfl : k = 12 := by omega
    exact iteT (f1 (by decide +kernel) rfl (by decide))
  · obtain rfl : k = 13 := by omega
    refine iteF ?_
    refine ⟨_, rfl, rfl, cA K 13, dd, _, y, rfl, I.xf, I.no "line" (by decide +kernel), ed, hx, by rw [show flds 13 y z = [(("word" : Str), z), (("line" : Str), y)] from rfl, lookup_put, if_neg (by decide), lookup_put, if_pos rfl], ?_⟩
    exact ⟨_, rfl, rfl, cA K 13, dd, _, z, rfl, I.xf, I.no "word" (by decide +kernel), ed, hx, by rw [show flds 13 y z = [(("word" : Str), z), (("line" : Str), y)] from rfl, lookup_put, if_pos rfl], by show 2 ≤ sizeLine; decide, give rfl⟩
section
variable {P : Program} {w : World} {K : PySem.W.Frag} {mg : Str → Option Value} {base : Heap} {f : Addr} {fd : FuncData}
theorem scParts : FnScope ["_law_k", "_law_e"] ["_law_k", "_law_e"] (defScope sParts) := ⟨rfl, rfl, rfl, by decide +kernel, rfl, by decide +kernel, by decide +kernel⟩
theorem ok_parts (F : FnP K "_law_parts" sParts f fd) (T : T19 K mg) : FnQ P w K mg base CX0 1 f fd ["_law_k", "_law_e"] (spParts K) := by
  refine fnD_Q F scParts (fun p vs H Q E h => ?_) (fun cdv A outer s H vs Q E p hot hr h => ?_)
  · obtain ⟨k, d, y, z, rfl, _⟩ := h
    rfl
  · obtain ⟨k, d, y, z, rfl, hk, hz, hf, hd, q⟩ := h
    refine ⟨t_parts K p.1 (.ref (cA K k)) d, PSs.nox ?_, parts_pure T hk hd q⟩
    have m : p ∈ ([p] : List (Addr × Obj)) := List.mem_cons_self
    exact pss_cons (ps_if (pt_cmpR op_lt (pv 0) pe_int (nomark _)) (pss_one (ps_ret (pe_lst pa_nil))) pss_nil)
      (pss_cons (ps_if (pt_cmpR op_lt (pv 0) pe_int (nomark _)) (pss_one (ps_ret (pe_lst (pa_cons (pe_xfP (a := p.1) (oe := p.2) m hz hf (pv 1)) pa_nil)))) pss_nil)
      (pss_cons (ps_if (pt_cmpR op_lt (pv 0) pe_int (nomark _)) (pss_one (ps_ret (pe_lst (pa_cons (pe_xfP (a := p.1) (oe := p.2) m hz hf (pv 1)) pa_nil)))) pss_nil)
      (pss_cons (ps_if (pt_cmpR op_eq (pv 0) pe_int (nomark _)) (pss_one (ps_ret (pe_lst (pa_cons (pe_xfP (a := p.1) (oe := p.2) m hz hf (pv 1)) pa_nil)))) pss_nil)
      (pss_cons (ps_if (pt_cmpR op_eq (pv 0) pe_int (nomark _)) (pss_one (ps_ret (pe_lst (pa_cons (pe_xfP (a := p.1) (oe := p.2) m hz hf (pv 1)) pa_nil)))) pss_nil)
      (pss_one (ps_ret (pe_ifExp (pt_cmpR op_eq (pv 0) pe_int (nomark _)) (pe_lst (pa_cons (pe_xfP (a := p.1) (oe := p.2) m hz hf (pv 1)) pa_nil)) (pe_lst (pa_cons (pe_xfP (a := p.1) (oe := p.2) m hz hf (pv 1)) (pa_cons (pe_xfP (a := p.1) (oe := p.2) m hz hf (pv 1)) pa_nil))))))))))
end
end Kt
set_option Elab.async false
set_option linter.all false
set_option maxRecDepth 100000
set_option maxHeartbeats 4000000
namespace Kt
open PySem PySem.Spec PyProof.Rows L2 L2H HotX Kh
abbrev sRight : Stmt := top 23
abbrev nR : List Str := ["_law_k", "_law_one", "_law_two", "_law_good", "_law_due", "_law_e", "_law_other"]
theorem takesN {X : Cx} : L2N.Takes X (fun _ _ _ _ => False) := fun _ _ x => by
  obtain ⟨_, _, _, _, _, _, _, _, _, _, _, _, _, _, _, _, z⟩ := x
  exact z.elim
/-- a value that equals itself -/
def OkV (v : V) : Prop := flatB v = true ∨ ∃ a, v = .ref a
def spRight : Sp := fun vs H Q _ => ∃ (k : Nat) (y z : V), vs = [.int k, y, z] ∧ k < 14 ∧ OkV y ∧ OkV z ∧ ∀ H', Kp H H' → Q (.bl true) H'
def rGt : R2 := rI0 fun i j => .bl (decide (j < i))
/-- [v][:int(k > n)] -/
def tCut (K : PySem.W.Frag) (i : Nat) (n : Int) : TE := tSl (rSlL K) (tLst (tCons (tVar i) tNil)) tNoPart (tPart (tInt (tOp rGt (tVar 0) (tC (.int n)))))
/-- a call with the error -/
def tCallA (a : Addr) (cls : Value) (d : Option Addr) (sp : Addr × Obj → Sp) (t : TA) : TE := fun σ H Q => t σ H fun vs H1 => ∀ p : Addr × Obj, p.1 = a → Zc cls d p.2 → (∃ vs, p.2.data = .fields vs) → sp p vs H1 Q (fun _ _ _ => False)
def tKs : TE := tLcH (iRng1 (tCons (tC (.int 14)) tNil)) (gName 6) (tOp rEq (tVar 6) (tVar 0)) [6]
def isV (K : PySem.W.Frag) (a : Addr) (cls : Value) (d : Option Addr) : TE := tCB (rIsP K a cls d) (tCons (tVar 5) (tCons (tC (.ty "ValueError")) tNil))
def t_su (K : PySem.W.Frag) (a : Addr) (cls : Value) (d : Option Addr) : TS :=
  tSeq (tAsg (tAndV (isV K a cls d) (tOp (rEqV K) (tCallA a cls d (spClasses K) (tCons (tVar 5) tNil)) tKs)) (gName 3))
    (tAsg (tAndV (tVar 3) (tOp (rEqV K) (tCallA a cls d (spParts K) (tCons (tVar 0) (tCons (tVar 5) tNil))) (tVar 4))) (gName 3))
def t_tb (K : PySem.W.Frag) (W : WX) : TS := tDrop (tCallS (spThrown K) (WE W) (tCons (tVar 0) (tCons (tVar 1) (tCons (tVar 2) tNil))))
def t_tr (K : PySem.W.Frag) : TS := fun D σ H => t_tb K (wAs K (.ref (He.ga K "SignError")) 5 (t_su K) (fun _ _ _ _ => False) D) D σ H
def t_right (K : PySem.W.Frag) : TS := tSeq (tAsg (tC (.bl false)) (gName 3)) (tSeq (tAsg (tOp rCat (tCut K 1 4) (tCut K 2 12)) (gName 4)) (tSeq (t_tr K) (tRet (tVar 3))))
theorem cut_at {K : PySem.W.Frag} {i : Nat} {n k : Int} {v : V} {σ : L2.St} {H : Hp} {Q : VK} (h0 : σ[0]? = some (some (.int k))) (hi : σ[i]? = some (some v)) (q : ∀ p H', Kp H H' → H p = none → H' p = some (.lst (if n < k then [v] else [])) → Q (.ref p) H') : tCut K i n σ H Q := by
  refine ⟨_, hi, by show 1 ≤ sizeLine; decide, fun p0 n0 => ?_⟩
  refine ⟨_, h0, _, _, rfl, rfl, .inr ⟨_, rfl, _, rfl, p0, [v], rfl, SqL.of upd_same, fun p1 n1 => ?_⟩⟩
  have e : p1 ≠ p0 := fun z => by rw [z, upd_same] at n1; cases n1
  refine q p1 _ ((Kp.new n0).trans (Kp.new n1)) (by rw [upd_ne e] at n1; exact n1) ?_
  rw [upd_same]
  by_cases c : n < k
  · rw [if_pos c, decide_eq_true c]; rfl
  · rw [if_neg c, decide_eq_false c]; rfl
theorem paired_self {K : PySem.W.Frag} {H : Hp} : ∀ {xs : List V}, (∀ x ∈ xs, OkV x) → Paired (EqV K H 1) xs xs
  | [], _ => .nil
  | x :: xs, h => .cons (by
      rcases h x List.mem_cons_self with f | ⟨a, e⟩
      · exact .inl ⟨rfl, f⟩
      · exact .inr (.inl ⟨a, e, e⟩)) (paired_self fun y hy => h y (List.mem_cons_of_mem _ hy))
theorem eq_self {K : PySem.W.Frag} {H : Hp} {a b : Addr} {xs : List V} {Q : VK} (h : ∀ x ∈ xs, OkV x) (ha : H a = some (.lst xs)) (hb : H b = some (.lst xs)) (q : Q (.bl true) H) : rEqV K (.ref a) (.ref b) H Q :=
  ⟨1, by decide, .inl ⟨a, b, xs, xs, rfl, rfl, SqL.of ha, SqL.of hb, paired_self h⟩, q⟩
theorem ks_at {k : Nat} {σ : L2.St} {H : Hp} {Q : VK} (h0 : σ[0]? = some (some (.int k))) (hl : 6 < σ.length) (h6 : σ[6]? = some none) (q : ∀ p H', Kp H H' → H p = none → H' p = some (.lst (bits k)) → Q (.ref p) H') : tKs σ H Q := by
  refine ⟨14, rfl, by decide, by decide, fun D nD => ?_⟩
  have ew : wipe σ [6] = σ.set 6 none := rfl
  have w0 : (wipe σ [6])[0]? = some (some (.int k)) := by rw [ew, List.getElem?_set_ne (by decide)]; exact h0
  refine ⟨fun i m H' => i + m = 14 ∧ Kp H H' ∧ H' D = some (.lst ((List.range i).map fun i => .bl (decide (i = k)))), ⟨14, rfl, Kp.new nD, upd_same⟩, ?_⟩
  rintro i m H' ⟨hm, k1, e1⟩
  by_cases c : i < 14
  · refine .inr ⟨c, fun H2 => Kp H H2 ∧ H2 D = some (.lst ((List.range (i + 1)).map fun i => .bl (decide (i = k)))), fun H2 ⟨a, b⟩ => ⟨m - 1, by omega, by omega, a, b⟩, ?_⟩
    rintro x H2 ⟨rfl, rfl⟩
    refine ⟨?_, ?_⟩
    · rw [ew, List.set_set]
      show (σ.set 6 _).set 6 none = σ.set 6 none
      rw [List.set_set]
    · refine ⟨.int (0 + i), ?_, .int k, ?_, rfl, _, e1, ?_, ?_, ?_⟩
      · rw [ew, List.set_set, List.getElem?_set_self (by simpa using hl)]
      · rw [List.getElem?_set_ne (by decide)]
        exact w0
      · rw [List.length_map, List.length_range, sizeLine_eq]; omega
      · exact fun b o e => by rw [upd_ne (ne_of_none e nD)]; exact k1 b o e
      · rw [upd_same, List.range_succ, List.map_append]
        have e : (decide (V.int (0 + (i : Int)) = V.int (k : Int))) = decide (i = k) := by
          by_cases z : i = k
          · subst z
            rw [decide_eq_true rfl, decide_eq_true (by rw [Int.zero_add])]
          · rw [decide_eq_false z, decide_eq_false fun y => z (by injection y with y; omega)]
        rw [e]
        rfl
  · obtain rfl : i = 14 := by omega
    exact .inl ⟨Nat.le_refl _, q D H' k1 nD e1⟩
theorem right_pure {K : PySem.W.Frag} {mg : Str → Option Value} (T : T19 K mg) (vs : List V) (H : Hp) (Q : VK) (E : XK) (w : spRight vs H Q E) : t_right K { nx := fun _ H' => Q .non H', rt := Q } (start nR vs) H := by
  obtain ⟨k, y, z, rfl, hk, oy, oz, q⟩ := w
  unfold t_right tSeq tAsg
  dsimp only
  show tCut K 1 4 _ _ _
  refine cut_at (k := k) (v := y) rfl rfl fun p0 H0 k0 n0 e0 => ?_
  refine cut_at (k := k) (v := z) rfl rfl fun p1 H1 k1 n1 e1 => ?_
  have e0' := k1 _ _ e0
  refine ⟨p0, p1, _, _, rfl, rfl, e0', e1, ?_, fun p2 n2 => ?_⟩
  · rw [sizeLine_eq]
    split <;> split <;> simp
  have ed : (if (4 : Int) < (k : Int) then [y] else []) ++ (if (12 : Int) < (k : Int) then [z] else []) = due k y z := by
    unfold due
    by_cases c5 : k < 5
    · rw [if_pos c5, if_neg (by omega), if_neg (by omega)] <;> rfl
    · by_cases c13 : k < 13
      · rw [if_neg c5, if_pos c13, if_pos (by omega), if_neg (by omega)] <;> rfl
      · rw [if_neg c5, if_neg c13, if_pos (by omega), if_pos (by omega)] <;> rfl
  rw [ed]
  have k2 : Kp H (upd H1 p2 (.lst (due k y z))) := (k0.trans k1).trans (Kp.new n2)
  have e2 : (upd H1 p2 (.lst (due k y z))) p2 = some (.lst (due k y z)) := upd_same
  generalize upd H1 p2 (.lst (due k y z)) = H2 at k2 e2 ⊢
  -- the call
  refine ⟨_, rfl, _, rfl, _, rfl, k, y, z, rfl, hk, fun d H3 k3 hd => ?_⟩
  refine ⟨true, (T.cl k hk).exm, fun _ a na => ?_, fun c => Bool.noConfusion c⟩
  have dict3 : DictAt d H3 := by
    unfold ErrD at hd
    by_cases c : k < 5
    · rw [if_pos c] at hd; exact .inl hd
    · rw [if_neg c] at hd; obtain ⟨dd, h1, h2⟩ := hd; exact .inr ⟨dd, _, h1, h2⟩
  have e3 := k3 _ _ e2
  have ob : ∀ x ∈ bits k, OkV x := fun x hx => by
    obtain ⟨i, _, e⟩ := List.mem_map.mp hx
    rw [← e]
    exact .inl rfl
  have od : ∀ x ∈ due k y z, OkV x := fun x hx => by
    unfold due at hx
    split at hx
    · cases hx
    · split at hx
      · rw [List.mem_singleton.mp hx]; exact oy
      · rcases List.mem_cons.mp hx with e | hx
        · rw [e]; exact oy
        · rw [List.mem_singleton.mp hx]; exact oz
  refine ⟨_, rfl, cA K k, .ty "ValueError", .type "ValueError", true, rfl, (T.cl k hk).ec, rfl, fun u r => r, (T.cl k hk).kitV, dict3, true, rfl, iteT ?_⟩
  refine ⟨_, rfl, fun p ep hz hf => ⟨k, d, by rw [ep], hk, hz, hf, dict3, fun l H4 k4 n4 e4 => ?_⟩⟩
  refine ks_at (k := k) rfl (by show 6 < 7; decide) rfl fun l2 H5 k5 n5 e5 => ?_
  refine eq_self ob (k5 _ _ e4) e5 ?_
  refine ⟨_, rfl, true, rfl, iteT ?_⟩
  have hd5 : ErrD H5 k y z d := by
    unfold ErrD at hd ⊢
    by_cases c : k < 5
    · rw [if_pos c] at hd ⊢; exact hd
    · rw [if_neg c] at hd ⊢; obtain ⟨dd, h1, h2⟩ := hd; exact ⟨dd, h1, k5 _ _ (k4 _ _ h2)⟩
  refine ⟨_, rfl, _, rfl, fun p ep hz hf => ⟨k, d, y, z, by rw [ep], hk, hz, hf, hd5, fun l3 H6 k6 n6 e6 => ?_⟩⟩
  refine ⟨_, rfl, eq_self od e6 (k6 _ _ (k5 _ _ (k4 _ _ e3))) ?_⟩
  exact ⟨_, rfl, q H6 ((((k2.trans k3).trans k4).trans k5).trans k6)⟩
section
variable {P : Program} {w : World} {K : PySem.W.Frag} {mg : Str → Option Value} {base : Heap} {f : Addr} {fd : FuncData}
theorem scRight : FnScope nR ["_law_k", "_law_one", "_law_two"] (defScope sRight) := ⟨rfl, rfl, rfl, by decide +kernel, rfl, by decide +kernel, by decide +kernel⟩
/-- a call with the error, in the suite -/
theorem pe_callA {X : Cx} {CX : CXT} {k : Nat} {g : Addr} {gd : FuncData} {ps : List Str} {sp : Addr × Obj → Sp} {x : Str} {q pos : Pos} {e : Expr} {es : List Expr} {t : TA} {a : Addr} {oe : Obj} {cls : Value} {d : Option Addr} (F : FnQ X.prog X.w X.K X.mg X.base CX k g gd ps sp) (hr : RoomH k X.A) (hA : X.A.handled = some (.ref a)) (hz : L2N.Zn cls d oe) (hf : ∃ vs, oe.data = .fields vs) (hp : (a, oe) ∈ X.pn)
    (hg : Gl X x) (hm : X.mg x = some (.ref g)) (hk : PySem.W.keepIn X.K (.ref g) = true) (hb : Binds X.K gd ps []) (hx : ∀ σ, PassesAt CX X σ (fun _ _ _ => False))
    (ha : PA X (e :: es) t) (hdb : (x == ("__debug__" : Str)) = false := by decide) (he : starEach (e :: es) X.env = (false, eval e X.env) :: starEach es X.env := by rfl) (hpl : (backTo pos (starEach es X.env)).any (·.1) = false := by rfl) :
    PE X (.Call (.Name x q) (e :: es) [] pos) (tCallA a cls d sp t) := by
  obtain ⟨vs, hv⟩ := hf
  exact pe_callR (p := (a, oe)) (fun us H Q h => h (a, oe) rfl hz.zc ⟨vs, hv⟩) F hr ⟨hA, vs, hv, hz.2.2 vs hv⟩ hp hg hm hk hb hx ha hdb he hpl
theorem ok_right {fT fC fP : Addr} {fdT fdC fdP : FuncData} (F : FnP K "_law_right" sRight f fd) (T : T19 K mg) (FT : FnOk P w K mg base (L2N.CX P w) 3 fT fdT ["_law_k", "_law_one", "_law_two"] (spThrown K)) (bT : Binds K fdT ["_law_k", "_law_one", "_law_two"] []) (gT : mg "_law_thrown" = some (.ref fT)) (kT : PySem.W.keepIn K (.ref fT) = true)
    (FC : FnQ P w K mg base CX0 1 fC fdC ["_law_e"] (spClasses K)) (bC : Binds K fdC ["_law_e"] []) (gC : mg "_law_classes" = some (.ref fC)) (kC : PySem.W.keepIn K (.ref fC) = true)
    (FQ : FnQ P w K mg base CX0 1 fP fdP ["_law_k", "_law_e"] (spParts K)) (bP : Binds K fdP ["_law_k", "_law_e"] []) (gP : mg "_law_parts" = some (.ref fP)) (kP : PySem.W.keepIn K (.ref fP) = true)
    (gI : mg "int" = none) (gR : mg "range" = none) (gV : mg "ValueError" = none) (gS : mg "isinstance" = none) : FnOk P w K mg base CX0 4 f fd ["_law_k", "_law_one", "_law_two"] spRight := by
  refine F.ok scRight (fun vs H Q E h => ?_) (fun cdv A outer s H vs Q E hr h => ⟨t_right K, ?_, right_pure T vs H Q E h⟩)
  · obtain ⟨k, y, z, rfl, _⟩ := h
    rfl
  · have cut : ∀ {X : Cx} {i : Nat} {v : Str} {m : Int} {j : Nat} {p1 p2 p3 p4 p5 p6 p7 p8 p9 : Pos}, X.N[0]? = some ("_law_k" : Str) → Vis X.env.scope "_law_k" → X.N[i]? = some v → Vis X.env.scope v → (v == ("__debug__" : Str)) = false → (v == ("__classdict__" : Str)) = false → Gl X "int" → X.mg "int" = none →
        starEach [.Compare (.Name "_law_k" p5) [.Gt] [.Constant (.int m) j p6] p7] X.env = (false, eval (.Compare (.Name "_law_k" p5) [.Gt] [.Constant (.int m) j p6] p7) X.env) :: starEach [] X.env →
        starEach [.Name v p1] X.env = (false, eval (.Name v p1) X.env) :: starEach [] X.env →
        PE X (.Subscript (.List [.Name v p1] p2) (.Slice none (some (.Call (.Name "int" p3) [.Compare (.Name "_law_k" p5) [.Gt] [.Constant (.int m) j p6] p7] [] p4)) none p8) p9) (tCut X.K i m) :=
      fun {X i v m j p1 p2 p3 p4 p5 p6 p7 p8 p9} h0 v0 hi vi d1 d2 gl gm s1 s2 =>
        pe_slice sl_list (pe_lst (pa_cons (pe_var hi vi d1 d2) pa_nil s2)) po_none (po_some (pe_callTy call_int1 gl gm PySem.Pv.boot_int (pa_cons (pe_cmpR op_gt (pe_var h0 v0) pe_int (nomark _)) pa_nil) (by decide) (by decide) s1 (by rfl)))
    refine pss_cons (ps_set (i := 3) scRight.nd rfl (Or.inl rfl) pe_bl)
      (pss_cons (ps_set (i := 4) scRight.nd rfl (Or.inl rfl) (pe_op op_cat (cut rfl (Or.inr (Or.inl rfl)) rfl (Or.inl rfl) (by decide) (by decide) rfl gI rfl rfl) (cut rfl (Or.inr (Or.inl rfl)) rfl (Or.inl rfl) (by decide) (by decide) rfl gI rfl rfl)))
      (pss_cons ?_ (pss_one (ps_ret (pv 3)))))
    refine L2N.ps_try_as (i := 5) (tb := t_tb K) (ts := t_su K) (Wout := fun _ _ _ _ => False) rfl rfl scRight.nd rfl rfl ⟨rfl, by decide, Or.inl T.sign⟩ takesN
      (fun W pn xe tk _ => pss_one (ps_expr (pe_callS FT hr rfl gT kT bT (fun σ => L2N.passAt tk σ) (pa_cons (pv 0) (pa_cons (pv 1) (pa_cons (pv 2) pa_nil))))))
      (fun a oe cls d pn hz hf => ?_)
    have hrH : RoomH 1 ((A.deeper (envOfC "_law_right" (defScope sRight) s.heap.objs.size f cdv)).mark (some (.ref a))) := (roomH_mark hr (some (.ref a))).mono (by decide)
    have m : (a, oe) ∈ (a, oe) :: pn := List.mem_cons_self
    have hot : HotC (Cx.suite (cxOf CX0 P w K mg base nR "_law_right" (defScope sRight) f cdv A outer s H E) a ((a, oe) :: pn)) := by
      obtain ⟨vs, hv⟩ := hf
      exact ⟨(a, oe), ⟨rfl, vs, hv, hz.2.2 vs hv⟩, m⟩
    have hu : (Cx.suite (cxOf CX0 P w K mg base nR "_law_right" (defScope sRight) f cdv A outer s H E) a ((a, oe) :: pn)).A.units + 64 < cLine := by
      have h := hrH.un
      show ((A.deeper (envOfC "_law_right" (defScope sRight) s.heap.objs.size f cdv)).mark (some (.ref a))).units + 64 < cLine
      omega
    exact pss_cons (ps_set (i := 3) scRight.nd rfl (Or.inl rfl) (pe_and (pe_callB (call_isP (a := a) (oe := oe) m hz.zc hf) rfl gS PyProof.Rows.boot_isinstance (pa_cons (pv 5) (pa_cons (pe_bltn rfl gV PyProof.Rows.Boot.«ValueError» rfl) pa_nil)))
        (pe_one (pe_cmpR (op_eqV hu) (pe_callA FC hrH rfl hz hf m rfl gC kC bC (fun _ => fun _ _ _ _ _ _ z => z.elim) (pa_cons (pv 5) pa_nil))
          (pe_lcH (own := [("_law_other", 6)]) (g := gName 6) hot scRight.nd (pi_range1H rfl gR (pa_cons pe_int pa_nil)) (blkOk_by (N := nR) (sc := defScope sRight) (by decide +kernel)) (fun _ _ _ _ _ => pg_name (i := 6) scRight.nd rfl (Or.inl rfl)) (fun _ _ _ _ _ => pe_cmpR op_eq (pv 6) (pv 0) (nomark _))) (nomark _)))))
      (pss_one (ps_set (i := 3) scRight.nd rfl (Or.inl rfl) (pe_and (pv 3) (pe_one (pe_cmpR (op_eqV hu) (pe_callA FQ hrH rfl hz hf m rfl gP kP bP (fun _ => fun _ _ _ _ _ _ z => z.elim) (pa_cons (pv 0) (pa_cons (pv 5) pa_nil))) (pv 4) (nomark _))))))
end
end Kt
set_option Elab.async false
set_option linter.all false
set_option maxRecDepth 100000
set_option maxHeartbeats 4000000
namespace Kt
open PySem PySem.Spec PyProof.Rows L2 L2H HotX Kh
abbrev sLaw : Stmt := top 24
abbrev nL : List Str := ["_law_script", "_law_h", "_law_one", "_law_two", "_law_k"]
def spLaw (K : PySem.W.Frag) : Sp := fun vs H Q _ => ∃ (a : Addr) (ns : List Int), vs = [.ref a] ∧ SqL K H a (ns.map V.int) ∧ ns.length ≤ 63 ∧ ∀ H', Q (.bl true) H'
def tDr (n : Int) : TE := tCall spNext [] E0 (tCons (tVar 1) (tCons (tC (.int n)) tNil))
def tAl (K : PySem.W.Frag) : TE := tCB (rAll K) (tCons (tLc (iRng1 (tCons (tC (.int 14)) tNil)) (gName 4) tYes (tCall spRight [] E0 (tCons (tVar 4) (tCons (tVar 2) (tCons (tVar 3) tNil)))) [4]) tNil)
def t_law (K : PySem.W.Frag) : TS :=
  tSeq (tAsg (tCall (spMix K) [] E0 (tCons (tVar 0) (tCons (tC (.int 19)) tNil))) (gName 1))
    (tSeq (tAsg (tOp (rIxL K) (tLst (tCons (tC (.str "a")) (tCons (tC (.str "")) (tCons (tC (.int 7)) (tCons (tTup (tCons (tC (.str "copy")) tNil)) (tCons (tC .non) tNil)))))) (tDr 5)) (gName 2))
    (tSeq (tAsg (tOp (rIxL K) (tLst (tCons (tTup tNil) (tCons (tC (.str "kind")) (tCons (tC (.int 0)) (tCons (tC .non) tNil))))) (tDr 4)) (gName 3)) (tRet (tAl K))))
theorem SrcH.kp {H H' : Hp} {h : Addr} {n : Nat} (s : SrcH H h n) (k : Kp H H') : SrcH H' h n := by
  obtain ⟨l, st, ix, z, cs, a, b, c, d⟩ := s
  exact ⟨l, st, ix, z, cs, a, k _ _ b, k _ _ c, d⟩
/-- a draw from a list of values that equal themselves -/
theorem pick {K : PySem.W.Frag} {xs : List V} (hx : ∀ x ∈ xs, OkV x) {r : Int} (h0 : 0 ≤ r) (h1 : r < xs.length) : ∃ v, atI xs r = some v ∧ OkV v := by
  obtain ⟨j, rfl⟩ := Int.eq_ofNat_of_zero_le h0
  have hj : j < xs.length := by omega
  exact ⟨xs[j], atI_nat (List.getElem?_eq_getElem hj), hx _ (List.getElem_mem hj)⟩
theorem draw_at {K : PySem.W.Frag} {b h : Addr} {n : Nat} {xs : List V} {σ : L2.St} {H : Hp} {Q : VK} {m : Int} (hn : n ≤ 63) (h1 : σ[1]? = some (some (.ref h))) (s : SrcH H h n) (hb : H b = some (.lst xs)) (hx : ∀ x ∈ xs, OkV x) (hm : m = xs.length) (m0 : 0 < m) (m1 : m < 1000)
    (hbh : b ≠ h) (hbl : ∀ l st ix z, H h = some (.lst [.int st, .ref l, .int ix, .int z]) → b ≠ l) (q : ∀ v H', OkV v → SrcH H' h n → Q v H') : (tDr m σ H fun y H2 => rIxL K (.ref b) y H2 Q) := by
  refine ⟨_, h1, h, n, m, rfl, m0, by omega, hn, s, fun r H' r0 r1 s' kp => ?_⟩
  obtain ⟨v, e, ov⟩ := pick (K := K) hx r0 (by omega)
  exact ⟨b, xs, r, v, rfl, rfl, SqL.of (kp b _ hbh hbl hb), e, q v H' ov s'⟩
theorem law_pure {K : PySem.W.Frag} (vs : List V) (H : Hp) (Q : VK) (E : XK) (w : spLaw K vs H Q E) : t_law K { nx := fun _ H' => Q .non H', rt := Q } (start nL vs) H := by
  obtain ⟨a, ns, rfl, hS, hl, q⟩ := w
  unfold t_law tSeq tAsg
  dsimp only
  refine ⟨_, rfl, a, ns, 19, rfl, hS, hl, fun h H1 k1 nh s1 => ?_⟩
  -- one
  refine ⟨by show 1 ≤ sizeLine; decide, fun t nt => ?_⟩
  have s2 := s1.kp (Kp.new (o := .tup [.str "copy"]) nt)
  refine ⟨by show 5 ≤ sizeLine; decide, fun b nb => ?_⟩
  have s3 := s2.kp (Kp.new (o := .lst [.str "a", .str "", .int 7, .ref t, .non]) nb)
  have fresh : ∀ {G : Hp} {b h : Addr} {n : Nat} {o : HO}, SrcH G h n → G b = none → b ≠ h ∧ ∀ l st ix z, upd G b o h = some (.lst [.int st, .ref l, .int ix, .int z]) → b ≠ l := fun {G b h n o} s nb => by
    obtain ⟨l0, st0, ix0, z0, cs, e0, e1, e2, _⟩ := s
    have bh : b ≠ h := fun z => by rw [z, e1] at nb; cases nb
    refine ⟨bh, fun l st ix z e => fun y => ?_⟩
    rw [upd_ne (Ne.symm bh), e1] at e
    injection e with e
    injection e with e
    injection e with _ e
    injection e with e _
    injection e with e
    rw [y, ← e, e2] at nb
    cases nb
  obtain ⟨f1, f2⟩ := fresh (o := .lst [.str "a", .str "", .int 7, .ref t, .non]) s2 nb
  refine draw_at hl rfl s3 upd_same ?_ rfl (by decide) (by decide) f1 f2 fun one H2 o1 s4 => ?_
  · intro x hx
    simp only [List.mem_cons, List.not_mem_nil, or_false] at hx
    rcases hx with rfl | rfl | rfl | rfl | rfl
    · exact .inl rfl
    · exact .inl rfl
    · exact .inl rfl
    · exact .inr ⟨_, rfl⟩
    · exact .inl rfl
  -- two
  refine ⟨by show 0 ≤ sizeLine; decide, fun t2 nt2 => ?_⟩
  have s5 := s4.kp (Kp.new (o := .tup []) nt2)
  refine ⟨by show 4 ≤ sizeLine; decide, fun b2 nb2 => ?_⟩
  have s6 := s5.kp (Kp.new (o := .lst [.ref t2, .str "kind", .int 0, .non]) nb2)
  obtain ⟨g1, g2⟩ := fresh (o := .lst [.ref t2, .str "kind", .int 0, .non]) s5 nb2
  refine draw_at hl rfl s6 upd_same ?_ rfl (by decide) (by decide) g1 g2 fun two H3 o2 s7 => ?_
  · intro x hx
    simp only [List.mem_cons, List.not_mem_nil, or_false] at hx
    rcases hx with rfl | rfl | rfl | rfl
    · exact .inr ⟨_, rfl⟩
    · exact .inl rfl
    · exact .inl rfl
    · exact .inl rfl
  -- all
  refine ⟨14, rfl, by decide, by decide, fun D nD => ?_⟩
  refine lc_range (fun i H' => H' D = some (.lst (List.replicate i (.bl true)))) upd_same (fun i H' hi e => ?_) fun H' e => ?_
  · refine ⟨rfl, ?_⟩
    unfold tYes
    refine iteT ?_
    refine ⟨_, rfl, _, rfl, _, rfl, i, one, two, ?_, hi, o1, o2, fun H4 k4 => ⟨_, k4 _ _ e, ?_, ?_⟩⟩
    · show [V.int (0 + (i : Int)), one, two] = _
      rw [Int.zero_add]
    · rw [List.length_replicate, sizeLine_eq]; omega
    · rw [upd_same, List.replicate_succ']
  · refine ⟨D, List.replicate 14 true, rfl, SqL.of ?_, q H'⟩
    rw [e]
    rfl
section
variable {P : Program} {w : World} {K : PySem.W.Frag} {mg : Str → Option Value} {base : Heap} {f : Addr} {fd : FuncData}
theorem scLaw : FnScope nL ["_law_script"] (defScope sLaw) := ⟨rfl, rfl, rfl, by decide +kernel, rfl, by decide +kernel, by decide +kernel⟩
theorem ok_law {fM fN fR : Addr} {fdM fdN fdR : FuncData} (F : FnP K "law" sLaw f fd) (FM : FnOk P w K mg base CX0 1 fM fdM ["_law_script", "_law_seed"] (spMix K)) (bM : Binds K fdM ["_law_script", "_law_seed"] []) (gM : mg "_law_mix" = some (.ref fM)) (kM : PySem.W.keepIn K (.ref fM) = true)
    (FN : FnOk P w K mg base CX0 1 fN fdN ["_law_h", "_law_bound"] spNext) (bN : Binds K fdN ["_law_h", "_law_bound"] []) (gN : mg "_law_next" = some (.ref fN)) (kN : PySem.W.keepIn K (.ref fN) = true)
    (FR : FnOk P w K mg base CX0 4 fR fdR ["_law_k", "_law_one", "_law_two"] spRight) (bR : Binds K fdR ["_law_k", "_law_one", "_law_two"] []) (gR : mg "_law_right" = some (.ref fR)) (kR : PySem.W.keepIn K (.ref fR) = true)
    (gA : mg "all" = none) (gG : mg "range" = none) : FnOk P w K mg base CX0 5 f fd ["_law_script"] (spLaw K) := by
  refine F.ok scLaw (fun vs H Q E h => ?_) (fun cdv A outer s H vs Q E hr h => ⟨t_law K, PSs.nox ?_, law_pure vs H Q E h⟩)
  · obtain ⟨a, ns, rfl, _⟩ := h
    rfl
  · exact pss_cons (ps_set (i := 1) scLaw.nd rfl (Or.inl rfl) (pe_call FM (hr.mono (by decide)) rfl gM kM bM .nil pass0 (pa_cons (pv 0) (pa_cons pe_int pa_nil))))
      (pss_cons (ps_set (i := 2) scLaw.nd rfl (Or.inr rfl) (pe_ix ix_list (pe_lst (pa_cons pe_str (pa_cons pe_str (pa_cons pe_int (pa_cons (pe_tup (pa_cons pe_str pa_nil)) (pa_cons pe_non pa_nil)))))) (pe_call FN (hr.mono (by decide)) rfl gN kN bN .nil pass0 (pa_cons (pv 1) (pa_cons pe_int pa_nil))) (fun _ _ => rfl)))
      (pss_cons (ps_set (i := 3) scLaw.nd rfl (Or.inr rfl) (pe_ix ix_list (pe_lst (pa_cons (pe_tup pa_nil) (pa_cons pe_str (pa_cons pe_int (pa_cons pe_non pa_nil))))) (pe_call FN (hr.mono (by decide)) rfl gN kN bN .nil pass0 (pa_cons (pv 1) (pa_cons pe_int pa_nil))) (fun _ _ => rfl)))
      (pss_one (ps_ret (pe_callB (cr_all rfl) rfl gA PyProof.Rows.boot_all (pa_cons (pe_lc (own := [("_law_k", 4)]) (g := gName 4) (tt := tYes) rfl scLaw.nd (pi_range1 rfl gG (pa_cons pe_int pa_nil)) (blkOk_by (N := nL) (sc := defScope sLaw) (by decide +kernel)) (fun _ _ _ _ _ => pg_name (i := 4) scLaw.nd rfl (Or.inl rfl)) (fun _ _ _ _ _ => pts_nil)
        (fun _ _ _ _ _ => pe_call FR hr rfl gR kR bR .nil pass0 (pa_cons (pv 4) (pa_cons (pv 2) (pa_cons (pv 3) pa_nil))))) pa_nil))))))
end
end Kt
set_option Elab.async false
set_option linter.all false
set_option maxRecDepth 100000
set_option maxHeartbeats 0
namespace Kt
open PySem PySem.Spec PyProof.Rows L2 L2H HotX Kh
/-! ### facts of the written part -/
def oexB (K : PySem.W.Frag) (C : Addr) : Bool := match K.lookup C with
  | some ⟨.type "type", _, .cls cd, sl⟩ => (match cd.mro, sl.toList with
    | .ref C' :: bm, [_, _, _, _, some (.builtin n), _] => C' == C && (n == "ValueError.__new__" && (!cd.hasDel && (cd.hasDict && PySem.HandSPX.refsVE bm)))
    | _, _ => false)
  | _ => false
theorem oexB_cls {K : PySem.W.Frag} {C : Addr} (q : oexB K C = true) : ∃ nm qn N bs bm sn sub ab col dd k0 k1 k2 k3 k5, K.lookup C = some (excClassObj nm qn C N bs bm true sn sub ab col dd k0 k1 k2 k3 k5 "ValueError.__new__") ∧ PySem.HandSPX.refsVE bm = true := by
  unfold oexB at q
  split at q
  · rename_i dd cd sl ho
    split at q
    · rename_i C' bm k0 k1 k2 k3 n k5 hm hs
      simp only [Bool.and_eq_true, beq_iff_eq, Bool.not_eq_true'] at q
      obtain ⟨rfl, rfl, hdel, hd, hr⟩ := q
      obtain ⟨nm, bs, mro, ns, qn, hdc, sn, sub, ab, col, del⟩ := cd
      dsimp only at hm hdel hd
      subst hm hdel hd
      have hsl : sl = #[k0, k1, k2, k3, some (.builtin "ValueError.__new__"), k5] := by
        obtain ⟨l⟩ := sl
        simp only at hs
        rw [hs]
      subst hsl
      exact ⟨nm, qn, ns, bs, bm, sn, sub, ab, col, dd, k0, k1, k2, k3, k5, ho, hr⟩
    · cases q
  · cases q
def dB {α : Type} [DecidableEq α] (a b : α) : Bool := decide (a = b)
theorem dB_ok {α : Type} [DecidableEq α] {a b : α} (h : dB a b = true) : a = b := of_decide_eq_true h
def ecB (K : PySem.W.Frag) (C : Addr) : Bool := dB (PySem.W.findIn K (.ref C) "__getattribute__") (some (some (.builtin "BaseException.__getattribute__"))) && (dB (PySem.W.findIn K (.ref C) "__getattr__") (some none) && (dB (PySem.W.subIn K (.ref C) (.type "BaseException")) (some true) && (PySem.W.hasDictIn K C &&
  (dB (PySem.W.findIn K (.ref C) "__class__") (some (some (.builtin "object.__class__"))) && (dB (PySem.W.specialIn K (.builtin "object.__class__") "__get__") (some (some (.builtin "getset_descriptor.__get__"))) && (dB (PySem.W.takesIn K (.builtin "object.__class__")) (some true) && dB (PySem.W.mroIn K C (.type "object")) (some true)))))))
theorem ecB_ok {K : PySem.W.Frag} {C : Addr} (h : ecB K C = true) : ExcC K C := by
  simp only [ecB, Bool.and_eq_true] at h
  obtain ⟨h1, h2, h3, h4, h5, h6, h7, h8⟩ := h
  exact ⟨dB_ok h1, dB_ok h2, dB_ok h3, h4, dB_ok h5, dB_ok h6, dB_ok h7, dB_ok h8⟩
def clB (K : PySem.W.Frag) (k : Nat) : Bool := dB (PySem.W.nsIn K mainGlobals (cx k)) (some (some (.ref (cA K k)))) && (PySem.W.keepIn K (.ref (cA K k)) && (dB (PySem.W.subIn K (.ref (cA K k)) (.type "BaseException")) (some true) && (dB (PySem.W.typeIn K (.ref (cA K k))) (some (.type "type")) &&
  (dB (PySem.W.exmOne K (.ref (cA K k)) (.ref (He.ga K "SignError"))) (some true) && (ecB K (cA K k) && ((List.range 14).all (fun i => dB (PySem.W.kitOne K (.ref (cA K k)) (.ref (cA K i))) (some (decide (i = k)))) && dB (PySem.W.kitOne K (.ref (cA K k)) (.type "ValueError")) (some true)))))))
def inB (K : PySem.W.Frag) (k : Nat) : Bool := oexB K (cA K k) && (dB (PySem.W.findIn K (.ref (cA K k)) "__setattr__") (some (some (.builtin "object.__setattr__"))) && (dB (PySem.W.findIn K (.ref (cA K k)) "__init__") (some (some (.ref (He.ma K (cA K k) "__init__")))) &&
  (dB (PySem.W.typeIn K (.ref (He.ma K (cA K k) "__init__"))) (some (.type "function")) && (xfB K (cA K k) && (fl k).all fun f => dB (PySem.W.findIn K (.ref (cA K k)) f) (some none)))))
def exB (K : PySem.W.Frag) : Bool := (List.range 14).all (clB K) && ((List.range 5).all (fun k => PySem.W.excIn K (cA K k) He.veBase "ValueError.__new__") && (List.range 14).all fun k => decide (k < 5) || inB K k)
theorem t19_of {K : PySem.W.Frag} {h : Heap} {mg : Str → Option Value} (X : K.In h) (G : h.Ns mainGlobals mg) (hs : mg "SignError" = some (.ref (He.ga K "SignError"))) (e : exB K = true) : T19 K mg := by
  simp only [exB, Bool.and_eq_true, List.all_eq_true, List.mem_range] at e
  obtain ⟨e1, e2, e3⟩ := e
  have cl : ∀ k, k < 14 → ClK K mg k := fun k hk => by
    have c := e1 k hk
    simp only [clB, Bool.and_eq_true, List.all_eq_true, List.mem_range] at c
    obtain ⟨c1, c2, c3, c4, c5, c6, c7, c8⟩ := c
    exact ⟨PySem.W.mg_of X G (dB_ok c1), c2, dB_ok c3, dB_ok c4, dB_ok c5, ecB_ok c6, fun i hi => dB_ok (c7 i hi), dB_ok c8⟩
  refine ⟨cl, e2, fun k h5 hk => ?_, hs⟩
  have c := e3 k hk
  rw [decide_eq_false (by omega), Bool.false_or] at c
  simp only [inB, Bool.and_eq_true, List.all_eq_true] at c
  obtain ⟨c1, c2, c3, c4, c5, c6⟩ := c
  exact ⟨⟨oexB_cls c1, dB_ok c2, (cl k hk).sub, (cl k hk).ty, (cl k hk).kp⟩, dB_ok c3, dB_ok c4, xfB_ok c5, fun f hf => dB_ok (c6 f hf)⟩
def dF (x : Str) (st : Stmt) : He.DefD := ⟨(x, none), x, x, defArgs st, defBody st, defScope st, [], []⟩
def dI (k : Nat) (q : Str) (st : Stmt) : He.DefD := ⟨(cx k, some "__init__"), "__init__", q, defArgs st, defBody st, defScope st, [], []⟩
def fn : List He.DefD := [dF "_law_mix" sMix, dF "_law_next" sNext, dF "_law_bare" sBare, dF "_law_thrown" sThrown, dF "_law_classes" sClasses, dF "_law_parts" sParts, dF "_law_right" sRight, dF "law" sLaw,
  dI 5 "InvalidDeed.__init__" (init 8), dI 6 "UnknownKind.__init__" (init 13), dI 7 "UnknownIndex.__init__" (init 14), dI 8 "InvalidPerson.__init__" (init 3), dI 9 "UnknownPerson.__init__" (init 7), dI 10 "UnknownDeed.__init__" (init 9), dI 11 "UnknownThing.__init__" (init 10), dI 12 "Possible.__init__" (init 11), dI 13 "InvalidText.__init__" (init 15)]
def fa : List He.Fa := [.glo "_law_mix", .glo "_law_next", .glo "_law_bare", .glo "_law_thrown", .glo "_law_classes", .glo "_law_parts", .glo "_law_right", .glo "law", .glo "SignError",
  .free "int", .free "list", .free "max", .free "len", .free "range", .free "all", .free "isinstance", .free "ValueError"]
abbrev R : PySem.W.OpenRow := PySem.W.OpenLaw.row PySem.Challenge.rw_signedoff_k19_errors_apart
abbrev hk : PySem.W.Hook := He.hookX 5 fa fn [] [] exB
def ob (s : PySem.W.SharedT) : He.AlX := He.obsX 5 fa fn [] [] exB (HandSHeadRun.getT s)
theorem ob_eq (s : PySem.W.SharedT) : ob s = hk.obs s.abs := He.obsX_eq (HandSHeadRun.getT_eq s)
def loose : List PySem.Str := ["SignError", "InvalidParts", "InvalidPerson", "InvalidContents", "InvalidManner", "InvalidWords", "UnknownPerson", "InvalidDeed", "UnknownDeed", "UnknownThing", "Possible", "NotComparable", "UnknownKind", "UnknownIndex", "InvalidText", "_law_mix", "_law_next", "_law_bare", "_law_thrown", "_law_classes", "_law_parts", "_law_right"]
theorem run (w : World) : HandSHeadRun.RunEq R (PySem.W.view R.prog [24]) hk ob 20000 loose w := by
  intro os
  kernel_rfl
theorem facts {P : Program} {w : World} {K : PySem.W.Frag} {h : Heap} {mg : Str → Option Value} {f : Addr} (X : K.In h) (G : h.Ns mainGlobals mg) (hfa : mg ("law" : Str) = some (.ref f)) (c : He.SaysX fa fn [] [] exB w h K) :
    ∃ fd : FuncData, (∀ (s : Shared) (v : Value), BindsTo s fd ⟨[v], []⟩ [("_law_script", v)]) ∧ ∀ base : Heap, K.In base → base.Ns mainGlobals mg → FnOk P w K mg base CX0 5 f fd ["_law_script"] (spLaw K) := by
  have d := c.t.d
  have gl : ∀ (i : Nat) (x : Str), fa[i]? = some (.glo x) → mg x = some (.ref (He.ga K x)) := fun i x e => He.glo_ok X G (d.fact i e)
  have fr : ∀ (i : Nat) (x : Str), fa[i]? = some (.free x) → mg x = none := fun i x e => He.free_ok X G (d.fact i e)
  obtain ⟨f0, F0⟩ := d.def_ 0 (d := dF "_law_mix" sMix) rfl
  obtain ⟨f1, F1⟩ := d.def_ 1 (d := dF "_law_next" sNext) rfl
  obtain ⟨f2, F2⟩ := d.def_ 2 (d := dF "_law_bare" sBare) rfl
  obtain ⟨f3, F3⟩ := d.def_ 3 (d := dF "_law_thrown" sThrown) rfl
  obtain ⟨f4, F4⟩ := d.def_ 4 (d := dF "_law_classes" sClasses) rfl
  obtain ⟨f5, F5⟩ := d.def_ 5 (d := dF "_law_parts" sParts) rfl
  obtain ⟨f6, F6⟩ := d.def_ 6 (d := dF "_law_right" sRight) rfl
  obtain ⟨f7, F7⟩ := d.def_ 7 (d := dF "law" sLaw) rfl
  have T : T19 K mg := t19_of X G (gl 8 "SignError" rfl) c.more
  have J : I19 K := ⟨d.def_ 8 (d := dI 5 "InvalidDeed.__init__" (init 8)) rfl, d.def_ 9 (d := dI 6 "UnknownKind.__init__" (init 13)) rfl, d.def_ 10 (d := dI 7 "UnknownIndex.__init__" (init 14)) rfl, d.def_ 11 (d := dI 8 "InvalidPerson.__init__" (init 3)) rfl, d.def_ 12 (d := dI 9 "UnknownPerson.__init__" (init 7)) rfl,
    d.def_ 13 (d := dI 10 "UnknownDeed.__init__" (init 9)) rfl, d.def_ 14 (d := dI 11 "UnknownThing.__init__" (init 10)) rfl, d.def_ 15 (d := dI 12 "Possible.__init__" (init 11)) rfl, d.def_ 16 (d := dI 13 "InvalidText.__init__" (init 15)) rfl⟩
  have e := hfa.symm.trans (gl 7 "law" rfl)
  cases e
  have b0 : Binds K f0 ["_law_script", "_law_seed"] [] := F0.bindsN fun _ _ _ _ _ _ us hl => match us, hl with | [_, _], _ => rfl
  have b1 : Binds K f1 ["_law_h", "_law_bound"] [] := F1.bindsN fun _ _ _ _ _ _ us hl => match us, hl with | [_, _], _ => rfl
  have b3 : Binds K f3 ["_law_k", "_law_one", "_law_two"] [] := F3.bindsN fun _ _ _ _ _ _ us hl => match us, hl with | [_, _, _], _ => rfl
  have b4 : Binds K f4 ["_law_e"] [] := F4.bindsN fun _ _ _ _ _ _ us hl => match us, hl with | [_], _ => rfl
  have b5 : Binds K f5 ["_law_k", "_law_e"] [] := F5.bindsN fun _ _ _ _ _ _ us hl => match us, hl with | [_, _], _ => rfl
  have b6 : Binds K f6 ["_law_k", "_law_one", "_law_two"] [] := F6.bindsN fun _ _ _ _ _ _ us hl => match us, hl with | [_, _, _], _ => rfl
  have b := FunD.bindsA (ps := ["_law_script"]) F7 fun _ _ _ _ _ _ us hl => match us, hl with | [_], _ => rfl
  refine ⟨f7, fun s v => b s [v] rfl, fun base _ _ => ?_⟩
  exact ok_law F7 (ok_mix F0 (fr 9 "int" rfl) (fr 10 "list" rfl)) b0 (gl 0 "_law_mix" rfl) F0.kp (ok_next next_pure F1 (fr 9 "int" rfl) (fr 11 "max" rfl) (fr 12 "len" rfl)) b1 (gl 1 "_law_next" rfl) F1.kp
    (ok_right F6 T (ok_thrown F3 T J F2 (gl 2 "_law_bare" rfl)) b3 (gl 3 "_law_thrown" rfl) F3.kp (ok_classes F4 T (fr 15 "isinstance" rfl)) b4 (gl 4 "_law_classes" rfl) F4.kp (ok_parts F5 T) b5 (gl 5 "_law_parts" rfl) F5.kp
      (fr 9 "int" rfl) (fr 13 "range" rfl) (fr 16 "ValueError" rfl) (fr 15 "isinstance" rfl)) b6 (gl 6 "_law_right" rfl) F6.kp (fr 14 "all" rfl) (fr 13 "range" rfl)
end Kt
open PySem PySem.W PySem.Calls PyProof.Rows
theorem PySem.Challenge.cw_signedoff_k19_errors_apart_holds : PySem.Challenge.rw_signedoff_k19_errors_apart.Holds := by
  w_on; o_law
  refine HandSHeadRun.head_any (r := Kt.R) (q := view Kt.R.prog [24]) (H := Kt.hk) (ob := Kt.ob) (M := 20000) (loose := Kt.loose) (d := HandSHeadRun.topDef Kt.R.prog 24) (kwd := []) Kt.ob_eq
    (by kernel_rfl) (fun s => by kernel_rfl) Kt.run (by kernel_rfl) (by kernel_rfl) (by kernel_rfl) (by rfl) (by first | assumption | decide +kernel) (by decide +kernel) ⟨rfl, rfl, rfl, rfl, rfl, by decide +kernel⟩ ?hw ?hc
  case hw => w_witness2
  case hc =>
    refine L2.walk_ofE (l := PySem.Challenge.rw_signedoff_k19_errors_apart) (n := 63) (k := 5) (x := "_law_script") (CX := L2.CX0) rfl (by decide) (by kernel_rfl) ⟨by decide +kernel, by decide +kernel, by decide +kernel⟩ ?F (fun _ _ _ _ z => z)
    intro w mg fa h Y G hmg0
    obtain ⟨K, KX, c⟩ := Y
    have hmg : mg ("law" : PySem.Str) = some (.ref fa) := by
      have e : (HandSHeadRun.topDef Kt.R.prog 24).name = ("law" : PySem.Str) := by kernel_rfl
      rw [← e]
      exact hmg0
    obtain ⟨fd, hb, hF⟩ := Kt.facts (P := (PySem.Challenge.rw_signedoff_k19_errors_apart).prog) (w := w) KX G hmg c
    exact ⟨K, fd, Kt.spLaw K, KX, hb, fun H a ns hl _ hS => ⟨a, ns, rfl, hS, hl, fun _ => rfl⟩, hF⟩
