import PyProof.Rows.All
import Wide.All
import OpenK.AllK
import Wide.FinOn
import HandS.Base
import HandS.Call
import HandS.List
import HandS.Comp
import HandS.Exc
import HandS.ExcOwn
import HandS.ExcCtx
import HandS.ExcIs
import HandS.HotCalls
import HandS.Words
import HandS.WordsList
import HandS.WordsDict
import HandS.WordsExc
import HandS.Defaults
import HandS.Ends
import HandS.HeadEnd
import PyProof.ReprRoads
import HandS.RaiseMore
import KE.KTreeB
import PyProof.AutoSeq1
import KE.KRevIter
import PyProof.Draws
import HandS.Iter
import KE.KTryMore
import PyProof.EqAt
import PyProof.EqKinds
import PyProof.TupleCall
import HandS.ForMost
import HandS.ForExc
import HandS.IsInst
import HandS.HeadHook1
import HandS.HeadHook2
import HandS.RevRange
import HandS.Codes
import HandS.TupAny
import HandS.Walk
import HandS.Text
import HandS.Wide
import HandS.TryOnly
import PyProof.ReprBulk
import KE.KStateDown
import Lean
import HandS.More
import HandS.Head0
import HandS.Head1
import HandS.Head2
import HandS.HeadHook4
import PySem.Challenge.RW_shapestring_k32_no_letter
set_option Elab.async false
set_option linter.all false
set_option autoImplicit false
set_option maxRecDepth 100000
set_option maxHeartbeats 4000000
/-! A list comprehension over range, and isinstance of the handled exception, inside a def that an except suite calls. -/
namespace Px
open PySem PySem.Spec PyProof.Rows L2 L2H
/-- what Inv says of a pin -/
abbrev PinAt (X : Cx) (H : Hp) (s : Shared) (p : Addr × Obj) : Prop :=
  s.heap.get? p.1 = some p.2 ∧ H p.1 = none ∧ p.1 ≠ X.env.locals ∧ p.1 ∉ X.fs ∧ ∀ v, p.2.data ≠ .cell v
/-- the block of a comprehension, one pin kept -/
abbrev bk (X : Cx) (p : Addr × Obj) (s : Shared) (H : Hp) (sc : Scope) (ce : Env) (fp : List Addr) : Cx := { X.blk s H sc ce fp with pn := [p] }
theorem bk_inv {X : Cx} {p : Addr × Obj} {s s' : Shared} {H H' : Hp} {sc : Scope} {ce : Env} {fp : List Addr} {σ : L2.St}
    (I : Inv (X.blk s H sc ce fp) [] σ H' s') (hp : PinAt (X.blk s H sc ce fp) H' s' p) : Inv (bk X p s H sc ce fp) [] σ H' s' := by
  obtain ⟨⟨o1, o2, o3, o4, o5, o6, o7, o8, o9, o10, o11, o12, o13, o14, o15, o16, o17, o18⟩, i2, i3, i4, i5, i6, i7, i8, i9, i10, i11⟩ := I
  refine ⟨⟨o1, o2, o3, o4, o5, o6, o7, o8, o9, o10, o11, o12, o13, o14, o15, o16, o17, o18⟩, i2, i3, i4, i5, i6, i7, i8, fun q hq => ?_, i10, i11⟩
  have e : q = p := by simpa using hq
  rw [e]
  exact hp
section
variable {X : Cx} {p : Addr × Obj}
theorem lcH_core {pins : List (Addr × Obj)} {s : Shared} {σ : L2.St} {H : Hp} {Q : VK} {el tg it0 : Expr} {cs : List Expr} {sc : Scope} {own : List (Str × Nat)} {pos pos' : Pos} {wi : TI} {g : TG} {tt : TT} {te : TE} {use : Option (Value → Sem Unit)} {Qf : Value → Shared → Prop}
    (hot : Hot1 X.A p) (hp : p ∈ X.pn) (hN : X.N.Nodup) (I : Inv X pins σ H s) (hi : PIH X tg it0 wi) (ok : BlkOk X.N X.env.scope sc own)
    (hg : ∀ (s : Shared) (H : Hp) (C : Addr) (cl : List (Str × Addr)) (fp : List Addr), PG (bk X p s H sc (compEnvC sc cl C X.env) fp) tg g)
    (ht : ∀ (s : Shared) (H : Hp) (C : Addr) (cl : List (Str × Addr)) (fp : List Addr), PTs (bk X p s H sc (compEnvC sc cl C X.env) fp) cs tt)
    (he : ∀ (s : Shared) (H : Hp) (C : Addr) (cl : List (Str × Addr)) (fp : List Addr), PE (bk X p s H sc (compEnvC sc cl C X.env) fp) el te)
    (hs : ∀ x, foldedSetIterable it0 X.env x = pure x) (h : tLc wi g tt te (own.map (·.2)) σ H Q)
    (hR : ∀ D C s' m H', Inv X pins σ H' s' → Q (.ref D) H' → s'.heap.Ns C m → FpOk X pins H' C → compPost (model X.prog X.w) X.A X.xe use Qf (.ref D) C (.ok .next) s') :
    wpAny (model X.prog X.w) X.A (comprehension (.ListComp el [⟨tg, it0, cs, 0⟩] sc pos) sc X.env pos' (newList []) false (eval it0 X.env) use) Qf X.xe s := by
  have cells : ∀ y ∈ sc.names, y.2 = .free → ∃ c, X.env.cells.lookup y.1 = some c := fun y hy e =>
    (ok.free y hy e).elim (fun k => I.ok.has _ (.inl k)) (fun k => I.ok.has _ (.inr k))
  refine wpAny_comprehension_free (use := use) rfl hs (closure_ok cells) ok.kind (fun y hy e => by rw [ok.uniq y hy, e]) ?_
  refine thn (hi.run pins s σ H _ I h) fun xv s1 hx => thn hx fun itv s2 h2 => ?_
  obtain ⟨it, fp, tn, J, H2, rfl, I2, T, t2, f2, q⟩ := h2
  refine wpAny_newObj_type (newEnv_comp ?_) (by show 0 ≤ sizeLine; decide)
  obtain ⟨D, eD⟩ : ∃ D, D = s2.heap.objs.size := ⟨_, rfl⟩
  rw [← eD]
  obtain ⟨W, ⟨m0, w0⟩, turn⟩ := q D (I2.hok.fresh (Nat.le_of_eq eD.symm))
  obtain ⟨s3, e3⟩ : ∃ s3 : Shared, s3 = { s2 with heap := s2.heap.push { cls := .type "list", data := .seq ([] : List Value).toArray } } := ⟨_, rfl⟩
  have hh3 : s3.heap = s2.heap.push { cls := .type "list", data := .seq ([] : List Value).toArray } := by rw [e3]
  have I3 : Inv X pins σ (upd H2 D (.lst [])) s3 := by
    rw [e3]
    refine I2.laid (t' := s2.toks) (fun b o e => Heap.get?_push_of_some _ e) (Nat.le_of_eq eD.symm) ⟨Nat.zero_le _, [], 0, .nil, ?_⟩
    rw [eD]
    exact Heap.get?_push_size _ rfl
  have lt2 : ∀ b ∈ fp, b < s2.heap.objs.size := fun b hb => by
    obtain ⟨o, e, _⟩ := T.obj _ _ t2 b hb
    exact Heap.lt_size e
  have f3 : ∀ b ∈ fp, FpOk X pins (upd H2 D (.lst [])) b ∧ b < s3.heap.objs.size := fun b hb => by
    refine ⟨⟨?_, (f2 b hb).2⟩, by rw [hh3, Heap.size_push]; exact Nat.lt_succ_of_lt (lt2 b hb)⟩
    rw [upd_ne (by rw [eD]; exact Nat.ne_of_lt (lt2 b hb))]
    exact (f2 b hb).1
  have t3 : tn 0 s3.heap := T.keep _ _ _ t2 fun b _ o e => by rw [hh3]; exact Heap.get?_push_of_some _ e
  have P3 := I3.pin p (List.mem_append_left _ hp)
  have I4b := block_start I3 ok hN f3
  have pl3 : p.1 < s3.heap.objs.size := Heap.lt_size P3.1
  have nst : p.1 ∉ frs X.stack := fun hm => (List.mem_cons.mp (I3.stkSub p.1 hm)).elim P3.2.2.1 P3.2.2.2.1
  have I4 := bk_inv (p := p) I4b ⟨pushCells_keeps _ _ _ _ (Heap.get?_push_of_some _ P3.1), P3.2.1, Nat.ne_of_lt pl3, nst, P3.2.2.2.2⟩
  have pg := hg s3 (upd H2 D (.lst [])) s3.heap.objs.size (cellsFrom (s3.heap.objs.size + 1) sc.names (cloFrom X.env.cells sc.names [])) fp
  have pt := ht s3 (upd H2 D (.lst [])) s3.heap.objs.size (cellsFrom (s3.heap.objs.size + 1) sc.names (cloFrom X.env.cells sc.names [])) fp
  have pe := he s3 (upd H2 D (.lst [])) s3.heap.objs.size (cellsFrom (s3.heap.objs.size + 1) sc.names (cloFrom X.env.cells sc.names [])) fp
  rw [← e3]
  show codeAny _ _ (.compStart (.ListComp el [⟨tg, it0, cs, 0⟩] sc pos) 0 (.ref it) (.ref D) (compEnvC sc (cellsFrom (s3.heap.objs.size + 1) sc.names (cloFrom X.env.cells sc.names [])) s3.heap.objs.size X.env)) (compPost (model X.prog X.w) X.A X.xe use Qf (.ref D) s3.heap.objs.size) { s3 with heap := pushCells (s3.heap.push { cls := .type "dict", data := .dict #[] }) sc.names }
  have nfp : ∀ b ∈ fp, (upd H2 D (.lst [])) b = none := fun b hb => (f3 b hb).1.1
  generalize hce : compEnvC sc (cellsFrom (s3.heap.objs.size + 1) sc.names (cloFrom X.env.cells sc.names [])) s3.heap.objs.size X.env = ce at I4b I4 pg pt pe ⊢
  have cL : ce.locals = s3.heap.objs.size := by subst hce; rfl
  generalize hH3 : upd H2 D (.lst []) = H3 at I3 I4b I4 pg pt pe w0 nfp f3 P3
  generalize hs4 : ({ s3 with heap := pushCells (s3.heap.push { cls := .type "dict", data := .dict #[] }) sc.names } : Shared) = s4 at I4b I4 ⊢
  have t4 : tn 0 s4.heap := T.keep _ _ _ t3 fun b _ o e => by rw [← hs4]; exact pushCells_keeps _ _ _ _ (Heap.get?_push_of_some _ e)
  have pfp : ∀ b ∈ fp, p.1 ≠ b := fun b hb => (f3 b hb).1.2.2.2.2.2 p (List.mem_append_left _ hp)
  have hc : HotC (bk X p s3 H3 sc ce fp) := ⟨p, hot, List.mem_singleton.mpr rfl⟩
  have stat : ∀ {σ' : L2.St} {H' : Hp} {s' : Shared}, Inv (bk X p s3 H3 sc ce fp) [] σ' H' s' → (∀ b ∈ fp, H' b = none) → ∀ b ∈ fp, FpOk (bk X p s3 H3 sc ce fp) [] H' b := fun {σ' H' s'} I' hn b hb =>
    ⟨hn b hb, (I'.ok.exf b hb).1, I'.ok.exfs b hb, .inl hb, fun x c e => (I'.ok.exf b hb).2 x c e, fun q hq => by
      have e : q = p := by simpa using hq
      rw [e]
      exact pfp b hb⟩
  have loop : codeAny (model X.prog X.w) X.A (.compLoop (.ListComp el [⟨tg, it0, cs, 0⟩] sc pos) 0 (.ref it) (.ref D) ce) (compPost (model X.prog X.w) X.A X.xe use Qf (.ref D) s3.heap.objs.size) s4 := by
    refine compLoop_any (fun n s' => ∃ i H', Inv (bk X p s3 H3 sc ce fp) [] (wipe σ (own.map (·.2))) H' s' ∧ tn i s'.heap ∧ (∀ b ∈ fp, H' b = none) ∧ W i n H') ?_ m0 ⟨0, H3, I4, t4, nfp, w0⟩
    rintro n s5 ⟨i, H5, I5, t5, n5, w5⟩
    rcases turn i n H5 w5 with ⟨stop, qq⟩ | ⟨go, Nx, hNx, step⟩
    · refine thnF (T.done (bk X p s3 H3 sc ce fp) rfl rfl rfl hc i [] s5 _ H5 (fun _ _ => False) I5 (stat I5 n5) t5 stop) fun r s6 ⟨hr, I6⟩ => ?_
      subst hr
      have I7 : Inv X pins σ H5 s6 := I3.call' (ch := fp) I6.os I6.base I6.hok I6.bare fun b hb => by
        obtain ⟨_, g1, _, g3, g4, g5⟩ := (f3 b hb).1
        exact ⟨g3, g1, g4, g5⟩
      obtain ⟨m, hn, _⟩ := I6.loc
      have hn' : s6.heap.Ns ce.locals m := hn
      have nC : H5 ce.locals = none := I6.free
      rw [cL] at hn' nC
      exact hR D s3.heap.objs.size s6 m H5 I7 qq hn' (I3.fpOk (Nat.le_refl _) nC)
    · refine thnF (T.item (bk X p s3 H3 sc ce fp) rfl rfl rfl hc i [] s5 _ H5 (fun _ _ => False) I5 (stat I5 n5) t5 go) fun r s6 ⟨u, hr, h6⟩ => ?_
      subst hr
      refine thnF h6 fun _ s7 ⟨x, H7, I7, r7, y7, t7, n7⟩ => ?_
      have J7 := I7.pinned (stat I7 n7) (T.obj _ _ t7)
      refine thnF (pg.run _ s7 _ H7 x u _ J7 r7 (step x H7 y7)) fun _ s8 ⟨σ8, H8, I8, hw8, q8⟩ => ?_
      refine thnF (pt.run _ s8 σ8 H8 _ I8 q8) fun b s9 ⟨H9, I9, q9⟩ => ?_
      have fin : ∀ {s' : Shared} {H' : Hp}, Inv (bk X p s3 H3 sc ce fp) ([] ++ pinsAt fp s7.heap) σ8 H' s' → Nx H' → ∃ m, m < n ∧ ∃ i H', Inv (bk X p s3 H3 sc ce fp) [] (wipe σ (own.map (·.2))) H' s' ∧ tn i s'.heap ∧ (∀ b ∈ fp, H' b = none) ∧ W i m H' := fun {s' H'} I' nx => by
        obtain ⟨m', hm, w'⟩ := hNx H' nx
        have at' : ∀ b ∈ fp, ∀ o, s7.heap.get? b = some o → s'.heap.get? b = some o ∧ H' b = none := fun b hb o e => by
          have z := I'.pin (b, o) (List.mem_append_right _ (List.mem_append_right _ (mem_pinsAt hb e)))
          exact ⟨z.1, z.2.1⟩
        have ln : (wipe σ (own.map (·.2))).length = σ8.length := by rw [← hw8, wipe_length]
        refine ⟨m', hm, i + 1, H', (I'.unpinned (pins := [])).weak ln (fun j v e => ?_), T.keep _ _ _ t7 fun b hb o e => (at' b hb o e).1, fun b hb => ?_, w'⟩
        · rw [← hw8] at e
          exact (wipe_some e).1
        · obtain ⟨o, e, _⟩ := T.obj _ _ t7 b hb
          exact (at' b hb o e).2
      cases b with
      | false =>
        simp only [Bool.false_eq_true, if_false] at q9 ⊢
        exact fin I9 q9
      | true =>
        simp only [if_true] at q9 ⊢
        refine thnF (pe.run _ s9 σ8 H9 _ I9 q9) fun z s10 ⟨yv, H10, I10, r10, acc, hD10, hz10, nx⟩ => ?_
        exact app_ok (X := bk X p s3 H3 sc ce fp) I10 hD10 hz10 r10 fun s11 I11 => fin I11 nx
  exact codeAny_compStart_list loop (T.self X.A 0 _ _ _ t4 loop)
/-- such a comprehension as a value -/
theorem pe_lcH {el tg it0 : Expr} {cs : List Expr} {sc : Scope} {own : List (Str × Nat)} {pos : Pos} {wi : TI} {g : TG} {tt : TT} {te : TE}
    (hot : Hot1 X.A p) (hp : p ∈ X.pn) (hN : X.N.Nodup) (hi : PIH X tg it0 wi) (ok : BlkOk X.N X.env.scope sc own)
    (hg : ∀ (s : Shared) (H : Hp) (C : Addr) (cl : List (Str × Addr)) (fp : List Addr), PG (bk X p s H sc (compEnvC sc cl C X.env) fp) tg g)
    (ht : ∀ (s : Shared) (H : Hp) (C : Addr) (cl : List (Str × Addr)) (fp : List Addr), PTs (bk X p s H sc (compEnvC sc cl C X.env) fp) cs tt)
    (he : ∀ (s : Shared) (H : Hp) (C : Addr) (cl : List (Str × Addr)) (fp : List Addr), PE (bk X p s H sc (compEnvC sc cl C X.env) fp) el te)
    (hs : ∀ x, foldedSetIterable it0 X.env x = pure x := by intro _; rfl) :
    PE X (.ListComp el [⟨tg, it0, cs, 0⟩] sc pos) (tLc wi g tt te (own.map (·.2))) := by
  refine ⟨fun pins s σ H Q I h => ?_⟩
  rw [eval_ListComp]
  refine lcH_core hot hp hN I hi ok hg ht he hs h fun D C s' m H' I' q hn f => ⟨m, hn, fun h'' sb => ?_⟩
  obtain ⟨f0, f1, _, f3, f4, f5⟩ := f
  exact ⟨.ref D, H', I'.turned (t' := s'.toks) (fun b o hb e => (sb.2 b hb).trans e) f0 f1 f3 f4 f5, rfl, q⟩
/-- isinstance of the pinned exception of class D0 -/
theorem call_isP {a D0 : Addr} {oe : Obj} (hp : (a, oe) ∈ X.pn) (C : ExcC X.K D0) (hz : Zc (.ref D0) none oe) (hf : ∃ vs, oe.data = .fields vs) : CallR X (.builtin "isinstance") (rIsE X.K D0 a) := by
  intro pins s σ H xs us Q I r h
  obtain ⟨c, cv, b, rfl, hcv, e, q⟩ := h
  obtain ⟨u1, u2, rfl, r1, r2⟩ := vals2 r
  cases r1
  have ec := hcv _ r2
  subst ec
  have hget := (I.pin (a, oe) (List.mem_append_left _ hp)).1
  obtain ⟨vs, hv⟩ := hf
  have J : PySem.W.InstAt s.heap a oe D0 none := by
    obtain ⟨oc, od, oda, osl⟩ := oe
    obtain ⟨h1, h2⟩ := hz
    dsimp only at h1 h2 hv
    subst h1 h2 hv
    exact ⟨hget, rfl, rfl, trivial⟩
  refine PySem.W.kia_one (PySem.W.handS_kitx_exc C.hg C.hk C.hs C.hd C.ha C.hn C.ht C.hm) I.kIn J e (fun z => nomatch z) fun tk => ?_
  exact ⟨.bl b, H, I.kept (t' := tk) fun _ _ z => z, rfl, q⟩
end
end Px

set_option Elab.async false
set_option linter.all false
set_option autoImplicit false
set_option maxRecDepth 100000
set_option maxHeartbeats 4000000
/-! A def that an except suite calls with the exception it holds. -/
namespace Px
open PySem PySem.Spec PyProof.Rows L2 L2H
abbrev SpE := Addr → Value → Option Addr → Sp
structure FnE (P : Program) (w : World) (K : PySem.W.Frag) (mg : Str → Option Value) (base : Heap) (CX : CXT) (k : Nat) (f : Addr) (fd : FuncData) (ps : List Str) (sp : SpE) : Prop where
  len : ∀ a cls d vs H Q E, sp a cls d vs H Q E → vs.length = ps.length
  run : ∀ (A : Around) (outer : List Env) (s : Shared) (H : Hp) (args : Args) (us : List Value) (vs : List V) (Q : VK) (E : XK) (p : Addr × Obj) (cls : Value) (d : Option Addr),
    RoomH k A → Hot1 A p → Zc cls d p.2 → PinOk outer H s p → Env0 P w K mg base A outer s H → BindsTo s fd args (ps.zip us) → Vals vs us → sp p.1 cls d vs H Q E →
    codeAny (model P w) A (.call (.ref f) args) (CR CX outer P w H s Q E) s
theorem fnE_of {CX : CXT} {P : Program} {w : World} {K : PySem.W.Frag} {mg : Str → Option Value} {base : Heap} {k : Nat} {f : Addr} {nm qn : Str} {pr : Arguments} {bd : List Stmt} {sc : Scope} {dV kV doc pm cdv ct oc : Value} {an od : Option Addr}
    {osl : Array (Option Value)} {N ps : List Str} {sp : SpE} (lk : K.lookup f = some ⟨oc, od, .func (PySem.W.fnOf nm qn pr bd sc dV kV doc pm an cdv ct), osl⟩) (hcd : PySem.W.codeIn K cdv qn = true) (S : FnScope N ps sc)
    (len : ∀ a cls d vs H Q E, sp a cls d vs H Q E → vs.length = ps.length)
    (hbody : ∀ (A : Around) (outer : List Env) (s : Shared) (H : Hp) (vs : List V) (Q : VK) (E : XK) (p : Addr × Obj) (cls : Value) (d : Option Addr), Hot1 A p → Zc cls d p.2 → RoomH k (A.deeper (envOfC qn sc s.heap.objs.size f cdv)) → sp p.1 cls d vs H Q E →
      ∃ t, PSs (cxH CX P w K mg base N qn sc f cdv A outer s H E p) bd t ∧ t { nx := fun _ H' => Q .non H', rt := Q } (L2.start N vs) H) :
    FnE P w K mg base CX (k + 1) f (PySem.W.fnOf nm qn pr bd sc dV kV doc pm an cdv ct) ps sp := by
  refine ⟨len, fun A outer s H args us vs Q E p cls d hr hot hz hpin e0 hb r hsp => ?_⟩
  have kin : K.In s.heap := e0.mod.kin.keeps fun b o e => (e0.bs b o e).1
  have lim : s.heap.NoLimit := e0.mod.nolimit.keeps fun b o e => (e0.bs b o e).1
  refine codeAny_call_function hr.depth (kin _ _ lk) rfl S.co S.gen rfl (PySem.W.codeRec_of kin hcd) (hb _ _ _ _ ?_)
  refine wpAny_newFunctionEnv_cells S.kind ?_ fun env he s1 x => ?_
  · intro y hy
    refine (S.par y.1 (List.of_mem_zip (show (y.1, y.2) ∈ ps.zip us from hy)).1).elim Or.inl fun q => Or.inr ⟨q, ?_⟩
    exact PySem.W.cellsFrom_some _ _ _ (.inl q)
  · subst he
    refine ⟨lim.keeps x.toInCall.keep, codeAny_func ?_⟩
    obtain ⟨t, ht, hq⟩ := hbody A outer s H vs Q E p cls d hot hz (hr.deeper _) hsp
    have I := inv_startH (CX := CX) (E := E) S hpin e0 (len _ _ _ _ _ _ _ hsp) r x
    refine wpAny_mono (ht.run [] s1 (L2.start N vs) H _ I hq) (fun fl s' hs => ?_) fun _ _ z => z
    cases fl with
    | ret u =>
      obtain ⟨v, σ', H', J, rv, q⟩ := hs
      exact ⟨v, H', J.os, J.bare, J.base, J.hok, rv, q⟩
    | next =>
      obtain ⟨σ', H', J, q⟩ := hs
      exact ⟨V.non, H', J.os, J.bare, J.base, J.hok, rfl, q⟩
    | brk =>
      obtain ⟨_, _, _, q⟩ := hs
      exact q.elim
    | cont =>
      obtain ⟨_, _, _, q⟩ := hs
      exact q.elim
/-- such a call in the suite that holds the exception (nothing leaves the callee) -/
theorem pe_callE {X : Cx} {a : Addr} {oe : Obj} {pn : List (Addr × Obj)} {cls : Value} {d : Option Addr} {k : Nat} {f : Addr} {fd : FuncData} {ps : List Str} {sp : SpE} {x : Str} {q pos : Pos} {e : Expr} {es : List Expr} {t : TA}
    (hz : L2N.Zn cls d oe) (hf : ∃ vs, oe.data = .fields vs) (F : FnE X.prog X.w X.K X.mg X.base CX0 k f fd ps sp) (hr : Room k X.A)
    (hg : Gl (X.suite a ((a, oe) :: pn)) x) (hm : X.mg x = some (.ref f)) (hk : PySem.W.keepIn X.K (.ref f) = true) (hb : Binds X.K fd ps [])
    (ha : PA (X.suite a ((a, oe) :: pn)) (e :: es) t) (hdb : (x == ("__debug__" : Str)) = false := by decide)
    (hst : starEach (e :: es) X.env = (false, eval e X.env) :: starEach es X.env := by rfl) (hpl : (backTo pos (starEach es X.env)).any (·.1) = false := by rfl) :
    PE (X.suite a ((a, oe) :: pn)) (.Call (.Name x q) (e :: es) [] pos) (tCall (sp a cls d) [] E0 t) := by
  refine ⟨fun pins s σ H Q I h => ?_⟩
  refine wpAny_Call_Name_kw (ld_glob I hg hm ?_ hdb)
  refine PySem.W.callWith_K (h₀ := X.base) I.ok.mod.kin hk (thn (ha.run pos pins s σ H _ I h) fun us s1 hh => ?_) hst hpl
  obtain ⟨vs, H1, I1, r, z⟩ := hh
  rw [List.append_nil] at z
  refine ⟨I1.kIn, ?_⟩
  have P1 := I1.pin (a, oe) (List.mem_append_left _ List.mem_cons_self)
  have hpin : PinOk X.stack H1 s1 (a, oe) := ⟨P1.1, P1.2.1, fun hm => (List.mem_cons.mp (I1.stkSub a hm)).elim P1.2.2.1 P1.2.2.2.1, P1.2.2.2.2⟩
  have hl : us.length = ps.length := by rw [← r.length]; exact F.len _ _ _ _ _ _ _ z
  have b := hb s1 us I1.kIn (by rw [List.append_nil]; exact hl)
  rw [List.append_nil] at b
  obtain ⟨ws, hw⟩ := hf
  have hot : Hot1 (X.A.mark (some (.ref a))) (a, oe) := ⟨rfl, ws, hw, hz.2.2 ws hw⟩
  refine wpAny_call (codeAny_mono (F.run (X.A.mark (some (.ref a))) X.stack s1 H1 ⟨us, []⟩ us vs Q E0 (a, oe) cls d ⟨hr.dp, hr.un⟩ hot hz.zc hpin I1.env0 b r z) fun rs s' hq => ?_)
  cases rs with
  | error e => exact False.elim (show CX0 X.stack H1 s1 E0 e s' from hq)
  | ok fl =>
    cases fl with
    | ret u => exact I1.after hq
    | next => exact False.elim hq
    | brk => exact False.elim hq
    | cont => exact False.elim hq
end Px

set_option Elab.async false
set_option linter.all false
set_option autoImplicit false
set_option maxRecDepth 100000
set_option maxHeartbeats 4000000
/-! Defs that run where no repr is under way (A.guards = some []). -/
namespace Px
open PySem PySem.Spec PyProof.Rows L2
structure FnU (P : Program) (w : World) (K : PySem.W.Frag) (mg : Str → Option Value) (base : Heap) (CX : CXT) (k : Nat) (f : Addr) (fd : FuncData) (ps : List Str) (sp : Sp) : Prop where
  len : ∀ vs H Q E, sp vs H Q E → vs.length = ps.length
  run : ∀ (A : Around) (outer : List Env) (s : Shared) (H : Hp) (args : Args) (us : List Value) (vs : List V) (Q : VK) (E : XK), Room k A → A.guards = some [] → Env0 P w K mg base A outer s H → BindsTo s fd args (ps.zip us) → Vals vs us → sp vs H Q E →
    codeAny (model P w) A (.call (.ref f) args) (CR CX outer P w H s Q E) s
theorem FnU.mono {P : Program} {w : World} {K : PySem.W.Frag} {mg : Str → Option Value} {base : Heap} {CX : CXT} {j k : Nat} {f : Addr} {fd : FuncData} {ps : List Str} {sp : Sp} (F : FnU P w K mg base CX j f fd ps sp) (h : j ≤ k) :
    FnU P w K mg base CX k f fd ps sp := ⟨F.len, fun A outer s H args us vs Q E hr => F.run A outer s H args us vs Q E (hr.mono h)⟩
theorem fnU_of {CX : CXT} {P : Program} {w : World} {K : PySem.W.Frag} {mg : Str → Option Value} {base : Heap} {k : Nat} {f : Addr} {name qual : Str} {params : Arguments} {body : List Stmt} {scope : Scope} {dV kV doc pm cdv ct oc : Value} {an od : Option Addr}
    {osl : Array (Option Value)} {N ps : List Str} {sp : Sp} (lk : K.lookup f = some ⟨oc, od, .func (PySem.W.fnOf name qual params body scope dV kV doc pm an cdv ct), osl⟩) (hcd : PySem.W.codeIn K cdv qual = true) (S : FnScope N ps scope)
    (len : ∀ vs H Q E, sp vs H Q E → vs.length = ps.length)
    (hbody : ∀ (A : Around) (outer : List Env) (s : Shared) (H : Hp) (vs : List V) (Q : VK) (E : XK), Room k (A.deeper (envOfC qual scope s.heap.objs.size f cdv)) → (A.deeper (envOfC qual scope s.heap.objs.size f cdv)).guards = some [] → sp vs H Q E →
      ∃ t, PSs (cxOf CX P w K mg base N qual scope f cdv A outer s H E) body t ∧ t { nx := fun _ H' => Q .non H', rt := Q } (start N vs) H) :
    FnU P w K mg base CX (k + 1) f (PySem.W.fnOf name qual params body scope dV kV doc pm an cdv ct) ps sp := by
  refine ⟨len, fun A outer s H args us vs Q E hr hg e0 hb r hsp => ?_⟩
  have hl := len _ _ _ _ hsp
  have KX : K.In s.heap := e0.mod.kin.keeps fun b o e => (e0.bs b o e).1
  have lim : s.heap.NoLimit := e0.mod.nolimit.keeps fun b o e => (e0.bs b o e).1
  have hkind : ∀ y ∈ ps.zip us, scope.names.lookup y.1 = some .local ∨ (scope.names.lookup y.1 = some .cell ∧ ((cellsFrom (s.heap.objs.size + 1) scope.names []).lookup y.1).isSome = true) := fun ⟨n, v⟩ hy => by
    rcases S.par n (List.of_mem_zip hy).1 with q | q
    · exact .inl q
    · exact .inr ⟨q, PySem.W.cellsFrom_some _ _ _ (.inl q)⟩
  refine codeAny_call_function hr.depth (KX _ _ lk) rfl S.co S.gen rfl (PySem.W.codeRec_of KX hcd) (hb _ _ _ _ ?_)
  refine wpAny_newFunctionEnv_cells S.kind hkind fun env he s1 x => ?_
  subst he
  refine ⟨lim.keeps x.toInCall.keep, codeAny_func ?_⟩
  obtain ⟨t, ht, hq⟩ := hbody A outer s H vs Q E (hr.deeper _) hg hsp
  have I : Inv (cxOf CX P w K mg base N qual scope f cdv A outer s H E) [] (start N vs) H s1 := inv_start S hr.hd e0 hl r x
  refine wpAny_mono (ht.run [] s1 (start N vs) H _ I hq) (fun fl s' hs => ?_) fun e s' hs => hs
  have fin : ∀ {σ' : L2.St} {H' : Hp} {v : V} {u : Value}, Inv (cxOf CX P w K mg base N qual scope f cdv A outer s H E) [] σ' H' s' → RelV v u → Q v H' → CE outer P w H s Q u s' :=
    fun {σ' H' v u} J rv q => ⟨v, H', J.os, J.bare, J.base, J.hok, rv, q⟩
  cases fl with
  | ret u =>
    obtain ⟨v, σ', H', J, rv, q⟩ := hs
    exact fin J rv q
  | next =>
    obtain ⟨σ', H', J, q⟩ := hs
    exact fin (v := V.non) (u := Value.none) J rfl q
  | brk =>
    obtain ⟨_, _, _, q⟩ := hs
    exact False.elim q
  | cont =>
    obtain ⟨_, _, _, q⟩ := hs
    exact False.elim q
section
variable {P : Program} {w : World} {K : PySem.W.Frag} {mg : Str → Option Value} {base : Heap} {x qual : Str} {params : Arguments} {body : List Stmt} {scope : Scope} {dvs : List V} {kws : List (Str × V)} {f : Addr} {fd : FuncData}
theorem okU {CX : CXT} {N ps : List Str} {k : Nat} {sp : Sp} (F : FunD K x qual params body scope dvs kws f fd) (S : FnScope N ps scope) (len : ∀ vs H Q E, sp vs H Q E → vs.length = ps.length)
    (hbody : ∀ (cdv : Value) (A : Around) (outer : List Env) (s : Shared) (H : Hp) (vs : List V) (Q : VK) (E : XK), Room k (A.deeper (envOfC qual scope s.heap.objs.size f cdv)) → (A.deeper (envOfC qual scope s.heap.objs.size f cdv)).guards = some [] → sp vs H Q E →
      ∃ t, PSs (cxOf CX P w K mg base N qual scope f cdv A outer s H E) body t ∧ t { nx := fun _ H' => Q .non H', rt := Q } (start N vs) H) : FnU P w K mg base CX (k + 1) f fd ps sp := by
  obtain ⟨oc, od, dV, kV, doc, pm, an, cdv, ct, osl, rfl, lk, hcd, _, _⟩ := F.ex
  exact fnU_of lk hcd S len fun A outer s H vs Q E hr hg hsp => hbody cdv A outer s H vs Q E hr hg hsp
end
section
variable {X : Cx} {CX : CXT} {k : Nat} {f C : Addr} {fd : FuncData} {ps : List Str} {sp : Sp} {E : L2.St → XK} {x m : Str} {p pos apos : Pos} {e o : Expr} {es : List Expr} {ta : TE} {t : TA}
theorem run_fnU {pins : List (Addr × Obj)} {σ : L2.St} {H : Hp} {s : Shared} {Q : VK} {us : List Value} {vs : List V} (F : FnU X.prog X.w X.K X.mg X.base CX k f fd ps sp) (hr : Room k X.A) (hu : X.A.guards = some []) (hb : Binds X.K fd ps []) (hx : PassesAt CX X σ (E σ))
    (I : Inv X pins σ H s) (r : Vals vs us) (h : sp vs H Q (E σ)) : wpAny (model X.prog X.w) X.A (call (.ref f) us) (EP X pins σ Q) X.xe s := by
  have hl : us.length = ps.length := by rw [← r.length]; exact F.len _ _ _ _ h
  have b := hb s us I.kIn (by rw [List.append_nil]; exact hl)
  rw [List.append_nil] at b
  refine wpAny_call (codeAny_mono (F.run X.A X.stack s H ⟨us, []⟩ us vs Q (E σ) hr hu I.env0 b r h) fun r s' hq => ?_)
  cases r with
  | error e => exact hx pins H s e s' I hq
  | ok fl =>
    cases fl with
    | ret u => exact I.after hq
    | next => exact False.elim hq
    | brk => exact False.elim hq
    | cont => exact False.elim hq
theorem pe_callU (F : FnU X.prog X.w X.K X.mg X.base CX k f fd ps sp) (hr : Room k X.A) (hu : X.A.guards = some []) (hg : Gl X x) (hm : X.mg x = some (.ref f)) (hk : PySem.W.keepIn X.K (.ref f) = true) (hb : Binds X.K fd ps []) (hx : ∀ σ, PassesAt CX X σ (E σ))
    (ha : PA X (e :: es) t) (hdb : (x == ("__debug__" : Str)) = false := by decide) (he : starEach (e :: es) X.env = (false, eval e X.env) :: starEach es X.env := by rfl) (hpl : (backTo pos (starEach es X.env)).any (·.1) = false := by rfl) :
    PE X (.Call (.Name x p) (e :: es) [] pos) (tCallS sp E t) := by
  refine ⟨fun pins s σ H Q I h => ?_⟩
  refine wpAny_Call_Name_kw (ld_glob I hg hm ?_ hdb)
  refine PySem.W.callWith_K (h₀ := X.base) I.ok.mod.kin hk (thn (ha.run pos pins s σ H _ I h) fun us s1 ⟨vs, H1, I1, r, q⟩ => ⟨I1.kIn, ?_⟩) he hpl
  exact run_fnU F hr hu hb (hx σ) I1 r q
/-- o.m(e, ..), what leaves it told by the slots -/
def tMethU (C : Addr) (m : Str) (sp : Sp) (E : L2.St → XK) (ta : TE) (t : TA) : TE := fun σ H Q => ta σ H fun x H1 => ∃ a dx fs, x = .ref a ∧ H1 a = some (.ins C dx fs) ∧ fs.lookup m = none ∧ t σ H1 fun vs H2 => sp (x :: vs) H2 Q (E σ)
theorem pe_methU {pl : Sem Bool} (he : PE X o ta) (c : Cls X.K C) (hm : Meth X.K C m f) (F : FnU X.prog X.w X.K X.mg X.base CX k f fd ps sp) (hr : Room k X.A) (hu : X.A.guards = some []) (hb : Binds X.K fd ps []) (hx : ∀ σ, PassesAt CX X σ (E σ)) (ha : PA X (e :: es) t)
    (hst : starEach (e :: es) X.env = (false, eval e X.env) :: starEach es X.env := by rfl) (hpl : (backTo pos (starEach es X.env)).any (·.1) = false := by rfl)
    (ht : eval (.Call (.Attribute o m apos) (e :: es) [] pos) X.env = (do
      let ov ← eval o X.env
      standAt apos.atName
      let (f, first) ← holding [ov] (getMethod ov m pl)
      callWith pos f first (backTo pos (starEach (e :: es) X.env)) (backToKw pos (keywordEach [] X.env))) := by rfl) :
    PE X (.Call (.Attribute o m apos) (e :: es) [] pos) (tMethU C m sp E ta t) := by
  refine ⟨fun pins s σ H Q I h => ?_⟩
  refine PySem.W.methodCall_KW (pl := pl) (thn (he.run pins s σ H _ I h) fun u s1 ⟨x, H1, I1, rx, a, dx, fs, ex, ea, l, q⟩ => ?_) ht
  subst ex
  obtain rfl : u = Value.ref a := rx
  refine getmeth_ok I1 ea c hm l ?_
  refine PySem.W.callWith_K (first := [.ref a]) (h₀ := X.base) I.ok.mod.kin hm.kp (thn (ha.run pos pins s1 σ H1 _ I1 q) fun us s2 ⟨vs, H2, I2, r, q2⟩ => ⟨I2.kIn, ?_⟩) hst hpl
  exact run_fnU (us := .ref a :: us) (vs := .ref a :: vs) F hr hu hb (hx σ) I2 (.cons rfl r) q2
theorem pe_methU0 {pl : Sem Bool} (he : PE X o ta) (c : Cls X.K C) (hm : Meth X.K C m f) (F : FnU X.prog X.w X.K X.mg X.base CX k f fd ps sp) (hr : Room k X.A) (hu : X.A.guards = some []) (hb : Binds X.K fd ps []) (hx : ∀ σ, PassesAt CX X σ (E σ))
    (ht : eval (.Call (.Attribute o m apos) [] [] pos) X.env = (do
      let ov ← eval o X.env
      standAt apos.atName
      let (f, first) ← holding [ov] (getMethod ov m pl)
      callWith pos f first (backTo pos (starEach [] X.env)) (backToKw pos (keywordEach [] X.env))) := by rfl) :
    PE X (.Call (.Attribute o m apos) [] [] pos) (tMethU C m sp E ta tNil) := by
  refine ⟨fun pins s σ H Q I h => ?_⟩
  refine PySem.W.methodCall_KW (pl := pl) (thn (he.run pins s σ H _ I h) fun u s1 ⟨x, H1, I1, rx, a, dx, fs, ex, ea, l, q⟩ => ?_) ht
  subst ex
  obtain rfl : u = Value.ref a := rx
  refine getmeth_ok I1 ea c hm l ?_
  exact PySem.W.callWith_K0 (first := [.ref a]) I1.kIn hm.kp (run_fnU (us := [.ref a]) (vs := [.ref a]) F hr hu hb (hx σ) I1 (.cons rfl .nil) q)
end
end Px

set_option Elab.async false
set_option linter.all false
set_option autoImplicit false
set_option maxRecDepth 100000
set_option maxHeartbeats 4000000
namespace Px
open PySem PySem.Spec PyProof.Rows L2
section
variable {X : Cx} {CX : CXT} {k : Nat} {f C : Addr} {fd : FuncData} {ps : List Str} {sp : Sp} {E : L2.St → XK} {x m : Str} {p pos apos : Pos} {e o : Expr} {es : List Expr} {ta : TE} {t : TA}
/-- C(..), where no repr is under way -/
def tMakeU (C : Addr) (sp : Sp) (E : L2.St → XK) (t : TA) : TE := fun σ H Q => t σ H fun vs H1 => ∀ x dx, H1 x = none → H1 dx = none → dx ≠ x →
  sp (.ref x :: vs) (upd (upd H1 dx (.own x)) x (.ins C dx [])) (fun v H2 => v = .non ∧ Q (.ref x) H2) (E σ)
theorem make_guards {A : Around} {C : Addr} {us : List Value} {kw : List (Str × Value)} : (A.under (.builtin "type.__call__" ⟨.ref C :: us, kw⟩)).guards = A.guards := by
  have h : (Code.builtin "type.__call__" ⟨.ref C :: us, kw⟩).guards = [] := by
    simp [Code.guards, Code.isGuard, guardIds]
  unfold Around.under
  dsimp only
  rw [h]
  cases A.guards <;> simp [pushGuards]
theorem run_makeU {pins : List (Addr × Obj)} {σ : L2.St} {H : Hp} {s : Shared} {Q : VK} {us : List Value} {vs : List V} (M : Mk X.K C f) (F : FnU X.prog X.w X.K X.mg X.base CX k f fd ps sp) (hr : Room (k + 1) X.A) (hu : X.A.guards = some []) (hb : Binds X.K fd ps [])
    (hx : PassesAt CX X σ (E σ)) (I : Inv X pins σ H s) (r : Vals vs us)
    (h : ∀ x dx, H x = none → H dx = none → dx ≠ x → sp (.ref x :: vs) (upd (upd H dx (.own x)) x (.ins C dx [])) (fun v H2 => v = .non ∧ Q (.ref x) H2) (E σ)) :
    wpAny (model X.prog X.w) X.A (call (.ref C) us) (EP X pins σ Q) X.xe s := by
  have hq := h (s.heap.objs.size + 1) s.heap.objs.size (I.hok.fresh (Nat.le_succ _)) (I.hok.fresh (Nat.le_refl _)) (Nat.ne_of_lt (Nat.lt_succ_self _))
  have I2 := Inv.made (C := C) I
  have r2 : Vals (V.ref (s.heap.objs.size + 1) :: vs) (Value.ref (s.heap.objs.size + 1) :: us) := .cons rfl r
  have hl : (Value.ref (s.heap.objs.size + 1) :: us).length = ps.length := by
    have e := r2.length
    rw [F.len _ _ _ _ hq] at e
    exact e.symm
  have b := hb _ (Value.ref (s.heap.objs.size + 1) :: us) I2.kIn (by rw [List.append_nil]; exact hl)
  rw [List.append_nil] at b
  refine wpAny_call (make_map (f := f) I.kIn M.makes M.init (beq_iff_eq.mp M.fn) (codeAny_mono (F.run _ X.stack _ _ ⟨Value.ref (s.heap.objs.size + 1) :: us, []⟩ (Value.ref (s.heap.objs.size + 1) :: us) _ _ (E σ) (hr.make C us [])
    (make_guards.trans hu) (I2.env0.make C us []) b r2 hq) fun r s' hq' => ?_))
  cases r with
  | error e => exact hx pins _ _ e s' I2 hq'
  | ok fl =>
    cases fl with
    | ret u =>
      obtain ⟨v, H', I3, rv, ev, q3⟩ := I2.after hq'
      subst ev
      exact ⟨rv, ⟨V.ref (s.heap.objs.size + 1), H', I3, rfl, q3⟩⟩
    | next => exact False.elim hq'
    | brk => exact False.elim hq'
    | cont => exact False.elim hq'
theorem pe_makeU (M : Mk X.K C f) (F : FnU X.prog X.w X.K X.mg X.base CX k f fd ps sp) (hr : Room (k + 1) X.A) (hu : X.A.guards = some []) (hg : Gl X x) (hm : X.mg x = some (.ref C)) (hb : Binds X.K fd ps []) (hx : ∀ σ, PassesAt CX X σ (E σ))
    (ha : PA X (e :: es) t) (hdb : (x == ("__debug__" : Str)) = false := by decide) (he : starEach (e :: es) X.env = (false, eval e X.env) :: starEach es X.env := by rfl) (hpl : (backTo pos (starEach es X.env)).any (·.1) = false := by rfl) :
    PE X (.Call (.Name x p) (e :: es) [] pos) (tMakeU C sp E t) := by
  refine ⟨fun pins s σ H Q I h => ?_⟩
  refine wpAny_Call_Name_kw (ld_glob I hg hm ?_ hdb)
  refine PySem.W.callWith_K (h₀ := X.base) I.ok.mod.kin M.kp (thn (ha.run pos pins s σ H _ I h) fun us s1 ⟨vs, H1, I1, r, q⟩ => ⟨I1.kIn, ?_⟩) he hpl
  exact run_makeU M F hr hu hb (hx σ) I1 r q
theorem pe_makeU0 (M : Mk X.K C f) (F : FnU X.prog X.w X.K X.mg X.base CX k f fd ps sp) (hr : Room (k + 1) X.A) (hu : X.A.guards = some []) (hg : Gl X x) (hm : X.mg x = some (.ref C)) (hb : Binds X.K fd ps []) (hx : ∀ σ, PassesAt CX X σ (E σ))
    (hdb : (x == ("__debug__" : Str)) = false := by decide) : PE X (.Call (.Name x p) [] [] pos) (tMakeU C sp E tNil) := by
  refine ⟨fun pins s σ H Q I h => ?_⟩
  refine wpAny_Call_Name_kw (ld_glob I hg hm ?_ hdb)
  exact PySem.W.callWith_K0 I.kIn M.kp (run_makeU (us := []) M F hr hu hb (hx σ) I .nil h)
/-! ### repr of data -/
def rRepr (K : PySem.W.Frag) : List V → Hp → VK → Prop := fun xs H Q => ∃ x d, xs = [x] ∧ Dp K H x d ∧ d.showable = true ∧ d.hasDict = false ∧ d.depth ≤ 60 ∧ d.shown.length ≤ sizeLine ∧ Q (.str d.shown) H
theorem call_reprL (hu : X.A.guards = some []) (hr : X.A.units + 64 < cLine) : CallR X (.builtin "repr") (fun xs H Q => ∃ a d, xs = [.ref a] ∧ Dp X.K H (.ref a) d ∧ d.showable = true ∧ d.hasDict = false ∧ d.depth ≤ 60 ∧ d.shown.length ≤ sizeLine ∧ Q (.str d.shown) H) := by
  intro pins s σ H xs us Q I r h
  obtain ⟨a, d, rfl, hd, h1, h2, h3, h4, q⟩ := h
  obtain ⟨u, rfl, ru⟩ := vals1 r
  obtain ⟨as, hr2⟩ := Dp.reads I d _ _ hd ru
  obtain rfl : u = Value.ref a := ru
  refine repr_of_reads' hr2 h1 (fun z => by rw [h2] at z; cases z) hu (by omega) (fun b o e => e) (fun h' u tk hk => ?_) h4
  exact ⟨.str d.shown, H, I.kept (t' := tk) hk, ⟨_, rfl⟩, q⟩
end
end Px

set_option Elab.async false
set_option linter.all false
set_option autoImplicit false
set_option maxRecDepth 100000
set_option maxHeartbeats 4000000
namespace Px
open PySem PySem.Spec PyProof.Rows L2
/-- repr of lists, tuples, ints and None -/
def rReprG (K : PySem.W.Frag) : List V → Hp → VK → Prop := fun xs H Q =>
  (∃ a d, xs = [.ref a] ∧ Dp K H (.ref a) d ∧ d.showable = true ∧ d.hasDict = false ∧ d.depth ≤ 60 ∧ d.shown.length ≤ sizeLine ∧ Q (.str d.shown) H) ∨
  (∃ i, xs = [.int i] ∧ i.natAbs.log2 < 1920 ∧ Q (.str (toString i)) H) ∨ (xs = [.non] ∧ Q (.str "None") H)
theorem call_reprG {X : Cx} (hu : X.A.guards = some []) (hr : X.A.units + 64 < cLine) : CallR X (.builtin "repr") (rReprG X.K) := by
  intro pins s σ H xs us Q I r h
  rcases h with h | h | ⟨rfl, q⟩
  · exact call_reprL hu hr pins s σ H xs us Q I r h
  · exact SkE.call_repr_int pins s σ H xs us Q I r h
  · obtain ⟨u, rfl, ru⟩ := vals1 r
    cases ru
    exact PySem.P.repr_of_none ⟨.str _, H, I.tok _, ⟨_, rfl⟩, q⟩
end Px

set_option Elab.async false
set_option linter.all false
set_option maxRecDepth 100000
set_option maxHeartbeats 1000000
namespace Px
section
open PySem PySem.AutoSeq1
theorem add_gen (l : Addr) (items : Array Value) (n : Nat) (b : Addr) (items2 : Array Value) (n2 : Nat) (d1 d2 : Option Addr) (s1 s2 : Array (Option Value)) (hc0 : items.size + items2.size ≤ sizeLine) :
    Meets (Builtin.«list.__add__» ⟨[.ref l, .ref b], []⟩) (fun _ R s => s.heap.get? l = some { cls := .type "list", dict := d1, data := .seq items n, slots := s1 } ∧ s.heap.get? b = some { cls := .type "list", dict := d2, data := .seq items2 n2, slots := s2 } ∧ R (.ok (.ret (Value.ref s.heap.objs.size))) { s with heap := s.heap.push { cls := Value.type "list", data := Data.seq (items ++ items2) }, toks := s.toks }) :=
  .of_wp fun prog w A R s h => by obtain ⟨hp, g, d, tk, os⟩ := s; obtain ⟨hl, hb, h⟩ := h; have f1 := idx_int; have f2 := sub_tuple_tuple; have f3 := sub_list_list; have f4 := sub_tuple_list; have f5 := sub_list_tuple; wp_walk using wpAny_loadPart' hl, wpAny_loadPart' hb; exact ⟨_, rfl, h⟩
end
open PySem PySem.Spec PyProof.Rows L2
/-! ### list + list, of any lists -/
def rCatS (K : PySem.W.Frag) : R2 := fun x y H Q => ∃ l b xs zs, x = .ref l ∧ y = .ref b ∧ SqL K H l xs ∧ SqL K H b zs ∧ xs.length + zs.length ≤ sizeLine ∧ ∀ p, H p = none → Q (.ref p) (upd H p (.lst (xs ++ zs)))
theorem op_catS {X : Cx} : OpR X (binaryOp .Add) (rCatS X.K) := by
  intro pins s σ H x y v u Q I rx ry h
  obtain ⟨l, b, xs, zs, rfl, rfl, hH, hB, hz, q⟩ := h
  cases rx
  cases ry
  obtain ⟨its, r, pl, hl⟩ := I.list hH
  obtain ⟨its2, r2, pl2, hl2⟩ := I.list hB
  obtain ⟨o, n, e, c, _, dd⟩ := pl
  obtain ⟨o2, n2, e2, c2, _, dd2⟩ := pl2
  obtain ⟨oc, od, oda, osl⟩ := o
  obtain ⟨oc2, od2, oda2, osl2⟩ := o2
  dsimp only at c c2 dd dd2
  subst c c2 dd dd2
  have hs : its.toArray.size + its2.toArray.size ≤ sizeLine := by
    rw [List.size_toArray, List.size_toArray, ← r.length, ← r2.length]
    exact hz
  refine concat_meets ⟨_, e, rfl⟩ ⟨_, e2, rfl⟩ noFill_list_add seq_list_add F.slot_list_add F.entry_list_add (F.args_list_add_2 _ _) (add_gen l its.toArray n b its2.toArray n2 od od2 osl osl2 hs) ⟨e, e2, ?_⟩
  have ea : its.toArray ++ its2.toArray = (its ++ its2).toArray := by simp
  rw [ea]
  exact ⟨.ref _, _, I.lnew (t' := s.toks) (r.append r2) (by rw [List.length_append]; omega), rfl, q _ I.fresh⟩
end Px

set_option Elab.async false
set_option linter.all false
set_option autoImplicit false
set_option maxRecDepth 100000
set_option maxHeartbeats 4000000
/-! for j, x in enumerate(reversed(xs)). -/
namespace Px
open PySem PySem.Spec PyProof.Rows L2
section
variable {prog : Program} {w : World} {A : Around} {E : Value → Shared → Prop} {s : Shared}
theorem next_rev_item {it l : Addr} {i : Nat} {items : Array Value} {x : Value} {Q : Value → Shared → Prop} (hit : s.heap.IsRevIter it l (i : Int)) (hl : s.heap.IsList l items) (hx : items[i]? = some x)
    (hQ : ∀ h', h'.IsRevIter it l ((i : Int) - 1) → Heap.SameBut it s.heap h' → Q x { s with heap := h' }) : wpAny (model prog w) A (Builtin.SmallTypes.nextOf (.ref it)) Q E s := by
  obtain ⟨o, ho, hc, hd⟩ := id hit
  obtain ⟨ol, hol, _, nl, hdl⟩ := hl
  unfold Builtin.SmallTypes.nextOf
  refine wpAny_bind (wpAny_callSpecial?_slot (name := Str.ofString "__next__") hit.typeIs F.slot_lri_next
    (wpAny_call_entry F.slot_lri_next hit.typeIs F.entry_lri_next ?_ (F.args_lri_next_1 _)))
  unfold Builtin.«list_reverseiterator.__next__»
  refine wpAny_bind (wpAny_of_eq (a := (Value.ref it, [])) rfl ?_)
  try dsimp only
  refine wpAny_bind (wpAny_field ho hd (x := rawInt (i : Int)) rfl ?_)
  show wpAny _ _ (if (i : Int) < 0 then _ else _) _ _ s
  rw [if_neg (by omega)]
  show wpAny _ _ (field (.ref it) 0 >>= _) _ _ s
  refine wpAny_bind (wpAny_field ho hd (x := .ref l) rfl ?_)
  show wpAny _ _ (seqItems? (.ref l) >>= _) _ _ s
  refine wpAny_bind (wpAny_seqItems hol hdl ?_)
  simp only [Int.toNat_natCast, hx]
  refine wpAny_bind (wpAny_setField ho hd (by simp) ?_)
  first
  | refine wpAny_pure ⟨x, rfl, wpAny_pure (hQ _ ?_ (Heap.SameBut.update ..))⟩
  | refine wpAny_bind (wpAny_pure (wpAny_pure ⟨x, rfl, wpAny_pure (hQ _ ?_ (Heap.SameBut.update ..))⟩))
  exact ⟨_, Heap.get?_update_self _ ho (Obj.isFreed_of_fields (Obj.data_mapFields hd _)), (Obj.cls_mapFields ..).trans hc, by
    rw [Obj.data_mapFields hd]; simp⟩
theorem next_rev_end {it l : Addr} {Q : Value → Shared → Prop} (hh : A.handled = none) (hit : s.heap.IsRevIter it l (-1))
    (hE : ∀ h' e, Heap.ExtBut it s.heap h' → (∃ o, h'.get? e = some o ∧ o.cls = .type "StopIteration") → E (.ref e) { s with heap := h' }) : wpAny (model prog w) A (Builtin.SmallTypes.nextOf (.ref it)) Q E s := by
  obtain ⟨o, ho, hc, hd⟩ := id hit
  unfold Builtin.SmallTypes.nextOf
  refine wpAny_bind (wpAny_callSpecial?_slot (name := Str.ofString "__next__") hit.typeIs F.slot_lri_next
    (wpAny_call_entry F.slot_lri_next hit.typeIs F.entry_lri_next ?_ (F.args_lri_next_1 _)))
  unfold Builtin.«list_reverseiterator.__next__»
  refine wpAny_bind (wpAny_of_eq (a := (Value.ref it, [])) rfl ?_)
  try dsimp only
  refine wpAny_bind (wpAny_field ho hd (x := rawInt (-1)) rfl ?_)
  show wpAny _ _ (if (-1 : Int) < 0 then _ else _) _ _ s
  rw [if_pos (by decide)]
  refine wpAny_bind (wpAny_rule ?_)
  first
  | show wpAny _ _ (newExc (.type "StopIteration") [] >>= _) _ _ _
  | (refine wpAny_bind ?_; show wpAny _ _ (newExc (.type "StopIteration") [] >>= _) _ _ _)
  refine wpAny_bind ?_
  simp only [newExc, newTuple]
  refine wpAny_bind (wpAny_newObj_type ?_ (by size_fits))
  refine wpAny_bind (m := firstArgMember _ _) (wpAny_of_eq (a := Value.none) (by first | rfl | (simp only [firstArgMember]; rfl)) ?_)
  refine wpAny_newObj_type ?_ (by size_fits)
  simp only [raiseNew]
  refine wpAny_bind (wpAny_handled ?_)
  first | rw [show A.in1.handled = none from hh] | rw [hh]
  refine wpAny_bind (wpAny_pure (wpAny_throw ?_))
  exact hE _ _ (((Heap.ExtBut.refl _ _).push _).push _) ⟨_, Heap.get?_push_size _ rfl, rfl⟩
end
theorem draws_rev {prog : Program} {w : World} {A : Around} (hh : A.handled = none) (it l : Addr) (hne : l ≠ it) (items : Array Value) :
    Draws prog w A it [it, l] items.size (fun i v => items[items.size - 1 - i]? = some v) (fun i h => i ≤ items.size ∧ h.IsRevIter it l ((items.size : Int) - 1 - (i : Int)) ∧ h.IsList l items) where
  live := fun _ _ st => let ⟨o, ho, _⟩ := st.2.1; ⟨o, ho⟩
  frame := fun _ _ _ st hk => ⟨st.1, st.2.1.at fun o e => hk it (by simp) o e, st.2.2.at fun o e => hk l (by simp) o e⟩
  item := fun i s Q E hi st hQ => by
    have e : (items.size : Int) - 1 - (i : Int) = ((items.size - 1 - i : Nat) : Int) := by omega
    have hit := st.2.1
    rw [e] at hit
    have hx : items[items.size - 1 - i]? = some (items[items.size - 1 - i]'(by omega)) := Array.getElem?_eq_getElem (by omega)
    refine next_rev_item hit st.2.2 hx fun h' hit' hs' => ?_
    have e2 : ((items.size - 1 - i : Nat) : Int) - 1 = (items.size : Int) - 1 - ((i + 1 : Nat) : Int) := by omega
    rw [e2] at hit'
    exact hQ _ h' s.toks hx ⟨hi, hit', st.2.2.extBut hs'.extBut hne⟩ hs'
  done := fun s Q E st hE => by
    have e : (items.size : Int) - 1 - (items.size : Int) = -1 := by omega
    have hit := st.2.1
    rw [e] at hit
    exact next_rev_end hh hit hE
/-! enumerate(it), it an iterator over a list from its end -/
set_option maxHeartbeats 1000000 in
theorem meets_enum_rev {l : Addr} (it : Addr) (i : Int) :
    Meets (Builtin.«enumerate.__new__» ⟨[.type "enumerate", .ref it], []⟩) (fun _ R s => s.heap.IsRevIter it l i ∧
      R (.ok (.ret (.ref s.heap.objs.size))) { s with heap := s.heap.push { cls := .type "enumerate", data := .fields #[.none, .bool false, .ref it, rawInt 0, .none, .none] } }) :=
  .of_wp fun prog w A R s h => by
    obtain ⟨hp, g, d, tk, os⟩ := s; obtain ⟨h1, h⟩ := h
    have hsub := sub_enumerate
    have q1 : ∀ {A' : Around} {E : Value → Shared → Prop} {Q : Value → Shared → Prop}, Q (.ref it) ⟨hp, g, d, tk, os⟩ → wpAny (model prog w) A' (pyIter (.ref it)) Q E ⟨hp, g, d, tk, os⟩ :=
      fun q => wpAny_pyIter_revIter h1 q
    wp_walk using q1
    refine wpAny_stack_any fun st => wpAny_pure ?_
    split
    · rename_i c _ _ _ _ _
      cases (c == Value.type "enumerate")
      · wp_walk using q1
        exact ⟨_, rfl, h⟩
      · wp_walk using q1
        exact ⟨_, rfl, h⟩
    · wp_walk using q1
      exact ⟨_, rfl, h⟩
end Px

set_option Elab.async false
set_option linter.all false
set_option autoImplicit false
set_option maxRecDepth 100000
set_option maxHeartbeats 4000000
namespace Px
open PySem PySem.Spec PyProof.Rows L2
section
variable {prog : Program} {w : World} {A : Around} {E : Value → Shared → Prop} {s : Shared}
theorem call_enum_rev {it l : Addr} {i : Int} {Q : Value → Shared → Prop} (hL : s.heap.IsRevIter it l i)
    (h : ∀ h', IsEnum h' s.heap.objs.size it 0 .none → h'.IsRevIter it l i → h'.objs.size = s.heap.objs.size + 1 →
      (∀ b o, s.heap.get? b = some o → h'.get? b = some o) → Q (.ref s.heap.objs.size) { s with heap := h' }) :
    wpAny (model prog w) A (call (.type "enumerate") [.ref it]) Q E s := by
  refine callType_new F.called_enumerate (by decide) (F.typeCall_enumerate_1 _) (F.newCall_enumerate_1 _) (fun obj => F.args_object_init_2 obj _) F.entry_enumerate_new
    (meets_enum_rev (l := l) it i) ⟨hL, ?_⟩
  show _ ∧ _
  have he : IsEnum (s.heap.push { cls := .type "enumerate", data := .fields #[.none, .bool false, .ref it, rawInt 0, .none, .none] }) s.heap.objs.size it 0 .none := Heap.get?_push_size _ rfl
  refine ⟨⟨_, he, rfl⟩, h _ he (hL.at fun o e => Heap.get?_push_of_some _ e) (Heap.size_push ..) fun b o x => Heap.get?_push_of_some _ x⟩
end
/-- the list at a (n items), from its end, each item in a new pair with its number -/
def Itw (K : PySem.W.Frag) (a : Addr) (n : Nat) : It :=
  ⟨fun i H => i < n ∧ ∃ (xs : List V), SqL K H a xs ∧ xs.length = n, fun i H v H' => ∃ T x, v = .ref T ∧ H T = none ∧ H' = upd H T (.tup [.int (i : Nat), x]) ∧ ∀ xs, SqL K H a xs → xs[n - 1 - i]? = some x, fun i H => i = n ∧ ∃ xs : List V, SqL K H a xs ∧ xs.length = n⟩
theorem turn_enumRev {P : Program} {w : World} {K : PySem.W.Frag} {elts : List Expr} {kk : Nat} {tpos : Pos} (a e it : Addr) (n : Nat) :
    Turn P w K (.Tuple elts kk tpos) (Itw K a n) [e, it] e (fun i h => (∃ old, IsEnum h e it ((i : Nat) : Int) old) ∧ i ≤ n ∧ h.IsRevIter it a ((n : Int) - 1 - (i : Nat)) ∧ e ≠ it) where
  mem := by simp
  obj := fun i h st b hb => by
    obtain ⟨⟨old, he⟩, _, ⟨o, ho, hc, hd⟩, _⟩ := st
    have e' : b = e ∨ b = it := by simpa using hb
    rcases e' with z | z
    · rw [z]; exact ⟨_, he, fun v q => nomatch q⟩
    · rw [z]; exact ⟨o, ho, fun v q => by rw [hd] at q; cases q⟩
  keep := fun i h h' st k => let ⟨⟨old, he⟩, hn, hi, hne⟩ := st; ⟨⟨old, k e (by simp) _ he⟩, hn, hi.at fun o q => k it (by simp) o q, hne⟩
  item := by
    intro X hP hw hK hc i pins s σ H E I hf st hg
    subst hP hw hK
    obtain ⟨⟨old, he⟩, hn, hit, hne⟩ := st
    obtain ⟨hin, xs, hq, hxl⟩ := hg
    obtain ⟨its, rv, p, hz⟩ := I.list hq
    have hl := rv.length
    have hsz0 : its.toArray.size = n := by rw [List.size_toArray, ← hl, hxl]
    have hel : e < s.heap.objs.size := Heap.lt_size he
    have hil : it < s.heap.objs.size := by obtain ⟨_, q, _⟩ := hit; exact Heap.lt_size q
    have ane : a ≠ it := fun z => by
      obtain ⟨o1, h1, c1, _⟩ := hit
      obtain ⟨o2, h2, c2, _⟩ := p.isList
      rw [z] at h2
      rw [h1] at h2
      cases h2
      rw [c1] at c2
      injection c2 with c2
      exact absurd c2 (by decide)
    have ea : e ≠ a := fun z => by
      obtain ⟨o2, h2, c2, _⟩ := p.isList
      have he' : s.heap.get? e = some _ := he
      rw [z, h2] at he'
      cases he'
      injection c2 with c2
      exact absurd c2 (by decide)
    have D := draws_rev (prog := X.prog) (w := X.w) (A := X.A.in1) (I.ok.hd hc) it a ane its.toArray
    rw [hsz0] at D
    refine wpAny_pyNext_enum_itemD D he ⟨hn, hit, p.isList⟩ hin hne (by simp; exact ⟨hne, ea⟩) fun u h' tk hu ho hst' hT hsz hk => ?_
    obtain ⟨x, hx, ru⟩ : ∃ x, xs[n - 1 - i]? = some x ∧ RelV x u := by
      have hu' : its[n - 1 - i]? = some u := by simpa using hu
      have hlt : n - 1 - i < xs.length := by omega
      obtain ⟨u', hu2, ru⟩ := rv.get (List.getElem?_eq_getElem hlt)
      rw [hu'] at hu2
      cases hu2
      exact ⟨_, List.getElem?_eq_getElem hlt, ru⟩
    refine ⟨_, rfl, wpAny_letOwnedTupleGo_enum (s := { s with heap := h', toks := tk + 1 }) ho fun h'' he' sb => ?_⟩
    have hT2 : h''.get? s.heap.objs.size = some { cls := .type "tuple", data := .seq #[.int i tk, u] } := (sb.2 _ (Nat.ne_of_gt hel)).trans hT
    have new : ObjOk X.prog X.w (upd H s.heap.objs.size (.tup [.int (i : Nat), x])) h'' s.heap.objs.size (.tup [.int (i : Nat), x]) :=
      ⟨by show 2 ≤ sizeLine; decide, [.int i tk, u], .cons ⟨_, rfl⟩ (.cons ru .nil), ⟨_, hT2, rfl, _, rfl⟩⟩
    have I1 : Inv X pins σ (upd H s.heap.objs.size (.tup [.int (i : Nat), x])) { s with heap := h'', toks := tk + 1 } :=
      I.turnedNew (ch := [e, it]) (fun b ob hb q => (sb.2 b (fun z => hb (by simp [z]))).trans (hk b ob (fun z => hb (by simp [z])) (fun z => hb (by simp [z])) q)) hf (Nat.le_refl _) new
    refine ⟨.ref s.heap.objs.size, _, I1, rfl, ⟨_, x, rfl, I.hok.fresh (Nat.le_refl _), rfl, fun ys hy => by rw [I.list_inj hy hq]; exact hx⟩, ⟨⟨u, ?_⟩, hin, hst'.2.1.at fun o q => (sb.2 it (Ne.symm hne)).trans q, hne⟩, fun b hb => ?_⟩
    · have e1 : ((i + 1 : Nat) : Int) = (i : Int) + 1 := by omega
      rw [e1]; exact he'
    · have hb' : b < s.heap.objs.size := by
        have e' : b = e ∨ b = it := by simpa using hb
        rcases e' with z | z
        · rw [z]; exact hel
        · rw [z]; exact hil
      rw [upd_ne (Nat.ne_of_lt hb')]
      exact (hf b hb).1
  done := by
    intro X hP hw hK hc i pins s σ H E I hf st hg
    subst hP hw hK
    obtain ⟨⟨old, he⟩, hn, hit, hne⟩ := st
    obtain ⟨rfl, xs, hq, hxl⟩ := hg
    obtain ⟨its, rv, p, hz⟩ := I.list hq
    obtain ⟨f0, f1, f2, f3, f4, f5⟩ := hf it (by simp)
    have hl := rv.length
    have hsz0 : its.toArray.size = i := by rw [List.size_toArray, ← hl, hxl]
    have ane : a ≠ it := fun z => by
      obtain ⟨o1, h1, c1, _⟩ := hit
      obtain ⟨o2, h2, c2, _⟩ := p.isList
      rw [z] at h2
      rw [h1] at h2
      cases h2
      rw [c1] at c2
      injection c2 with c2
      exact absurd c2 (by decide)
    have D := draws_rev (prog := X.prog) (w := X.w) (A := X.A.in1) (I.ok.hd hc) it a ane its.toArray
    rw [hsz0] at D
    exact wpAny_pyNext_enum_endD D he ⟨hn, hit, p.isList⟩ fun h' eb => ⟨rfl, I.turned (t' := s.toks) (fun b o hb q => eb b o hb q) f0 f1 f3 f4 f5⟩
  self := fun A i s Q E st h => let ⟨⟨_, he⟩, _⟩ := st; wpAny_pyIter_enum he h
def iEnumRev (K : PySem.W.Frag) (ta : TA) : TI := fun σ H R => ta σ H fun vs H1 => ∃ a xs, vs = [.ref a] ∧ SqL K H1 a xs ∧ R (Itw K a xs.length) H1
theorem pi_enumRev {X : Cx} {e : Expr} {ta : TA} {p p2 pos pos2 tpos : Pos} {elts : List Expr} {kk : Nat} (hg : Gl X "enumerate") (hm : X.mg "enumerate" = none) (hg2 : Gl X "reversed") (hm2 : X.mg "reversed" = none) (ha : PA X [e] ta) (hs : starEach [.Call (.Name "reversed" p2) [e] [] pos2] X.env = [(false, eval (.Call (.Name "reversed" p2) [e] [] pos2) X.env)] := by rfl) (hs2 : starEach [e] X.env = [(false, eval e X.env)] := by rfl) :
    PI X (.Tuple elts kk tpos) (.Call (.Name "enumerate" p) [.Call (.Name "reversed" p2) [e] [] pos2] [] pos) (iEnumRev X.K ta) := by
  refine ⟨fun pins s σ H R I h => ?_⟩
  refine Call_ (ld_blt I hg hm boot_enumerate (PyProof.Rows.callWith_type1 ?_ hs rfl))
  rw [hs]
  show wpAny _ _ (spliced ((false, eval (.Call (.Name "reversed" p2) [e] [] pos2) X.env) :: [])) _ _ s
  refine Calls.spliced_cons (Call_ (ld_blt I hg2 hm2 PyProof.Rows.boot_reversed (PyProof.Rows.callWith_type1 (thn (ha.run pos2 pins s σ H _ I h) fun us s1 ⟨vs, H1, I1, r1, q1⟩ => ?_) hs2 rfl)))
  obtain ⟨a, xs, ex, hq, q⟩ := q1
  subst ex
  cases r1 with
  | cons r rr =>
    cases rr
    cases r
    obtain ⟨its, rv, p', hz⟩ := I1.list hq
    have hl := rv.length
    have e1 : ((its.toArray.size : Nat) : Int) - 1 = (xs.length : Int) - 1 - ((0 : Nat) : Int) := by simp only [List.size_toArray]; omega
    refine call_reversed_list p'.isList ?_
    rw [e1]
    obtain ⟨s2, e2⟩ : ∃ s2 : Shared, s2 = { s1 with heap := s1.heap.push (revObj a ((xs.length : Int) - 1 - ((0 : Nat) : Int))) } := ⟨_, rfl⟩
    rw [← e2]
    have hh2 : s2.heap = s1.heap.push (revObj a ((xs.length : Int) - 1 - ((0 : Nat) : Int))) := by rw [e2]
    have I2 : Inv X pins σ H1 s2 := by
      rw [e2]
      exact I1.kept (t' := s1.toks) fun b o q => Heap.get?_push_of_some _ q
    have hit : s2.heap.IsRevIter s1.heap.objs.size a ((xs.length : Int) - 1 - ((0 : Nat) : Int)) := by
      rw [hh2]
      exact ⟨_, Heap.get?_push_size _ rfl, rfl, rfl⟩
    refine Calls.spliced_nil ?_
    refine call_enum_rev hit fun h' he hit' hsz hk => wpAny_pyIter_enum he ?_
    have I3 : Inv X pins σ H1 { s2 with heap := h' } := I2.kept (t' := s2.toks) hk
    have z2 : s2.heap.objs.size = s1.heap.objs.size + 1 := by rw [hh2, Heap.size_push]
    refine ⟨s2.heap.objs.size, [s2.heap.objs.size, s1.heap.objs.size], _, _, H1, rfl, I3, turn_enumRev a s2.heap.objs.size s1.heap.objs.size xs.length, ⟨⟨.none, he⟩, Nat.zero_le _, hit', by rw [z2]; exact Nat.succ_ne_self _⟩, fun b hb => ?_, q⟩
    have e' : b = s2.heap.objs.size ∨ b = s1.heap.objs.size := by simpa using hb
    have hle : s1.heap.objs.size ≤ b := by
      rcases e' with z | z
      · rw [z, z2]; exact Nat.le_add_right _ _
      · rw [z]; exact Nat.le_refl _
    exact I1.fpOk hle (I1.hok.fresh hle)
end Px

set_option Elab.async false
set_option linter.all false
set_option autoImplicit false
set_option maxRecDepth 100000
set_option maxHeartbeats 4000000
/-! The law's end for a def that runs where no repr is under way. -/
namespace Px
open PySem PySem.Spec PyProof.Rows L2
/-- the script alone is known, frozen, unless K has it -/
def scriptH (K : PySem.W.Frag) (a : Addr) (vs : List Value) (ns : List Int) : Hp := fun b => if b = a ∧ K.lookup a = none then some (.frz { cls := .type "list", data := .seq vs.toArray } (.lst (ns.map V.int))) else none
section
variable {K : PySem.W.Frag} {a : Addr} {vs : List Value} {ns : List Int}
theorem scriptH_two (b : Addr) : (scriptH K a vs ns b = none ∧ ¬ (b = a ∧ K.lookup a = none)) ∨ (b = a ∧ K.lookup a = none ∧ scriptH K a vs ns b = some (.frz { cls := .type "list", data := .seq vs.toArray } (.lst (ns.map V.int)))) := by
  by_cases h : b = a ∧ K.lookup a = none
  · exact .inr ⟨h.1, h.2, if_pos h⟩
  · exact .inl ⟨if_neg h, h⟩
theorem scriptH_only : Only (scriptH K a vs ns) := fun b => (scriptH_two (K := K) (a := a) (vs := vs) (ns := ns) b).imp (·.1) fun h => ⟨_, _, h.2.2⟩
end
/-- the call of the law -/
theorem endU {P : Program} {w : World} {K : PySem.W.Frag} {mg mb : Str → Option Value} {CX : CXT} {k : Nat} {fa a : Addr} {fd : FuncData} {x : Str} {sp : Sp} {s : Shared} {vs : List Value} {ns : List Int}
    (inK : K.In s.heap) (glo : s.heap.Ns mainGlobals mg) (bl : s.heap.Ns builtinsNs mb) (boot : ∀ y : Str, y ≠ "__name__" → mb y = bootBuiltins y) (nol : s.heap.NoLimit) (gen : s.gens = #[])
    (ob : s.heap.get? a = some { cls := .type "list", data := .seq vs.toArray }) (hints : IntsAre vs ns) (short : ns.length ≤ sizeLine) (room : Room k callerA)
    (fn : ∀ base : Heap, K.In base → base.Ns mainGlobals mg → FnU P w K mg base CX k fa fd [x] sp) (bind : ∀ (t : Shared) (u : Value), BindsTo t fd ⟨[u], []⟩ [(x, u)])
    (pr : ∀ H : Hp, Only H → SqL K H a (ns.map V.int) → sp [.ref a] H (fun v _ => v = .bl true) fun _ _ _ => False)
    (noX : ∀ H e t, CX [] H s (fun _ _ _ => False) e t → False) :
    codeAny (model P w) callerA (.call (.ref fa) ⟨[.ref a], []⟩) (fun r t => r = .ok (.ret (.bool true)) ∧ OldK s.heap t.heap ∧ t.os = s.os ∧ AllBare t.gens) s := by
  have rel := vals_ints hints
  have two := scriptH_two (K := K) (a := a) (vs := vs) (ns := ns)
  -- what the base keeps
  have ns_keep : ∀ {b : Addr} {m : Str → Option Value}, s.heap.Ns b m → (hidT s.heap (scriptH K a vs ns)).Ns b m := by
    rintro b m ⟨o, es, ep, e, d, rest⟩
    refine ⟨o, es, ep, hidT_get e ?_, d, rest⟩
    rcases two b with h | ⟨rfl, _, _⟩
    · exact h.1
    · rw [ob] at e
      cases e
      cases d
  have k_keep : K.In (hidT s.heap (scriptH K a vs ns)) := fun b o e => by
    refine hidT_get (inK b o e) ?_
    rcases two b with h | ⟨rfl, n, _⟩
    · exact h.1
    · rw [n] at e
      cases e
  obtain ⟨mc, n1, n2⟩ := nol
  -- the script as a list
  have script : SqL K (scriptH K a vs ns) a (ns.map V.int) := by
    cases q : K.lookup a with
    | none => exact .inl (.inr ⟨_, if_pos ⟨rfl, q⟩⟩)
    | some o =>
      have e := inK a o q
      rw [ob] at e
      cases e
      exact .inr ⟨_, vs.toArray, _, q, rfl, rfl, rfl, by rw [List.size_toArray, hints.length]; exact short, by simpa using rel⟩
  have known : HOk P w (scriptH K a vs ns) s.heap := fun b u z => by
    rcases two b with h | ⟨rfl, _, h⟩
    · rw [h.1] at z
      cases z
    · rw [h] at z
      cases z
      exact ⟨ob, by rw [List.length_map]; exact short, vs, _, rel, ob⟩
  have env : Env0 P w K mg (hidT s.heap (scriptH K a vs ns)) callerA [] s (scriptH K a vs ns) :=
    ⟨rfl, ⟨k_keep, ns_keep glo, ⟨mb, ns_keep bl, boot⟩, ⟨mc, ns_keep n1, n2⟩⟩, fun b o e => of_hidT e, Nat.le_of_eq (hidT_size _ _), trivial, (fun b z => absurd (show b ∈ ([] : List Addr) from z) List.not_mem_nil), known, .of_eq gen⟩
  refine codeAny_mono ((fn _ k_keep (ns_keep glo)).run callerA [] s _ ⟨[.ref a], []⟩ [.ref a] [.ref a] _ _ room rfl env (bind s (.ref a)) (.cons rfl .nil) (pr _ scriptH_only script)) fun r t h => ?_
  match r, h with
  | .error e, h => exact (noX _ e t h).elim
  | .ok (.ret u), ⟨v, H', os, bare, un, known', rv, q⟩ =>
    have q' : v = .bl true := q
    subst q'
    cases rv
    refine ⟨rfl, OldK.of_keep fun b o e => ?_, os, bare⟩
    rcases two b with h | ⟨rfl, _, h⟩
    · exact un.keep b o e h.1 (fun z => absurd (show b ∈ ([] : List Addr) from z) List.not_mem_nil) (by simp)
    · rw [ob] at e
      cases e
      exact (known' b _ (un.frzs b _ _ h)).1
theorem walkU {l : PySem.W.OpenLaw} {n k : Nat} {q : Program} {loose : List Str} {XP : (Str → Option Value) → Heap → Prop} {YP : World → Heap → Prop} {d : DefRec} {CX : CXT} {x : Str}
    (most : l.most = some n) (small : n ≤ sizeLine) (nodef : d.params.defaults = []) (room : Room k callerA)
    (F : ∀ (w : World) (mg : Str → Option Value) (fa : Addr) (h : Heap), YP w h → h.Ns mainGlobals mg → mg d.name = some (.ref fa) →
      ∃ (K : PySem.W.Frag) (fd : FuncData) (sp : Sp), K.In h ∧ (∀ (s : Shared) (u : Value), BindsTo s fd ⟨[u], []⟩ [(x, u)]) ∧
        (∀ (H : Hp) (a : Addr) (ns : List Int), ns.length ≤ n → Only H → SqL K H a (ns.map V.int) → sp [.ref a] H (fun v _ => v = .bl true) fun _ _ _ => False) ∧
        ∀ base : Heap, K.In base → base.Ns mainGlobals mg → FnU l.prog w K mg base CX k fa fd [x] sp)
    (noX : ∀ (H : Hp) (s : Shared) (e : Value) (t : Shared), CX [] H s (fun _ _ _ => False) e t → False) :
    PySem.W.WalkO q loose XP YP l.row.toRowW d [] (fun f vs => PySem.call f vs) :=
  Att.attach_call most nodef fun w s₀ s mg mb fa o pm cd doc a vs ns G Y _ _ _ hmg ob hints hlen gen => by
    obtain ⟨K, fd, sp, inK, bind, pr, fn⟩ := F w mg fa _ Y G.T.g hmg
    exact endU inK G.T.g G.T.b G.T.builtins G.T.nolimit gen ob hints (Nat.le_trans hlen small) room fn bind (fun H ho hs => pr H a ns hlen ho hs) fun H e t => noX H s e t
end Px

set_option Elab.async false
set_option linter.all false
set_option autoImplicit false
set_option maxRecDepth 100000
set_option maxHeartbeats 4000000
/-! try .. except (A, B, C, D, E): .. except X as e: .., an exception that is none of the first five and is an X. -/
namespace PySem.W
theorem exm_no5 {M : Model} {K : Frag} {c1 c2 c3 c4 c5 cls : Value} {tp e : Addr} {h : Heap} (X : K.In h) (LT : Looks M h (typeOf (.ref e)) cls) (hp : h.get? tp = some { cls := .type "tuple", data := .seq [c1, c2, c3, c4, c5].toArray })
    (h1 : exmOne K cls c1 = some false) (h2 : exmOne K cls c2 = some false) (h3 : exmOne K cls c3 = some false) (h4 : exmOne K cls c4 = some false) (h5 : exmOne K cls c5 = some false) : Looks M h (excMatches (.ref e) (.ref tp)) false := by
  intro A Q E s k₀ q
  obtain ⟨hh, g, d, tk, os⟩ := s
  have k : ∀ b o, h.get? b = some o → hh.get? b = some o := k₀
  have isT : Looks M h (isInstance (.ref tp) (.type "tuple")) true := ((Looks.ld hp).andThen .now).andThen (Looks.of_pure isSubtype_tuple_tuple)
  obtain ⟨e1, S1⟩ := exm_cls (M := M) X h1
  obtain ⟨e2, S2⟩ := exm_cls (M := M) X h2
  obtain ⟨e3, S3⟩ := exm_cls (M := M) X h3
  obtain ⟨e4, S4⟩ := exm_cls (M := M) X h4
  obtain ⟨e5, S5⟩ := exm_cls (M := M) X h5
  have e1 := e1.keeps k
  have e2 := e2.keeps k
  have e3 := e3.keeps k
  have e4 := e4.keeps k
  have e5 := e5.keeps k
  have S1 := S1.keeps k
  have S2 := S2.keeps k
  have S3 := S3.keeps k
  have S4 := S4.keeps k
  have S5 := S5.keeps k
  have LT := LT.keeps k
  have isT := isT.keeps k
  have hp' := k _ _ hp
  unfold excMatches
  refine wpAny_bind (isT.at ?_)
  dsimp only
  rw [if_pos rfl]
  first
    | refine wpAny_bind (wpAny_seqItems hp' rfl ?_)
    | refine wpAny_bind (wpAny_bind (wpAny_seqItems hp' rfl (wpAny_pure ?_)))
  dsimp only [Option.getD_some, Option.getD]
  repeat (first | simp only [List.forIn_cons, List.forIn_nil, Bool.not_true, Bool.false_eq_true, if_false, if_true] | lk)
  exact q
end PySem.W
namespace L2N
open PySem PySem.Spec PyProof.Rows L2
theorem flying_more {B : Heap} {l : List Env} {e : Addr} {Z : Obj → Prop} {h h' : Heap} (f : HandSPX.FlyingZ B l e Z h) (k : ∀ b o, h.get? b = some o → h'.get? b = some o) : HandSPX.FlyingZ B l e Z h' := by
  obtain ⟨f1, f2, f3, oe, vs, T, oT, ts, t1, t2, t3, t4, t5, t6, t7, t8, t9⟩ := f
  exact ⟨fun b o q => k b o (f1 b o q), f2, Heap.FunFrames.of_keeps (fun b o q _ => ⟨o, k b o q, rfl⟩) f3, oe, vs, T, oT, ts, k _ _ t1, t2, t3, t4, t5, t6, k _ _ t7, t8, t9⟩
/-- an exception that is none of cs and is a c: the suite -/
def wTwo (K : PySem.W.Frag) (cs : List Value) (c : Value) (i : Nat) (ts : Addr → Value → Option Addr → TS) (D : Ends) : WX := fun cls d σ H =>
  (∀ c' ∈ cs, PySem.W.exmOne K cls c' = some false) ∧ PySem.W.exmOne K cls c = some true ∧ ∀ a, H a = none → ts a cls d { nx := fun σ' H' => D.nx (σ'.set i none) H', rt := D.rt, bk := fun σ' H' => D.bk (σ'.set i none) H', ct := fun σ' H' => D.ct (σ'.set i none) H' } (σ.set i (some (.ref a))) H
section
variable {X : Cx} {x n x1 x2 x3 x4 x5 : Str} {c c1 c2 c3 c4 c5 : Value} {i kk : Nat} {body suite suite0 : List Stmt} {b₀ s₀ : Stmt} {np p1 p2 p3 p4 p5 tp pos pos0 pos' : Pos} {tb : WX → TS} {ts : Addr → Value → Option Addr → TS}
theorem ps_try_two (hs : X.stack = X.env :: X.outer) (hf : X.env.frame = some X.env.locals) (hN : X.N.Nodup) (hi : X.N[i]? = some n) (hln : X.env.kindOf n = some .local) (hc : Names X x c)
    (n1 : Gl X x1 ∧ (x1 == ("__debug__" : Str)) = false ∧ X.mg x1 = some c1) (n2 : Gl X x2 ∧ (x2 == ("__debug__" : Str)) = false ∧ X.mg x2 = some c2) (n3 : Gl X x3 ∧ (x3 == ("__debug__" : Str)) = false ∧ X.mg x3 = some c3) (n4 : Gl X x4 ∧ (x4 == ("__debug__" : Str)) = false ∧ X.mg x4 = some c4) (n5 : Gl X x5 ∧ (x5 == ("__debug__" : Str)) = false ∧ X.mg x5 = some c5)
    (hb : ∀ (W : WX) (pn : List (Addr × Obj)) (xe : Value → Shared → Prop), Takes (X.tr pn xe) W → PassesOwn (model X.prog X.w) X.A X.env xe → PSs (X.tr pn xe) body (tb W))
    (hsu : ∀ (a : Addr) (oe : Obj) (cls : Value) (d : Option Addr) (pn : List (Addr × Obj)), Zn cls d oe → (∃ vs, oe.data = .fields vs) → PSs (X.suite a ((a, oe) :: pn)) (b₀ :: suite) (ts a cls d)) :
    PS X (.Try body [.ExceptHandler (some (.Tuple [.Name x1 p1, .Name x2 p2, .Name x3 p3, .Name x4 p4, .Name x5 p5] kk tp)) none (s₀ :: suite0) pos0, .ExceptHandler (some (.Name x np)) (some n) (b₀ :: suite) pos'] [] [] pos)
      (fun D σ H => tb (wTwo X.K [c1, c2, c3, c4, c5] c i ts D) D σ H) := by
  refine ⟨fun pins s σ H D I h => ?_⟩
  have ok := I.ok
  have hfr : X.A.frames = some (X.env :: X.outer) := by rw [ok.frames, hs]
  have hloc : Loc X.env.scope n := .inl hln
  refine wpAny_Try_except ?_
  refine wpAny_mono ((hb (wTwo X.K [c1, c2, c3, c4, c5] c i ts D) (X.pn ++ pins) _ (fun u s' xx => ?_) PassesOwn.looking).run [] s σ H D (I.toTry _) h) (fun f s1 hsp => ?_) (fun e s1 he => he)
  · -- the exception is looked at
    obtain ⟨a, B, sI, pins', σ', H', cls, d, rfl, J', nb, up, sky, na, os, ag, none5, isC, hyes⟩ := xx
    have J : Inv X pins σ' H' sI := J'.ofTry ok
    have sky' : Sky B (X.env :: X.outer) a (Zn cls d) X.env.locals s'.heap := by rw [← hs]; exact sky
    show wpAny (model X.prog X.w) X.A (noteFrame (.ref a) X.env) _ _ _
    refine Sky.land Zn.steady hfr hf sky' fun h3 fl3 up3 => ?_
    have J3 : Inv X pins σ' H' { s' with heap := h3 } := J.landed nb fl3.1 (up.trans up3) os ag
    obtain ⟨oe3, vs3, he3, hz3, hd3⟩ := fl3.there
    have nfr : a ∉ frs (X.env :: X.outer) := fun hm => by
      obtain ⟨_, o', e', hnf⟩ := fl3.2.2.1.mem hm
      rw [he3] at e'
      cases e'
      exact hnf _ hd3
    have nL : a ≠ X.env.locals := fun z => nfr (List.mem_filterMap.mpr ⟨X.env, List.mem_cons_self, by rw [hf, z]⟩)
    have nF : a ∉ X.fs := fun hm => by
      obtain ⟨e, he, q⟩ := List.mem_filterMap.mp hm
      exact nfr (List.mem_filterMap.mpr ⟨e, List.mem_cons_of_mem _ he, q⟩)
    have S3 := J3.suite he3 hd3 na nL nF
    have LT : PySem.W.Looks (model X.prog X.w) h3 (typeOf (.ref a)) cls := fun A Q E s k q => wpAny_typeOf_ref (k _ _ he3) (by rw [hz3.1]; exact q)
    -- the first clause: a tuple of classes, none of them
    refine wpAny_handleBy_cons (codeAny_handlers_test ?_) (by intro q; cases q)
    refine wpAny_Tuple ?_
    refine wpAny_items_cons (ld_glob (X := X.suite a ((a, oe3) :: (X.pn ++ pins))) S3 n1.1 n1.2.2 ?_ n1.2.1)
    refine wpAny_items_cons (ld_glob (X := X.suite a ((a, oe3) :: (X.pn ++ pins))) S3 n2.1 n2.2.2 ?_ n2.2.1)
    refine wpAny_items_cons (ld_glob (X := X.suite a ((a, oe3) :: (X.pn ++ pins))) S3 n3.1 n3.2.2 ?_ n3.2.1)
    refine wpAny_items_cons (ld_glob (X := X.suite a ((a, oe3) :: (X.pn ++ pins))) S3 n4.1 n4.2.2 ?_ n4.2.1)
    refine wpAny_items_cons (ld_glob (X := X.suite a ((a, oe3) :: (X.pn ++ pins))) S3 n5.1 n5.2.2 ?_ n5.2.1)
    refine wpAny_items_nil ⟨by size_fits, ?_⟩
    obtain ⟨h4, e4⟩ : ∃ h4, h4 = h3.push { cls := .type "tuple", data := .seq [c1, c2, c3, c4, c5].toArray } := ⟨_, rfl⟩
    have kp : ∀ q o, h3.get? q = some o → h4.get? q = some o := fun q o z => by rw [e4]; exact Heap.get?_push_of_some _ z
    have hp : h4.get? h3.objs.size = some { cls := .type "tuple", data := .seq [c1, c2, c3, c4, c5].toArray } := by rw [e4]; exact Heap.get?_push_size h3 rfl
    have LM := PySem.W.exm_no5 (M := model X.prog X.w) (J3.kIn.keeps kp) (LT.keeps kp) hp (none5 c1 (by simp)) (none5 c2 (by simp)) (none5 c3 (by simp)) (none5 c4 (by simp)) (none5 c5 (by simp))
    rw [← e4]
    refine LM.here ?_
    -- the second clause
    have fl4 : HandSPX.FlyingZ B (X.env :: X.outer) a (Zn cls d) h4 := flying_more fl3 kp
    have up4 : h3.UpToSlots h4 := Heap.UpToSlots.of_keeps kp
    have J4 : Inv X pins σ' H' { s' with heap := h4 } := J.landed nb fl4.1 ((up.trans up3).trans up4) os ag
    have S4 := J4.suite (kp _ _ he3) hd3 na nL nF
    show wpAny _ X.A (handleBy (.ref a) X.env _) _ _ _
    refine wpAny_handleBy_cons (codeAny_handlers_test ?_) (by intro q; cases q)
    have LN := PySem.W.exm_one (M := model X.prog X.w) J4.kIn (LT.keeps kp) isC
    have test : ∀ {Q : Value → Shared → Prop} {E : Value → Shared → Prop}, Q c { s' with heap := h4 } → wpAny (model X.prog X.w) (X.A.mark (some (.ref a))) (eval (.Name x np) X.env) Q E { s' with heap := h4 } := fun {Q E} q => by
      obtain ⟨hg, hdbg, hm | ⟨hm, hv, hnn⟩⟩ := hc
      · exact ld_glob (X := X.suite a ((a, oe3) :: (X.pn ++ pins))) S4 hg hm q hdbg
      · exact ld_blt (X := X.suite a ((a, oe3) :: (X.pn ++ pins))) S4 hg hm hv q hnn hdbg
    refine test (LN.here ?_)
    refine codeAny_handlers_suite_as ?_
    refine HandSPX.lands_againZ fl4 fun h5 fl5 up5 => ?_
    have J5 : Inv X pins σ' H' { s' with heap := h5 } := J.landed nb fl5.1 (((up.trans up3).trans up4).trans up5) os ag
    obtain ⟨oe5, vs5, he5, hz5, hd5⟩ := fl5.there
    have S5 := J5.suite he5 hd5 na nL nF
    refine store_ok (X := X.suite a ((a, oe5) :: (X.pn ++ pins))) (v := .ref a) S5 hN hi hloc rfl (fun s5 S6 => ?_) (.inr hln)
    refine wpAny_mono ((hsu a oe5 cls d (X.pn ++ pins) hz5 ⟨_, hd5⟩).run [] s5 _ H' _ S6 (hyes a na)) (fun f s6 hsp => ?_) (fun _ _ z => False.elim z)
    have end_ : ∀ {σ6 : L2.St} {H6 : Hp} {Q : Shared → Prop}, Inv (X.suite a ((a, oe5) :: (X.pn ++ pins))) [] σ6 H6 s6 → (∀ s7, Inv X pins (σ6.set i none) H6 s7 → Q s7) →
        wpAny (model X.prog X.w) X.A (do bindName X.env n .none; unbindBehindTheSuite X.env n pos') (fun _ s7 => Q s7) X.xe s6 := fun {σ6 H6 Q} S7 hq => gone_ok (S7.unsuite ok) hN hi hln hq
    cases f with
    | next => obtain ⟨σ6, H6, S7, q6⟩ := hsp; exact end_ S7 fun s7 J7 => ⟨_, _, J7, q6⟩
    | brk => obtain ⟨σ6, H6, S7, q6⟩ := hsp; exact end_ S7 fun s7 J7 => ⟨_, _, J7, q6⟩
    | cont => obtain ⟨σ6, H6, S7, q6⟩ := hsp; exact end_ S7 fun s7 J7 => ⟨_, _, J7, q6⟩
    | ret u => obtain ⟨v6, σ6, H6, S7, r6, q6⟩ := hsp; exact end_ S7 fun s7 J7 => ⟨_, _, _, J7, r6, q6⟩
  · cases f with
    | next => obtain ⟨σ', H', J', q⟩ := hsp; exact wpAny_execs_nil ⟨σ', H', J'.ofTry ok, q⟩
    | brk => obtain ⟨σ', H', J', q⟩ := hsp; exact ⟨σ', H', J'.ofTry ok, q⟩
    | cont => obtain ⟨σ', H', J', q⟩ := hsp; exact ⟨σ', H', J'.ofTry ok, q⟩
    | ret u => obtain ⟨v, σ', H', J', r, q⟩ := hsp; exact ⟨v, σ', H', J'.ofTry ok, r, q⟩
end
end L2N

set_option Elab.async false
set_option linter.all false
set_option autoImplicit false
set_option maxRecDepth 100000
set_option maxHeartbeats 4000000
/-! A symbolic heap: data with references, cells by their addresses. -/
namespace Sl
open PySem PySem.Spec PyProof.Rows L2
/-! ### data -/
inductive D where
  | none
  | bool (b : Bool)
  | int (i : Int)
  | str (x : Str)
  | list (ds : List D)
  | tuple (ds : List D)
  | dk (kvs : List (Key × D))
  | dt (kvs : List (List Key × D))
  | ins (C : Str) (fs : List (Str × D))
  | ref (p : Addr)
mutual
inductive Dq (K : PySem.W.Frag) (H : Hp) : V → D → Prop
  | non : Dq K H .non .none
  | bl (b : Bool) : Dq K H (.bl b) (.bool b)
  | int (i : Int) : Dq K H (.int i) (.int i)
  | str (x : Str) : Dq K H (.str x) (.str x)
  | ref (p : Addr) : Dq K H (.ref p) (.ref p)
  | lst {a : Addr} {xs : List V} {ds : List D} : SqL K H a xs → DqAll K H xs ds → Dq K H (.ref a) (.list ds)
  | tup {a : Addr} {xs : List V} {ds : List D} : H a = some (.tup xs) → DqAll K H xs ds → Dq K H (.ref a) (.tuple ds)
  | dk {a : Addr} {xs : List (Key × V)} {ds : List (Key × D)} : H a = some (.dK xs) → DqKv K H xs ds → Dq K H (.ref a) (.dk ds)
  | dt {a : Addr} {xs : List (List Key × V)} {ds : List (List Key × D)} : H a = some (.dT xs) → DqTv K H xs ds → Dq K H (.ref a) (.dt ds)
  | ins {a dx : Addr} {C : Str} {xs : List (Str × V)} {ds : List (Str × D)} : H a = some (.ins (He.ga K C) dx xs) → H dx = some (.own a) → DqFv K H xs ds → Dq K H (.ref a) (.ins C ds)
inductive DqAll (K : PySem.W.Frag) (H : Hp) : List V → List D → Prop
  | nil : DqAll K H [] []
  | cons {v : V} {vs : List V} {d : D} {ds : List D} : Dq K H v d → DqAll K H vs ds → DqAll K H (v :: vs) (d :: ds)
inductive DqKv (K : PySem.W.Frag) (H : Hp) : List (Key × V) → List (Key × D) → Prop
  | nil : DqKv K H [] []
  | cons {k : Key} {v : V} {vs : List (Key × V)} {d : D} {ds : List (Key × D)} : Dq K H v d → DqKv K H vs ds → DqKv K H ((k, v) :: vs) ((k, d) :: ds)
inductive DqTv (K : PySem.W.Frag) (H : Hp) : List (List Key × V) → List (List Key × D) → Prop
  | nil : DqTv K H [] []
  | cons {k : List Key} {v : V} {vs : List (List Key × V)} {d : D} {ds : List (List Key × D)} : Dq K H v d → DqTv K H vs ds → DqTv K H ((k, v) :: vs) ((k, d) :: ds)
inductive DqFv (K : PySem.W.Frag) (H : Hp) : List (Str × V) → List (Str × D) → Prop
  | nil : DqFv K H [] []
  | cons {k : Str} {v : V} {vs : List (Str × V)} {d : D} {ds : List (Str × D)} : Dq K H v d → DqFv K H vs ds → DqFv K H ((k, v) :: vs) ((k, d) :: ds)
end
theorem rd_same {H H' : Hp} {a : Addr} {u : HO} (e : Same H H') (h : Rd H a u) : Rd H' a u := h.elim (fun h => .inl (e _ _ h)) fun ⟨o, h⟩ => .inr ⟨o, e _ _ h⟩
theorem sqT_same {K : PySem.W.Frag} {H H' : Hp} {a : Addr} {xs : List V} (e : Same H H') (h : SqT K H a xs) : SqT K H' a xs := by
  rcases h with (h | ⟨o, h⟩) | h
  · exact .inl (.inl (e _ _ h))
  · exact .inl (.inr ⟨o, e _ _ h⟩)
  · exact .inr h
theorem sqT_of {K : PySem.W.Frag} {H H' : Hp} {a : Addr} {xs : List V} (e : Same H H') (h : H a = some (.tup xs)) : SqT K H' a xs := .inl (.inl (e _ _ h))
mutual
theorem dq_same {K : PySem.W.Frag} {H H' : Hp} (e : Same H H') : ∀ {v : V} {d : D}, Dq K H v d → Dq K H' v d
  | _, _, .non => .non
  | _, _, .bl b => .bl b
  | _, _, .int i => .int i
  | _, _, .str x => .str x
  | _, _, .ref p => .ref p
  | _, _, .lst h a => .lst (e.seq h) (dqa_same e a)
  | _, _, .tup h a => .tup (e _ _ h) (dqa_same e a)
  | _, _, .dk h a => .dk (e _ _ h) (dqk_same e a)
  | _, _, .dt h a => .dt (e _ _ h) (dqt_same e a)
  | _, _, .ins h g a => .ins (e _ _ h) (e _ _ g) (dqf_same e a)
theorem dqa_same {K : PySem.W.Frag} {H H' : Hp} (e : Same H H') : ∀ {vs : List V} {ds : List D}, DqAll K H vs ds → DqAll K H' vs ds
  | _, _, .nil => .nil
  | _, _, .cons h a => .cons (dq_same e h) (dqa_same e a)
theorem dqk_same {K : PySem.W.Frag} {H H' : Hp} (e : Same H H') : ∀ {vs : List (Key × V)} {ds : List (Key × D)}, DqKv K H vs ds → DqKv K H' vs ds
  | _, _, .nil => .nil
  | _, _, .cons h a => .cons (dq_same e h) (dqk_same e a)
theorem dqt_same {K : PySem.W.Frag} {H H' : Hp} (e : Same H H') : ∀ {vs : List (List Key × V)} {ds : List (List Key × D)}, DqTv K H vs ds → DqTv K H' vs ds
  | _, _, .nil => .nil
  | _, _, .cons h a => .cons (dq_same e h) (dqt_same e a)
theorem dqf_same {K : PySem.W.Frag} {H H' : Hp} (e : Same H H') : ∀ {vs : List (Str × V)} {ds : List (Str × D)}, DqFv K H vs ds → DqFv K H' vs ds
  | _, _, .nil => .nil
  | _, _, .cons h a => .cons (dq_same e h) (dqf_same e a)
end
section
variable {K : PySem.W.Frag} {H : Hp}
theorem dqa_len : ∀ {vs : List V} {ds : List D}, DqAll K H vs ds → vs.length = ds.length
  | _, _, .nil => rfl
  | _, _, .cons _ a => by rw [List.length_cons, List.length_cons, dqa_len a]
theorem dqa_get : ∀ {vs : List V} {ds : List D} {i : Nat} {d : D}, DqAll K H vs ds → ds[i]? = some d → ∃ v, vs[i]? = some v ∧ Dq K H v d
  | _, _, i, d, .nil, h => by simp at h
  | _, _, 0, d, .cons h a, e => by
    have e' := Option.some.inj e
    exact ⟨_, rfl, e' ▸ h⟩
  | _, _, i + 1, d, .cons h a, e => dqa_get (i := i) a e
theorem dqa_app : ∀ {vs ws : List V} {ds es : List D}, DqAll K H vs ds → DqAll K H ws es → DqAll K H (vs ++ ws) (ds ++ es)
  | _, _, _, _, .nil, b => b
  | _, _, _, _, .cons h a, b => .cons h (dqa_app a b)
theorem dqa_one {v : V} {d : D} (h : Dq K H v d) : DqAll K H [v] [d] := .cons h .nil
theorem dqa_take : ∀ {vs : List V} {ds : List D} (n : Nat), DqAll K H vs ds → DqAll K H (vs.take n) (ds.take n)
  | _, _, 0, _ => by simp only [List.take_zero]; exact .nil
  | _, _, n + 1, .nil => .nil
  | _, _, n + 1, .cons h a => .cons h (dqa_take n a)
theorem dqa_drop : ∀ {vs : List V} {ds : List D} (n : Nat), DqAll K H vs ds → DqAll K H (vs.drop n) (ds.drop n)
  | _, _, 0, a => a
  | _, _, n + 1, .nil => .nil
  | _, _, n + 1, .cons h a => dqa_drop n a
theorem dqa_rev : ∀ {vs : List V} {ds : List D}, DqAll K H vs ds → DqAll K H vs.reverse ds.reverse
  | _, _, .nil => .nil
  | _, _, .cons h a => by
    rw [List.reverse_cons, List.reverse_cons]
    exact dqa_app (dqa_rev a) (dqa_one h)
theorem dqa_set : ∀ {vs : List V} {ds : List D} {v : V} {d : D} (i : Nat), DqAll K H vs ds → Dq K H v d → DqAll K H (vs.set i v) (ds.set i d)
  | _, _, _, _, _, .nil, _ => .nil
  | _, _, _, _, 0, .cons _ a, h => .cons h a
  | _, _, _, _, i + 1, .cons h' a, h => .cons h' (dqa_set i a h)
theorem dqa_eraseIdx : ∀ {vs : List V} {ds : List D} (i : Nat), DqAll K H vs ds → DqAll K H (vs.eraseIdx i) (ds.eraseIdx i)
  | _, _, _, .nil => .nil
  | _, _, 0, .cons _ a => a
  | _, _, i + 1, .cons h a => .cons h (dqa_eraseIdx i a)
theorem dqa_ints {is : List Int} : DqAll K H (is.map V.int) (is.map D.int) := by
  induction is with
  | nil => exact .nil
  | cons i r ih => exact .cons (.int i) ih
theorem ints_dqa : ∀ {is : List Int} {vs : List V}, DqAll K H vs (is.map D.int) → vs = is.map V.int
  | [], _, .nil => rfl
  | i :: is, _, .cons h a => by
    cases h
    rw [ints_dqa a]
    rfl
theorem bools_dqa : ∀ {bs : List Bool} {vs : List V}, DqAll K H vs (bs.map D.bool) → vs = bs.map V.bl
  | [], _, .nil => rfl
  | i :: is, _, .cons h a => by
    cases h
    rw [bools_dqa a]
    rfl
theorem strs_dqa : ∀ {bs : List Str} {vs : List V}, DqAll K H vs (bs.map D.str) → vs = bs.map V.str
  | [], _, .nil => rfl
  | i :: is, _, .cons h a => by
    cases h
    rw [strs_dqa a]
    rfl
theorem dqa_strs {is : List Str} : DqAll K H (is.map V.str) (is.map D.str) := by
  induction is with
  | nil => exact .nil
  | cons i r ih => exact .cons (.str i) ih
theorem dqa_atI {vs : List V} {ds : List D} {i : Int} {d : D} (a : DqAll K H vs ds) (h : atI ds i = some d) : ∃ v, atI vs i = some v ∧ Dq K H v d := by
  unfold atI at h ⊢
  rw [dqa_len a]
  cases e : ixN ds.length i with
  | none => rw [e] at h; cases h
  | some j =>
    rw [e] at h
    exact dqa_get a h
theorem dqf_get : ∀ {vs : List (Str × V)} {ds : List (Str × D)} {f : Str} {d : D}, DqFv K H vs ds → ds.lookup f = some d → ∃ v, vs.lookup f = some v ∧ Dq K H v d
  | _, _, f, d, .nil, h => by cases h
  | _, _, f, d, .cons (k := k) h a, e => by
    rw [List.lookup_cons] at e ⊢
    cases q : (f == k) with
    | true =>
      rw [q] at e
      cases e
      exact ⟨_, rfl, h⟩
    | false =>
      rw [q] at e
      exact dqf_get a e
theorem dqf_none : ∀ {vs : List (Str × V)} {ds : List (Str × D)} {f : Str}, DqFv K H vs ds → ds.lookup f = none → vs.lookup f = none
  | _, _, f, .nil, h => rfl
  | _, _, f, .cons (k := k) h a, e => by
    rw [List.lookup_cons] at e ⊢
    cases q : (f == k) with
    | true => rw [q] at e; cases e
    | false =>
      rw [q] at e
      exact dqf_none a e
theorem dqf_len : ∀ {vs : List (Str × V)} {ds : List (Str × D)}, DqFv K H vs ds → vs.length = ds.length
  | _, _, .nil => rfl
  | _, _, .cons _ a => by rw [List.length_cons, List.length_cons, dqf_len a]
end
end Sl

set_option Elab.async false
set_option linter.all false
set_option autoImplicit false
set_option maxRecDepth 100000
set_option maxHeartbeats 4000000
namespace Sl
open PySem PySem.Spec PyProof.Rows L2
/-! ### cells -/
inductive HD where
  | lst (ds : List D)
  | dk (kvs : List (Key × D))
  | dt (kvs : List (List Key × D))
  | ins (C : Str) (fs : List (Str × D))
def HoOk (K : PySem.W.Frag) (F H : Hp) (p : Addr) : HO → HD → Prop
  | .lst vs, .lst ds => DqAll K F vs ds
  | .dK xs, .dk ys => DqKv K F xs ys
  | .dT xs, .dt ys => DqTv K F xs ys
  | .ins C dx xs, .ins C' ys => C = He.ga K C' ∧ H dx = some (.own p) ∧ F dx = none ∧ DqFv K F xs ys
  | _, _ => False
def Cell (K : PySem.W.Frag) (F H : Hp) (p : Addr) (c : HD) : Prop := ∃ u, H p = some u ∧ F p = none ∧ HoOk K F H p u c
theorem hoOk_mv {K : PySem.W.Frag} {F F' H H' : Hp} {p : Addr} {u : HO} {c : HD} (sF : Same F F') (hH : ∀ a, H a = some (.own p) → H' a = some (.own p)) (hF : ∀ a, H a = some (.own p) → F' a = F a) (h : HoOk K F H p u c) : HoOk K F' H' p u c := by
  cases u <;> cases c <;> first | exact h.elim | exact dqa_same sF h | exact dqk_same sF h | exact dqt_same sF h | exact ⟨h.1, hH _ h.2.1, (hF _ h.2.1).trans h.2.2.1, dqf_same sF h.2.2.2⟩
theorem Cell.mv {K : PySem.W.Frag} {F F' H H' : Hp} {p : Addr} {c : HD} (sF : Same F F') (hH : ∀ a o, (a = p ∨ o = .own p) → H a = some o → H' a = some o) (hF : ∀ a o, (a = p ∨ o = .own p) → H a = some o → F' a = F a) (h : Cell K F H p c) : Cell K F' H' p c := by
  obtain ⟨u, h1, h2, h3⟩ := h
  exact ⟨u, hH p u (.inl rfl) h1, (hF p u (.inl rfl) h1).trans h2, hoOk_mv sF (fun a e => hH a _ (.inr rfl) e) (fun a e => hF a _ (.inr rfl) e) h3⟩
/-- the state: slots and cells -/
structure Sy where
  g : List (Option D)
  c : List (Addr × HD)
def Sy.ks (Γ : Sy) : List Addr := Γ.c.map (·.1)
def Sy.put (Γ : Sy) (i : Nat) (d : D) : Sy := ⟨Γ.g.set i (some d), Γ.c⟩
def Sy.add (Γ : Sy) (p : Addr) (c : HD) : Sy := ⟨Γ.g, (p, c) :: Γ.c⟩
abbrev St := L2.St
structure Zx where
  K : PySem.W.Frag
  F0 : Hp
  H0 : Hp
  ps : List Addr
  xt : List (Addr × HO) := []
/-- new since the entry -/
def OwnC (Z : Zx) (H : Hp) (p : Addr) : Prop := Z.H0 p = none ∧ ∀ C dx fs, H p = some (.ins C dx fs) → Z.H0 dx = none
/-- an instance keeps class and dict -/
def Kd (u0 u : HO) : Prop := ∀ C dx fs, u = .ins C dx fs → ∃ fs', u0 = .ins C dx fs'
theorem Kd.refl {u : HO} : Kd u u := fun C dx fs e => ⟨fs, e⟩
theorem Kd.trans {u v w : HO} (h : Kd u v) (g : Kd v w) : Kd u w := fun C dx fs e => by
  obtain ⟨fs', e'⟩ := g C dx fs e
  exact h C dx fs' e'
structure Sta (Z : Zx) (F H : Hp) (σ : St) (Γ : Sy) : Prop where
  ff : Same Z.F0 F
  fh : Same F H
  hh : ∀ a o, a ∉ Z.ps → Z.H0 a = some o → H a = some o
  fr : ∀ a o, Z.H0 a = some o → F a = Z.F0 a
  pp : ∀ p ∈ Z.ps, ∃ u0 u, Z.H0 p = some u0 ∧ H p = some u ∧ Kd u0 u
  sl : ∀ (i : Nat) d, Γ.g[i]? = some (some d) → ∃ v, σ[i]? = some (some v) ∧ Dq Z.K F v d
  ce : ∀ x ∈ Γ.c, Cell Z.K F H x.1 x.2 ∧ (x.1 ∈ Z.ps ∨ OwnC Z H x.1)
  nd : Γ.ks.Nodup
  ln : σ.length = Γ.g.length
  xn : ∀ q ∈ Z.xt, H q.1 = some q.2 ∧ F q.1 = none ∧ q.1 ∉ Γ.ks ∧ ∀ x, q.2 ≠ .own x
theorem upd_grow {H : Hp} {p : Addr} {u : HO} (hp : H p = none) : Same H (upd H p u) := fun b o e => by
  have nb : b ≠ p := fun z => by rw [z, hp] at e; cases e
  rw [upd_ne nb]
  exact e
section
variable {Z : Zx} {F F' H H' : Hp} {σ : St} {Γ : Sy} {p : Addr}
theorem Sta.free0 (S : Sta Z F H σ Γ) (hp : H p = none) : Z.H0 p = none := by
  cases e : Z.H0 p with
  | none => rfl
  | some o =>
    by_cases hm : p ∈ Z.ps
    · obtain ⟨u0, u, _, h2, _⟩ := S.pp p hm
      rw [hp] at h2
      cases h2
    · rw [S.hh p o hm e] at hp
      cases hp
theorem Sta.freeF (S : Sta Z F H σ Γ) (hp : H p = none) : F p = none := S.fh.free hp
theorem Sta.key (S : Sta Z F H σ Γ) (h : p ∈ Γ.ks) : ∃ c u, (p, c) ∈ Γ.c ∧ H p = some u ∧ F p = none ∧ HoOk Z.K F H p u c := by
  obtain ⟨x, hx, rfl⟩ := List.mem_map.mp h
  obtain ⟨⟨u, h1, h2, h3⟩, _⟩ := S.ce x hx
  exact ⟨x.2, u, hx, h1, h2, h3⟩
theorem Sta.noPs (S : Sta Z F H σ Γ) (hp : H p = none) : p ∉ Z.ps := fun hm => by
  obtain ⟨u0, u, _, h2, _⟩ := S.pp p hm
  rw [hp] at h2
  cases h2
theorem Sta.noKey (S : Sta Z F H σ Γ) (hp : H p = none) : p ∉ Γ.ks := fun h => by
  obtain ⟨_, u, _, h1, _⟩ := S.key h
  rw [hp] at h1
  cases h1
/-- the heap grows -/
theorem Sta.up (S : Sta Z F H σ Γ) (s : Same H H') : Sta Z F H' σ Γ := by
  refine ⟨S.ff, S.fh.trans s, fun a u ha h => s _ _ (S.hh a u ha h), S.fr, fun q hq => ?_, S.sl, fun x hx => ?_, S.nd, S.ln, fun q hq => ?_⟩
  · obtain ⟨u0, u, h1, h2, h3⟩ := S.pp q hq
    exact ⟨u0, u, h1, s _ _ h2, h3⟩
  · obtain ⟨c, o⟩ := S.ce x hx
    refine ⟨c.mv (Same.refl _) (fun a o _ h => s a o h) (fun _ _ _ _ => rfl), o.imp id fun o => ⟨o.1, fun C dx fs h => ?_⟩⟩
    obtain ⟨u, h1, _⟩ := c
    rw [s _ _ h1] at h
    exact o.2 C dx fs (h1.trans h)
  · obtain ⟨g1, g2, g3, g4⟩ := S.xn q hq
    exact ⟨s _ _ g1, g2, g3, g4⟩
/-- the frozen part grows by a free place -/
theorem Sta.frozen (S : Sta Z F H σ Γ) (hp : H p = none) (u : HO) : Sta Z (upd F p u) (upd H p u) σ Γ := by
  have sF : Same F (upd F p u) := upd_grow (S.freeF hp)
  have sH : Same H (upd H p u) := upd_grow hp
  have S1 := S.up sH
  have nH : ∀ {a : Addr} {o : HO}, H a = some o → a ≠ p := fun {a o} e z => by rw [z, hp] at e; cases e
  refine ⟨S.ff.trans sF, fun b o e => ?_, S1.hh, fun a o h => ?_, S1.pp, fun i d hi => ?_, fun x hx => ?_, S.nd, S.ln, fun q hq => ?_⟩
  · by_cases hb : b = p
    · rw [hb, upd_same] at e
      rw [hb, upd_same]
      exact e
    · rw [upd_ne hb] at e
      exact sH b o (S.fh b o e)
  · have nb : a ≠ p := fun z => by rw [z, S.free0 hp] at h; cases h
    rw [upd_ne nb]
    exact S.fr a o h
  · obtain ⟨v, hv, ok⟩ := S.sl i d hi
    exact ⟨v, hv, dq_same sF ok⟩
  · refine ⟨(S.ce x hx).1.mv sF (fun a o _ h => sH a o h) (fun a o _ h => upd_ne (nH h)), (S1.ce x hx).2⟩
  · obtain ⟨g1, g2, g3, g4⟩ := S.xn q hq
    exact ⟨sH _ _ g1, (upd_ne (nH g1)).trans g2, g3, g4⟩
/-- a new cell -/
theorem Sta.laid (S : Sta Z F H σ Γ) (hp : H p = none) {u : HO} {c : HD} (ho : HoOk Z.K F (upd H p u) p u c) (hi : ∀ C dx fs, u = .ins C dx fs → Z.H0 dx = none) : Sta Z F (upd H p u) σ (Γ.add p c) := by
  have S1 := S.up (upd_grow (u := u) hp)
  refine ⟨S1.ff, S1.fh, S1.hh, S1.fr, S1.pp, S1.sl, fun x hx => ?_, ?_, S1.ln, fun q hq => ?_⟩
  · rcases List.mem_cons.mp hx with rfl | hx
    · refine ⟨⟨u, upd_same, S.freeF hp, ho⟩, .inr ⟨S.free0 hp, fun C dx fs h => ?_⟩⟩
      rw [upd_same] at h
      exact hi C dx fs (Option.some.inj h)
    · exact S1.ce x hx
  · exact List.nodup_cons.mpr ⟨S.noKey hp, S.nd⟩
  · obtain ⟨g1, g2, g3, g4⟩ := S1.xn q hq
    refine ⟨g1, g2, fun h => ?_, g4⟩
    rcases List.mem_cons.mp h with h | h
    · have := (S.xn q hq).1
      rw [h, hp] at this
      cases this
    · exact g3 h
/-- cells forgotten, in another order -/
theorem Sta.sub {c' : List (Addr × HD)} (S : Sta Z F H σ Γ) (hm : ∀ x ∈ c', x ∈ Γ.c) (nd : (c'.map (·.1)).Nodup) : Sta Z F H σ ⟨Γ.g, c'⟩ := by
  refine ⟨S.ff, S.fh, S.hh, S.fr, S.pp, S.sl, fun x hx => S.ce x (hm x hx), nd, S.ln, fun q hq => ?_⟩
  obtain ⟨g1, g2, g3, g4⟩ := S.xn q hq
  refine ⟨g1, g2, fun h => g3 ?_, g4⟩
  obtain ⟨x, hx, e⟩ := List.mem_map.mp h
  exact List.mem_map.mpr ⟨x, hm x hx, e⟩
/-- a value stored in a slot -/
theorem Sta.put (S : Sta Z F H σ Γ) {i : Nat} {v : V} {d : D} (hv : Dq Z.K F v d) : Sta Z F H (σ.set i (some v)) (Γ.put i d) := by
  refine ⟨S.ff, S.fh, S.hh, S.fr, S.pp, fun j e h => ?_, S.ce, S.nd, ?_, S.xn⟩
  · have h' : (Γ.g.set i (some d))[j]? = some (some e) := h
    by_cases z : i = j
    · subst z
      by_cases hl : i < Γ.g.length
      · rw [List.getElem?_set_self hl] at h'
        cases h'
        exact ⟨v, List.getElem?_set_self (by rw [S.ln]; exact hl), hv⟩
      · rw [List.getElem?_eq_none (by rw [List.length_set]; omega)] at h'
        cases h'
    · rw [List.getElem?_set_ne z] at h'
      obtain ⟨w, hw, ok⟩ := S.sl j e h'
      exact ⟨w, (List.getElem?_set_ne z).trans hw, ok⟩
  · show (σ.set i (some v)).length = (Γ.g.set i (some d)).length
    rw [List.length_set, List.length_set]
    exact S.ln
/-- an untracked slot changes -/
theorem Sta.setn {i : Nat} {x : Option V} (S : Sta Z F H σ Γ) (hi : Γ.g[i]? = some none) : Sta Z F H (σ.set i x) Γ := by
  have ne : ∀ {j : Nat} {e : D}, Γ.g[j]? = some (some e) → i ≠ j := fun {j e} h z => by
    rw [← z, hi] at h
    cases h
  refine ⟨S.ff, S.fh, S.hh, S.fr, S.pp, fun j e h => ?_, S.ce, S.nd, by rw [List.length_set]; exact S.ln, S.xn⟩
  obtain ⟨v, h1, ok⟩ := S.sl j e h
  exact ⟨v, (List.getElem?_set_ne (ne h)).trans h1, ok⟩
/-- a slot is forgotten -/
def Sy.del (Γ : Sy) (i : Nat) : Sy := ⟨Γ.g.set i none, Γ.c⟩
theorem Sta.del {i : Nat} (S : Sta Z F H σ Γ) : Sta Z F H σ (Γ.del i) := by
  refine ⟨S.ff, S.fh, S.hh, S.fr, S.pp, fun j e h => ?_, S.ce, S.nd, ?_, S.xn⟩
  · have h' : (Γ.g.set i none)[j]? = some (some e) := h
    by_cases z : i = j
    · subst z
      by_cases hl : i < Γ.g.length
      · rw [List.getElem?_set_self hl] at h'
        cases h'
      · rw [List.getElem?_eq_none (by rw [List.length_set]; omega)] at h'
        cases h'
    · rw [List.getElem?_set_ne z] at h'
      exact S.sl j e h'
  · show σ.length = (Γ.g.set i none).length
    rw [List.length_set]
    exact S.ln
/-- the content of a cell -/
def Sy.at (Γ : Sy) (p : Addr) (c : HD) : Prop := (p, c) ∈ Γ.c
def wrC : List (Addr × HD) → Addr → HD → List (Addr × HD)
  | [], _, _ => []
  | (q, x) :: r, p, c => if q = p then (q, c) :: r else (q, x) :: wrC r p c
theorem wrC_keys : ∀ (l : List (Addr × HD)) (p : Addr) (c : HD), (wrC l p c).map (·.1) = l.map (·.1)
  | [], _, _ => rfl
  | (q, x) :: r, p, c => by
    unfold wrC
    by_cases h : q = p
    · rw [if_pos h]
      rfl
    · rw [if_neg h, List.map_cons, List.map_cons, wrC_keys r p c]
theorem wrC_mem : ∀ {l : List (Addr × HD)} {p : Addr} {c : HD} {x : Addr × HD}, (l.map (·.1)).Nodup → x ∈ wrC l p c → (x.1 = p ∧ x.2 = c) ∨ (x.1 ≠ p ∧ x ∈ l)
  | [], _, _, _, _, h => by cases h
  | (q, y) :: r, p, c, x, nd, h => by
    unfold wrC at h
    obtain ⟨n1, n2⟩ := List.nodup_cons.mp nd
    by_cases hq : q = p
    · rw [if_pos hq] at h
      rcases List.mem_cons.mp h with rfl | h
      · exact .inl ⟨hq, rfl⟩
      · refine .inr ⟨fun z => n1 ?_, List.mem_cons_of_mem _ h⟩
        show q ∈ r.map (·.1)
        rw [hq, ← z]
        exact List.mem_map.mpr ⟨x, h, rfl⟩
    · rw [if_neg hq] at h
      rcases List.mem_cons.mp h with rfl | h
      · exact .inr ⟨hq, List.mem_cons_self⟩
      · rcases wrC_mem n2 h with h | ⟨h1, h2⟩
        · exact .inl h
        · exact .inr ⟨h1, List.mem_cons_of_mem _ h2⟩
def Sy.wr (Γ : Sy) (p : Addr) (c : HD) : Sy := ⟨Γ.g, wrC Γ.c p c⟩
/-- a cell written: an instance keeps class and dict -/
theorem Sta.write (S : Sta Z F H σ Γ) {c0 c : HD} {u0 u : HO} (hm : (p, c0) ∈ Γ.c) (hu : H p = some u0) (ho : HoOk Z.K F (upd H p u) p u c) (hk : Kd u0 u) (h0 : ∀ x, u0 ≠ .own x) : Sta Z F (upd H p u) σ (Γ.wr p c) := by
  obtain ⟨⟨u1, g1, g2, g3⟩, hown⟩ := S.ce _ hm
  have pk : p ∈ Γ.ks := List.mem_map.mpr ⟨_, hm, rfl⟩
  have hp : p ∈ Z.ps ∨ Z.H0 p = none := hown.imp id fun o => o.1
  have nF : ∀ {a : Addr} {o : HO}, F a = some o → a ≠ p := fun {a o} e z => by rw [z] at e; rw [g2] at e; cases e
  refine ⟨S.ff, fun a o e => by rw [upd_ne (nF e)]; exact S.fh a o e, fun a o ha h => ?_, S.fr, fun q hq => ?_, S.sl, fun x hx => ?_, ?_, S.ln, fun q hq => ?_⟩
  · have na : a ≠ p := fun z => by
      rcases hp with hp | hp
      · exact ha (z ▸ hp)
      · rw [z, hp] at h
        cases h
    rw [upd_ne na]
    exact S.hh a o ha h
  · obtain ⟨w0, w, k1, k2, k3⟩ := S.pp q hq
    by_cases hb : q = p
    · rw [hb] at k1 k2
      rw [hu] at k2
      cases k2
      exact ⟨w0, u, by rw [hb]; exact k1, by rw [hb]; exact upd_same, k3.trans hk⟩
    · exact ⟨w0, w, k1, by rw [upd_ne hb]; exact k2, k3⟩
  · rcases wrC_mem S.nd hx with ⟨e1, e2⟩ | ⟨e1, e2⟩
    · rw [e1, e2]
      refine ⟨⟨u, upd_same, g2, ho⟩, hown.imp id fun o => ⟨o.1, fun C dx fs h => ?_⟩⟩
      rw [upd_same] at h
      obtain ⟨fs', e⟩ := hk C dx fs (Option.some.inj h)
      exact o.2 C dx fs' (by rw [hu, e])
    · obtain ⟨c1, o1⟩ := S.ce x e2
      refine ⟨c1.mv (Same.refl _) (fun a o ha h => ?_) (fun _ _ _ _ => rfl), o1.imp id fun o => ⟨o.1, fun C dx fs h => o.2 C dx fs (by rw [upd_ne e1] at h; exact h)⟩⟩
      have na : a ≠ p := fun z => by
        rcases ha with ha | ha
        · exact e1 (ha.symm.trans z)
        · rw [z, hu, ha] at h
          exact h0 x.1 (Option.some.inj h)
      rw [upd_ne na]
      exact h
  · show ((wrC Γ.c p c).map (·.1)).Nodup
    rw [wrC_keys]
    exact S.nd
  · obtain ⟨x1, x2, x3, x4⟩ := S.xn q hq
    refine ⟨?_, x2, ?_, x4⟩
    · rw [upd_ne (fun z : q.1 = p => x3 (by rw [z]; exact pk))]
      exact x1
    · show q.1 ∉ (wrC Γ.c p c).map (·.1)
      rw [wrC_keys]
      exact x3
/-! ### cells by their place -/
inductive At : List (Addr × HD) → Nat → Addr → HD → Prop
  | z {p : Addr} {c : HD} {l : List (Addr × HD)} : At ((p, c) :: l) 0 p c
  | s {x : Addr × HD} {l : List (Addr × HD)} {n : Nat} {p : Addr} {c : HD} : At l n p c → At (x :: l) (n + 1) p c
theorem At.mem : ∀ {l : List (Addr × HD)} {n : Nat} {p : Addr} {c : HD}, At l n p c → (p, c) ∈ l
  | _, _, _, _, .z => List.mem_cons_self
  | _, _, _, _, .s h => List.mem_cons_of_mem _ h.mem
/-- the same with one content changed -/
inductive Rp : List (Addr × HD) → Addr → HD → HD → List (Addr × HD) → Prop
  | z {p : Addr} {c c' : HD} {l : List (Addr × HD)} : Rp ((p, c) :: l) p c c' ((p, c') :: l)
  | s {x : Addr × HD} {l l' : List (Addr × HD)} {p : Addr} {c c' : HD} : Rp l p c c' l' → Rp (x :: l) p c c' (x :: l')
theorem Rp.mem : ∀ {l l' : List (Addr × HD)} {p : Addr} {c c' : HD}, Rp l p c c' l' → (p, c) ∈ l
  | _, _, _, _, _, .z => List.mem_cons_self
  | _, _, _, _, _, .s h => List.mem_cons_of_mem _ h.mem
theorem Rp.eq : ∀ {l l' : List (Addr × HD)} {p : Addr} {c c' : HD}, (l.map (·.1)).Nodup → Rp l p c c' l' → l' = wrC l p c'
  | _, _, _, _, _, _, .z => by unfold wrC; rw [if_pos rfl]
  | (q, y) :: l, _, p, c, c', nd, .s h => by
    obtain ⟨n1, n2⟩ := List.nodup_cons.mp nd
    have ne : q ≠ p := fun z => n1 (by
      show q ∈ l.map (·.1)
      rw [z]
      exact List.mem_map.mpr ⟨_, h.mem, rfl⟩)
    unfold wrC
    rw [if_neg ne, h.eq n2]
/-- one cell taken out -/
inductive Rm : List (Addr × HD) → Addr → HD → List (Addr × HD) → Prop
  | z {p : Addr} {c : HD} {l : List (Addr × HD)} : Rm ((p, c) :: l) p c l
  | s {x : Addr × HD} {l l' : List (Addr × HD)} {p : Addr} {c : HD} : Rm l p c l' → Rm (x :: l) p c (x :: l')
theorem Rm.mem : ∀ {l l' : List (Addr × HD)} {p : Addr} {c : HD}, Rm l p c l' → ∀ x, x ∈ (p, c) :: l' ↔ x ∈ l
  | _, _, _, _, .z, x => Iff.rfl
  | y :: l, _, p, c, .s (l' := l') h, x => by
    have ih := h.mem x
    rw [List.mem_cons] at ih
    rw [List.mem_cons, List.mem_cons, List.mem_cons]
    constructor
    · rintro (e | e | e)
      · exact .inr (ih.mp (.inl e))
      · exact .inl e
      · exact .inr (ih.mp (.inr e))
    · rintro (e | e)
      · exact .inr (.inl e)
      · exact (ih.mpr e).imp id .inr
theorem Rm.nd : ∀ {l l' : List (Addr × HD)} {p : Addr} {c : HD}, Rm l p c l' → (l.map (·.1)).Nodup → (((p, c) :: l').map (·.1)).Nodup
  | _, _, _, _, .z, nd => nd
  | y :: l, _, p, c, .s (l' := l') h, nd => by
    obtain ⟨n1, n2⟩ := List.nodup_cons.mp nd
    obtain ⟨m1, m2⟩ := List.nodup_cons.mp (h.nd n2)
    have sub : ∀ a, a ∈ ((p, c) :: l').map (·.1) → a ∈ l.map (·.1) := fun a ha => by
      obtain ⟨x, hx, e⟩ := List.mem_map.mp ha
      exact List.mem_map.mpr ⟨x, (h.mem x).mp hx, e⟩
    refine List.nodup_cons.mpr ⟨fun z => ?_, List.nodup_cons.mpr ⟨fun z => n1 (sub _ (List.mem_cons_of_mem _ z)), m2⟩⟩
    rcases List.mem_cons.mp z with z | z
    · exact n1 (by rw [← z]; exact sub _ List.mem_cons_self)
    · exact m1 z
theorem Sta.rm {c : HD} {l' : List (Addr × HD)} (S : Sta Z F H σ Γ) (h : Rm Γ.c p c l') : Sta Z F H σ ((⟨Γ.g, l'⟩ : Sy).add p c) := S.sub (fun x hx => (h.mem x).mp hx) (h.nd S.nd)
/-- the data of a cell -/
def HD.d : HD → D
  | .lst ds => .list ds
  | .dk kvs => .dk kvs
  | .dt kvs => .dt kvs
  | .ins C fs => .ins C fs
/-- a cell of one's own is frozen -/
theorem Sta.freeze {c : HD} (S : Sta Z F H σ (Γ.add p c)) (hps : p ∉ Z.ps) : ∃ F', Same F F' ∧ Sta Z F' H σ Γ ∧ Dq Z.K F' (.ref p) c.d := by
  obtain ⟨⟨u, h1, h2, h3⟩, hown⟩ := S.ce (p, c) List.mem_cons_self
  have own := hown.resolve_left hps
  have ho : Z.H0 p = none := own.1
  have nk : p ∉ Γ.ks := (List.nodup_cons.mp S.nd).1
  have S0 : Sta Z F H σ Γ := S.sub (fun x hx => List.mem_cons_of_mem _ hx) (List.nodup_cons.mp S.nd).2
  have fin : ∀ {F' : Hp}, Same F F' → Same F' H → (∀ a o, Z.H0 a = some o → F' a = F a) → (∀ a o, H a = some o → (a ∈ Γ.ks ∨ ∃ q ∈ Γ.ks, o = .own q) → F' a = F a) → (∀ q ∈ Z.xt, F' q.1 = F q.1) → Sta Z F' H σ Γ := fun {F'} a1 a2 a3 a4 a5 => by
    refine ⟨S0.ff.trans a1, a2, S0.hh, fun a o h => (a3 a o h).trans (S0.fr a o h), S0.pp, fun i d hi => ?_, fun x hx => ?_, S0.nd, S0.ln, fun q hq => ?_⟩
    · obtain ⟨v, hv, ok⟩ := S0.sl i d hi
      exact ⟨v, hv, dq_same a1 ok⟩
    · have xk : x.1 ∈ Γ.ks := List.mem_map.mpr ⟨x, hx, rfl⟩
      exact ⟨(S0.ce x hx).1.mv a1 (fun _ _ _ h => h) (fun a o ha h => a4 a o h (ha.imp (fun z => by rw [z]; exact xk) fun z => ⟨x.1, xk, z⟩)), (S0.ce x hx).2⟩
    · obtain ⟨g1, g2, g3, g4⟩ := S0.xn q hq
      exact ⟨g1, (a5 q hq).trans g2, g3, g4⟩
  have one : (∀ x, u ≠ .own x) → Same F (upd F p u) ∧ Sta Z (upd F p u) H σ Γ := fun hu => by
    have sF : Same F (upd F p u) := upd_grow h2
    refine ⟨sF, fin sF (fun a o e => ?_) (fun a o h => upd_ne fun z => by rw [z, ho] at h; cases h) (fun a o h ha => upd_ne fun z => ?_) fun q hq => upd_ne fun z => ?_⟩
    · by_cases hb : a = p
      · rw [hb, upd_same] at e
        rw [hb, h1]
        exact e
      · rw [upd_ne hb] at e
        exact S.fh a o e
    · rcases ha with ha | ⟨q, _, ha⟩
      · exact nk (z ▸ ha)
      · rw [z, h1, ha] at h
        exact hu q (Option.some.inj h)
    · exact (S.xn q hq).2.2.1 (by rw [z]; exact List.mem_cons_self)
  cases c with
  | lst ds =>
    cases u with
    | lst vs =>
      obtain ⟨sF, S1⟩ := one fun x z => nomatch z
      exact ⟨_, sF, S1, .lst (.inl (.inl upd_same)) (dqa_same sF h3)⟩
    | _ => exact h3.elim
  | dk kvs =>
    cases u with
    | dK vs =>
      obtain ⟨sF, S1⟩ := one fun x z => nomatch z
      exact ⟨_, sF, S1, .dk upd_same (dqk_same sF h3)⟩
    | _ => exact h3.elim
  | dt kvs =>
    cases u with
    | dT vs =>
      obtain ⟨sF, S1⟩ := one fun x z => nomatch z
      exact ⟨_, sF, S1, .dt upd_same (dqt_same sF h3)⟩
    | _ => exact h3.elim
  | ins C fs =>
    cases u with
    | ins C' dx xs =>
      obtain ⟨rfl, e1, e2, e3⟩ := h3
      have sF : Same F (upd F p (.ins (He.ga Z.K C) dx xs)) := upd_grow h2
      have hdp : dx ≠ p := fun z => by rw [z, h1] at e1; cases e1
      have e2' : (upd F p (.ins (He.ga Z.K C) dx xs)) dx = none := by rw [upd_ne hdp]; exact e2
      have sF2 : Same (upd F p (.ins (He.ga Z.K C) dx xs)) (upd (upd F p (.ins (He.ga Z.K C) dx xs)) dx (.own p)) := upd_grow e2'
      have hdx0 : Z.H0 dx = none := own.2 _ dx xs h1
      refine ⟨_, sF.trans sF2, fin (sF.trans sF2) (fun a o e => ?_) (fun a o h => ?_) (fun a o h ha => ?_) (fun q hq => ?_), .ins (by rw [upd_ne (fun z => hdp z.symm)]; exact upd_same) upd_same (dqf_same (sF.trans sF2) e3)⟩
      · by_cases hb : a = dx
        · rw [hb, upd_same] at e
          rw [hb, e1]
          exact e
        · rw [upd_ne hb] at e
          by_cases hb2 : a = p
          · rw [hb2, upd_same] at e
            rw [hb2, h1]
            exact e
          · rw [upd_ne hb2] at e
            exact S.fh a o e
      · rw [upd_ne (fun z => by rw [z, hdx0] at h; cases h), upd_ne (fun z => by rw [z, ho] at h; cases h)]
      · have n1 : a ≠ dx := fun z => by
          rcases ha with ha | ⟨q, hq, ha⟩
          · obtain ⟨c', u', _, g1, _, g3⟩ := S0.key ha
            rw [z, e1] at g1
            cases g1
            cases c' <;> exact g3.elim
          · rw [z, e1, ha] at h
            cases h
            exact nk hq
        have n2 : a ≠ p := fun z => by
          rcases ha with ha | ⟨q, hq, ha⟩
          · exact nk (z ▸ ha)
          · rw [z, h1, ha] at h
            cases h
        rw [upd_ne n1, upd_ne n2]
      · obtain ⟨g1, g2, g3, g4⟩ := S.xn q hq
        have n1 : q.1 ≠ dx := fun z => by
          rw [z, e1] at g1
          exact g4 p (Option.some.inj g1).symm
        have n2 : q.1 ≠ p := fun z => g3 (by rw [z]; exact List.mem_cons_self)
        rw [upd_ne n1, upd_ne n2]
    | _ => exact h3.elim
end
end Sl

set_option Elab.async false
set_option linter.all false
set_option autoImplicit false
set_option maxRecDepth 100000
set_option maxHeartbeats 4000000
namespace Sl
open PySem PySem.Spec PyProof.Rows L2
/-! ### judgements over data -/
def Ed (Z : Zx) (te : TE) (Γ : Sy) (R : D → Sy → Prop) : Prop := ∀ F H σ, Sta Z F H σ Γ → ∀ Q : VK, (∀ v F' H' d Γ', R d Γ' → Same F F' → Sta Z F' H' σ Γ' → Dq Z.K F' v d → Q v H') → te σ H Q
/-- without a change -/
def Ep (Z : Zx) (te : TE) (Γ : Sy) (d : D) : Prop := ∀ F H σ, Sta Z F H σ Γ → ∀ Q : VK, (∀ v F' H', Same F F' → Same H H' → Sta Z F' H' σ Γ → Dq Z.K F' v d → Q v H') → te σ H Q
def Et (Z : Zx) (t : TT) (Γ : Sy) (R : Bool → Sy → Prop) : Prop := ∀ F H σ, Sta Z F H σ Γ → ∀ Q : Bool → Hp → Prop, (∀ b F' H' Γ', R b Γ' → Same F F' → Sta Z F' H' σ Γ' → Q b H') → t σ H Q
def Ea (Z : Zx) (ta : TA) (Γ : Sy) (R : List D → Sy → Prop) : Prop := ∀ F H σ, Sta Z F H σ Γ → ∀ Q : List V → Hp → Prop, (∀ vs F' H' ds Γ', R ds Γ' → Same F F' → Sta Z F' H' σ Γ' → DqAll Z.K F' vs ds → Q vs H') → ta σ H Q
section
variable {Z : Zx} {Γ : Sy} {R : D → Sy → Prop} {ta tb te : TE} {d e : D} {i j : Int} {F H : Hp} {σ : St}
theorem Ed.imp {R' : D → Sy → Prop} (h : Ed Z te Γ R) (hi : ∀ d Γ', R d Γ' → R' d Γ') : Ed Z te Γ R' := fun F H σ S Q q => h F H σ S Q fun v F' H' d Γ' r => q v F' H' d Γ' (hi d Γ' r)
theorem Ep.ed (h : Ep Z te Γ d) (r : R d Γ) : Ed Z te Γ R := fun F H σ S Q q => h F H σ S Q fun v F' H' sF _ S' hd => q v F' H' d Γ r sF S' hd
/-! ### expressions -/
theorem e_var {k : Nat} (h : Γ.g[k]? = some (some d)) (r : R d Γ) : Ed Z (tVar k) Γ R := fun F H σ S Q q => by
  obtain ⟨v, hv, ok⟩ := S.sl k _ h
  exact ⟨v, hv, q v F H d Γ r (Same.refl _) S ok⟩
theorem e_int (r : R (.int i) Γ) : Ed Z (tC (.int i)) Γ R := fun F H σ S Q q => q _ F H _ Γ r (Same.refl _) S (.int i)
theorem e_bl {b : Bool} (r : R (.bool b) Γ) : Ed Z (tC (.bl b)) Γ R := fun F H σ S Q q => q _ F H _ Γ r (Same.refl _) S (.bl b)
theorem e_str {x : Str} (r : R (.str x) Γ) : Ed Z (tC (.str x)) Γ R := fun F H σ S Q q => q _ F H _ Γ r (Same.refl _) S (.str x)
theorem e_non (r : R .none Γ) : Ed Z (tC .non) Γ R := fun F H σ S Q q => q _ F H _ Γ r (Same.refl _) S .non
theorem p_var {k : Nat} (h : Γ.g[k]? = some (some d)) : Ep Z (tVar k) Γ d := fun F H σ S Q q => by
  obtain ⟨v, hv, ok⟩ := S.sl k _ h
  exact ⟨v, hv, q v F H (Same.refl _) (Same.refl _) S ok⟩
theorem p_int : Ep Z (tC (.int i)) Γ (.int i) := fun F H σ S Q q => q _ F H (Same.refl _) (Same.refl _) S (.int i)
theorem p_str {x : Str} : Ep Z (tC (.str x)) Γ (.str x) := fun F H σ S Q q => q _ F H (Same.refl _) (Same.refl _) S (.str x)
/-- what an operation asks, of data -/
def Ro (Z : Zx) (r : R2) (x y : D) (Γ : Sy) (R : D → Sy → Prop) : Prop := ∀ F H σ v w, Sta Z F H σ Γ → Dq Z.K F v x → Dq Z.K F w y → ∀ Q : VK, (∀ z F' H' d Γ', R d Γ' → Same F F' → Sta Z F' H' σ Γ' → Dq Z.K F' z d → Q z H') → r v w H Q
theorem e_op {r : R2} (h : Ed Z ta Γ fun x Γ1 => Ed Z tb Γ1 fun y Γ2 => Ro Z r x y Γ2 R) : Ed Z (tOp r ta tb) Γ R := fun F H σ S Q q =>
  h F H σ S _ fun v F1 H1 x Γ1 hb s1 S1 hv => hb F1 H1 σ S1 _ fun w F2 H2 y Γ2 hr s2 S2 hw =>
    hr F2 H2 σ v w S2 (dq_same s2 hv) hw Q fun z F3 H3 d Γ3 r s3 S3 hz => q z F3 H3 d Γ3 r ((s1.trans s2).trans s3) S3 hz
theorem e_un {r : V → Hp → VK → Prop} (h : Ed Z ta Γ fun x Γ1 => ∀ F H σ v, Sta Z F H σ Γ1 → Dq Z.K F v x → ∀ Q : VK, (∀ z F' H' d Γ', R d Γ' → Same F F' → Sta Z F' H' σ Γ' → Dq Z.K F' z d → Q z H') → r v H Q) : Ed Z (tUn r ta) Γ R := fun F H σ S Q q =>
  h F H σ S _ fun v F1 H1 x Γ1 hr s1 S1 hv => hr F1 H1 σ v S1 hv Q fun z F3 H3 d Γ3 r s3 S3 hz => q z F3 H3 d Γ3 r (s1.trans s3) S3 hz
theorem e_neg (h : Ed Z ta Γ fun x Γ1 => ∃ i, x = .int i ∧ R (.int (-i)) Γ1) : Ed Z (tUn (rU fun i => .int (-i)) ta) Γ R := e_un (h.imp fun x Γ1 ⟨i, e, r⟩ F H σ v S hv Q q => by
  subst e
  cases hv
  exact ⟨i, rfl, q _ F H _ Γ1 r (Same.refl _) S (.int _)⟩)
theorem o_int {f : Int → Int → Int} (r : R (.int (f i j)) Γ) : Ro Z (rI0 fun i j => .int (f i j)) (.int i) (.int j) Γ R := fun F H σ v w S hv hw Q q => by
  cases hv
  cases hw
  exact ⟨i, j, rfl, rfl, q _ F H _ Γ r (Same.refl _) S (.int _)⟩
theorem o_bool {f : Int → Int → Bool} (r : R (.bool (f i j)) Γ) : Ro Z (rI0 fun i j => .bl (f i j)) (.int i) (.int j) Γ R := fun F H σ v w S hv hw Q q => by
  cases hv
  cases hw
  exact ⟨i, j, rfl, rfl, q _ F H _ Γ r (Same.refl _) S (.bl _)⟩
theorem o_intC {C : Int → Int → Prop} {f : Int → Int → Int} (c : C i j) (r : R (.int (f i j)) Γ) : Ro Z (rI C fun i j => .int (f i j)) (.int i) (.int j) Γ R := fun F H σ v w S hv hw Q q => by
  cases hv
  cases hw
  exact ⟨i, j, rfl, rfl, c, q _ F H _ Γ r (Same.refl _) S (.int _)⟩
theorem o_eqI (r : R (.bool (decide (i = j))) Γ) : Ro Z rEq (.int i) (.int j) Γ R := fun F H σ v w S hv hw Q q => by
  cases hv
  cases hw
  refine ⟨rfl, ?_⟩
  have e : decide (V.int i = V.int j) = decide (i = j) := by
    by_cases h : i = j
    · rw [h, decide_eq_true rfl, decide_eq_true rfl]
    · rw [decide_eq_false h, decide_eq_false fun z => h (V.int.inj z)]
  rw [e]
  exact q _ F H _ Γ r (Same.refl _) S (.bl _)
theorem o_neI (r : R (.bool (!decide (i = j))) Γ) : Ro Z rNe (.int i) (.int j) Γ R := fun F H σ v w S hv hw Q q => by
  cases hv
  cases hw
  refine ⟨rfl, ?_⟩
  have e : decide (V.int i = V.int j) = decide (i = j) := by
    by_cases h : i = j
    · rw [h, decide_eq_true rfl, decide_eq_true rfl]
    · rw [decide_eq_false h, decide_eq_false fun z => h (V.int.inj z)]
  rw [e]
  exact q _ F H _ Γ r (Same.refl _) S (.bl _)
theorem dec_str {x y : Str} : decide (V.str x = V.str y) = decide (x = y) := by
  by_cases h : x = y
  · rw [h, decide_eq_true rfl, decide_eq_true rfl]
  · rw [decide_eq_false h, decide_eq_false fun z => h (V.str.inj z)]
theorem o_eqS {x y : Str} (r : R (.bool (decide (x = y))) Γ) : Ro Z rEq (.str x) (.str y) Γ R := fun F H σ v w S hv hw Q q => by
  cases hv
  cases hw
  refine ⟨rfl, ?_⟩
  rw [dec_str]
  exact q _ F H _ Γ r (Same.refl _) S (.bl _)
theorem o_neS {x y : Str} (r : R (.bool (!decide (x = y))) Γ) : Ro Z rNe (.str x) (.str y) Γ R := fun F H σ v w S hv hw Q q => by
  cases hv
  cases hw
  refine ⟨rfl, ?_⟩
  rw [dec_str]
  exact q _ F H _ Γ r (Same.refl _) S (.bl _)
def isN : D → Bool
  | .none => true
  | _ => false
theorem isN_ok {K : PySem.W.Frag} {v : V} {d : D} (h : Dq K F v d) : decide (v = .non) = isN d := by
  cases h <;> rfl
theorem o_isN (r : R (.bool (isN d)) Γ) : Ro Z (fun x y H Q => y = .non ∧ Q (.bl (decide (x = .non))) H) d .none Γ R := fun F H σ v w S hv hw Q q => by
  cases hw
  refine ⟨rfl, ?_⟩
  rw [isN_ok hv]
  exact q _ F H _ Γ r (Same.refl _) S (.bl _)
theorem o_notN (r : R (.bool (!isN d)) Γ) : Ro Z (fun x y H Q => y = .non ∧ Q (.bl (!decide (x = .non))) H) d .none Γ R := fun F H σ v w S hv hw Q q => by
  cases hw
  refine ⟨rfl, ?_⟩
  rw [isN_ok hv]
  exact q _ F H _ Γ r (Same.refl _) S (.bl _)
theorem o_ixT {ds : List D} (h : atI ds i = some d) (r : R d Γ) : Ro Z (rIxT Z.K) (.tuple ds) (.int i) Γ R := fun F H σ v w S hv hw Q q => by
  cases hw
  cases hv with
  | tup hs ha =>
    obtain ⟨z, g1, g2⟩ := dqa_atI ha h
    exact ⟨_, _, i, z, rfl, rfl, sqT_of S.fh hs, g1, q z F H d Γ r (Same.refl _) S g2⟩
theorem o_ixL {ds : List D} (h : atI ds i = some d) (r : R d Γ) : Ro Z (rIxL Z.K) (.list ds) (.int i) Γ R := fun F H σ v w S hv hw Q q => by
  cases hw
  cases hv with
  | lst hs ha =>
    obtain ⟨z, g1, g2⟩ := dqa_atI ha h
    exact ⟨_, _, i, z, rfl, rfl, S.fh.seq hs, g1, q z F H d Γ r (Same.refl _) S g2⟩
theorem o_ixS {x : Str} {c : Nat} (hl : x.length ≤ sizeLine) (h : atI x.cps.toList i = some c) (r : R (.str ⟨#[c]⟩) Γ) : Ro Z rIxS (.str x) (.int i) Γ R := fun F H σ v w S hv hw Q q => by
  cases hw
  cases hv
  exact ⟨x, i, c, rfl, rfl, hl, h, q _ F H _ Γ r (Same.refl _) S (.str _)⟩
theorem o_addS {x y : Str} (hl : x.length + y.length ≤ sizeLine) (r : R (.str (x ++ y)) Γ) : Ro Z (fun x y H Q => ∃ i j, x = .str i ∧ y = .str j ∧ i.length + j.length ≤ sizeLine ∧ Q (.str (i ++ j)) H) (.str x) (.str y) Γ R := fun F H σ v w S hv hw Q q => by
  cases hw
  cases hv
  exact ⟨x, y, rfl, rfl, hl, q _ F H _ Γ r (Same.refl _) S (.str _)⟩
/-! ### values in a tuple or list of flat things -/
def flatD : D → Bool
  | .none => true
  | .bool _ => true
  | .int _ => true
  | .str _ => true
  | _ => false
def flV : D → V
  | .bool b => .bl b
  | .int i => .int i
  | .str x => .str x
  | _ => .non
theorem flV_ok {K : PySem.W.Frag} {v : V} (h : Dq K F v d) (hf : flatD d = true) : v = flV d := by
  cases h <;> first | rfl | cases hf
theorem flVs_ok {K : PySem.W.Frag} : ∀ {vs : List V} {ds : List D}, DqAll K F vs ds → ds.all flatD = true → vs = ds.map flV
  | _, _, .nil, _ => rfl
  | _, _, .cons h a, c => by
    rw [List.all_cons] at c
    obtain ⟨c1, c2⟩ := Bool.and_eq_true_iff.mp c
    rw [List.map_cons, flV_ok h c1, flVs_ok a c2]
theorem flat_flV (h : flatD d = true) : flatV (flV d) = true := by
  cases d <;> first | rfl | cases h
theorem all_flV {ds : List D} (h : ds.all flatD = true) : (ds.map flV).all flatV = true := by
  induction ds with
  | nil => rfl
  | cons a r ih =>
    rw [List.all_cons] at h
    obtain ⟨c1, c2⟩ := Bool.and_eq_true_iff.mp h
    rw [List.map_cons, List.all_cons, flat_flV c1, ih c2] <;> rfl
def inD (x : D) (ds : List D) : Bool := inV (flV x) (ds.map flV)
theorem o_inT {ng : Bool} {x : D} {ds : List D} (hx : flatD x = true) (ha : ds.all flatD = true) (r : R (.bool (if ng then !inD x ds else inD x ds)) Γ) : Ro Z (rIn Z.K ng) x (.tuple ds) Γ R := fun F H σ v w S hv hw Q q => by
  cases hw with
  | tup hs hd =>
    rw [flV_ok hv hx]
    have e := flVs_ok hd ha
    subst e
    exact ⟨_, _, rfl, .inr (sqT_of S.fh hs), flat_flV hx, all_flV ha, q _ F H _ Γ r (Same.refl _) S (.bl _)⟩
theorem o_inL {ng : Bool} {x : D} {ds : List D} (hx : flatD x = true) (ha : ds.all flatD = true) (r : R (.bool (if ng then !inD x ds else inD x ds)) Γ) : Ro Z (rIn Z.K ng) x (.list ds) Γ R := fun F H σ v w S hv hw Q q => by
  cases hw with
  | lst hs hd =>
    rw [flV_ok hv hx]
    have e := flVs_ok hd ha
    subst e
    exact ⟨_, _, rfl, .inl (S.fh.seq hs), flat_flV hx, all_flV ha, q _ F H _ Γ r (Same.refl _) S (.bl _)⟩
/-! ### arguments, displays -/
theorem a_nil {R : List D → Sy → Prop} (r : R [] Γ) : Ea Z tNil Γ R := fun F H σ S Q q => q [] F H [] Γ r (Same.refl _) S .nil
theorem a_cons {R : List D → Sy → Prop} {tr : TA} (h : Ed Z te Γ fun d Γ1 => Ea Z tr Γ1 fun ds Γ2 => R (d :: ds) Γ2) : Ea Z (tCons te tr) Γ R := fun F H σ S Q q =>
  h F H σ S _ fun v F1 H1 d Γ1 hr s1 S1 hv => hr F1 H1 σ S1 _ fun vs F2 H2 ds Γ2 r s2 S2 hvs => q (v :: vs) F2 H2 (d :: ds) Γ2 r (s1.trans s2) S2 (.cons (dq_same s2 hv) hvs)
theorem e_tup {ta : TA} (h : Ea Z ta Γ fun ds Γ1 => ds.length ≤ 1000 ∧ R (.tuple ds) Γ1) : Ed Z (tTup ta) Γ R := fun F H σ S Q q =>
  h F H σ S _ fun vs F1 H1 ds Γ1 ⟨hl, r⟩ s1 S1 hvs => ⟨by rw [dqa_len hvs]; exact Nat.le_of_lt (small1000 hl), fun p hp => by
    have s2 : Same F1 (upd F1 p (.tup vs)) := upd_grow (S1.freeF hp)
    exact q (.ref p) _ _ _ Γ1 r (s1.trans s2) (S1.frozen hp _) (.tup upd_same (dqa_same s2 hvs))⟩
theorem e_lst {ta : TA} (h : Ea Z ta Γ fun ds Γ1 => ds.length ≤ 1000 ∧ R (.list ds) Γ1) : Ed Z (tLst ta) Γ R := fun F H σ S Q q =>
  h F H σ S _ fun vs F1 H1 ds Γ1 ⟨hl, r⟩ s1 S1 hvs => ⟨by rw [dqa_len hvs]; exact Nat.le_of_lt (small1000 hl), fun p hp => by
    have s2 : Same F1 (upd F1 p (.lst vs)) := upd_grow (S1.freeF hp)
    exact q (.ref p) _ _ _ Γ1 r (s1.trans s2) (S1.frozen hp _) (.lst (.inl (.inl upd_same)) (dqa_same s2 hvs))⟩
/-- a new list as a cell -/
theorem e_lstC {ta : TA} (h : Ea Z ta Γ fun ds Γ1 => ds.length ≤ 1000 ∧ ∀ p, p ∉ Γ1.ks → R (.ref p) (Γ1.add p (.lst ds))) : Ed Z (tLst ta) Γ R := fun F H σ S Q q =>
  h F H σ S _ fun vs F1 H1 ds Γ1 ⟨hl, r⟩ s1 S1 hvs => ⟨by rw [dqa_len hvs]; exact Nat.le_of_lt (small1000 hl), fun p hp =>
    q (.ref p) F1 _ _ _ (r p (S1.noKey hp)) s1 (S1.laid hp (c := .lst ds) hvs fun C dx fs z => nomatch z) (.ref p)⟩
theorem p_lst0 : Ep Z (tLst tNil) Γ (.list []) := fun F H σ S Q q => ⟨Nat.zero_le _, fun p hp =>
  q (.ref p) _ _ (upd_grow (S.freeF hp)) (upd_grow hp) (S.frozen hp _) (.lst (.inl (.inl upd_same)) .nil)⟩
theorem p_lst1 (h : Ep Z te Γ d) : Ep Z (tLst (tCons te tNil)) Γ (.list [d]) := fun F H σ S Q q =>
  h F H σ S _ fun v F1 H1 s1 sH S1 hv => ⟨by show 1 ≤ sizeLine; decide, fun p hp => by
    have s2 : Same F1 (upd F1 p (.lst [v])) := upd_grow (S1.freeF hp)
    exact q (.ref p) _ _ (s1.trans s2) (sH.trans (upd_grow hp)) (S1.frozen hp _) (.lst (.inl (.inl upd_same)) (dqa_one (dq_same s2 hv)))⟩
theorem p_op {f : Int → Int → Int} (ha : Ep Z ta Γ (.int i)) (hb : Ep Z tb Γ (.int j)) : Ep Z (tOp (rI0 fun i j => .int (f i j)) ta tb) Γ (.int (f i j)) := fun F H σ S Q q =>
  ha F H σ S _ fun v F1 H1 s1 sH S1 hv => hb F1 H1 σ S1 _ fun w F2 H2 s2 sH2 S2 hw => by
    cases hv
    cases hw
    exact ⟨i, j, rfl, rfl, q _ F2 H2 (s1.trans s2) (sH.trans sH2) S2 (.int _)⟩
/-! ### built-ins by values -/
def Rc (Z : Zx) (r : List V → Hp → VK → Prop) (xs : List D) (Γ : Sy) (R : D → Sy → Prop) : Prop := ∀ F H σ vs, Sta Z F H σ Γ → DqAll Z.K F vs xs → ∀ Q : VK, (∀ z F' H' d Γ', R d Γ' → Same F F' → Sta Z F' H' σ Γ' → Dq Z.K F' z d → Q z H') → r vs H Q
theorem e_cb {r : List V → Hp → VK → Prop} {ta : TA} (h : Ea Z ta Γ fun xs Γ1 => Rc Z r xs Γ1 R) : Ed Z (tCB r ta) Γ R := fun F H σ S Q q =>
  h F H σ S _ fun vs F1 H1 ds Γ1 hr s1 S1 hvs => hr F1 H1 σ vs S1 hvs Q fun z F2 H2 d Γ2 r s2 S2 hz => q z F2 H2 d Γ2 r (s1.trans s2) S2 hz
theorem c_lenS {x : Str} (hl : x.length ≤ sizeLine) (r : R (.int x.length) Γ) : Rc Z (fun xs H Q => ∃ z, xs = [.str z] ∧ z.length ≤ sizeLine ∧ Q (.int z.length) H) [.str x] Γ R := fun F H σ vs S hv Q q => by
  cases hv with
  | cons h a =>
    cases h
    cases a
    exact ⟨x, rfl, hl, q _ F H _ Γ r (Same.refl _) S (.int _)⟩
theorem c_lenL {ds : List D} (r : R (.int ds.length) Γ) : Rc Z (fun xs H Q => ∃ p ys, xs = [.ref p] ∧ (SqL Z.K H p ys ∨ SqT Z.K H p ys) ∧ Q (.int ys.length) H) [.list ds] Γ R := fun F H σ vs S hv Q q => by
  cases hv with
  | cons h a =>
    cases a
    cases h with
    | lst hs hd =>
      refine ⟨_, _, rfl, .inl (S.fh.seq hs), ?_⟩
      rw [dqa_len hd]
      exact q _ F H _ Γ r (Same.refl _) S (.int _)
theorem c_lenT {ds : List D} (r : R (.int ds.length) Γ) : Rc Z (fun xs H Q => ∃ p ys, xs = [.ref p] ∧ (SqL Z.K H p ys ∨ SqT Z.K H p ys) ∧ Q (.int ys.length) H) [.tuple ds] Γ R := fun F H σ vs S hv Q q => by
  cases hv with
  | cons h a =>
    cases a
    cases h with
    | tup hs hd =>
      refine ⟨_, _, rfl, .inr (sqT_of S.fh hs), ?_⟩
      rw [dqa_len hd]
      exact q _ F H _ Γ r (Same.refl _) S (.int _)
theorem c_intB {b : Bool} (r : R (.int (if b then 1 else 0)) Γ) : Rc Z (fun xs H Q => (∃ i, xs = [.int i] ∧ Q (.int i) H) ∨ ∃ k, xs = [.bl k] ∧ Q (.int (if k then 1 else 0)) H) [.bool b] Γ R := fun F H σ vs S hv Q q => by
  cases hv with
  | cons h a =>
    cases h
    cases a
    exact .inr ⟨b, rfl, q _ F H _ Γ r (Same.refl _) S (.int _)⟩
theorem c_all {bs : List Bool} (r : R (.bool (bs.all id)) Γ) : Rc Z (rAll Z.K) [.list (bs.map D.bool)] Γ R := fun F H σ vs S hv Q q => by
  cases hv with
  | cons h a =>
    cases a
    cases h with
    | lst hs hd =>
      have e := bools_dqa hd
      subst e
      exact ⟨_, bs, rfl, S.fh.seq hs, q _ F H _ Γ r (Same.refl _) S (.bl _)⟩
theorem c_any {bs : List Bool} (r : R (.bool (bs.any id)) Γ) : Rc Z (rAny Z.K) [.list (bs.map D.bool)] Γ R := fun F H σ vs S hv Q q => by
  cases hv with
  | cons h a =>
    cases a
    cases h with
    | lst hs hd =>
      have e := bools_dqa hd
      subst e
      exact ⟨_, bs, rfl, S.fh.seq hs, q _ F H _ Γ r (Same.refl _) S (.bl _)⟩
/-! ### isinstance with a built-in class -/
def tyD : D → Option String
  | .none => some "NoneType"
  | .bool _ => some "bool"
  | .int _ => some "int"
  | .str _ => some "str"
  | .list _ => some "list"
  | .tuple _ => some "tuple"
  | .dk _ => some "dict"
  | _ => none
theorem tyX_of {K : PySem.W.Frag} {v : V} {n : String} (S : Same F H) (h : Dq K F v d) (hn : tyD d = some n) : TyX K H v (.type n) := by
  have h' := dq_same S h
  cases h' with
  | non => cases hn; exact .base .non
  | bl b => cases hn; exact .base (.bl b)
  | int i => cases hn; exact .base (.int i)
  | str x => cases hn; exact .base (.str x)
  | dk hr => cases hn; exact .base (.dK hr)
  | lst hs _ =>
    cases hn
    rcases hs with (hs | ⟨o, hs⟩) | ⟨o, _, _, h1, h2, _⟩
    · exact .base (.lst hs)
    · exact .base (.frz hs)
    · exact .kList h1 h2
  | tup hs _ =>
    cases hn
    exact .base (.tup hs)
  | ref p => cases hn
  | dt hr => cases hn
  | ins hr => cases hn
def tTy (n : String) : TE := tC (.ty n)
theorem e_isi {n : String} (h : Ed Z ta Γ fun d Γ1 => ∃ m b, tyD d = some m ∧ PySem.W.kitOne Z.K (.type m) (.type n) = some b ∧ R (.bool b) Γ1) : Ed Z (tCB (rIsi Z.K) (tCons ta (tCons (tC (.ty n)) tNil))) Γ R := fun F H σ S Q q =>
  h F H σ S _ fun v F1 H1 d Γ1 ⟨m, b, hm, hb, r⟩ s1 S1 hv => ⟨v, .ty n, .type m, .type n, b, rfl, .ty n, tyX_of S1.fh hv hm, hb, q _ F1 H1 _ Γ1 r s1 S1 (.bl b)⟩
/-! ### slices -/
def cutD (ds : List D) (lo hi : Option Int) : List D := (ds.drop (HT.sIx ds.length 0 lo)).take (HT.sIx ds.length ds.length hi - HT.sIx ds.length 0 lo)
def Eo (Z : Zx) (to : TO) (Γ : Sy) (R : Option Int → Sy → Prop) : Prop := ∀ F H σ, Sta Z F H σ Γ → ∀ Q : Option Int → Hp → Prop, (∀ o F' H' Γ', R o Γ' → Same F F' → Sta Z F' H' σ Γ' → Q o H') → to σ H Q
theorem o_no {R : Option Int → Sy → Prop} (r : R none Γ) : Eo Z tNoPart Γ R := fun F H σ S Q q => q none F H Γ r (Same.refl _) S
theorem o_so {R : Option Int → Sy → Prop} (h : Ed Z te Γ fun d Γ1 => ∃ i, d = .int i ∧ R (some i) Γ1) : Eo Z (tPart te) Γ R := fun F H σ S Q q =>
  h F H σ S _ fun v F1 H1 d Γ1 ⟨i, e, r⟩ s1 S1 hv => by
    subst e
    cases hv
    exact ⟨i, rfl, q _ F1 H1 Γ1 r s1 S1⟩
theorem e_slS {tl th : TO} (h : Ed Z te Γ fun d Γ1 => ∃ x, d = .str x ∧ x.length ≤ sizeLine ∧ Eo Z tl Γ1 fun lo Γ2 => Eo Z th Γ2 fun hi Γ3 => R (.str (cutS x lo hi)) Γ3) : Ed Z (tSl rSlS te tl th) Γ R := fun F H σ S Q q =>
  h F H σ S _ fun v F1 H1 d Γ1 ⟨x, e, hl, h2⟩ s1 S1 hv => by
    subst e
    cases hv
    exact h2 F1 H1 σ S1 _ fun lo F2 H2 Γ2 h3 s2 S2 => h3 F2 H2 σ S2 _ fun hi F3 H3 Γ3 r s3 S3 => ⟨x, rfl, hl, q _ F3 H3 _ Γ3 r ((s1.trans s2).trans s3) S3 (.str _)⟩
theorem dqa_cut {K : PySem.W.Frag} {vs : List V} {ds : List D} {lo hi : Option Int} (a : DqAll K F vs ds) : DqAll K F (cutV vs lo hi) (cutD ds lo hi) := by
  unfold cutV cutD
  rw [dqa_len a]
  exact dqa_take _ (dqa_drop _ a)
/-! ### tests -/
variable {RB : Bool → Sy → Prop} {t u : TT}
theorem Et.imp {R' : Bool → Sy → Prop} (h : Et Z t Γ RB) (hi : ∀ b Γ', RB b Γ' → R' b Γ') : Et Z t Γ R' := fun F H σ S Q q => h F H σ S Q fun b F' H' Γ' r => q b F' H' Γ' (hi b Γ' r)
theorem t_test (h : Ed Z te Γ fun d Γ1 => ∃ b, d = .bool b ∧ RB b Γ1) : Et Z (tTest te) Γ RB := fun F H σ S Q q =>
  h F H σ S _ fun v F1 H1 d Γ1 ⟨b, e, r⟩ s1 S1 hv => by
    subst e
    cases hv
    exact ⟨b, rfl, q b F1 H1 Γ1 r s1 S1⟩
theorem t_B (h : Ed Z te Γ fun d Γ1 => ∃ b, d = .bool b ∧ RB b Γ1) : Et Z (tB te) Γ RB := fun F H σ S Q q =>
  h F H σ S _ fun v F1 H1 d Γ1 ⟨b, e, r⟩ s1 S1 hv => by
    subst e
    cases hv
    exact ⟨b, rfl, q b F1 H1 Γ1 r s1 S1⟩
theorem t_and (h : Et Z t Γ fun b Γ1 => (b = true → Et Z u Γ1 RB) ∧ (b = false → RB false Γ1)) : Et Z (tAnd t u) Γ RB := fun F H σ S Q q =>
  h F H σ S _ fun b F1 H1 Γ1 ⟨h1, h2⟩ s1 S1 => by
    cases b with
    | true => exact iteT (h1 rfl F1 H1 σ S1 Q fun b F' H' Γ' r s => q b F' H' Γ' r (s1.trans s))
    | false => exact iteF (q false F1 H1 Γ1 (h2 rfl) s1 S1)
theorem t_or (h : Et Z t Γ fun b Γ1 => (b = false → Et Z u Γ1 RB) ∧ (b = true → RB true Γ1)) : Et Z (tOr t u) Γ RB := fun F H σ S Q q =>
  h F H σ S _ fun b F1 H1 Γ1 ⟨h1, h2⟩ s1 S1 => by
    cases b with
    | false => exact iteF (h1 rfl F1 H1 σ S1 Q fun b F' H' Γ' r s => q b F' H' Γ' r (s1.trans s))
    | true => exact iteT (q true F1 H1 Γ1 (h2 rfl) s1 S1)
theorem t_not (h : Et Z t Γ fun b Γ1 => RB (!b) Γ1) : Et Z (tNot t) Γ RB := fun F H σ S Q q => h F H σ S _ fun b F1 H1 Γ1 r s1 S1 => q (!b) F1 H1 Γ1 r s1 S1
end
end Sl

set_option Elab.async false
set_option linter.all false
set_option autoImplicit false
set_option maxRecDepth 100000
set_option maxHeartbeats 4000000
namespace Sl
open PySem PySem.Spec PyProof.Rows L2
/-! ### lists, frozen or cells -/
inductive LsOf (Γ : Sy) : D → List D → Prop
  | fz {ds : List D} : LsOf Γ (.list ds) ds
  | ce {n : Nat} {p : Addr} {ds : List D} : At Γ.c n p (.lst ds) → LsOf Γ (.ref p) ds
section
variable {Z : Zx} {Γ : Sy} {R : D → Sy → Prop} {ta tb te : TE} {d e x : D} {i j : Int} {F H : Hp} {σ : St} {v : V} {ds es : List D} {p : Addr} {n : Nat}
theorem Sta.at_ {c : HD} (S : Sta Z F H σ Γ) (h : At Γ.c n p c) : Cell Z.K F H p c := (S.ce _ h.mem).1
theorem Sta.atL (S : Sta Z F H σ Γ) (h : At Γ.c n p (.lst ds)) : ∃ vs, H p = some (.lst vs) ∧ F p = none ∧ DqAll Z.K F vs ds := by
  obtain ⟨u, h1, h2, h3⟩ := S.at_ h
  cases u with
  | lst vs => exact ⟨vs, h1, h2, h3⟩
  | _ => exact h3.elim
theorem LsOf.ok (h : LsOf Γ d ds) (S : Sta Z F H σ Γ) (hv : Dq Z.K F v d) : ∃ a vs, v = .ref a ∧ SqL Z.K H a vs ∧ DqAll Z.K F vs ds := by
  cases h with
  | fz =>
    cases hv with
    | lst hs ha => exact ⟨_, _, rfl, S.fh.seq hs, ha⟩
  | ce ha =>
    cases hv
    obtain ⟨vs, h1, _, h3⟩ := S.atL ha
    exact ⟨_, vs, rfl, SqL.of h1, h3⟩
theorem o_ixLs (hl : LsOf Γ x ds) (h : atI ds i = some d) (r : R d Γ) : Ro Z (rIxL Z.K) x (.int i) Γ R := fun F H σ v w S hv hw Q q => by
  cases hw
  obtain ⟨a, vs, rfl, hs, ha⟩ := hl.ok S hv
  obtain ⟨z, g1, g2⟩ := dqa_atI ha h
  exact ⟨a, vs, i, z, rfl, rfl, hs, g1, q z F H d Γ r (Same.refl _) S g2⟩
theorem c_lenLs (hl : LsOf Γ x ds) (r : R (.int ds.length) Γ) : Rc Z (fun xs H Q => ∃ p ys, xs = [.ref p] ∧ (SqL Z.K H p ys ∨ SqT Z.K H p ys) ∧ Q (.int ys.length) H) [x] Γ R := fun F H σ vs S hv Q q => by
  cases hv with
  | cons h a =>
    cases a
    obtain ⟨p, xs, rfl, hs, ha⟩ := hl.ok S h
    refine ⟨p, xs, rfl, .inl hs, ?_⟩
    rw [dqa_len ha]
    exact q _ F H _ Γ r (Same.refl _) S (.int _)
/-- a new list, frozen -/
theorem Sta.newL {vs : List V} (S : Sta Z F H σ Γ) (hp : H p = none) (hv : DqAll Z.K F vs ds) : Same F (upd F p (.lst vs)) ∧ Sta Z (upd F p (.lst vs)) (upd H p (.lst vs)) σ Γ ∧ Dq Z.K (upd F p (.lst vs)) (.ref p) (.list ds) := by
  have s2 : Same F (upd F p (.lst vs)) := upd_grow (S.freeF hp)
  exact ⟨s2, S.frozen hp _, .lst (.inl (.inl upd_same)) (dqa_same s2 hv)⟩
/-- a new list, a cell -/
theorem Sta.newC {vs : List V} (S : Sta Z F H σ Γ) (hp : H p = none) (hv : DqAll Z.K F vs ds) : Sta Z F (upd H p (.lst vs)) σ (Γ.add p (.lst ds)) := S.laid hp (c := .lst ds) hv fun C dx fs z => nomatch z
theorem e_slLs {tl th : TO} (h : Ed Z te Γ fun d Γ1 => Eo Z tl Γ1 fun lo Γ2 => Eo Z th Γ2 fun hi Γ3 => ∃ ds, LsOf Γ3 d ds ∧ R (.list (cutD ds lo hi)) Γ3) : Ed Z (tSl (rSlL Z.K) te tl th) Γ R := fun F H σ S Q q =>
  h F H σ S _ fun v F1 H1 d Γ1 h2 s1 S1 hv => h2 F1 H1 σ S1 _ fun lo F2 H2 Γ2 h3 s2 S2 => h3 F2 H2 σ S2 _ fun hi F3 H3 Γ3 ⟨ds, hl, r⟩ s3 S3 => by
    obtain ⟨a, vs, rfl, hs, ha⟩ := hl.ok S3 (dq_same (s2.trans s3) hv)
    refine ⟨a, vs, rfl, hs, fun p hp => ?_⟩
    obtain ⟨g1, g2, g3⟩ := S3.newL hp (dqa_cut (lo := lo) (hi := hi) ha)
    exact q _ _ _ _ Γ3 r (((s1.trans s2).trans s3).trans g1) g2 g3
theorem e_slLsC {tl th : TO} (h : Ed Z te Γ fun d Γ1 => Eo Z tl Γ1 fun lo Γ2 => Eo Z th Γ2 fun hi Γ3 => ∃ ds, LsOf Γ3 d ds ∧ ∀ p, p ∉ Z.ps → R (.ref p) (Γ3.add p (.lst (cutD ds lo hi)))) : Ed Z (tSl (rSlL Z.K) te tl th) Γ R := fun F H σ S Q q =>
  h F H σ S _ fun v F1 H1 d Γ1 h2 s1 S1 hv => h2 F1 H1 σ S1 _ fun lo F2 H2 Γ2 h3 s2 S2 => h3 F2 H2 σ S2 _ fun hi F3 H3 Γ3 ⟨ds, hl, r⟩ s3 S3 => by
    obtain ⟨a, vs, rfl, hs, ha⟩ := hl.ok S3 (dq_same (s2.trans s3) hv)
    refine ⟨a, vs, rfl, hs, fun p hp => ?_⟩
    exact q _ _ _ _ _ (r p (S3.noPs hp)) ((s1.trans s2).trans s3) (S3.newC hp (dqa_cut (lo := lo) (hi := hi) ha)) (.ref p)
theorem cutV_whole {α : Type} {xs : List α} {lo hi : Option Int} (h : HT.sIx xs.length 0 lo = 0 ∧ HT.sIx xs.length xs.length hi = xs.length) : (xs.drop (HT.sIx xs.length 0 lo)).take (HT.sIx xs.length xs.length hi - HT.sIx xs.length 0 lo) = xs := by
  rw [h.1, h.2, List.drop_zero, Nat.sub_zero, List.take_length]
theorem e_slT {tl th : TO} (h : Ed Z te Γ fun d Γ1 => ∃ ds, d = .tuple ds ∧ Eo Z tl Γ1 fun lo Γ2 => Eo Z th Γ2 fun hi Γ3 => R (.tuple (cutD ds lo hi)) Γ3) : Ed Z (tSl (rSlA Z.K) te tl th) Γ R := fun F H σ S Q q =>
  h F H σ S _ fun v F1 H1 d Γ1 ⟨ds, e, h2⟩ s1 S1 hv => by
    subst e
    cases hv with
    | @tup a vs _ hs ha =>
      refine h2 F1 H1 σ S1 _ fun lo F2 H2 Γ2 h3 s2 S2 => h3 F2 H2 σ S2 _ fun hi F3 H3 Γ3 r s3 S3 => ?_
      have s23 := s2.trans s3
      refine ⟨a, vs, rfl, sqT_of S3.fh (s23 _ _ hs), fun hw => ?_, fun _ p hp => ?_⟩
      · refine q _ F3 H3 _ Γ3 r (s1.trans s23) S3 ?_
        have e : cutD ds lo hi = ds := by
          unfold cutD
          rw [← dqa_len ha]
          have := cutV_whole (xs := ds) (lo := lo) (hi := hi) (by rw [← dqa_len ha]; exact hw)
          rw [← dqa_len ha] at this
          exact this
        rw [e]
        exact .tup (s23 _ _ hs) (dqa_same s23 ha)
      · have s4 : Same F3 (upd F3 p (.tup (cutV vs lo hi))) := upd_grow (S3.freeF hp)
        exact q _ _ _ _ Γ3 r ((s1.trans s23).trans s4) (S3.frozen hp _) (.tup upd_same (dqa_same s4 (dqa_cut (dqa_same s23 ha))))
/-- list(xs): a copy -/
theorem e_listOf (h : Ed Z te Γ fun d Γ1 => ∃ ds, LsOf Γ1 d ds ∧ R (.list ds) Γ1) : Ed Z (tCB (fun xs H Q => ∃ p ys, xs = [.ref p] ∧ (SqL Z.K H p ys ∨ SqT Z.K H p ys) ∧ ∀ l, H l = none → Q (.ref l) (upd H l (.lst ys))) (tCons te tNil)) Γ R := fun F H σ S Q q =>
  h F H σ S _ fun v F1 H1 d Γ1 ⟨ds, hl, r⟩ s1 S1 hv => by
    obtain ⟨a, vs, rfl, hs, ha⟩ := hl.ok S1 hv
    refine ⟨a, vs, rfl, .inl hs, fun p hp => ?_⟩
    obtain ⟨g1, g2, g3⟩ := S1.newL hp ha
    exact q _ _ _ _ Γ1 r (s1.trans g1) g2 g3
theorem e_listOfC (h : Ed Z te Γ fun d Γ1 => ∃ ds, LsOf Γ1 d ds ∧ ∀ p, p ∉ Z.ps → R (.ref p) (Γ1.add p (.lst ds))) : Ed Z (tCB (fun xs H Q => ∃ p ys, xs = [.ref p] ∧ (SqL Z.K H p ys ∨ SqT Z.K H p ys) ∧ ∀ l, H l = none → Q (.ref l) (upd H l (.lst ys))) (tCons te tNil)) Γ R := fun F H σ S Q q =>
  h F H σ S _ fun v F1 H1 d Γ1 ⟨ds, hl, r⟩ s1 S1 hv => by
    obtain ⟨a, vs, rfl, hs, ha⟩ := hl.ok S1 hv
    exact ⟨a, vs, rfl, .inl hs, fun p hp => q _ _ _ _ _ (r p (S1.noPs hp)) s1 (S1.newC hp ha) (.ref p)⟩
theorem e_lstN {ta : TA} (h : Ea Z ta Γ fun ds Γ1 => ds.length ≤ 1000 ∧ ∀ p, p ∉ Z.ps → R (.ref p) (Γ1.add p (.lst ds))) : Ed Z (tLst ta) Γ R := fun F H σ S Q q =>
  h F H σ S _ fun vs F1 H1 ds Γ1 ⟨hl, r⟩ s1 S1 hvs => ⟨by rw [dqa_len hvs]; exact Nat.le_of_lt (small1000 hl), fun p hp =>
    q (.ref p) F1 _ _ _ (r p (S1.noPs hp)) s1 (S1.newC hp hvs) (.ref p)⟩
/-! ### a cell written -/
theorem Sta.wrL {es : List D} {l' : List (Addr × HD)} {vs : List V} (S : Sta Z F H σ Γ) (h : Rp Γ.c p (.lst ds) (.lst es) l') (hv : DqAll Z.K F vs es) : Sta Z F (upd H p (.lst vs)) σ ⟨Γ.g, l'⟩ := by
  obtain ⟨⟨u, h1, h2, h3⟩, _⟩ := S.ce _ h.mem
  have e := h.eq S.nd
  have S2 := S.write (u := .lst vs) (c := .lst es) h.mem h1 hv (fun C dx fs z => nomatch z) (fun x z => by
    subst z
    exact h3.elim)
  rw [e]
  exact S2
theorem Rp.atL {l l' : List (Addr × HD)} {c c' : HD} : Rp l p c c' l' → ∃ n, At l n p c := fun h => by
  induction h with
  | z => exact ⟨0, .z⟩
  | s _ ih =>
    obtain ⟨n, h⟩ := ih
    exact ⟨n + 1, .s h⟩
theorem Sta.rdL (S : Sta Z F H σ Γ) {c' : HD} {l' : List (Addr × HD)} (h : Rp Γ.c p (.lst ds) c' l') : ∃ vs, H p = some (.lst vs) ∧ DqAll Z.K F vs ds := by
  obtain ⟨n, h⟩ := h.atL
  obtain ⟨vs, h1, _, h3⟩ := S.atL h
  exact ⟨vs, h1, h3⟩
end
end Sl

set_option Elab.async false
set_option linter.all false
set_option autoImplicit false
set_option maxRecDepth 100000
set_option maxHeartbeats 4000000
namespace Sl
open PySem PySem.Spec PyProof.Rows L2
/-! ### statements -/
structure DE where
  nx : Sy → Prop
  rt : D → Sy → Prop
  bk : Sy → Prop := fun _ => False
  ct : Sy → Prop := fun _ => False
def Sd (Z : Zx) (t : TS) (Γ : Sy) (E : DE) : Prop := ∀ F H σ, Sta Z F H σ Γ → ∀ D : Ends,
  (∀ F' H' σ' Γ', E.nx Γ' → Same F F' → Sta Z F' H' σ' Γ' → D.nx σ' H') →
  (∀ v F' H' σ' d Γ', E.rt d Γ' → Same F F' → Sta Z F' H' σ' Γ' → Dq Z.K F' v d → D.rt v H') →
  (∀ F' H' σ' Γ', E.bk Γ' → Same F F' → Sta Z F' H' σ' Γ' → D.bk σ' H') →
  (∀ F' H' σ' Γ', E.ct Γ' → Same F F' → Sta Z F' H' σ' Γ' → D.ct σ' H') → t D σ H
section
variable {Z : Zx} {Γ : Sy} {E : DE} {ta tb te : TE} {t u : TS} {tc : TT} {F H : Hp} {σ : St} {p : Addr} {ds es : List D} {R : D → Sy → Prop}
theorem s_seq (h : Sd Z t Γ { E with nx := fun Γ1 => Sd Z u Γ1 E }) : Sd Z (tSeq t u) Γ E := fun F H σ S D n r b c =>
  h F H σ S { D with nx := u D } (fun F' H' σ' Γ' hu s S' => hu F' H' σ' S' D (fun F2 H2 σ2 Γ2 e s2 => n F2 H2 σ2 Γ2 e (s.trans s2)) (fun v F2 H2 σ2 rv Γ2 e s2 => r v F2 H2 σ2 rv Γ2 e (s.trans s2)) (fun F2 H2 σ2 Γ2 e s2 => b F2 H2 σ2 Γ2 e (s.trans s2)) (fun F2 H2 σ2 Γ2 e s2 => c F2 H2 σ2 Γ2 e (s.trans s2))) r b c
theorem s_cut {M : Sy → Prop} (h : Sd Z t Γ { E with nx := M }) (k : ∀ Γ1, M Γ1 → Sd Z u Γ1 E) : Sd Z (tSeq t u) Γ E := s_seq fun F H σ S D n r b c => h F H σ S D (fun F' H' σ' Γ' m => n F' H' σ' Γ' (k Γ' m)) r b c
theorem Sd.imp {E' : DE} (h : Sd Z t Γ E) (h1 : ∀ Γ', E.nx Γ' → E'.nx Γ') (h2 : ∀ rv Γ', E.rt rv Γ' → E'.rt rv Γ') (h3 : ∀ Γ', E.bk Γ' → E'.bk Γ') (h4 : ∀ Γ', E.ct Γ' → E'.ct Γ') : Sd Z t Γ E' := fun F H σ S D n r b c =>
  h F H σ S D (fun F' H' σ' Γ' e => n F' H' σ' Γ' (h1 _ e)) (fun v F' H' σ' rv Γ' e => r v F' H' σ' rv Γ' (h2 _ _ e)) (fun F' H' σ' Γ' e => b F' H' σ' Γ' (h3 _ e)) (fun F' H' σ' Γ' e => c F' H' σ' Γ' (h4 _ e))
theorem s_next (h : E.nx Γ) : Sd Z tNext Γ E := fun F H σ S D n _ _ _ => n F H σ Γ h (Same.refl _) S
theorem s_brk (h : E.bk Γ) : Sd Z tBreak Γ E := fun F H σ S D _ _ b _ => b F H σ Γ h (Same.refl _) S
theorem s_cont (h : E.ct Γ) : Sd Z tCont Γ E := fun F H σ S D _ _ _ c => c F H σ Γ h (Same.refl _) S
theorem s_set {i : Nat} (h : Ed Z te Γ fun d Γ1 => E.nx (Γ1.put i d)) : Sd Z (tAsg te (gName i)) Γ E := fun F H σ S D n _ _ _ =>
  h F H σ S _ fun v F' H' d Γ' e s S' hv => n F' H' _ _ e s (S'.put hv)
theorem s_if (h : Et Z tc Γ fun b Γ1 => (b = true → Sd Z t Γ1 E) ∧ (b = false → Sd Z u Γ1 E)) : Sd Z (tIfS tc t u) Γ E := fun F H σ S D n r b c =>
  h F H σ S _ fun k F' H' Γ' ⟨h1, h2⟩ s S' => by
    have go : ∀ {t : TS}, Sd Z t Γ' E → t D σ H' := fun {t} h => h F' H' σ S' D (fun F2 H2 σ2 Γ2 e s2 => n F2 H2 σ2 Γ2 e (s.trans s2)) (fun v F2 H2 σ2 rv Γ2 e s2 => r v F2 H2 σ2 rv Γ2 e (s.trans s2)) (fun F2 H2 σ2 Γ2 e s2 => b F2 H2 σ2 Γ2 e (s.trans s2)) (fun F2 H2 σ2 Γ2 e s2 => c F2 H2 σ2 Γ2 e (s.trans s2))
    cases k with
    | true => exact iteT (go (h1 rfl))
    | false => exact iteF (go (h2 rfl))
theorem s_ret (h : Ed Z te Γ fun d Γ1 => E.rt d Γ1) : Sd Z (tRet te) Γ E := fun F H σ S D _ r _ _ => h F H σ S _ fun v F' H' d Γ' e s S' hv => r v F' H' σ d Γ' e s S' hv
theorem s_retN (h : E.rt .none Γ) : Sd Z tRetN Γ E := fun F H σ S D _ r _ _ => r .non F H σ .none Γ h (Same.refl _) S .non
theorem s_drop (h : Ed Z te Γ fun _ Γ1 => E.nx Γ1) : Sd Z (tDrop te) Γ E := fun F H σ S D n _ _ _ => h F H σ S _ fun v F' H' d Γ' e s S' hv => n F' H' σ Γ' e s S'
/-- cells forgotten or in another order -/
theorem s_sub {c' : List (Addr × HD)} (hm : ∀ x ∈ c', x ∈ Γ.c) (nd : Γ.ks.Nodup → (c'.map (·.1)).Nodup) (h : Sd Z t ⟨Γ.g, c'⟩ E) : Sd Z t Γ E := fun F H σ S => h F H σ (S.sub hm (nd S.nd))
/-- a cell of one's own frozen in what an expression tells -/
theorem e_frz (h : Ed Z te Γ fun d Γ1 => ∃ p c l', d = .ref p ∧ Rm Γ1.c p c l' ∧ p ∉ Z.ps ∧ R c.d ⟨Γ1.g, l'⟩) : Ed Z te Γ R := fun F H σ S Q q =>
  h F H σ S Q fun v F1 H1 d Γ1 ⟨p, c, l', e, hr, hp, r⟩ s1 S1 hv => by
    subst e
    cases hv
    obtain ⟨F2, s2, S2, h2⟩ := (S1.rm hr).freeze hp
    exact q _ F2 H1 _ _ r (s1.trans s2) S2 h2
/-! ### list methods on a cell -/
theorem e_pop (h : Ed Z te Γ fun x Γ1 => ∃ p ds d l', x = .ref p ∧ Rp Γ1.c p (.lst (ds ++ [d])) (.lst ds) l' ∧ R d ⟨Γ1.g, l'⟩) : Ed Z (tBM0 Z.K "list" rPop te) Γ R := fun F H σ S Q q =>
  h F H σ S _ fun v F1 H1 x Γ1 ⟨p, ds, d, l', e, hr, r⟩ s1 S1 hv => by
    subst e
    cases hv
    obtain ⟨vs, g2, g3⟩ := S1.rdL hr
    have ln := dqa_len g3
    rw [List.length_append, List.length_singleton] at ln
    obtain ⟨v, hv, hd⟩ := dqa_get (i := ds.length) g3 (by rw [List.getElem?_append_right (Nat.le_refl _), Nat.sub_self]; rfl)
    have e : vs[vs.length - 1]? = some v := by
      rw [ln, Nat.add_sub_cancel]
      exact hv
    have dl : DqAll Z.K F1 vs.dropLast ds := by
      have := dqa_take ds.length g3
      rw [List.take_left] at this
      rw [List.dropLast_eq_take, ln, Nat.add_sub_cancel]
      exact this
    exact ⟨.inl ⟨rfl, vs, SqL.of g2⟩, p, vs, v, rfl, rfl, g2, e, q v F1 _ d _ r s1 (S1.wrL hr dl) hd⟩
theorem e_popAt {ti : TE} (h : Ed Z te Γ fun x Γ1 => (∃ p n ds, x = .ref p ∧ At Γ1.c n p (.lst ds)) ∧ Ed Z ti Γ1 fun y Γ2 => ∃ p i k ds d l', x = .ref p ∧ y = .int i ∧ -(2 ^ 63) ≤ i ∧ i < 2 ^ 63 ∧ seqIndex? i ds.length = some k ∧ ds[k]? = some d ∧ Rp Γ2.c p (.lst ds) (.lst (ds.eraseIdx k)) l' ∧ R d ⟨Γ2.g, l'⟩) : Ed Z (tBM Z.K "list" rPopAt te (tCons ti tNil)) Γ R := fun F H σ S Q q =>
  h F H σ S _ fun v F1 H1 x Γ1 ⟨⟨p, n, ds, e, ha⟩, h2⟩ s1 S1 hv => by
    subst e
    cases hv
    obtain ⟨vs0, g1, _, _⟩ := S1.atL ha
    refine ⟨.inl ⟨rfl, vs0, SqL.of g1⟩, h2 F1 H1 σ S1 _ fun w F2 H2 y Γ2 ⟨p', i, k, ds, d, l', e1, e2, h3, h4, h5, h6, hr, r⟩ s2 S2 hw => ?_⟩
    subst e2
    cases e1
    cases hw
    obtain ⟨vs, g2, g3⟩ := S2.rdL hr
    obtain ⟨v, hv, hd⟩ := dqa_get g3 h6
    exact ⟨p, vs, i, k, v, rfl, rfl, g2, h3, h4, by rw [dqa_len g3]; exact h5, hv, q v F2 _ d _ r (s1.trans s2) (S2.wrL hr (dqa_eraseIdx k g3)) hd⟩
theorem e_app (h : Ed Z te Γ fun x Γ1 => (∃ p n ds, x = .ref p ∧ At Γ1.c n p (.lst ds)) ∧ Ed Z ta Γ1 fun d Γ2 => ∃ p ds l', x = .ref p ∧ ds.length < 100000 ∧ Rp Γ2.c p (.lst ds) (.lst (ds ++ [d])) l' ∧ R .none ⟨Γ2.g, l'⟩) : Ed Z (tBM Z.K "list" rAppend te (tCons ta tNil)) Γ R := fun F H σ S Q q =>
  h F H σ S _ fun v F1 H1 x Γ1 ⟨⟨p, n, ds, e, ha⟩, h2⟩ s1 S1 hv => by
    subst e
    cases hv
    obtain ⟨vs0, g1, _, _⟩ := S1.atL ha
    refine ⟨.inl ⟨rfl, vs0, SqL.of g1⟩, h2 F1 H1 σ S1 _ fun w F2 H2 d Γ2 ⟨p', ds, l', e1, hl, hr, r⟩ s2 S2 hw => ?_⟩
    cases e1
    obtain ⟨vs, g2, g3⟩ := S2.rdL hr
    exact ⟨p, vs, w, rfl, rfl, g2, by rw [dqa_len g3]; exact Nat.lt_of_lt_of_le hl (by decide), q _ F2 _ _ _ r (s1.trans s2) (S2.wrL hr (dqa_app g3 (dqa_one hw))) .non⟩
end
end Sl

set_option Elab.async false
set_option linter.all false
set_option autoImplicit false
set_option maxRecDepth 100000
set_option maxHeartbeats 4000000
namespace Sl
open PySem PySem.Spec PyProof.Rows L2
section
variable {Z : Zx} {Γ : Sy} {E : DE} {ta tb te to ti : TE} {t u : TS} {tc : TT} {F H : Hp} {σ : St} {p : Addr} {ds es : List D} {R : D → Sy → Prop}
theorem Sta.sub1 {q : Addr} {c : HD} {l' : List (Addr × HD)} (S : Sta Z F H σ Γ) (h : Rm Γ.c q c l') : Sta Z F H σ ⟨Γ.g, l'⟩ := S.sub (fun x hx => (h.mem x).mp (List.mem_cons_of_mem _ hx)) (List.nodup_cons.mp (h.nd S.nd)).2
theorem e_ext (h : Ed Z te Γ fun x Γ1 => (∃ p n ds, x = .ref p ∧ At Γ1.c n p (.lst ds)) ∧ Ed Z ta Γ1 fun y Γ2 => ∃ p q ds es l' l'', x = .ref p ∧ y = .ref q ∧ ds.length + es.length < 100000 ∧ Rp Γ2.c p (.lst ds) (.lst (ds ++ es)) l' ∧ Rm Γ2.c q (.lst es) l'' ∧ R .none ⟨Γ2.g, l'⟩) : Ed Z (tBM Z.K "list" rExtend te (tCons ta tNil)) Γ R := fun F H σ S Q q =>
  h F H σ S _ fun v F1 H1 x Γ1 ⟨⟨p, n, ds, e, ha⟩, h2⟩ s1 S1 hv => by
    subst e
    cases hv
    obtain ⟨vs0, g1, _, _⟩ := S1.atL ha
    refine ⟨.inl ⟨rfl, vs0, SqL.of g1⟩, h2 F1 H1 σ S1 _ fun w F2 H2 d Γ2 ⟨p', b, ds, es, l', l'', e1, e2, hl, hr, hm, r⟩ s2 S2 hw => ?_⟩
    cases e1
    subst e2
    cases hw
    obtain ⟨vs, g2, g3⟩ := S2.rdL hr
    obtain ⟨ws, k2, _, k3⟩ : ∃ ws, H2 b = some (.lst ws) ∧ F2 b = none ∧ DqAll Z.K F2 ws es := by
      obtain ⟨⟨u, k1, k2, k3⟩, _⟩ := S2.ce _ ((hm.mem _).mp List.mem_cons_self)
      cases u with
      | lst ws => exact ⟨ws, k1, k2, k3⟩
      | _ => exact k3.elim
    exact ⟨p, b, vs, ws, rfl, rfl, g2, k2, by rw [dqa_len g3, dqa_len k3]; exact Nat.le_of_lt (Nat.lt_of_lt_of_le hl (by decide)), q _ F2 _ _ _ r (s1.trans s2) (S2.wrL hr (dqa_app g3 k3)) .non⟩
/-- xs[i] = e, xs a cell -/
theorem s_setI (h : Ed Z te Γ fun d Γ1 => Ed Z to Γ1 fun x Γ2 => Ed Z ti Γ2 fun y Γ3 => ∃ p i j ds l', x = .ref p ∧ y = .int i ∧ ixN ds.length i = some j ∧ Rp Γ3.c p (.lst ds) (.lst (ds.set j d)) l' ∧ E.nx ⟨Γ3.g, l'⟩) : Sd Z (tAsg te (gSub to ti rSetL)) Γ E := fun F H σ S D n _ _ _ =>
  h F H σ S _ fun v F1 H1 d Γ1 h1 s1 S1 hv => h1 F1 H1 σ S1 _ fun v2 F2 H2 x Γ2 h2 s2 S2 hx => h2 F2 H2 σ S2 _ fun w F3 H3 y Γ3 ⟨p, i, j, ds, l', e1, e2, hj, hr, r⟩ s3 S3 hw => by
    subst e1 e2
    cases hx
    cases hw
    obtain ⟨vs, g2, g3⟩ := S3.rdL hr
    exact ⟨p, vs, i, j, rfl, rfl, g2, by rw [dqa_len g3]; exact hj, n F3 _ σ _ r ((s1.trans s2).trans s3) (S3.wrL hr (dqa_set j g3 (dq_same (s2.trans s3) hv)))⟩
/-! ### targets -/
def Gt (Z : Zx) (g : TG) (d : D) (Γ : Sy) (R : Sy → Prop) : Prop := ∀ F H σ v, Sta Z F H σ Γ → Dq Z.K F v d → ∀ Q : St → Hp → Prop, (∀ σ' Γ', R Γ' → Sta Z F H σ' Γ' → Q σ' H) → g v σ H Q
theorem g_name {i : Nat} {d : D} {R : Sy → Prop} (r : R (Γ.put i d)) : Gt Z (gName i) d Γ R := fun F H σ v S hv Q q => q _ _ r (S.put hv)
def Gs (Z : Zx) (g : TGs) (ds : List D) (Γ : Sy) (R : Sy → Prop) : Prop := ∀ F H σ vs, Sta Z F H σ Γ → DqAll Z.K F vs ds → ∀ Q : St → Hp → Prop, (∀ σ' Γ', R Γ' → Sta Z F H σ' Γ' → Q σ' H) → g vs σ H Q
theorem gs_nil {R : Sy → Prop} (r : R Γ) : Gs Z gNil [] Γ R := fun F H σ vs S hv Q q => by
  cases hv
  exact ⟨rfl, q σ Γ r S⟩
theorem gs_cons {g : TG} {gr : TGs} {d : D} {ds : List D} {R : Sy → Prop} (h : Gt Z g d Γ fun Γ1 => Gs Z gr ds Γ1 R) : Gs Z (gCons g gr) (d :: ds) Γ R := fun F H σ vs S hv Q q => by
  cases hv with
  | cons h1 h2 => exact ⟨_, _, rfl, h F H σ _ S h1 _ fun σ' Γ' hr S' => hr F H σ' _ S' h2 Q q⟩
theorem g_tup {n : Nat} {gr : TGs} {ds : List D} {R : Sy → Prop} (hn : ds.length = n) (h : Gs Z gr ds Γ R) : Gt Z (gTup Z.K n gr) (.tuple ds) Γ R := fun F H σ v S hv Q q => by
  cases hv with
  | tup hs hd => exact ⟨_, _, rfl, sqT_of S.fh hs, by rw [dqa_len hd]; exact hn, h F H σ _ S hd Q q⟩
theorem s_asgT {n : Nat} {gr : TGs} (h : Ed Z te Γ fun d Γ1 => Gt Z (gTup Z.K n gr) d Γ1 E.nx) : Sd Z (tAsg te (gTup Z.K n gr)) Γ E := fun F H σ S D nx _ _ _ =>
  h F H σ S _ fun v F' H' d Γ' hg s S' hv => hg F' H' σ v S' hv _ fun σ' Γ2 e S2 => nx F' H' σ' Γ2 e s S2
/-! ### iterators: src, the cell that is walked through (none: frozen things) -/
def SrcOk (src : Option (Addr × List D)) (Γ : Sy) : Prop := match src with
  | none => True
  | some (p, ds) => (p, HD.lst ds) ∈ Γ.c
structure WalkD (Z : Zx) (F1 : Hp) (J : It) (ds : List D) (src : Option (Addr × List D)) : Prop where
  go : ∀ (i : Nat) F H σ Γ, Same F1 F → Sta Z F H σ Γ → SrcOk src Γ → i < ds.length → J.go i H
  stop : ∀ F H σ Γ, Same F1 F → Sta Z F H σ Γ → SrcOk src Γ → J.stop ds.length H
  yld : ∀ (i : Nat) d v H' F H σ Γ, Same F1 F → Sta Z F H σ Γ → SrcOk src Γ → ds[i]? = some d → J.yld i H v H' → (H' = H ∧ Dq Z.K F v d) ∨ ∃ T vs es, v = .ref T ∧ H T = none ∧ H' = upd H T (.tup vs) ∧ d = .tuple es ∧ DqAll Z.K F vs es
end
end Sl

set_option Elab.async false
set_option linter.all false
set_option autoImplicit false
set_option maxRecDepth 100000
set_option maxHeartbeats 4000000
namespace Sl
open PySem PySem.Spec PyProof.Rows L2
section
variable {Z : Zx} {Γ : Sy} {E : DE} {ta tb te to ti : TE} {t u : TS} {tc : TT} {F H : Hp} {σ : St} {p : Addr} {ds es : List D}
abbrev Src := Option (Addr × List D)
theorem WalkD.next {F1 H' : Hp} {J : It} {ds : List D} {src : Src} (w : WalkD Z F1 J ds src) {i : Nat} {d : D} {v : V} (S : Sta Z F H σ Γ) (ok : SrcOk src Γ) (e : Same F1 F) (hd : ds[i]? = some d) (hy : J.yld i H v H') : ∃ F', Same F F' ∧ Sta Z F' H' σ Γ ∧ Dq Z.K F' v d := by
  rcases w.yld i d v H' F H σ Γ e S ok hd hy with ⟨rfl, h⟩ | ⟨T, vs, es, rfl, hT, rfl, rfl, h⟩
  · exact ⟨F, Same.refl _, S, h⟩
  · have s2 : Same F (upd F T (.tup vs)) := upd_grow (S.freeF hT)
    exact ⟨_, s2, S.frozen hT _, .tup upd_same (dqa_same s2 h)⟩
def Ei (Z : Zx) (wi : TI) (Γ : Sy) (R : List D → Src → Sy → Prop) : Prop := ∀ F H σ, Sta Z F H σ Γ → ∀ Q : It → Hp → Prop, (∀ J F' H' ds src Γ', R ds src Γ' → Same F F' → Sta Z F' H' σ Γ' → WalkD Z F' J ds src → Q J H') → wi σ H Q
/-- for .. in ..: I by the turn -/
theorem s_for {wi : TI} {g : TG} {tb : TS} (h : Ei Z wi Γ fun ds src Γ1 => ∃ I : Nat → Sy → Prop, I 0 Γ1 ∧ (∀ i Γ', I i Γ' → SrcOk src Γ') ∧ (∀ i d Γ', ds[i]? = some d → I i Γ' → Gt Z g d Γ' fun Γ2 => Sd Z tb Γ2 { E with nx := I (i + 1), ct := I (i + 1), bk := E.nx }) ∧ ∀ Γ', I ds.length Γ' → E.nx Γ') : Sd Z (tFor wi g tb) Γ E := fun F H σ S D n r b c =>
  h F H σ S _ fun J F1 H1 ds src Γ1 ⟨I, h0, hso, hs, hd⟩ s1 S1 w => by
    refine ⟨fun i m σ' H' => m = ds.length - i ∧ i ≤ ds.length ∧ ∃ F' Γ', I i Γ' ∧ Same F1 F' ∧ Sta Z F' H' σ' Γ', ⟨_, rfl, Nat.zero_le _, F1, Γ1, h0, Same.refl _, S1⟩, ?_⟩
    rintro i m σ2 H2 ⟨rfl, hi, F2, Γ2, hI, s2, S2⟩
    by_cases hlt : i < ds.length
    · refine .inr ⟨w.go i F2 H2 σ2 Γ2 s2 S2 (hso i Γ2 hI) hlt, fun σ' H' => i + 1 ≤ ds.length ∧ ∃ F' Γ', I (i + 1) Γ' ∧ Same F1 F' ∧ Sta Z F' H' σ' Γ', fun σ' H' hN => ⟨ds.length - (i + 1), by omega, rfl, hN.1, hN.2⟩, fun x H3 hy => ?_⟩
      obtain ⟨d, hd'⟩ : ∃ d, ds[i]? = some d := ⟨ds[i], List.getElem?_eq_getElem hlt⟩
      obtain ⟨F3, s3, S3, hx⟩ := w.next S2 (hso i Γ2 hI) s2 hd' hy
      have s13 := s2.trans s3
      refine hs i d Γ2 hd' hI F3 H3 σ2 x S3 hx _ fun σ4 Γ4 hb S4 => ?_
      have nxt : ∀ {F' H' σ' Γ'}, I (i + 1) Γ' → Same F3 F' → Sta Z F' H' σ' Γ' → i + 1 ≤ ds.length ∧ ∃ F' Γ', I (i + 1) Γ' ∧ Same F1 F' ∧ Sta Z F' H' σ' Γ' := fun {F' H' σ' Γ'} e s S' => ⟨hlt, F', Γ', e, s13.trans s, S'⟩
      exact hb F3 H3 σ4 S4 _ (fun F' H' σ' Γ' e s S' => nxt e s S') (fun v F' H' σ' rv Γ' e s => r v F' H' σ' rv Γ' e ((s1.trans s13).trans s)) (fun F' H' σ' Γ' e s => n F' H' σ' Γ' e ((s1.trans s13).trans s)) (fun F' H' σ' Γ' e s S' => nxt e s S')
    · have ei : i = ds.length := by omega
      subst ei
      exact .inl ⟨w.stop F2 H2 σ2 Γ2 s2 S2 (hso _ Γ2 hI), n F2 H2 σ2 Γ2 (hd Γ2 hI) (s1.trans s2) S2⟩
/-- while ..: I by a measure -/
theorem s_while {tb : TS} (I : Nat → Sy → Prop) (m0 : Nat) (h0 : I m0 Γ) (hs : ∀ m Γ', I m Γ' → Et Z tc Γ' fun b Γ2 => (b = true → Sd Z tb Γ2 { E with nx := fun Γ3 => ∃ m', m' < m ∧ I m' Γ3, ct := fun Γ3 => ∃ m', m' < m ∧ I m' Γ3, bk := E.nx }) ∧ (b = false → E.nx Γ2)) : Sd Z (tWhile tc tb) Γ E := fun F H σ S D n r b c => by
  refine ⟨fun m σ' H' => ∃ F' Γ', I m Γ' ∧ Same F F' ∧ Sta Z F' H' σ' Γ', ⟨m0, F, Γ, h0, Same.refl _, S⟩, ?_⟩
  rintro m σ2 H2 ⟨F2, Γ2, hI, s2, S2⟩
  refine hs m Γ2 hI F2 H2 σ2 S2 _ fun k F3 H3 Γ3 ⟨h1, h2⟩ s3 S3 => ?_
  have s23 := s2.trans s3
  cases k with
  | false => exact iteF (n F3 H3 σ2 Γ3 (h2 rfl) s23 S3)
  | true =>
    refine iteT ⟨fun σ' H' => ∃ m', m' < m ∧ ∃ F' Γ', I m' Γ' ∧ Same F F' ∧ Sta Z F' H' σ' Γ', fun σ' H' z => z, ?_⟩
    exact h1 rfl F3 H3 σ2 S3 _ (fun F' H' σ' Γ' ⟨m', hm, e⟩ s S' => ⟨m', hm, F', Γ', e, s23.trans s, S'⟩) (fun v F' H' σ' rv Γ' e s => r v F' H' σ' rv Γ' e (s23.trans s)) (fun F' H' σ' Γ' e s => n F' H' σ' Γ' e (s23.trans s)) (fun F' H' σ' Γ' ⟨m', hm, e⟩ s S' => ⟨m', hm, F', Γ', e, s23.trans s, S'⟩)
/-! ### sources -/
inductive LsAs (Γ : Sy) : D → List D → Src → Prop
  | fz {ds : List D} : LsAs Γ (.list ds) ds none
  | ce {n : Nat} {p : Addr} {ds : List D} : At Γ.c n p (.lst ds) → LsAs Γ (.ref p) ds (some (p, ds))
/-- the list stands in each state of the walk -/
theorem LsAs.ok {d : D} {src : Src} {F1 H1 : Hp} {v : V} (h : LsAs Γ d ds src) (S1 : Sta Z F1 H1 σ Γ) (hv : Dq Z.K F1 v d) : ∃ a, v = .ref a ∧ ∀ F H σ' Γ', Same F1 F → Sta Z F H σ' Γ' → SrcOk src Γ' → ∃ xs, SqL Z.K H a xs ∧ DqAll Z.K F xs ds := by
  cases h with
  | fz =>
    cases hv with
    | @lst a xs _ hs ha => exact ⟨a, rfl, fun F H σ' Γ' s S _ => ⟨xs, S.fh.seq (s.seq hs), dqa_same s ha⟩⟩
  | @ce n p _ ha =>
    cases hv
    refine ⟨p, rfl, fun F H σ' Γ' s S ok => ?_⟩
    obtain ⟨⟨u, h1, h2, h3⟩, _⟩ := S.ce _ ok
    cases u with
    | lst vs => exact ⟨vs, SqL.of h1, h3⟩
    | _ => exact h3.elim
theorem LsAs.src {d : D} {src : Src} (h : LsAs Γ d ds src) : SrcOk src Γ := by
  cases h with
  | fz => trivial
  | ce ha => exact ha.mem
theorem i_list {tl : TE} {R : List D → Src → Sy → Prop} (h : Ed Z tl Γ fun d Γ1 => ∃ ds src, LsAs Γ1 d ds src ∧ R ds src Γ1) : Ei Z (iList Z.K tl) Γ R := fun F H σ S Q q =>
  h F H σ S _ fun v F1 H1 d Γ1 ⟨ds, src, hl, r⟩ s1 S1 hv => by
    obtain ⟨a, rfl, hw⟩ := hl.ok S1 hv
    obtain ⟨xs0, hs0, _⟩ := hw F1 H1 σ Γ1 (Same.refl _) S1 hl.src
    refine ⟨a, rfl, ⟨xs0, hs0⟩, q _ F1 H1 ds src Γ1 r s1 S1 ⟨fun i F2 H2 σ2 Γ2 s2 S2 ok hi => ?_, fun F2 H2 σ2 Γ2 s2 S2 ok => ?_, fun i d v H' F2 H2 σ2 Γ2 s2 S2 ok hd' hy => ?_⟩⟩
    · obtain ⟨xs, hs, hd⟩ := hw F2 H2 σ2 Γ2 s2 S2 ok
      rw [← dqa_len hd] at hi
      exact ⟨xs, xs[i], hs, List.getElem?_eq_getElem hi⟩
    · obtain ⟨xs, hs, hd⟩ := hw F2 H2 σ2 Γ2 s2 S2 ok
      exact ⟨xs, hs, by rw [dqa_len hd]; exact Nat.le_refl _⟩
    · obtain ⟨xs, hs, hd⟩ := hw F2 H2 σ2 Γ2 s2 S2 ok
      obtain ⟨rfl, hx⟩ := hy
      obtain ⟨w, hw, hdw⟩ := dqa_get hd hd'
      have := hx xs hs
      rw [hw] at this
      injection this with this
      subst this
      exact .inl ⟨rfl, hdw⟩
theorem i_tup {tl : TE} {R : List D → Src → Sy → Prop} (h : Ed Z tl Γ fun d Γ1 => ∃ ds, d = .tuple ds ∧ R ds none Γ1) : Ei Z (iTup Z.K tl) Γ R := fun F H σ S Q q =>
  h F H σ S _ fun v F1 H1 d Γ1 ⟨ds, e, r⟩ s1 S1 hv => by
    subst e
    cases hv with
    | @tup a xs _ hs hd =>
      refine ⟨a, rfl, ⟨xs, sqT_of S1.fh hs⟩, q _ F1 H1 ds none Γ1 r s1 S1 ⟨fun i F2 H2 σ2 Γ2 s2 S2 _ hi => ?_, fun F2 H2 σ2 Γ2 s2 S2 _ => ?_, fun i d v H' F2 H2 σ2 Γ2 s2 S2 _ hd' hy => ?_⟩⟩
      · rw [← dqa_len hd] at hi
        exact ⟨xs, xs[i], sqT_of S2.fh (s2 _ _ hs), List.getElem?_eq_getElem hi⟩
      · exact ⟨xs, sqT_of S2.fh (s2 _ _ hs), by rw [dqa_len hd]; exact Nat.le_refl _⟩
      · obtain ⟨rfl, hx⟩ := hy
        obtain ⟨w, hw, hdw⟩ := dqa_get (dqa_same s2 hd) hd'
        have := hx xs (sqT_of S2.fh (s2 _ _ hs))
        rw [hw] at this
        injection this with this
        subst this
        exact .inl ⟨rfl, hdw⟩
def rangeD (lo : Int) (n : Nat) : List D := (List.range n).map fun i => .int (lo + (i : Nat))
theorem rangeD_len (lo : Int) (n : Nat) : (rangeD lo n).length = n := by simp [rangeD]
theorem rangeD_get {lo : Int} {n i : Nat} {d : D} (h : (rangeD lo n)[i]? = some d) : i < n ∧ d = .int (lo + (i : Nat)) := by
  unfold rangeD at h
  rw [List.getElem?_map] at h
  cases e : (List.range n)[i]? with
  | none => rw [e] at h; cases h
  | some j =>
    rw [e] at h
    obtain ⟨h1, h2⟩ := List.getElem?_eq_some_iff.mp e
    rw [List.getElem_range] at h2
    rw [List.length_range] at h1
    injection h with h
    rw [← h, ← h2]
    exact ⟨h1, rfl⟩
theorem walkD_range {F1 : Hp} {lo : Int} {n : Nat} : WalkD Z F1 (Itr lo n) (rangeD lo n) none := by
  refine ⟨fun i F2 H2 _ _ _ _ _ hi => ?_, fun F2 H2 _ _ _ _ _ => ?_, fun i d v H' F2 H2 _ _ s2 s3 _ hd' hy => ?_⟩
  · rw [rangeD_len] at hi
    exact hi
  · rw [rangeD_len]
    exact Nat.le_refl _
  · obtain ⟨rfl, rfl⟩ := hy
    obtain ⟨_, rfl⟩ := rangeD_get hd'
    exact .inl ⟨rfl, .int _⟩
theorem i_range1 {ta : TE} {R : List D → Src → Sy → Prop} (h : Ed Z ta Γ fun d Γ1 => ∃ n : Int, d = .int n ∧ -(2 ^ 62) ≤ n ∧ n < 2 ^ 62 ∧ R (rangeD 0 n.toNat) none Γ1) : Ei Z (iRng1 (tCons ta tNil)) Γ R := fun F H σ S Q q =>
  h F H σ S _ fun v F1 H1 d Γ1 ⟨n, e, h1, h2, r⟩ s1 S1 hv => by
    subst e
    cases hv
    exact ⟨n, rfl, h1, h2, q _ F1 H1 _ none Γ1 r s1 S1 walkD_range⟩
end
end Sl

set_option Elab.async false
set_option linter.all false
set_option autoImplicit false
set_option maxRecDepth 100000
set_option maxHeartbeats 4000000
namespace Sl
open PySem PySem.Spec PyProof.Rows L2 Px
/-! ### promises with cells -/
abbrev Cs := List (Addr × HD)
abbrev keys (cs : Cs) : List Addr := cs.map (·.1)
theorem keys_app {a b : Cs} : keys (a ++ b) = keys a ++ keys b := List.map_append
structure Stp (F H : Hp) (ps : List Addr) (F' H' : Hp) : Prop where
  ff : Same F F'
  fh : Same F' H'
  hh : ∀ a o, a ∉ ps → H a = some o → H' a = some o
  fr : ∀ a o, H a = some o → F' a = F a
  pp : ∀ p ∈ ps, ∃ u0 u, H p = some u0 ∧ H' p = some u ∧ Kd u0 u
inductive Out where
  | ret (d : D)
  | exc (x : Str)
/-- cells behind a call -/
structure Cel (K : PySem.W.Frag) (H F' H' : Hp) (ps : List Addr) (cs : Cs) : Prop where
  ce : ∀ x ∈ cs, Cell K F' H' x.1 x.2 ∧ (x.1 ∈ ps ∨ (H x.1 = none ∧ ∀ C dx fs, H' x.1 = some (.ins C dx fs) → H dx = none))
  nd : (keys cs).Nodup
def SpG (K : PySem.W.Frag) {G : Type} (args : G → List D) (cs : G → Cs) (pre : G → Prop) (res : G → Out → Cs → Prop) : Sp := fun vs H Q E => ∃ g F, pre g ∧ Same F H ∧ DqAll K F vs (args g) ∧ (∀ x ∈ cs g, Cell K F H x.1 x.2) ∧ (keys (cs g)).Nodup ∧
  ∀ out cs', res g out cs' → ∀ F' H', Stp F H (keys (cs g)) F' H' → Cel K H F' H' (keys (cs g)) cs' → match out with
    | .ret d => ∀ v, Dq K F' v d → Q v H'
    | .exc x => E (.ref (He.ga K x)) none H'
def entG (N : List Str) (ds : List D) : List (Option D) := ds.map some ++ List.replicate (N.length - ds.length) none
/-- cells taken out, in this order -/
inductive Take : Cs → Cs → Cs → Prop
  | nil {l : Cs} : Take [] l l
  | cons {p : Addr} {c : HD} {cs l l' r : Cs} : Rm l p c l' → Take cs l' r → Take ((p, c) :: cs) l r
theorem Take.mem : ∀ {cs l r : Cs}, Take cs l r → ∀ x, x ∈ cs ++ r ↔ x ∈ l
  | _, _, _, .nil, x => Iff.rfl
  | _, _, _, .cons (p := p) (c := c) (cs := cs) (l' := l') (r := r) h t, x => by
    rw [← h.mem x, List.cons_append, List.mem_cons, List.mem_cons, t.mem x]
theorem Take.nd : ∀ {cs l r : Cs}, Take cs l r → (keys l).Nodup → (keys (cs ++ r)).Nodup
  | _, _, _, .nil, n => n
  | _, _, _, .cons (p := p) (c := c) (cs := cs) (l' := l') (r := r) h t, n => by
    obtain ⟨n1, n2⟩ := List.nodup_cons.mp (h.nd n)
    refine List.nodup_cons.mpr ⟨fun z => n1 ?_, t.nd n2⟩
    obtain ⟨x, hx, e⟩ := List.mem_map.mp z
    exact List.mem_map.mpr ⟨x, (t.mem x).mp hx, e⟩
theorem Take.all : ∀ {l r : Cs}, Take l (l ++ r) r
  | [], _ => .nil
  | (p, c) :: l, r => .cons .z Take.all
/-- an exception of the class x at this state is what W wants -/
def Xw (Z : Zx) (W : WX) (x : Str) (Γ : Sy) : Prop := ∀ F H σ, Sta Z F H σ Γ → W (.ref (He.ga Z.K x)) none σ H
/-- the ends of a def's body -/
structure EndsG (R : Out → Cs → Prop) (E : DE) : Prop where
  nx : ∀ {Γ' : Sy} {cs' r : Cs}, Take cs' Γ'.c r → R (.ret .none) cs' → E.nx Γ'
  rt : ∀ {d : D} {Γ' : Sy} {cs' r : Cs}, Take cs' Γ'.c r → R (.ret d) cs' → E.rt d Γ'
def Exw (Z : Zx) (R : Out → Cs → Prop) (E : XK) : Prop := ∀ y Γ' cs' r, Take cs' Γ'.c r → R (.exc y) cs' → Xw Z (fun cls d _ H => E cls d H) y Γ'
section
variable {K : PySem.W.Frag} {F H F' H' : Hp}
theorem start_get {N : List Str} {vs : List V} {i : Nat} {v : V} (h : vs[i]? = some v) : (L2.start N vs)[i]? = some (some v) := by
  have hi : i < vs.length := (List.getElem?_eq_some_iff.mp h).1
  unfold L2.start
  rw [List.getElem?_append_left (by rw [List.length_map]; exact hi), List.getElem?_map, h]
  rfl
theorem entG_get {N : List Str} {ds : List D} {i : Nat} {d : D} (h : (entG N ds)[i]? = some (some d)) : ds[i]? = some d := by
  unfold entG at h
  by_cases hi : i < ds.length
  · rw [List.getElem?_append_left (by rw [List.length_map]; exact hi), List.getElem?_map] at h
    cases e : ds[i]? with
    | none => rw [e] at h; cases h
    | some x => rw [e] at h; cases h; rfl
  · rw [List.getElem?_append_right (by rw [List.length_map]; omega)] at h
    obtain ⟨h1, h2⟩ := List.getElem?_eq_some_iff.mp h
    rw [List.getElem_replicate] at h2
    cases h2
theorem sta0 {N : List Str} {vs : List V} {ds : List D} {cs : Cs} (s : Same F H) (hp : DqAll K F vs ds) (hc : ∀ x ∈ cs, Cell K F H x.1 x.2) (nd : (keys cs).Nodup) : Sta ⟨K, F, H, keys cs, []⟩ F H (L2.start N vs) ⟨entG N ds, cs⟩ := by
  refine ⟨Same.refl _, s, fun a o _ h => h, fun a o _ => rfl, fun p hp => ?_, fun i d h => ?_, fun x hx => ⟨hc x hx, .inl (List.mem_map.mpr ⟨x, hx, rfl⟩)⟩, nd, ?_, fun q hq => by cases hq⟩
  · obtain ⟨x, hx, rfl⟩ := List.mem_map.mp hp
    obtain ⟨u, h1, _⟩ := hc x hx
    exact ⟨u, u, h1, h1, Kd.refl⟩
  · obtain ⟨v, hv, ok⟩ := dqa_get hp (entG_get h)
    exact ⟨v, start_get hv, ok⟩
  · show (L2.start N vs).length = (entG N ds).length
    unfold L2.start entG
    rw [List.length_append, List.length_append, List.length_map, List.length_map, List.length_replicate, List.length_replicate, dqa_len hp]
theorem cel_of {cs' r : Cs} {ds : List (Addr × HD)} {σ : St} {Γ : Sy} (S : Sta ⟨K, F, H, keys ds, []⟩ F' H' σ Γ) (t : Take cs' Γ.c r) : Cel K H F' H' (keys ds) cs' := by
  refine ⟨fun x hx => ?_, ?_⟩
  · exact S.ce x ((t.mem x).mp (List.mem_append_left _ hx))
  · have := t.nd S.nd
    rw [keys_app] at this
    exact (List.nodup_append.mp this).1
theorem sp_run {G : Type} {args : G → List D} {cs : G → Cs} {pre : G → Prop} {res : G → Out → Cs → Prop} {N : List Str} {vs : List V} {H : Hp} {Q : VK} {E : XK} {t : TS} (h : SpG K args cs pre res vs H Q E)
    (hb : ∀ g, pre g → ∀ (Zf : Hp) (ee : DE), EndsG (res g) ee → Exw ⟨K, Zf, H, keys (cs g), []⟩ (res g) E → Sd ⟨K, Zf, H, keys (cs g), []⟩ t ⟨entG N (args g), cs g⟩ ee) :
    t { nx := fun _ H' => Q .non H', rt := Q } (L2.start N vs) H := by
  obtain ⟨g, F, hg, s, ha, hc, nd, q⟩ := h
  have stp : ∀ {F' H' : Hp} {σ' : St} {Γ' : Sy}, Sta ⟨K, F, H, keys (cs g), []⟩ F' H' σ' Γ' → Stp F H (keys (cs g)) F' H' := fun {F' H' σ' Γ'} S => ⟨S.ff, S.fh, S.hh, S.fr, S.pp⟩
  refine hb g hg F { nx := fun Γ' => ∃ cs' r, Take cs' Γ'.c r ∧ res g (.ret .none) cs', rt := fun d Γ' => ∃ cs' r, Take cs' Γ'.c r ∧ res g (.ret d) cs' } ⟨fun t h => ⟨_, _, t, h⟩, fun t h => ⟨_, _, t, h⟩⟩ (fun y Γ' cs' r t hr F' H' σ' S => ?_) F H _ (sta0 s ha hc nd) _ (fun F' H' σ' Γ' ⟨cs', r, t, hr⟩ _ S => ?_) (fun v F' H' σ' d Γ' ⟨cs', r, t, hr⟩ _ S hv => ?_) (fun _ _ _ _ z => False.elim z) (fun _ _ _ _ z => False.elim z)
  · exact q (.exc y) cs' hr F' H' (stp S) (cel_of S t)
  · exact q (.ret .none) cs' hr F' H' (stp S) (cel_of S t) .non .non
  · exact q (.ret d) cs' hr F' H' (stp S) (cel_of S t) v hv
end
/-! ### a def by its name, a method by its class -/
structure Cl (P : Program) (w : World) (K : PySem.W.Frag) (mg : Str → Option Value) (base : Heap) (k : Nat) (x : Str) (sp : Sp) : Prop where
  ex : ∃ (f : Addr) (fd : FuncData) (ps : List Str), FnU P w K mg base (L2N.CX P w) k f fd ps sp ∧ mg x = some (.ref f) ∧ PySem.W.keepIn K (.ref f) = true ∧ Binds K fd ps []
structure ClM (P : Program) (w : World) (K : PySem.W.Frag) (mg : Str → Option Value) (base : Heap) (k : Nat) (C m : Str) (sp : Sp) : Prop where
  ex : ∃ (f : Addr) (fd : FuncData) (ps : List Str), FnU P w K mg base (L2N.CX P w) k f fd ps sp ∧ PySem.W.keepIn K (.ref f) = true ∧ Binds K fd ps [] ∧ PySem.W.findIn K (.ref (He.ga K C)) m = some (some (.ref f)) ∧ PySem.W.isFn K (.ref f) = true
def Fd (K : PySem.W.Frag) (mg : Str → Option Value) (x : Str) (st : Stmt) : Prop := (∃ fd, FunD K x x (defArgs st) (defBody st) (defScope st) [] [] (He.ga K x) fd) ∧ mg x = some (.ref (He.ga K x))
section
variable {P : Program} {w : World} {K : PySem.W.Frag} {mg : Str → Option Value} {base : Heap}
theorem mk_clG {x : Str} {st : Stmt} {N ps : List Str} {k : Nat} {G : Type} {args : G → List D} {cs : G → Cs} {pre : G → Prop} {res : G → Out → Cs → Prop}
    (D : Fd K mg x st) (S : FnScope N ps (defScope st))
    (hbind : ∀ (kV doc pm : Value) (an : Option Addr) (cdv ct : Value) (us : List Value), us.length = ps.length → bindArgs (PySem.W.fnOf x x (defArgs st) (defBody st) (defScope st) .none kV doc pm an cdv ct) ⟨us, []⟩ = pure (ps.zip us))
    (hlen : ∀ g, (args g).length = ps.length)
    (body : ∀ (cdv : Value) (A : Around) (outer : List Env) (s : Shared) (H : Hp) (E : XK), Room k (A.deeper (envOfC x (defScope st) s.heap.objs.size (He.ga K x) cdv)) → (A.deeper (envOfC x (defScope st) s.heap.objs.size (He.ga K x) cdv)).guards = some [] →
      ∃ t, PSs (cxOf (L2N.CX P w) P w K mg base N x (defScope st) (He.ga K x) cdv A outer s H E) (defBody st) t ∧
        ∀ (g : G), pre g → ∀ (Zf : Hp) (ee : DE), EndsG (res g) ee → Exw ⟨K, Zf, H, keys (cs g), []⟩ (res g) E → Sd ⟨K, Zf, H, keys (cs g), []⟩ t ⟨entG N (args g), cs g⟩ ee) :
    Cl P w K mg base (k + 1) x (SpG K args cs pre res) := by
  obtain ⟨⟨fd, FD⟩, g0⟩ := D
  refine ⟨_, fd, ps, okU FD S (fun vs H Q E h => ?_) (fun cdv A outer s H vs Q E hr hu h => ?_), g0, FD.kp, FD.bindsN hbind⟩
  · obtain ⟨g, F, hg, _, hp, _⟩ := h
    rw [dqa_len hp]
    exact hlen g
  · obtain ⟨t, ht, hw⟩ := body cdv A outer s H E hr hu
    exact ⟨t, ht, sp_run h fun g hg Zf ee hE hx => hw g hg Zf ee hE hx⟩
/-- the law's own def -/
theorem mk_fnG {x : Str} {st : Stmt} {N ps : List Str} {k : Nat} {G : Type} {args : G → List D} {cs : G → Cs} {pre : G → Prop} {res : G → Out → Cs → Prop}
    (S : FnScope N ps (defScope st)) (hlen : ∀ g, (args g).length = ps.length)
    (body : ∀ (cdv : Value) (A : Around) (outer : List Env) (s : Shared) (H : Hp) (E : XK), Room k (A.deeper (envOfC x (defScope st) s.heap.objs.size (He.ga K x) cdv)) → (A.deeper (envOfC x (defScope st) s.heap.objs.size (He.ga K x) cdv)).guards = some [] →
      ∃ t, PSs (cxOf (L2N.CX P w) P w K mg base N x (defScope st) (He.ga K x) cdv A outer s H E) (defBody st) t ∧
        ∀ (g : G), pre g → ∀ (Zf : Hp) (ee : DE), EndsG (res g) ee → Exw ⟨K, Zf, H, keys (cs g), []⟩ (res g) E → Sd ⟨K, Zf, H, keys (cs g), []⟩ t ⟨entG N (args g), cs g⟩ ee) :
    ∀ fd, FunD K x x (defArgs st) (defBody st) (defScope st) [] [] (He.ga K x) fd → FnU P w K mg base (L2N.CX P w) (k + 1) (He.ga K x) fd ps (SpG K args cs pre res) := by
  intro fd FD
  refine okU FD S (fun vs H Q E h => ?_) (fun cdv A outer s H vs Q E hr hu h => ?_)
  · obtain ⟨g, F, hg, _, hp, _⟩ := h
    rw [dqa_len hp]
    exact hlen g
  · obtain ⟨t, ht, hw⟩ := body cdv A outer s H E hr hu
    exact ⟨t, ht, sp_run h fun g hg Zf ee hE hx => hw g hg Zf ee hE hx⟩
/-- a method: q the qualified name, f its address -/
theorem mk_clM {C m q : Str} {f : Addr} {st : Stmt} {N ps : List Str} {k : Nat} {G : Type} {args : G → List D} {cs : G → Cs} {pre : G → Prop} {res : G → Out → Cs → Prop}
    (D : ∃ fd, FunD K m q (defArgs st) (defBody st) (defScope st) [] [] f fd) (hf : PySem.W.findIn K (.ref (He.ga K C)) m = some (some (.ref f))) (hn : PySem.W.isFn K (.ref f) = true) (S : FnScope N ps (defScope st))
    (hbind : ∀ (kV doc pm : Value) (an : Option Addr) (cdv ct : Value) (us : List Value), us.length = ps.length → bindArgs (PySem.W.fnOf m q (defArgs st) (defBody st) (defScope st) .none kV doc pm an cdv ct) ⟨us, []⟩ = pure (ps.zip us))
    (hlen : ∀ g, (args g).length = ps.length)
    (body : ∀ (cdv : Value) (A : Around) (outer : List Env) (s : Shared) (H : Hp) (E : XK), Room k (A.deeper (envOfC q (defScope st) s.heap.objs.size f cdv)) → (A.deeper (envOfC q (defScope st) s.heap.objs.size f cdv)).guards = some [] →
      ∃ t, PSs (cxOf (L2N.CX P w) P w K mg base N q (defScope st) f cdv A outer s H E) (defBody st) t ∧
        ∀ (g : G), pre g → ∀ (Zf : Hp) (ee : DE), EndsG (res g) ee → Exw ⟨K, Zf, H, keys (cs g), []⟩ (res g) E → Sd ⟨K, Zf, H, keys (cs g), []⟩ t ⟨entG N (args g), cs g⟩ ee) :
    ClM P w K mg base (k + 1) C m (SpG K args cs pre res) := by
  obtain ⟨fd, FD⟩ := D
  refine ⟨_, fd, ps, okU FD S (fun vs H Q E h => ?_) (fun cdv A outer s H vs Q E hr hu h => ?_), FD.kp, FD.bindsN hbind, hf, hn⟩
  · obtain ⟨g, F, hg, _, hp, _⟩ := h
    rw [dqa_len hp]
    exact hlen g
  · obtain ⟨t, ht, hw⟩ := body cdv A outer s H E hr hu
    exact ⟨t, ht, sp_run h fun g hg Zf ee hE hx => hw g hg Zf ee hE hx⟩
end
section
variable {X : Cx} {k j : Nat} {x C m : Str} {sp : Sp} {W : WX} {p pos apos : Pos} {e o : Expr} {es : List Expr} {t : TA} {ta : TE}
theorem tkN : L2N.Takes X (fun _ _ _ _ => False) := fun _ _ x => by
  obtain ⟨_, _, _, _, _, _, _, _, _, _, _, _, _, _, _, _, z⟩ := x
  exact z.elim
theorem pe_cl (c : Cl X.prog X.w X.K X.mg X.base k x sp) (hr : Room j X.A) (hu : X.A.guards = some []) (hk : k ≤ j) (hg : Gl X x) (tk : L2N.Takes X W) (ha : PA X (e :: es) t) (hdb : (x == ("__debug__" : Str)) = false := by decide)
    (he : starEach (e :: es) X.env = (false, eval e X.env) :: starEach es X.env := by rfl) (hpl : (backTo pos (starEach es X.env)).any (·.1) = false := by rfl) :
    PE X (.Call (.Name x p) (e :: es) [] pos) (tCallS sp (WE W) t) := by
  obtain ⟨f, fd, ps, F, hm, hkp, hb⟩ := c.ex
  exact pe_callU F (hr.mono hk) hu hg hm hkp hb (fun σ => L2N.passAt tk σ) ha hdb he hpl
theorem pe_clM {pl : Sem Bool} (c : ClM X.prog X.w X.K X.mg X.base k C m sp) (cl : Cls X.K (He.ga X.K C)) (hr : Room j X.A) (hu : X.A.guards = some []) (hk : k ≤ j) (tk : L2N.Takes X W) (ho : PE X o ta) (ha : PA X (e :: es) t)
    (hst : starEach (e :: es) X.env = (false, eval e X.env) :: starEach es X.env := by rfl) (hpl : (backTo pos (starEach es X.env)).any (·.1) = false := by rfl)
    (ht : eval (.Call (.Attribute o m apos) (e :: es) [] pos) X.env = (do
      let ov ← eval o X.env
      standAt apos.atName
      let (f, first) ← holding [ov] (getMethod ov m pl)
      callWith pos f first (backTo pos (starEach (e :: es) X.env)) (backToKw pos (keywordEach [] X.env))) := by rfl) :
    PE X (.Call (.Attribute o m apos) (e :: es) [] pos) (tMethU (He.ga X.K C) m sp (WE W) ta t) := by
  obtain ⟨f, fd, ps, F, hkp, hb, hf, hn⟩ := c.ex
  exact pe_methU ho cl ⟨hf, hn, hkp⟩ F (hr.mono hk) hu hb (fun σ => L2N.passAt tk σ) ha hst hpl ht
theorem pe_clM0 {pl : Sem Bool} (c : ClM X.prog X.w X.K X.mg X.base k C m sp) (cl : Cls X.K (He.ga X.K C)) (hr : Room j X.A) (hu : X.A.guards = some []) (hk : k ≤ j) (tk : L2N.Takes X W) (ho : PE X o ta)
    (ht : eval (.Call (.Attribute o m apos) [] [] pos) X.env = (do
      let ov ← eval o X.env
      standAt apos.atName
      let (f, first) ← holding [ov] (getMethod ov m pl)
      callWith pos f first (backTo pos (starEach [] X.env)) (backToKw pos (keywordEach [] X.env))) := by rfl) :
    PE X (.Call (.Attribute o m apos) [] [] pos) (tMethU (He.ga X.K C) m sp (WE W) ta tNil) := by
  obtain ⟨f, fd, ps, F, hkp, hb, hf, hn⟩ := c.ex
  exact pe_methU0 ho cl ⟨hf, hn, hkp⟩ F (hr.mono hk) hu hb (fun σ => L2N.passAt tk σ) ht
theorem pe_clN0 (c : ClM X.prog X.w X.K X.mg X.base k C "__init__" sp) (hmk : PySem.W.makesIn X.K (He.ga X.K C) = true) (hkC : PySem.W.keepIn X.K (.ref (He.ga X.K C)) = true) (hmC : X.mg C = some (.ref (He.ga X.K C))) (hr : Room j X.A) (hu : X.A.guards = some []) (hk : k + 1 ≤ j) (hg : Gl X C) (tk : L2N.Takes X W)
    (hdb : (C == ("__debug__" : Str)) = false := by decide) : PE X (.Call (.Name C p) [] [] pos) (tMakeU (He.ga X.K C) sp (WE W) tNil) := by
  obtain ⟨f, fd, ps, F, hkp, hb, hf, hn⟩ := c.ex
  exact pe_makeU0 ⟨hmk, hf, hn, hkC⟩ F (hr.mono hk) hu hg hmC hb (fun σ => L2N.passAt tk σ) hdb
end
end Sl

set_option Elab.async false
set_option linter.all false
set_option autoImplicit false
set_option maxRecDepth 100000
set_option maxHeartbeats 4000000
namespace Sl
open PySem PySem.Spec PyProof.Rows L2 Px
section
variable {Z : Zx} {Γ : Sy} {F H F' H' : Hp} {σ : St} {cs cs' r : Cs}
theorem not_own {K : PySem.W.Frag} {p q : Addr} {c : HD} {u : HO} (h : Cell K F H p c) (hu : H p = some u) : u ≠ .own q := fun z => by
  obtain ⟨u', h1, _, h3⟩ := h
  rw [hu] at h1
  cases h1
  subst z
  cases c <;> exact h3.elim
/-- the state behind a call -/
theorem after_call (S : Sta Z F H σ Γ) (t : Take cs Γ.c r) (st : Stp F H (keys cs) F' H') (ce : Cel Z.K H F' H' (keys cs) cs') : Sta Z F' H' σ ⟨Γ.g, cs' ++ r⟩ := by
  have inG : ∀ {a : Addr}, a ∈ keys cs → ∃ x ∈ Γ.c, x.1 = a := fun {a} h => by
    obtain ⟨x, hx, e⟩ := List.mem_map.mp h
    exact ⟨x, (t.mem x).mp (List.mem_append_left _ hx), e⟩
  have nd2 := t.nd S.nd
  have dj : ∀ {a : Addr}, a ∈ keys cs → a ∉ keys r := fun {a} h1 h2 => by
    have n := nd2
    rw [keys_app] at n
    exact (List.nodup_append.mp n).2.2 a h1 a h2 rfl
  have rG : ∀ {x : Addr × HD}, x ∈ r → x ∈ Γ.c := fun {x} h => (t.mem x).mp (List.mem_append_right _ h)
  have own : ∀ {a : Addr}, a ∈ keys cs → a ∈ Z.ps ∨ OwnC Z H a := fun {a} h => by
    obtain ⟨x, hx, rfl⟩ := inG h
    exact (S.ce x hx).2
  have cell : ∀ {a : Addr}, a ∈ keys cs → ∃ c, Cell Z.K F H a c := fun {a} h => by
    obtain ⟨x, hx, rfl⟩ := inG h
    exact ⟨_, (S.ce x hx).1⟩
  have there : ∀ {a : Addr} {o : HO}, Z.H0 a = some o → ∃ u, H a = some u := fun {a o} h => by
    by_cases hm : a ∈ Z.ps
    · obtain ⟨_, u, _, h2, _⟩ := S.pp a hm
      exact ⟨u, h2⟩
    · exact ⟨o, S.hh a o hm h⟩
  refine ⟨S.ff.trans st.ff, st.fh, fun a o ha h => ?_, fun a o h => ?_, fun p hp => ?_, fun i d hi => ?_, fun x hx => ?_, ?_, S.ln, fun q hq => ?_⟩
  · refine st.hh a o (fun z => ?_) (S.hh a o ha h)
    rcases own z with z | z
    · exact ha z
    · rw [z.1] at h
      cases h
  · obtain ⟨u, hu⟩ := there h
    exact (st.fr a u hu).trans (S.fr a o h)
  · obtain ⟨u0, u, h1, h2, h3⟩ := S.pp p hp
    by_cases hm : p ∈ keys cs
    · obtain ⟨v0, v, k1, k2, k3⟩ := st.pp p hm
      rw [h2] at k1
      cases k1
      exact ⟨u0, v, h1, k2, h3.trans k3⟩
    · exact ⟨u0, u, h1, st.hh p u hm h2, h3⟩
  · obtain ⟨v, hv, ok⟩ := S.sl i d hi
    exact ⟨v, hv, dq_same st.ff ok⟩
  · rcases List.mem_append.mp hx with hx | hx
    · obtain ⟨c, o⟩ := ce.ce x hx
      refine ⟨c, ?_⟩
      rcases o with o | ⟨o1, o2⟩
      · refine (own o).imp id fun w => ⟨w.1, fun C dx fs h => ?_⟩
        obtain ⟨v0, v, k1, k2, k3⟩ := st.pp _ o
        have k2' := k2
        rw [h] at k2'
        cases k2'
        obtain ⟨fs', e⟩ := k3 C dx fs rfl
        rw [e] at k1
        exact w.2 C dx fs' k1
      · exact .inr ⟨S.free0 o1, fun C dx fs h => S.free0 (o2 C dx fs h)⟩
    · obtain ⟨c, o⟩ := S.ce x (rG hx)
      have nk : x.1 ∉ keys cs := fun z => dj z (List.mem_map.mpr ⟨x, hx, rfl⟩)
      obtain ⟨u, hu, _⟩ := id c
      refine ⟨c.mv st.ff (fun a o ha h => st.hh a o (fun z => ?_) h) (fun a o _ h => st.fr a o h), o.imp id fun w => ⟨w.1, fun C dx fs h => w.2 C dx fs ?_⟩⟩
      · rcases ha with ha | ha
        · exact nk (ha ▸ z)
        · obtain ⟨c', hc'⟩ := cell z
          exact not_own hc' h ha
      · have := st.hh x.1 u nk hu
        rw [h] at this
        cases this
        exact hu
  · show (keys (cs' ++ r)).Nodup
    rw [keys_app] at nd2 ⊢
    refine List.nodup_append.mpr ⟨ce.nd, (List.nodup_append.mp nd2).2.1, fun a ha b hb e => ?_⟩
    subst e
    obtain ⟨x, hx, rfl⟩ := List.mem_map.mp ha
    rcases (ce.ce x hx).2 with o | o
    · exact dj o hb
    · obtain ⟨y, hy, e⟩ := List.mem_map.mp hb
      obtain ⟨⟨u, hu, _⟩, _⟩ := S.ce y (rG hy)
      rw [e, o.1] at hu
      cases hu
  · obtain ⟨x1, x2, x3, x4⟩ := S.xn q hq
    have nk : q.1 ∉ keys cs := fun z => by
      obtain ⟨x, hx, e⟩ := inG z
      exact x3 (List.mem_map.mpr ⟨x, hx, e⟩)
    refine ⟨st.hh _ _ nk x1, (st.fr _ _ x1).trans x2, fun z => ?_, x4⟩
    have z' : q.1 ∈ keys (cs' ++ r) := z
    rw [keys_app] at z'
    rcases List.mem_append.mp z' with z | z
    · obtain ⟨x, hx, e⟩ := List.mem_map.mp z
      rcases (ce.ce x hx).2 with o | o
      · exact nk (e ▸ o)
      · rw [e, x1] at o
        cases o.1
    · obtain ⟨x, hx, e⟩ := List.mem_map.mp z
      exact x3 (List.mem_map.mpr ⟨x, rG hx, e⟩)
variable {G : Type} {args : G → List D} {cg : G → Cs} {pre : G → Prop} {res : G → Out → Cs → Prop} {W : WX} {ta : TA} {te tv td ty : TE} {Q : D → Sy → Prop} {K : PySem.W.Frag} {E : DE}
/-- what the caller owes and gets -/
def Owe (Z : Zx) (args : G → List D) (cg : G → Cs) (pre : G → Prop) (res : G → Out → Cs → Prop) (W : WX) (ds : List D) (Γ : Sy) (Q : D → Sy → Prop) : Prop :=
  ∃ g r, ds = args g ∧ Take (cg g) Γ.c r ∧ pre g ∧ ∀ out cs', res g out cs' → match out with
    | .ret d => Q d ⟨Γ.g, cs' ++ r⟩
    | .exc x => Xw Z W x ⟨Γ.g, cs' ++ r⟩
theorem Owe.run {vs : List V} {ds : List D} {Q' : VK} (h : Owe Z args cg pre res W ds Γ Q) (S : Sta Z F H σ Γ) (hv : DqAll Z.K F vs ds) (q : ∀ v F' H' d Γ', Q d Γ' → Same F F' → Sta Z F' H' σ Γ' → Dq Z.K F' v d → Q' v H') : SpG Z.K args cg pre res vs H Q' (WE W σ) := by
  obtain ⟨g, r, rfl, t, hp, hr⟩ := h
  refine ⟨g, F, hp, S.fh, hv, fun x hx => (S.ce x ((t.mem x).mp (List.mem_append_left _ hx))).1, ?_, fun out cs' ho F' H' st ce => ?_⟩
  · have n := t.nd S.nd
    rw [keys_app] at n
    exact (List.nodup_append.mp n).1
  · have S' := after_call S t st ce
    have h' := hr out cs' ho
    cases out with
    | ret d => exact fun v hv => q v F' H' d _ h' st.ff S' hv
    | exc x => exact h' F' H' σ S'
theorem e_callG (hK : K = Z.K) (h : Ea Z ta Γ fun ds Γ1 => Owe Z args cg pre res W ds Γ1 Q) : Ed Z (tCallS (SpG K args cg pre res) (WE W) ta) Γ Q := fun F H σ S Q' q =>
  h F H σ S _ fun vs F1 H1 ds Γ1 ho s1 S1 hv => by
    subst hK
    exact ho.run S1 hv fun v F' H' d Γ' r s => q v F' H' d Γ' r (s1.trans s)
theorem Sta.atI {n : Nat} {p : Addr} {C : Str} {fs : List (Str × D)} (S : Sta Z F H σ Γ) (h : At Γ.c n p (.ins C fs)) : ∃ dx xs, H p = some (.ins (He.ga Z.K C) dx xs) ∧ H dx = some (.own p) ∧ F dx = none ∧ DqFv Z.K F xs fs := by
  obtain ⟨u, h1, h2, h3⟩ := S.at_ h
  cases u with
  | ins C' dx xs =>
    obtain ⟨rfl, g1, g2, g3⟩ := h3
    exact ⟨dx, xs, h1, g1, g2, g3⟩
  | _ => exact h3.elim
theorem e_methG {C m : Str} (hK : K = Z.K) (h : Ed Z te Γ fun x Γ1 => ∃ p n fs, x = .ref p ∧ At Γ1.c n p (.ins C fs) ∧ fs.lookup m = none ∧ Ea Z ta Γ1 fun ds Γ2 => Owe Z args cg pre res W (.ref p :: ds) Γ2 Q) : Ed Z (tMethU (He.ga K C) m (SpG K args cg pre res) (WE W) te ta) Γ Q := fun F H σ S Q' q =>
  h F H σ S _ fun v F1 H1 x Γ1 ⟨p, n, fs, e, ha, hl, h2⟩ s1 S1 hv => by
    subst hK e
    cases hv
    obtain ⟨dx, xs, g1, _, _, g4⟩ := S1.atI ha
    refine ⟨p, dx, xs, rfl, g1, dqf_none g4 hl, h2 F1 H1 σ S1 _ fun vs F2 H2 ds Γ2 ho s2 S2 hvs => ?_⟩
    exact ho.run S2 (.cons (.ref p) hvs) fun v F' H' d Γ' r s => q v F' H' d Γ' r ((s1.trans s2).trans s)
theorem e_makeG {C : Str} (hK : K = Z.K) (h : Ea Z ta Γ fun ds Γ1 => ∀ p, p ∉ Z.ps → Owe Z args cg pre res W (.ref p :: ds) (Γ1.add p (.ins C [])) fun d Γ2 => d = .none ∧ Q (.ref p) Γ2) : Ed Z (tMakeU (He.ga K C) (SpG K args cg pre res) (WE W) ta) Γ Q := fun F H σ S Q' q =>
  h F H σ S _ fun vs F1 H1 ds Γ1 ho s1 S1 hvs => by
    subst hK
    intro x dx hx hd hne
    have sU : Same H1 (upd H1 dx (.own x)) := upd_grow hd
    have hx' : (upd H1 dx (.own x)) x = none := by rw [upd_ne (fun z => hne z.symm)]; exact hx
    have S2 : Sta Z F1 (upd (upd H1 dx (.own x)) x (.ins (He.ga Z.K C) dx [])) σ (Γ1.add x (.ins C [])) := by
      refine (S1.up sU).laid hx' (c := .ins C []) ⟨rfl, ?_, S1.freeF hd, .nil⟩ fun C' dx' fs' e => ?_
      · rw [upd_ne hne]
        exact upd_same
      · cases e
        exact S1.free0 hd
    exact (ho x (S1.noPs hx)).run S2 (.cons (.ref x) hvs) fun v F' H' d Γ' ⟨r1, r2⟩ s S3 hv => by
      subst r1
      cases hv
      exact ⟨rfl, q _ F' H' _ Γ' r2 (s1.trans s) S3 (.ref x)⟩
/-! ### raise -/
theorem s_raise {x : Str} (h : Xw Z W x Γ) : Sd Z (fun _ σ H => (fun (_ : St) (H : Hp) (Q : XK) => Q (.ref (He.ga Z.K x)) none H) σ H fun cls d H' => W cls d σ H') Γ E := fun F H σ S D _ _ _ _ => h F H σ S
/-! ### fields -/
inductive Lk (f : Str) : List (Str × D) → D → Prop
  | z {d : D} {r : List (Str × D)} : Lk f ((f, d) :: r) d
  | s {g : Str} {x d : D} {r : List (Str × D)} : (f == g) = false → Lk f r d → Lk f ((g, x) :: r) d
theorem Lk.look {f : Str} {fs : List (Str × D)} {d : D} (h : Lk f fs d) : fs.lookup f = some d := by
  induction h with
  | z => rw [List.lookup_cons, beq_self_eq_true]
  | s hn _ ih => rw [List.lookup_cons, hn]; exact ih
theorem e_fld {f C : Str} (hK : K = Z.K) (hc : Cls Z.K (He.ga Z.K C)) (hn : NoAttr Z.K (He.ga Z.K C) f) (h : Ed Z te Γ fun x Γ1 => ∃ p n fs d, x = .ref p ∧ At Γ1.c n p (.ins C fs) ∧ Lk f fs d ∧ Q d Γ1) : Ed Z (tFld K te f) Γ Q := fun F H σ S Q' q =>
  h F H σ S _ fun v F1 H1 x Γ1 ⟨p, n, fs, d, e, ha, hl, r⟩ s1 S1 hv => by
    subst hK e
    cases hv
    obtain ⟨dx, xs, g1, _, _, g4⟩ := S1.atI ha
    obtain ⟨v, k1, k2⟩ := dqf_get g4 hl.look
    exact ⟨p, _, dx, xs, v, rfl, g1, hc, hn, k1, q v F1 H1 d Γ1 r s1 S1 k2⟩
inductive Pf (f : Str) (d : D) : List (Str × D) → List (Str × D) → Prop
  | n : Pf f d [] [(f, d)]
  | z {x : D} {r : List (Str × D)} : Pf f d ((f, x) :: r) ((f, d) :: r)
  | s {g : Str} {x : D} {r r' : List (Str × D)} : (f == g) = false → Pf f d r r' → Pf f d ((g, x) :: r) ((g, x) :: r')
theorem Pf.put {f : Str} {d : D} {v : V} : ∀ {fs fs' : List (Str × D)} {xs : List (Str × V)}, Pf f d fs fs' → DqFv Z.K F xs fs → Dq Z.K F v d → DqFv Z.K F (putF f v xs) fs'
  | _, _, _, .n, .nil, hv => .cons hv .nil
  | _, _, _, .z, .cons _ a, hv => by
    unfold putF
    rw [if_pos rfl]
    exact .cons hv a
  | _, _, _, .s (g := g) hn p, .cons h a, hv => by
    unfold putF
    have ne : g ≠ f := fun z => by rw [z, beq_self_eq_true] at hn; cases hn
    rw [if_neg ne]
    exact .cons h (p.put a hv)
theorem s_fld {f C : Str} (hK : K = Z.K) (hc : Cls Z.K (He.ga Z.K C)) (hn : NoAttr Z.K (He.ga Z.K C) f) (h : Ed Z tv Γ fun d Γ1 => Ed Z te Γ1 fun x Γ2 => ∃ p fs fs' l', x = .ref p ∧ Pf f d fs fs' ∧ fs.length < 1000 ∧ Rp Γ2.c p (.ins C fs) (.ins C fs') l' ∧ E.nx ⟨Γ2.g, l'⟩) : Sd Z (sFld K te tv f) Γ E := fun F H σ S D n _ _ _ =>
  h F H σ S _ fun v F1 H1 d Γ1 h2 s1 S1 hv => h2 F1 H1 σ S1 _ fun w F2 H2 x Γ2 ⟨p, fs, fs', l', e, hp, hl, hr, r⟩ s2 S2 hw => by
    subst hK e
    cases hw
    obtain ⟨m, ha⟩ := hr.atL
    obtain ⟨dx, xs, g1, g2, g3, g4⟩ := S2.atI ha
    refine ⟨p, _, dx, xs, rfl, g1, hc, hn, by rw [dqf_len g4]; exact hl, n F2 _ σ _ r (s1.trans s2) ?_⟩
    have ndx : dx ≠ p := fun z => by rw [z, g1] at g2; cases g2
    have S3 := S2.write (u := .ins (He.ga Z.K C) dx (putF f v xs)) (c := .ins C fs') hr.mem g1 ⟨rfl, by rw [upd_ne ndx]; exact g2, g3, hp.put g4 (dq_same s2 hv)⟩ (fun C' dx' fs2 z => by cases z; exact ⟨xs, rfl⟩) (fun x z => nomatch z)
    rw [hr.eq S2.nd]
    exact S3
/-! ### dicts with keys of two ints -/
abbrev kP (a b : Int) : List Key := [.inl a, .inl b]
def hasD (kvs : List (List Key × D)) (k : List Key) : Bool := kvs.any fun kv => decide (kv.1 = k)
def putD (kvs : List (List Key × D)) (k : List Key) (d : D) : List (List Key × D) := if hasD kvs k = true then kvs.map (fun kv => if kv.1 = k then (kv.1, d) else kv) else kvs ++ [(k, d)]
theorem dqt_any {xs : List (List Key × V)} {ys : List (List Key × D)} {k : List Key} (h : DqTv K F xs ys) : (xs.any fun kv => decide (kv.1 = k)) = hasD ys k := by
  unfold hasD
  match h with
  | .nil => rfl
  | .cons (k := k') _ a => rw [List.any_cons, List.any_cons, dqt_any a]; rfl
theorem dqt_has {xs : List (List Key × V)} {ys : List (List Key × D)} {k : List Key} (h : DqTv K F xs ys) : (valV xs k).isSome = hasD ys k := by
  rw [← valV_any, dqt_any h]
theorem dqt_map {v : V} {d : D} {k : List Key} (hv : Dq K F v d) : ∀ {xs : List (List Key × V)} {ys : List (List Key × D)}, DqTv K F xs ys → DqTv K F (xs.map fun kv => if kv.1 = k then (kv.1, v) else kv) (ys.map fun kv => if kv.1 = k then (kv.1, d) else kv)
  | _, _, .nil => .nil
  | _, _, .cons (k := k') (v := v') (d := d') h a => by
    rw [List.map_cons, List.map_cons]
    by_cases e : k' = k
    · simp only [e, if_true]
      exact .cons hv (dqt_map hv a)
    · simp only [e, if_false]
      exact .cons h (dqt_map hv a)
theorem dqt_snoc {v : V} {d : D} {k : List Key} (hv : Dq K F v d) : ∀ {xs : List (List Key × V)} {ys : List (List Key × D)}, DqTv K F xs ys → DqTv K F (xs ++ [(k, v)]) (ys ++ [(k, d)])
  | _, _, .nil => .cons hv .nil
  | _, _, .cons h a => .cons h (dqt_snoc hv a)
theorem dqt_len : ∀ {vs : List (List Key × V)} {ds : List (List Key × D)}, DqTv K F vs ds → vs.length = ds.length
  | _, _, .nil => rfl
  | _, _, .cons _ a => by rw [List.length_cons, List.length_cons, dqt_len a]
theorem dqt_put {xs : List (List Key × V)} {ys : List (List Key × D)} {v : V} {d : D} {k : List Key} (h : DqTv K F xs ys) (hv : Dq K F v d) : DqTv K F (putK xs k v) (putD ys k d) := by
  unfold putK putD
  rw [dqt_any h]
  by_cases e : hasD ys k = true
  · rw [if_pos e, if_pos e]
    exact dqt_map hv h
  · rw [if_neg e, if_neg e]
    exact dqt_snoc hv h
theorem has_put {kvs : List (List Key × D)} {k j : List Key} {d : D} : hasD (putD kvs k d) j = (decide (k = j) || hasD kvs j) := by
  unfold putD
  by_cases e : hasD kvs k = true
  · rw [if_pos e]
    have h1 : hasD (kvs.map fun kv => if kv.1 = k then (kv.1, d) else kv) j = hasD kvs j := by
      unfold hasD
      rw [List.any_map]
      congr 1
      funext kv
      simp only [Function.comp]
      by_cases z : kv.1 = k <;> simp [z]
    rw [h1]
    by_cases z : k = j
    · subst z; simp [e]
    · simp [z]
  · rw [if_neg e]
    unfold hasD
    rw [List.any_append]
    simp [Bool.or_comm]
theorem put_len {kvs : List (List Key × D)} {k : List Key} {d : D} : (putD kvs k d).length ≤ kvs.length + 1 := by
  unfold putD
  by_cases e : hasD kvs k = true
  · rw [if_pos e, List.length_map]; omega
  · rw [if_neg e, List.length_append]; exact Nat.le_refl _
theorem Sta.atT {n : Nat} {p : Addr} {kvs : List (List Key × D)} (S : Sta Z F H σ Γ) (h : At Γ.c n p (.dt kvs)) : ∃ xs, H p = some (.dT xs) ∧ DqTv Z.K F xs kvs := by
  obtain ⟨u, h1, h2, h3⟩ := S.at_ h
  cases u with
  | dT xs => exact ⟨xs, h1, h3⟩
  | _ => exact h3.elim
theorem tup2 {v : V} {a b : Int} (h : Dq Z.K F v (.tuple [.int a, .int b])) : ∃ q, v = .ref q ∧ F q = some (.tup ((kP a b).map kV)) := by
  cases h with
  | @tup q xs _ hs ha =>
    cases ha with
    | cons h1 ha =>
      cases ha with
      | cons h2 ha =>
        cases ha
        cases h1
        cases h2
        exact ⟨q, rfl, hs⟩
theorem e_dnew (h : ∀ p, p ∉ Z.ps → Q (.ref p) (Γ.add p (.dt []))) : Ed Z tDNewT Γ Q := fun F H σ S Q' q p hp =>
  q (.ref p) F _ _ _ (h p (S.noPs hp)) (Same.refl _) (S.laid hp (u := .dT []) (c := .dt []) .nil fun C dx fs z => nomatch z) (.ref p)
theorem e_din (h : Ed Z ty Γ fun y Γ1 => Ed Z td Γ1 fun x Γ2 => ∃ p n kvs a b, x = .ref p ∧ y = .tuple [.int a, .int b] ∧ At Γ2.c n p (.dt kvs) ∧ Q (.bool (hasD kvs (kP a b))) Γ2) : Ed Z (tDIn ty td) Γ Q := fun F H σ S Q' q =>
  h F H σ S _ fun v F1 H1 y Γ1 h2 s1 S1 hv => h2 F1 H1 σ S1 _ fun w F2 H2 x Γ2 ⟨p, n, kvs, a, b, e1, e2, ha, r⟩ s2 S2 hw => by
    subst e1 e2
    cases hw
    obtain ⟨xs, g1, g2⟩ := S2.atT ha
    obtain ⟨k, rfl, hk⟩ := tup2 (dq_same s2 hv)
    refine ⟨p, _, rfl, DGet.t (k := kP a b) g1 (S2.fh _ _ hk), ?_⟩
    rw [dqt_has g2]
    exact q _ F2 H2 _ Γ2 r (s1.trans s2) S2 (.bl _)
theorem s_dput (h : Ed Z tv Γ fun d Γ1 => Ed Z td Γ1 fun x Γ2 => Ed Z ty Γ2 fun y Γ3 => ∃ p kvs a b l', x = .ref p ∧ y = .tuple [.int a, .int b] ∧ kvs.length < 100000 ∧ Rp Γ3.c p (.dt kvs) (.dt (putD kvs (kP a b) d)) l' ∧ E.nx ⟨Γ3.g, l'⟩) : Sd Z (sDPut td ty tv) Γ E := fun F H σ S D n _ _ _ =>
  h F H σ S _ fun v F1 H1 d Γ1 h2 s1 S1 hv => h2 F1 H1 σ S1 _ fun w F2 H2 x Γ2 h3 s2 S2 hw => h3 F2 H2 σ S2 _ fun y F3 H3 dy Γ3 ⟨p, kvs, a, b, l', e1, e2, hl, hr, r⟩ s3 S3 hy => by
    subst e1 e2
    cases hw
    obtain ⟨m, ha⟩ := hr.atL
    obtain ⟨xs, g1, g2⟩ := S3.atT ha
    obtain ⟨k, rfl, hk⟩ := tup2 hy
    refine ⟨p, _, rfl, DPut.t (k := kP a b) g1 (S3.fh _ _ hk) ?_, n F3 _ σ _ r ((s1.trans s2).trans s3) ?_⟩
    · rw [dqt_len g2]
      exact Nat.lt_of_lt_of_le hl (by decide)
    · have S4 := S3.write (u := .dT (putK xs (kP a b) v)) (c := .dt (putD kvs (kP a b) d)) hr.mem g1 (dqt_put g2 (dq_same (s2.trans s3) hv)) (fun C dx fs z => nomatch z) (fun x z => nomatch z)
      rw [hr.eq S3.nd]
      exact S4
end
end Sl

set_option Elab.async false
set_option linter.all false
set_option autoImplicit false
set_option maxRecDepth 100000
set_option maxHeartbeats 4000000
namespace Sl
open PySem PySem.Spec PyProof.Rows L2 Px
section
variable {Z : Zx} {Γ : Sy} {E : DE} {ta tb te to ti : TE} {t u : TS} {tc : TT} {F H : Hp} {σ : St} {p : Addr} {ds es : List D} {R : D → Sy → Prop}
/-! ### enumerate -/
def enumD (ds : List D) : List D := (List.range ds.length).zip ds |>.map fun p => .tuple [.int (p.1 : Nat), p.2]
theorem enumD_len : (enumD ds).length = ds.length := by simp [enumD]
theorem enumD_get {i : Nat} {d : D} (h : (enumD ds)[i]? = some d) : ∃ e, ds[i]? = some e ∧ d = .tuple [.int (i : Nat), e] := by
  have hl : i < ds.length := by
    have := (List.getElem?_eq_some_iff.mp h).1
    rw [enumD_len] at this
    exact this
  refine ⟨ds[i], List.getElem?_eq_getElem hl, ?_⟩
  unfold enumD at h
  rw [List.getElem?_eq_getElem (by simp; exact hl)] at h
  injection h with h
  rw [← h]
  simp
theorem i_enum {tl : TE} {R : List D → Src → Sy → Prop} (h : Ed Z tl Γ fun d Γ1 => ∃ ds src, LsAs Γ1 d ds src ∧ R (enumD ds) src Γ1) : Ei Z (iEnum Z.K (tCons tl tNil)) Γ R := fun F H σ S Q q =>
  h F H σ S _ fun v F1 H1 d Γ1 ⟨ds, src, hl, r⟩ s1 S1 hv => by
    obtain ⟨a, rfl, hw⟩ := hl.ok S1 hv
    obtain ⟨xs0, hs0, _⟩ := hw F1 H1 σ Γ1 (Same.refl _) S1 hl.src
    refine ⟨a, xs0, rfl, hs0, q _ F1 H1 _ src Γ1 r s1 S1 ⟨fun i F2 H2 σ2 Γ2 s2 S2 ok hi => ?_, fun F2 H2 σ2 Γ2 s2 S2 ok => ?_, fun i d v H' F2 H2 σ2 Γ2 s2 S2 ok hd' hy => ?_⟩⟩
    · obtain ⟨xs, hs, hd⟩ := hw F2 H2 σ2 Γ2 s2 S2 ok
      rw [enumD_len, ← dqa_len hd] at hi
      exact ⟨xs, xs[i], hs, List.getElem?_eq_getElem hi⟩
    · obtain ⟨xs, hs, hd⟩ := hw F2 H2 σ2 Γ2 s2 S2 ok
      exact ⟨xs, hs, by rw [enumD_len, dqa_len hd]; exact Nat.le_refl _⟩
    · obtain ⟨xs, hs, hd⟩ := hw F2 H2 σ2 Γ2 s2 S2 ok
      obtain ⟨T, x, rfl, hT, rfl, hx⟩ := hy
      obtain ⟨e, he, rfl⟩ := enumD_get hd'
      obtain ⟨w, hw, hdw⟩ := dqa_get hd he
      have h1 := hx xs hs
      rw [hw] at h1
      injection h1 with h1
      subst h1
      exact .inr ⟨T, _, _, rfl, hT, rfl, rfl, .cons (.int _) (.cons hdw .nil)⟩
theorem i_enumRev {tl : TE} {R : List D → Src → Sy → Prop} (h : Ed Z tl Γ fun d Γ1 => ∃ ds src, LsAs Γ1 d ds src ∧ R (enumD ds.reverse) src Γ1) : Ei Z (iEnumRev Z.K (tCons tl tNil)) Γ R := fun F H σ S Q q =>
  h F H σ S _ fun v F1 H1 d Γ1 ⟨ds, src, hl, r⟩ s1 S1 hv => by
    obtain ⟨a, rfl, hw⟩ := hl.ok S1 hv
    obtain ⟨xs0, hs0, hd0⟩ := hw F1 H1 σ Γ1 (Same.refl _) S1 hl.src
    have l0 := dqa_len hd0
    refine ⟨a, xs0, rfl, hs0, q _ F1 H1 _ src Γ1 r s1 S1 ⟨fun i F2 H2 σ2 Γ2 s2 S2 ok hi => ?_, fun F2 H2 σ2 Γ2 s2 S2 ok => ?_, fun i d v H' F2 H2 σ2 Γ2 s2 S2 ok hd' hy => ?_⟩⟩
    · obtain ⟨xs, hs, hd⟩ := hw F2 H2 σ2 Γ2 s2 S2 ok
      rw [enumD_len, List.length_reverse, ← l0] at hi
      exact ⟨hi, xs, hs, by rw [dqa_len hd, l0]⟩
    · obtain ⟨xs, hs, hd⟩ := hw F2 H2 σ2 Γ2 s2 S2 ok
      exact ⟨by rw [enumD_len, List.length_reverse, l0], xs, hs, by rw [dqa_len hd, l0]⟩
    · obtain ⟨xs, hs, hd⟩ := hw F2 H2 σ2 Γ2 s2 S2 ok
      obtain ⟨T, x, rfl, hT, rfl, hx⟩ := hy
      obtain ⟨e, he, rfl⟩ := enumD_get hd'
      have hi : i < ds.length := by
        have := (List.getElem?_eq_some_iff.mp he).1
        rw [List.length_reverse] at this
        exact this
      rw [List.getElem?_reverse hi, ← l0] at he
      obtain ⟨w, hw, hdw⟩ := dqa_get hd he
      have h1 := hx xs hs
      rw [hw] at h1
      injection h1 with h1
      subst h1
      exact .inr ⟨T, _, _, rfl, hT, rfl, rfl, .cons (.int _) (.cons hdw .nil)⟩
/-! ### loops, the rest apart -/
def ForI (Z : Zx) (g : TG) (tb u : TS) (E : DE) (ds : List D) (src : Src) (Γ : Sy) : Prop := ∃ I : Nat → Sy → Prop, I 0 Γ ∧ (∀ i Γ', I i Γ' → SrcOk src Γ') ∧ (∀ i d Γ', ds[i]? = some d → I i Γ' → Gt Z g d Γ' fun Γ2 => Sd Z tb Γ2 { nx := I (i + 1), rt := E.rt, bk := fun Γ' => Sd Z u Γ' E, ct := I (i + 1) }) ∧ ∀ Γ', I ds.length Γ' → Sd Z u Γ' E
theorem for_by {g : TG} {tb u : TS} {ds : List D} {src : Src} (I : Nat → Sy → Prop) (h0 : I 0 Γ) (ho : ∀ i Γ', I i Γ' → SrcOk src Γ') (hs : ∀ i d Γ', ds[i]? = some d → I i Γ' → Gt Z g d Γ' fun Γ2 => Sd Z tb Γ2 { nx := I (i + 1), rt := E.rt, bk := fun Γ' => Sd Z u Γ' E, ct := I (i + 1) }) (hd : ∀ Γ', I ds.length Γ' → Sd Z u Γ' E) : ForI Z g tb u E ds src Γ := ⟨I, h0, ho, hs, hd⟩
theorem s_forI {wi : TI} {g : TG} {tb u : TS} (h : Ei Z wi Γ (ForI Z g tb u E)) : Sd Z (tSeq (tFor wi g tb) u) Γ E := by
  refine s_seq (s_for ?_)
  intro F H σ S Q q
  refine h F H σ S Q fun J F' H' ds src Γ' r => q J F' H' ds src Γ' ?_
  exact r
/-! ### list + list, tuple + tuple -/
theorem o_catLs {x y : D} (hx : LsOf Γ x ds) (hy : LsOf Γ y es) (hl : ds.length + es.length ≤ 100000) (r : R (.list (ds ++ es)) Γ) : Ro Z (rCatS Z.K) x y Γ R := fun F H σ v w S hv hw Q q => by
  obtain ⟨a, vs, rfl, h1, a1⟩ := hx.ok S hv
  obtain ⟨b, ws, rfl, h2, a2⟩ := hy.ok S hw
  refine ⟨a, b, vs, ws, rfl, rfl, h1, h2, ?_, fun p hp => ?_⟩
  · rw [dqa_len a1, dqa_len a2]
    exact Nat.le_trans hl (by decide)
  · obtain ⟨g1, g2, g3⟩ := S.newL hp (dqa_app a1 a2)
    exact q _ _ _ _ Γ r g1 g2 g3
theorem o_catA (hx : ds ≠ []) (hy : es ≠ []) (hl : ds.length + es.length ≤ 100000) (r : R (.tuple (ds ++ es)) Γ) : Ro Z (rCatA Z.K) (.tuple ds) (.tuple es) Γ R := fun F H σ v w S hv hw Q q => by
  cases hv with
  | @tup a vs _ h1 a1 =>
    cases hw with
    | @tup b ws _ h2 a2 =>
      have n1 : vs ≠ [] := fun z => by
        subst z
        cases a1
        exact hx rfl
      have n2 : ws ≠ [] := fun z => by
        subst z
        cases a2
        exact hy rfl
      refine ⟨a, b, vs, ws, rfl, rfl, sqT_of S.fh h1, sqT_of S.fh h2, ?_, fun z => absurd z n1, fun _ z => absurd z n2, fun _ _ p hp => ?_⟩
      · rw [dqa_len a1, dqa_len a2]
        exact Nat.le_trans hl (by decide)
      · have s4 : Same F (upd F p (.tup (vs ++ ws))) := upd_grow (S.freeF hp)
        exact q _ _ _ _ Γ r s4 (S.frozen hp _) (.tup upd_same (dqa_same s4 (dqa_app a1 a2)))
/-! ### data as PyData, through cells -/
mutual
inductive Pd (Γ : Sy) : D → PyData → Prop
  | non : Pd Γ .none .none
  | bl (b : Bool) : Pd Γ (.bool b) (.bool b)
  | int (i : Int) : Pd Γ (.int i) (.int i)
  | str (x : Str) : Pd Γ (.str x) (.str x)
  | lst {ds : List D} {es : List PyData} : PdAll Γ ds es → Pd Γ (.list ds) (.list es)
  | tup {ds : List D} {es : List PyData} : PdAll Γ ds es → Pd Γ (.tuple ds) (.tuple es)
  | ref {p : Addr} {ds : List D} {es : List PyData} : (p, HD.lst ds) ∈ Γ.c → PdAll Γ ds es → Pd Γ (.ref p) (.list es)
inductive PdAll (Γ : Sy) : List D → List PyData → Prop
  | nil : PdAll Γ [] []
  | cons {d : D} {ds : List D} {e : PyData} {es : List PyData} : Pd Γ d e → PdAll Γ ds es → PdAll Γ (d :: ds) (e :: es)
end
theorem Sta.memL (S : Sta Z F H σ Γ) (h : (p, HD.lst ds) ∈ Γ.c) : ∃ vs, H p = some (.lst vs) ∧ DqAll Z.K F vs ds := by
  obtain ⟨⟨u, h1, h2, h3⟩, _⟩ := S.ce _ h
  cases u with
  | lst vs => exact ⟨vs, h1, h3⟩
  | _ => exact h3.elim
mutual
theorem Pd.ok (S : Sta Z F H σ Γ) : ∀ {d : D} {e : PyData} {v : V}, Pd Γ d e → Dq Z.K F v d → Dp Z.K H v e
  | _, _, _, .non, hv => by cases hv; exact .non
  | _, _, _, .bl b, hv => by cases hv; exact .bl b
  | _, _, _, .int b, hv => by cases hv; exact .int b
  | _, _, _, .str b, hv => by cases hv; exact .str b
  | _, _, _, .lst a, hv => by
    cases hv with
    | lst hs ha => exact .lst (S.fh.seq hs) (PdAll.ok S a ha)
  | _, _, _, .tup a, hv => by
    cases hv with
    | tup hs ha => exact .tup (sqT_of S.fh hs) (PdAll.ok S a ha)
  | _, _, _, .ref hm a, hv => by
    cases hv
    obtain ⟨vs, h1, h2⟩ := S.memL hm
    exact .lst (SqL.of h1) (PdAll.ok S a h2)
theorem PdAll.ok (S : Sta Z F H σ Γ) : ∀ {ds : List D} {es : List PyData} {vs : List V}, PdAll Γ ds es → DqAll Z.K F vs ds → DpAll Z.K H vs es
  | _, _, _, .nil, hv => by cases hv; exact .nil
  | _, _, _, .cons h a, hv => by
    cases hv with
    | cons h' a' => exact .cons (h.ok S h') (PdAll.ok S a a')
end
theorem o_eqP {x y : D} {a b : PyData} (hx : Pd Γ x a) (hy : Pd Γ y b) (h1 : SeqAt.shaped a = true) (h2 : SeqAt.shaped b = true) (r : R (.bool (PyData.eqv a b)) Γ) : Ro Z (rEqD Z.K) x y Γ R := fun F H σ v w S hv hw Q q =>
  ⟨a, b, hx.ok S hv, hy.ok S hw, h1, h2, q _ F H _ Γ r (Same.refl _) S (.bl _)⟩
theorem o_neP {x y : D} {a b : PyData} (hx : Pd Γ x a) (hy : Pd Γ y b) (h1 : SeqAt.shaped a = true) (h2 : SeqAt.shaped b = true) (r : R (.bool (!PyData.eqv a b)) Γ) : Ro Z (rNeD Z.K) x y Γ R := fun F H σ v w S hv hw Q q =>
  ⟨a, b, hx.ok S hv, hy.ok S hw, h1, h2, q _ F H _ Γ r (Same.refl _) S (.bl _)⟩
end
end Sl

set_option Elab.async false
set_option linter.all false
set_option autoImplicit false
set_option maxRecDepth 100000
set_option maxHeartbeats 4000000
namespace Sl
open PySem PySem.Spec PyProof.Rows L2 Px
section
variable {Z : Zx} {Γ : Sy} {E : DE} {ta tb tc te to ti : TE} {t u : TS} {tt : TT} {F H : Hp} {σ : St} {p : Addr} {ds es : List D} {R : D → Sy → Prop}
/-! ### and, or, not, chains -/
theorem e_andV (h : Ed Z ta Γ fun d Γ1 => ∃ b, d = .bool b ∧ (b = true → Ed Z tb Γ1 R) ∧ (b = false → R (.bool false) Γ1)) : Ed Z (tAndV ta tb) Γ R := fun F H σ S Q q =>
  h F H σ S _ fun v F1 H1 d Γ1 ⟨b, e, h1, h2⟩ s1 S1 hv => by
    subst e
    cases hv
    refine ⟨b, rfl, ?_⟩
    cases b with
    | true => exact iteT (h1 rfl F1 H1 σ S1 Q fun v F2 H2 d Γ2 r s2 => q v F2 H2 d Γ2 r (s1.trans s2))
    | false => exact iteF (q _ F1 H1 _ Γ1 (h2 rfl) s1 S1 (.bl false))
theorem e_orV (h : Ed Z ta Γ fun d Γ1 => ∃ b, d = .bool b ∧ (b = false → Ed Z tb Γ1 R) ∧ (b = true → R (.bool true) Γ1)) : Ed Z (tOrV ta tb) Γ R := fun F H σ S Q q =>
  h F H σ S _ fun v F1 H1 d Γ1 ⟨b, e, h1, h2⟩ s1 S1 hv => by
    subst e
    cases hv
    refine ⟨b, rfl, ?_⟩
    cases b with
    | true => exact iteT (q _ F1 H1 _ Γ1 (h2 rfl) s1 S1 (.bl true))
    | false => exact iteF (h1 rfl F1 H1 σ S1 Q fun v F2 H2 d Γ2 r s2 => q v F2 H2 d Γ2 r (s1.trans s2))
theorem e_notV (h : Ed Z ta Γ fun d Γ1 => ∃ b, d = .bool b ∧ R (.bool (!b)) Γ1) : Ed Z (tNotV ta) Γ R := fun F H σ S Q q =>
  h F H σ S _ fun v F1 H1 d Γ1 ⟨b, e, r⟩ s1 S1 hv => by
    subst e
    cases hv
    exact ⟨b, rfl, q _ F1 H1 _ Γ1 r s1 S1 (.bl _)⟩
theorem e_chain {f f' : Int → Int → Bool} (h : Ed Z ta Γ fun x Γ1 => Ed Z tb Γ1 fun y Γ2 => ∃ i j, x = .int i ∧ y = .int j ∧ (f i j = true → Ed Z tc Γ2 fun z Γ3 => ∃ k, z = .int k ∧ R (.bool (f' j k)) Γ3) ∧ (f i j = false → R (.bool false) Γ2)) : Ed Z (tChain (rI0 fun i j => .bl (f i j)) (rI0 fun i j => .bl (f' i j)) ta tb tc) Γ R := fun F H σ S Q q =>
  h F H σ S _ fun v F1 H1 x Γ1 h2 s1 S1 hv => h2 F1 H1 σ S1 _ fun w F2 H2 y Γ2 ⟨i, j, e1, e2, h3, h4⟩ s2 S2 hw => by
    subst e1 e2
    cases hv
    cases hw
    refine ⟨i, j, rfl, rfl, f i j, rfl, ?_⟩
    cases b : f i j with
    | true =>
      refine iteT (h3 b F2 H2 σ S2 _ fun z F3 H3 d Γ3 ⟨k, e, r⟩ s3 S3 hz => ?_)
      subst e
      cases hz
      exact ⟨j, k, rfl, rfl, q _ F3 H3 _ Γ3 r ((s1.trans s2).trans s3) S3 (.bl _)⟩
    | false => exact iteF (q _ F2 H2 _ Γ2 (h4 b) (s1.trans s2) S2 (.bl _))
theorem c_min2 {i j : Int} (r : R (.int (if j < i then j else i)) Γ) : Rc Z (fun xs H Q => ∃ i j, xs = [.int i, .int j] ∧ Q (.int (if j < i then j else i)) H) [.int i, .int j] Γ R := fun F H σ vs S hv Q q => by
  cases hv with
  | cons h a =>
    cases a with
    | cons h' a =>
      cases a
      cases h
      cases h'
      exact ⟨i, j, rfl, q _ F H _ Γ r (Same.refl _) S (.int _)⟩
theorem c_max2 {i j : Int} (r : R (.int (if j > i then j else i)) Γ) : Rc Z (fun xs H Q => ∃ i j, xs = [.int i, .int j] ∧ Q (.int (if j > i then j else i)) H) [.int i, .int j] Γ R := fun F H σ vs S hv Q q => by
  cases hv with
  | cons h a =>
    cases a with
    | cons h' a =>
      cases a
      cases h
      cases h'
      exact ⟨i, j, rfl, q _ F H _ Γ r (Same.refl _) S (.int _)⟩
/-! ### repr -/
/-- what repr tells -/
def txt : PyData → Str
  | .none => "None"
  | .int i => toString i
  | d => d.shown
def okR : PyData → Prop
  | .none => True
  | .int i => i.natAbs.log2 < 1920
  | .list ds => (PyData.list ds).showable = true ∧ (PyData.list ds).hasDict = false ∧ (PyData.list ds).depth ≤ 60 ∧ (PyData.list ds).shown.length ≤ sizeLine
  | .tuple ds => (PyData.tuple ds).showable = true ∧ (PyData.tuple ds).hasDict = false ∧ (PyData.tuple ds).depth ≤ 60 ∧ (PyData.tuple ds).shown.length ≤ sizeLine
  | _ => False
theorem c_repr {x : D} {pd : PyData} (hp : Pd Γ x pd) (hk : okR pd) (r : R (.str (txt pd)) Γ) : Rc Z (rReprG Z.K) [x] Γ R := fun F H σ vs S hv Q q => by
  cases hv with
  | @cons v _ _ _ h a =>
    cases a
    have hd := hp.ok S h
    have go := q _ F H _ Γ r (Same.refl _) S (.str _)
    cases hp with
    | non => cases h; exact .inr (.inr ⟨rfl, go⟩)
    | int i => cases h; exact .inr (.inl ⟨i, rfl, hk, go⟩)
    | bl b => exact hk.elim
    | str b => exact hk.elim
    | lst ha => cases h with
      | lst => exact .inl ⟨_, _, rfl, hd, hk.1, hk.2.1, hk.2.2.1, hk.2.2.2, go⟩
    | tup ha => cases h with
      | tup => exact .inl ⟨_, _, rfl, hd, hk.1, hk.2.1, hk.2.2.1, hk.2.2.2, go⟩
    | ref hm ha => cases h; exact .inl ⟨_, _, rfl, hd, hk.1, hk.2.1, hk.2.2.1, hk.2.2.2, go⟩
/-! ### in, through lists that may be cells -/
theorem o_inLs {ng : Bool} {x y : D} (hl : LsOf Γ y ds) (hx : flatD x = true) (ha : ds.all flatD = true) (r : R (.bool (if ng then !inD x ds else inD x ds)) Γ) : Ro Z (rIn Z.K ng) x y Γ R := fun F H σ v w S hv hw Q q => by
  obtain ⟨a, ws, rfl, hs, hd⟩ := hl.ok S hw
  rw [flV_ok hv hx]
  have e := flVs_ok hd ha
  subst e
  exact ⟨_, _, rfl, .inl hs, flat_flV hx, all_flV ha, q _ F H _ Γ r (Same.refl _) S (.bl _)⟩
/-- a tuple among the program's globals -/
theorem e_gref {a : Addr} (r : R (.ref a) Γ) : Ed Z (tC (.ref a)) Γ R := fun F H σ S Q q => q _ F H _ Γ r (Same.refl _) S (.ref a)
theorem o_inK {ng : Bool} {x : D} {a : Addr} {vs : List V} (hk : ∀ H, SqT Z.K H a vs) (hx : flatD x = true) (ha : vs.all flatV = true) (r : R (.bool (if ng then !inV (flV x) vs else inV (flV x) vs)) Γ) : Ro Z (rIn Z.K ng) x (.ref a) Γ R := fun F H σ v w S hv hw Q q => by
  cases hw
  rw [flV_ok hv hx]
  exact ⟨_, _, rfl, .inr (hk H), flat_flV hx, ha, q _ F H _ Γ r (Same.refl _) S (.bl _)⟩
/-! ### comprehensions -/
abbrev Zx.pin (Z : Zx) (x : Addr × HO) : Zx := { Z with xt := x :: Z.xt }
def wipeL (g : List (Option D)) : List Nat → List (Option D)
  | [] => g
  | v :: vs => (wipeL g vs).set v none
def wipeG (Γ : Sy) (vs : List Nat) : Sy := ⟨wipeL Γ.g vs, Γ.c⟩
theorem Sta.wiped (S : Sta Z F H σ Γ) : ∀ vs : List Nat, Sta Z F H (wipe σ vs) (wipeG Γ vs)
  | [] => S
  | v :: vs => by
    have S' := (S.wiped vs).del (i := v)
    by_cases hl : v < (wipeL Γ.g vs).length
    · exact S'.setn (by show ((wipeL Γ.g vs).set v none)[v]? = _; rw [List.getElem?_set_self hl])
    · have e : (wipe σ vs).set v none = wipe σ vs := List.set_eq_of_length_le (by have := (S.wiped vs).ln; rw [this]; show (wipeL Γ.g vs).length ≤ v; omega)
      show Sta Z F H ((wipe σ vs).set v none) _
      rw [e]
      exact S'
theorem wipe_back {vs : List Nat} {i : Nat} {v : V} (h : (wipe σ vs)[i]? = some (some v)) : σ[i]? = some (some v) := (wipe_some h).1
theorem Sta.unwipe {vs : List Nat} (S : Sta Z F H (wipe σ vs) Γ) : Sta Z F H σ Γ := by
  refine ⟨S.ff, S.fh, S.hh, S.fr, S.pp, fun j e h => ?_, S.ce, S.nd, ?_, S.xn⟩
  · obtain ⟨v, hv, ok⟩ := S.sl j e h
    exact ⟨v, wipe_back hv, ok⟩
  · have := S.ln
    rw [wipe_length] at this
    exact this
theorem wipe_get : ∀ (vs : List Nat) (σ : St) (i : Nat), (wipe σ vs)[i]? = if i ∈ vs then (σ[i]?).map fun _ => none else σ[i]?
  | [], σ, i => by simp [wipe]
  | v :: vs, σ, i => by
    show ((wipe σ vs).set v none)[i]? = _
    by_cases h : v = i
    · subst h
      rw [if_pos List.mem_cons_self]
      by_cases hl : v < σ.length
      · rw [List.getElem?_set_self (by rw [wipe_length]; exact hl), List.getElem?_eq_getElem hl] <;> rfl
      · rw [List.getElem?_eq_none (by rw [List.length_set, wipe_length]; omega), List.getElem?_eq_none (by omega)] <;> rfl
    · rw [List.getElem?_set_ne h, wipe_get vs σ i]
      by_cases hm : i ∈ vs
      · rw [if_pos hm, if_pos (List.mem_cons_of_mem _ hm)]
      · rw [if_neg hm, if_neg (fun z => (List.mem_cons.mp z).elim (fun z => h z.symm) hm)]
theorem wipe_idem (vs : List Nat) (σ : St) : wipe (wipe σ vs) vs = wipe σ vs := by
  apply List.ext_getElem?
  intro i
  rw [wipe_get, wipe_get]
  by_cases h : i ∈ vs
  · rw [if_pos h, if_pos h]
    cases σ[i]? <;> rfl
  · rw [if_neg h, if_neg h]
theorem wipe_set {vs : List Nat} {j : Nat} {x : Option V} (hj : j ∈ vs) : wipe (σ.set j x) vs = wipe σ vs := by
  apply List.ext_getElem?
  intro i
  rw [wipe_get, wipe_get]
  by_cases h : i ∈ vs
  · rw [if_pos h, if_pos h]
    by_cases e : j = i
    · subst e
      by_cases hl : j < σ.length
      · rw [List.getElem?_set_self hl, List.getElem?_eq_getElem hl] <;> rfl
      · rw [List.getElem?_eq_none (by rw [List.length_set]; omega), List.getElem?_eq_none (by omega)]
    · rw [List.getElem?_set_ne e]
  · rw [if_neg h, if_neg h, List.getElem?_set_ne (fun z : j = i => h (by rw [← z]; exact hj))]
/-- a target that stores into slots of vs alone -/
def Keeps (g : TG) (vs : List Nat) : Prop := ∀ v σ H (P : St → Hp → Prop), (g v σ H fun σ' H' => wipe σ' vs = wipe σ vs → P σ' H') → g v σ H fun σ' H' => wipe σ' vs = wipe σ vs ∧ P σ' H'
def KeepsS (g : TGs) (vs : List Nat) : Prop := ∀ ws σ H (P : St → Hp → Prop), (g ws σ H fun σ' H' => wipe σ' vs = wipe σ vs → P σ' H') → g ws σ H fun σ' H' => wipe σ' vs = wipe σ vs ∧ P σ' H'
theorem keeps_name {vs : List Nat} {j : Nat} (hj : j ∈ vs) : Keeps (gName j) vs := fun v σ H P h => ⟨wipe_set hj, h (wipe_set hj)⟩
theorem keeps_nil {vs : List Nat} : KeepsS gNil vs := fun ws σ H P h => ⟨h.1, rfl, h.2 rfl⟩
theorem keeps_cons {vs : List Nat} {j : Nat} {gr : TGs} (hj : j ∈ vs) (hr : KeepsS gr vs) : KeepsS (gCons (gName j) gr) vs := fun ws σ H P h => by
  obtain ⟨v, r, e, h⟩ := h
  refine ⟨v, r, e, ?_⟩
  have w1 : wipe (σ.set j (some v)) vs = wipe σ vs := wipe_set hj
  show gr r (σ.set j (some v)) H fun σ' H' => wipe σ' vs = wipe σ vs ∧ P σ' H'
  have h' : gr r (σ.set j (some v)) H fun σ' H' => wipe σ' vs = wipe (σ.set j (some v)) vs → P σ' H' := by
    rw [w1]
    exact h
  have := hr r (σ.set j (some v)) H P h'
  rw [w1] at this
  exact this
theorem keeps_tup {K : PySem.W.Frag} {vs : List Nat} {n : Nat} {gr : TGs} (hr : KeepsS gr vs) : Keeps (gTup K n gr) vs := fun v σ H P h => by
  obtain ⟨a, xs, e, h1, h2, h3⟩ := h
  exact ⟨a, xs, e, h1, h2, hr xs σ H P h3⟩
theorem Sta.pinned {x : Addr × HO} (S : Sta Z F H σ Γ) (h1 : H x.1 = some x.2) (h2 : F x.1 = none) (h3 : x.1 ∉ Γ.ks) (h4 : ∀ y, x.2 ≠ .own y) : Sta (Z.pin x) F H σ Γ :=
  ⟨S.ff, S.fh, S.hh, S.fr, S.pp, S.sl, S.ce, S.nd, S.ln, fun q hq => by
    rcases List.mem_cons.mp hq with rfl | hq
    · exact ⟨h1, h2, h3, h4⟩
    · exact S.xn q hq⟩
theorem Sta.unpinned {x : Addr × HO} (S : Sta (Z.pin x) F H σ Γ) : Sta Z F H σ Γ :=
  ⟨S.ff, S.fh, S.hh, S.fr, S.pp, S.sl, S.ce, S.nd, S.ln, fun q hq => S.xn q (List.mem_cons_of_mem _ hq)⟩
theorem Sta.repin {D : Addr} {u u' : HO} (S : Sta (Z.pin (D, u)) F H σ Γ) (h0 : Z.H0 D = none) (hps : D ∉ Z.ps) (hz : ∀ q ∈ Z.xt, q.1 ≠ D) (hu : ∀ y, u' ≠ .own y) : Sta (Z.pin (D, u')) F (upd H D u') σ Γ := by
  obtain ⟨x1, x2, x3, x4⟩ := S.xn (D, u) List.mem_cons_self
  have ne : ∀ {a : Addr} {o : HO}, F a = some o → a ≠ D := fun {a o} h z => by rw [z, x2] at h; cases h
  refine ⟨S.ff, fun b o e => by rw [upd_ne (ne e)]; exact S.fh b o e, fun a o hm h => ?_, S.fr, fun q hq => ?_, S.sl, fun x hx => ?_, S.nd, S.ln, fun q hq => ?_⟩
  · rw [upd_ne (fun z => by have h' : Z.H0 a = some o := h; rw [z, h0] at h'; cases h')]
    exact S.hh a o hm h
  · obtain ⟨w0, w, k1, k2, k3⟩ := S.pp q hq
    exact ⟨w0, w, k1, by rw [upd_ne (fun z : q = D => hps (z ▸ hq))]; exact k2, k3⟩
  · obtain ⟨c, o⟩ := S.ce x hx
    have nx : x.1 ≠ D := fun z => x3 (by show D ∈ Γ.ks; rw [← z]; exact List.mem_map.mpr ⟨x, hx, rfl⟩)
    refine ⟨c.mv (Same.refl _) (fun a o ha h => ?_) (fun _ _ _ _ => rfl), o.imp id fun o => ⟨o.1, fun C dx fs h => o.2 C dx fs (by rw [upd_ne nx] at h; exact h)⟩⟩
    have na : a ≠ D := fun z => by
      rcases ha with ha | ha
      · exact nx (ha.symm.trans z)
      · rw [z, x1, ha] at h
        exact x4 x.1 (Option.some.inj h)
    rw [upd_ne na]
    exact h
  · rcases List.mem_cons.mp hq with rfl | hq
    · exact ⟨upd_same, x2, x3, hu⟩
    · obtain ⟨y1, y2, y3, y4⟩ := S.xn q (List.mem_cons_of_mem _ hq)
      exact ⟨by rw [upd_ne (hz q hq)]; exact y1, y2, y3, y4⟩
/-- [e for .. in .. if ..], a new cell; I by the turn and what is made -/
theorem e_lcC {wi : TI} {g : TG} {tt : TT} {vs : List Nat} (hk : Keeps g vs)
    (h : Ei Z wi Γ fun ds src Γ1 => ds.length ≤ 100000 ∧ ∃ I : Nat → List D → Sy → Prop, I 0 [] (wipeG Γ1 vs) ∧ (∀ i acc Γ', I i acc Γ' → SrcOk src Γ') ∧ (∀ (x : Addr × HO) i d acc Γ', ds[i]? = some d → I i acc Γ' → Gt (Z.pin x) g d Γ' fun Γ2 => Et (Z.pin x) tt Γ2 fun b Γ3 => (b = true → Ed (Z.pin x) te Γ3 fun e Γ4 => I (i + 1) (acc ++ [e]) (wipeG Γ4 vs)) ∧ (b = false → I (i + 1) acc (wipeG Γ3 vs))) ∧ ∀ acc Γ', I ds.length acc Γ' → ∀ p, p ∉ Z.ps → R (.ref p) (Γ'.add p (.lst acc))) :
    Ed Z (tLc wi g tt te vs) Γ R := fun F H σ S Q q =>
  h F H σ S _ fun J F1 H1 ds src Γ1 ⟨hl, I, i0, hso, hs, hd⟩ s1 S1 w D hD => by
    have h0 : Z.H0 D = none := S1.free0 hD
    have hps : D ∉ Z.ps := S1.noPs hD
    have hz : ∀ q ∈ Z.xt, q.1 ≠ D := fun q hq z => by
      have := (S1.xn q hq).1
      rw [z, hD] at this
      cases this
    have P0 : Sta (Z.pin (D, .lst [])) F1 (upd H1 D (.lst [])) (wipe σ vs) (wipeG Γ1 vs) := ((S1.up (upd_grow (u := .lst []) hD)).pinned (x := (D, .lst [])) upd_same (S1.freeF hD) (S1.noKey hD) fun y z => nomatch z).wiped vs
    refine ⟨fun i m H' => m = ds.length - i ∧ i ≤ ds.length ∧ ∃ F' Γ' acc ws, I i acc Γ' ∧ acc.length ≤ i ∧ Same F1 F' ∧ Sta (Z.pin (D, .lst ws)) F' H' (wipe σ vs) Γ' ∧ DqAll Z.K F' ws acc, ⟨_, rfl, Nat.zero_le _, F1, _, [], [], i0, Nat.le_refl _, Same.refl _, P0, .nil⟩, ?_⟩
    rintro i m H2 ⟨rfl, hi, F2, Γ2, acc, ws, hI, hla, s2, S2, hws⟩
    have ok2 := hso i acc Γ2 hI
    by_cases hlt : i < ds.length
    · refine .inr ⟨w.go i F2 H2 _ Γ2 s2 S2.unpinned ok2 hlt, fun H' => i + 1 ≤ ds.length ∧ ∃ F' Γ' acc ws, I (i + 1) acc Γ' ∧ acc.length ≤ i + 1 ∧ Same F1 F' ∧ Sta (Z.pin (D, .lst ws)) F' H' (wipe σ vs) Γ' ∧ DqAll Z.K F' ws acc, fun H' hN => ⟨ds.length - (i + 1), by omega, rfl, hN.1, hN.2⟩, fun x H3 hy => ?_⟩
      obtain ⟨d, hd'⟩ : ∃ d, ds[i]? = some d := ⟨ds[i], List.getElem?_eq_getElem hlt⟩
      obtain ⟨F3, s3, S3, hx⟩ : ∃ F', Same F2 F' ∧ Sta (Z.pin (D, .lst ws)) F' H3 (wipe σ vs) Γ2 ∧ Dq Z.K F' x d := by
        rcases w.yld i d x H3 F2 H2 _ Γ2 s2 S2.unpinned ok2 hd' hy with ⟨rfl, h⟩ | ⟨T, vs', es, rfl, hT, rfl, rfl, h⟩
        · exact ⟨F2, Same.refl _, S2, h⟩
        · have g2 : Same F2 (upd F2 T (.tup vs')) := upd_grow (S2.freeF hT)
          exact ⟨_, g2, S2.frozen hT _, .tup upd_same (dqa_same g2 h)⟩
      have key := hk x (wipe σ vs) H3 (fun σ2 H4 => tt σ2 H4 fun b H5 => if b = true then te σ2 H5 fun y H6 => ∃ acc, H6 D = some (.lst acc) ∧ acc.length < sizeLine ∧ (i + 1 ≤ ds.length ∧ ∃ F' Γ' acc' ws, I (i + 1) acc' Γ' ∧ acc'.length ≤ i + 1 ∧ Same F1 F' ∧ Sta (Z.pin (D, .lst ws)) F' (upd H6 D (.lst (acc ++ [y]))) (wipe σ vs) Γ' ∧ DqAll Z.K F' ws acc') else (i + 1 ≤ ds.length ∧ ∃ F' Γ' acc' ws, I (i + 1) acc' Γ' ∧ acc'.length ≤ i + 1 ∧ Same F1 F' ∧ Sta (Z.pin (D, .lst ws)) F' H5 (wipe σ vs) Γ' ∧ DqAll Z.K F' ws acc')) (hs (D, .lst ws) i d acc Γ2 hd' hI F3 H3 (wipe σ vs) x S3 hx _ fun σ4 Γ4 ht S4 hw4 => ?_)
      · rw [wipe_idem] at key
        exact key
      · rw [wipe_idem] at hw4
        refine ht F3 H3 σ4 S4 _ fun b F5 H5 Γ5 ⟨hy1, hy2⟩ s5 S5 => ?_
        cases b with
        | true =>
          refine iteT (hy1 rfl F5 H5 σ4 S5 _ fun y F6 H6 e Γ6 hI6 s6 S6 hye => ?_)
          have sF := ((s2.trans s3).trans s5).trans s6
          have s36 := (s3.trans s5).trans s6
          refine ⟨ws, (S6.xn (D, .lst ws) List.mem_cons_self).1, ?_, hlt, F6, _, _, ws ++ [y], hI6, by rw [List.length_append, List.length_singleton]; omega, sF, ?_, dqa_app (dqa_same s36 hws) (dqa_one hye)⟩
          · rw [dqa_len hws]
            exact Nat.lt_of_lt_of_le (show acc.length < 200000 by omega) (by decide)
          · have W6 := S6.wiped vs
            rw [hw4] at W6
            exact W6.repin h0 hps hz fun y z => nomatch z
        | false =>
          have W5 := S5.wiped vs
          rw [hw4] at W5
          exact iteF ⟨hlt, F5, _, _, ws, hy2 rfl, by omega, (s2.trans s3).trans s5, W5, dqa_same (s3.trans s5) hws⟩
    · have ei : i = ds.length := by omega
      subst ei
      obtain ⟨x1, x2, x3, x4⟩ := S2.xn (D, .lst ws) List.mem_cons_self
      have U := S2.unpinned.unwipe
      refine .inl ⟨w.stop F2 H2 _ Γ2 s2 S2.unpinned ok2, q (.ref D) F2 H2 _ _ (hd acc Γ2 hI D hps) (s1.trans s2) ?_ (.ref D)⟩
      refine ⟨U.ff, U.fh, U.hh, U.fr, U.pp, U.sl, fun x hx => ?_, List.nodup_cons.mpr ⟨x3, U.nd⟩, U.ln, fun q hq => ?_⟩
      · rcases List.mem_cons.mp hx with rfl | hx
        · exact ⟨⟨.lst ws, x1, x2, hws⟩, .inr ⟨h0, fun C dx fs z => by rw [x1] at z; cases z⟩⟩
        · exact U.ce x hx
      · obtain ⟨y1, y2, y3, y4⟩ := U.xn q hq
        refine ⟨y1, y2, fun z => ?_, y4⟩
        rcases List.mem_cons.mp z with z | z
        · exact hz q hq z
        · exact y3 z
/-- the same, frozen -/
theorem e_lc {wi : TI} {g : TG} {tt : TT} {vs : List Nat} (hk : Keeps g vs)
    (h : Ei Z wi Γ fun ds src Γ1 => ds.length ≤ 100000 ∧ ∃ I : Nat → List D → Sy → Prop, I 0 [] (wipeG Γ1 vs) ∧ (∀ i acc Γ', I i acc Γ' → SrcOk src Γ') ∧ (∀ (x : Addr × HO) i d acc Γ', ds[i]? = some d → I i acc Γ' → Gt (Z.pin x) g d Γ' fun Γ2 => Et (Z.pin x) tt Γ2 fun b Γ3 => (b = true → Ed (Z.pin x) te Γ3 fun e Γ4 => I (i + 1) (acc ++ [e]) (wipeG Γ4 vs)) ∧ (b = false → I (i + 1) acc (wipeG Γ3 vs))) ∧ ∀ acc Γ', I ds.length acc Γ' → R (.list acc) Γ') :
    Ed Z (tLc wi g tt te vs) Γ R := by
  refine e_frz (e_lcC hk ?_)
  intro F H σ S Q q
  refine h F H σ S Q fun J F' H' ds src Γ' ⟨hl, I, i0, hso, hs, hd⟩ => q J F' H' ds src Γ' ⟨hl, I, i0, hso, hs, fun acc Γ2 hI p hp => ⟨p, .lst acc, Γ2.c, rfl, .z, hp, hd acc Γ2 hI⟩⟩
theorem t_yes {RB : Bool → Sy → Prop} (r : RB true Γ) : Et Z tYes Γ RB := fun F H σ S Q q => q true F H Γ r (Same.refl _) S
end
end Sl

set_option Elab.async false
set_option linter.all false
set_option autoImplicit false
set_option maxRecDepth 100000
set_option maxHeartbeats 4000000
namespace Sl
open PySem PySem.Spec PyProof.Rows L2 Px
theorem ctT {p : Prop} {b : Bool} (h : b = true) (h' : b = false) : p := by rw [h] at h'; cases h'
theorem ctF {p : Prop} {b : Bool} (h : b = false) (h' : b = true) : p := by rw [h] at h'; cases h'
theorem units1 {A : Around} (h : A.units + 64 < cLine) : A.units + 1 < cLine := by omega
section
variable {Z : Zx} {Γ : Sy} {E : DE} {ta tb tc te to ti tv : TE} {t u : TS} {tt : TT} {F H : Hp} {σ : St} {p : Addr} {ds es : List D} {R : D → Sy → Prop} {K : PySem.W.Frag}
theorem g_lst {n : Nat} {gr : TGs} {R : Sy → Prop} {d : D} (hl : LsOf Γ d ds) (hn : ds.length = n) (h : Gs Z gr ds Γ R) : Gt Z (gLst Z.K n gr) d Γ R := fun F H σ v S hv Q q => by
  obtain ⟨a, vs, rfl, hs, hd⟩ := hl.ok S hv
  exact ⟨a, vs, rfl, hs, by rw [dqa_len hd]; exact hn, h F H σ _ S hd Q q⟩
theorem s_asgL {n : Nat} {gr : TGs} (h : Ed Z te Γ fun d Γ1 => Gt Z (gLst Z.K n gr) d Γ1 E.nx) : Sd Z (tAsg te (gLst Z.K n gr)) Γ E := fun F H σ S D nx _ _ _ =>
  h F H σ S _ fun v F' H' d Γ' hg s S' hv => hg F' H' σ v S' hv _ fun σ' Γ2 e S2 => nx F' H' σ' Γ2 e s S2
/-- xs.extend([..]) -/
theorem e_extN {tr : TA} (h : Ed Z te Γ fun x Γ1 => (∃ p n ds, x = .ref p ∧ At Γ1.c n p (.lst ds)) ∧ Ea Z tr Γ1 fun es Γ2 => ∃ p ds l', x = .ref p ∧ Rp Γ2.c p (.lst ds) (.lst (ds ++ es)) l' ∧ es.length ≤ 1000 ∧ ds.length + es.length < 100000 ∧ R .none ⟨Γ2.g, l'⟩) : Ed Z (tBM Z.K "list" rExtend te (tCons (tLst tr) tNil)) Γ R := fun F H σ S Q q =>
  h F H σ S _ fun v F1 H1 x Γ1 ⟨⟨p, n, ds, e, ha⟩, h2⟩ s1 S1 hv => by
    subst e
    cases hv
    obtain ⟨vs0, g1, _, _⟩ := S1.atL ha
    refine ⟨.inl ⟨rfl, vs0, SqL.of g1⟩, h2 F1 H1 σ S1 _ fun ws F2 H2 es Γ2 ⟨p', ds, l', e1, hr, hl1, hl, r⟩ s2 S2 hw => ⟨by rw [dqa_len hw]; exact Nat.le_of_lt (small1000 hl1), fun b hb => ?_⟩⟩
    cases e1
    have S3 := S2.up (upd_grow (u := .lst ws) hb)
    obtain ⟨vs, g2, g3⟩ := S2.rdL hr
    have nb : p ≠ b := fun z => by rw [z, hb] at g2; cases g2
    refine ⟨p, b, vs, ws, rfl, rfl, by rw [upd_ne nb]; exact g2, upd_same, by rw [dqa_len g3, dqa_len hw]; exact Nat.le_of_lt (Nat.lt_of_lt_of_le hl (by decide)), q _ F2 _ _ _ r (s1.trans s2) (S3.wrL hr (dqa_app g3 hw)) .non⟩
/-- xs.append(e), the list where it stands -/
theorem e_appA (h : Ed Z te Γ fun x Γ1 => ∃ p n ds0, x = .ref p ∧ At Γ1.c n p (.lst ds0) ∧ Ed Z ta Γ1 fun d Γ2 => ∃ ds l', ds.length < 100000 ∧ Rp Γ2.c p (.lst ds) (.lst (ds ++ [d])) l' ∧ R .none ⟨Γ2.g, l'⟩) : Ed Z (tBM Z.K "list" rAppend te (tCons ta tNil)) Γ R :=
  e_app (h.imp fun x Γ1 ⟨p, n, ds0, e, ha, h2⟩ => ⟨⟨p, n, ds0, e, ha⟩, h2.imp fun d Γ2 ⟨ds, l', h3, h4, h5⟩ => ⟨p, ds, l', e, h3, h4, h5⟩⟩)
theorem e_popAtA (h : Ed Z te Γ fun x Γ1 => ∃ p n ds0, x = .ref p ∧ At Γ1.c n p (.lst ds0) ∧ Ed Z ti Γ1 fun y Γ2 => ∃ i k ds d l', y = .int i ∧ -(2 ^ 63) ≤ i ∧ i < 2 ^ 63 ∧ seqIndex? i ds.length = some k ∧ ds[k]? = some d ∧ Rp Γ2.c p (.lst ds) (.lst (ds.eraseIdx k)) l' ∧ R d ⟨Γ2.g, l'⟩) : Ed Z (tBM Z.K "list" rPopAt te (tCons ti tNil)) Γ R :=
  e_popAt (h.imp fun x Γ1 ⟨p, n, ds0, e, ha, h2⟩ => ⟨⟨p, n, ds0, e, ha⟩, h2.imp fun y Γ2 ⟨i, k, ds, d, l', a1, a2, a3, a4, a5, a6, a7⟩ => ⟨p, i, k, ds, d, l', e, a1, a2, a3, a4, a5, a6, a7⟩⟩)
theorem s_setIA (h : Ed Z te Γ fun d Γ1 => Ed Z to Γ1 fun x Γ2 => Ed Z ti Γ2 fun y Γ3 => ∃ p n i j ds l', x = .ref p ∧ y = .int i ∧ At Γ3.c n p (.lst ds) ∧ ixN ds.length i = some j ∧ Rp Γ3.c p (.lst ds) (.lst (ds.set j d)) l' ∧ E.nx ⟨Γ3.g, l'⟩) : Sd Z (tAsg te (gSub to ti rSetL)) Γ E :=
  s_setI (h.imp fun d Γ1 h => h.imp fun x Γ2 h => h.imp fun y Γ3 ⟨p, n, i, j, ds, l', e1, e2, _, e3, e4, e5⟩ => ⟨p, i, j, ds, l', e1, e2, e3, e4, e5⟩)
theorem s_fldA {f C : Str} (hK : K = Z.K) (hc : Cls Z.K (He.ga Z.K C)) (hn : NoAttr Z.K (He.ga Z.K C) f) (h : Ed Z tv Γ fun d Γ1 => Ed Z te Γ1 fun x Γ2 => ∃ p n fs fs' l', x = .ref p ∧ At Γ2.c n p (.ins C fs) ∧ Pf f d fs fs' ∧ fs.length < 1000 ∧ Rp Γ2.c p (.ins C fs) (.ins C fs') l' ∧ E.nx ⟨Γ2.g, l'⟩) : Sd Z (sFld K te tv f) Γ E :=
  s_fld hK hc hn (h.imp fun d Γ1 h => h.imp fun x Γ2 ⟨p, n, fs, fs', l', e1, _, e2, e3, e4, e5⟩ => ⟨p, fs, fs', l', e1, e2, e3, e4, e5⟩)
/-! ### comprehensions, by a function of the item -/
theorem e_lcMap {wi : TI} {g : TG} {vs : List Nat} (f : D → D) (hk : Keeps g vs)
    (h : Ei Z wi Γ fun ds src Γ1 => ds.length ≤ 100000 ∧ SrcOk src Γ1 ∧ (∀ (x : Addr × HO) d, d ∈ ds → Gt (Z.pin x) g d (wipeG Γ1 vs) fun Γ2 => Ed (Z.pin x) te Γ2 fun e Γ4 => e = f d ∧ wipeG Γ4 vs = wipeG Γ1 vs) ∧ R (.list (ds.map f)) (wipeG Γ1 vs)) :
    Ed Z (tLc wi g tYes te vs) Γ R := by
  refine e_lc hk ?_
  intro F H σ S Q q
  refine h F H σ S Q fun J F' H' ds src Γ' ⟨hl, ho, hs, r⟩ => q J F' H' ds src Γ' ⟨hl, fun i acc Γ2 => acc = (ds.take i).map f ∧ Γ2 = wipeG Γ' vs, ⟨by simp, rfl⟩, fun i acc Γ2 ⟨_, e⟩ => ?_, ?_, ?_⟩
  · subst e
    cases src with
    | none => trivial
    | some x => exact ho
  · rintro x i d acc Γ2 hd ⟨rfl, rfl⟩
    intro F2 H2 σ2 v S2 hv Q2 q2
    refine hs x d (List.mem_of_getElem? hd) F2 H2 σ2 v S2 hv Q2 fun σ3 Γ3 h3 => q2 σ3 Γ3 (t_yes ⟨fun _ => ?_, fun z => nomatch z⟩)
    refine h3.imp fun e Γ4 ⟨e1, e2⟩ => ⟨?_, e2⟩
    subst e1
    obtain ⟨hi, rfl⟩ := List.getElem?_eq_some_iff.mp hd
    rw [List.take_succ_eq_append_getElem hi, List.map_append]
    rfl
  · rintro acc Γ2 ⟨rfl, rfl⟩
    rw [List.take_length]
    exact r
theorem e_lcFil {wi : TI} {g : TG} {tt : TT} {vs : List Nat} (P : D → Bool) (hk : Keeps g vs)
    (h : Ei Z wi Γ fun ds src Γ1 => ds.length ≤ 100000 ∧ SrcOk src Γ1 ∧ (∀ (x : Addr × HO) d, d ∈ ds → Gt (Z.pin x) g d (wipeG Γ1 vs) fun Γ2 => Et (Z.pin x) tt Γ2 fun b Γ3 => b = P d ∧ wipeG Γ3 vs = wipeG Γ1 vs ∧ Ed (Z.pin x) te Γ3 fun e Γ4 => e = d ∧ wipeG Γ4 vs = wipeG Γ1 vs) ∧ R (.list (ds.filter P)) (wipeG Γ1 vs)) :
    Ed Z (tLc wi g tt te vs) Γ R := by
  refine e_lc hk ?_
  intro F H σ S Q q
  refine h F H σ S Q fun J F' H' ds src Γ' ⟨hl, ho, hs, r⟩ => q J F' H' ds src Γ' ⟨hl, fun i acc Γ2 => acc = (ds.take i).filter P ∧ Γ2 = wipeG Γ' vs, ⟨by simp, rfl⟩, fun i acc Γ2 ⟨_, e⟩ => ?_, ?_, ?_⟩
  · subst e
    cases src with
    | none => trivial
    | some x => exact ho
  · rintro x i d acc Γ2 hd ⟨rfl, rfl⟩
    intro F2 H2 σ2 v S2 hv Q2 q2
    obtain ⟨hi, ed⟩ := List.getElem?_eq_some_iff.mp hd
    have et : (ds.take (i + 1)).filter P = (ds.take i).filter P ++ [d].filter P := by
      rw [List.take_succ_eq_append_getElem hi, List.filter_append, ed]
    refine hs x d (List.mem_of_getElem? hd) F2 H2 σ2 v S2 hv Q2 fun σ3 Γ3 h3 => q2 σ3 Γ3 (h3.imp fun b Γ4 ⟨e1, e2, e3⟩ => ⟨fun hb => e3.imp fun e Γ5 ⟨e4, e5⟩ => ⟨?_, e5⟩, fun hb => ⟨?_, e2⟩⟩)
    · rw [et, e4]
      rw [hb] at e1
      rw [List.filter_cons, ← e1]
      rfl
    · rw [et]
      rw [hb] at e1
      rw [List.filter_cons, ← e1]
      simp
  · rintro acc Γ2 ⟨rfl, rfl⟩
    rw [List.take_length]
    exact r
/-! ### isinstance -/
theorem kitS {d : D} {m n : String} {b : Bool} (h : kitB m n = some b) : PySem.W.kitOne K (.type m) (.type n) = some b := kit_ty h
theorem e_isiA {n m : String} {b : Bool} (hb : kitB m n = some b) (h : Ed Z ta Γ fun d Γ1 => tyD d = some m ∧ R (.bool b) Γ1) : Ed Z (tCB (rIsi Z.K) (tCons ta (tCons (tC (.ty n)) tNil))) Γ R := e_isi (h.imp fun d Γ1 ⟨h1, h2⟩ => ⟨m, b, h1, kit_ty hb, h2⟩)
/-! ### shapes of data, for == and repr -/
end
def Shp (n : Nat) (d : PyData) : Prop := d.canLay0 = true ∧ d.depth ≤ n
theorem Shp.mono {m n : Nat} {d : PyData} (h : Shp m d) (e : m ≤ n) : Shp n d := ⟨h.1, Nat.le_trans h.2 e⟩
theorem Shp.ok {n : Nat} {d : PyData} (h : Shp n d) (e : n ≤ 64) : SeqAt.shaped d = true := by
  unfold SeqAt.shaped
  rw [h.1, decide_eq_true (Nat.le_trans h.2 e)]
  rfl
theorem shp_int {n : Nat} {i : Int} : Shp n (.int i) := ⟨rfl, Nat.zero_le _⟩
theorem shp_none {n : Nat} : Shp n .none := ⟨rfl, Nat.zero_le _⟩
theorem shp_all {n : Nat} : ∀ {ds : List PyData}, (∀ d ∈ ds, Shp n d) → PyData.canLayAll0 ds = true ∧ PyData.depthAll ds ≤ n
  | [], _ => ⟨rfl, Nat.zero_le _⟩
  | d :: ds, h => by
    obtain ⟨h1, h2⟩ := h d List.mem_cons_self
    obtain ⟨h3, h4⟩ := shp_all (ds := ds) fun x hx => h x (List.mem_cons_of_mem _ hx)
    refine ⟨?_, ?_⟩
    · unfold PyData.canLayAll0
      rw [h1, h3]
      rfl
    · unfold PyData.depthAll
      exact Nat.max_le.mpr ⟨h2, h4⟩
theorem shp_list {n : Nat} {ds : List PyData} (h : ∀ d ∈ ds, Shp n d) : Shp (n + 1) (.list ds) := by
  obtain ⟨h1, h2⟩ := shp_all h
  refine ⟨?_, ?_⟩
  · unfold PyData.canLay0
    exact h1
  · unfold PyData.depth
    exact Nat.succ_le_succ h2
theorem shp_tuple {n : Nat} {ds : List PyData} (h : ∀ d ∈ ds, Shp n d) : Shp (n + 1) (.tuple ds) := by
  obtain ⟨h1, h2⟩ := shp_all h
  refine ⟨?_, ?_⟩
  · unfold PyData.canLay0
    exact h1
  · unfold PyData.depth
    exact Nat.succ_le_succ h2
theorem eqv_nil {ds : List PyData} : PyData.eqv (.list ds) (.list []) = ds.isEmpty := by
  unfold PyData.eqv
  cases ds <;> (unfold PyData.eqvAll; rfl)
theorem atI_nat' {α : Type} {l : List α} {i : Nat} {x : α} (h : l[i]? = some x) : atI l (i : Int) = some x := atI_nat h
theorem atI_last' {α : Type} {l : List α} {x : α} : atI (l ++ [x]) (-1) = some x := atI_last l x
theorem Pd.all {Γ : Sy} {α : Type} {f : α → D} {g : α → PyData} : ∀ {l : List α}, (∀ a ∈ l, Pd Γ (f a) (g a)) → PdAll Γ (l.map f) (l.map g)
  | [], _ => .nil
  | a :: l, h => .cons (h a List.mem_cons_self) (Pd.all fun b hb => h b (List.mem_cons_of_mem _ hb))
end Sl

set_option Elab.async false
set_option linter.all false
set_option autoImplicit false
set_option maxRecDepth 100000
set_option maxHeartbeats 1000000
/-! k31, the plain side: fronts, letters, what can be put. -/
namespace K32
open PySem PySem.Spec PyProof.Rows L2 Sl
inductive Lt where
  | C
  | R
  | L
  | E
  | S (j k : Nat)
abbrev Tri := Int × Int × Int
def sides (m : List Tri) : List (Int × Int) := m.flatMap fun t => [(t.1, t.2.1), (t.2.1, t.2.2), (t.2.2, t.1)]
def third (I : List (List Int)) (l : List Int) (n : Int) : Lt → Option Int
  | .C => some n
  | .R => if 3 < l.length then l[2]? else none
  | .L => if 3 < l.length then l[l.length - 1]? else none
  | .E => if l.length = 3 then l[2]? else none
  | .S 0 k => if 3 ≤ k ∧ k + 2 ≤ l.length then l[k]? else none
  | .S (j + 1) k => if j < I.length then (I[I.length - 1 - j]?).bind fun o => o[k]? else none
def asked (a b x : Int) : Lt → List (Int × Int)
  | .C => [(b, x), (x, b), (x, a), (a, x)]
  | .S _ _ => [(b, x), (x, b), (x, a), (a, x)]
  | .R => [(x, a), (a, x)]
  | .L => [(b, x), (x, b)]
  | .E => []
def step (I : List (List Int)) (l : List Int) (x : Int) : Lt → List (List Int)
  | .C => I ++ [l.getD 0 0 :: x :: l.drop 1]
  | .R => I ++ [l.getD 0 0 :: l.drop 2]
  | .L => I ++ [x :: (l.drop 1).dropLast]
  | .E => I
  | .S 0 k => I ++ [l.getD 0 0 :: l.drop k] ++ [x :: (l.take k).drop 1]
  | .S (j + 1) k => I.eraseIdx (I.length - 1 - j) ++ [l.getD 0 0 :: ((I.getD (I.length - 1 - j) []).drop k ++ (I.getD (I.length - 1 - j) []).take k ++ x :: l.drop 1)]
def more (n : Int) : Lt → Int
  | .C => n + 1
  | _ => n
/-- what can be put, and its third corner -/
def can (I : List (List Int)) (l : List Int) (m : List Tri) (n : Int) (t : Lt) : Option Int := match third I l n t with
  | none => none
  | some x => if x = l.getD 0 0 ∨ x = l.getD 1 0 ∨ (asked (l.getD 0 0) (l.getD 1 0) x t).any (fun s => decide (s ∈ sides m)) = true then none else some x
/-! ### rings -/
def Ch (R : Int → Int → Prop) : List Int → Prop
  | [] => True
  | [_] => True
  | a :: b :: r => R a b ∧ Ch R (b :: r)
theorem Ch.app {R : Int → Int → Prop} {y : Int} {ys : List Int} : ∀ {xs : List Int}, Ch R (xs ++ y :: ys) ↔ Ch R (xs ++ [y]) ∧ Ch R (y :: ys)
  | [] => by simp [Ch]
  | [a] => by simp [Ch]
  | a :: b :: r => by
    have ih := Ch.app (R := R) (y := y) (ys := ys) (xs := b :: r)
    simp only [List.cons_append] at ih ⊢
    simp only [Ch]
    rw [ih]
    exact and_assoc.symm
theorem Ch.mono {R R' : Int → Int → Prop} (h : ∀ a b, R a b → R' a b) : ∀ {xs : List Int}, Ch R xs → Ch R' xs
  | [], _ => trivial
  | [_], _ => trivial
  | a :: b :: r, ⟨h1, h2⟩ => ⟨h a b h1, Ch.mono h h2⟩
theorem Ch.get {R : Int → Int → Prop} : ∀ {xs : List Int} {k : Nat} {p q : Int}, Ch R xs → xs[k]? = some p → xs[k + 1]? = some q → R p q
  | [], _, _, _, _, h, _ => by simp at h
  | [_], _, _, _, _, _, h => by simp at h
  | a :: b :: r, 0, p, q, ⟨h1, _⟩, e1, e2 => by
    simp at e1 e2
    subst e1 e2
    exact h1
  | a :: b :: r, k + 1, p, q, ⟨_, h2⟩, e1, e2 => Ch.get (k := k) h2 e1 e2
def Cy (R : Int → Int → Prop) (l : List Int) : Prop := Ch R (l ++ [l.getD 0 0])
theorem Cy.get {R : Int → Int → Prop} {l : List Int} {k : Nat} {p q : Int} (h : Cy R l) (e1 : l[k]? = some p) (e2 : l[(k + 1) % l.length]? = some q) : R p q := by
  have hk : k < l.length := (List.getElem?_eq_some_iff.mp e1).1
  refine Ch.get (k := k) h (by rw [List.getElem?_append_left hk]; exact e1) ?_
  by_cases hl : k + 1 < l.length
  · rw [Nat.mod_eq_of_lt hl] at e2
    rw [List.getElem?_append_left hl]
    exact e2
  · have he : k + 1 = l.length := by omega
    rw [he, Nat.mod_self] at e2
    rw [he, List.getElem?_append_right (Nat.le_refl _), Nat.sub_self]
    simp [List.getD, e2]
def Rs (m : List Tri) (p q : Int) : Prop := (q, p) ∈ sides m
structure Ok (L : List (List Int)) (m : List Tri) (n : Int) : Prop where
  len : ∀ l ∈ L, 2 ≤ l.length
  lt : ∀ l ∈ L, ∀ c ∈ l, 0 ≤ c ∧ c < n
  mlt : ∀ t ∈ m, (0 ≤ t.1 ∧ t.1 < n) ∧ (0 ≤ t.2.1 ∧ t.2.1 < n) ∧ (0 ≤ t.2.2 ∧ t.2.2 < n)
  tot : (L.map List.length).sum ≤ 2 + m.length
  nle : 2 ≤ n ∧ n ≤ 2 + (m.length : Int)
  opp : (m = [] ∧ L = [[0, 1]] ∧ n = 2) ∨ ∀ l ∈ L, Cy (Rs m) l
theorem ok0 : Ok [[0, 1]] [] 2 := by
  refine ⟨?_, ?_, ?_, ?_, ?_, .inl ⟨rfl, rfl, rfl⟩⟩
  · intro l hl
    simp at hl
    subst hl
    decide
  · intro l hl c hc
    simp at hl
    subst hl
    simp at hc
    omega
  · intro t ht
    simp at ht
  · decide
  · decide
theorem mem_sides {m : List Tri} {p q : Int} : (p, q) ∈ sides m ↔ ∃ t ∈ m, (p = t.1 ∧ q = t.2.1) ∨ (p = t.2.1 ∧ q = t.2.2) ∨ (p = t.2.2 ∧ q = t.1) := by
  unfold sides
  rw [List.mem_flatMap]
  simp
theorem sides_lt {L : List (List Int)} {m : List Tri} {n : Int} (o : Ok L m n) {p q : Int} (h : (p, q) ∈ sides m) : p < n ∧ q < n := by
  obtain ⟨t, ht, h⟩ := mem_sides.mp h
  obtain ⟨h1, h2, h3⟩ := o.mlt t ht
  rcases h with ⟨rfl, rfl⟩ | ⟨rfl, rfl⟩ | ⟨rfl, rfl⟩ <;> exact ⟨by omega, by omega⟩
theorem asked_symm {a b x : Int} {t : Lt} {p q : Int} (h : (p, q) ∈ asked a b x t) : (q, p) ∈ asked a b x t := by
  cases t <;> simp [asked] at h ⊢ <;> omega
theorem asked_x {a b x : Int} {t : Lt} {p q : Int} (h : (p, q) ∈ asked a b x t) : p = x ∨ q = x := by
  cases t <;> simp [asked] at h <;> omega
/-- a side of a loop -/
def Wt (L : List (List Int)) (s : Int × Int) : Prop := ∃ l ∈ L, ∃ k, l[k]? = some s.1 ∧ l[(k + 1) % l.length]? = some s.2
/-- the law's look and the program's look -/
theorem look {I : List (List Int)} {l : List Int} {m : List Tri} {n x a b : Int} {t : Lt} (o : Ok (I ++ [l]) m n) (ht : third I l n t = some x) {W : Int × Int → Bool} (hW : ∀ s, W s = true ↔ Wt (I ++ [l]) s) :
    (asked a b x t).any (fun s => W s || decide (s ∈ sides m)) = (asked a b x t).any fun s => decide (s ∈ sides m) := by
  rw [Bool.eq_iff_iff, List.any_eq_true, List.any_eq_true]
  constructor
  · rintro ⟨⟨p, q⟩, hs, h⟩
    rcases Bool.or_eq_true_iff.mp h with h | h
    · obtain ⟨l', hl', k, e1, e2⟩ := (hW _).mp h
      rcases o.opp with ⟨rfl, hL, rfl⟩ | hc
      · -- the first letter
        exfalso
        have hI : I = [] ∧ l = [0, 1] := by
          cases I with
          | nil => simpa using hL
          | cons i I => simp at hL
        obtain ⟨rfl, rfl⟩ := hI
        have hx : x = 2 := by
          cases t with
          | C => simp [third] at ht; exact ht.symm
          | R => simp [third] at ht
          | L => simp [third] at ht
          | E => simp [third] at ht
          | S j k =>
            cases j with
            | zero => simp [third] at ht; omega
            | succ j => simp [third] at ht
        simp at hl'
        subst hl'
        have hk : k < 2 := (List.getElem?_eq_some_iff.mp e1).1
        have : (p = 0 ∨ p = 1) ∧ (q = 0 ∨ q = 1) := by
          match k, hk with
          | 0, _ => simp at e1 e2; omega
          | 1, _ => simp at e1 e2; omega
        have := asked_x hs
        omega
      · have := (hc l' hl').get e1 e2
        exact ⟨(q, p), asked_symm hs, decide_eq_true this⟩
    · exact ⟨(p, q), hs, h⟩
  · rintro ⟨s, hs, h⟩
    exact ⟨s, hs, by rw [h, Bool.or_true]⟩
/-- a new corner can always be put -/
theorem can_C {I : List (List Int)} {l : List Int} {m : List Tri} {n : Int} (o : Ok (I ++ [l]) m n) : can I l m n .C = some n := by
  have hl : 2 ≤ l.length := o.len l (by simp)
  have h0 : l.getD 0 0 < n := by
    have := (o.lt l (by simp) l[0] (List.getElem_mem _)).2
    simpa [List.getD, List.getElem?_eq_getElem (show 0 < l.length by omega)] using this
  have h1 : l.getD 1 0 < n := by
    have := (o.lt l (by simp) l[1] (List.getElem_mem _)).2
    simpa [List.getD, List.getElem?_eq_getElem (show 1 < l.length by omega)] using this
  unfold can third
  simp only
  rw [if_neg]
  rintro (h | h | h)
  · omega
  · omega
  · obtain ⟨⟨p, q⟩, hs, h⟩ := List.any_eq_true.mp h
    have := sides_lt o (of_decide_eq_true h)
    have := asked_x hs
    omega
end K32

set_option Elab.async false
set_option linter.all false
set_option autoImplicit false
set_option maxRecDepth 100000
set_option maxHeartbeats 1000000
namespace K32
open PySem PySem.Spec PyProof.Rows L2 Sl
theorem third_of_can {I : List (List Int)} {l : List Int} {m : List Tri} {n x : Int} {t : Lt} (h : can I l m n t = some x) : third I l n t = some x := by
  unfold can at h
  cases e : third I l n t with
  | none => rw [e] at h; cases h
  | some y =>
    rw [e] at h
    simp only at h
    split at h
    · cases h
    · cases h; rfl
theorem get_lt {l : List Int} {n x : Int} {k : Nat} (h : ∀ c ∈ l, 0 ≤ c ∧ c < n) (e : l[k]? = some x) : 0 ≤ x ∧ x < n := h x (List.mem_of_getElem? e)
theorem third_lt {I : List (List Int)} {l : List Int} {m : List Tri} {n x : Int} {t : Lt} (o : Ok (I ++ [l]) m n) (h : third I l n t = some x) : 0 ≤ x ∧ x < more n t ∧ n ≤ more n t := by
  have hl := o.lt l (by simp)
  have n2 := o.nle.1
  have fin : ∀ {k : Nat}, l[k]? = some x → 0 ≤ x ∧ x < n ∧ n ≤ n := fun {k} e => ⟨(get_lt hl e).1, (get_lt hl e).2, Int.le_refl _⟩
  cases t with
  | C =>
    simp [third] at h
    subst h
    exact ⟨by omega, by show n < n + 1; omega, by show n ≤ n + 1; omega⟩
  | R =>
    simp only [third] at h
    split at h
    · exact fin h
    · cases h
  | L =>
    simp only [third] at h
    split at h
    · exact fin h
    · cases h
  | E =>
    simp only [third] at h
    split at h
    · exact fin h
    · cases h
  | S j k =>
    cases j with
    | zero =>
      simp only [third] at h
      split at h
      · exact fin h
      · cases h
    | succ j =>
      simp only [third] at h
      split at h
      · cases e : I[I.length - 1 - j]? with
        | none => rw [e] at h; cases h
        | some o' =>
          rw [e] at h
          have := get_lt (o.lt o' (by simp [List.mem_of_getElem? e])) h
          exact ⟨this.1, this.2, Int.le_refl _⟩
      · cases h
/-- the law's way to count corners -/
theorem more_max {I : List (List Int)} {l : List Int} {m : List Tri} {n x : Int} {t : Lt} (o : Ok (I ++ [l]) m n) (h : third I l n t = some x) : (if x + 1 > n then x + 1 else n) = more n t := by
  cases t with
  | C =>
    simp [third] at h
    subst h
    rw [if_pos (by omega)]
    rfl
  | R => have := third_lt o h; rw [if_neg (by have : x < n := this.2.1; omega)]; rfl
  | L => have := third_lt o h; rw [if_neg (by have : x < n := this.2.1; omega)]; rfl
  | E => have := third_lt o h; rw [if_neg (by have : x < n := this.2.1; omega)]; rfl
  | S j k => have := third_lt o h; rw [if_neg (by have : x < n := this.2.1; omega)]; rfl
theorem rs_mono {m : List Tri} {t : Tri} (p q : Int) (h : Rs m p q) : Rs (m ++ [t]) p q := by
  obtain ⟨u, hu, h⟩ := mem_sides.mp h
  exact mem_sides.mpr ⟨u, by simp [hu], h⟩
theorem rs_new {m : List Tri} {a b x : Int} : Rs (m ++ [(a, b, x)]) b a ∧ Rs (m ++ [(a, b, x)]) x b ∧ Rs (m ++ [(a, b, x)]) a x :=
  ⟨mem_sides.mpr ⟨(a, b, x), by simp, by simp⟩, mem_sides.mpr ⟨(a, b, x), by simp, by simp⟩, mem_sides.mpr ⟨(a, b, x), by simp, by simp⟩⟩
theorem two {l : List Int} (h : 2 ≤ l.length) : ∃ a b r, l = a :: b :: r := by
  match l, h with
  | a :: b :: r, _ => exact ⟨a, b, r, rfl⟩
theorem eraseIdx_mem {α : Type} {L : List α} {i : Nat} {x : α} (h : x ∈ L.eraseIdx i) : x ∈ L := List.mem_of_mem_eraseIdx h
theorem split_at {α : Type} {l : List α} {k : Nat} {x : α} (h : l[k]? = some x) : l.drop k = x :: l.drop (k + 1) := by
  obtain ⟨hk, rfl⟩ := List.getElem?_eq_some_iff.mp h
  exact List.drop_eq_getElem_cons hk
/-- the step, loop by loop: lengths and sides -/
theorem step_in {I : List (List Int)} {a b : Int} {r : List Int} {m : List Tri} {n x : Int} {t : Lt} (h : third I (a :: b :: r) n t = some x) {l' : List Int} (hm : l' ∈ step I (a :: b :: r) x t) :
    l' ∈ I ∨ (2 ≤ l'.length ∧ (∀ c ∈ l', c = x ∨ c = a ∨ c = b ∨ c ∈ r ∨ ∃ o ∈ I, c ∈ o) ∧ ∀ R : Int → Int → Prop, R x b → R a x → Ch R (b :: r ++ [a]) → (∀ o ∈ I, Cy R o) → Cy R l') := by
  have hI : ∀ {k j : Nat} {o : List Int}, I[k]? = some o → o ∈ I := fun e => List.mem_of_getElem? e
  cases t with
  | C =>
    simp [step] at hm
    rcases hm with hm | rfl
    · exact .inl hm
    · refine .inr ⟨by simp, ?_, fun R h1 h2 h3 _ => ?_⟩
      · intro c hc
        simp at hc
        rcases hc with rfl | rfl | rfl | hc <;> simp [*]
      · show Ch R (a :: x :: b :: (r ++ [a]))
        exact ⟨h2, h1, h3⟩
  | R =>
    simp only [third] at h
    split at h
    · rename_i hl
      simp [step] at hm
      rcases hm with hm | rfl
      · exact .inl hm
      · have hr : r[0]? = some x := by simpa using h
        obtain ⟨r', rfl⟩ : ∃ r', r = x :: r' := by
          cases r with
          | nil => simp at hr
          | cons y r' => simp at hr; exact ⟨r', by rw [hr]⟩
        refine .inr ⟨by simp, ?_, fun R h1 h2 h3 _ => ?_⟩
        · intro c hc
          simp at hc
          rcases hc with rfl | rfl | hc <;> simp [*]
        · show Ch R (a :: x :: (r' ++ [a]))
          exact ⟨h2, h3.2⟩
    · cases h
  | L =>
    simp only [third] at h
    split at h
    · rename_i hl
      simp [step] at hm
      rcases hm with hm | rfl
      · exact .inl hm
      · obtain ⟨r', rfl⟩ : ∃ r', r = r' ++ [x] := by
          have hne : r ≠ [] := by
            rintro rfl
            simp at hl
          refine ⟨r.dropLast, ?_⟩
          have e : r.getLast hne = x := by
            have : (a :: b :: r)[(a :: b :: r).length - 1]? = some (r.getLast hne) := by
              rw [List.getElem?_eq_getElem (by simp)]
              simp [List.getLast_eq_getElem]
              cases r with
              | nil => exact absurd rfl hne
              | cons y r => simp
            rw [this] at h
            exact Option.some.inj h
          rw [← e]
          exact (List.dropLast_concat_getLast hne).symm
        have ed : (b :: (r' ++ [x])).dropLast = b :: r' := by
          rw [← List.cons_append, List.dropLast_concat]
        rw [ed]
        refine .inr ⟨by simp, ?_, fun R h1 h2 h3 _ => ?_⟩
        · intro c hc
          simp at hc
          rcases hc with rfl | rfl | hc <;> simp [*]
        · show Ch R (x :: b :: (r' ++ [x]))
          have h4 : Ch R ((b :: r') ++ x :: [a]) := by simpa using h3
          exact ⟨h1, (Ch.app.mp h4).1⟩
    · cases h
  | E => exact .inl hm
  | S j k =>
    cases j with
    | zero =>
      simp only [third] at h
      split at h
      · rename_i hk
        obtain ⟨k, rfl⟩ : ∃ k', k = k' + 2 := ⟨k - 2, by omega⟩
        have hr : r[k]? = some x := by simpa using h
        have hd := split_at hr
        have hr2 : r = r.take k ++ x :: r.drop (k + 1) := by
          rw [← hd, List.take_append_drop]
        have hkl : k < r.length := (List.getElem?_eq_some_iff.mp hr).1
        simp [step] at hm
        rcases hm with hm | rfl | rfl
        · exact .inl hm
        · rw [hd]
          refine .inr ⟨by simp, ?_, fun R h1 h2 h3 _ => ?_⟩
          · intro c hc
            simp at hc
            rcases hc with rfl | rfl | hc
            · simp
            · simp
            · exact .inr (.inr (.inr (.inl (List.mem_of_mem_drop hc))))
          · show Ch R (a :: x :: (r.drop (k + 1) ++ [a]))
            have h4 : Ch R ((b :: r.take k) ++ x :: (r.drop (k + 1) ++ [a])) := by
              have e : b :: r ++ [a] = (b :: r.take k) ++ x :: (r.drop (k + 1) ++ [a]) := by
                conv => lhs; rw [hr2]
                simp
              rw [← e]
              exact h3
            exact ⟨h2, (Ch.app.mp h4).2⟩
        · refine .inr ⟨by simp, ?_, fun R h1 h2 h3 _ => ?_⟩
          · intro c hc
            simp at hc
            rcases hc with rfl | rfl | hc
            · simp
            · simp
            · exact .inr (.inr (.inr (.inl (List.mem_of_mem_take hc))))
          · show Ch R (x :: b :: (r.take k ++ [x]))
            have h4 : Ch R ((b :: r.take k) ++ x :: (r.drop (k + 1) ++ [a])) := by
              have e : b :: r ++ [a] = (b :: r.take k) ++ x :: (r.drop (k + 1) ++ [a]) := by
                conv => lhs; rw [hr2]
                simp
              rw [← e]
              exact h3
            exact ⟨h1, (Ch.app.mp h4).1⟩
      · cases h
    | succ j =>
      simp only [third] at h
      split at h
      · rename_i hj
        cases e : I[I.length - 1 - j]? with
        | none => rw [e] at h; cases h
        | some o =>
          rw [e] at h
          have ho : o[k]? = some x := h
          have oI : o ∈ I := List.mem_of_getElem? e
          have hd := split_at ho
          have ho2 : o = o.take k ++ x :: o.drop (k + 1) := by
            rw [← hd, List.take_append_drop]
          have eo : I.getD (I.length - 1 - j) [] = o := by simp [List.getD, e]
          simp only [step, eo] at hm
          rcases List.mem_append.mp hm with hm | hm
          · exact .inl (eraseIdx_mem hm)
          · simp at hm
            subst hm
            refine .inr ⟨?_, ?_, fun R h1 h2 h3 h4 => ?_⟩
            · simp; omega
            · intro c hc
              simp at hc
              rcases hc with rfl | hc | hc | rfl | rfl | hc
              · simp
              · exact .inr (.inr (.inr (.inr ⟨o, oI, List.mem_of_mem_drop hc⟩)))
              · exact .inr (.inr (.inr (.inr ⟨o, oI, List.mem_of_mem_take hc⟩)))
              · simp
              · simp
              · simp [hc]
            · rw [hd]
              have g : Ch R (x :: (o.drop (k + 1) ++ o.take k) ++ [x]) := by
                have c := h4 o oI
                cases ht : o.take k with
                | nil =>
                  rw [ht] at ho2
                  rw [ho2] at c
                  simpa [Cy] using c
                | cons y u =>
                  have c2 : Ch R ((y :: u) ++ x :: (o.drop (k + 1) ++ [y])) := by
                    have e2 : o ++ [o.getD 0 0] = (y :: u) ++ x :: (o.drop (k + 1) ++ [y]) := by
                      rw [ht] at ho2
                      have : o.getD 0 0 = y := by rw [ho2]; rfl
                      rw [this]
                      conv => lhs; rw [ho2]
                      simp
                    rw [← e2]
                    exact c
                  obtain ⟨c3, c4⟩ := Ch.app.mp c2
                  have c5 : Ch R ((x :: o.drop (k + 1)) ++ y :: (u ++ [x])) := Ch.app.mpr ⟨c4, c3⟩
                  simpa using c5
              have g2 : Ch R ((x :: (o.drop (k + 1) ++ o.take k)) ++ x :: (b :: r ++ [a])) := Ch.app.mpr ⟨g, ⟨h1, h3⟩⟩
              show Ch R (a :: (x :: o.drop (k + 1) ++ (o.take k ++ x :: b :: r)) ++ [a])
              simp only [List.cons_append, List.append_assoc] at g2 ⊢
              exact ⟨h2, g2⟩
      · cases h
theorem sum_erase {I : List (List Int)} : ∀ {i : Nat} {o : List Int}, I[i]? = some o → ((I.eraseIdx i).map List.length).sum + o.length = (I.map List.length).sum := by
  induction I with
  | nil => intro i o h; simp at h
  | cons y I ih =>
    intro i o h
    cases i with
    | zero =>
      simp at h
      subst h
      simp
      omega
    | succ i =>
      have := ih (i := i) (o := o) (by simpa using h)
      simp
      omega
theorem step_tot {I : List (List Int)} {a b : Int} {r : List Int} {n x : Int} {t : Lt} (h : third I (a :: b :: r) n t = some x) : ((step I (a :: b :: r) x t).map List.length).sum ≤ (I.map List.length).sum + (r.length + 3) := by
  cases t with
  | C => simp [step]
  | R => simp [step]
  | L => simp [step]
  | E => simp [step]
  | S j k =>
    cases j with
    | zero =>
      simp only [third] at h
      split at h
      · simp [step]
        omega
      · cases h
    | succ j =>
      simp only [third] at h
      split at h
      · cases e : I[I.length - 1 - j]? with
        | none => rw [e] at h; cases h
        | some o =>
          have eo : I.getD (I.length - 1 - j) [] = o := by simp [List.getD, e]
          have := sum_erase e
          simp only [step, eo]
          simp
          omega
      · cases h
theorem ok_step {I : List (List Int)} {l : List Int} {m : List Tri} {n x : Int} {t : Lt} (o : Ok (I ++ [l]) m n) (h : third I l n t = some x) : Ok (step I l x t) (m ++ [(l.getD 0 0, l.getD 1 0, x)]) (more n t) := by
  obtain ⟨a, b, r, rfl⟩ := two (o.len l (by simp))
  have hab := o.lt (a :: b :: r) (by simp)
  have ha := hab a (by simp)
  have hb := hab b (by simp)
  have hx := third_lt o h
  have hn := o.nle
  show Ok (step I (a :: b :: r) x t) (m ++ [(a, b, x)]) (more n t)
  refine ⟨fun l' hl => ?_, fun l' hl c hc => ?_, fun t' ht => ?_, ?_, ?_, .inr fun l' hl => ?_⟩
  · rcases step_in (m := m) h hl with hi | hi
    · exact o.len l' (by simp [hi])
    · exact hi.1
  · rcases step_in (m := m) h hl with hi | hi
    · have := o.lt l' (by simp [hi]) c hc
      omega
    · rcases hi.2.1 c hc with rfl | rfl | rfl | hc | ⟨o', ho', hc⟩
      · omega
      · omega
      · omega
      · have := hab c (by simp [hc]); omega
      · have := o.lt o' (by simp [ho']) c hc; omega
  · rcases List.mem_append.mp ht with ht | ht
    · have := o.mlt t' ht; omega
    · simp at ht
      subst ht
      dsimp only
      omega
  · have h1 := step_tot h
    have h2 := o.tot
    simp at h2 ⊢
    omega
  · have : more n t ≤ n + 1 := by cases t <;> simp [more] <;> omega
    simp
    omega
  · obtain ⟨n1, n2, n3⟩ := rs_new (m := m) (a := a) (b := b) (x := x)
    rcases o.opp with ⟨rfl, hL, rfl⟩ | hc
    · obtain ⟨rfl, hl0⟩ : I = [] ∧ a :: b :: r = [0, 1] := by
        cases I with
        | nil => simpa using hL
        | cons i I => simp at hL
      rcases step_in (m := []) h hl with hi | hi
      · cases hi
      · refine hi.2.2 _ n2 n3 ?_ (fun o' ho' => by cases ho')
        have hr : r = [] := by
          injection hl0 with _ h2
          injection h2
        subst hr
        exact ⟨n1, trivial⟩
    · rcases step_in (m := m) h hl with hi | hi
      · exact (hc l' (by simp [hi])).mono (fun p q => rs_mono p q)
      · refine hi.2.2 _ n2 n3 ?_ (fun o' ho' => (hc o' (by simp [ho'])).mono fun p q => rs_mono p q)
        have c := hc (a :: b :: r) (by simp)
        have c2 : Ch (Rs m) (a :: b :: (r ++ [a])) := c
        exact c2.2.mono fun p q => rs_mono p q
end K32

set_option Elab.async false
set_option linter.all false
set_option autoImplicit false
set_option maxRecDepth 100000
set_option maxHeartbeats 1000000
namespace K32
open PySem PySem.Spec PyProof.Rows L2 Sl
/-! ### places from behind, slices -/
theorem atI_back {α : Type} {xs : List α} {j : Nat} {v : α} (hj : j < xs.length) (h : xs[xs.length - 1 - j]? = some v) : atI xs (-1 - (j : Int)) = some v := by
  unfold atI ixN
  rw [if_neg (by omega), if_pos (by omega)]
  have e : ((-1 - (j : Int)) + (xs.length : Int)).toNat = xs.length - 1 - j := by omega
  rw [e]
  exact h
section
variable {ds : List D} {k j : Nat}
theorem cut_lo : Sl.cutD ds (some (k : Int)) none = ds.drop k := by
  unfold Sl.cutD
  rw [HT.sIx_none, HT.sIx_nat]
  rw [List.take_of_length_le (by rw [List.length_drop]; omega)]
  by_cases h : k ≤ ds.length
  · rw [Nat.min_eq_left h]
  · rw [Nat.min_eq_right (by omega), List.drop_length, List.drop_eq_nil_of_le (by omega)]
theorem cut_hi : Sl.cutD ds none (some (k : Int)) = ds.take k := by
  unfold Sl.cutD
  rw [HT.sIx_none, HT.sIx_nat, List.drop_zero, Nat.sub_zero, ← List.take_take, List.take_length]
theorem cut_lohi (hk : k ≤ ds.length) : Sl.cutD ds (some (j : Int)) (some (k : Int)) = (ds.take k).drop j := by
  unfold Sl.cutD
  rw [HT.sIx_nat, HT.sIx_nat, Nat.min_eq_left hk]
  by_cases h : j ≤ ds.length
  · rw [Nat.min_eq_left h, List.drop_take]
  · rw [Nat.min_eq_right (by omega), List.drop_length, List.take_nil, List.drop_eq_nil_of_le (by rw [List.length_take]; omega)]
theorem cut_1 : Sl.cutD ds (some 1) none = ds.drop 1 := cut_lo (k := 1)
theorem cut_2 : Sl.cutD ds (some 2) none = ds.drop 2 := cut_lo (k := 2)
theorem cut_to2 : Sl.cutD ds none (some 2) = ds.take 2 := cut_hi (k := 2)
theorem cut_1k (hk : k ≤ ds.length) : Sl.cutD ds (some 1) (some (k : Int)) = (ds.take k).drop 1 := cut_lohi (j := 1) hk
theorem cut_1n (h : 1 ≤ ds.length) : Sl.cutD ds (some 1) (some (-1)) = (ds.drop 1).dropLast := by
  unfold Sl.cutD
  have e1 : HT.sIx ds.length 0 (some 1) = 1 := by
    have := HT.sIx_nat ds.length 0 1
    rw [Nat.min_eq_left h] at this
    exact this
  have e2 : HT.sIx ds.length ds.length (some (-1)) = ds.length - 1 := by
    unfold HT.sIx
    simp only
    rw [if_pos (by decide)]
    omega
  rw [e1, e2, List.dropLast_eq_take, List.length_drop]
end
theorem take_self {l : Cs} : Take l l [] := by
  have := Take.all (l := l) (r := [])
  rw [List.append_nil] at this
  exact this
theorem seq_back {n j : Nat} (h1 : 1 ≤ j) (h2 : j ≤ n) : seqIndex? (-(j : Int)) n = some (n - j) := by
  have e : -(j : Int) < 0 := by omega
  have e2 : (-(j : Int) + (n : Int)).toNat = n - j := by omega
  have e3 : 0 ≤ -(j : Int) + (n : Int) := by omega
  have e4 : -(j : Int) + (n : Int) < n := by omega
  have e5 : 0 < j := by omega
  simp only [seqIndex?, e, e2, e3, e4, if_true, decide_true, Bool.and_self]
theorem seq_nat {n j : Nat} (h2 : j < n) : seqIndex? (j : Int) n = some j := by
  have e : ¬ (j : Int) < 0 := by omega
  simp [seqIndex?, e, h2]
/-! ### tests that change nothing -/
section
variable {Z : Zx} {Γ : Sy} {t u : TT} {a b : Bool}
def Tp (Z : Zx) (t : TT) (Γ : Sy) (b : Bool) : Prop := Et Z t Γ fun c Γ1 => c = b ∧ Γ1 = Γ
theorem tp_and (h1 : Tp Z t Γ a) (h2 : a = true → Tp Z u Γ b) : Tp Z (tAnd t u) Γ (a && b) := t_and (h1.imp fun c Γ1 ⟨e1, e2⟩ => by
  subst e1 e2
  exact ⟨fun h => (h2 h).imp fun d Γ2 ⟨e3, e4⟩ => ⟨by rw [e3, h]; rfl, e4⟩, fun h => ⟨by rw [h]; rfl, rfl⟩⟩)
theorem tp_or (h1 : Tp Z t Γ a) (h2 : a = false → Tp Z u Γ b) : Tp Z (tOr t u) Γ (a || b) := t_or (h1.imp fun c Γ1 ⟨e1, e2⟩ => by
  subst e1 e2
  exact ⟨fun h => (h2 h).imp fun d Γ2 ⟨e3, e4⟩ => ⟨by rw [e3, h]; rfl, e4⟩, fun h => ⟨by rw [h]; rfl, rfl⟩⟩)
theorem tp_not (h1 : Tp Z t Γ a) : Tp Z (tNot t) Γ (!a) := t_not (h1.imp fun c Γ1 ⟨e1, e2⟩ => ⟨by rw [e1], e2⟩)
theorem s_ifB {tc : TT} {t u : TS} {E : DE} (B : Bool) (ht : Tp Z tc Γ B) (h1 : B = true → Sd Z t Γ E) (h2 : B = false → Sd Z u Γ E) : Sd Z (tIfS tc t u) Γ E :=
  s_if (ht.imp fun b Γ1 ⟨e1, e2⟩ => by subst e1 e2; exact ⟨h1, h2⟩)
end
end K32

set_option Elab.async false
set_option linter.all false
set_option autoImplicit false
set_option maxRecDepth 100000
set_option maxHeartbeats 1000000
namespace K32
open PySem PySem.Spec PyProof.Rows L2 Sl
/-! ### what repr may be asked of -/
def Fine (k N : Nat) (d : PyData) : Prop := d.showable = true ∧ d.hasDict = false ∧ d.depth ≤ k ∧ d.leavesShort 8 = true ∧ d.bulk ≤ N
theorem short_nat : ∀ i : Nat, i < 1000 → (PyData.shown (.int (i : Nat))).length ≤ 8 ∧ (i : Int).natAbs.log2 < 1920 := by
  decide +kernel
theorem fine_int {i : Int} (h0 : 0 ≤ i) (h1 : i < 1000) : Fine 0 0 (.int i) := by
  obtain ⟨n, rfl⟩ : ∃ n : Nat, i = (n : Int) := ⟨i.toNat, by omega⟩
  obtain ⟨a, b⟩ := short_nat n (by omega)
  exact ⟨decide_eq_true b, rfl, Nat.le_refl _, decide_eq_true a, Nat.le_refl _⟩
theorem fine_all {k M : Nat} : ∀ {ds : List PyData}, (∀ d ∈ ds, Fine k M d) → PyData.showableAll ds = true ∧ PyData.hasDictAll ds = false ∧ PyData.depthAll ds ≤ k ∧ PyData.leavesShortAll 8 ds = true ∧ PyData.bulkAll ds ≤ (M + 1) * ds.length
  | [], _ => ⟨rfl, rfl, Nat.zero_le _, rfl, Nat.zero_le _⟩
  | d :: ds, h => by
    obtain ⟨a1, a2, a3, a4, a5⟩ := h d List.mem_cons_self
    obtain ⟨b1, b2, b3, b4, b5⟩ := fine_all (ds := ds) fun x hx => h x (List.mem_cons_of_mem _ hx)
    refine ⟨?_, ?_, ?_, ?_, ?_⟩
    · simp only [PyData.showableAll, a1, b1, Bool.and_self]
    · simp only [PyData.hasDictAll, a2, b2, Bool.or_self]
    · unfold PyData.depthAll
      exact Nat.max_le.mpr ⟨a3, b3⟩
    · simp only [PyData.leavesShortAll, a4, b4, Bool.and_self]
    · simp only [PyData.bulkAll, List.length_cons, Nat.mul_add]
      omega
theorem fine_list {k M : Nat} {ds : List PyData} (h : ∀ d ∈ ds, Fine k M d) : Fine (k + 1) ((M + 1) * ds.length) (.list ds) := by
  obtain ⟨b1, b2, b3, b4, b5⟩ := fine_all h
  refine ⟨?_, ?_, ?_, ?_, ?_⟩
  · simpa only [PyData.showable] using b1
  · simpa only [PyData.hasDict] using b2
  · simp only [PyData.depth]; omega
  · simpa only [PyData.leavesShort] using b4
  · simpa only [PyData.bulk] using b5
theorem fine_tuple {k M : Nat} {ds : List PyData} (h : ∀ d ∈ ds, Fine k M d) : Fine (k + 1) ((M + 1) * ds.length) (.tuple ds) := by
  obtain ⟨b1, b2, b3, b4, b5⟩ := fine_all h
  refine ⟨?_, ?_, ?_, ?_, ?_⟩
  · simpa only [PyData.showable] using b1
  · simpa only [PyData.hasDict] using b2
  · simp only [PyData.depth]; omega
  · simpa only [PyData.leavesShort] using b4
  · simpa only [PyData.bulk] using b5
theorem Fine.mono {k N N' : Nat} {d : PyData} (h : Fine k N d) (e : N ≤ N') : Fine k N' d := ⟨h.1, h.2.1, h.2.2.1, h.2.2.2.1, Nat.le_trans h.2.2.2.2 e⟩
theorem Fine.len {k N : Nat} {d : PyData} (h : Fine k N d) (e : N ≤ 1000000) : d.shown.length ≤ sizeLine := by
  have := PyData.shown_le_bulk 8 (by decide) d h.2.2.2.1
  have h5 := h.2.2.2.2
  have : d.shown.length ≤ 10 * 1000000 + 8 := by omega
  exact Nat.le_trans this (by decide)
theorem Fine.okL {k N : Nat} {ds : List PyData} (h : Fine k N (.list ds)) (hk : k ≤ 60) (e : N ≤ 1000000) : okR (.list ds) := ⟨h.1, h.2.1, Nat.le_trans h.2.2.1 hk, h.len e⟩
theorem Fine.okT {k N : Nat} {ds : List PyData} (h : Fine k N (.tuple ds)) (hk : k ≤ 60) (e : N ≤ 1000000) : okR (.tuple ds) := ⟨h.1, h.2.1, Nat.le_trans h.2.2.1 hk, h.len e⟩
abbrev triP (t : Tri) : PyData := .tuple [.int t.1, .int t.2.1, .int t.2.2]
section
variable {L : List (List Int)} {m : List Tri} {n : Int}
theorem ok_lt (o : Ok L m n) (hm : m.length ≤ 900) {i : Int} (h : i ≤ n) : i < 1000 := by have := o.nle; omega
theorem len_le_sum' {L : List (List Int)} {l : List Int} (h : l ∈ L) : l.length ≤ (L.map List.length).sum := by
  induction L with
  | nil => cases h
  | cons a L ih =>
    rw [List.map_cons, List.sum_cons]
    rcases List.mem_cons.mp h with rfl | h
    · omega
    · have := ih h; omega
theorem count_le_sum' {L : List (List Int)} (h : ∀ l ∈ L, 2 ≤ l.length) : 2 * L.length ≤ (L.map List.length).sum := by
  induction L with
  | nil => simp
  | cons a L ih =>
    rw [List.map_cons, List.sum_cons, List.length_cons]
    have := ih fun l hl => h l (List.mem_cons_of_mem _ hl)
    have := h a List.mem_cons_self
    omega
theorem okR_rows (o : Ok L m n) (hm : m.length ≤ 900) : okR (.list (L.map fun l => PyData.list (l.map PyData.int))) := by
  have hf : Fine 2 ((903 + 1) * (L.map fun l => PyData.list (l.map PyData.int)).length) (.list (L.map fun l => PyData.list (l.map PyData.int))) := fine_list fun d hd => by
    obtain ⟨l, hl, rfl⟩ := List.mem_map.mp hd
    have h1 : Fine 1 ((0 + 1) * (l.map PyData.int).length) (.list (l.map PyData.int)) := fine_list fun d hd => by
      obtain ⟨i, hi, rfl⟩ := List.mem_map.mp hd
      have := o.lt l hl i hi
      exact fine_int this.1 (ok_lt o hm (by omega))
    refine h1.mono ?_
    rw [List.length_map]
    have := len_le_sum' hl
    have := o.tot
    omega
  refine hf.okL (by decide) ?_
  rw [List.length_map]
  have := count_le_sum' o.len
  have := o.tot
  omega
theorem okR_tri (o : Ok L m n) (hm : m.length ≤ 900) {t : Tri} (ht : t ∈ m) : Fine 1 3 (triP t) := by
  obtain ⟨h1, h2, h3⟩ := o.mlt t ht
  refine (fine_tuple (k := 0) (M := 0) fun d hd => ?_).mono (by simp)
  simp at hd
  rcases hd with rfl | rfl | rfl
  · exact fine_int h1.1 (ok_lt o hm (by omega))
  · exact fine_int h2.1 (ok_lt o hm (by omega))
  · exact fine_int h3.1 (ok_lt o hm (by omega))
theorem okR_made (o : Ok L m n) (hm : m.length ≤ 900) : okR (.list (m.map triP)) := by
  have hf : Fine 2 ((3 + 1) * (m.map triP).length) (.list (m.map triP)) := fine_list fun d hd => by
    obtain ⟨t, ht, rfl⟩ := List.mem_map.mp hd
    exact okR_tri o hm ht
  refine hf.okL (by decide) ?_
  rw [List.length_map]
  omega
theorem okR_n (o : Ok L m n) (hm : m.length ≤ 900) : okR (.int n) := by
  have h := fine_int (i := n) (by have := o.nle; omega) (ok_lt o hm (Int.le_refl _))
  exact (of_decide_eq_true h.1 : n.natAbs.log2 < 1920)
theorem okR_gate (o : Ok L m n) (hm : m.length ≤ 900) {l : List Int} (hl : l ∈ L) : okR (.tuple [.int (l.getD 0 0), .int (l.getD 1 0)]) := by
  have h2 := o.len l hl
  have g : ∀ k, k < l.length → 0 ≤ l.getD k 0 ∧ l.getD k 0 < n := fun k hk => by
    have := o.lt l hl l[k] (List.getElem_mem _)
    simpa [List.getD, List.getElem?_eq_getElem hk] using this
  have g0 := g 0 (by omega)
  have g1 := g 1 (by omega)
  generalize l.getD 0 0 = a at *
  generalize l.getD 1 0 = b at *
  refine (fine_tuple (k := 0) (M := 0) fun d hd => ?_).okT (by decide) (by simp)
  simp at hd
  rcases hd with rfl | rfl
  · exact fine_int g0.1 (ok_lt o hm (by omega))
  · exact fine_int g1.1 (ok_lt o hm (by omega))
end
end K32

set_option Elab.async false
set_option linter.all false
set_option autoImplicit false
set_option maxRecDepth 100000
set_option maxHeartbeats 1000000
namespace K32
open PySem PySem.Spec PyProof.Rows L2 Sl
/-! ### cells behind a row of unknown length -/
theorem rm_app {l l' : Cs} {p : Addr} {c : HD} : ∀ {B : Cs}, Rm l p c l' → Rm (B ++ l) p c (B ++ l')
  | [], h => h
  | _ :: B, h => .s (rm_app (B := B) h)
theorem at_app {l : Cs} {p : Addr} {c : HD} {n : Nat} : ∀ {B : Cs}, At l n p c → At (B ++ l) (n + B.length) p c
  | [], h => h
  | _ :: B, h => .s (at_app (B := B) h)
theorem rp_app {l l' : Cs} {p : Addr} {c c' : HD} : ∀ {B : Cs}, Rp l p c c' l' → Rp (B ++ l) p c c' (B ++ l')
  | [], h => h
  | _ :: B, h => .s (rp_app (B := B) h)
theorem take_swap : ∀ {A B : Cs}, Take (A ++ B) (B ++ A) []
  | [], B => by
    rw [List.append_nil]
    exact take_self
  | (p, c) :: A, B => .cons (rm_app .z) take_swap
theorem take_swap3 {A B C : Cs} : Take (B ++ (C ++ A)) ((A ++ B) ++ C) [] := by
  rw [List.append_assoc, ← List.append_assoc B C A]
  exact take_swap
theorem at_of_mem {l : Cs} {p : Addr} {c : HD} (h : (p, c) ∈ l) : ∃ n, At l n p c := by
  induction l with
  | nil => cases h
  | cons x l ih =>
    rcases List.mem_cons.mp h with rfl | h
    · exact ⟨0, .z⟩
    · obtain ⟨n, h⟩ := ih h
      exact ⟨n + 1, .s h⟩
/-- lists as cells, with some contents -/
abbrev wsC (ws : List (Addr × List D)) : Cs := ws.map fun w => (w.1, .lst w.2)
theorem ws_app {d : D} {p : Addr} {N : Nat} : ∀ {ws : List (Addr × List D)}, p ∈ ws.map (·.1) → (∀ w ∈ ws, w.2.length ≤ N) → ∃ ds ws', ds.length ≤ N ∧ Rp (wsC ws) p (.lst ds) (.lst (ds ++ [d])) (wsC ws') ∧ ws'.map (·.1) = ws.map (·.1) ∧ ∀ w ∈ ws', w.2.length ≤ N + 1
  | [], h, _ => by cases h
  | (q, es) :: ws, h, hN => by
    by_cases e : p = q
    · subst e
      refine ⟨es, (p, es ++ [d]) :: ws, hN _ List.mem_cons_self, .z, rfl, fun w hw => ?_⟩
      rcases List.mem_cons.mp hw with rfl | hw
      · have := hN _ List.mem_cons_self
        simp at this ⊢
        omega
      · have := hN w (List.mem_cons_of_mem _ hw)
        omega
    · have h' : p ∈ ws.map (·.1) := by
        rcases List.mem_cons.mp h with z | z
        · exact absurd z e
        · exact z
      obtain ⟨ds, ws', h1, h2, h3, h4⟩ := ws_app (d := d) h' fun w hw => hN w (List.mem_cons_of_mem _ hw)
      refine ⟨ds, (q, es) :: ws', h1, .s h2, by rw [List.map_cons, List.map_cons, h3], fun w hw => ?_⟩
      rcases List.mem_cons.mp hw with rfl | hw
      · have := hN (q, es) List.mem_cons_self
        omega
      · exact h4 w hw
end K32

set_option Elab.async false
set_option linter.all false
set_option autoImplicit false
set_option maxRecDepth 100000
set_option maxHeartbeats 400000
namespace K32
open PySem PySem.Spec PyProof.Rows L2 Px Sl
def top (i : Nat) : Stmt := PySem.Challenge.pw_shapestring_k32_no_letter.main.body.getD i (.Pass ⟨0, 0, 0, 0⟩)
def mtop (i j : Nat) : Stmt := match top i with
  | .ClassDef _ _ _ b _ _ _ _ _ _ _ => b.getD j (.Pass ⟨0, 0, 0, 0⟩)
  | _ => .Pass ⟨0, 0, 0, 0⟩
structure Tx (K : PySem.W.Frag) (mg : Str → Option Value) : Prop where
  f_len : mg "len" = none
  f_int : mg "int" = none
  f_str : mg "str" = none
  f_bool : mg "bool" = none
  f_list : mg "list" = none
  f_tuple : mg "tuple" = none
  f_isinstance : mg "isinstance" = none
  f_all : mg "all" = none
  f_any : mg "any" = none
  f_min : mg "min" = none
  f_max : mg "max" = none
  f_repr : mg "repr" = none
  f_range : mg "range" = none
  f_reversed : mg "reversed" = none
  f_enumerate : mg "enumerate" = none
  g_PLAIN : mg "PLAIN" = some (.ref (He.ga K "PLAIN"))
  p_PLAIN : ∀ H, SqT K H (He.ga K "PLAIN") [.str "C", .str "R", .str "L", .str "E"]
  g_NoLetter : mg "NoLetter" = some (.ref (He.ga K "NoLetter"))
  x_NoLetter : PySem.W.excIn K (He.ga K "NoLetter") He.veBase "ValueError.__new__" = true
  k_NoLetter : PySem.W.keepIn K (.ref (He.ga K "NoLetter")) = true
  b_NoLetter : PySem.W.subIn K (.ref (He.ga K "NoLetter")) (.type "BaseException") = some true
  t_NoLetter : PySem.W.typeIn K (.ref (He.ga K "NoLetter")) = some (.type "type")
  g_Front : mg "Front" = some (.ref (He.ga K "Front"))
  cFront : Cls K (He.ga K "Front")
  mk_Front : PySem.W.makesIn K (He.ga K "Front") = true
  kc_Front : PySem.W.keepIn K (.ref (He.ga K "Front")) = true
  n_rows : NoAttr K (He.ga K "Front") "rows"
  n_made : NoAttr K (He.ga K "Front") "made"
  n_closed : NoAttr K (He.ga K "Front") "closed"
  n_many : NoAttr K (He.ga K "Front") "many"
def Md (K : PySem.W.Frag) (C m q : Str) (st : Stmt) : Prop := (∃ fd, FunD K m q (defArgs st) (defBody st) (defScope st) [] [] (He.ma K (He.ga K C) m) fd) ∧ PySem.W.findIn K (.ref (He.ga K C)) m = some (some (.ref (He.ma K (He.ga K C) m))) ∧ PySem.W.isFn K (.ref (He.ma K (He.ga K C) m)) = true
local macro_rules
  | `(tactic| tb_rel) => `(tactic| first
    | with_reducible refine s_forI ?_
    | with_reducible refine s_for ?_
    | with_reducible refine s_seq ?_
    | with_reducible refine s_if ?_
    | with_reducible refine s_next ?_
    | with_reducible refine s_brk ?_
    | with_reducible refine s_cont ?_
    | with_reducible refine s_retN ?_
    | with_reducible refine s_asgT ?_
    | with_reducible refine s_asgL ?_
    | with_reducible refine s_drop ?_
    | with_reducible refine s_dput ?_
    | with_reducible refine s_setIA ?_
    | with_reducible refine t_test ?_
    | with_reducible refine t_B ?_
    | with_reducible refine t_yes ?_
    | with_reducible refine t_and ?_
    | with_reducible refine t_or ?_
    | with_reducible refine t_not ?_
    | with_reducible refine e_op ?_
    | with_reducible refine e_isi ?_
    | with_reducible refine e_extN ?_
    | with_reducible refine e_appA ?_
    | with_reducible refine e_popAtA ?_
    | with_reducible refine e_cb ?_
    | with_reducible refine e_lst ?_
    | with_reducible refine e_tup ?_
    | with_reducible refine e_neg ?_
    | with_reducible refine e_int ?_
    | with_reducible refine e_str ?_
    | with_reducible refine e_bl ?_
    | with_reducible refine e_non ?_
    | with_reducible refine e_din ?_
    | with_reducible refine e_andV ?_
    | with_reducible refine e_orV ?_
    | with_reducible refine e_slLs ?_
    | with_reducible refine e_slT ?_
    | with_reducible refine e_chain ?_
    | with_reducible refine a_cons ?_
    | with_reducible refine a_nil ?_
    | with_reducible refine o_no ?_
    | with_reducible refine o_so ?_
    | with_reducible refine i_range1 ?_
    | with_reducible refine i_list ?_
    | with_reducible refine i_tup ?_
    | with_reducible refine i_enum ?_
    | with_reducible refine i_enumRev ?_
    | with_reducible refine g_name ?_
    | with_reducible refine gs_cons ?_
    | with_reducible refine gs_nil ?_
    | with_reducible refine o_int ?_
    | with_reducible refine o_bool ?_
    | with_reducible refine o_eqI ?_
    | with_reducible refine o_neI ?_
    | with_reducible refine o_eqS ?_
    | with_reducible refine o_neS ?_
    | with_reducible refine o_isN ?_
    | with_reducible refine o_notN ?_
    | with_reducible refine c_lenT ?_
    | with_reducible refine c_intB ?_
    | with_reducible refine c_min2 ?_
    | with_reducible refine c_max2 ?_
    | ((fail_if_success (with_reducible refine e_notV (e_cb (a_cons (e_lc ?_ ?_))))); (with_reducible refine e_notV ?_))
    | ((fail_if_success (with_reducible refine s_ret (e_lst ?_))); (fail_if_success (with_reducible refine s_ret (e_lc ?_ ?_))); (with_reducible refine s_ret ?_))
    | ((fail_if_success (with_reducible refine s_set (e_lst ?_))); (fail_if_success (with_reducible refine s_set (e_lc ?_ ?_))); (with_reducible refine s_set ?_))
    | ((with_reducible apply e_var); exact rfl)
    | with_reducible refine e_callG rfl ?_
    | with_reducible refine e_methG rfl ?_
    | with_reducible refine e_makeG rfl ?_
    | refine e_fld rfl (by assumption) (by assumption) ?_
    | refine s_fldA rfl (by assumption) (by assumption) ?_
    | refine o_ixT (by rfl) ?_
    | refine c_lenLs (by (first | exact Sl.LsOf.fz | exact Sl.LsOf.ce (by (repeat (first | exact Sl.At.z | apply Sl.At.s))))) ?_
    | ((with_reducible refine g_tup ?_ ?_); exact rfl)
    | with_reducible refine ⟨_, rfl, ?_⟩
    | with_reducible refine ⟨_, _, rfl, rfl, ?_⟩
    | with_reducible refine ⟨_, LsOf.fz, ?_⟩
    | refine ⟨_, _, _, _, rfl, (by (repeat (first | exact Sl.At.z | apply Sl.At.s))), (by (repeat (first | exact Sl.Lk.z | (apply Sl.Lk.s; decide +kernel)))), ?_⟩
    | refine ⟨_, _, _, rfl, (by (repeat (first | exact Sl.At.z | apply Sl.At.s))), (by rfl), ?_⟩
    | refine ⟨_, _, _, rfl, (by (repeat (first | exact Sl.At.z | apply Sl.At.s))), ?_⟩
    | refine ⟨⟨_, _, _, rfl, (by (repeat (first | exact Sl.At.z | apply Sl.At.s)))⟩, ?_⟩
    | refine ⟨_, _, _, rfl, (by (repeat (first | exact Sl.Rp.z | apply Sl.Rp.s))), (by exact Nat.le_of_ble_eq_true rfl), (by exact Nat.le_of_ble_eq_true rfl), ?_⟩
    | refine ⟨_, (by (first | exact Sl.LsOf.fz | exact Sl.LsOf.ce (by (repeat (first | exact Sl.At.z | apply Sl.At.s))))), ?_⟩
    | refine ⟨_, _, (by (first | exact Sl.LsAs.fz | exact Sl.LsAs.ce (by (repeat (first | exact Sl.At.z | apply Sl.At.s))))), ?_⟩
    | refine o_ixLs (by (first | exact Sl.LsOf.fz | exact Sl.LsOf.ce (by (repeat (first | exact Sl.At.z | apply Sl.At.s))))) (by rfl) ?_
    | refine ⟨_, _, _, _, _, rfl, rfl, (by (repeat (first | exact Sl.At.z | apply Sl.At.s))), ?_⟩
    | refine ⟨_, _, _, _, _, _, rfl, rfl, (by (repeat (first | exact Sl.At.z | apply Sl.At.s))), (by rfl), (by (repeat (first | exact Sl.Rp.z | apply Sl.Rp.s))), ?_⟩
    | refine ⟨_, _, _, _, _, rfl, (by (repeat (first | exact Sl.At.z | apply Sl.At.s))), (by (repeat (first | exact Sl.Pf.n | exact Sl.Pf.z | (apply Sl.Pf.s; decide +kernel)))), (by exact Nat.le_of_ble_eq_true rfl), (by (repeat (first | exact Sl.Rp.z | apply Sl.Rp.s))), ?_⟩
    | ((with_reducible refine And.intro ?_ ?_); exact Nat.le_of_ble_eq_true rfl)
    | with_reducible refine e_gref ?_
    | refine o_inT (by rfl) (by rfl) ?_
    | refine ⟨_, true, rfl, kit_ty (by decide +kernel), ?_⟩
    | refine ⟨_, false, rfl, kit_ty (by decide +kernel), ?_⟩
    | refine ⟨fun _ => ?_, fun hb => absurd hb (by decide +kernel)⟩
    | refine ⟨fun hb => absurd hb (by decide +kernel), fun _ => ?_⟩
    | refine ⟨fun _ => ?_, fun hb => ctT (by rfl) hb⟩
    | refine ⟨fun hb => ctT (by rfl) hb, fun _ => ?_⟩
    | refine ⟨fun _ => ?_, fun hb => ctF (by rfl) hb⟩
    | refine ⟨fun hb => ctF (by rfl) hb, fun _ => ?_⟩
    | fail)
abbrev intsD (is : List Int) : D := .list (is.map D.int)
def Pot (n s : Int) : Prop := 0 ≤ n ∧ 0 ≤ s ∧ s < 2147483647
abbrev pot (n s : Int) : HD := .lst [.int n, .int s]
abbrev s__law_at : Stmt := top 16
abbrev N__law_at : List Str := ["_law_script", "_law_k"]
theorem sc__law_at : FnScope N__law_at ["_law_script", "_law_k"] (defScope s__law_at) := ⟨rfl, rfl, rfl, by decide +kernel, rfl, by decide +kernel, by decide +kernel⟩
abbrev s__law_pot : Stmt := top 17
abbrev N__law_pot : List Str := ["_law_script", "_law_k", "_law_seed", "_law_cell", "_law_number"]
theorem sc__law_pot : FnScope N__law_pot ["_law_script", "_law_k"] (defScope s__law_pot) := ⟨rfl, rfl, rfl, by decide +kernel, rfl, by decide +kernel, by decide +kernel⟩
abbrev s__law_digit : Stmt := top 18
abbrev N__law_digit : List Str := ["_law_pot_here", "_law_base", "_law_digit_here"]
theorem sc__law_digit : FnScope N__law_digit ["_law_pot_here", "_law_base"] (defScope s__law_digit) := ⟨rfl, rfl, rfl, by decide +kernel, rfl, by decide +kernel, by decide +kernel⟩
abbrev spAt (K : PySem.W.Frag) : Sp := SpG K (G := List Int × Nat) (fun g => [intsD g.1, .int (g.2 : Nat)]) (fun _ => []) (fun _ => True) (fun g out cs => out = .ret (.int (g.1.getD g.2 0)) ∧ cs = [])
abbrev spPot (K : PySem.W.Frag) : Sp := SpG K (G := List Int × Nat) (fun g => [intsD g.1, .int (g.2 : Nat)]) (fun _ => []) (fun g => g.2 ≤ 1000) (fun g out cs => ∃ p n s, Pot n s ∧ out = .ret (.ref p) ∧ cs = [(p, pot n s)])
abbrev spDigit (K : PySem.W.Frag) : Sp := SpG K (G := Addr × Int × Int × Int) (fun g => [.ref g.1, .int g.2.2.2]) (fun g => [(g.1, pot g.2.1 g.2.2.1)]) (fun g => Pot g.2.1 g.2.2.1 ∧ 0 < g.2.2.2 ∧ g.2.2.2 < 1000000) (fun g out cs => ∃ d n s, 0 ≤ d ∧ d < g.2.2.2 ∧ Pot n s ∧ out = .ret (.int d) ∧ cs = [(g.1, pot n s)])
section
variable {P : Program} {w : World} {K : PySem.W.Frag} {mg : Str → Option Value} {base : Heap}
theorem cl__law_at (T : Tx K mg) (D : Fd K mg "_law_at" s__law_at) : Cl P w K mg base 1 "_law_at" (spAt K) := by
  refine mk_clG D sc__law_at (fun _ _ _ _ _ _ us hl => match us, hl with | [_, _], _ => rfl) (fun _ => rfl) (fun cdv A outer s H E hr hu => ⟨_, (pss_cons (ps_if (pt_cmpR op_lt (pv 1) (pe_callB call_len_seq (by rfl) T.f_len boot_len (pa_cons (pv 0) pa_nil)) (nomark _)) (pss_one (ps_ret (pe_ix ix_list (pv 0) (pv 1) (fun _ _ => rfl)))) pss_nil)
    (pss_one (ps_ret pe_int))), ?_⟩)
  rintro ⟨is, k⟩ pre Zf ee hE hx
  try dsimp only [cxOf]
  repeat tb_rel
  refine ⟨fun hb => ?_, fun hb => ?_⟩
  · repeat tb_rel
    have hb' := of_decide_eq_true hb
    have hk : k < is.length := by simpa using hb'
    refine o_ixLs .fz (d := .int is[k]) (atI_nat' (by simp [hk])) ?_
    exact hE.rt .nil ⟨by simp [List.getD, hk], rfl⟩
  · repeat tb_rel
    have hk : ¬ k < is.length := by simpa using hb
    exact hE.rt .nil ⟨by simp [List.getD, hk], rfl⟩
theorem cl__law_pot (T : Tx K mg) (D : Fd K mg "_law_pot" s__law_pot) (c__law_at : Cl P w K mg base 1 "_law_at" (spAt K)) : Cl P w K mg base 2 "_law_pot" (spPot K) := by
  refine mk_clG D sc__law_pot (fun _ _ _ _ _ _ us hl => match us, hl with | [_, _], _ => rfl) (fun _ => rfl) (fun cdv A outer s H E hr hu => ⟨_, (pss_cons (ps_set (i := 2) sc__law_pot.nd rfl (by first | exact .inl rfl | exact .inr rfl) (pe_op op_add pe_int (pe_op op_mul pe_int (pv 1))))
    (pss_cons (ps_for PassesOwn.leaving rfl (pi_list (pe_slice sl_list (pv 0) po_none (po_some pe_int))) (pg_name (i := 3) sc__law_pot.nd rfl (by first | exact Or.inl rfl | exact Or.inr rfl)) (pss_one (ps_set (i := 2) sc__law_pot.nd rfl (by first | exact .inl rfl | exact .inr rfl) (pe_op op_mod (pe_op op_add (pe_op op_mul (pv 2) pe_int) (pv 3)) pe_int))))
    (pss_cons (ps_set (i := 4) sc__law_pot.nd rfl (by first | exact .inl rfl | exact .inr rfl) (pe_cl c__law_at hr hu (by omega) (by rfl) tkN (pa_cons (pv 0) (pa_cons (pv 1) pa_nil))))
    (pss_cons (ps_if (pt_cmpR op_lt (pv 4) (pe_op op_pow pe_int pe_int) (nomark _)) (pss_one (ps_set (i := 4) sc__law_pot.nd rfl (by first | exact .inl rfl | exact .inr rfl) pe_int)) pss_nil)
    (pss_one (ps_ret (pe_lst (pa_cons (pv 4) (pa_cons (pv 2) pa_nil))))))))), ?_⟩)
  rintro ⟨is, k⟩ pre Zf ee hE hx
  try dsimp only [cxOf]
  dsimp only at pre
  repeat tb_rel
  refine o_intC (.inl (by decide)) ?_
  repeat tb_rel
  refine for_by (fun i Γ' => ∃ (sd : Int) (c : Option Sl.D), 0 ≤ sd ∧ sd < 2147483647 ∧ Γ' = ⟨[some (intsD is), some (.int (k : Nat)), some (.int sd), c, none], []⟩) ⟨_, none, ?_, ?_, rfl⟩ (fun _ _ _ => trivial) ?_ ?_
  · omega
  · omega
  · rintro i d Γ' hd ⟨sd, c, h1, h2, rfl⟩
    obtain ⟨z, rfl⟩ : ∃ z, d = .int z := by
      have hm := List.mem_of_getElem? hd
      have hm2 := List.mem_of_mem_take hm
      obtain ⟨z, _, rfl⟩ := List.mem_map.mp (List.mem_of_mem_drop hm2)
      exact ⟨z, rfl⟩
    repeat tb_rel
    refine o_intC (.inr (by decide)) ?_
    repeat tb_rel
    refine o_intC (by decide) ?_
    exact ⟨_, _, Int.emod_nonneg _ (by decide), Int.emod_lt_of_pos _ (by decide), rfl⟩
  · rintro Γ' ⟨sd, c, h1, h2, rfl⟩
    repeat tb_rel
    refine ⟨(is, k), _, rfl, .nil, trivial, ?_⟩
    rintro out cs ⟨rfl, rfl⟩
    repeat tb_rel
    refine o_intC ⟨by decide, by decide, by decide⟩ ?_
    repeat tb_rel
    refine ⟨fun hb => ?_, fun hb => ?_⟩
    · repeat tb_rel
      refine s_ret (e_lstN ?_)
      repeat tb_rel
      rintro p hp
      exact hE.rt (cs' := [_]) (.cons .z .nil) ⟨p, 0, _, ⟨Int.le_refl 0, h1, h2⟩, rfl, rfl⟩
    · repeat tb_rel
      refine s_ret (e_lstN ?_)
      repeat tb_rel
      rintro p hp
      have hb' := of_decide_eq_false hb
      exact hE.rt (cs' := [_]) (.cons .z .nil) ⟨p, _, _, ⟨Int.le_trans (by decide) (Int.not_lt.mp hb'), h1, h2⟩, rfl, rfl⟩
theorem cl__law_digit (T : Tx K mg) (D : Fd K mg "_law_digit" s__law_digit) : Cl P w K mg base 1 "_law_digit" (spDigit K) := by
  refine mk_clG D sc__law_digit (fun _ _ _ _ _ _ us hl => match us, hl with | [_, _], _ => rfl) (fun _ => rfl) (fun cdv A outer s H E hr hu => ⟨_, (pss_cons (ps_if (pt_cmpR op_eq (pe_ix ix_list (pv 0) pe_int (fun _ _ => rfl)) pe_int (nomark _)) (pss_cons (ps_asg (pe_op op_mod (pe_op op_add (pe_op op_mul (pe_ix ix_list (pv 0) pe_int (fun _ _ => rfl)) pe_int) pe_int) pe_int) (pg_sub (pv 0) pe_int set_list))
    (pss_one (ps_asg (pe_op op_mod (pe_op op_mul (pe_ix ix_list (pv 0) pe_int (fun _ _ => rfl)) (pe_ix ix_list (pv 0) pe_int (fun _ _ => rfl))) pe_int) (pg_sub (pv 0) pe_int set_list)))) pss_nil)
    (pss_cons (ps_set (i := 2) sc__law_digit.nd rfl (by first | exact .inl rfl | exact .inr rfl) (pe_op op_mod (pe_ix ix_list (pv 0) pe_int (fun _ _ => rfl)) (pv 1)))
    (pss_cons (ps_asg (pe_op op_fdiv (pe_ix ix_list (pv 0) pe_int (fun _ _ => rfl)) (pv 1)) (pg_sub (pv 0) pe_int set_list))
    (pss_one (ps_ret (pv 2)))))), ?_⟩)
  rintro ⟨p, n, sd, b⟩ ⟨⟨hn, hs0, hs1⟩, hb0, hb1⟩ Zf ee hE hx
  try dsimp only [cxOf]
  dsimp only at hn hs0 hs1 hb0 hb1
  refine s_cut (M := fun Γ' => ∃ n sd : Int, 0 ≤ n ∧ 0 ≤ sd ∧ sd < 2147483647 ∧ Γ' = ⟨[some (.ref p), some (.int b), none], [(p, pot n sd)]⟩) ?_ ?_
  · repeat tb_rel
    refine ⟨fun hb => ?_, fun hb => ?_⟩
    · repeat tb_rel
      refine o_intC (.inr (by decide)) ?_
      repeat tb_rel
      refine o_intC (by decide) ?_
      have q0 : 0 ≤ (sd * 16807 + 11) % 2147483647 := Int.emod_nonneg _ (by decide)
      have q1 : (sd * 16807 + 11) % 2147483647 < 2147483647 := Int.emod_lt_of_pos _ (by decide)
      generalize (sd * 16807 + 11) % 2147483647 = z at q0 q1 ⊢
      repeat tb_rel
      refine o_intC (.inl (by omega)) ?_
      repeat tb_rel
      refine o_intC (by decide) ?_
      repeat tb_rel
      exact ⟨_, _, Int.emod_nonneg _ (by decide), q0, q1, rfl⟩
    · exact s_next ⟨n, sd, hn, hs0, hs1, rfl⟩
  · rintro Γ' ⟨n, sd, hn, hs0, hs1, rfl⟩
    repeat tb_rel
    refine o_intC hb0 ?_
    repeat tb_rel
    refine o_intC ⟨hb0, Int.lt_trans hb1 (by decide)⟩ ?_
    repeat tb_rel
    exact hE.rt (cs' := [_]) (.cons .z .nil) ⟨n % b, n / b, sd, Int.emod_nonneg _ (by show b ≠ 0; omega), Int.emod_lt_of_pos _ hb0, ⟨Int.ediv_nonneg hn (by show 0 ≤ b; omega), hs0, hs1⟩, rfl, rfl⟩
end
end K32

set_option Elab.async false
set_option linter.all false
set_option autoImplicit false
set_option maxRecDepth 100000
set_option maxHeartbeats 400000
namespace K32
open PySem PySem.Spec PyProof.Rows L2 Px Sl
local macro_rules
  | `(tactic| tb_rel) => `(tactic| first
    | with_reducible refine s_forI ?_
    | with_reducible refine s_for ?_
    | with_reducible refine s_seq ?_
    | with_reducible refine s_if ?_
    | with_reducible refine s_next ?_
    | with_reducible refine s_brk ?_
    | with_reducible refine s_cont ?_
    | with_reducible refine s_retN ?_
    | with_reducible refine s_asgT ?_
    | with_reducible refine s_asgL ?_
    | with_reducible refine s_drop ?_
    | with_reducible refine s_dput ?_
    | with_reducible refine s_setIA ?_
    | with_reducible refine t_test ?_
    | with_reducible refine t_B ?_
    | with_reducible refine t_yes ?_
    | with_reducible refine t_and ?_
    | with_reducible refine t_or ?_
    | with_reducible refine t_not ?_
    | with_reducible refine e_op ?_
    | with_reducible refine e_isi ?_
    | with_reducible refine e_extN ?_
    | with_reducible refine e_appA ?_
    | with_reducible refine e_popAtA ?_
    | with_reducible refine e_cb ?_
    | with_reducible refine e_lst ?_
    | with_reducible refine e_tup ?_
    | with_reducible refine e_neg ?_
    | with_reducible refine e_int ?_
    | with_reducible refine e_str ?_
    | with_reducible refine e_bl ?_
    | with_reducible refine e_non ?_
    | with_reducible refine e_din ?_
    | with_reducible refine e_andV ?_
    | with_reducible refine e_orV ?_
    | with_reducible refine e_slLs ?_
    | with_reducible refine e_slT ?_
    | with_reducible refine e_chain ?_
    | with_reducible refine a_cons ?_
    | with_reducible refine a_nil ?_
    | with_reducible refine o_no ?_
    | with_reducible refine o_so ?_
    | with_reducible refine i_range1 ?_
    | with_reducible refine i_list ?_
    | with_reducible refine i_tup ?_
    | with_reducible refine i_enum ?_
    | with_reducible refine i_enumRev ?_
    | with_reducible refine g_name ?_
    | with_reducible refine gs_cons ?_
    | with_reducible refine gs_nil ?_
    | with_reducible refine o_int ?_
    | with_reducible refine o_bool ?_
    | with_reducible refine o_eqI ?_
    | with_reducible refine o_neI ?_
    | with_reducible refine o_eqS ?_
    | with_reducible refine o_neS ?_
    | with_reducible refine o_isN ?_
    | with_reducible refine o_notN ?_
    | with_reducible refine c_lenT ?_
    | with_reducible refine c_intB ?_
    | with_reducible refine c_min2 ?_
    | with_reducible refine c_max2 ?_
    | ((fail_if_success (with_reducible refine e_notV (e_cb (a_cons (e_lc ?_ ?_))))); (with_reducible refine e_notV ?_))
    | ((fail_if_success (with_reducible refine s_ret (e_lst ?_))); (fail_if_success (with_reducible refine s_ret (e_lc ?_ ?_))); (with_reducible refine s_ret ?_))
    | ((fail_if_success (with_reducible refine s_set (e_lst ?_))); (fail_if_success (with_reducible refine s_set (e_lc ?_ ?_))); (with_reducible refine s_set ?_))
    | ((with_reducible apply e_var); exact rfl)
    | with_reducible refine e_callG rfl ?_
    | with_reducible refine e_methG rfl ?_
    | with_reducible refine e_makeG rfl ?_
    | refine e_fld rfl (by assumption) (by assumption) ?_
    | refine s_fldA rfl (by assumption) (by assumption) ?_
    | refine o_ixT (by rfl) ?_
    | refine c_lenLs (by (first | exact Sl.LsOf.fz | exact Sl.LsOf.ce (by (repeat (first | exact Sl.At.z | apply Sl.At.s))))) ?_
    | ((with_reducible refine g_tup ?_ ?_); exact rfl)
    | with_reducible refine ⟨_, rfl, ?_⟩
    | with_reducible refine ⟨_, _, rfl, rfl, ?_⟩
    | with_reducible refine ⟨_, LsOf.fz, ?_⟩
    | refine ⟨_, _, _, _, rfl, (by (repeat (first | exact Sl.At.z | apply Sl.At.s))), (by (repeat (first | exact Sl.Lk.z | (apply Sl.Lk.s; decide +kernel)))), ?_⟩
    | refine ⟨_, _, _, rfl, (by (repeat (first | exact Sl.At.z | apply Sl.At.s))), (by rfl), ?_⟩
    | refine ⟨_, _, _, rfl, (by (repeat (first | exact Sl.At.z | apply Sl.At.s))), ?_⟩
    | refine ⟨⟨_, _, _, rfl, (by (repeat (first | exact Sl.At.z | apply Sl.At.s)))⟩, ?_⟩
    | refine ⟨_, _, _, rfl, (by (repeat (first | exact Sl.Rp.z | apply Sl.Rp.s))), (by exact Nat.le_of_ble_eq_true rfl), (by exact Nat.le_of_ble_eq_true rfl), ?_⟩
    | refine ⟨_, (by (first | exact Sl.LsOf.fz | exact Sl.LsOf.ce (by (repeat (first | exact Sl.At.z | apply Sl.At.s))))), ?_⟩
    | refine ⟨_, _, (by (first | exact Sl.LsAs.fz | exact Sl.LsAs.ce (by (repeat (first | exact Sl.At.z | apply Sl.At.s))))), ?_⟩
    | refine o_ixLs (by (first | exact Sl.LsOf.fz | exact Sl.LsOf.ce (by (repeat (first | exact Sl.At.z | apply Sl.At.s))))) (by rfl) ?_
    | refine ⟨_, _, _, _, _, rfl, rfl, (by (repeat (first | exact Sl.At.z | apply Sl.At.s))), ?_⟩
    | refine ⟨_, _, _, _, _, _, rfl, rfl, (by (repeat (first | exact Sl.At.z | apply Sl.At.s))), (by rfl), (by (repeat (first | exact Sl.Rp.z | apply Sl.Rp.s))), ?_⟩
    | refine ⟨_, _, _, _, _, rfl, (by (repeat (first | exact Sl.At.z | apply Sl.At.s))), (by (repeat (first | exact Sl.Pf.n | exact Sl.Pf.z | (apply Sl.Pf.s; decide +kernel)))), (by exact Nat.le_of_ble_eq_true rfl), (by (repeat (first | exact Sl.Rp.z | apply Sl.Rp.s))), ?_⟩
    | ((with_reducible refine And.intro ?_ ?_); exact Nat.le_of_ble_eq_true rfl)
    | with_reducible refine e_gref ?_
    | refine o_inT (by rfl) (by rfl) ?_
    | refine ⟨_, true, rfl, kit_ty (by decide +kernel), ?_⟩
    | refine ⟨_, false, rfl, kit_ty (by decide +kernel), ?_⟩
    | refine ⟨fun _ => ?_, fun hb => absurd hb (by decide +kernel)⟩
    | refine ⟨fun hb => absurd hb (by decide +kernel), fun _ => ?_⟩
    | refine ⟨fun _ => ?_, fun hb => ctT (by rfl) hb⟩
    | refine ⟨fun hb => ctT (by rfl) hb, fun _ => ?_⟩
    | refine ⟨fun _ => ?_, fun hb => ctF (by rfl) hb⟩
    | refine ⟨fun hb => ctF (by rfl) hb, fun _ => ?_⟩
    | fail)
def Lt.d : Lt → D
  | .C => .tuple [.str "C"]
  | .R => .tuple [.str "R"]
  | .L => .tuple [.str "L"]
  | .E => .tuple [.str "E"]
  | .S j k => .tuple [.str "S", .int (j : Nat), .int (k : Nat)]
theorem retB {b c : Bool} (h : b = c) : Out.ret (.bool b) = Out.ret (.bool c) := by rw [h]
abbrev triD (t : Tri) : D := .tuple [.int t.1, .int t.2.1, .int t.2.2]
abbrev s_is_corner : Stmt := top 9
abbrev N_is_corner : List Str := ["thing"]
theorem sc_is_corner : FnScope N_is_corner ["thing"] (defScope s_is_corner) := ⟨rfl, rfl, rfl, by decide +kernel, rfl, by decide +kernel, by decide +kernel⟩
abbrev s_sides_of : Stmt := top 10
abbrev N_sides_of : List Str := ["triple", "a", "b", "c"]
theorem sc_sides_of : FnScope N_sides_of ["triple"] (defScope s_sides_of) := ⟨rfl, rfl, rfl, by decide +kernel, rfl, by decide +kernel, by decide +kernel⟩
abbrev s_is_letter : Stmt := top 13
abbrev N_is_letter : List Str := ["thing", "sign"]
theorem sc_is_letter : FnScope N_is_letter ["thing"] (defScope s_is_letter) := ⟨rfl, rfl, rfl, by decide +kernel, rfl, by decide +kernel, by decide +kernel⟩
def isCo : D → Bool
  | .int i => decide (0 ≤ i)
  | _ => false
def isSt : D → Bool
  | .str _ => true
  | _ => false
abbrev inPlain (x : Str) : Bool := inV (.str x) [.str "C", .str "R", .str "L", .str "E"]
def isLe : D → Bool
  | .tuple [.str x] => inPlain x
  | .tuple [.str x, d1, d2] => decide (x = "S") && (isCo d1 && isCo d2)
  | _ => false
def Ty (d : D) : Prop := ∃ m, tyD d = some m
def Th : D → Prop
  | .tuple ds => ∀ e ∈ ds, Ty e
  | d => Ty d
abbrev spCorner (K : PySem.W.Frag) : Sp := SpG K (G := D) (fun g => [g]) (fun _ => []) (fun g => Ty g) (fun g out cs => out = .ret (.bool (isCo g)) ∧ cs = [])
abbrev spSides (K : PySem.W.Frag) : Sp := SpG K (G := Tri) (fun g => [triD g]) (fun _ => []) (fun _ => True) (fun g out cs => out = .ret (.list [.tuple [.int g.1, .int g.2.1], .tuple [.int g.2.1, .int g.2.2], .tuple [.int g.2.2, .int g.1]]) ∧ cs = [])
abbrev spLetter (K : PySem.W.Frag) : Sp := SpG K (G := D) (fun g => [g]) (fun _ => []) (fun g => Th g) (fun g out cs => out = .ret (.bool (isLe g)) ∧ cs = [])
section
variable {P : Program} {w : World} {K : PySem.W.Frag} {mg : Str → Option Value} {base : Heap}
theorem cl_is_corner (T : Tx K mg) (D : Fd K mg "is_corner" s_is_corner) : Cl P w K mg base 1 "is_corner" (spCorner K) := by
  refine mk_clG D sc_is_corner (fun _ _ _ _ _ _ us hl => match us, hl with | [_], _ => rfl) (fun _ => rfl) (fun cdv A outer s H E hr hu => ⟨_, (pss_one (ps_ret (pe_and (pe_callB call_isi (by rfl) T.f_isinstance (by decide +kernel) (pa_cons (pv 0) (pa_cons (pe_bltn (v := .ty "int") (by rfl) T.f_int (by decide +kernel) rfl) pa_nil))) (pe_and (pe_not (pe_callB call_isi (by rfl) T.f_isinstance (by decide +kernel) (pa_cons (pv 0) (pa_cons (pe_bltn (v := .ty "bool") (by rfl) T.f_bool (by decide +kernel) rfl) pa_nil)))) (pe_one (pe_cmpR op_ge (pv 0) pe_int (nomark _))))))), ?_⟩)
  rintro d ⟨m, pre⟩ Zf ee hE hx
  try dsimp only [cxOf]
  cases d with
  | int n =>
    repeat tb_rel
    exact hE.rt .nil ⟨by simp [isCo], rfl⟩
  | none => (repeat tb_rel); exact hE.rt .nil ⟨rfl, rfl⟩
  | bool n => (repeat tb_rel); exact hE.rt .nil ⟨rfl, rfl⟩
  | str n => (repeat tb_rel); exact hE.rt .nil ⟨rfl, rfl⟩
  | list n => (repeat tb_rel); exact hE.rt .nil ⟨rfl, rfl⟩
  | tuple n => (repeat tb_rel); exact hE.rt .nil ⟨rfl, rfl⟩
  | dk n => (repeat tb_rel); exact hE.rt .nil ⟨rfl, rfl⟩
  | dt n => cases pre
  | ins C n => cases pre
  | ref n => cases pre
theorem cl_sides_of (T : Tx K mg) (D : Fd K mg "sides_of" s_sides_of) : Cl P w K mg base 1 "sides_of" (spSides K) := by
  refine mk_clG D sc_sides_of (fun _ _ _ _ _ _ us hl => match us, hl with | [_], _ => rfl) (fun _ => rfl) (fun cdv A outer s H E hr hu => ⟨_, (pss_cons (ps_asg (pv 0) (pg_tup rfl (pgs_cons (pg_name (i := 1) sc_sides_of.nd rfl (by first | exact Or.inl rfl | exact Or.inr rfl)) (pgs_cons (pg_name (i := 2) sc_sides_of.nd rfl (by first | exact Or.inl rfl | exact Or.inr rfl)) (pgs_cons (pg_name (i := 3) sc_sides_of.nd rfl (by first | exact Or.inl rfl | exact Or.inr rfl)) pgs_nil)))))
    (pss_one (ps_ret (pe_lst (pa_cons (pe_tup (pa_cons (pv 1) (pa_cons (pv 2) pa_nil))) (pa_cons (pe_tup (pa_cons (pv 2) (pa_cons (pv 3) pa_nil))) (pa_cons (pe_tup (pa_cons (pv 3) (pa_cons (pv 1) pa_nil))) pa_nil))))))), ?_⟩)
  rintro ⟨a, b, c⟩ pre Zf ee hE hx
  try dsimp only [cxOf]
  repeat tb_rel
  refine s_ret (e_lst ?_)
  repeat tb_rel
  exact hE.rt .nil ⟨rfl, rfl⟩
theorem e_isStr {Z : Zx} {Γ : Sy} {R : Sl.D → Sy → Prop} {i : Nat} {d : Sl.D} (hv : Γ.g[i]? = some (some d)) (ht : Ty d) (r : R (.bool (isSt d)) Γ) : Ed Z (tCB (rIsi Z.K) (tCons (tVar i) (tCons (tC (.ty "str")) tNil))) Γ R := by
  obtain ⟨m, ht⟩ := ht
  refine e_isi (e_var hv ?_)
  cases d with
  | none => exact ⟨_, false, rfl, kit_ty (by decide +kernel), r⟩
  | bool n => exact ⟨_, false, rfl, kit_ty (by decide +kernel), r⟩
  | int n => exact ⟨_, false, rfl, kit_ty (by decide +kernel), r⟩
  | str n => exact ⟨_, true, rfl, kit_ty (by decide +kernel), r⟩
  | list n => exact ⟨_, false, rfl, kit_ty (by decide +kernel), r⟩
  | tuple n => exact ⟨_, false, rfl, kit_ty (by decide +kernel), r⟩
  | dk n => exact ⟨_, false, rfl, kit_ty (by decide +kernel), r⟩
  | dt n => cases ht
  | ins C n => cases ht
  | ref n => cases ht
theorem cl_is_letter (T : Tx K mg) (D : Fd K mg "is_letter" s_is_letter) (c_is_corner : Cl P w K mg base 1 "is_corner" (spCorner K)) : Cl P w K mg base 2 "is_letter" (spLetter K) := by
  refine mk_clG D sc_is_letter (fun _ _ _ _ _ _ us hl => match us, hl with | [_], _ => rfl) (fun _ => rfl) (fun cdv A outer s H E hr hu => ⟨_, (pss_cons (ps_if (PW.pt (pw_or (pt_not (pt_val (pe_callB call_isi (by rfl) T.f_isinstance (by decide +kernel) (pa_cons (pv 0) (pa_cons (pe_bltn (v := .ty "tuple") (by rfl) T.f_tuple (by decide +kernel) rfl) pa_nil))))) (pw_or1 (pt_not (pt_val (pe_callB (cr_all rfl) (by rfl) T.f_all (by decide +kernel) (pa_cons (pe_lc (own := [("sign", 1)]) (g := gName 1) (tt := tYes) (te := tCB (rIsi K) (tCons (tVar 1) (tCons (tC (.ty "str")) tNil))) rfl sc_is_letter.nd (pi_tup (pe_slice sl_tupA (pv 0) po_none (po_some pe_int))) (blkOk_by (N := N_is_letter) (sc := defScope s_is_letter) (by decide +kernel)) (fun _ _ _ _ _ => (pg_name (i := 1) sc_is_letter.nd rfl (by first | exact Or.inl rfl | exact Or.inr rfl))) (fun _ _ _ _ _ => pts_nil) (fun _ _ _ _ _ => (pe_callB call_isi (by rfl) T.f_isinstance (by decide +kernel) (pa_cons (pv 1) (pa_cons (pe_bltn (v := .ty "str") (by rfl) T.f_str (by decide +kernel) rfl) pa_nil))))) pa_nil))))))) (pss_one (ps_ret pe_bl)) pss_nil)
    (pss_cons (ps_if (pt_cmpR op_eq (pe_callB call_len_seq (by rfl) T.f_len boot_len (pa_cons (pv 0) pa_nil)) pe_int (nomark _)) (pss_one (ps_ret (pe_cmpR op_in_seq (pe_ix ix_tup (pv 0) pe_int (fun _ _ => rfl)) (pe_glob (v := .ref (He.ga K "PLAIN")) (by rfl) T.g_PLAIN rfl) (by rfl)))) pss_nil)
    (pss_one (ps_ret (pe_and (pe_cmpR op_eq (pe_callB call_len_seq (by rfl) T.f_len boot_len (pa_cons (pv 0) pa_nil)) pe_int (nomark _)) (pe_and (pe_cmpR op_eq (pe_ix ix_tup (pv 0) pe_int (fun _ _ => rfl)) pe_str (nomark _)) (pe_and (pe_cl c_is_corner hr hu (by omega) (by rfl) tkN (pa_cons (pe_ix ix_tup (pv 0) pe_int (fun _ _ => rfl)) pa_nil)) (pe_one (pe_cl c_is_corner hr hu (by omega) (by rfl) tkN (pa_cons (pe_ix ix_tup (pv 0) pe_int (fun _ _ => rfl)) pa_nil)))))))))), ?_⟩)
  rintro d pre Zf ee hE hx
  try dsimp only [cxOf]
  cases d with
  | none => (repeat tb_rel); exact hE.rt .nil ⟨rfl, rfl⟩
  | bool n => (repeat tb_rel); exact hE.rt .nil ⟨rfl, rfl⟩
  | int n => (repeat tb_rel); exact hE.rt .nil ⟨rfl, rfl⟩
  | str n => (repeat tb_rel); exact hE.rt .nil ⟨rfl, rfl⟩
  | list n => (repeat tb_rel); exact hE.rt .nil ⟨rfl, rfl⟩
  | dk n => (repeat tb_rel); exact hE.rt .nil ⟨rfl, rfl⟩
  | dt n => obtain ⟨m, z⟩ := pre; cases z
  | ins C n => obtain ⟨m, z⟩ := pre; cases z
  | ref n => obtain ⟨m, z⟩ := pre; cases z
  | tuple ds =>
    have pre : ∀ e ∈ ds, Ty e := pre
    refine s_cut (M := fun Γ' => Γ' = ⟨entG N_is_letter [.tuple ds], []⟩ ∧ ∀ e r, ds = e :: r → isSt e = true) ?_ ?_
    · repeat tb_rel
      refine e_lcMap (fun d => .bool (isSt d)) (keeps_name (by simp)) ?_
      repeat tb_rel
      have hc1 : Sl.cutD ds none (some 1) = ds.take 1 := by
        unfold Sl.cutD
        rw [HT.sIx_none, show (1 : Int) = ((1 : Nat) : Int) from rfl, HT.sIx_nat, List.drop_zero, Nat.sub_zero, ← List.take_take, List.take_length]
      rw [hc1]
      refine ⟨by rw [List.length_take]; omega, trivial, fun x e he => ?_, ?_⟩
      · have he' := pre e (List.mem_of_mem_take he)
        refine g_name ?_
        refine e_isStr rfl he' ⟨rfl, rfl⟩
      · repeat tb_rel
        have e2 : (ds.take 1).map (fun d => Sl.D.bool (isSt d)) = ((ds.take 1).map isSt).map Sl.D.bool := by rw [List.map_map]; rfl
        rw [e2]
        refine c_all ?_
        refine ⟨_, rfl, ?_⟩
        cases ds with
        | nil =>
          repeat tb_rel
          exact ⟨rfl, fun e r z => nomatch z⟩
        | cons e0 r0 =>
          show (((!(isSt e0 && true)) = true → _) ∧ ((!(isSt e0 && true)) = false → _))
          cases hs : isSt e0 with
          | true =>
            repeat tb_rel
            exact ⟨rfl, fun e r z => by cases z; exact hs⟩
          | false =>
            repeat tb_rel
            refine hE.rt .nil ⟨?_, rfl⟩
            cases e0 <;> first | (cases hs; done) | rfl
    · rintro Γ' ⟨rfl, hst⟩
      show Sd _ _ ⟨[some (.tuple ds), none], []⟩ _
      match ds, pre, hst with
      | [], pre, hst =>
        repeat tb_rel
        exact hE.rt .nil ⟨rfl, rfl⟩
      | e0 :: r, pre, hst =>
        have h0 := hst e0 r rfl
        cases e0 with
        | str x =>
          match r, pre with
          | [], pre =>
            repeat tb_rel
            refine o_inK T.p_PLAIN (by rfl) (by rfl) ?_
            exact hE.rt .nil ⟨rfl, rfl⟩
          | [d1], pre =>
            repeat tb_rel
            exact hE.rt .nil ⟨rfl, rfl⟩
          | d1 :: d2 :: d3 :: r, pre =>
            repeat tb_rel
            exact hE.rt .nil ⟨rfl, rfl⟩
          | [d1, d2], pre =>
            repeat tb_rel
            have p1 := pre d1 (by simp)
            have p2 := pre d2 (by simp)
            have el : isLe (.tuple [.str x, d1, d2]) = (decide (x = "S") && (isCo d1 && isCo d2)) := rfl
            refine ⟨fun hb => ?_, fun hb => ?_⟩
            · repeat tb_rel
              refine ⟨d1, _, rfl, .nil, p1, ?_⟩
              rintro out cs ⟨rfl, rfl⟩
              repeat tb_rel
              refine ⟨fun hb1 => ?_, fun hb1 => ?_⟩
              · repeat tb_rel
                refine ⟨d2, _, rfl, .nil, p2, ?_⟩
                rintro out cs ⟨rfl, rfl⟩
                exact hE.rt .nil ⟨by rw [el, hb, hb1]; rfl, rfl⟩
              · exact hE.rt .nil ⟨by rw [el, hb, hb1]; rfl, rfl⟩
            · exact hE.rt .nil ⟨by rw [el, hb]; rfl, rfl⟩
        | _ => cases h0
end
end K32

set_option Elab.async false
set_option linter.all false
set_option autoImplicit false
set_option maxRecDepth 100000
set_option maxHeartbeats 400000
namespace K32
open PySem PySem.Spec PyProof.Rows L2 Px Sl
local macro_rules
  | `(tactic| tb_rel) => `(tactic| first
    | with_reducible refine s_forI ?_
    | with_reducible refine s_for ?_
    | with_reducible refine s_seq ?_
    | with_reducible refine s_if ?_
    | with_reducible refine s_next ?_
    | with_reducible refine s_brk ?_
    | with_reducible refine s_cont ?_
    | with_reducible refine s_retN ?_
    | with_reducible refine s_asgT ?_
    | with_reducible refine s_asgL ?_
    | with_reducible refine s_drop ?_
    | with_reducible refine s_dput ?_
    | with_reducible refine s_setIA ?_
    | with_reducible refine t_test ?_
    | with_reducible refine t_B ?_
    | with_reducible refine t_yes ?_
    | with_reducible refine t_and ?_
    | with_reducible refine t_or ?_
    | with_reducible refine t_not ?_
    | with_reducible refine e_op ?_
    | with_reducible refine e_isi ?_
    | with_reducible refine e_extN ?_
    | with_reducible refine e_appA ?_
    | with_reducible refine e_popAtA ?_
    | with_reducible refine e_cb ?_
    | with_reducible refine e_lst ?_
    | with_reducible refine e_tup ?_
    | with_reducible refine e_neg ?_
    | with_reducible refine e_int ?_
    | with_reducible refine e_str ?_
    | with_reducible refine e_bl ?_
    | with_reducible refine e_non ?_
    | with_reducible refine e_din ?_
    | with_reducible refine e_andV ?_
    | with_reducible refine e_orV ?_
    | with_reducible refine e_slLs ?_
    | with_reducible refine e_slT ?_
    | with_reducible refine e_chain ?_
    | with_reducible refine a_cons ?_
    | with_reducible refine a_nil ?_
    | with_reducible refine o_no ?_
    | with_reducible refine o_so ?_
    | with_reducible refine i_range1 ?_
    | with_reducible refine i_list ?_
    | with_reducible refine i_tup ?_
    | with_reducible refine i_enum ?_
    | with_reducible refine i_enumRev ?_
    | with_reducible refine g_name ?_
    | with_reducible refine gs_cons ?_
    | with_reducible refine gs_nil ?_
    | with_reducible refine o_int ?_
    | with_reducible refine o_bool ?_
    | with_reducible refine o_eqI ?_
    | with_reducible refine o_neI ?_
    | with_reducible refine o_eqS ?_
    | with_reducible refine o_neS ?_
    | with_reducible refine o_isN ?_
    | with_reducible refine o_notN ?_
    | with_reducible refine c_lenT ?_
    | with_reducible refine c_intB ?_
    | with_reducible refine c_min2 ?_
    | with_reducible refine c_max2 ?_
    | ((fail_if_success (with_reducible refine e_notV (e_cb (a_cons (e_lc ?_ ?_))))); (with_reducible refine e_notV ?_))
    | ((fail_if_success (with_reducible refine s_ret (e_lst ?_))); (fail_if_success (with_reducible refine s_ret (e_lc ?_ ?_))); (with_reducible refine s_ret ?_))
    | ((fail_if_success (with_reducible refine s_set (e_lst ?_))); (fail_if_success (with_reducible refine s_set (e_lc ?_ ?_))); (with_reducible refine s_set ?_))
    | ((with_reducible apply e_var); exact rfl)
    | with_reducible refine e_callG rfl ?_
    | with_reducible refine e_methG rfl ?_
    | with_reducible refine e_makeG rfl ?_
    | refine e_fld rfl (by assumption) (by assumption) ?_
    | refine s_fldA rfl (by assumption) (by assumption) ?_
    | refine o_ixT (by rfl) ?_
    | refine c_lenLs (by (first | exact Sl.LsOf.fz | exact Sl.LsOf.ce (by (repeat (first | exact Sl.At.z | apply Sl.At.s))))) ?_
    | ((with_reducible refine g_tup ?_ ?_); exact rfl)
    | with_reducible refine ⟨_, rfl, ?_⟩
    | with_reducible refine ⟨_, _, rfl, rfl, ?_⟩
    | with_reducible refine ⟨_, LsOf.fz, ?_⟩
    | refine ⟨_, _, _, _, rfl, (by (repeat (first | exact Sl.At.z | apply Sl.At.s))), (by (repeat (first | exact Sl.Lk.z | (apply Sl.Lk.s; decide +kernel)))), ?_⟩
    | refine ⟨_, _, _, rfl, (by (repeat (first | exact Sl.At.z | apply Sl.At.s))), (by rfl), ?_⟩
    | refine ⟨_, _, _, rfl, (by (repeat (first | exact Sl.At.z | apply Sl.At.s))), ?_⟩
    | refine ⟨⟨_, _, _, rfl, (by (repeat (first | exact Sl.At.z | apply Sl.At.s)))⟩, ?_⟩
    | refine ⟨_, _, _, rfl, (by (repeat (first | exact Sl.Rp.z | apply Sl.Rp.s))), (by exact Nat.le_of_ble_eq_true rfl), (by exact Nat.le_of_ble_eq_true rfl), ?_⟩
    | refine ⟨_, (by (first | exact Sl.LsOf.fz | exact Sl.LsOf.ce (by (repeat (first | exact Sl.At.z | apply Sl.At.s))))), ?_⟩
    | refine ⟨_, _, (by (first | exact Sl.LsAs.fz | exact Sl.LsAs.ce (by (repeat (first | exact Sl.At.z | apply Sl.At.s))))), ?_⟩
    | refine o_ixLs (by (first | exact Sl.LsOf.fz | exact Sl.LsOf.ce (by (repeat (first | exact Sl.At.z | apply Sl.At.s))))) (by rfl) ?_
    | refine ⟨_, _, _, _, _, rfl, rfl, (by (repeat (first | exact Sl.At.z | apply Sl.At.s))), ?_⟩
    | refine ⟨_, _, _, _, _, _, rfl, rfl, (by (repeat (first | exact Sl.At.z | apply Sl.At.s))), (by rfl), (by (repeat (first | exact Sl.Rp.z | apply Sl.Rp.s))), ?_⟩
    | refine ⟨_, _, _, _, _, rfl, (by (repeat (first | exact Sl.At.z | apply Sl.At.s))), (by (repeat (first | exact Sl.Pf.n | exact Sl.Pf.z | (apply Sl.Pf.s; decide +kernel)))), (by exact Nat.le_of_ble_eq_true rfl), (by (repeat (first | exact Sl.Rp.z | apply Sl.Rp.s))), ?_⟩
    | ((with_reducible refine And.intro ?_ ?_); exact Nat.le_of_ble_eq_true rfl)
    | with_reducible refine e_gref ?_
    | refine o_inT (by rfl) (by rfl) ?_
    | refine ⟨_, true, rfl, kit_ty (by decide +kernel), ?_⟩
    | refine ⟨_, false, rfl, kit_ty (by decide +kernel), ?_⟩
    | refine ⟨fun _ => ?_, fun hb => absurd hb (by decide +kernel)⟩
    | refine ⟨fun hb => absurd hb (by decide +kernel), fun _ => ?_⟩
    | refine ⟨fun _ => ?_, fun hb => ctT (by rfl) hb⟩
    | refine ⟨fun hb => ctT (by rfl) hb, fun _ => ?_⟩
    | refine ⟨fun _ => ?_, fun hb => ctF (by rfl) hb⟩
    | refine ⟨fun hb => ctF (by rfl) hb, fun _ => ?_⟩
    | fail)
abbrev rowsD (L : List (List Int)) : List D := L.map intsD
abbrev madeD (m : List Tri) : List D := m.map triD
structure FA where
  f : Addr
  r : Addr
  m : Addr
  c : Addr
abbrev frF (q : FA) (n : Int) : List (Str × D) := [("rows", .ref q.r), ("made", .ref q.m), ("closed", .ref q.c), ("many", .int n)]
abbrev Kvs := List (List Key × D)
structure Fr where
  q : FA
  L : List (List Int)
  m : List Tri
  k : Kvs
  n : Int
abbrev Fr.C (g : Fr) : Cs := [(g.q.f, .ins "Front" (frF g.q g.n)), (g.q.r, .lst (rowsD g.L)), (g.q.m, .lst (madeD g.m)), (g.q.c, .dt g.k)]
def Closed (k : Kvs) (m : List Tri) : Prop := (∀ a b, hasD k (kP a b) = decide ((a, b) ∈ sides m)) ∧ k.length ≤ 3 * m.length
def gateD (L : List (List Int)) : D := match L.getLast? with
  | none => .none
  | some l => .tuple [.int (l.getD 0 0), .int (l.getD 1 0)]
theorem gate_last {I : List (List Int)} {l : List Int} : gateD (I ++ [l]) = .tuple [.int (l.getD 0 0), .int (l.getD 1 0)] := by
  unfold gateD
  rw [List.getLast?_concat]
def optD : Option Int → D
  | none => .none
  | some x => .int x
theorem rows_app {I : List (List Int)} {l : List Int} : rowsD (I ++ [l]) = rowsD I ++ [intsD l] := List.map_append
theorem rows_last {I : List (List Int)} {l : List Int} : atI (rowsD (I ++ [l])) (-1) = some (intsD l) := by
  rw [rows_app]
  exact atI_last'
theorem ints_at {l : List Int} {k : Nat} (h : k < l.length) : atI (l.map D.int) (k : Int) = some (.int (l.getD k 0)) := atI_nat' (by
  rw [List.getElem?_map, List.getElem?_eq_getElem h]
  simp [List.getD, List.getElem?_eq_getElem h])
theorem ints_at? {l : List Int} {k : Nat} {x : Int} (h : l[k]? = some x) : atI (l.map D.int) (k : Int) = some (.int x) := atI_nat' (by
  rw [List.getElem?_map, h]
  rfl)
abbrev rowsP (L : List (List Int)) : List PyData := L.map fun l => .list (l.map PyData.int)
theorem ints_pd {Γ : Sy} {l : List Int} : PdAll Γ (l.map D.int) (l.map PyData.int) := Pd.all fun a _ => .int a
theorem rows_pd {Γ : Sy} {L : List (List Int)} : PdAll Γ (rowsD L) (rowsP L) := Pd.all fun a _ => .lst ints_pd
theorem rows_shp {L : List (List Int)} : Shp 2 (.list (rowsP L)) := shp_list fun d hd => by
  obtain ⟨l, _, rfl⟩ := List.mem_map.mp hd
  exact shp_list fun d hd => by
    obtain ⟨i, _, rfl⟩ := List.mem_map.mp hd
    exact shp_int
section
variable {Z : Zx} {Γ : Sy} {R : D → Sy → Prop} {x : D} {ds : List D} {es : List PyData}
theorem ls_pd (hl : LsOf Γ x ds) (hp : PdAll Γ ds es) : Pd Γ x (.list es) := by
  cases hl with
  | fz => exact .lst hp
  | ce h => exact .ref h.mem hp
theorem pda_len : ∀ {ds : List D} {es : List PyData}, PdAll Γ ds es → es.isEmpty = ds.isEmpty
  | _, _, .nil => rfl
  | _, _, .cons _ _ => rfl
theorem o_eqNil (hl : LsOf Γ x ds) (hp : PdAll Γ ds es) (hs : Shp 60 (.list es)) (r : R (.bool ds.isEmpty) Γ) : Ro Z (rEqD Z.K) x (.list []) Γ R := o_eqP (ls_pd hl hp) (.lst .nil) (hs.ok (by decide)) (by rfl) (by rw [eqv_nil, pda_len hp]; exact r)
theorem o_neNil (hl : LsOf Γ x ds) (hp : PdAll Γ ds es) (hs : Shp 60 (.list es)) (r : R (.bool (!ds.isEmpty)) Γ) : Ro Z (rNeD Z.K) x (.list []) Γ R := o_neP (ls_pd hl hp) (.lst .nil) (hs.ok (by decide)) (by rfl) (by rw [eqv_nil, pda_len hp]; exact r)
end
abbrev s_Front___init__ : Stmt := mtop 14 0
abbrev N_Front___init__ : List Str := ["self"]
theorem sc_Front___init__ : FnScope N_Front___init__ ["self"] (defScope s_Front___init__) := ⟨rfl, rfl, rfl, by decide +kernel, rfl, by decide +kernel, by decide +kernel⟩
abbrev s_Front_gate : Stmt := mtop 14 2
abbrev N_Front_gate : List Str := ["self"]
theorem sc_Front_gate : FnScope N_Front_gate ["self"] (defScope s_Front_gate) := ⟨rfl, rfl, rfl, by decide +kernel, rfl, by decide +kernel, by decide +kernel⟩
abbrev s_Front_come : Stmt := mtop 14 3
abbrev N_Front_come : List Str := ["self"]
theorem sc_Front_come : FnScope N_Front_come ["self"] (defScope s_Front_come) := ⟨rfl, rfl, rfl, by decide +kernel, rfl, by decide +kernel, by decide +kernel⟩
abbrev s_Front_triples : Stmt := mtop 14 4
abbrev N_Front_triples : List Str := ["self"]
theorem sc_Front_triples : FnScope N_Front_triples ["self"] (defScope s_Front_triples) := ⟨rfl, rfl, rfl, by decide +kernel, rfl, by decide +kernel, by decide +kernel⟩
abbrev spInit (K : PySem.W.Frag) : Sp := SpG K (G := Addr) (fun p => [.ref p]) (fun p => [(p, .ins "Front" [])]) (fun _ => True) (fun p out cs => ∃ q : FA, q.f = p ∧ out = .ret .none ∧ cs = (Fr.C ⟨q, [[0, 1]], [], [], 2⟩))
abbrev spGate (K : PySem.W.Frag) : Sp := SpG K (G := Fr) (fun g => [.ref g.q.f]) (fun g => g.C) (fun g => ∀ l ∈ g.L, 2 ≤ l.length) (fun g out cs => out = .ret (gateD g.L) ∧ cs = g.C)
abbrev spCome (K : PySem.W.Frag) : Sp := SpG K (G := Fr) (fun g => [.ref g.q.f]) (fun g => g.C) (fun _ => True) (fun g out cs => out = .ret (.int g.n) ∧ cs = g.C)
abbrev spTriples (K : PySem.W.Frag) : Sp := SpG K (G := Fr) (fun g => [.ref g.q.f]) (fun g => g.C) (fun _ => True) (fun g out cs => ∃ p, out = .ret (.ref p) ∧ cs = (p, .lst (madeD g.m)) :: g.C)
section
variable {P : Program} {w : World} {K : PySem.W.Frag} {mg : Str → Option Value} {base : Heap}
theorem cl_init (T : Tx K mg) (D : Md K "Front" "__init__" "Front.__init__" s_Front___init__) : ClM P w K mg base 1 "Front" "__init__" (spInit K) := by
  refine mk_clM D.1 D.2.1 D.2.2 sc_Front___init__ (fun _ _ _ _ _ _ us hl => match us, hl with | [_], _ => rfl) (fun _ => rfl) (fun cdv A outer s H E hr hu => ⟨_, (pss_cons (ps_fld (pv 0) (pe_lst (pa_cons (pe_lst (pa_cons pe_int (pa_cons pe_int pa_nil))) pa_nil)) (by rfl))
    (pss_cons (ps_fld (pv 0) (pe_lst pa_nil) (by rfl))
    (pss_cons (ps_fld (pv 0) pe_dnewT (by rfl))
    (pss_one (ps_fld (pv 0) pe_int (by rfl)))))), ?_⟩)
  rintro p pre Zf ee hE hx
  try dsimp only [cxOf]
  have hcF := T.cFront
  have na1 := T.n_rows
  have na2 := T.n_made
  have na3 := T.n_closed
  have na4 := T.n_many
  refine s_seq ?_
  refine s_fldA rfl hcF na1 ?_
  refine e_lstN ?_
  repeat tb_rel
  rintro pr hpr
  refine e_var rfl ?_
  refine ⟨_, _, _, _, _, rfl, (by (repeat (first | exact Sl.At.z | apply Sl.At.s))), (by (repeat (first | exact Sl.Pf.n | exact Sl.Pf.z | (apply Sl.Pf.s; decide +kernel)))), (by exact Nat.le_of_ble_eq_true rfl), (by (repeat (first | exact Sl.Rp.z | apply Sl.Rp.s))), ?_⟩
  refine s_seq ?_
  refine s_fldA rfl hcF na2 ?_
  refine e_lstN ?_
  repeat tb_rel
  rintro pm hpm
  refine e_var rfl ?_
  refine ⟨_, _, _, _, _, rfl, (by (repeat (first | exact Sl.At.z | apply Sl.At.s))), (by (repeat (first | exact Sl.Pf.n | exact Sl.Pf.z | (apply Sl.Pf.s; decide +kernel)))), (by exact Nat.le_of_ble_eq_true rfl), (by (repeat (first | exact Sl.Rp.z | apply Sl.Rp.s))), ?_⟩
  refine s_seq ?_
  refine s_fldA rfl hcF na3 ?_
  refine e_dnew ?_
  rintro pc hpc
  refine e_var rfl ?_
  refine ⟨_, _, _, _, _, rfl, (by (repeat (first | exact Sl.At.z | apply Sl.At.s))), (by (repeat (first | exact Sl.Pf.n | exact Sl.Pf.z | (apply Sl.Pf.s; decide +kernel)))), (by exact Nat.le_of_ble_eq_true rfl), (by (repeat (first | exact Sl.Rp.z | apply Sl.Rp.s))), ?_⟩
  repeat tb_rel
  refine hE.nx (cs' := Fr.C ⟨⟨p, pr, pm, pc⟩, [[0, 1]], [], [], 2⟩) (by (repeat (first | exact Sl.Take.nil | (apply Sl.Take.cons; (repeat (first | exact Sl.Rm.z | apply Sl.Rm.s)))))) ⟨⟨p, pr, pm, pc⟩, rfl, rfl, rfl⟩
theorem cl_gate (T : Tx K mg) (D : Md K "Front" "gate" "Front.gate" s_Front_gate) : ClM P w K mg base 1 "Front" "gate" (spGate K) := by
  refine mk_clM D.1 D.2.1 D.2.2 sc_Front_gate (fun _ _ _ _ _ _ us hl => match us, hl with | [_], _ => rfl) (fun _ => rfl) (fun cdv A outer s H E hr hu => ⟨_, (pss_cons (ps_if (pt_cmpR (op_eqD hr.units) (pe_fld (pv 0) (by rfl)) (pe_lst pa_nil) (nomark _)) (pss_one (ps_ret pe_non)) pss_nil)
    (pss_one (ps_ret (pe_tup (pa_cons (pe_ix ix_list (pe_ix ix_list (pe_fld (pv 0) (by rfl)) (pe_un un_neg pe_int) (fun _ _ => rfl)) pe_int (fun _ _ => rfl)) (pa_cons (pe_ix ix_list (pe_ix ix_list (pe_fld (pv 0) (by rfl)) (pe_un un_neg pe_int) (fun _ _ => rfl)) pe_int (fun _ _ => rfl)) pa_nil)))))), ?_⟩)
  rintro ⟨q, L, m, k, n⟩ pre Zf ee hE hx
  try dsimp only [cxOf]
  have hcF := T.cFront
  have na1 := T.n_rows
  repeat tb_rel
  refine o_eqNil (by (first | exact Sl.LsOf.fz | exact Sl.LsOf.ce (by (repeat (first | exact Sl.At.z | apply Sl.At.s))))) rows_pd (rows_shp.mono (by decide)) ?_
  repeat tb_rel
  rcases List.eq_nil_or_concat L with rfl | ⟨I, l, rfl⟩
  · repeat tb_rel
    exact hE.rt (cs' := Fr.C ⟨q, [], m, k, n⟩) (by (repeat (first | exact Sl.Take.nil | (apply Sl.Take.cons; (repeat (first | exact Sl.Rm.z | apply Sl.Rm.s)))))) ⟨rfl, rfl⟩
  · rw [List.concat_eq_append] at *
    refine ⟨fun hb => ?_, fun hb => ?_⟩
    · simp at hb
    · have hl : 2 ≤ l.length := pre l (by simp)
      repeat tb_rel
      refine o_ixLs (by (first | exact Sl.LsOf.fz | exact Sl.LsOf.ce (by (repeat (first | exact Sl.At.z | apply Sl.At.s))))) rows_last ?_
      repeat tb_rel
      refine o_ixLs .fz (ints_at (k := 0) (by omega)) ?_
      repeat tb_rel
      refine o_ixLs (by (first | exact Sl.LsOf.fz | exact Sl.LsOf.ce (by (repeat (first | exact Sl.At.z | apply Sl.At.s))))) rows_last ?_
      repeat tb_rel
      refine o_ixLs .fz (ints_at (k := 1) (by omega)) ?_
      repeat tb_rel
      exact hE.rt (cs' := Fr.C ⟨q, I ++ [l], m, k, n⟩) (by (repeat (first | exact Sl.Take.nil | (apply Sl.Take.cons; (repeat (first | exact Sl.Rm.z | apply Sl.Rm.s)))))) ⟨by rw [gate_last], rfl⟩
theorem cl_come (T : Tx K mg) (D : Md K "Front" "come" "Front.come" s_Front_come) : ClM P w K mg base 1 "Front" "come" (spCome K) := by
  refine mk_clM D.1 D.2.1 D.2.2 sc_Front_come (fun _ _ _ _ _ _ us hl => match us, hl with | [_], _ => rfl) (fun _ => rfl) (fun cdv A outer s H E hr hu => ⟨_, (pss_one (ps_ret (pe_fld (pv 0) (by rfl)))), ?_⟩)
  rintro ⟨q, L, m, k, n⟩ pre Zf ee hE hx
  try dsimp only [cxOf]
  have hcF := T.cFront
  have na4 := T.n_many
  repeat tb_rel
  exact hE.rt (cs' := Fr.C ⟨q, L, m, k, n⟩) (by (repeat (first | exact Sl.Take.nil | (apply Sl.Take.cons; (repeat (first | exact Sl.Rm.z | apply Sl.Rm.s)))))) ⟨rfl, rfl⟩
theorem cl_triples (T : Tx K mg) (D : Md K "Front" "triples" "Front.triples" s_Front_triples) : ClM P w K mg base 1 "Front" "triples" (spTriples K) := by
  refine mk_clM D.1 D.2.1 D.2.2 sc_Front_triples (fun _ _ _ _ _ _ us hl => match us, hl with | [_], _ => rfl) (fun _ => rfl) (fun cdv A outer s H E hr hu => ⟨_, (pss_one (ps_ret (pe_callTy call_list_of (by rfl) T.f_list (by decide +kernel) (pa_cons (pe_fld (pv 0) (by rfl)) pa_nil)))), ?_⟩)
  rintro ⟨q, L, m, k, n⟩ pre Zf ee hE hx
  try dsimp only [cxOf]
  have hcF := T.cFront
  have na2 := T.n_made
  refine s_ret (e_listOfC ?_)
  repeat tb_rel
  rintro p hp
  exact hE.rt (cs' := (p, .lst (madeD m)) :: Fr.C ⟨q, L, m, k, n⟩) (by (repeat (first | exact Sl.Take.nil | (apply Sl.Take.cons; (repeat (first | exact Sl.Rm.z | apply Sl.Rm.s)))))) ⟨p, rfl, rfl⟩
end
end K32

set_option Elab.async false
set_option linter.all false
set_option autoImplicit false
set_option maxRecDepth 100000
set_option maxHeartbeats 400000
namespace K32
open PySem PySem.Spec PyProof.Rows L2 Px Sl
local macro_rules
  | `(tactic| tb_rel) => `(tactic| first
    | with_reducible refine s_forI ?_
    | with_reducible refine s_for ?_
    | with_reducible refine s_seq ?_
    | with_reducible refine s_if ?_
    | with_reducible refine s_next ?_
    | with_reducible refine s_brk ?_
    | with_reducible refine s_cont ?_
    | with_reducible refine s_retN ?_
    | with_reducible refine s_asgT ?_
    | with_reducible refine s_asgL ?_
    | with_reducible refine s_drop ?_
    | with_reducible refine s_dput ?_
    | with_reducible refine s_setIA ?_
    | with_reducible refine t_test ?_
    | with_reducible refine t_B ?_
    | with_reducible refine t_yes ?_
    | with_reducible refine t_and ?_
    | with_reducible refine t_or ?_
    | with_reducible refine t_not ?_
    | with_reducible refine e_op ?_
    | with_reducible refine e_isi ?_
    | with_reducible refine e_extN ?_
    | with_reducible refine e_appA ?_
    | with_reducible refine e_popAtA ?_
    | with_reducible refine e_cb ?_
    | with_reducible refine e_lst ?_
    | with_reducible refine e_tup ?_
    | with_reducible refine e_neg ?_
    | with_reducible refine e_int ?_
    | with_reducible refine e_str ?_
    | with_reducible refine e_bl ?_
    | with_reducible refine e_non ?_
    | with_reducible refine e_din ?_
    | with_reducible refine e_andV ?_
    | with_reducible refine e_orV ?_
    | with_reducible refine e_slLs ?_
    | with_reducible refine e_slT ?_
    | with_reducible refine e_chain ?_
    | with_reducible refine a_cons ?_
    | with_reducible refine a_nil ?_
    | with_reducible refine o_no ?_
    | with_reducible refine o_so ?_
    | with_reducible refine i_range1 ?_
    | with_reducible refine i_list ?_
    | with_reducible refine i_tup ?_
    | with_reducible refine i_enum ?_
    | with_reducible refine i_enumRev ?_
    | with_reducible refine g_name ?_
    | with_reducible refine gs_cons ?_
    | with_reducible refine gs_nil ?_
    | with_reducible refine o_int ?_
    | with_reducible refine o_bool ?_
    | with_reducible refine o_eqI ?_
    | with_reducible refine o_neI ?_
    | with_reducible refine o_eqS ?_
    | with_reducible refine o_neS ?_
    | with_reducible refine o_isN ?_
    | with_reducible refine o_notN ?_
    | with_reducible refine c_lenT ?_
    | with_reducible refine c_intB ?_
    | with_reducible refine c_min2 ?_
    | with_reducible refine c_max2 ?_
    | ((fail_if_success (with_reducible refine e_notV (e_cb (a_cons (e_lc ?_ ?_))))); (with_reducible refine e_notV ?_))
    | ((fail_if_success (with_reducible refine s_ret (e_lst ?_))); (fail_if_success (with_reducible refine s_ret (e_lc ?_ ?_))); (with_reducible refine s_ret ?_))
    | ((fail_if_success (with_reducible refine s_set (e_lst ?_))); (fail_if_success (with_reducible refine s_set (e_lc ?_ ?_))); (with_reducible refine s_set ?_))
    | ((with_reducible apply e_var); exact rfl)
    | with_reducible refine e_callG rfl ?_
    | with_reducible refine e_methG rfl ?_
    | with_reducible refine e_makeG rfl ?_
    | refine e_fld rfl (by assumption) (by assumption) ?_
    | refine s_fldA rfl (by assumption) (by assumption) ?_
    | refine o_ixT (by rfl) ?_
    | refine c_lenLs (by (first | exact Sl.LsOf.fz | exact Sl.LsOf.ce (by (repeat (first | exact Sl.At.z | apply Sl.At.s))))) ?_
    | ((with_reducible refine g_tup ?_ ?_); exact rfl)
    | with_reducible refine ⟨_, rfl, ?_⟩
    | with_reducible refine ⟨_, _, rfl, rfl, ?_⟩
    | with_reducible refine ⟨_, LsOf.fz, ?_⟩
    | refine ⟨_, _, _, _, rfl, (by (repeat (first | exact Sl.At.z | apply Sl.At.s))), (by (repeat (first | exact Sl.Lk.z | (apply Sl.Lk.s; decide +kernel)))), ?_⟩
    | refine ⟨_, _, _, rfl, (by (repeat (first | exact Sl.At.z | apply Sl.At.s))), (by rfl), ?_⟩
    | refine ⟨_, _, _, rfl, (by (repeat (first | exact Sl.At.z | apply Sl.At.s))), ?_⟩
    | refine ⟨⟨_, _, _, rfl, (by (repeat (first | exact Sl.At.z | apply Sl.At.s)))⟩, ?_⟩
    | refine ⟨_, _, _, rfl, (by (repeat (first | exact Sl.Rp.z | apply Sl.Rp.s))), (by exact Nat.le_of_ble_eq_true rfl), (by exact Nat.le_of_ble_eq_true rfl), ?_⟩
    | refine ⟨_, (by (first | exact Sl.LsOf.fz | exact Sl.LsOf.ce (by (repeat (first | exact Sl.At.z | apply Sl.At.s))))), ?_⟩
    | refine ⟨_, _, (by (first | exact Sl.LsAs.fz | exact Sl.LsAs.ce (by (repeat (first | exact Sl.At.z | apply Sl.At.s))))), ?_⟩
    | refine o_ixLs (by (first | exact Sl.LsOf.fz | exact Sl.LsOf.ce (by (repeat (first | exact Sl.At.z | apply Sl.At.s))))) (by rfl) ?_
    | refine ⟨_, _, _, _, _, rfl, rfl, (by (repeat (first | exact Sl.At.z | apply Sl.At.s))), ?_⟩
    | refine ⟨_, _, _, _, _, _, rfl, rfl, (by (repeat (first | exact Sl.At.z | apply Sl.At.s))), (by rfl), (by (repeat (first | exact Sl.Rp.z | apply Sl.Rp.s))), ?_⟩
    | refine ⟨_, _, _, _, _, rfl, (by (repeat (first | exact Sl.At.z | apply Sl.At.s))), (by (repeat (first | exact Sl.Pf.n | exact Sl.Pf.z | (apply Sl.Pf.s; decide +kernel)))), (by exact Nat.le_of_ble_eq_true rfl), (by (repeat (first | exact Sl.Rp.z | apply Sl.Rp.s))), ?_⟩
    | ((with_reducible refine And.intro ?_ ?_); exact Nat.le_of_ble_eq_true rfl)
    | with_reducible refine e_gref ?_
    | refine o_inT (by rfl) (by rfl) ?_
    | refine ⟨_, true, rfl, kit_ty (by decide +kernel), ?_⟩
    | refine ⟨_, false, rfl, kit_ty (by decide +kernel), ?_⟩
    | refine ⟨fun _ => ?_, fun hb => absurd hb (by decide +kernel)⟩
    | refine ⟨fun hb => absurd hb (by decide +kernel), fun _ => ?_⟩
    | refine ⟨fun _ => ?_, fun hb => ctT (by rfl) hb⟩
    | refine ⟨fun hb => ctT (by rfl) hb, fun _ => ?_⟩
    | refine ⟨fun _ => ?_, fun hb => ctF (by rfl) hb⟩
    | refine ⟨fun hb => ctF (by rfl) hb, fun _ => ?_⟩
    | fail)
abbrev s_Front_loops : Stmt := mtop 14 1
abbrev N_Front_loops : List Str := ["self", "loop"]
theorem sc_Front_loops : FnScope N_Front_loops ["self"] (defScope s_Front_loops) := ⟨rfl, rfl, rfl, by decide +kernel, rfl, by decide +kernel, by decide +kernel⟩
abbrev cpC (qs : List (Addr × List Int)) : Cs := qs.map fun q => (q.1, .lst (q.2.map D.int))
abbrev spLoops (K : PySem.W.Frag) : Sp := SpG K (G := Fr) (fun g => [.ref g.q.f]) (fun g => g.C) (fun g => g.L.length ≤ 1000) (fun g out cs => ∃ (p : Addr) (qs : List (Addr × List Int)), qs.map (·.2) = g.L ∧ out = .ret (.ref p) ∧ cs = (p, .lst (qs.map fun q => .ref q.1)) :: (cpC qs.reverse ++ g.C))
abbrev s_Front_parted_at : Stmt := mtop 14 5
abbrev N_Front_parted_at : List Str := ["self", "j", "k", "loop"]
theorem sc_Front_parted_at : FnScope N_Front_parted_at ["self", "j", "k"] (defScope s_Front_parted_at) := ⟨rfl, rfl, rfl, by decide +kernel, rfl, by decide +kernel, by decide +kernel⟩
abbrev s_Front_third_of : Stmt := mtop 14 6
abbrev N_Front_third_of : List Str := ["self", "letter", "loop"]
theorem sc_Front_third_of : FnScope N_Front_third_of ["self", "letter"] (defScope s_Front_third_of) := ⟨rfl, rfl, rfl, by decide +kernel, rfl, by decide +kernel, by decide +kernel⟩
structure FL where
  q : FA
  I : List (List Int)
  l : List Int
  m : List Tri
  k : Kvs
  n : Int
abbrev FL.F (g : FL) : Fr := ⟨g.q, g.I ++ [g.l], g.m, g.k, g.n⟩
abbrev spParted (K : PySem.W.Frag) : Sp := SpG K (G := FL × Nat × Nat) (fun g => [.ref g.1.q.f, .int (g.2.1 : Nat), .int (g.2.2 : Nat)]) (fun g => g.1.F.C) (fun _ => True) (fun g out cs => out = .ret (optD (third g.1.I g.1.l g.1.n (.S g.2.1 g.2.2))) ∧ cs = g.1.F.C)
abbrev spThirdOf (K : PySem.W.Frag) : Sp := SpG K (G := FL × Lt) (fun g => [.ref g.1.q.f, g.2.d]) (fun g => g.1.F.C) (fun _ => True) (fun g out cs => out = .ret (optD (third g.1.I g.1.l g.1.n g.2)) ∧ cs = g.1.F.C)
theorem rows_back {I : List (List Int)} {l o : List Int} {j : Nat} (hj : j ≤ I.length) (h : (I ++ [l])[I.length - j]? = some o) : atI (rowsD (I ++ [l])) (-1 - (j : Int)) = some (intsD o) := by
  have e : (rowsD (I ++ [l])).length = I.length + 1 := by simp
  refine atI_back (by rw [e]; omega) ?_
  rw [e, List.getElem?_map]
  have e2 : I.length + 1 - 1 - j = I.length - j := by omega
  rw [e2, h]
  rfl
section
variable {P : Program} {w : World} {K : PySem.W.Frag} {mg : Str → Option Value} {base : Heap}
theorem cl_loops (T : Tx K mg) (D : Md K "Front" "loops" "Front.loops" s_Front_loops) : ClM P w K mg base 1 "Front" "loops" (spLoops K) := by
  refine mk_clM D.1 D.2.1 D.2.2 sc_Front_loops (fun _ _ _ _ _ _ us hl => match us, hl with | [_], _ => rfl) (fun _ => rfl) (fun cdv A outer s H E hr hu => ⟨_, (pss_one (ps_ret (pe_lc (own := [("loop", 1)]) (g := gName 1) (tt := tYes) (te := tCB (fun xs H Q => ∃ p ys, xs = [.ref p] ∧ (SqL K H p ys ∨ SqT K H p ys) ∧ ∀ l, H l = none → Q (.ref l) (upd H l (.lst ys))) (tCons (tVar 1) tNil)) rfl sc_Front_loops.nd (pi_list (pe_fld (pv 0) (by rfl))) (blkOk_by (N := N_Front_loops) (sc := defScope s_Front_loops) (by decide +kernel)) (fun _ _ _ _ _ => (pg_name (i := 1) sc_Front_loops.nd rfl (by first | exact Or.inl rfl | exact Or.inr rfl))) (fun _ _ _ _ _ => pts_nil) (fun _ _ _ _ _ => (pe_callTy call_list_of (by rfl) T.f_list (by decide +kernel) (pa_cons (pv 1) pa_nil)))))), ?_⟩)
  rintro ⟨q, L, m, k, n⟩ pre Zf ee hE hx
  try dsimp only [cxOf]
  dsimp only at pre
  have hcF := T.cFront
  have na1 := T.n_rows
  refine s_ret (e_lcC (keeps_name (by simp)) ?_)
  repeat tb_rel
  refine ⟨?_, fun i acc Γ' => ∃ qs : List (Addr × List Int), qs.map (·.2) = L.take i ∧ acc = qs.map (fun q => .ref q.1) ∧ Γ' = ⟨[some (.ref q.f), none], cpC qs.reverse ++ Fr.C ⟨q, L, m, k, n⟩⟩, ⟨[], rfl, rfl, rfl⟩, ?_, ?_, ?_⟩
  · rw [List.length_map]
    exact Nat.le_trans pre (by decide)
  · rintro i acc Γ' ⟨qs, h1, h2, rfl⟩
    show _ ∈ cpC qs.reverse ++ Fr.C ⟨q, L, m, k, n⟩
    simp
  · rintro x i d acc Γ' hd ⟨qs, h1, h2, rfl⟩
    obtain ⟨l, hl, rfl⟩ : ∃ l, L[i]? = some l ∧ d = intsD l := by
      rw [List.getElem?_map] at hd
      cases e : L[i]? with
      | none => rw [e] at hd; cases hd
      | some l => rw [e] at hd; cases hd; exact ⟨l, rfl, rfl⟩
    refine g_name (t_yes ⟨fun _ => ?_, fun z => nomatch z⟩)
    refine e_listOfC ?_
    repeat tb_rel
    rintro p hp
    refine ⟨qs ++ [(p, l)], ?_, ?_, ?_⟩
    · obtain ⟨hi, rfl⟩ := List.getElem?_eq_some_iff.mp hl
      rw [List.take_succ_eq_append_getElem hi, List.map_append, h1]
      rfl
    · rw [h2, List.map_append]
      rfl
    · show Sy.mk _ ((p, HD.lst (l.map Sl.D.int)) :: (cpC qs.reverse ++ Fr.C ⟨q, L, m, k, n⟩)) = _
      rw [List.reverse_append]
      rfl
  · rintro acc Γ' ⟨qs, h1, h2, rfl⟩ p hp
    rw [List.length_map, List.take_length] at h1
    subst h2
    exact hE.rt (cs' := (p, .lst (qs.map fun q => .ref q.1)) :: (cpC qs.reverse ++ Fr.C ⟨q, L, m, k, n⟩)) take_self ⟨p, qs, h1, rfl, rfl⟩
theorem cl_parted_at (T : Tx K mg) (D : Md K "Front" "parted_at" "Front.parted_at" s_Front_parted_at) : ClM P w K mg base 1 "Front" "parted_at" (spParted K) := by
  refine mk_clM D.1 D.2.1 D.2.2 sc_Front_parted_at (fun _ _ _ _ _ _ us hl => match us, hl with | [_, _, _], _ => rfl) (fun _ => rfl) (fun cdv A outer s H E hr hu => ⟨_, (pss_cons (ps_if (pt_cmpR op_ge (pv 1) (pe_callB call_len_seq (by rfl) T.f_len boot_len (pa_cons (pe_fld (pv 0) (by rfl)) pa_nil)) (nomark _)) (pss_one (ps_ret pe_non)) pss_nil)
    (pss_cons (ps_set (i := 3) sc_Front_parted_at.nd rfl (by first | exact .inl rfl | exact .inr rfl) (pe_ix ix_list (pe_fld (pv 0) (by rfl)) (pe_op op_sub (pe_un un_neg pe_int) (pv 1)) (fun _ _ => rfl)))
    (pss_cons (ps_if (PW.pt (pw_or (PW.pt (pw_and (pt_cmpR op_eq (pv 1) pe_int (nomark _)) (pw_and1 (PW.pt (pw_or (pt_cmpR op_lt (pv 2) pe_int (nomark _)) (pw_or1 (pt_cmpR op_gt (pv 2) (pe_op op_sub (pe_callB call_len_seq (by rfl) T.f_len boot_len (pa_cons (pv 3) pa_nil)) pe_int) (nomark _)))))))) (pw_or1 (pt_cmpR op_ge (pv 2) (pe_callB call_len_seq (by rfl) T.f_len boot_len (pa_cons (pv 3) pa_nil)) (nomark _))))) (pss_one (ps_ret pe_non)) pss_nil)
    (pss_one (ps_ret (pe_ix ix_list (pv 3) (pv 2) (fun _ _ => rfl))))))), ?_⟩)
  rintro ⟨⟨q, I, l, m, k, n⟩, j, kk⟩ pre Zf ee hE hx
  try dsimp only [cxOf]
  have hcF := T.cFront
  have na1 := T.n_rows
  repeat tb_rel
  refine ⟨fun hb => ?_, fun hb => ?_⟩
  · have hb' := of_decide_eq_true hb
    simp at hb'
    repeat tb_rel
    refine hE.rt (cs' := Fr.C ⟨q, I ++ [l], m, k, n⟩) (by (repeat (first | exact Sl.Take.nil | (apply Sl.Take.cons; (repeat (first | exact Sl.Rm.z | apply Sl.Rm.s)))))) ⟨?_, rfl⟩
    obtain ⟨j, rfl⟩ : ∃ i, j = i + 1 := ⟨j - 1, by omega⟩
    simp only [third]
    rw [if_neg (by omega)]
    rfl
  · have hb' := of_decide_eq_false hb
    simp at hb'
    repeat tb_rel
    obtain ⟨o, ho⟩ : ∃ o, (I ++ [l])[I.length - j]? = some o := ⟨_, List.getElem?_eq_getElem (by simp; omega)⟩
    refine o_ixLs (by (first | exact Sl.LsOf.fz | exact Sl.LsOf.ce (by (repeat (first | exact Sl.At.z | apply Sl.At.s))))) (rows_back (by omega) ho) ?_
    refine s_seq ?_
    refine s_ifB ((decide ((j : Int) = 0) && (decide ((kk : Int) < 3) || decide ((o.length : Int) - 2 < (kk : Int)))) || decide ((o.length : Int) ≤ (kk : Int))) (tp_or (tp_and ?_ fun _ => tp_or ?_ fun _ => ?_) fun _ => ?_) ?_ ?_
    · unfold Tp
      repeat tb_rel
      exact ⟨rfl, rfl⟩
    · unfold Tp
      repeat tb_rel
      exact ⟨rfl, rfl⟩
    · unfold Tp
      repeat tb_rel
      exact ⟨by simp, rfl⟩
    · unfold Tp
      repeat tb_rel
      exact ⟨by simp, rfl⟩
    · intro hB
      repeat tb_rel
      refine hE.rt (cs' := Fr.C ⟨q, I ++ [l], m, k, n⟩) (by (repeat (first | exact Sl.Take.nil | (apply Sl.Take.cons; (repeat (first | exact Sl.Rm.z | apply Sl.Rm.s)))))) ⟨?_, rfl⟩
      simp at hB
      cases j with
      | zero =>
        have e : o = l := by simpa using ho.symm
        subst e
        simp only [third]
        rw [if_neg (by omega)]
        rfl
      | succ j =>
        have e : I[I.length - 1 - j]? = some o := by
          rw [List.getElem?_append_left (by omega)] at ho
          have e2 : I.length - (j + 1) = I.length - 1 - j := by omega
          rw [e2] at ho
          exact ho
        simp only [third]
        rw [if_pos (by omega), e]
        have : o[kk]? = none := List.getElem?_eq_none (by omega)
        show _ = Out.ret (optD o[kk]?)
        rw [this]
        rfl
    · intro hB
      repeat tb_rel
      simp at hB
      have hk : kk < o.length := by omega
      refine o_ixLs .fz (ints_at? (List.getElem?_eq_getElem hk)) ?_
      refine hE.rt (cs' := Fr.C ⟨q, I ++ [l], m, k, n⟩) (by (repeat (first | exact Sl.Take.nil | (apply Sl.Take.cons; (repeat (first | exact Sl.Rm.z | apply Sl.Rm.s)))))) ⟨?_, rfl⟩
      cases j with
      | zero =>
        have e : o = l := by simpa using ho.symm
        subst e
        simp only [third]
        rw [if_pos (by omega), List.getElem?_eq_getElem hk]
        rfl
      | succ j =>
        have e : I[I.length - 1 - j]? = some o := by
          rw [List.getElem?_append_left (by omega)] at ho
          have e2 : I.length - (j + 1) = I.length - 1 - j := by omega
          rw [e2] at ho
          exact ho
        simp only [third]
        rw [if_pos (by omega), e]
        show _ = Out.ret (optD o[kk]?)
        rw [List.getElem?_eq_getElem hk]
        rfl
theorem cl_third_of (T : Tx K mg) (D : Md K "Front" "third_of" "Front.third_of" s_Front_third_of) (c_Front_parted_at : ClM P w K mg base 1 "Front" "parted_at" (spParted K)) : ClM P w K mg base 2 "Front" "third_of" (spThirdOf K) := by
  refine mk_clM D.1 D.2.1 D.2.2 sc_Front_third_of (fun _ _ _ _ _ _ us hl => match us, hl with | [_, _], _ => rfl) (fun _ => rfl) (fun cdv A outer s H E hr hu => ⟨_, (pss_cons (ps_set (i := 2) sc_Front_third_of.nd rfl (by first | exact .inl rfl | exact .inr rfl) (pe_ix ix_list (pe_fld (pv 0) (by rfl)) (pe_un un_neg pe_int) (fun _ _ => rfl)))
    (pss_cons (ps_if (pt_cmpR op_eq (pe_ix ix_tup (pv 1) pe_int (fun _ _ => rfl)) pe_str (nomark _)) (pss_one (ps_ret (pe_fld (pv 0) (by rfl)))) pss_nil)
    (pss_cons (ps_if (pt_cmpR op_eq (pe_ix ix_tup (pv 1) pe_int (fun _ _ => rfl)) pe_str (nomark _)) (pss_one (ps_ret (pe_clM c_Front_parted_at T.cFront hr hu (by omega) tkN (pv 0) (pa_cons (pe_ix ix_tup (pv 1) pe_int (fun _ _ => rfl)) (pa_cons (pe_ix ix_tup (pv 1) pe_int (fun _ _ => rfl)) pa_nil))))) pss_nil)
    (pss_cons (ps_if (PW.pt (pw_and (pt_cmpR op_eq (pe_ix ix_tup (pv 1) pe_int (fun _ _ => rfl)) pe_str (nomark _)) (pw_and1 (pt_cmpR op_eq (pe_callB call_len_seq (by rfl) T.f_len boot_len (pa_cons (pv 2) pa_nil)) pe_int (nomark _))))) (pss_one (ps_ret (pe_ix ix_list (pv 2) pe_int (fun _ _ => rfl)))) pss_nil)
    (pss_cons (ps_if (PW.pt (pw_and (pt_cmpR op_eq (pe_ix ix_tup (pv 1) pe_int (fun _ _ => rfl)) pe_str (nomark _)) (pw_and1 (pt_cmpR op_gt (pe_callB call_len_seq (by rfl) T.f_len boot_len (pa_cons (pv 2) pa_nil)) pe_int (nomark _))))) (pss_one (ps_ret (pe_ix ix_list (pv 2) pe_int (fun _ _ => rfl)))) pss_nil)
    (pss_cons (ps_if (PW.pt (pw_and (pt_cmpR op_eq (pe_ix ix_tup (pv 1) pe_int (fun _ _ => rfl)) pe_str (nomark _)) (pw_and1 (pt_cmpR op_gt (pe_callB call_len_seq (by rfl) T.f_len boot_len (pa_cons (pv 2) pa_nil)) pe_int (nomark _))))) (pss_one (ps_ret (pe_ix ix_list (pv 2) (pe_un un_neg pe_int) (fun _ _ => rfl)))) pss_nil)
    (pss_one (ps_ret pe_non)))))))), ?_⟩)
  rintro ⟨⟨q, I, l, m, k, n⟩, t⟩ pre Zf ee hE hx
  try dsimp only [cxOf]
  have hcF := T.cFront
  have na1 := T.n_rows
  have na4 := T.n_many
  repeat tb_rel
  refine o_ixLs (by (first | exact Sl.LsOf.fz | exact Sl.LsOf.ce (by (repeat (first | exact Sl.At.z | apply Sl.At.s))))) rows_last ?_
  have fin : ∀ {g : List (Option Sl.D)} {o : Option Int}, o = third I l n t → ee.rt (optD o) ⟨g, Fr.C ⟨q, I ++ [l], m, k, n⟩⟩ := fun {g o} e => by
    subst e
    exact hE.rt (cs' := Fr.C ⟨q, I ++ [l], m, k, n⟩) (by (repeat (first | exact Sl.Take.nil | (apply Sl.Take.cons; (repeat (first | exact Sl.Rm.z | apply Sl.Rm.s)))))) ⟨rfl, rfl⟩
  show Sd _ _ ⟨[some (.ref q.f), some t.d, some (intsD l)], _⟩ _
  cases t with
  | C =>
    simp only [Lt.d]
    repeat tb_rel
    exact fin (o := some n) rfl
  | S j kk =>
    simp only [Lt.d]
    repeat tb_rel
    refine ⟨(⟨q, I, l, m, k, n⟩, j, kk), _, rfl, (by (repeat (first | exact Sl.Take.nil | (apply Sl.Take.cons; (repeat (first | exact Sl.Rm.z | apply Sl.Rm.s)))))), trivial, ?_⟩
    rintro out cs ⟨rfl, rfl⟩
    exact fin rfl
  | E =>
    simp only [Lt.d]
    repeat tb_rel
    refine ⟨fun hb => ?_, fun hb => ?_⟩
    · have hl : l.length = 3 := by simp at hb; omega
      repeat tb_rel
      refine o_ixLs .fz (ints_at (k := 2) (by omega)) ?_
      refine fin (o := some _) ?_
      simp only [third]
      rw [if_pos hl, List.getElem?_eq_getElem (by omega)]
      simp [List.getD, List.getElem?_eq_getElem (show 2 < l.length by omega)]
    · have hl : ¬ l.length = 3 := by simp at hb; omega
      repeat tb_rel
      refine fin (o := none) ?_
      simp only [third]
      rw [if_neg hl]
  | R =>
    simp only [Lt.d]
    repeat tb_rel
    refine ⟨fun hb => ?_, fun hb => ?_⟩
    · have hl : 3 < l.length := by simp at hb; omega
      repeat tb_rel
      refine o_ixLs .fz (ints_at (k := 2) (by omega)) ?_
      refine fin (o := some _) ?_
      simp only [third]
      rw [if_pos hl, List.getElem?_eq_getElem (by omega)]
      simp [List.getD, List.getElem?_eq_getElem (show 2 < l.length by omega)]
    · have hl : ¬ 3 < l.length := by simp at hb; omega
      repeat tb_rel
      refine fin (o := none) ?_
      simp only [third]
      rw [if_neg hl]
  | L =>
    simp only [Lt.d]
    repeat tb_rel
    refine ⟨fun hb => ?_, fun hb => ?_⟩
    · have hl : 3 < l.length := by simp at hb; omega
      repeat tb_rel
      refine o_ixLs .fz (d := .int l[l.length - 1]) (atI_back (xs := l.map Sl.D.int) (j := 0) (by simp; omega) (by simp)) ?_
      refine fin (o := some _) ?_
      simp only [third]
      rw [if_pos hl, List.getElem?_eq_getElem (by omega)]
    · have hl : ¬ 3 < l.length := by simp at hb; omega
      repeat tb_rel
      refine fin (o := none) ?_
      simp only [third]
      rw [if_neg hl]
end
end K32

set_option Elab.async false
set_option linter.all false
set_option autoImplicit false
set_option maxRecDepth 100000
set_option maxHeartbeats 400000
namespace K32
open PySem PySem.Spec PyProof.Rows L2 Px Sl
local macro_rules
  | `(tactic| tb_rel) => `(tactic| first
    | with_reducible refine s_forI ?_
    | with_reducible refine s_for ?_
    | with_reducible refine s_seq ?_
    | with_reducible refine s_if ?_
    | with_reducible refine s_next ?_
    | with_reducible refine s_brk ?_
    | with_reducible refine s_cont ?_
    | with_reducible refine s_retN ?_
    | with_reducible refine s_asgT ?_
    | with_reducible refine s_asgL ?_
    | with_reducible refine s_drop ?_
    | with_reducible refine s_dput ?_
    | with_reducible refine s_setIA ?_
    | with_reducible refine t_test ?_
    | with_reducible refine t_B ?_
    | with_reducible refine t_yes ?_
    | with_reducible refine t_and ?_
    | with_reducible refine t_or ?_
    | with_reducible refine t_not ?_
    | with_reducible refine e_op ?_
    | with_reducible refine e_isi ?_
    | with_reducible refine e_extN ?_
    | with_reducible refine e_appA ?_
    | with_reducible refine e_popAtA ?_
    | with_reducible refine e_cb ?_
    | with_reducible refine e_lst ?_
    | with_reducible refine e_tup ?_
    | with_reducible refine e_neg ?_
    | with_reducible refine e_int ?_
    | with_reducible refine e_str ?_
    | with_reducible refine e_bl ?_
    | with_reducible refine e_non ?_
    | with_reducible refine e_din ?_
    | with_reducible refine e_andV ?_
    | with_reducible refine e_orV ?_
    | with_reducible refine e_slLs ?_
    | with_reducible refine e_slT ?_
    | with_reducible refine e_chain ?_
    | with_reducible refine a_cons ?_
    | with_reducible refine a_nil ?_
    | with_reducible refine o_no ?_
    | with_reducible refine o_so ?_
    | with_reducible refine i_range1 ?_
    | with_reducible refine i_list ?_
    | with_reducible refine i_tup ?_
    | with_reducible refine i_enum ?_
    | with_reducible refine i_enumRev ?_
    | with_reducible refine g_name ?_
    | with_reducible refine gs_cons ?_
    | with_reducible refine gs_nil ?_
    | with_reducible refine o_int ?_
    | with_reducible refine o_bool ?_
    | with_reducible refine o_eqI ?_
    | with_reducible refine o_neI ?_
    | with_reducible refine o_eqS ?_
    | with_reducible refine o_neS ?_
    | with_reducible refine o_isN ?_
    | with_reducible refine o_notN ?_
    | with_reducible refine c_lenT ?_
    | with_reducible refine c_intB ?_
    | with_reducible refine c_min2 ?_
    | with_reducible refine c_max2 ?_
    | ((fail_if_success (with_reducible refine e_notV (e_cb (a_cons (e_lc ?_ ?_))))); (with_reducible refine e_notV ?_))
    | ((fail_if_success (with_reducible refine s_ret (e_lst ?_))); (fail_if_success (with_reducible refine s_ret (e_lc ?_ ?_))); (with_reducible refine s_ret ?_))
    | ((fail_if_success (with_reducible refine s_set (e_lst ?_))); (fail_if_success (with_reducible refine s_set (e_lc ?_ ?_))); (with_reducible refine s_set ?_))
    | ((with_reducible apply e_var); exact rfl)
    | with_reducible refine e_callG rfl ?_
    | with_reducible refine e_methG rfl ?_
    | with_reducible refine e_makeG rfl ?_
    | refine e_fld rfl (by assumption) (by assumption) ?_
    | refine s_fldA rfl (by assumption) (by assumption) ?_
    | refine o_ixT (by rfl) ?_
    | refine c_lenLs (by (first | exact Sl.LsOf.fz | exact Sl.LsOf.ce (by (repeat (first | exact Sl.At.z | apply Sl.At.s))))) ?_
    | ((with_reducible refine g_tup ?_ ?_); exact rfl)
    | with_reducible refine ⟨_, rfl, ?_⟩
    | with_reducible refine ⟨_, _, rfl, rfl, ?_⟩
    | with_reducible refine ⟨_, LsOf.fz, ?_⟩
    | refine ⟨_, _, _, _, rfl, (by (repeat (first | exact Sl.At.z | apply Sl.At.s))), (by (repeat (first | exact Sl.Lk.z | (apply Sl.Lk.s; decide +kernel)))), ?_⟩
    | refine ⟨_, _, _, rfl, (by (repeat (first | exact Sl.At.z | apply Sl.At.s))), (by rfl), ?_⟩
    | refine ⟨_, _, _, rfl, (by (repeat (first | exact Sl.At.z | apply Sl.At.s))), ?_⟩
    | refine ⟨⟨_, _, _, rfl, (by (repeat (first | exact Sl.At.z | apply Sl.At.s)))⟩, ?_⟩
    | refine ⟨_, _, _, rfl, (by (repeat (first | exact Sl.Rp.z | apply Sl.Rp.s))), (by exact Nat.le_of_ble_eq_true rfl), (by exact Nat.le_of_ble_eq_true rfl), ?_⟩
    | refine ⟨_, (by (first | exact Sl.LsOf.fz | exact Sl.LsOf.ce (by (repeat (first | exact Sl.At.z | apply Sl.At.s))))), ?_⟩
    | refine ⟨_, _, (by (first | exact Sl.LsAs.fz | exact Sl.LsAs.ce (by (repeat (first | exact Sl.At.z | apply Sl.At.s))))), ?_⟩
    | refine o_ixLs (by (first | exact Sl.LsOf.fz | exact Sl.LsOf.ce (by (repeat (first | exact Sl.At.z | apply Sl.At.s))))) (by rfl) ?_
    | refine ⟨_, _, _, _, _, rfl, rfl, (by (repeat (first | exact Sl.At.z | apply Sl.At.s))), ?_⟩
    | refine ⟨_, _, _, _, _, _, rfl, rfl, (by (repeat (first | exact Sl.At.z | apply Sl.At.s))), (by rfl), (by (repeat (first | exact Sl.Rp.z | apply Sl.Rp.s))), ?_⟩
    | refine ⟨_, _, _, _, _, rfl, (by (repeat (first | exact Sl.At.z | apply Sl.At.s))), (by (repeat (first | exact Sl.Pf.n | exact Sl.Pf.z | (apply Sl.Pf.s; decide +kernel)))), (by exact Nat.le_of_ble_eq_true rfl), (by (repeat (first | exact Sl.Rp.z | apply Sl.Rp.s))), ?_⟩
    | ((with_reducible refine And.intro ?_ ?_); exact Nat.le_of_ble_eq_true rfl)
    | with_reducible refine e_gref ?_
    | refine o_inT (by rfl) (by rfl) ?_
    | refine ⟨_, true, rfl, kit_ty (by decide +kernel), ?_⟩
    | refine ⟨_, false, rfl, kit_ty (by decide +kernel), ?_⟩
    | refine ⟨fun _ => ?_, fun hb => absurd hb (by decide +kernel)⟩
    | refine ⟨fun hb => absurd hb (by decide +kernel), fun _ => ?_⟩
    | refine ⟨fun _ => ?_, fun hb => ctT (by rfl) hb⟩
    | refine ⟨fun hb => ctT (by rfl) hb, fun _ => ?_⟩
    | refine ⟨fun _ => ?_, fun hb => ctF (by rfl) hb⟩
    | refine ⟨fun hb => ctF (by rfl) hb, fun _ => ?_⟩
    | fail)
abbrev s_Front_may_stand : Stmt := mtop 14 7
abbrev N_Front_may_stand : List Str := ["self", "letter", "x", "a", "b", "sides", "side"]
theorem sc_Front_may_stand : FnScope N_Front_may_stand ["self", "letter", "x"] (defScope s_Front_may_stand) := ⟨rfl, rfl, rfl, by decide +kernel, rfl, by decide +kernel, by decide +kernel⟩
abbrev sideD (s : Int × Int) : D := .tuple [.int s.1, .int s.2]
theorem e_anyClosed {Z : Zx} {q : FA} {L : List (List Int)} {m : List Tri} {k : Kvs} {n : Int} {ps : Addr} {ld xd ad bd : Option D} {ss : List (Int × Int)} {R : D → Sy → Prop} (hcF : Cls Z.K (He.ga Z.K "Front")) (na3 : NoAttr Z.K (He.ga Z.K "Front") "closed") (hk : Closed k m) (hl : ss.length ≤ 1000)
    (r : R (.bool (ss.any fun s => decide (s ∈ sides m) || decide ((s.2, s.1) ∈ sides m))) ⟨[some (.ref q.f), ld, xd, ad, bd, some (.ref ps), none], (ps, .lst (ss.map sideD)) :: Fr.C ⟨q, L, m, k, n⟩⟩) :
    Ed Z (tCB (rAny Z.K) (tCons (tLc (iList Z.K (tVar 5)) (gName 6) tYes (tOrV (tDIn (tVar 6) (tFld Z.K (tVar 0) "closed")) (tDIn (tTup (tCons (tOp (rIxT Z.K) (tVar 6) (tC (.int 1))) (tCons (tOp (rIxT Z.K) (tVar 6) (tC (.int 0))) tNil))) (tFld Z.K (tVar 0) "closed"))) [6]) tNil)) ⟨[some (.ref q.f), ld, xd, ad, bd, some (.ref ps), none], (ps, .lst (ss.map sideD)) :: Fr.C ⟨q, L, m, k, n⟩⟩ R := by
  refine e_cb (a_cons (e_lcMap (fun d => match d with | .tuple [.int a, .int b] => .bool (decide ((a, b) ∈ sides m) || decide ((b, a) ∈ sides m)) | _ => .none) (keeps_name (by simp)) ?_))
  repeat tb_rel
  refine ⟨by rw [List.length_map]; exact Nat.le_trans hl (by decide), List.mem_cons_self, ?_, ?_⟩
  · intro x d hd
    obtain ⟨⟨a, b⟩, hs, rfl⟩ := List.mem_map.mp hd
    repeat tb_rel
    refine ⟨fun hb => ?_, fun hb => ?_⟩
    · rw [hk.1 a b] at hb
      repeat tb_rel
      refine ⟨?_, rfl⟩
      rw [hk.1 b a]
      show D.bool _ = D.bool _
      rw [hb, Bool.false_or]
    · rw [hk.1 a b] at hb
      refine ⟨?_, rfl⟩
      show D.bool _ = D.bool _
      rw [hb, Bool.true_or]
  · repeat tb_rel
    have e : (ss.map sideD).map (fun d => match d with | .tuple [.int a, .int b] => D.bool (decide ((a, b) ∈ sides m) || decide ((b, a) ∈ sides m)) | _ => .none) = (ss.map fun s => decide (s ∈ sides m) || decide ((s.2, s.1) ∈ sides m)).map D.bool := by
      rw [List.map_map, List.map_map]
      rfl
    rw [e]
    refine c_any ?_
    rw [List.any_map]
    exact r
abbrev spStand (K : PySem.W.Frag) : Sp := SpG K (G := FL × Lt × Int) (fun g => [.ref g.1.q.f, g.2.1.d, .int g.2.2]) (fun g => g.1.F.C) (fun g => (∀ l ∈ g.1.F.L, 2 ≤ l.length) ∧ Closed g.1.k g.1.m) (fun g out cs => out = .ret (.bool (!(decide (g.2.2 = g.1.l.getD 0 0) || decide (g.2.2 = g.1.l.getD 1 0) || (asked (g.1.l.getD 0 0) (g.1.l.getD 1 0) g.2.2 g.2.1).any fun s => decide (s ∈ sides g.1.m)))) ∧ cs = g.1.F.C)
theorem any_symm {a b x : Int} {t : Lt} {m : List Tri} : ((asked a b x t).any fun s => decide (s ∈ sides m) || decide ((s.2, s.1) ∈ sides m)) = (asked a b x t).any fun s => decide (s ∈ sides m) := by
  rw [Bool.eq_iff_iff, List.any_eq_true, List.any_eq_true]
  constructor
  · rintro ⟨⟨p, q⟩, hs, h⟩
    rcases Bool.or_eq_true_iff.mp h with h | h
    · exact ⟨_, hs, h⟩
    · exact ⟨_, asked_symm hs, h⟩
  · rintro ⟨s, hs, h⟩
    exact ⟨s, hs, by rw [h, Bool.true_or]⟩
section
variable {P : Program} {w : World} {K : PySem.W.Frag} {mg : Str → Option Value} {base : Heap}
theorem cl_may_stand (T : Tx K mg) (D : Md K "Front" "may_stand" "Front.may_stand" s_Front_may_stand) (c_Front_gate : ClM P w K mg base 1 "Front" "gate" (spGate K)) : ClM P w K mg base 2 "Front" "may_stand" (spStand K) := by
  refine mk_clM D.1 D.2.1 D.2.2 sc_Front_may_stand (fun _ _ _ _ _ _ us hl => match us, hl with | [_, _, _], _ => rfl) (fun _ => rfl) (fun cdv A outer s H E hr hu => ⟨_, (pss_cons (ps_asg (pe_clM0 c_Front_gate T.cFront hr hu (by omega) tkN (pv 0)) (pg_tup rfl (pgs_cons (pg_name (i := 3) sc_Front_may_stand.nd rfl (by first | exact Or.inl rfl | exact Or.inr rfl)) (pgs_cons (pg_name (i := 4) sc_Front_may_stand.nd rfl (by first | exact Or.inl rfl | exact Or.inr rfl)) pgs_nil))))
    (pss_cons (ps_if (PW.pt (pw_or (pt_cmpR op_eq (pv 2) (pv 3) (nomark _)) (pw_or1 (pt_cmpR op_eq (pv 2) (pv 4) (nomark _))))) (pss_one (ps_ret pe_bl)) pss_nil)
    (pss_cons (ps_set (i := 5) sc_Front_may_stand.nd rfl (by first | exact .inl rfl | exact .inr rfl) (pe_lst pa_nil))
    (pss_cons (ps_if (pt_cmpR op_notIn_seq (pe_ix ix_tup (pv 1) pe_int (fun _ _ => rfl)) (pe_tup (pa_cons pe_str (pa_cons pe_str pa_nil))) (by rfl)) (pss_one (ps_expr (pe_bm PySem.F.plainAttrs_list PySem.F.slot_list_extend PySem.F.type_list_extend mt_extend (pv 5) (pa_cons (pe_lst (pa_cons (pe_tup (pa_cons (pv 4) (pa_cons (pv 2) pa_nil))) (pa_cons (pe_tup (pa_cons (pv 2) (pa_cons (pv 4) pa_nil))) pa_nil))) pa_nil)))) pss_nil)
    (pss_cons (ps_if (pt_cmpR op_notIn_seq (pe_ix ix_tup (pv 1) pe_int (fun _ _ => rfl)) (pe_tup (pa_cons pe_str (pa_cons pe_str pa_nil))) (by rfl)) (pss_one (ps_expr (pe_bm PySem.F.plainAttrs_list PySem.F.slot_list_extend PySem.F.type_list_extend mt_extend (pv 5) (pa_cons (pe_lst (pa_cons (pe_tup (pa_cons (pv 2) (pa_cons (pv 3) pa_nil))) (pa_cons (pe_tup (pa_cons (pv 3) (pa_cons (pv 2) pa_nil))) pa_nil))) pa_nil)))) pss_nil)
    (pss_one (ps_ret (pe_not (pe_callB (cr_any rfl) (by rfl) T.f_any (by decide +kernel) (pa_cons (pe_lc (own := [("side", 6)]) (g := gName 6) (tt := tYes) (te := tOrV (tDIn (tVar 6) (tFld K (tVar 0) "closed")) (tDIn (tTup (tCons (tOp (rIxT K) (tVar 6) (tC (.int 1))) (tCons (tOp (rIxT K) (tVar 6) (tC (.int 0))) tNil))) (tFld K (tVar 0) "closed"))) rfl sc_Front_may_stand.nd (pi_list (pv 5)) (blkOk_by (N := N_Front_may_stand) (sc := defScope s_Front_may_stand) (by decide +kernel)) (fun _ _ _ _ _ => (pg_name (i := 6) sc_Front_may_stand.nd rfl (by first | exact Or.inl rfl | exact Or.inr rfl))) (fun _ _ _ _ _ => pts_nil) (fun _ _ _ _ _ => (pe_or (pe_cmp (pc_din (units1 hr.units) (pv 6) (pe_fld (pv 0) (by rfl)))) (pe_one (pe_cmp (pc_din (units1 hr.units) (pe_tup (pa_cons (pe_ix ix_tup (pv 6) pe_int (fun _ _ => rfl)) (pa_cons (pe_ix ix_tup (pv 6) pe_int (fun _ _ => rfl)) pa_nil))) (pe_fld (pv 0) (by rfl)))))))) pa_nil)))))))))), ?_⟩)
  rintro ⟨⟨q, I, l, m, k, n⟩, t, x⟩ ⟨pre, hk⟩ Zf ee hE hx
  try dsimp only [cxOf]
  dsimp only at pre hk
  have hcF := T.cFront
  have na1 := T.n_rows
  have na3 := T.n_closed
  repeat tb_rel
  refine ⟨⟨q, I ++ [l], m, k, n⟩, _, rfl, (by (repeat (first | exact Sl.Take.nil | (apply Sl.Take.cons; (repeat (first | exact Sl.Rm.z | apply Sl.Rm.s)))))), pre, ?_⟩
  rintro out cs ⟨rfl, rfl⟩
  rw [gate_last]
  repeat tb_rel
  have fin : ∀ {Γ : Sy} {r : Cs} {b : Bool}, Take (Fr.C ⟨q, I ++ [l], m, k, n⟩) Γ.c r → b = (!(decide (x = l.getD 0 0) || decide (x = l.getD 1 0) || (asked (l.getD 0 0) (l.getD 1 0) x t).any fun s => decide (s ∈ sides m))) → ee.rt (.bool b) Γ := fun {Γ r b} tk e => hE.rt tk ⟨by rw [e], rfl⟩
  refine ⟨fun h0 => ?_, fun h0 => ?_⟩
  · repeat tb_rel
    refine ⟨fun h1 => ?_, fun h1 => ?_⟩
    · repeat tb_rel
      exact fin (by (repeat (first | exact Sl.Take.nil | (apply Sl.Take.cons; (repeat (first | exact Sl.Rm.z | apply Sl.Rm.s)))))) (by rw [h1, Bool.or_true, Bool.true_or]; rfl)
    · repeat tb_rel
      refine s_set (e_lstN ?_)
      repeat tb_rel
      rintro ps hps
      show Sd _ _ ⟨[some (.ref q.f), some t.d, some (.int x), some (.int (l.getD 0 0)), some (.int (l.getD 1 0)), some (.ref ps), none], (ps, .lst []) :: Fr.C ⟨q, I ++ [l], m, k, n⟩⟩ _
      have fin2 : ∀ {Γ : Sy} {r : Cs} {b : Bool}, Take (Fr.C ⟨q, I ++ [l], m, k, n⟩) Γ.c r → b = ((asked (l.getD 0 0) (l.getD 1 0) x t).any fun s => decide (s ∈ sides m) || decide ((s.2, s.1) ∈ sides m)) → ee.rt (.bool (!b)) Γ := fun {Γ r b} tk e => fin tk (by rw [e, any_symm, h0, h1, Bool.false_or, Bool.false_or])
      cases t with
      | C =>
        simp only [Lt.d]
        repeat tb_rel
        refine e_notV ?_
        refine e_anyClosed (ss := asked (l.getD 0 0) (l.getD 1 0) x .C) (by exact hcF) (by exact na3) hk (by exact Nat.le_of_ble_eq_true rfl) ?_
        repeat tb_rel
        exact fin2 (by (repeat (first | exact Sl.Take.nil | (apply Sl.Take.cons; (repeat (first | exact Sl.Rm.z | apply Sl.Rm.s)))))) rfl
      | R =>
        simp only [Lt.d]
        repeat tb_rel
        refine e_notV ?_
        refine e_anyClosed (ss := asked (l.getD 0 0) (l.getD 1 0) x .R) (by exact hcF) (by exact na3) hk (by exact Nat.le_of_ble_eq_true rfl) ?_
        repeat tb_rel
        exact fin2 (by (repeat (first | exact Sl.Take.nil | (apply Sl.Take.cons; (repeat (first | exact Sl.Rm.z | apply Sl.Rm.s)))))) rfl
      | L =>
        simp only [Lt.d]
        repeat tb_rel
        refine e_notV ?_
        refine e_anyClosed (ss := asked (l.getD 0 0) (l.getD 1 0) x .L) (by exact hcF) (by exact na3) hk (by exact Nat.le_of_ble_eq_true rfl) ?_
        repeat tb_rel
        exact fin2 (by (repeat (first | exact Sl.Take.nil | (apply Sl.Take.cons; (repeat (first | exact Sl.Rm.z | apply Sl.Rm.s)))))) rfl
      | E =>
        simp only [Lt.d]
        repeat tb_rel
        refine e_notV ?_
        refine e_anyClosed (ss := asked (l.getD 0 0) (l.getD 1 0) x .E) (by exact hcF) (by exact na3) hk (by exact Nat.le_of_ble_eq_true rfl) ?_
        repeat tb_rel
        exact fin2 (by (repeat (first | exact Sl.Take.nil | (apply Sl.Take.cons; (repeat (first | exact Sl.Rm.z | apply Sl.Rm.s)))))) rfl
      | S j kk =>
        simp only [Lt.d]
        repeat tb_rel
        refine e_notV ?_
        refine e_anyClosed (ss := asked (l.getD 0 0) (l.getD 1 0) x (.S j kk)) (by exact hcF) (by exact na3) hk (by exact Nat.le_of_ble_eq_true rfl) ?_
        repeat tb_rel
        exact fin2 (by (repeat (first | exact Sl.Take.nil | (apply Sl.Take.cons; (repeat (first | exact Sl.Rm.z | apply Sl.Rm.s)))))) rfl
  · repeat tb_rel
    exact fin (by (repeat (first | exact Sl.Take.nil | (apply Sl.Take.cons; (repeat (first | exact Sl.Rm.z | apply Sl.Rm.s)))))) (by rw [h0, Bool.true_or, Bool.true_or]; rfl)
end
end K32

set_option Elab.async false
set_option linter.all false
set_option autoImplicit false
set_option maxRecDepth 100000
set_option maxHeartbeats 400000
namespace K32
open PySem PySem.Spec PyProof.Rows L2 Px Sl
local macro_rules
  | `(tactic| tb_rel) => `(tactic| first
    | with_reducible refine s_forI ?_
    | with_reducible refine s_for ?_
    | with_reducible refine s_seq ?_
    | with_reducible refine s_if ?_
    | with_reducible refine s_next ?_
    | with_reducible refine s_brk ?_
    | with_reducible refine s_cont ?_
    | with_reducible refine s_retN ?_
    | with_reducible refine s_asgT ?_
    | with_reducible refine s_asgL ?_
    | with_reducible refine s_drop ?_
    | with_reducible refine s_dput ?_
    | with_reducible refine s_setIA ?_
    | with_reducible refine t_test ?_
    | with_reducible refine t_B ?_
    | with_reducible refine t_yes ?_
    | with_reducible refine t_and ?_
    | with_reducible refine t_or ?_
    | with_reducible refine t_not ?_
    | with_reducible refine e_op ?_
    | with_reducible refine e_isi ?_
    | with_reducible refine e_extN ?_
    | with_reducible refine e_appA ?_
    | with_reducible refine e_popAtA ?_
    | with_reducible refine e_cb ?_
    | with_reducible refine e_lst ?_
    | with_reducible refine e_tup ?_
    | with_reducible refine e_neg ?_
    | with_reducible refine e_int ?_
    | with_reducible refine e_str ?_
    | with_reducible refine e_bl ?_
    | with_reducible refine e_non ?_
    | with_reducible refine e_din ?_
    | with_reducible refine e_andV ?_
    | with_reducible refine e_orV ?_
    | with_reducible refine e_slLs ?_
    | with_reducible refine e_slT ?_
    | with_reducible refine e_chain ?_
    | with_reducible refine a_cons ?_
    | with_reducible refine a_nil ?_
    | with_reducible refine o_no ?_
    | with_reducible refine o_so ?_
    | with_reducible refine i_range1 ?_
    | with_reducible refine i_list ?_
    | with_reducible refine i_tup ?_
    | with_reducible refine i_enum ?_
    | with_reducible refine i_enumRev ?_
    | with_reducible refine g_name ?_
    | with_reducible refine gs_cons ?_
    | with_reducible refine gs_nil ?_
    | with_reducible refine o_int ?_
    | with_reducible refine o_bool ?_
    | with_reducible refine o_eqI ?_
    | with_reducible refine o_neI ?_
    | with_reducible refine o_eqS ?_
    | with_reducible refine o_neS ?_
    | with_reducible refine o_isN ?_
    | with_reducible refine o_notN ?_
    | with_reducible refine c_lenT ?_
    | with_reducible refine c_intB ?_
    | with_reducible refine c_min2 ?_
    | with_reducible refine c_max2 ?_
    | ((fail_if_success (with_reducible refine e_notV (e_cb (a_cons (e_lc ?_ ?_))))); (with_reducible refine e_notV ?_))
    | ((fail_if_success (with_reducible refine s_ret (e_lst ?_))); (fail_if_success (with_reducible refine s_ret (e_lc ?_ ?_))); (with_reducible refine s_ret ?_))
    | ((fail_if_success (with_reducible refine s_set (e_lst ?_))); (fail_if_success (with_reducible refine s_set (e_lc ?_ ?_))); (with_reducible refine s_set ?_))
    | ((with_reducible apply e_var); exact rfl)
    | with_reducible refine e_callG rfl ?_
    | with_reducible refine e_methG rfl ?_
    | with_reducible refine e_makeG rfl ?_
    | refine e_fld rfl (by assumption) (by assumption) ?_
    | refine s_fldA rfl (by assumption) (by assumption) ?_
    | refine o_ixT (by rfl) ?_
    | refine c_lenLs (by (first | exact Sl.LsOf.fz | exact Sl.LsOf.ce (by (repeat (first | exact Sl.At.z | apply Sl.At.s))))) ?_
    | ((with_reducible refine g_tup ?_ ?_); exact rfl)
    | with_reducible refine ⟨_, rfl, ?_⟩
    | with_reducible refine ⟨_, _, rfl, rfl, ?_⟩
    | with_reducible refine ⟨_, LsOf.fz, ?_⟩
    | refine ⟨_, _, _, _, rfl, (by (repeat (first | exact Sl.At.z | apply Sl.At.s))), (by (repeat (first | exact Sl.Lk.z | (apply Sl.Lk.s; decide +kernel)))), ?_⟩
    | refine ⟨_, _, _, rfl, (by (repeat (first | exact Sl.At.z | apply Sl.At.s))), (by rfl), ?_⟩
    | refine ⟨_, _, _, rfl, (by (repeat (first | exact Sl.At.z | apply Sl.At.s))), ?_⟩
    | refine ⟨⟨_, _, _, rfl, (by (repeat (first | exact Sl.At.z | apply Sl.At.s)))⟩, ?_⟩
    | refine ⟨_, _, _, rfl, (by (repeat (first | exact Sl.Rp.z | apply Sl.Rp.s))), (by exact Nat.le_of_ble_eq_true rfl), (by exact Nat.le_of_ble_eq_true rfl), ?_⟩
    | refine ⟨_, (by (first | exact Sl.LsOf.fz | exact Sl.LsOf.ce (by (repeat (first | exact Sl.At.z | apply Sl.At.s))))), ?_⟩
    | refine ⟨_, _, (by (first | exact Sl.LsAs.fz | exact Sl.LsAs.ce (by (repeat (first | exact Sl.At.z | apply Sl.At.s))))), ?_⟩
    | refine o_ixLs (by (first | exact Sl.LsOf.fz | exact Sl.LsOf.ce (by (repeat (first | exact Sl.At.z | apply Sl.At.s))))) (by rfl) ?_
    | refine ⟨_, _, _, _, _, rfl, rfl, (by (repeat (first | exact Sl.At.z | apply Sl.At.s))), ?_⟩
    | refine ⟨_, _, _, _, _, _, rfl, rfl, (by (repeat (first | exact Sl.At.z | apply Sl.At.s))), (by rfl), (by (repeat (first | exact Sl.Rp.z | apply Sl.Rp.s))), ?_⟩
    | refine ⟨_, _, _, _, _, rfl, (by (repeat (first | exact Sl.At.z | apply Sl.At.s))), (by (repeat (first | exact Sl.Pf.n | exact Sl.Pf.z | (apply Sl.Pf.s; decide +kernel)))), (by exact Nat.le_of_ble_eq_true rfl), (by (repeat (first | exact Sl.Rp.z | apply Sl.Rp.s))), ?_⟩
    | ((with_reducible refine And.intro ?_ ?_); exact Nat.le_of_ble_eq_true rfl)
    | with_reducible refine e_gref ?_
    | refine o_inT (by rfl) (by rfl) ?_
    | refine ⟨_, true, rfl, kit_ty (by decide +kernel), ?_⟩
    | refine ⟨_, false, rfl, kit_ty (by decide +kernel), ?_⟩
    | refine ⟨fun _ => ?_, fun hb => absurd hb (by decide +kernel)⟩
    | refine ⟨fun hb => absurd hb (by decide +kernel), fun _ => ?_⟩
    | refine ⟨fun _ => ?_, fun hb => ctT (by rfl) hb⟩
    | refine ⟨fun hb => ctT (by rfl) hb, fun _ => ?_⟩
    | refine ⟨fun _ => ?_, fun hb => ctF (by rfl) hb⟩
    | refine ⟨fun hb => ctF (by rfl) hb, fun _ => ?_⟩
    | fail)
abbrev s_Front_part : Stmt := mtop 14 8
abbrev N_Front_part : List Str := ["self", "letter", "loop", "sign", "j", "k", "other"]
theorem sc_Front_part : FnScope N_Front_part ["self", "letter", "loop"] (defScope s_Front_part) := ⟨rfl, rfl, rfl, by decide +kernel, rfl, by decide +kernel, by decide +kernel⟩
structure Sm (I : List (List Int)) (l : List Int) : Prop where
  ni : I.length ≤ 1000
  no : ∀ o ∈ I, o.length ≤ 1000
  nl : l.length ≤ 1000
  two : 2 ≤ l.length
theorem map_erase {α β : Type} (f : α → β) : ∀ (l : List α) (j : Nat), (l.eraseIdx j).map f = (l.map f).eraseIdx j
  | [], _ => rfl
  | _ :: _, 0 => rfl
  | a :: l, j + 1 => by
    show f a :: (l.eraseIdx j).map f = f a :: (l.map f).eraseIdx j
    rw [map_erase f l j]
abbrev spPart (K : PySem.W.Frag) : Sp := SpG K (G := FL × Nat × Nat × Int) (fun g => [.ref g.1.q.f, (Lt.S g.2.1 g.2.2.1).d, intsD g.1.l]) (fun g => Fr.C ⟨g.1.q, g.1.I, g.1.m, g.1.k, g.1.n⟩) (fun g => Sm g.1.I g.1.l ∧ third g.1.I g.1.l g.1.n (.S g.2.1 g.2.2.1) = some g.2.2.2) (fun g out cs => out = .ret .none ∧ cs = Fr.C ⟨g.1.q, step g.1.I g.1.l g.2.2.2 (.S g.2.1 g.2.2.1), g.1.m, g.1.k, g.1.n⟩)
section
variable {P : Program} {w : World} {K : PySem.W.Frag} {mg : Str → Option Value} {base : Heap}
theorem cl_part (T : Tx K mg) (D : Md K "Front" "part" "Front.part" s_Front_part) : ClM P w K mg base 1 "Front" "part" (spPart K) := by
  refine mk_clM D.1 D.2.1 D.2.2 sc_Front_part (fun _ _ _ _ _ _ us hl => match us, hl with | [_, _, _], _ => rfl) (fun _ => rfl) (fun cdv A outer s H E hr hu => ⟨_, (pss_cons (ps_asg (pv 1) (pg_tup rfl (pgs_cons (pg_name (i := 3) sc_Front_part.nd rfl (by first | exact Or.inl rfl | exact Or.inr rfl)) (pgs_cons (pg_name (i := 4) sc_Front_part.nd rfl (by first | exact Or.inl rfl | exact Or.inr rfl)) (pgs_cons (pg_name (i := 5) sc_Front_part.nd rfl (by first | exact Or.inl rfl | exact Or.inr rfl)) pgs_nil)))))
    (pss_one (ps_if (pt_cmpR op_eq (pv 4) pe_int (nomark _)) (pss_cons (ps_expr (pe_bm PySem.F.plainAttrs_list PySem.F.slot_list_append PySem.F.type_list_append mt_append (pe_fld (pv 0) (by rfl)) (pa_cons (pe_op op_catS (pe_lst (pa_cons (pe_ix ix_list (pv 2) pe_int (fun _ _ => rfl)) pa_nil)) (pe_slice sl_list (pv 2) (po_some (pv 5)) po_none)) pa_nil)))
    (pss_one (ps_expr (pe_bm PySem.F.plainAttrs_list PySem.F.slot_list_append PySem.F.type_list_append mt_append (pe_fld (pv 0) (by rfl)) (pa_cons (pe_op op_catS (pe_lst (pa_cons (pe_ix ix_list (pv 2) (pv 5) (fun _ _ => rfl)) pa_nil)) (pe_slice sl_list (pv 2) (po_some pe_int) (po_some (pv 5)))) pa_nil))))) (pss_cons (ps_set (i := 6) sc_Front_part.nd rfl (by first | exact .inl rfl | exact .inr rfl) (pe_bm PySem.F.plainAttrs_list PySem.F.slot_list_pop PySem.F.type_list_pop mt_popAt (pe_fld (pv 0) (by rfl)) (pa_cons (pe_un un_neg (pv 4)) pa_nil)))
    (pss_one (ps_expr (pe_bm PySem.F.plainAttrs_list PySem.F.slot_list_append PySem.F.type_list_append mt_append (pe_fld (pv 0) (by rfl)) (pa_cons (pe_op op_catS (pe_op op_catS (pe_op op_catS (pe_op op_catS (pe_lst (pa_cons (pe_ix ix_list (pv 2) pe_int (fun _ _ => rfl)) pa_nil)) (pe_slice sl_list (pv 6) (po_some (pv 5)) po_none)) (pe_slice sl_list (pv 6) po_none (po_some (pv 5)))) (pe_lst (pa_cons (pe_ix ix_list (pv 6) (pv 5) (fun _ _ => rfl)) pa_nil))) (pe_slice sl_list (pv 2) (po_some pe_int) po_none)) pa_nil)))))))), ?_⟩)
  rintro ⟨⟨q, I, l, m, k, n⟩, j, kk, x⟩ ⟨sm, ht⟩ Zf ee hE hx
  try dsimp only [cxOf]
  dsimp only at sm ht
  have hcF := T.cFront
  have na1 := T.n_rows
  have h2 := sm.two
  show Sd _ _ ⟨[some (.ref q.f), some (.tuple [.str "S", .int (j : Nat), .int (kk : Nat)]), some (intsD l), none, none, none, none], _⟩ _
  repeat tb_rel
  cases j with
  | zero =>
    simp only [third] at ht
    split at ht
    · rename_i hk
      repeat tb_rel
      refine o_ixLs .fz (ints_at (k := 0) (by omega)) ?_
      repeat tb_rel
      rw [cut_lo, ← List.map_drop]
      refine o_catLs .fz .fz (by simp; have := sm.nl; omega) ?_
      refine ⟨_, _, ?_, (by (repeat (first | exact Sl.Rp.z | apply Sl.Rp.s))), ?_⟩
      · show (rowsD I).length < 100000
        rw [List.length_map]; have := sm.ni; omega
      repeat tb_rel
      refine o_ixLs .fz (ints_at? ht) ?_
      repeat tb_rel
      rw [cut_1k (by simp; omega), ← List.map_take, ← List.map_drop]
      refine o_catLs .fz .fz (by simp; have := sm.nl; omega) ?_
      refine ⟨_, _, ?_, (by (repeat (first | exact Sl.Rp.z | apply Sl.Rp.s))), ?_⟩
      · simp; have := sm.ni; omega
      refine hE.nx (cs' := Fr.C ⟨q, step I l x (.S 0 kk), m, k, n⟩) (r := []) ?_ ⟨rfl, rfl⟩
      have e : rowsD (step I l x (.S 0 kk)) = rowsD I ++ [.list ([.int (l.getD 0 0)] ++ (l.drop kk).map Sl.D.int)] ++ [.list ([.int x] ++ ((l.take kk).drop 1).map Sl.D.int)] := by
        simp only [step, rows_app]
        rfl
      show Take [_, (q.r, HD.lst (rowsD (step I l x (.S 0 kk)))), _, _] _ _
      rw [e]
      (repeat (first | exact Sl.Take.nil | (apply Sl.Take.cons; (repeat (first | exact Sl.Rm.z | apply Sl.Rm.s)))))
    · cases ht
  | succ j =>
    simp only [third] at ht
    split at ht
    · rename_i hj
      obtain ⟨o, ho⟩ : ∃ o, I[I.length - 1 - j]? = some o := ⟨_, List.getElem?_eq_getElem (by omega)⟩
      rw [ho] at ht
      have hx' : o[kk]? = some x := ht
      have ol := sm.no o (List.mem_of_getElem? ho)
      have hi := sm.ni
      have hk : kk < o.length := (List.getElem?_eq_some_iff.mp hx').1
      repeat tb_rel
      have es : seqIndex? (-((j + 1 : Nat) : Int)) (rowsD I).length = some (I.length - 1 - j) := by
        rw [List.length_map, seq_back (by omega) (by omega)]
        congr 1
        omega
      refine ⟨_, _, _, _, _, rfl, by omega, by omega, es, (show (rowsD I)[I.length - 1 - j]? = some (intsD o) by rw [List.getElem?_map, ho]; rfl), (by (repeat (first | exact Sl.Rp.z | apply Sl.Rp.s))), ?_⟩
      repeat tb_rel
      refine o_ixLs .fz (ints_at (k := 0) (by omega)) ?_
      repeat tb_rel
      rw [cut_lo, ← List.map_drop]
      refine o_catLs .fz .fz (by simp; omega) ?_
      repeat tb_rel
      rw [cut_hi, ← List.map_take]
      refine o_catLs .fz .fz (by simp; omega) ?_
      repeat tb_rel
      refine o_ixLs .fz (ints_at? hx') ?_
      repeat tb_rel
      refine o_catLs .fz .fz (by simp; omega) ?_
      repeat tb_rel
      rw [cut_1, ← List.map_drop]
      refine o_catLs .fz .fz (by simp; have := sm.nl; omega) ?_
      refine ⟨_, _, ?_, (by (repeat (first | exact Sl.Rp.z | apply Sl.Rp.s))), ?_⟩
      · have := List.length_eraseIdx_le (l := rowsD I) (i := I.length - 1 - j)
        rw [List.length_map] at this
        omega
      refine hE.nx (cs' := Fr.C ⟨q, step I l x (.S (j + 1) kk), m, k, n⟩) (r := []) ?_ ⟨rfl, rfl⟩
      have e : rowsD (step I l x (.S (j + 1) kk)) = (rowsD I).eraseIdx (I.length - 1 - j) ++ [.list ([.int (l.getD 0 0)] ++ (o.drop kk).map Sl.D.int ++ (o.take kk).map Sl.D.int ++ [.int x] ++ (l.drop 1).map Sl.D.int)] := by
        have eo : I.getD (I.length - 1 - j) [] = o := by simp [List.getD, ho]
        simp only [step, rows_app, eo]
        rw [show rowsD (I.eraseIdx (I.length - 1 - j)) = (rowsD I).eraseIdx (I.length - 1 - j) from map_erase _ _ _]
        simp
      show Take [_, (q.r, HD.lst (rowsD (step I l x (.S (j + 1) kk)))), _, _] _ _
      rw [e]
      (repeat (first | exact Sl.Take.nil | (apply Sl.Take.cons; (repeat (first | exact Sl.Rm.z | apply Sl.Rm.s)))))
    · cases ht
end
end K32

set_option Elab.async false
set_option linter.all false
set_option autoImplicit false
set_option maxRecDepth 100000
set_option maxHeartbeats 400000
namespace K32
open PySem PySem.Spec PyProof.Rows L2 Px Sl
local macro_rules
  | `(tactic| tb_rel) => `(tactic| first
    | with_reducible refine s_forI ?_
    | with_reducible refine s_for ?_
    | with_reducible refine s_seq ?_
    | with_reducible refine s_if ?_
    | with_reducible refine s_next ?_
    | with_reducible refine s_brk ?_
    | with_reducible refine s_cont ?_
    | with_reducible refine s_retN ?_
    | with_reducible refine s_asgT ?_
    | with_reducible refine s_asgL ?_
    | with_reducible refine s_drop ?_
    | with_reducible refine s_dput ?_
    | with_reducible refine s_setIA ?_
    | with_reducible refine t_test ?_
    | with_reducible refine t_B ?_
    | with_reducible refine t_yes ?_
    | with_reducible refine t_and ?_
    | with_reducible refine t_or ?_
    | with_reducible refine t_not ?_
    | with_reducible refine e_op ?_
    | with_reducible refine e_isi ?_
    | with_reducible refine e_extN ?_
    | with_reducible refine e_appA ?_
    | with_reducible refine e_popAtA ?_
    | with_reducible refine e_cb ?_
    | with_reducible refine e_lst ?_
    | with_reducible refine e_tup ?_
    | with_reducible refine e_neg ?_
    | with_reducible refine e_int ?_
    | with_reducible refine e_str ?_
    | with_reducible refine e_bl ?_
    | with_reducible refine e_non ?_
    | with_reducible refine e_din ?_
    | with_reducible refine e_andV ?_
    | with_reducible refine e_orV ?_
    | with_reducible refine e_slLs ?_
    | with_reducible refine e_slT ?_
    | with_reducible refine e_chain ?_
    | with_reducible refine a_cons ?_
    | with_reducible refine a_nil ?_
    | with_reducible refine o_no ?_
    | with_reducible refine o_so ?_
    | with_reducible refine i_range1 ?_
    | with_reducible refine i_list ?_
    | with_reducible refine i_tup ?_
    | with_reducible refine i_enum ?_
    | with_reducible refine i_enumRev ?_
    | with_reducible refine g_name ?_
    | with_reducible refine gs_cons ?_
    | with_reducible refine gs_nil ?_
    | with_reducible refine o_int ?_
    | with_reducible refine o_bool ?_
    | with_reducible refine o_eqI ?_
    | with_reducible refine o_neI ?_
    | with_reducible refine o_eqS ?_
    | with_reducible refine o_neS ?_
    | with_reducible refine o_isN ?_
    | with_reducible refine o_notN ?_
    | with_reducible refine c_lenT ?_
    | with_reducible refine c_intB ?_
    | with_reducible refine c_min2 ?_
    | with_reducible refine c_max2 ?_
    | ((fail_if_success (with_reducible refine e_notV (e_cb (a_cons (e_lc ?_ ?_))))); (with_reducible refine e_notV ?_))
    | ((fail_if_success (with_reducible refine s_ret (e_lst ?_))); (fail_if_success (with_reducible refine s_ret (e_lc ?_ ?_))); (with_reducible refine s_ret ?_))
    | ((fail_if_success (with_reducible refine s_set (e_lst ?_))); (fail_if_success (with_reducible refine s_set (e_lc ?_ ?_))); (with_reducible refine s_set ?_))
    | ((with_reducible apply e_var); exact rfl)
    | with_reducible refine e_callG rfl ?_
    | with_reducible refine e_methG rfl ?_
    | with_reducible refine e_makeG rfl ?_
    | refine e_fld rfl (by assumption) (by assumption) ?_
    | refine s_fldA rfl (by assumption) (by assumption) ?_
    | refine o_ixT (by rfl) ?_
    | refine c_lenLs (by (first | exact Sl.LsOf.fz | exact Sl.LsOf.ce (by (repeat (first | exact Sl.At.z | apply Sl.At.s))))) ?_
    | ((with_reducible refine g_tup ?_ ?_); exact rfl)
    | with_reducible refine ⟨_, rfl, ?_⟩
    | with_reducible refine ⟨_, _, rfl, rfl, ?_⟩
    | with_reducible refine ⟨_, LsOf.fz, ?_⟩
    | refine ⟨_, _, _, _, rfl, (by (repeat (first | exact Sl.At.z | apply Sl.At.s))), (by (repeat (first | exact Sl.Lk.z | (apply Sl.Lk.s; decide +kernel)))), ?_⟩
    | refine ⟨_, _, _, rfl, (by (repeat (first | exact Sl.At.z | apply Sl.At.s))), (by rfl), ?_⟩
    | refine ⟨_, _, _, rfl, (by (repeat (first | exact Sl.At.z | apply Sl.At.s))), ?_⟩
    | refine ⟨⟨_, _, _, rfl, (by (repeat (first | exact Sl.At.z | apply Sl.At.s)))⟩, ?_⟩
    | refine ⟨_, _, _, rfl, (by (repeat (first | exact Sl.Rp.z | apply Sl.Rp.s))), (by exact Nat.le_of_ble_eq_true rfl), (by exact Nat.le_of_ble_eq_true rfl), ?_⟩
    | refine ⟨_, (by (first | exact Sl.LsOf.fz | exact Sl.LsOf.ce (by (repeat (first | exact Sl.At.z | apply Sl.At.s))))), ?_⟩
    | refine ⟨_, _, (by (first | exact Sl.LsAs.fz | exact Sl.LsAs.ce (by (repeat (first | exact Sl.At.z | apply Sl.At.s))))), ?_⟩
    | refine o_ixLs (by (first | exact Sl.LsOf.fz | exact Sl.LsOf.ce (by (repeat (first | exact Sl.At.z | apply Sl.At.s))))) (by rfl) ?_
    | refine ⟨_, _, _, _, _, rfl, rfl, (by (repeat (first | exact Sl.At.z | apply Sl.At.s))), ?_⟩
    | refine ⟨_, _, _, _, _, _, rfl, rfl, (by (repeat (first | exact Sl.At.z | apply Sl.At.s))), (by rfl), (by (repeat (first | exact Sl.Rp.z | apply Sl.Rp.s))), ?_⟩
    | refine ⟨_, _, _, _, _, rfl, (by (repeat (first | exact Sl.At.z | apply Sl.At.s))), (by (repeat (first | exact Sl.Pf.n | exact Sl.Pf.z | (apply Sl.Pf.s; decide +kernel)))), (by exact Nat.le_of_ble_eq_true rfl), (by (repeat (first | exact Sl.Rp.z | apply Sl.Rp.s))), ?_⟩
    | ((with_reducible refine And.intro ?_ ?_); exact Nat.le_of_ble_eq_true rfl)
    | with_reducible refine e_gref ?_
    | refine o_inT (by rfl) (by rfl) ?_
    | refine ⟨_, true, rfl, kit_ty (by decide +kernel), ?_⟩
    | refine ⟨_, false, rfl, kit_ty (by decide +kernel), ?_⟩
    | refine ⟨fun _ => ?_, fun hb => absurd hb (by decide +kernel)⟩
    | refine ⟨fun hb => absurd hb (by decide +kernel), fun _ => ?_⟩
    | refine ⟨fun _ => ?_, fun hb => ctT (by rfl) hb⟩
    | refine ⟨fun hb => ctT (by rfl) hb, fun _ => ?_⟩
    | refine ⟨fun _ => ?_, fun hb => ctF (by rfl) hb⟩
    | refine ⟨fun hb => ctF (by rfl) hb, fun _ => ?_⟩
    | fail)
abbrev s_Front_go_on : Stmt := mtop 14 9
abbrev N_Front_go_on : List Str := ["self", "letter", "x", "loop"]
theorem sc_Front_go_on : FnScope N_Front_go_on ["self", "letter", "x"] (defScope s_Front_go_on) := ⟨rfl, rfl, rfl, by decide +kernel, rfl, by decide +kernel, by decide +kernel⟩
abbrev s_Front_put : Stmt := mtop 14 10
abbrev N_Front_put : List Str := ["self", "letter", "x", "triple", "side"]
theorem sc_Front_put : FnScope N_Front_put ["self", "letter"] (defScope s_Front_put) := ⟨rfl, rfl, rfl, by decide +kernel, rfl, by decide +kernel, by decide +kernel⟩
abbrev spGo (K : PySem.W.Frag) : Sp := SpG K (G := FL × Lt × Int) (fun g => [.ref g.1.q.f, g.2.1.d, .int g.2.2]) (fun g => g.1.F.C) (fun g => Sm g.1.I g.1.l ∧ third g.1.I g.1.l g.1.n g.2.1 = some g.2.2) (fun g out cs => out = .ret .none ∧ cs = Fr.C ⟨g.1.q, step g.1.I g.1.l g.2.2 g.2.1, g.1.m, g.1.k, more g.1.n g.2.1⟩)
section
variable {P : Program} {w : World} {K : PySem.W.Frag} {mg : Str → Option Value} {base : Heap}
theorem cl_go_on (T : Tx K mg) (D : Md K "Front" "go_on" "Front.go_on" s_Front_go_on) (c_Front_part : ClM P w K mg base 1 "Front" "part" (spPart K)) : ClM P w K mg base 2 "Front" "go_on" (spGo K) := by
  refine mk_clM D.1 D.2.1 D.2.2 sc_Front_go_on (fun _ _ _ _ _ _ us hl => match us, hl with | [_, _, _], _ => rfl) (fun _ => rfl) (fun cdv A outer s H E hr hu => ⟨_, (pss_cons (ps_set (i := 3) sc_Front_go_on.nd rfl (by first | exact .inl rfl | exact .inr rfl) (pe_bm0 PySem.F.plainAttrs_list PySem.F.slot_list_pop PySem.F.type_list_pop mt_pop (pe_fld (pv 0) (by rfl))))
    (pss_one (ps_if (pt_cmpR op_eq (pe_ix ix_tup (pv 1) pe_int (fun _ _ => rfl)) pe_str (nomark _)) (pss_cons (ps_expr (pe_bm PySem.F.plainAttrs_list PySem.F.slot_list_append PySem.F.type_list_append mt_append (pe_fld (pv 0) (by rfl)) (pa_cons (pe_op op_catS (pe_lst (pa_cons (pe_ix ix_list (pv 3) pe_int (fun _ _ => rfl)) (pa_cons (pv 2) pa_nil))) (pe_slice sl_list (pv 3) (po_some pe_int) po_none)) pa_nil)))
    (pss_one (ps_fld (pv 0) (pe_op op_add (pe_fld (pv 0) (by rfl)) pe_int) (by rfl)))) (pss_one (ps_if (pt_cmpR op_eq (pe_ix ix_tup (pv 1) pe_int (fun _ _ => rfl)) pe_str (nomark _)) (pss_one (ps_expr (pe_bm PySem.F.plainAttrs_list PySem.F.slot_list_append PySem.F.type_list_append mt_append (pe_fld (pv 0) (by rfl)) (pa_cons (pe_op op_catS (pe_lst (pa_cons (pe_ix ix_list (pv 3) pe_int (fun _ _ => rfl)) pa_nil)) (pe_slice sl_list (pv 3) (po_some pe_int) po_none)) pa_nil)))) (pss_one (ps_if (pt_cmpR op_eq (pe_ix ix_tup (pv 1) pe_int (fun _ _ => rfl)) pe_str (nomark _)) (pss_one (ps_expr (pe_bm PySem.F.plainAttrs_list PySem.F.slot_list_append PySem.F.type_list_append mt_append (pe_fld (pv 0) (by rfl)) (pa_cons (pe_op op_catS (pe_lst (pa_cons (pv 2) pa_nil)) (pe_slice sl_list (pv 3) (po_some pe_int) (po_some (pe_un un_neg pe_int)))) pa_nil)))) (pss_one (ps_if (pt_cmpR op_eq (pe_ix ix_tup (pv 1) pe_int (fun _ _ => rfl)) pe_str (nomark _)) (pss_one (ps_expr (pe_clM c_Front_part T.cFront hr hu (by omega) tkN (pv 0) (pa_cons (pv 1) (pa_cons (pv 3) pa_nil))))) pss_nil))))))))), ?_⟩)
  rintro ⟨⟨q, I, l, m, k, n⟩, t, x⟩ ⟨sm, ht⟩ Zf ee hE hx
  try dsimp only [cxOf]
  dsimp only at sm ht
  have hcF := T.cFront
  have na1 := T.n_rows
  have na4 := T.n_many
  have h2 := sm.two
  have hi := sm.ni
  have hl := sm.nl
  show Sd _ _ ⟨[some (.ref q.f), some t.d, some (.int x), none], [_, (q.r, .lst (rowsD (I ++ [l]))), _, _]⟩ _
  rw [rows_app]
  refine s_seq (s_set (e_pop ?_))
  repeat tb_rel
  refine ⟨_, _, _, _, rfl, (by (repeat (first | exact Sl.Rp.z | apply Sl.Rp.s))), ?_⟩
  show Sd _ _ ⟨[some (.ref q.f), some t.d, some (.int x), some (intsD l)], Fr.C ⟨q, I, m, k, n⟩⟩ _
  have fin : ∀ {g : List (Option Sl.D)} {X : List Sl.D}, X = rowsD (step I l x t) → ee.nx ⟨g, [(q.f, .ins "Front" (frF q (more n t))), (q.r, .lst X), (q.m, .lst (madeD m)), (q.c, .dt k)]⟩ := fun {g X} e => by
    subst e
    exact hE.nx (cs' := Fr.C ⟨q, step I l x t, m, k, more n t⟩) (r := []) (by (repeat (first | exact Sl.Take.nil | (apply Sl.Take.cons; (repeat (first | exact Sl.Rm.z | apply Sl.Rm.s)))))) ⟨rfl, rfl⟩
  cases t with
  | C =>
    simp only [Lt.d]
    repeat tb_rel
    refine o_ixLs .fz (ints_at (k := 0) (by omega)) ?_
    repeat tb_rel
    rw [cut_1, ← List.map_drop]
    refine o_catLs .fz .fz (by simp; omega) ?_
    refine ⟨_, _, ?_, (by (repeat (first | exact Sl.Rp.z | apply Sl.Rp.s))), ?_⟩
    · show (rowsD I).length < 100000
      rw [List.length_map]; omega
    repeat tb_rel
    refine fin ?_
    simp only [step, rows_app]
    rfl
  | R =>
    simp only [Lt.d]
    repeat tb_rel
    refine o_ixLs .fz (ints_at (k := 0) (by omega)) ?_
    repeat tb_rel
    rw [cut_2, ← List.map_drop]
    refine o_catLs .fz .fz (by simp; omega) ?_
    refine ⟨_, _, ?_, (by (repeat (first | exact Sl.Rp.z | apply Sl.Rp.s))), ?_⟩
    · show (rowsD I).length < 100000
      rw [List.length_map]; omega
    refine fin ?_
    simp only [step, rows_app]
    rfl
  | L =>
    simp only [Lt.d]
    repeat tb_rel
    rw [cut_1n (by simp; omega), ← List.map_drop, ← List.map_dropLast]
    refine o_catLs .fz .fz (by simp; omega) ?_
    refine ⟨_, _, ?_, (by (repeat (first | exact Sl.Rp.z | apply Sl.Rp.s))), ?_⟩
    · show (rowsD I).length < 100000
      rw [List.length_map]; omega
    refine fin ?_
    simp only [step, rows_app]
    rfl
  | E =>
    simp only [Lt.d]
    repeat tb_rel
    exact fin rfl
  | S j kk =>
    simp only [Lt.d]
    repeat tb_rel
    refine ⟨(⟨q, I, l, m, k, n⟩, j, kk, x), _, rfl, (by (repeat (first | exact Sl.Take.nil | (apply Sl.Take.cons; (repeat (first | exact Sl.Rm.z | apply Sl.Rm.s)))))), ⟨sm, ht⟩, ?_⟩
    rintro out cs ⟨rfl, rfl⟩
    exact fin rfl
end
end K32

set_option Elab.async false
set_option linter.all false
set_option autoImplicit false
set_option maxRecDepth 100000
set_option maxHeartbeats 400000
namespace K32
open PySem PySem.Spec PyProof.Rows L2 Px Sl
local macro_rules
  | `(tactic| tb_rel) => `(tactic| first
    | with_reducible refine s_forI ?_
    | with_reducible refine s_for ?_
    | with_reducible refine s_seq ?_
    | with_reducible refine s_if ?_
    | with_reducible refine s_next ?_
    | with_reducible refine s_brk ?_
    | with_reducible refine s_cont ?_
    | with_reducible refine s_retN ?_
    | with_reducible refine s_asgT ?_
    | with_reducible refine s_asgL ?_
    | with_reducible refine s_drop ?_
    | with_reducible refine s_dput ?_
    | with_reducible refine s_setIA ?_
    | with_reducible refine t_test ?_
    | with_reducible refine t_B ?_
    | with_reducible refine t_yes ?_
    | with_reducible refine t_and ?_
    | with_reducible refine t_or ?_
    | with_reducible refine t_not ?_
    | with_reducible refine e_op ?_
    | with_reducible refine e_isi ?_
    | with_reducible refine e_extN ?_
    | with_reducible refine e_appA ?_
    | with_reducible refine e_popAtA ?_
    | with_reducible refine e_cb ?_
    | with_reducible refine e_lst ?_
    | with_reducible refine e_tup ?_
    | with_reducible refine e_neg ?_
    | with_reducible refine e_int ?_
    | with_reducible refine e_str ?_
    | with_reducible refine e_bl ?_
    | with_reducible refine e_non ?_
    | with_reducible refine e_din ?_
    | with_reducible refine e_andV ?_
    | with_reducible refine e_orV ?_
    | with_reducible refine e_slLs ?_
    | with_reducible refine e_slT ?_
    | with_reducible refine e_chain ?_
    | with_reducible refine a_cons ?_
    | with_reducible refine a_nil ?_
    | with_reducible refine o_no ?_
    | with_reducible refine o_so ?_
    | with_reducible refine i_range1 ?_
    | with_reducible refine i_list ?_
    | with_reducible refine i_tup ?_
    | with_reducible refine i_enum ?_
    | with_reducible refine i_enumRev ?_
    | with_reducible refine g_name ?_
    | with_reducible refine gs_cons ?_
    | with_reducible refine gs_nil ?_
    | with_reducible refine o_int ?_
    | with_reducible refine o_bool ?_
    | with_reducible refine o_eqI ?_
    | with_reducible refine o_neI ?_
    | with_reducible refine o_eqS ?_
    | with_reducible refine o_neS ?_
    | with_reducible refine o_isN ?_
    | with_reducible refine o_notN ?_
    | with_reducible refine c_lenT ?_
    | with_reducible refine c_intB ?_
    | with_reducible refine c_min2 ?_
    | with_reducible refine c_max2 ?_
    | ((fail_if_success (with_reducible refine e_notV (e_cb (a_cons (e_lc ?_ ?_))))); (with_reducible refine e_notV ?_))
    | ((fail_if_success (with_reducible refine s_ret (e_lst ?_))); (fail_if_success (with_reducible refine s_ret (e_lc ?_ ?_))); (with_reducible refine s_ret ?_))
    | ((fail_if_success (with_reducible refine s_set (e_lst ?_))); (fail_if_success (with_reducible refine s_set (e_lc ?_ ?_))); (with_reducible refine s_set ?_))
    | ((with_reducible apply e_var); exact rfl)
    | with_reducible refine e_callG rfl ?_
    | with_reducible refine e_methG rfl ?_
    | with_reducible refine e_makeG rfl ?_
    | refine e_fld rfl (by assumption) (by assumption) ?_
    | refine s_fldA rfl (by assumption) (by assumption) ?_
    | refine o_ixT (by rfl) ?_
    | refine c_lenLs (by (first | exact Sl.LsOf.fz | exact Sl.LsOf.ce (by (repeat (first | exact Sl.At.z | apply Sl.At.s))))) ?_
    | ((with_reducible refine g_tup ?_ ?_); exact rfl)
    | with_reducible refine ⟨_, rfl, ?_⟩
    | with_reducible refine ⟨_, _, rfl, rfl, ?_⟩
    | with_reducible refine ⟨_, LsOf.fz, ?_⟩
    | refine ⟨_, _, _, _, rfl, (by (repeat (first | exact Sl.At.z | apply Sl.At.s))), (by (repeat (first | exact Sl.Lk.z | (apply Sl.Lk.s; decide +kernel)))), ?_⟩
    | refine ⟨_, _, _, rfl, (by (repeat (first | exact Sl.At.z | apply Sl.At.s))), (by rfl), ?_⟩
    | refine ⟨_, _, _, rfl, (by (repeat (first | exact Sl.At.z | apply Sl.At.s))), ?_⟩
    | refine ⟨⟨_, _, _, rfl, (by (repeat (first | exact Sl.At.z | apply Sl.At.s)))⟩, ?_⟩
    | refine ⟨_, _, _, rfl, (by (repeat (first | exact Sl.Rp.z | apply Sl.Rp.s))), (by exact Nat.le_of_ble_eq_true rfl), (by exact Nat.le_of_ble_eq_true rfl), ?_⟩
    | refine ⟨_, (by (first | exact Sl.LsOf.fz | exact Sl.LsOf.ce (by (repeat (first | exact Sl.At.z | apply Sl.At.s))))), ?_⟩
    | refine ⟨_, _, (by (first | exact Sl.LsAs.fz | exact Sl.LsAs.ce (by (repeat (first | exact Sl.At.z | apply Sl.At.s))))), ?_⟩
    | refine o_ixLs (by (first | exact Sl.LsOf.fz | exact Sl.LsOf.ce (by (repeat (first | exact Sl.At.z | apply Sl.At.s))))) (by rfl) ?_
    | refine ⟨_, _, _, _, _, rfl, rfl, (by (repeat (first | exact Sl.At.z | apply Sl.At.s))), ?_⟩
    | refine ⟨_, _, _, _, _, _, rfl, rfl, (by (repeat (first | exact Sl.At.z | apply Sl.At.s))), (by rfl), (by (repeat (first | exact Sl.Rp.z | apply Sl.Rp.s))), ?_⟩
    | refine ⟨_, _, _, _, _, rfl, (by (repeat (first | exact Sl.At.z | apply Sl.At.s))), (by (repeat (first | exact Sl.Pf.n | exact Sl.Pf.z | (apply Sl.Pf.s; decide +kernel)))), (by exact Nat.le_of_ble_eq_true rfl), (by (repeat (first | exact Sl.Rp.z | apply Sl.Rp.s))), ?_⟩
    | ((with_reducible refine And.intro ?_ ?_); exact Nat.le_of_ble_eq_true rfl)
    | with_reducible refine e_gref ?_
    | refine o_inT (by rfl) (by rfl) ?_
    | refine ⟨_, true, rfl, kit_ty (by decide +kernel), ?_⟩
    | refine ⟨_, false, rfl, kit_ty (by decide +kernel), ?_⟩
    | refine ⟨fun _ => ?_, fun hb => absurd hb (by decide +kernel)⟩
    | refine ⟨fun hb => absurd hb (by decide +kernel), fun _ => ?_⟩
    | refine ⟨fun _ => ?_, fun hb => ctT (by rfl) hb⟩
    | refine ⟨fun hb => ctT (by rfl) hb, fun _ => ?_⟩
    | refine ⟨fun _ => ?_, fun hb => ctF (by rfl) hb⟩
    | refine ⟨fun hb => ctF (by rfl) hb, fun _ => ?_⟩
    | fail)
theorem len_le_sum {L : List (List Int)} {l : List Int} (h : l ∈ L) : l.length ≤ (L.map List.length).sum := by
  induction L with
  | nil => cases h
  | cons a L ih =>
    rw [List.map_cons, List.sum_cons]
    rcases List.mem_cons.mp h with rfl | h
    · omega
    · have := ih h; omega
theorem count_le_sum {L : List (List Int)} (h : ∀ l ∈ L, 2 ≤ l.length) : 2 * L.length ≤ (L.map List.length).sum := by
  induction L with
  | nil => simp
  | cons a L ih =>
    rw [List.map_cons, List.sum_cons, List.length_cons]
    have := ih fun l hl => h l (List.mem_cons_of_mem _ hl)
    have := h a List.mem_cons_self
    omega
theorem sm_of {I : List (List Int)} {l : List Int} {m : List Tri} {n : Int} (o : Ok (I ++ [l]) m n) (hm : m.length ≤ 900) : Sm I l := by
  have ht := o.tot
  refine ⟨?_, fun o' ho => ?_, ?_, o.len l (by simp)⟩
  · have := count_le_sum o.len
    rw [List.length_append] at this
    omega
  · have := len_le_sum (L := I ++ [l]) (l := o') (by simp [ho])
    omega
  · have := len_le_sum (L := I ++ [l]) (l := l) (by simp)
    omega
abbrev tri (l : List Int) (x : Int) : Tri := (l.getD 0 0, l.getD 1 0, x)
/-- what is refused -/
def Ref (L : List (List Int)) (m : List Tri) (n : Int) (d : D) : Prop := isLe d = false ∨ L = [] ∨ ∃ (t : Lt) (I : List (List Int)) (l : List Int), d = t.d ∧ L = I ++ [l] ∧ can I l m n t = none
abbrev PG := (FL × Lt × Int) ⊕ (Fr × D)
def putA : PG → List D
  | .inl g => [.ref g.1.q.f, g.2.1.d]
  | .inr g => [.ref g.1.q.f, g.2]
def putC : PG → Cs
  | .inl g => g.1.F.C
  | .inr g => g.1.C
def putP : PG → Prop
  | .inl g => Ok g.1.F.L g.1.m g.1.n ∧ can g.1.I g.1.l g.1.m g.1.n g.2.1 = some g.2.2 ∧ Closed g.1.k g.1.m ∧ g.1.m.length ≤ 900
  | .inr g => Ok g.1.L g.1.m g.1.n ∧ Closed g.1.k g.1.m ∧ g.1.m.length ≤ 900 ∧ Th g.2 ∧ Ref g.1.L g.1.m g.1.n g.2
def putR : PG → Out → Cs → Prop
  | .inl g, out, cs => ∃ k', Closed k' (g.1.m ++ [tri g.1.l g.2.2]) ∧ out = .ret (triD (tri g.1.l g.2.2)) ∧ cs = Fr.C ⟨g.1.q, step g.1.I g.1.l g.2.2 g.2.1, g.1.m ++ [tri g.1.l g.2.2], k', more g.1.n g.2.1⟩
  | .inr g, out, cs => out = .exc "NoLetter" ∧ cs = g.1.C
abbrev spPut (K : PySem.W.Frag) : Sp := SpG K putA putC putP putR
theorem th_lt (t : Lt) : Th t.d := by
  cases t with
  | S j k =>
    intro e he
    simp at he
    rcases he with rfl | rfl | rfl
    · exact ⟨_, rfl⟩
    · exact ⟨_, rfl⟩
    · exact ⟨_, rfl⟩
  | _ =>
    intro e he
    simp at he
    subst he
    exact ⟨_, rfl⟩
theorem le_lt (t : Lt) : isLe t.d = true := by
  cases t with
  | S j k => simp [Lt.d, isLe, isCo]
  | _ => simp only [Lt.d, isLe]; decide +kernel
theorem cannot_stand {I : List (List Int)} {l : List Int} {m : List Tri} {n x : Int} {t : Lt} (h : can I l m n t = none) (h3 : third I l n t = some x) : (decide (x = l.getD 0 0) || decide (x = l.getD 1 0) || (asked (l.getD 0 0) (l.getD 1 0) x t).any fun s => decide (s ∈ sides m)) = true := by
  unfold can at h
  rw [h3] at h
  simp only at h
  split at h
  · rename_i hn
    rcases hn with h | h | h
    · rw [decide_eq_true h]; rfl
    · rw [decide_eq_true h, Bool.or_true]; rfl
    · rw [h, Bool.or_true]
  · cases h
theorem can_stand {I : List (List Int)} {l : List Int} {m : List Tri} {n x : Int} {t : Lt} (h : can I l m n t = some x) : (decide (x = l.getD 0 0) || decide (x = l.getD 1 0) || (asked (l.getD 0 0) (l.getD 1 0) x t).any fun s => decide (s ∈ sides m)) = false := by
  have h3 := third_of_can h
  unfold can at h
  rw [h3] at h
  simp only at h
  split at h
  · cases h
  · rename_i hn
    rw [Bool.eq_false_iff]
    intro z
    apply hn
    rcases Bool.or_eq_true_iff.mp z with z | z
    · rcases Bool.or_eq_true_iff.mp z with z | z
      · exact .inl (of_decide_eq_true z)
      · exact .inr (.inl (of_decide_eq_true z))
    · exact .inr (.inr z)
section
variable {P : Program} {w : World} {K : PySem.W.Frag} {mg : Str → Option Value} {base : Heap}
theorem cl_put (T : Tx K mg) (D : Md K "Front" "put" "Front.put" s_Front_put) (c_is_letter : Cl P w K mg base 2 "is_letter" (spLetter K)) (c_sides_of : Cl P w K mg base 1 "sides_of" (spSides K)) (c_Front_gate : ClM P w K mg base 1 "Front" "gate" (spGate K)) (c_Front_third_of : ClM P w K mg base 2 "Front" "third_of" (spThirdOf K)) (c_Front_may_stand : ClM P w K mg base 2 "Front" "may_stand" (spStand K)) (c_Front_go_on : ClM P w K mg base 2 "Front" "go_on" (spGo K)) : ClM P w K mg base 3 "Front" "put" (spPut K) := by
  refine mk_clM D.1 D.2.1 D.2.2 sc_Front_put (fun _ _ _ _ _ _ us hl => match us, hl with | [_, _], _ => rfl) (fun g => by cases g <;> rfl) (fun cdv A outer s H E hr hu => ⟨_, (pss_cons (ps_if (PW.pt (pw_or (pt_not (pt_val (pe_cl c_is_letter hr hu (by omega) (by rfl) (L2N.takes_of rfl rfl rfl rfl) (pa_cons (pv 1) pa_nil)))) (pw_or1 (pt_cmpR (op_eqD hr.units) (pe_fld (pv 0) (by rfl)) (pe_lst pa_nil) (nomark _))))) (pss_one (L2N.ps_raise rfl (L2N.takes_of rfl rfl rfl rfl) (L2N.pmk_own PySem.F.excBase_ValueError T.x_NoLetter T.g_NoLetter T.k_NoLetter (raises_own T.b_NoLetter T.t_NoLetter) (by rfl)))) pss_nil)
    (pss_cons (ps_set (i := 2) sc_Front_put.nd rfl (by first | exact .inl rfl | exact .inr rfl) (pe_clM c_Front_third_of T.cFront hr hu (by omega) (L2N.takes_of rfl rfl rfl rfl) (pv 0) (pa_cons (pv 1) pa_nil)))
    (pss_cons (ps_if (PW.pt (pw_or (pt_cmpR op_isN (pv 2) pe_non (nomark _)) (pw_or1 (pt_not (pt_val (pe_clM c_Front_may_stand T.cFront hr hu (by omega) (L2N.takes_of rfl rfl rfl rfl) (pv 0) (pa_cons (pv 1) (pa_cons (pv 2) pa_nil)))))))) (pss_one (L2N.ps_raise rfl (L2N.takes_of rfl rfl rfl rfl) (L2N.pmk_own PySem.F.excBase_ValueError T.x_NoLetter T.g_NoLetter T.k_NoLetter (raises_own T.b_NoLetter T.t_NoLetter) (by rfl)))) pss_nil)
    (pss_cons (ps_set (i := 3) sc_Front_put.nd rfl (by first | exact .inl rfl | exact .inr rfl) (pe_op op_catA (pe_clM0 c_Front_gate T.cFront hr hu (by omega) (L2N.takes_of rfl rfl rfl rfl) (pv 0)) (pe_tup (pa_cons (pv 2) pa_nil))))
    (pss_cons (ps_expr (pe_clM c_Front_go_on T.cFront hr hu (by omega) (L2N.takes_of rfl rfl rfl rfl) (pv 0) (pa_cons (pv 1) (pa_cons (pv 2) pa_nil))))
    (pss_cons (ps_expr (pe_bm PySem.F.plainAttrs_list PySem.F.slot_list_append PySem.F.type_list_append mt_append (pe_fld (pv 0) (by rfl)) (pa_cons (pv 3) pa_nil)))
    (pss_cons (ps_for PassesOwn.leaving rfl (pi_list (pe_cl c_sides_of hr hu (by omega) (by rfl) (L2N.takes_of rfl rfl rfl rfl) (pa_cons (pv 3) pa_nil))) (pg_name (i := 4) sc_Front_put.nd rfl (by first | exact Or.inl rfl | exact Or.inr rfl)) (pss_one (ps_dput (units1 hr.units) (pe_fld (pv 0) (by rfl)) (pv 4) pe_bl (by rfl))))
    (pss_one (ps_ret (pv 3)))))))))), ?_⟩)
  rintro (⟨⟨q, I, l, m, k, n⟩, t, x⟩ | ⟨⟨q, L, m, k, n⟩, d⟩) pre Zf ee hE hx
  case inr =>
    try dsimp only [cxOf]
    obtain ⟨ok, hk, hm, th, rf⟩ := pre
    dsimp only at ok hk hm th rf
    have hcF := T.cFront
    have na1 := T.n_rows
    show Sd _ _ ⟨[some (.ref q.f), some d, none, none, none], Fr.C ⟨q, L, m, k, n⟩⟩ _
    have no : ∀ {Γ : Sy} {r : Cs}, Take (Fr.C ⟨q, L, m, k, n⟩) Γ.c r → Xw _ (fun cls d _ H => E cls d H) "NoLetter" Γ := fun {Γ r} tk => hx "NoLetter" Γ _ r tk ⟨rfl, rfl⟩
    repeat tb_rel
    refine ⟨d, _, rfl, .nil, th, ?_⟩
    rintro out cs ⟨rfl, rfl⟩
    cases hd : isLe d with
    | false =>
      repeat tb_rel
      exact s_raise (no (by (repeat (first | exact Sl.Take.nil | (apply Sl.Take.cons; (repeat (first | exact Sl.Rm.z | apply Sl.Rm.s)))))))
    | true =>
      repeat tb_rel
      refine o_eqNil (by (first | exact Sl.LsOf.fz | exact Sl.LsOf.ce (by (repeat (first | exact Sl.At.z | apply Sl.At.s))))) rows_pd (rows_shp.mono (by decide)) ?_
      repeat tb_rel
      rcases List.eq_nil_or_concat L with rfl | ⟨I, l, rfl⟩
      · repeat tb_rel
        exact s_raise (no (by (repeat (first | exact Sl.Take.nil | (apply Sl.Take.cons; (repeat (first | exact Sl.Rm.z | apply Sl.Rm.s)))))))
      · rw [List.concat_eq_append] at *
        have hne : (rowsD (I ++ [l])).isEmpty = false := by simp
        obtain ⟨t, rfl, hc⟩ : ∃ t : Lt, d = t.d ∧ can I l m n t = none := by
          rcases rf with z | z | ⟨t, I', l', e1, e2, e3⟩
          · rw [hd] at z; cases z
          · simp at z
          · obtain ⟨rfl, e4⟩ := List.append_inj' e2 rfl
            cases e4
            exact ⟨t, e1, e3⟩
        refine ⟨fun hb => absurd (hb.symm.trans hne) (by decide), fun _ => ?_⟩
        repeat tb_rel
        refine ⟨(⟨q, I, l, m, k, n⟩, t), _, rfl, (by (repeat (first | exact Sl.Take.nil | (apply Sl.Take.cons; (repeat (first | exact Sl.Rm.z | apply Sl.Rm.s)))))), trivial, ?_⟩
        rintro out cs ⟨rfl, rfl⟩
        dsimp only
        cases h3 : third I l n t with
        | none =>
          simp only [optD]
          repeat tb_rel
          exact s_raise (no (by (repeat (first | exact Sl.Take.nil | (apply Sl.Take.cons; (repeat (first | exact Sl.Rm.z | apply Sl.Rm.s)))))))
        | some x =>
          simp only [optD]
          repeat tb_rel
          refine ⟨(⟨q, I, l, m, k, n⟩, t, x), _, rfl, (by (repeat (first | exact Sl.Take.nil | (apply Sl.Take.cons; (repeat (first | exact Sl.Rm.z | apply Sl.Rm.s)))))), ⟨ok.len, hk⟩, ?_⟩
          rintro out cs ⟨rfl, rfl⟩
          dsimp only
          rw [cannot_stand hc h3]
          repeat tb_rel
          exact s_raise (no (by (repeat (first | exact Sl.Take.nil | (apply Sl.Take.cons; (repeat (first | exact Sl.Rm.z | apply Sl.Rm.s)))))))
  obtain ⟨ok, hc, hk, hm⟩ := pre
  try dsimp only [cxOf]
  dsimp only at ok hc hk hm
  have hcF := T.cFront
  have na1 := T.n_rows
  have na2 := T.n_made
  have na3 := T.n_closed
  have h3 := third_of_can hc
  have sm := sm_of ok hm
  show Sd _ _ ⟨[some (.ref q.f), some t.d, none, none, none], Fr.C ⟨q, I ++ [l], m, k, n⟩⟩ _
  repeat tb_rel
  refine ⟨t.d, _, rfl, .nil, th_lt t, ?_⟩
  rintro out cs ⟨rfl, rfl⟩
  dsimp only
  rw [le_lt]
  repeat tb_rel
  refine o_eqNil (by (first | exact Sl.LsOf.fz | exact Sl.LsOf.ce (by (repeat (first | exact Sl.At.z | apply Sl.At.s))))) rows_pd (rows_shp.mono (by decide)) ?_
  repeat tb_rel
  have hne : (rowsD (I ++ [l])).isEmpty = false := by simp
  refine ⟨fun hb => absurd (hb.symm.trans hne) (by decide), fun _ => ?_⟩
  repeat tb_rel
  refine ⟨(⟨q, I, l, m, k, n⟩, t), _, rfl, (by (repeat (first | exact Sl.Take.nil | (apply Sl.Take.cons; (repeat (first | exact Sl.Rm.z | apply Sl.Rm.s)))))), trivial, ?_⟩
  rintro out cs ⟨rfl, rfl⟩
  dsimp only
  rw [h3]
  simp only [optD]
  repeat tb_rel
  refine ⟨(⟨q, I, l, m, k, n⟩, t, x), _, rfl, (by (repeat (first | exact Sl.Take.nil | (apply Sl.Take.cons; (repeat (first | exact Sl.Rm.z | apply Sl.Rm.s)))))), ⟨ok.len, hk⟩, ?_⟩
  rintro out cs ⟨rfl, rfl⟩
  dsimp only
  rw [can_stand hc]
  repeat tb_rel
  refine ⟨⟨q, I ++ [l], m, k, n⟩, _, rfl, (by (repeat (first | exact Sl.Take.nil | (apply Sl.Take.cons; (repeat (first | exact Sl.Rm.z | apply Sl.Rm.s)))))), ok.len, ?_⟩
  rintro out cs ⟨rfl, rfl⟩
  dsimp only
  rw [gate_last]
  repeat tb_rel
  refine o_catA (by simp) (by simp) (by simp) ?_
  repeat tb_rel
  refine ⟨(⟨q, I, l, m, k, n⟩, t, x), _, rfl, (by (repeat (first | exact Sl.Take.nil | (apply Sl.Take.cons; (repeat (first | exact Sl.Rm.z | apply Sl.Rm.s)))))), ⟨sm, h3⟩, ?_⟩
  rintro out cs ⟨rfl, rfl⟩
  repeat tb_rel
  refine ⟨_, _, ?_, (by (repeat (first | exact Sl.Rp.z | apply Sl.Rp.s))), ?_⟩
  · show (madeD m).length < 100000
    rw [List.length_map]; omega
  repeat tb_rel
  refine ⟨tri l x, _, rfl, .nil, trivial, ?_⟩
  rintro out cs ⟨rfl, rfl⟩
  repeat tb_rel
  refine for_by (fun i Γ' => ∃ (k' : Kvs) (u : Option Sl.D), (∀ a b, hasD k' (kP a b) = (decide ((a, b) ∈ sides m) || decide ((a, b) ∈ (sides [tri l x]).take i))) ∧ k'.length ≤ k.length + i ∧ Γ' = ⟨[some (.ref q.f), some t.d, some (.int x), some (triD (tri l x)), u], Fr.C ⟨q, step I l x t, m ++ [tri l x], k', more n t⟩⟩) ?_ (fun _ _ _ => trivial) ?_ ?_
  · refine ⟨k, none, fun a b => by rw [hk.1 a b]; simp, Nat.le_refl _, ?_⟩
    have e : madeD (m ++ [tri l x]) = madeD m ++ [triD (tri l x)] := List.map_append
    show _ = Sy.mk _ [_, _, (q.m, HD.lst (madeD (m ++ [tri l x]))), _]
    rw [e]
    rfl
  · rintro i d Γ' hd ⟨k', u, h1, h2, rfl⟩
    obtain ⟨a, b, rfl, hab⟩ : ∃ a b, d = .tuple [.int a, .int b] ∧ (sides [tri l x])[i]? = some (a, b) := by
      match i, hd with
      | 0, hd => cases hd; exact ⟨_, _, rfl, rfl⟩
      | 1, hd => cases hd; exact ⟨_, _, rfl, rfl⟩
      | 2, hd => cases hd; exact ⟨_, _, rfl, rfl⟩
    repeat tb_rel
    refine ⟨_, _, _, _, _, rfl, rfl, ?_, (by (repeat (first | exact Sl.Rp.z | apply Sl.Rp.s))), ?_⟩
    · show k'.length < 100000
      have := hk.2
      have hi : i < 3 := (List.getElem?_eq_some_iff.mp hd).1
      omega
    refine ⟨putD k' (kP a b) (.bool true), some (.tuple [.int a, .int b]), fun a' b' => ?_, ?_, rfl⟩
    · rw [has_put, h1]
      obtain ⟨hi, e⟩ := List.getElem?_eq_some_iff.mp hab
      rw [List.take_succ_eq_append_getElem hi, e]
      rw [Bool.eq_iff_iff]
      simp [kP]
      constructor
      · rintro (⟨rfl, rfl⟩ | h | h)
        · exact .inr (.inr ⟨rfl, rfl⟩)
        · exact .inl h
        · exact .inr (.inl h)
      · rintro (h | h | ⟨rfl, rfl⟩)
        · exact .inr (.inl h)
        · exact .inr (.inr h)
        · exact .inl ⟨rfl, rfl⟩
    · exact Nat.le_trans put_len (by omega)
  · rintro Γ' ⟨k', u, h1, h2, rfl⟩
    repeat tb_rel
    refine hE.rt (cs' := Fr.C ⟨q, step I l x t, m ++ [tri l x], k', more n t⟩) (r := []) (by (repeat (first | exact Sl.Take.nil | (apply Sl.Take.cons; (repeat (first | exact Sl.Rm.z | apply Sl.Rm.s)))))) ⟨k', ⟨fun a b => ?_, ?_⟩, rfl, rfl⟩
    · rw [h1 a b]
      have e : sides (m ++ [tri l x]) = sides m ++ sides [tri l x] := by simp [sides]
      rw [e, Bool.eq_iff_iff]
      have e2 : (sides [tri l x]).take [Sl.D.tuple [.int (tri l x).1, .int (tri l x).2.1], Sl.D.tuple [.int (tri l x).2.1, .int (tri l x).2.2], Sl.D.tuple [.int (tri l x).2.2, .int (tri l x).1]].length = sides [tri l x] := rfl
      rw [e2]
      simp
    · have := hk.2
      have h2' : k'.length ≤ k.length + 3 := h2
      simp
      omega
end
end K32

set_option Elab.async false
set_option linter.all false
set_option autoImplicit false
set_option maxRecDepth 100000
set_option maxHeartbeats 400000
namespace K32
open PySem PySem.Spec PyProof.Rows L2 Px Sl
local macro_rules
  | `(tactic| tb_rel) => `(tactic| first
    | with_reducible refine s_forI ?_
    | with_reducible refine s_for ?_
    | with_reducible refine s_seq ?_
    | with_reducible refine s_if ?_
    | with_reducible refine s_next ?_
    | with_reducible refine s_brk ?_
    | with_reducible refine s_cont ?_
    | with_reducible refine s_retN ?_
    | with_reducible refine s_asgT ?_
    | with_reducible refine s_asgL ?_
    | with_reducible refine s_drop ?_
    | with_reducible refine s_dput ?_
    | with_reducible refine s_setIA ?_
    | with_reducible refine t_test ?_
    | with_reducible refine t_B ?_
    | with_reducible refine t_yes ?_
    | with_reducible refine t_and ?_
    | with_reducible refine t_or ?_
    | with_reducible refine t_not ?_
    | with_reducible refine e_op ?_
    | with_reducible refine e_isi ?_
    | with_reducible refine e_extN ?_
    | with_reducible refine e_appA ?_
    | with_reducible refine e_popAtA ?_
    | with_reducible refine e_cb ?_
    | with_reducible refine e_lst ?_
    | with_reducible refine e_tup ?_
    | with_reducible refine e_neg ?_
    | with_reducible refine e_int ?_
    | with_reducible refine e_str ?_
    | with_reducible refine e_bl ?_
    | with_reducible refine e_non ?_
    | with_reducible refine e_din ?_
    | with_reducible refine e_andV ?_
    | with_reducible refine e_orV ?_
    | with_reducible refine e_slLs ?_
    | with_reducible refine e_slT ?_
    | with_reducible refine e_chain ?_
    | with_reducible refine a_cons ?_
    | with_reducible refine a_nil ?_
    | with_reducible refine o_no ?_
    | with_reducible refine o_so ?_
    | with_reducible refine i_range1 ?_
    | with_reducible refine i_list ?_
    | with_reducible refine i_tup ?_
    | with_reducible refine i_enum ?_
    | with_reducible refine i_enumRev ?_
    | with_reducible refine g_name ?_
    | with_reducible refine gs_cons ?_
    | with_reducible refine gs_nil ?_
    | with_reducible refine o_int ?_
    | with_reducible refine o_bool ?_
    | with_reducible refine o_eqI ?_
    | with_reducible refine o_neI ?_
    | with_reducible refine o_eqS ?_
    | with_reducible refine o_neS ?_
    | with_reducible refine o_isN ?_
    | with_reducible refine o_notN ?_
    | with_reducible refine c_lenT ?_
    | with_reducible refine c_intB ?_
    | with_reducible refine c_min2 ?_
    | with_reducible refine c_max2 ?_
    | ((fail_if_success (with_reducible refine e_notV (e_cb (a_cons (e_lc ?_ ?_))))); (with_reducible refine e_notV ?_))
    | ((fail_if_success (with_reducible refine s_ret (e_lst ?_))); (fail_if_success (with_reducible refine s_ret (e_lc ?_ ?_))); (with_reducible refine s_ret ?_))
    | ((fail_if_success (with_reducible refine s_set (e_lst ?_))); (fail_if_success (with_reducible refine s_set (e_lc ?_ ?_))); (with_reducible refine s_set ?_))
    | ((with_reducible apply e_var); exact rfl)
    | with_reducible refine e_callG rfl ?_
    | with_reducible refine e_methG rfl ?_
    | with_reducible refine e_makeG rfl ?_
    | refine e_fld rfl (by assumption) (by assumption) ?_
    | refine s_fldA rfl (by assumption) (by assumption) ?_
    | refine o_ixT (by rfl) ?_
    | refine c_lenLs (by (first | exact Sl.LsOf.fz | exact Sl.LsOf.ce (by (repeat (first | exact Sl.At.z | apply Sl.At.s))))) ?_
    | ((with_reducible refine g_tup ?_ ?_); exact rfl)
    | with_reducible refine ⟨_, rfl, ?_⟩
    | with_reducible refine ⟨_, _, rfl, rfl, ?_⟩
    | with_reducible refine ⟨_, LsOf.fz, ?_⟩
    | refine ⟨_, _, _, _, rfl, (by (repeat (first | exact Sl.At.z | apply Sl.At.s))), (by (repeat (first | exact Sl.Lk.z | (apply Sl.Lk.s; decide +kernel)))), ?_⟩
    | refine ⟨_, _, _, rfl, (by (repeat (first | exact Sl.At.z | apply Sl.At.s))), (by rfl), ?_⟩
    | refine ⟨_, _, _, rfl, (by (repeat (first | exact Sl.At.z | apply Sl.At.s))), ?_⟩
    | refine ⟨⟨_, _, _, rfl, (by (repeat (first | exact Sl.At.z | apply Sl.At.s)))⟩, ?_⟩
    | refine ⟨_, _, _, rfl, (by (repeat (first | exact Sl.Rp.z | apply Sl.Rp.s))), (by exact Nat.le_of_ble_eq_true rfl), (by exact Nat.le_of_ble_eq_true rfl), ?_⟩
    | refine ⟨_, (by (first | exact Sl.LsOf.fz | exact Sl.LsOf.ce (by (repeat (first | exact Sl.At.z | apply Sl.At.s))))), ?_⟩
    | refine ⟨_, _, (by (first | exact Sl.LsAs.fz | exact Sl.LsAs.ce (by (repeat (first | exact Sl.At.z | apply Sl.At.s))))), ?_⟩
    | refine o_ixLs (by (first | exact Sl.LsOf.fz | exact Sl.LsOf.ce (by (repeat (first | exact Sl.At.z | apply Sl.At.s))))) (by rfl) ?_
    | refine ⟨_, _, _, _, _, rfl, rfl, (by (repeat (first | exact Sl.At.z | apply Sl.At.s))), ?_⟩
    | refine ⟨_, _, _, _, _, _, rfl, rfl, (by (repeat (first | exact Sl.At.z | apply Sl.At.s))), (by rfl), (by (repeat (first | exact Sl.Rp.z | apply Sl.Rp.s))), ?_⟩
    | refine ⟨_, _, _, _, _, rfl, (by (repeat (first | exact Sl.At.z | apply Sl.At.s))), (by (repeat (first | exact Sl.Pf.n | exact Sl.Pf.z | (apply Sl.Pf.s; decide +kernel)))), (by exact Nat.le_of_ble_eq_true rfl), (by (repeat (first | exact Sl.Rp.z | apply Sl.Rp.s))), ?_⟩
    | ((with_reducible refine And.intro ?_ ?_); exact Nat.le_of_ble_eq_true rfl)
    | with_reducible refine e_gref ?_
    | refine o_inT (by rfl) (by rfl) ?_
    | refine ⟨_, true, rfl, kit_ty (by decide +kernel), ?_⟩
    | refine ⟨_, false, rfl, kit_ty (by decide +kernel), ?_⟩
    | refine ⟨fun _ => ?_, fun hb => absurd hb (by decide +kernel)⟩
    | refine ⟨fun hb => absurd hb (by decide +kernel), fun _ => ?_⟩
    | refine ⟨fun _ => ?_, fun hb => ctT (by rfl) hb⟩
    | refine ⟨fun hb => ctT (by rfl) hb, fun _ => ?_⟩
    | refine ⟨fun _ => ?_, fun hb => ctF (by rfl) hb⟩
    | refine ⟨fun hb => ctF (by rfl) hb, fun _ => ?_⟩
    | fail)
abbrev s__law_thirds : Stmt := top 19
abbrev N__law_thirds : List Str := ["_law_triples", "_law_thirds_here", "_law_a", "_law_b", "_law_c"]
theorem sc__law_thirds : FnScope N__law_thirds ["_law_triples"] (defScope s__law_thirds) := ⟨rfl, rfl, rfl, by decide +kernel, rfl, by decide +kernel, by decide +kernel⟩
abbrev s__law_wanted : Stmt := top 20
abbrev N__law_wanted : List Str := ["_law_loops", "_law_found", "_law_j", "_law_loop", "_law_k", "_law_corner"]
theorem sc__law_wanted : FnScope N__law_wanted ["_law_loops"] (defScope s__law_wanted) := ⟨rfl, rfl, rfl, by decide +kernel, rfl, by decide +kernel, by decide +kernel⟩
abbrev spThirds (K : PySem.W.Frag) : Sp := SpG K (G := Addr × List Tri) (fun g => [.ref g.1]) (fun g => [(g.1, .lst (madeD g.2))]) (fun g => g.2.length ≤ 1000) (fun g out cs => ∃ p kvs, Closed kvs g.2 ∧ out = .ret (.ref p) ∧ cs = [(p, .dt kvs), (g.1, .lst (madeD g.2))])
abbrev spWanted (K : PySem.W.Frag) : Sp := SpG K (G := Addr × List (List Int)) (fun g => [.ref g.1]) (fun g => [(g.1, .lst (rowsD g.2))]) (fun g => (g.2.map List.length).sum ≤ 1000 ∧ ∀ l ∈ g.2, 2 ≤ l.length) (fun g out cs => ∃ p kvs, (∀ a b, hasD kvs (kP a b) = true ↔ Wt g.2 (a, b)) ∧ out = .ret (.ref p) ∧ cs = [(p, .dt kvs), (g.1, .lst (rowsD g.2))])
theorem sum_take {L : List (List Int)} : ∀ i : Nat, ((L.take i).map List.length).sum ≤ (L.map List.length).sum := by
  induction L with
  | nil => intro i; simp
  | cons a L ih =>
    intro i
    cases i with
    | zero => simp
    | succ i =>
      have := ih i
      rw [List.take_succ_cons, List.map_cons, List.map_cons, List.sum_cons, List.sum_cons]
      omega
theorem sum_rev {L : List (List Int)} : (L.reverse.map List.length).sum = (L.map List.length).sum := by
  rw [List.map_reverse, List.sum_reverse]
theorem wt_app {A : List (List Int)} {l : List Int} {s : Int × Int} : Wt (A ++ [l]) s ↔ Wt A s ∨ ∃ k, l[k]? = some s.1 ∧ l[(k + 1) % l.length]? = some s.2 := by
  unfold Wt
  constructor
  · rintro ⟨l', hl, h⟩
    rcases List.mem_append.mp hl with hl | hl
    · exact .inl ⟨l', hl, h⟩
    · rw [List.mem_singleton] at hl
      subst hl
      exact .inr h
  · rintro (⟨l', hl, h⟩ | h)
    · exact ⟨l', List.mem_append_left _ hl, h⟩
    · exact ⟨l, by simp, h⟩
section
variable {P : Program} {w : World} {K : PySem.W.Frag} {mg : Str → Option Value} {base : Heap}
theorem cl_thirds (T : Tx K mg) (D : Fd K mg "_law_thirds" s__law_thirds) : Cl P w K mg base 1 "_law_thirds" (spThirds K) := by
  refine mk_clG D sc__law_thirds (fun _ _ _ _ _ _ us hl => match us, hl with | [_], _ => rfl) (fun _ => rfl) (fun cdv A outer s H E hr hu => ⟨_, (pss_cons (ps_set (i := 1) sc__law_thirds.nd rfl (by first | exact .inl rfl | exact .inr rfl) pe_dnewT)
    (pss_cons (ps_for PassesOwn.leaving rfl (pi_list (pv 0)) (pg_tup rfl (pgs_cons (pg_name (i := 2) sc__law_thirds.nd rfl (by first | exact Or.inl rfl | exact Or.inr rfl)) (pgs_cons (pg_name (i := 3) sc__law_thirds.nd rfl (by first | exact Or.inl rfl | exact Or.inr rfl)) (pgs_cons (pg_name (i := 4) sc__law_thirds.nd rfl (by first | exact Or.inl rfl | exact Or.inr rfl)) pgs_nil)))) (pss_cons (ps_dput (units1 hr.units) (pv 1) (pe_tup (pa_cons (pv 2) (pa_cons (pv 3) pa_nil))) (pv 4) (by rfl))
    (pss_cons (ps_dput (units1 hr.units) (pv 1) (pe_tup (pa_cons (pv 3) (pa_cons (pv 4) pa_nil))) (pv 2) (by rfl))
    (pss_one (ps_dput (units1 hr.units) (pv 1) (pe_tup (pa_cons (pv 4) (pa_cons (pv 2) pa_nil))) (pv 3) (by rfl))))))
    (pss_one (ps_ret (pv 1))))), ?_⟩)
  rintro ⟨qm, m⟩ pre Zf ee hE hx
  try dsimp only [cxOf]
  dsimp only at pre
  refine s_seq (s_set (e_dnew ?_))
  rintro p hp
  repeat tb_rel
  refine for_by (fun i Γ' => ∃ (k' : Kvs) (u1 u2 u3 : Option Sl.D), (∀ a b, hasD k' (kP a b) = decide ((a, b) ∈ sides (m.take i))) ∧ k'.length ≤ 3 * i ∧ Γ' = ⟨[some (.ref qm), some (.ref p), u1, u2, u3], [(p, .dt k'), (qm, .lst (madeD m))]⟩) ⟨[], none, none, none, fun a b => rfl, Nat.zero_le _, rfl⟩ ?_ ?_ ?_
  · rintro i Γ' ⟨k', u1, u2, u3, h1, h2, rfl⟩
    show _ ∈ [_, _]
    simp
  · rintro i d Γ' hd ⟨k', u1, u2, u3, h1, h2, rfl⟩
    obtain ⟨⟨a, b, c⟩, ht, rfl⟩ : ∃ t, m[i]? = some t ∧ d = triD t := by
      rw [List.getElem?_map] at hd
      cases e : m[i]? with
      | none => rw [e] at hd; cases hd
      | some l => rw [e] at hd; cases hd; exact ⟨l, rfl, rfl⟩
    obtain ⟨hi, ei⟩ := List.getElem?_eq_some_iff.mp ht
    repeat tb_rel
    refine ⟨_, _, _, _, _, rfl, rfl, ?_, (by (repeat (first | exact Sl.Rp.z | apply Sl.Rp.s))), ?_⟩
    · omega
    repeat tb_rel
    refine ⟨_, _, _, _, _, rfl, rfl, ?_, (by (repeat (first | exact Sl.Rp.z | apply Sl.Rp.s))), ?_⟩
    · show (putD k' (kP a b) (.int c)).length < 100000
      have := put_len (kvs := k') (k := kP a b) (d := .int c); omega
    repeat tb_rel
    refine ⟨_, _, _, _, _, rfl, rfl, ?_, (by (repeat (first | exact Sl.Rp.z | apply Sl.Rp.s))), ?_⟩
    · show (putD (putD k' (kP a b) (.int c)) (kP b c) (.int a)).length < 100000
      have := put_len (kvs := k') (k := kP a b) (d := .int c)
      have := put_len (kvs := putD k' (kP a b) (.int c)) (k := kP b c) (d := .int a); omega
    refine ⟨putD (putD (putD k' (kP a b) (.int c)) (kP b c) (.int a)) (kP c a) (.int b), _, _, _, fun a' b' => ?_, ?_, rfl⟩
    · rw [has_put, has_put, has_put, h1]
      rw [List.take_succ_eq_append_getElem hi, ei]
      have e : sides (m.take i ++ [(a, b, c)]) = sides (m.take i) ++ [(a, b), (b, c), (c, a)] := by simp [sides]
      rw [e, Bool.eq_iff_iff]
      simp [kP]
      constructor
      · rintro (⟨rfl, rfl⟩ | ⟨rfl, rfl⟩ | ⟨rfl, rfl⟩ | h) <;> simp [*]
      · rintro (h | ⟨rfl, rfl⟩ | ⟨rfl, rfl⟩ | ⟨rfl, rfl⟩) <;> simp [*]
    · have := put_len (kvs := k') (k := kP a b) (d := .int c)
      have := put_len (kvs := putD k' (kP a b) (.int c)) (k := kP b c) (d := .int a)
      have := put_len (kvs := putD (putD k' (kP a b) (.int c)) (kP b c) (.int a)) (k := kP c a) (d := .int b)
      omega
  · rintro Γ' ⟨k', u1, u2, u3, h1, h2, rfl⟩
    rw [List.length_map] at h1 h2
    repeat tb_rel
    refine hE.rt (cs' := [(p, .dt k'), (qm, .lst (madeD m))]) (r := []) (by (repeat (first | exact Sl.Take.nil | (apply Sl.Take.cons; (repeat (first | exact Sl.Rm.z | apply Sl.Rm.s)))))) ⟨p, k', ⟨fun a b => ?_, h2⟩, rfl, rfl⟩
    rw [h1, List.take_length]
theorem cl_wanted (T : Tx K mg) (D : Fd K mg "_law_wanted" s__law_wanted) : Cl P w K mg base 1 "_law_wanted" (spWanted K) := by
  refine mk_clG D sc__law_wanted (fun _ _ _ _ _ _ us hl => match us, hl with | [_], _ => rfl) (fun _ => rfl) (fun cdv A outer s H E hr hu => ⟨_, (pss_cons (ps_set (i := 1) sc__law_wanted.nd rfl (by first | exact .inl rfl | exact .inr rfl) pe_dnewT)
    (pss_cons (ps_for PassesOwn.leaving rfl (pi_enumRev (by rfl) T.f_enumerate (by rfl) T.f_reversed (pa_cons (pv 0) pa_nil)) (pg_tup rfl (pgs_cons (pg_name (i := 2) sc__law_wanted.nd rfl (by first | exact Or.inl rfl | exact Or.inr rfl)) (pgs_cons (pg_name (i := 3) sc__law_wanted.nd rfl (by first | exact Or.inl rfl | exact Or.inr rfl)) pgs_nil))) (pss_one (ps_for PassesOwn.leaving rfl (pi_enum (by rfl) T.f_enumerate (pa_cons (pv 3) pa_nil)) (pg_tup rfl (pgs_cons (pg_name (i := 4) sc__law_wanted.nd rfl (by first | exact Or.inl rfl | exact Or.inr rfl)) (pgs_cons (pg_name (i := 5) sc__law_wanted.nd rfl (by first | exact Or.inl rfl | exact Or.inr rfl)) pgs_nil))) (pss_one (ps_dput (units1 hr.units) (pv 1) (pe_tup (pa_cons (pv 5) (pa_cons (pe_ix ix_list (pv 3) (pe_op op_mod (pe_op op_add (pv 4) pe_int) (pe_callB call_len_seq (by rfl) T.f_len boot_len (pa_cons (pv 3) pa_nil))) (fun _ _ => rfl)) pa_nil))) (pe_tup (pa_cons (pv 2) (pa_cons (pv 4) pa_nil))) (by rfl))))))
    (pss_one (ps_ret (pv 1))))), ?_⟩)
  rintro ⟨qr, L⟩ ⟨pre, two⟩ Zf ee hE hx
  try dsimp only [cxOf]
  dsimp only at pre two
  refine s_seq (s_set (e_dnew ?_))
  rintro p hp
  repeat tb_rel
  refine for_by (fun i Γ' => ∃ (k' : Kvs) (u1 u2 u3 u4 : Option Sl.D), (∀ a b, hasD k' (kP a b) = true ↔ Wt (L.reverse.take i) (a, b)) ∧ k'.length ≤ ((L.reverse.take i).map List.length).sum ∧ Γ' = ⟨[some (.ref qr), some (.ref p), u1, u2, u3, u4], [(p, .dt k'), (qr, .lst (rowsD L))]⟩) ⟨[], none, none, none, none, fun a b => ?_, Nat.zero_le _, rfl⟩ ?_ ?_ ?_
  · constructor
    · intro z; cases z
    · rintro ⟨l, hl, _⟩
      simp at hl
  · rintro i Γ' ⟨k', u1, u2, u3, u4, h1, h2, rfl⟩
    show _ ∈ [_, _]
    simp
  · rintro i d Γ' hd ⟨k', u1, u2, u3, u4, h1, h2, rfl⟩
    obtain ⟨l, hl, rfl⟩ : ∃ l, L.reverse[i]? = some l ∧ d = .tuple [.int (i : Nat), intsD l] := by
      obtain ⟨e, he, rfl⟩ := enumD_get hd
      rw [← List.map_reverse, List.getElem?_map] at he
      cases e2 : L.reverse[i]? with
      | none => rw [e2] at he; cases he
      | some l => rw [e2] at he; cases he; exact ⟨l, rfl, rfl⟩
    obtain ⟨hi, ei⟩ := List.getElem?_eq_some_iff.mp hl
    have l2 : 2 ≤ l.length := two l (by have := List.mem_of_getElem? hl; simpa using this)
    have hs : ((L.reverse.take i).map List.length).sum + l.length ≤ 1000 := by
      have := sum_take (L := L.reverse) (i + 1)
      rw [List.take_succ_eq_append_getElem hi, ei, sum_rev, List.map_append, List.sum_append] at this
      have e1 : (List.map List.length [l]).sum = l.length := by simp
      rw [e1] at this
      omega
    repeat tb_rel
    refine ⟨fun j Γ' => ∃ (k2 : Kvs) (u3 u4 : Option Sl.D), (∀ a b, hasD k2 (kP a b) = true ↔ (Wt (L.reverse.take i) (a, b) ∨ ∃ k, k < j ∧ l[k]? = some a ∧ l[(k + 1) % l.length]? = some b)) ∧ k2.length ≤ ((L.reverse.take i).map List.length).sum + j ∧ Γ' = ⟨[some (.ref qr), some (.ref p), some (.int (i : Nat)), some (intsD l), u3, u4], [(p, .dt k2), (qr, .lst (rowsD L))]⟩, ⟨k', u3, u4, fun a b => ?_, h2, rfl⟩, fun _ _ _ => trivial, ?_, ?_⟩
    · rw [h1]
      simp
    · rintro j d Γ' hd ⟨k2, u3, u4, h3, h4, rfl⟩
      obtain ⟨c, hc, rfl⟩ : ∃ c, l[j]? = some c ∧ d = .tuple [.int (j : Nat), .int c] := by
        obtain ⟨e, he, rfl⟩ := enumD_get hd
        rw [List.getElem?_map] at he
        cases e2 : l[j]? with
        | none => rw [e2] at he; cases he
        | some c => rw [e2] at he; cases he; exact ⟨c, rfl, rfl⟩
      have hj : j < l.length := (List.getElem?_eq_some_iff.mp hc).1
      have hm : (j + 1) % l.length < l.length := Nat.mod_lt _ (by omega)
      repeat tb_rel
      refine o_intC (by simp; omega) ?_
      have em : ((j : Int) + 1) % ((l.map Sl.D.int).length : Int) = (((j + 1) % l.length : Nat) : Int) := by
        rw [List.length_map]
        exact (Int.natCast_emod (j + 1) l.length).symm
      rw [em]
      refine o_ixLs .fz (ints_at? (List.getElem?_eq_getElem hm)) ?_
      repeat tb_rel
      refine ⟨_, _, _, _, _, rfl, rfl, ?_, (by (repeat (first | exact Sl.Rp.z | apply Sl.Rp.s))), ?_⟩
      · omega
      refine ⟨_, _, _, fun a b => ?_, ?_, rfl⟩
      · rw [has_put, Bool.or_eq_true_iff, h3, decide_eq_true_iff]
        have hg := List.getElem?_eq_getElem hm
        simp [kP]
        constructor
        · rintro (⟨rfl, rfl⟩ | h | ⟨k, hk, h⟩)
          · exact .inr ⟨j, by omega, hc, hg⟩
          · exact .inl h
          · exact .inr ⟨k, by omega, h⟩
        · rintro (h | ⟨k, hk, e1, e2⟩)
          · exact .inr (.inl h)
          · by_cases hkj : k = j
            · subst hkj
              rw [hc] at e1
              rw [hg] at e2
              exact .inl ⟨Option.some.inj e1, Option.some.inj e2⟩
            · exact .inr (.inr ⟨k, by omega, e1, e2⟩)
      · exact Nat.le_trans put_len (by omega)
    · rintro Γ' ⟨k2, u3, u4, h3, h4, rfl⟩
      rw [enumD_len, List.length_map] at h3 h4
      refine ⟨k2, _, _, _, _, fun a b => ?_, ?_, rfl⟩
      · rw [h3, List.take_succ_eq_append_getElem hi, ei, wt_app]
        constructor
        · rintro (h | ⟨k, _, h⟩)
          · exact .inl h
          · exact .inr ⟨k, h⟩
        · rintro (h | ⟨k, h⟩)
          · exact .inl h
          · exact .inr ⟨k, (List.getElem?_eq_some_iff.mp h.1).1, h⟩
      · rw [List.take_succ_eq_append_getElem hi, ei, List.map_append, List.sum_append]
        simpa using h4
  · rintro Γ' ⟨k', u1, u2, u3, u4, h1, h2, rfl⟩
    repeat tb_rel
    refine hE.rt (cs' := [(p, .dt k'), (qr, .lst (rowsD L))]) (r := []) (by (repeat (first | exact Sl.Take.nil | (apply Sl.Take.cons; (repeat (first | exact Sl.Rm.z | apply Sl.Rm.s)))))) ⟨p, k', fun a b => ?_, rfl, rfl⟩
    rw [h1, enumD_len, List.length_reverse, List.length_map, ← List.length_reverse (as := L), List.take_length]
    unfold Wt
    simp
end
end K32

set_option Elab.async false
set_option linter.all false
set_option autoImplicit false
set_option maxRecDepth 100000
set_option maxHeartbeats 400000
namespace K32
open PySem PySem.Spec PyProof.Rows L2 Px Sl
local macro_rules
  | `(tactic| tb_rel) => `(tactic| first
    | with_reducible refine s_forI ?_
    | with_reducible refine s_for ?_
    | with_reducible refine s_seq ?_
    | with_reducible refine s_if ?_
    | with_reducible refine s_next ?_
    | with_reducible refine s_brk ?_
    | with_reducible refine s_cont ?_
    | with_reducible refine s_retN ?_
    | with_reducible refine s_asgT ?_
    | with_reducible refine s_asgL ?_
    | with_reducible refine s_drop ?_
    | with_reducible refine s_dput ?_
    | with_reducible refine s_setIA ?_
    | with_reducible refine t_test ?_
    | with_reducible refine t_B ?_
    | with_reducible refine t_yes ?_
    | with_reducible refine t_and ?_
    | with_reducible refine t_or ?_
    | with_reducible refine t_not ?_
    | with_reducible refine e_op ?_
    | with_reducible refine e_isi ?_
    | with_reducible refine e_extN ?_
    | with_reducible refine e_appA ?_
    | with_reducible refine e_popAtA ?_
    | with_reducible refine e_cb ?_
    | with_reducible refine e_lst ?_
    | with_reducible refine e_tup ?_
    | with_reducible refine e_neg ?_
    | with_reducible refine e_int ?_
    | with_reducible refine e_str ?_
    | with_reducible refine e_bl ?_
    | with_reducible refine e_non ?_
    | with_reducible refine e_din ?_
    | with_reducible refine e_andV ?_
    | with_reducible refine e_orV ?_
    | with_reducible refine e_slLs ?_
    | with_reducible refine e_slT ?_
    | with_reducible refine e_chain ?_
    | with_reducible refine a_cons ?_
    | with_reducible refine a_nil ?_
    | with_reducible refine o_no ?_
    | with_reducible refine o_so ?_
    | with_reducible refine i_range1 ?_
    | with_reducible refine i_list ?_
    | with_reducible refine i_tup ?_
    | with_reducible refine i_enum ?_
    | with_reducible refine i_enumRev ?_
    | with_reducible refine g_name ?_
    | with_reducible refine gs_cons ?_
    | with_reducible refine gs_nil ?_
    | with_reducible refine o_int ?_
    | with_reducible refine o_bool ?_
    | with_reducible refine o_eqI ?_
    | with_reducible refine o_neI ?_
    | with_reducible refine o_eqS ?_
    | with_reducible refine o_neS ?_
    | with_reducible refine o_isN ?_
    | with_reducible refine o_notN ?_
    | with_reducible refine c_lenT ?_
    | with_reducible refine c_intB ?_
    | with_reducible refine c_min2 ?_
    | with_reducible refine c_max2 ?_
    | ((fail_if_success (with_reducible refine e_notV (e_cb (a_cons (e_lc ?_ ?_))))); (with_reducible refine e_notV ?_))
    | ((fail_if_success (with_reducible refine s_ret (e_lst ?_))); (fail_if_success (with_reducible refine s_ret (e_lc ?_ ?_))); (with_reducible refine s_ret ?_))
    | ((fail_if_success (with_reducible refine s_set (e_lst ?_))); (fail_if_success (with_reducible refine s_set (e_lc ?_ ?_))); (with_reducible refine s_set ?_))
    | ((with_reducible apply e_var); exact rfl)
    | with_reducible refine e_callG rfl ?_
    | with_reducible refine e_methG rfl ?_
    | with_reducible refine e_makeG rfl ?_
    | refine e_fld rfl (by assumption) (by assumption) ?_
    | refine s_fldA rfl (by assumption) (by assumption) ?_
    | refine o_ixT (by rfl) ?_
    | refine c_lenLs (by (first | exact Sl.LsOf.fz | exact Sl.LsOf.ce (by (repeat (first | exact Sl.At.z | apply Sl.At.s))))) ?_
    | ((with_reducible refine g_tup ?_ ?_); exact rfl)
    | with_reducible refine ⟨_, rfl, ?_⟩
    | with_reducible refine ⟨_, _, rfl, rfl, ?_⟩
    | with_reducible refine ⟨_, LsOf.fz, ?_⟩
    | refine ⟨_, _, _, _, rfl, (by (repeat (first | exact Sl.At.z | apply Sl.At.s))), (by (repeat (first | exact Sl.Lk.z | (apply Sl.Lk.s; decide +kernel)))), ?_⟩
    | refine ⟨_, _, _, rfl, (by (repeat (first | exact Sl.At.z | apply Sl.At.s))), (by rfl), ?_⟩
    | refine ⟨_, _, _, rfl, (by (repeat (first | exact Sl.At.z | apply Sl.At.s))), ?_⟩
    | refine ⟨⟨_, _, _, rfl, (by (repeat (first | exact Sl.At.z | apply Sl.At.s)))⟩, ?_⟩
    | refine ⟨_, _, _, rfl, (by (repeat (first | exact Sl.Rp.z | apply Sl.Rp.s))), (by exact Nat.le_of_ble_eq_true rfl), (by exact Nat.le_of_ble_eq_true rfl), ?_⟩
    | refine ⟨_, (by (first | exact Sl.LsOf.fz | exact Sl.LsOf.ce (by (repeat (first | exact Sl.At.z | apply Sl.At.s))))), ?_⟩
    | refine ⟨_, _, (by (first | exact Sl.LsAs.fz | exact Sl.LsAs.ce (by (repeat (first | exact Sl.At.z | apply Sl.At.s))))), ?_⟩
    | refine o_ixLs (by (first | exact Sl.LsOf.fz | exact Sl.LsOf.ce (by (repeat (first | exact Sl.At.z | apply Sl.At.s))))) (by rfl) ?_
    | refine ⟨_, _, _, _, _, rfl, rfl, (by (repeat (first | exact Sl.At.z | apply Sl.At.s))), ?_⟩
    | refine ⟨_, _, _, _, _, _, rfl, rfl, (by (repeat (first | exact Sl.At.z | apply Sl.At.s))), (by rfl), (by (repeat (first | exact Sl.Rp.z | apply Sl.Rp.s))), ?_⟩
    | refine ⟨_, _, _, _, _, rfl, (by (repeat (first | exact Sl.At.z | apply Sl.At.s))), (by (repeat (first | exact Sl.Pf.n | exact Sl.Pf.z | (apply Sl.Pf.s; decide +kernel)))), (by exact Nat.le_of_ble_eq_true rfl), (by (repeat (first | exact Sl.Rp.z | apply Sl.Rp.s))), ?_⟩
    | ((with_reducible refine And.intro ?_ ?_); exact Nat.le_of_ble_eq_true rfl)
    | with_reducible refine e_gref ?_
    | refine o_inT (by rfl) (by rfl) ?_
    | refine ⟨_, true, rfl, kit_ty (by decide +kernel), ?_⟩
    | refine ⟨_, false, rfl, kit_ty (by decide +kernel), ?_⟩
    | refine ⟨fun _ => ?_, fun hb => absurd hb (by decide +kernel)⟩
    | refine ⟨fun hb => absurd hb (by decide +kernel), fun _ => ?_⟩
    | refine ⟨fun _ => ?_, fun hb => ctT (by rfl) hb⟩
    | refine ⟨fun hb => ctT (by rfl) hb, fun _ => ?_⟩
    | refine ⟨fun _ => ?_, fun hb => ctF (by rfl) hb⟩
    | refine ⟨fun hb => ctF (by rfl) hb, fun _ => ?_⟩
    | fail)
abbrev s__law_step : Stmt := top 21
abbrev N__law_step : List Str := ["_law_loops", "_law_letter", "_law_x", "_law_loop", "_law_a", "_law_b", "_law_k", "_law_other"]
theorem sc__law_step : FnScope N__law_step ["_law_loops", "_law_letter", "_law_x"] (defScope s__law_step) := ⟨rfl, rfl, rfl, by decide +kernel, rfl, by decide +kernel, by decide +kernel⟩
abbrev s__law_third : Stmt := top 22
abbrev N__law_third : List Str := ["_law_front", "_law_letter", "_law_loop", "_law_other"]
theorem sc__law_third : FnScope N__law_third ["_law_front", "_law_letter"] (defScope s__law_third) := ⟨rfl, rfl, rfl, by decide +kernel, rfl, by decide +kernel, by decide +kernel⟩
structure OA where
  o : Addr
  r : Addr
  m : Addr
abbrev OC (q : OA) (L : List (List Int)) (m : List Tri) (n : Int) : Cs := [(q.o, .lst [.ref q.r, .ref q.m, .int n]), (q.r, .lst (rowsD L)), (q.m, .lst (madeD m))]
abbrev spStep (K : PySem.W.Frag) : Sp := SpG K (G := Addr × List (List Int) × List Int × Int × Lt × Int) (fun g => [.ref g.1, g.2.2.2.2.1.d, .int g.2.2.2.2.2]) (fun g => [(g.1, .lst (rowsD (g.2.1 ++ [g.2.2.1])))]) (fun g => Sm g.2.1 g.2.2.1 ∧ third g.2.1 g.2.2.1 g.2.2.2.1 g.2.2.2.2.1 = some g.2.2.2.2.2) (fun g out cs => out = .ret .none ∧ cs = [(g.1, .lst (rowsD (step g.2.1 g.2.2.1 g.2.2.2.2.2 g.2.2.2.2.1)))])
def Lt.p : Lt → PyData
  | .C => .tuple [.str "C"]
  | .R => .tuple [.str "R"]
  | .L => .tuple [.str "L"]
  | .E => .tuple [.str "E"]
  | .S j k => .tuple [.str "S", .int (j : Nat), .int (k : Nat)]
theorem Lt.pd {Γ : Sy} (t : Lt) : Pd Γ t.d t.p := by
  cases t with
  | S j k => exact .tup (.cons (.str _) (.cons (.int _) (.cons (.int _) .nil)))
  | _ => exact .tup (.cons (.str _) .nil)
theorem Lt.shp (t : Lt) : Shp 1 t.p := by
  cases t with
  | S j k => exact ⟨by simp only [Lt.p, PyData.canLay0, PyData.canLayAll0]; decide +kernel, Nat.le_of_ble_eq_true rfl⟩
  | _ => exact ⟨by decide +kernel, by decide +kernel⟩
def Lt.isC : Lt → Bool
  | .C => true
  | _ => false
def Lt.isE : Lt → Bool
  | .E => true
  | _ => false
theorem eqv_C (t : Lt) : PyData.eqv t.p (.tuple [.str "C"]) = t.isC := by
  cases t with
  | S j k => rfl
  | _ => rfl
theorem eqv_E (t : Lt) : PyData.eqv t.p (.tuple [.str "E"]) = t.isE := by
  cases t with
  | S j k => rfl
  | _ => rfl
theorem o_eqLt {Z : Zx} {Γ : Sy} {R : D → Sy → Prop} (t u : Lt) {b : Bool} (hb : PyData.eqv t.p u.p = b) (r : R (.bool b) Γ) : Ro Z (rEqD Z.K) t.d u.d Γ R := o_eqP t.pd u.pd ((t.shp).ok (by decide)) ((u.shp).ok (by decide)) (by rw [hb]; exact r)
abbrev spThird (K : PySem.W.Frag) : Sp := SpG K (G := OA × List (List Int) × List Int × List Tri × Int × Lt) (fun g => [.ref g.1.o, g.2.2.2.2.2.d]) (fun g => OC g.1 (g.2.1 ++ [g.2.2.1]) g.2.2.2.1 g.2.2.2.2.1) (fun _ => True) (fun g out cs => out = .ret (optD (third g.2.1 g.2.2.1 g.2.2.2.2.1 g.2.2.2.2.2)) ∧ cs = OC g.1 (g.2.1 ++ [g.2.2.1]) g.2.2.2.1 g.2.2.2.2.1)
theorem take2 {l : List Int} (h : 2 ≤ l.length) : (l.map D.int).take 2 = [.int (l.getD 0 0), .int (l.getD 1 0)] := by
  match l, h with
  | a :: b :: r, _ => rfl
section
variable {P : Program} {w : World} {K : PySem.W.Frag} {mg : Str → Option Value} {base : Heap}
theorem cl_step (T : Tx K mg) (D : Fd K mg "_law_step" s__law_step) : Cl P w K mg base 1 "_law_step" (spStep K) := by
  refine mk_clG D sc__law_step (fun _ _ _ _ _ _ us hl => match us, hl with | [_, _, _], _ => rfl) (fun _ => rfl) (fun cdv A outer s H E hr hu => ⟨_, (pss_cons (ps_set (i := 3) sc__law_step.nd rfl (by first | exact .inl rfl | exact .inr rfl) (pe_bm0 PySem.F.plainAttrs_list PySem.F.slot_list_pop PySem.F.type_list_pop mt_pop (pv 0)))
    (pss_cons (ps_asg (pe_slice sl_list (pv 3) po_none (po_some pe_int)) (pg_lst rfl (pgs_cons (pg_name (i := 4) sc__law_step.nd rfl (by first | exact Or.inl rfl | exact Or.inr rfl)) (pgs_cons (pg_name (i := 5) sc__law_step.nd rfl (by first | exact Or.inl rfl | exact Or.inr rfl)) pgs_nil))))
    (pss_cons (ps_if (pt_cmpR op_eq (pe_ix ix_tup (pv 1) pe_int (fun _ _ => rfl)) pe_str (nomark _)) (pss_one (ps_expr (pe_bm PySem.F.plainAttrs_list PySem.F.slot_list_append PySem.F.type_list_append mt_append (pv 0) (pa_cons (pe_op op_catS (pe_lst (pa_cons (pv 4) (pa_cons (pv 2) pa_nil))) (pe_slice sl_list (pv 3) (po_some pe_int) po_none)) pa_nil)))) pss_nil)
    (pss_cons (ps_if (pt_cmpR op_eq (pe_ix ix_tup (pv 1) pe_int (fun _ _ => rfl)) pe_str (nomark _)) (pss_one (ps_expr (pe_bm PySem.F.plainAttrs_list PySem.F.slot_list_append PySem.F.type_list_append mt_append (pv 0) (pa_cons (pe_op op_catS (pe_lst (pa_cons (pv 4) pa_nil)) (pe_slice sl_list (pv 3) (po_some pe_int) po_none)) pa_nil)))) pss_nil)
    (pss_cons (ps_if (pt_cmpR op_eq (pe_ix ix_tup (pv 1) pe_int (fun _ _ => rfl)) pe_str (nomark _)) (pss_one (ps_expr (pe_bm PySem.F.plainAttrs_list PySem.F.slot_list_append PySem.F.type_list_append mt_append (pv 0) (pa_cons (pe_op op_catS (pe_lst (pa_cons (pv 2) pa_nil)) (pe_slice sl_list (pv 3) (po_some pe_int) (po_some (pe_un un_neg pe_int)))) pa_nil)))) pss_nil)
    (pss_cons (ps_if (PW.pt (pw_and (pt_cmpR op_eq (pe_ix ix_tup (pv 1) pe_int (fun _ _ => rfl)) pe_str (nomark _)) (pw_and1 (pt_cmpR op_eq (pe_ix ix_tup (pv 1) pe_int (fun _ _ => rfl)) pe_int (nomark _))))) (pss_cons (ps_expr (pe_bm PySem.F.plainAttrs_list PySem.F.slot_list_append PySem.F.type_list_append mt_append (pv 0) (pa_cons (pe_op op_catS (pe_lst (pa_cons (pv 4) pa_nil)) (pe_slice sl_list (pv 3) (po_some (pe_ix ix_tup (pv 1) pe_int (fun _ _ => rfl))) po_none)) pa_nil)))
    (pss_one (ps_expr (pe_bm PySem.F.plainAttrs_list PySem.F.slot_list_append PySem.F.type_list_append mt_append (pv 0) (pa_cons (pe_op op_catS (pe_lst (pa_cons (pv 2) pa_nil)) (pe_slice sl_list (pv 3) (po_some pe_int) (po_some (pe_ix ix_tup (pv 1) pe_int (fun _ _ => rfl))))) pa_nil))))) pss_nil)
    (pss_one (ps_if (PW.pt (pw_and (pt_cmpR op_eq (pe_ix ix_tup (pv 1) pe_int (fun _ _ => rfl)) pe_str (nomark _)) (pw_and1 (pt_cmpR op_gt (pe_ix ix_tup (pv 1) pe_int (fun _ _ => rfl)) pe_int (nomark _))))) (pss_cons (ps_set (i := 6) sc__law_step.nd rfl (by first | exact .inl rfl | exact .inr rfl) (pe_ix ix_tup (pv 1) pe_int (fun _ _ => rfl)))
    (pss_cons (ps_set (i := 7) sc__law_step.nd rfl (by first | exact .inl rfl | exact .inr rfl) (pe_bm PySem.F.plainAttrs_list PySem.F.slot_list_pop PySem.F.type_list_pop mt_popAt (pv 0) (pa_cons (pe_op op_sub (pe_callB call_len_seq (by rfl) T.f_len boot_len (pa_cons (pv 0) pa_nil)) (pe_ix ix_tup (pv 1) pe_int (fun _ _ => rfl))) pa_nil)))
    (pss_one (ps_expr (pe_bm PySem.F.plainAttrs_list PySem.F.slot_list_append PySem.F.type_list_append mt_append (pv 0) (pa_cons (pe_op op_catS (pe_op op_catS (pe_op op_catS (pe_op op_catS (pe_lst (pa_cons (pv 4) pa_nil)) (pe_slice sl_list (pv 7) (po_some (pv 6)) po_none)) (pe_slice sl_list (pv 7) po_none (po_some (pv 6)))) (pe_lst (pa_cons (pv 2) pa_nil))) (pe_slice sl_list (pv 3) (po_some pe_int) po_none)) pa_nil)))))) pss_nil)))))))), ?_⟩)
  rintro ⟨qr, I, l, n, t, x⟩ ⟨sm, ht⟩ Zf ee hE hx
  try dsimp only [cxOf]
  dsimp only at sm ht
  have h2 := sm.two
  have hi := sm.ni
  have hl := sm.nl
  show Sd _ _ ⟨[some (.ref qr), some t.d, some (.int x), none, none, none, none, none], [(qr, .lst (rowsD (I ++ [l])))]⟩ _
  rw [rows_app]
  refine s_seq (s_set (e_pop ?_))
  repeat tb_rel
  refine ⟨_, _, _, _, rfl, (by (repeat (first | exact Sl.Rp.z | apply Sl.Rp.s))), ?_⟩
  repeat tb_rel
  rw [cut_to2, take2 h2]
  refine g_lst .fz rfl ?_
  refine gs_cons (g_name (gs_cons (g_name (gs_nil ?_))))
  show Sd _ _ ⟨[some (.ref qr), some t.d, some (.int x), some (intsD l), some (.int (l.getD 0 0)), some (.int (l.getD 1 0)), none, none], [(qr, .lst (rowsD I))]⟩ _
  have fin : ∀ {g : List (Option Sl.D)} {X : List Sl.D}, X = rowsD (step I l x t) → ee.nx ⟨g, [(qr, .lst X)]⟩ := fun {g X} e => by
    subst e
    exact hE.nx (cs' := [(qr, .lst (rowsD (step I l x t)))]) (r := []) (by (repeat (first | exact Sl.Take.nil | (apply Sl.Take.cons; (repeat (first | exact Sl.Rm.z | apply Sl.Rm.s)))))) ⟨rfl, rfl⟩
  have hIl : (rowsD I).length < 100000 := by
    rw [List.length_map]; omega
  cases t with
  | C =>
    simp only [Lt.d]
    repeat tb_rel
    rw [cut_1, ← List.map_drop]
    refine o_catLs .fz .fz (by simp; omega) ?_
    refine ⟨_, _, hIl, (by (repeat (first | exact Sl.Rp.z | apply Sl.Rp.s))), ?_⟩
    repeat tb_rel
    refine fin ?_
    simp only [step, rows_app]
    rfl
  | R =>
    simp only [Lt.d]
    repeat tb_rel
    rw [cut_2, ← List.map_drop]
    refine o_catLs .fz .fz (by simp; omega) ?_
    refine ⟨_, _, hIl, (by (repeat (first | exact Sl.Rp.z | apply Sl.Rp.s))), ?_⟩
    repeat tb_rel
    refine fin ?_
    simp only [step, rows_app]
    rfl
  | L =>
    simp only [Lt.d]
    repeat tb_rel
    rw [cut_1n (by simp; omega), ← List.map_drop, ← List.map_dropLast]
    refine o_catLs .fz .fz (by simp; omega) ?_
    refine ⟨_, _, hIl, (by (repeat (first | exact Sl.Rp.z | apply Sl.Rp.s))), ?_⟩
    repeat tb_rel
    refine fin ?_
    simp only [step, rows_app]
    rfl
  | E =>
    simp only [Lt.d]
    repeat tb_rel
    exact fin rfl
  | S j kk =>
    simp only [Lt.d]
    cases j with
    | zero =>
      simp only [third] at ht
      split at ht
      · rename_i hk
        repeat tb_rel
        rw [cut_lo, ← List.map_drop]
        refine o_catLs .fz .fz (by simp; omega) ?_
        refine ⟨_, _, hIl, (by (repeat (first | exact Sl.Rp.z | apply Sl.Rp.s))), ?_⟩
        repeat tb_rel
        rw [cut_1k (by simp; omega), ← List.map_take, ← List.map_drop]
        refine o_catLs .fz .fz (by simp; omega) ?_
        refine ⟨_, _, ?_, (by (repeat (first | exact Sl.Rp.z | apply Sl.Rp.s))), ?_⟩
        · simp; omega
        repeat tb_rel
        refine fin ?_
        simp only [step, rows_app]
        rfl
      · cases ht
    | succ j =>
      simp only [third] at ht
      split at ht
      · rename_i hj
        obtain ⟨o, ho⟩ : ∃ o, I[I.length - 1 - j]? = some o := ⟨_, List.getElem?_eq_getElem (by omega)⟩
        rw [ho] at ht
        have hx' : o[kk]? = some x := ht
        have ol := sm.no o (List.mem_of_getElem? ho)
        have hk : kk < o.length := (List.getElem?_eq_some_iff.mp hx').1
        repeat tb_rel
        refine ⟨fun hb => ?_, fun hb => ?_⟩
        · repeat tb_rel
          have es : seqIndex? (((rowsD I).length : Int) - ((j + 1 : Nat) : Int)) (rowsD I).length = some (I.length - 1 - j) := by
            rw [List.length_map]
            have e : (I.length : Int) - ((j + 1 : Nat) : Int) = ((I.length - 1 - j : Nat) : Int) := by omega
            rw [e]
            exact seq_nat (by omega)
          refine ⟨_, _, _, _, _, rfl, by simp; omega, by simp; omega, es, (show (rowsD I)[I.length - 1 - j]? = some (intsD o) by rw [List.getElem?_map, ho]; rfl), (by (repeat (first | exact Sl.Rp.z | apply Sl.Rp.s))), ?_⟩
          repeat tb_rel
          rw [cut_lo, ← List.map_drop]
          refine o_catLs .fz .fz (by simp; omega) ?_
          repeat tb_rel
          rw [cut_hi, ← List.map_take]
          refine o_catLs .fz .fz (by simp; omega) ?_
          repeat tb_rel
          refine o_catLs .fz .fz (by simp; omega) ?_
          repeat tb_rel
          rw [cut_1, ← List.map_drop]
          refine o_catLs .fz .fz (by simp; omega) ?_
          refine ⟨_, _, ?_, (by (repeat (first | exact Sl.Rp.z | apply Sl.Rp.s))), ?_⟩
          · have := List.length_eraseIdx_le (l := rowsD I) (i := I.length - 1 - j)
            omega
          refine fin ?_
          have eo : I.getD (I.length - 1 - j) [] = o := by simp [List.getD, ho]
          simp only [step, rows_app, eo]
          rw [show rowsD (I.eraseIdx (I.length - 1 - j)) = (rowsD I).eraseIdx (I.length - 1 - j) from map_erase _ _ _]
          simp
        · exfalso
          simp at hb
      · cases ht
theorem cl_third (T : Tx K mg) (D : Fd K mg "_law_third" s__law_third) : Cl P w K mg base 1 "_law_third" (spThird K) := by
  refine mk_clG D sc__law_third (fun _ _ _ _ _ _ us hl => match us, hl with | [_, _], _ => rfl) (fun _ => rfl) (fun cdv A outer s H E hr hu => ⟨_, (pss_cons (ps_set (i := 2) sc__law_third.nd rfl (by first | exact .inl rfl | exact .inr rfl) (pe_ix ix_list (pe_ix ix_list (pv 0) pe_int (fun _ _ => rfl)) (pe_un un_neg pe_int) (fun _ _ => rfl)))
    (pss_cons (ps_if (pt_cmpR (op_eqD hr.units) (pv 1) (pe_tup (pa_cons pe_str pa_nil)) (nomark _)) (pss_one (ps_ret (pe_ix ix_list (pv 0) pe_int (fun _ _ => rfl)))) pss_nil)
    (pss_cons (ps_if (PW.pt (pw_or (PW.pt (pw_and (pt_cmpR op_in_seq (pe_ix ix_tup (pv 1) pe_int (fun _ _ => rfl)) (pe_tup (pa_cons pe_str (pa_cons pe_str pa_nil))) (by rfl)) (pw_and1 (pt_cmpR op_gt (pe_callB call_len_seq (by rfl) T.f_len boot_len (pa_cons (pv 2) pa_nil)) pe_int (nomark _))))) (pw_or1 (PW.pt (pw_and (pt_cmpR (op_eqD hr.units) (pv 1) (pe_tup (pa_cons pe_str pa_nil)) (nomark _)) (pw_and1 (pt_cmpR op_eq (pe_callB call_len_seq (by rfl) T.f_len boot_len (pa_cons (pv 2) pa_nil)) pe_int (nomark _)))))))) (pss_one (ps_ret (pe_ix ix_list (pe_lst (pa_cons (pe_ix ix_list (pv 2) (pe_un un_neg pe_int) (fun _ _ => rfl)) (pa_cons (pe_ix ix_list (pv 2) pe_int (fun _ _ => rfl)) pa_nil))) (pe_callTy call_int1 (by rfl) T.f_int boot_int (pa_cons (pe_cmpR op_eq (pe_ix ix_tup (pv 1) pe_int (fun _ _ => rfl)) pe_str (nomark _)) pa_nil)) (fun _ _ => rfl)))) pss_nil)
    (pss_cons (ps_if (PW.pt (pw_and (pt_cmpR op_eq (pe_ix ix_tup (pv 1) pe_int (fun _ _ => rfl)) pe_str (nomark _)) (pw_and (pt_cmpR op_eq (pe_ix ix_tup (pv 1) pe_int (fun _ _ => rfl)) pe_int (nomark _)) (pw_and1 (pt_chain op_lt op_lt pe_int (pe_ix ix_tup (pv 1) pe_int (fun _ _ => rfl)) (pe_op op_sub (pe_callB call_len_seq (by rfl) T.f_len boot_len (pa_cons (pv 2) pa_nil)) pe_int)))))) (pss_one (ps_ret (pe_ix ix_list (pv 2) (pe_ix ix_tup (pv 1) pe_int (fun _ _ => rfl)) (fun _ _ => rfl)))) pss_nil)
    (pss_cons (ps_if (PW.pt (pw_and (pt_cmpR op_eq (pe_ix ix_tup (pv 1) pe_int (fun _ _ => rfl)) pe_str (nomark _)) (pw_and1 (pt_chain op_lt op_lt pe_int (pe_ix ix_tup (pv 1) pe_int (fun _ _ => rfl)) (pe_callB call_len_seq (by rfl) T.f_len boot_len (pa_cons (pe_ix ix_list (pv 0) pe_int (fun _ _ => rfl)) pa_nil)))))) (pss_cons (ps_set (i := 3) sc__law_third.nd rfl (by first | exact .inl rfl | exact .inr rfl) (pe_ix ix_list (pe_ix ix_list (pv 0) pe_int (fun _ _ => rfl)) (pe_op op_sub (pe_un un_neg pe_int) (pe_ix ix_tup (pv 1) pe_int (fun _ _ => rfl))) (fun _ _ => rfl)))
    (pss_one (ps_if (pt_cmpR op_lt (pe_ix ix_tup (pv 1) pe_int (fun _ _ => rfl)) (pe_callB call_len_seq (by rfl) T.f_len boot_len (pa_cons (pv 3) pa_nil)) (nomark _)) (pss_one (ps_ret (pe_ix ix_list (pv 3) (pe_ix ix_tup (pv 1) pe_int (fun _ _ => rfl)) (fun _ _ => rfl)))) pss_nil))) pss_nil)
    (pss_one (ps_ret pe_non))))))), ?_⟩)
  rintro ⟨q, I, l, m, n, t⟩ pre Zf ee hE hx
  try dsimp only [cxOf]
  repeat tb_rel
  refine o_ixLs (by (first | exact Sl.LsOf.fz | exact Sl.LsOf.ce (by (repeat (first | exact Sl.At.z | apply Sl.At.s))))) rows_last ?_
  have fin : ∀ {g : List (Option Sl.D)} {o : Option Int}, o = third I l n t → ee.rt (optD o) ⟨g, OC q (I ++ [l]) m n⟩ := fun {g o} e => by
    subst e
    exact hE.rt (cs' := OC q (I ++ [l]) m n) (r := []) (by (repeat (first | exact Sl.Take.nil | (apply Sl.Take.cons; (repeat (first | exact Sl.Rm.z | apply Sl.Rm.s)))))) ⟨rfl, rfl⟩
  show Sd _ _ ⟨[some (.ref q.o), some t.d, some (intsD l), none], OC q (I ++ [l]) m n⟩ _
  cases t with
  | C =>
    refine s_seq (s_if (t_test (e_op (e_var rfl (e_tup (a_cons (e_str (a_nil ⟨by simp, ?_⟩))))))))
    refine o_eqLt .C .C (eqv_C .C) ?_
    repeat tb_rel
    exact fin (o := some n) rfl
  | R =>
    refine s_seq (s_if (t_test (e_op (e_var rfl (e_tup (a_cons (e_str (a_nil ⟨by simp, ?_⟩))))))))
    refine o_eqLt .R .C (eqv_C .R) ?_
    simp only [Lt.d]
    repeat tb_rel
    refine ⟨fun hb => ?_, fun hb => ?_⟩
    · have hl : ¬ 3 < l.length := by simp at hb; omega
      repeat tb_rel
      refine o_eqLt .R .E (eqv_E .R) ?_
      repeat tb_rel
      refine fin (o := none) ?_
      simp only [third]
      rw [if_neg hl]
    · have hl : 3 < l.length := by simp at hb; omega
      repeat tb_rel
      refine o_ixLs .fz (d := .int l[l.length - 1]) (atI_back (xs := l.map Sl.D.int) (j := 0) (by simp; omega) (by simp)) ?_
      repeat tb_rel
      refine o_ixLs .fz (ints_at (k := 2) (by omega)) ?_
      repeat tb_rel
      refine fin (o := some _) ?_
      simp only [third]
      rw [if_pos hl, List.getElem?_eq_getElem (by omega)]
      simp [List.getD, List.getElem?_eq_getElem (show 2 < l.length by omega)]
  | L =>
    refine s_seq (s_if (t_test (e_op (e_var rfl (e_tup (a_cons (e_str (a_nil ⟨by simp, ?_⟩))))))))
    refine o_eqLt .L .C (eqv_C .L) ?_
    simp only [Lt.d]
    repeat tb_rel
    refine ⟨fun hb => ?_, fun hb => ?_⟩
    · have hl : ¬ 3 < l.length := by simp at hb; omega
      repeat tb_rel
      refine o_eqLt .L .E (eqv_E .L) ?_
      repeat tb_rel
      refine fin (o := none) ?_
      simp only [third]
      rw [if_neg hl]
    · have hl : 3 < l.length := by simp at hb; omega
      repeat tb_rel
      refine o_ixLs .fz (d := .int l[l.length - 1]) (atI_back (xs := l.map Sl.D.int) (j := 0) (by simp; omega) (by simp)) ?_
      repeat tb_rel
      refine o_ixLs .fz (ints_at (k := 2) (by omega)) ?_
      repeat tb_rel
      refine fin (o := some _) ?_
      simp only [third]
      rw [if_pos hl, List.getElem?_eq_getElem (by omega)]
  | E =>
    refine s_seq (s_if (t_test (e_op (e_var rfl (e_tup (a_cons (e_str (a_nil ⟨by simp, ?_⟩))))))))
    refine o_eqLt .E .C (eqv_C .E) ?_
    simp only [Lt.d]
    repeat tb_rel
    refine o_eqLt .E .E (eqv_E .E) ?_
    repeat tb_rel
    refine ⟨fun hb => ?_, fun hb => ?_⟩
    · have hl : l.length = 3 := by simp at hb; omega
      repeat tb_rel
      refine o_ixLs .fz (d := .int l[l.length - 1]) (atI_back (xs := l.map Sl.D.int) (j := 0) (by simp; omega) (by simp)) ?_
      repeat tb_rel
      refine o_ixLs .fz (ints_at (k := 2) (by omega)) ?_
      repeat tb_rel
      refine fin (o := some _) ?_
      simp only [third]
      rw [if_pos hl, List.getElem?_eq_getElem (by omega)]
      simp [hl]
    · have hl : ¬ l.length = 3 := by simp at hb; omega
      repeat tb_rel
      refine fin (o := none) ?_
      simp only [third]
      rw [if_neg hl]
  | S j kk =>
    refine s_seq (s_if (t_test (e_op (e_var rfl (e_tup (a_cons (e_str (a_nil ⟨by simp, ?_⟩))))))))
    refine o_eqLt (.S j kk) .C (eqv_C _) ?_
    simp only [Lt.d]
    repeat tb_rel
    refine o_eqLt (.S j kk) .E (eqv_E _) ?_
    repeat tb_rel
    cases j with
    | zero =>
      repeat tb_rel
      refine ⟨fun hb => ?_, fun hb => ?_⟩
      · repeat tb_rel
        refine ⟨fun hb2 => ?_, fun hb2 => ?_⟩
        · simp at hb hb2
          have hk : kk < l.length := by omega
          repeat tb_rel
          refine o_ixLs .fz (ints_at? (List.getElem?_eq_getElem hk)) ?_
          refine fin (o := some _) ?_
          simp only [third]
          rw [if_pos (by omega), List.getElem?_eq_getElem hk]
        · simp at hb hb2
          repeat tb_rel
          refine fin (o := none) ?_
          simp only [third]
          rw [if_neg (by omega)]
      · simp at hb
        repeat tb_rel
        refine fin (o := none) ?_
        simp only [third]
        rw [if_neg (by omega)]
    | succ j =>
      repeat tb_rel
      refine ⟨fun hb => ?_, fun hb => ?_⟩
      · repeat tb_rel
        refine ⟨fun hb2 => ?_, fun hb2 => ?_⟩
        · simp at hb2
          have hj : j < I.length := by omega
          obtain ⟨o, ho⟩ : ∃ o, I[I.length - 1 - j]? = some o := ⟨_, List.getElem?_eq_getElem (by omega)⟩
          have ho2 : (I ++ [l])[I.length - (j + 1)]? = some o := by
            rw [List.getElem?_append_left (by omega)]
            have e2 : I.length - (j + 1) = I.length - 1 - j := by omega
            rw [e2]
            exact ho
          repeat tb_rel
          refine o_ixLs (by (first | exact Sl.LsOf.fz | exact Sl.LsOf.ce (by (repeat (first | exact Sl.At.z | apply Sl.At.s))))) (rows_back (by omega) ho2) ?_
          repeat tb_rel
          refine ⟨fun hb3 => ?_, fun hb3 => ?_⟩
          · simp at hb3
            repeat tb_rel
            refine o_ixLs .fz (ints_at? (List.getElem?_eq_getElem hb3)) ?_
            refine fin (o := some _) ?_
            simp only [third]
            rw [if_pos hj, ho]
            show _ = o[kk]?
            rw [List.getElem?_eq_getElem hb3]
          · simp at hb3
            repeat tb_rel
            refine fin (o := none) ?_
            simp only [third]
            rw [if_pos hj, ho]
            show _ = o[kk]?
            rw [List.getElem?_eq_none hb3]
        · simp at hb2
          repeat tb_rel
          refine fin (o := none) ?_
          simp only [third]
          rw [if_neg (by omega)]
      · simp at hb
end
end K32

set_option Elab.async false
set_option linter.all false
set_option autoImplicit false
set_option maxRecDepth 100000
set_option maxHeartbeats 400000
namespace K32
open PySem PySem.Spec PyProof.Rows L2 Px Sl
local macro_rules
  | `(tactic| tb_rel) => `(tactic| first
    | with_reducible refine s_forI ?_
    | with_reducible refine s_for ?_
    | with_reducible refine s_seq ?_
    | with_reducible refine s_if ?_
    | with_reducible refine s_next ?_
    | with_reducible refine s_brk ?_
    | with_reducible refine s_cont ?_
    | with_reducible refine s_retN ?_
    | with_reducible refine s_asgT ?_
    | with_reducible refine s_asgL ?_
    | with_reducible refine s_drop ?_
    | with_reducible refine s_dput ?_
    | with_reducible refine s_setIA ?_
    | with_reducible refine t_test ?_
    | with_reducible refine t_B ?_
    | with_reducible refine t_yes ?_
    | with_reducible refine t_and ?_
    | with_reducible refine t_or ?_
    | with_reducible refine t_not ?_
    | with_reducible refine e_op ?_
    | with_reducible refine e_isi ?_
    | with_reducible refine e_extN ?_
    | with_reducible refine e_appA ?_
    | with_reducible refine e_popAtA ?_
    | with_reducible refine e_cb ?_
    | with_reducible refine e_lst ?_
    | with_reducible refine e_tup ?_
    | with_reducible refine e_neg ?_
    | with_reducible refine e_int ?_
    | with_reducible refine e_str ?_
    | with_reducible refine e_bl ?_
    | with_reducible refine e_non ?_
    | with_reducible refine e_din ?_
    | with_reducible refine e_andV ?_
    | with_reducible refine e_orV ?_
    | with_reducible refine e_slLs ?_
    | with_reducible refine e_slT ?_
    | with_reducible refine e_chain ?_
    | with_reducible refine a_cons ?_
    | with_reducible refine a_nil ?_
    | with_reducible refine o_no ?_
    | with_reducible refine o_so ?_
    | with_reducible refine i_range1 ?_
    | with_reducible refine i_list ?_
    | with_reducible refine i_tup ?_
    | with_reducible refine i_enum ?_
    | with_reducible refine i_enumRev ?_
    | with_reducible refine g_name ?_
    | with_reducible refine gs_cons ?_
    | with_reducible refine gs_nil ?_
    | with_reducible refine o_int ?_
    | with_reducible refine o_bool ?_
    | with_reducible refine o_eqI ?_
    | with_reducible refine o_neI ?_
    | with_reducible refine o_eqS ?_
    | with_reducible refine o_neS ?_
    | with_reducible refine o_isN ?_
    | with_reducible refine o_notN ?_
    | with_reducible refine c_lenT ?_
    | with_reducible refine c_intB ?_
    | with_reducible refine c_min2 ?_
    | with_reducible refine c_max2 ?_
    | ((fail_if_success (with_reducible refine e_notV (e_cb (a_cons (e_lc ?_ ?_))))); (with_reducible refine e_notV ?_))
    | ((fail_if_success (with_reducible refine s_ret (e_lst ?_))); (fail_if_success (with_reducible refine s_ret (e_lc ?_ ?_))); (with_reducible refine s_ret ?_))
    | ((fail_if_success (with_reducible refine s_set (e_lst ?_))); (fail_if_success (with_reducible refine s_set (e_lc ?_ ?_))); (with_reducible refine s_set ?_))
    | ((with_reducible apply e_var); exact rfl)
    | with_reducible refine e_callG rfl ?_
    | with_reducible refine e_methG rfl ?_
    | with_reducible refine e_makeG rfl ?_
    | refine e_fld rfl (by assumption) (by assumption) ?_
    | refine s_fldA rfl (by assumption) (by assumption) ?_
    | refine o_ixT (by rfl) ?_
    | refine c_lenLs (by (first | exact Sl.LsOf.fz | exact Sl.LsOf.ce (by (repeat (first | exact Sl.At.z | apply Sl.At.s))))) ?_
    | ((with_reducible refine g_tup ?_ ?_); exact rfl)
    | with_reducible refine ⟨_, rfl, ?_⟩
    | with_reducible refine ⟨_, _, rfl, rfl, ?_⟩
    | with_reducible refine ⟨_, LsOf.fz, ?_⟩
    | refine ⟨_, _, _, _, rfl, (by (repeat (first | exact Sl.At.z | apply Sl.At.s))), (by (repeat (first | exact Sl.Lk.z | (apply Sl.Lk.s; decide +kernel)))), ?_⟩
    | refine ⟨_, _, _, rfl, (by (repeat (first | exact Sl.At.z | apply Sl.At.s))), (by rfl), ?_⟩
    | refine ⟨_, _, _, rfl, (by (repeat (first | exact Sl.At.z | apply Sl.At.s))), ?_⟩
    | refine ⟨⟨_, _, _, rfl, (by (repeat (first | exact Sl.At.z | apply Sl.At.s)))⟩, ?_⟩
    | refine ⟨_, _, _, rfl, (by (repeat (first | exact Sl.Rp.z | apply Sl.Rp.s))), (by exact Nat.le_of_ble_eq_true rfl), (by exact Nat.le_of_ble_eq_true rfl), ?_⟩
    | refine ⟨_, (by (first | exact Sl.LsOf.fz | exact Sl.LsOf.ce (by (repeat (first | exact Sl.At.z | apply Sl.At.s))))), ?_⟩
    | refine ⟨_, _, (by (first | exact Sl.LsAs.fz | exact Sl.LsAs.ce (by (repeat (first | exact Sl.At.z | apply Sl.At.s))))), ?_⟩
    | refine o_ixLs (by (first | exact Sl.LsOf.fz | exact Sl.LsOf.ce (by (repeat (first | exact Sl.At.z | apply Sl.At.s))))) (by rfl) ?_
    | refine ⟨_, _, _, _, _, rfl, rfl, (by (repeat (first | exact Sl.At.z | apply Sl.At.s))), ?_⟩
    | refine ⟨_, _, _, _, _, _, rfl, rfl, (by (repeat (first | exact Sl.At.z | apply Sl.At.s))), (by rfl), (by (repeat (first | exact Sl.Rp.z | apply Sl.Rp.s))), ?_⟩
    | refine ⟨_, _, _, _, _, rfl, (by (repeat (first | exact Sl.At.z | apply Sl.At.s))), (by (repeat (first | exact Sl.Pf.n | exact Sl.Pf.z | (apply Sl.Pf.s; decide +kernel)))), (by exact Nat.le_of_ble_eq_true rfl), (by (repeat (first | exact Sl.Rp.z | apply Sl.Rp.s))), ?_⟩
    | ((with_reducible refine And.intro ?_ ?_); exact Nat.le_of_ble_eq_true rfl)
    | with_reducible refine e_gref ?_
    | refine o_inT (by rfl) (by rfl) ?_
    | refine ⟨_, true, rfl, kit_ty (by decide +kernel), ?_⟩
    | refine ⟨_, false, rfl, kit_ty (by decide +kernel), ?_⟩
    | refine ⟨fun _ => ?_, fun hb => absurd hb (by decide +kernel)⟩
    | refine ⟨fun hb => absurd hb (by decide +kernel), fun _ => ?_⟩
    | refine ⟨fun _ => ?_, fun hb => ctT (by rfl) hb⟩
    | refine ⟨fun hb => ctT (by rfl) hb, fun _ => ?_⟩
    | refine ⟨fun _ => ?_, fun hb => ctF (by rfl) hb⟩
    | refine ⟨fun hb => ctF (by rfl) hb, fun _ => ?_⟩
    | fail)
abbrev s__law_can : Stmt := top 23
abbrev N__law_can : List Str := ["_law_front", "_law_letter", "_law_x", "_law_a", "_law_b", "_law_asked", "_law_wanted_here", "_law_thirds_here", "_law_side"]
theorem sc__law_can : FnScope N__law_can ["_law_front", "_law_letter"] (defScope s__law_can) := ⟨rfl, rfl, rfl, by decide +kernel, rfl, by decide +kernel, by decide +kernel⟩
abbrev s__law_put : Stmt := top 24
abbrev N__law_put : List Str := ["_law_front", "_law_letter", "_law_x", "_law_triple"]
theorem sc__law_put : FnScope N__law_put ["_law_front", "_law_letter"] (defScope s__law_put) := ⟨rfl, rfl, rfl, by decide +kernel, rfl, by decide +kernel, by decide +kernel⟩
/-- what can be put, on any loops -/
def canA (L : List (List Int)) (m : List Tri) (n : Int) (t : Lt) : Option Int := match L.getLast? with
  | none => none
  | some l => can L.dropLast l m n t
theorem canA_nil {m : List Tri} {n : Int} {t : Lt} : canA [] m n t = none := rfl
theorem canA_app {I : List (List Int)} {l : List Int} {m : List Tri} {n : Int} {t : Lt} : canA (I ++ [l]) m n t = can I l m n t := by
  unfold canA
  rw [List.getLast?_concat]
  simp only
  rw [List.dropLast_concat]
structure OG where
  q : OA
  L : List (List Int)
  m : List Tri
  n : Int
abbrev OG.C (g : OG) : Cs := OC g.q g.L g.m g.n
abbrev spCan (K : PySem.W.Frag) : Sp := SpG K (G := OG × Lt) (fun g => [.ref g.1.q.o, g.2.d]) (fun g => g.1.C) (fun g => Ok g.1.L g.1.m g.1.n ∧ g.1.m.length ≤ 900) (fun g out cs => out = .ret (optD (canA g.1.L g.1.m g.1.n g.2)) ∧ cs = g.1.C)
/-- any of asked in one of two tables -/
theorem e_anyTwo {Z : Zx} {g0 g1 g2 g3 g4 : Option D} {ss : List (Int × Int)} {pw pt : Addr} {kw kt : Kvs} {c : Cs} {n1 n2 : Nat} {R : D → Sy → Prop} (hl : ss.length ≤ 1000) (a1 : At c n1 pw (.dt kw)) (a2 : At c n2 pt (.dt kt))
    (r : R (.bool (ss.any fun s => hasD kw (kP s.1 s.2) || hasD kt (kP s.1 s.2))) ⟨[g0, g1, g2, g3, g4, some (.list (ss.map sideD)), some (.ref pw), some (.ref pt), none], c⟩) :
    Ed Z (tCB (rAny Z.K) (tCons (tLc (iList Z.K (tVar 5)) (gName 8) tYes (tOrV (tDIn (tVar 8) (tVar 6)) (tDIn (tVar 8) (tVar 7))) [8]) tNil)) ⟨[g0, g1, g2, g3, g4, some (.list (ss.map sideD)), some (.ref pw), some (.ref pt), none], c⟩ R := by
  refine e_cb (a_cons (e_lcMap (fun d => match d with | .tuple [.int a, .int b] => .bool (hasD kw (kP a b) || hasD kt (kP a b)) | _ => .none) (keeps_name (by simp)) ?_))
  repeat tb_rel
  refine ⟨by rw [List.length_map]; exact Nat.le_trans hl (by decide), trivial, ?_, ?_⟩
  · intro x d hd
    obtain ⟨⟨a, b⟩, hs, rfl⟩ := List.mem_map.mp hd
    repeat tb_rel
    refine ⟨_, _, _, _, _, rfl, rfl, a1, ?_⟩
    repeat tb_rel
    refine ⟨fun hb => ?_, fun hb => ?_⟩
    · repeat tb_rel
      refine ⟨_, _, _, _, _, rfl, rfl, a2, ?_⟩
      refine ⟨?_, rfl⟩
      show D.bool _ = D.bool _
      rw [hb, Bool.false_or]
    · refine ⟨?_, rfl⟩
      show D.bool _ = D.bool _
      rw [hb, Bool.true_or]
  · repeat tb_rel
    have e : (ss.map sideD).map (fun d => match d with | .tuple [.int a, .int b] => D.bool (hasD kw (kP a b) || hasD kt (kP a b)) | _ => .none) = (ss.map fun s => hasD kw (kP s.1 s.2) || hasD kt (kP s.1 s.2)).map D.bool := by
      rw [List.map_map, List.map_map]
      rfl
    rw [e]
    refine c_any ?_
    rw [List.any_map]
    exact r
def ask1 (b x : Int) : Lt → List (Int × Int)
  | .C => [(b, x), (x, b)]
  | .S _ _ => [(b, x), (x, b)]
  | .L => [(b, x), (x, b)]
  | _ => []
theorem in_two {x a b : Int} : inD (.int x) [.int a, .int b] = (decide (x = a) || decide (x = b)) := by
  unfold inD
  show inV (.int x) [.int a, .int b] = _
  simp [inV, eqV, Bool.beq_eq_decide_eq, eq_comm]
section
variable {P : Program} {w : World} {K : PySem.W.Frag} {mg : Str → Option Value} {base : Heap}
theorem cl_can (T : Tx K mg) (D : Fd K mg "_law_can" s__law_can) (c__law_third : Cl P w K mg base 1 "_law_third" (spThird K)) (c__law_wanted : Cl P w K mg base 1 "_law_wanted" (spWanted K)) (c__law_thirds : Cl P w K mg base 1 "_law_thirds" (spThirds K)) : Cl P w K mg base 2 "_law_can" (spCan K) := by
  refine mk_clG D sc__law_can (fun _ _ _ _ _ _ us hl => match us, hl with | [_, _], _ => rfl) (fun _ => rfl) (fun cdv A outer s H E hr hu => ⟨_, (pss_cons (ps_set (i := 2) sc__law_can.nd rfl (by first | exact .inl rfl | exact .inr rfl) pe_non)
    (pss_cons (ps_if (pt_cmpR (op_neD hr.units) (pe_ix ix_list (pv 0) pe_int (fun _ _ => rfl)) (pe_lst pa_nil) (nomark _)) (pss_one (ps_set (i := 2) sc__law_can.nd rfl (by first | exact .inl rfl | exact .inr rfl) (pe_cl c__law_third hr hu (by omega) (by rfl) tkN (pa_cons (pv 0) (pa_cons (pv 1) pa_nil))))) pss_nil)
    (pss_cons (ps_if (PW.pt (pw_or (pt_cmpR op_isN (pv 2) pe_non (nomark _)) (pw_or1 (pt_cmpR op_in_seq (pv 2) (pe_slice sl_list (pe_ix ix_list (pe_ix ix_list (pv 0) pe_int (fun _ _ => rfl)) (pe_un un_neg pe_int) (fun _ _ => rfl)) po_none (po_some pe_int)) (by rfl))))) (pss_one (ps_ret pe_non)) pss_nil)
    (pss_cons (ps_asg (pe_slice sl_list (pe_ix ix_list (pe_ix ix_list (pv 0) pe_int (fun _ _ => rfl)) (pe_un un_neg pe_int) (fun _ _ => rfl)) po_none (po_some pe_int)) (pg_lst rfl (pgs_cons (pg_name (i := 3) sc__law_can.nd rfl (by first | exact Or.inl rfl | exact Or.inr rfl)) (pgs_cons (pg_name (i := 4) sc__law_can.nd rfl (by first | exact Or.inl rfl | exact Or.inr rfl)) pgs_nil))))
    (pss_cons (ps_set (i := 5) sc__law_can.nd rfl (by first | exact .inl rfl | exact .inr rfl) (pe_lst pa_nil))
    (pss_cons (ps_if (pt_cmpR op_notIn_seq (pe_ix ix_tup (pv 1) pe_int (fun _ _ => rfl)) (pe_tup (pa_cons pe_str (pa_cons pe_str pa_nil))) (by rfl)) (pss_one (ps_set (i := 5) sc__law_can.nd rfl (by first | exact .inl rfl | exact .inr rfl) (pe_op op_catS (pv 5) (pe_lst (pa_cons (pe_tup (pa_cons (pv 4) (pa_cons (pv 2) pa_nil))) (pa_cons (pe_tup (pa_cons (pv 2) (pa_cons (pv 4) pa_nil))) pa_nil)))))) pss_nil)
    (pss_cons (ps_if (pt_cmpR op_notIn_seq (pe_ix ix_tup (pv 1) pe_int (fun _ _ => rfl)) (pe_tup (pa_cons pe_str (pa_cons pe_str pa_nil))) (by rfl)) (pss_one (ps_set (i := 5) sc__law_can.nd rfl (by first | exact .inl rfl | exact .inr rfl) (pe_op op_catS (pv 5) (pe_lst (pa_cons (pe_tup (pa_cons (pv 2) (pa_cons (pv 3) pa_nil))) (pa_cons (pe_tup (pa_cons (pv 3) (pa_cons (pv 2) pa_nil))) pa_nil)))))) pss_nil)
    (pss_cons (ps_set (i := 6) sc__law_can.nd rfl (by first | exact .inl rfl | exact .inr rfl) (pe_cl c__law_wanted hr hu (by omega) (by rfl) tkN (pa_cons (pe_ix ix_list (pv 0) pe_int (fun _ _ => rfl)) pa_nil)))
    (pss_cons (ps_set (i := 7) sc__law_can.nd rfl (by first | exact .inl rfl | exact .inr rfl) (pe_cl c__law_thirds hr hu (by omega) (by rfl) tkN (pa_cons (pe_ix ix_list (pv 0) pe_int (fun _ _ => rfl)) pa_nil)))
    (pss_cons (ps_if (pt_val (pe_callB (cr_any rfl) (by rfl) T.f_any (by decide +kernel) (pa_cons (pe_lc (own := [("_law_side", 8)]) (g := gName 8) (tt := tYes) (te := tOrV (tDIn (tVar 8) (tVar 6)) (tDIn (tVar 8) (tVar 7))) rfl sc__law_can.nd (pi_list (pv 5)) (blkOk_by (N := N__law_can) (sc := defScope s__law_can) (by decide +kernel)) (fun _ _ _ _ _ => (pg_name (i := 8) sc__law_can.nd rfl (by first | exact Or.inl rfl | exact Or.inr rfl))) (fun _ _ _ _ _ => pts_nil) (fun _ _ _ _ _ => (pe_or (pe_cmp (pc_din (units1 hr.units) (pv 8) (pv 6))) (pe_one (pe_cmp (pc_din (units1 hr.units) (pv 8) (pv 7))))))) pa_nil))) (pss_one (ps_ret pe_non)) pss_nil)
    (pss_one (ps_ret (pv 2))))))))))))), ?_⟩)
  rintro ⟨⟨q, L, m, n⟩, t⟩ ⟨ok, hm⟩ Zf ee hE hx
  try dsimp only [cxOf]
  dsimp only at ok hm
  have fin : ∀ {g : List (Option Sl.D)} {c r : Cs} {o : Option Int}, o = canA L m n t → Take (OC q L m n) c r → ee.rt (optD o) ⟨g, c⟩ := fun {g c r o} e tk => by
    subst e
    exact hE.rt (cs' := OC q L m n) (r := r) tk ⟨rfl, rfl⟩
  repeat tb_rel
  refine o_neNil (by (first | exact Sl.LsOf.fz | exact Sl.LsOf.ce (by (repeat (first | exact Sl.At.z | apply Sl.At.s))))) rows_pd (rows_shp.mono (by decide)) ?_
  repeat tb_rel
  rcases List.eq_nil_or_concat L with rfl | ⟨I, l, rfl⟩
  · repeat tb_rel
    exact fin (o := none) rfl (by (repeat (first | exact Sl.Take.nil | (apply Sl.Take.cons; (repeat (first | exact Sl.Rm.z | apply Sl.Rm.s))))))
  rw [List.concat_eq_append] at *
  have hne : (!(rowsD (I ++ [l])).isEmpty) = true := by simp
  refine ⟨fun _ => ?_, fun hb => ctT hne hb⟩
  have sm := sm_of ok hm
  have h2 := sm.two
  repeat tb_rel
  refine ⟨(q, I, l, m, n, t), _, rfl, (by (repeat (first | exact Sl.Take.nil | (apply Sl.Take.cons; (repeat (first | exact Sl.Rm.z | apply Sl.Rm.s)))))), trivial, ?_⟩
  rintro out cs ⟨rfl, rfl⟩
  dsimp only
  cases h3 : third I l n t with
  | none =>
    simp only [optD]
    repeat tb_rel
    refine fin (o := none) ?_ (by (repeat (first | exact Sl.Take.nil | (apply Sl.Take.cons; (repeat (first | exact Sl.Rm.z | apply Sl.Rm.s))))))
    rw [canA_app]
    unfold can
    rw [h3]
  | some x =>
    simp only [optD]
    repeat tb_rel
    refine o_ixLs (by (first | exact Sl.LsOf.fz | exact Sl.LsOf.ce (by (repeat (first | exact Sl.At.z | apply Sl.At.s))))) rows_last ?_
    repeat tb_rel
    rw [cut_to2, take2 h2]
    refine o_inLs .fz rfl rfl ?_
    repeat tb_rel
    rw [if_neg (by decide), in_two]
    refine ⟨fun hb => ?_, fun hb => ?_⟩
    · repeat tb_rel
      refine fin (o := none) ?_ (by (repeat (first | exact Sl.Take.nil | (apply Sl.Take.cons; (repeat (first | exact Sl.Rm.z | apply Sl.Rm.s))))))
      rw [canA_app]
      unfold can
      rw [h3]
      simp only
      rw [if_pos]
      rcases Bool.or_eq_true_iff.mp hb with hb | hb
      · exact .inl (of_decide_eq_true hb)
      · exact .inr (.inl (of_decide_eq_true hb))
    · obtain ⟨hb0, hb1⟩ := Bool.or_eq_false_iff.mp hb
      repeat tb_rel
      refine o_ixLs (by (first | exact Sl.LsOf.fz | exact Sl.LsOf.ce (by (repeat (first | exact Sl.At.z | apply Sl.At.s))))) rows_last ?_
      repeat tb_rel
      rw [cut_to2, take2 h2]
      refine g_lst .fz rfl ?_
      refine gs_cons (g_name (gs_cons (g_name (gs_nil ?_))))
      refine s_seq (s_set (e_lst (a_nil ⟨by simp, ?_⟩)))
      show Sd _ _ ⟨[some (.ref q.o), some t.d, some (.int x), some (.int (l.getD 0 0)), some (.int (l.getD 1 0)), some (.list []), none, none, none], OC q (I ++ [l]) m n⟩ _
      refine s_cut (M := fun Γ' => Γ' = ⟨[some (.ref q.o), some t.d, some (.int x), some (.int (l.getD 0 0)), some (.int (l.getD 1 0)), some (.list ((ask1 (l.getD 1 0) x t).map sideD)), none, none, none], OC q (I ++ [l]) m n⟩) ?_ ?_
      · cases t with
        | C =>
          simp only [Lt.d]
          repeat tb_rel
          refine o_catLs .fz .fz (by simp) rfl
        | L =>
          simp only [Lt.d]
          repeat tb_rel
          refine o_catLs .fz .fz (by simp) rfl
        | S j k =>
          simp only [Lt.d]
          repeat tb_rel
          refine o_catLs .fz .fz (by simp) rfl
        | R =>
          simp only [Lt.d]
          repeat tb_rel
          rfl
        | E =>
          simp only [Lt.d]
          repeat tb_rel
          rfl
      rintro _ rfl
      refine s_cut (M := fun Γ' => Γ' = ⟨[some (.ref q.o), some t.d, some (.int x), some (.int (l.getD 0 0)), some (.int (l.getD 1 0)), some (.list ((asked (l.getD 0 0) (l.getD 1 0) x t).map sideD)), none, none, none], OC q (I ++ [l]) m n⟩) ?_ ?_
      · cases t with
        | C =>
          simp only [Lt.d]
          repeat tb_rel
          refine o_catLs .fz .fz (by simp [ask1]) rfl
        | R =>
          simp only [Lt.d]
          repeat tb_rel
          refine o_catLs .fz .fz (by simp [ask1]) rfl
        | S j k =>
          simp only [Lt.d]
          repeat tb_rel
          refine o_catLs .fz .fz (by simp [ask1]) rfl
        | L =>
          simp only [Lt.d]
          repeat tb_rel
          rfl
        | E =>
          simp only [Lt.d]
          repeat tb_rel
          rfl
      rintro _ rfl
      repeat tb_rel
      refine ⟨(q.r, I ++ [l]), _, rfl, (by (repeat (first | exact Sl.Take.nil | (apply Sl.Take.cons; (repeat (first | exact Sl.Rm.z | apply Sl.Rm.s)))))), ⟨by have := ok.tot; dsimp only; omega, ok.len⟩, ?_⟩
      rintro out cs ⟨pw, kw, hW, rfl, rfl⟩
      repeat tb_rel
      refine ⟨(q.m, m), _, rfl, (by (repeat (first | exact Sl.Take.nil | (apply Sl.Take.cons; (repeat (first | exact Sl.Rm.z | apply Sl.Rm.s)))))), (by dsimp only; omega), ?_⟩
      rintro out cs ⟨pt, kt, hT, rfl, rfl⟩
      refine s_seq (s_if (t_B (e_anyTwo (ss := asked (l.getD 0 0) (l.getD 1 0) x t) ?_ (by (repeat (first | exact Sl.At.z | apply Sl.At.s))) (by (repeat (first | exact Sl.At.z | apply Sl.At.s))) ⟨_, rfl, ?_⟩)))
      · cases t <;> exact Nat.le_of_ble_eq_true rfl
      have ea : ((asked (l.getD 0 0) (l.getD 1 0) x t).any fun s => hasD kw (kP s.1 s.2) || hasD kt (kP s.1 s.2)) = (asked (l.getD 0 0) (l.getD 1 0) x t).any fun s => decide (s ∈ sides m) := by
        rw [← look (a := l.getD 0 0) (b := l.getD 1 0) ok h3 (W := fun s => hasD kw (kP s.1 s.2)) fun s => hW s.1 s.2]
        congr 1
        funext s
        rw [hT.1 s.1 s.2]
      rw [ea]
      refine ⟨fun hb => ?_, fun hb => ?_⟩
      · repeat tb_rel
        refine fin (o := none) ?_ (by (repeat (first | exact Sl.Take.nil | (apply Sl.Take.cons; (repeat (first | exact Sl.Rm.z | apply Sl.Rm.s))))))
        rw [canA_app]
        unfold can
        rw [h3]
        simp only
        rw [if_pos (.inr (.inr hb))]
      · repeat tb_rel
        refine fin (o := some x) ?_ (by (repeat (first | exact Sl.Take.nil | (apply Sl.Take.cons; (repeat (first | exact Sl.Rm.z | apply Sl.Rm.s))))))
        rw [canA_app]
        unfold can
        rw [h3]
        simp only
        rw [if_neg]
        rintro (h | h | h)
        · rw [decide_eq_true h] at hb0
          cases hb0
        · rw [decide_eq_true h] at hb1
          cases hb1
        · rw [h] at hb
          cases hb
end
end K32

set_option Elab.async false
set_option linter.all false
set_option autoImplicit false
set_option maxRecDepth 100000
set_option maxHeartbeats 400000
namespace K32
open PySem PySem.Spec PyProof.Rows L2 Px Sl
local macro_rules
  | `(tactic| tb_rel) => `(tactic| first
    | with_reducible refine s_forI ?_
    | with_reducible refine s_for ?_
    | with_reducible refine s_seq ?_
    | with_reducible refine s_if ?_
    | with_reducible refine s_next ?_
    | with_reducible refine s_brk ?_
    | with_reducible refine s_cont ?_
    | with_reducible refine s_retN ?_
    | with_reducible refine s_asgT ?_
    | with_reducible refine s_asgL ?_
    | with_reducible refine s_drop ?_
    | with_reducible refine s_dput ?_
    | with_reducible refine s_setIA ?_
    | with_reducible refine t_test ?_
    | with_reducible refine t_B ?_
    | with_reducible refine t_yes ?_
    | with_reducible refine t_and ?_
    | with_reducible refine t_or ?_
    | with_reducible refine t_not ?_
    | with_reducible refine e_op ?_
    | with_reducible refine e_isi ?_
    | with_reducible refine e_extN ?_
    | with_reducible refine e_appA ?_
    | with_reducible refine e_popAtA ?_
    | with_reducible refine e_cb ?_
    | with_reducible refine e_lst ?_
    | with_reducible refine e_tup ?_
    | with_reducible refine e_neg ?_
    | with_reducible refine e_int ?_
    | with_reducible refine e_str ?_
    | with_reducible refine e_bl ?_
    | with_reducible refine e_non ?_
    | with_reducible refine e_din ?_
    | with_reducible refine e_andV ?_
    | with_reducible refine e_orV ?_
    | with_reducible refine e_slLs ?_
    | with_reducible refine e_slT ?_
    | with_reducible refine e_chain ?_
    | with_reducible refine a_cons ?_
    | with_reducible refine a_nil ?_
    | with_reducible refine o_no ?_
    | with_reducible refine o_so ?_
    | with_reducible refine i_range1 ?_
    | with_reducible refine i_list ?_
    | with_reducible refine i_tup ?_
    | with_reducible refine i_enum ?_
    | with_reducible refine i_enumRev ?_
    | with_reducible refine g_name ?_
    | with_reducible refine gs_cons ?_
    | with_reducible refine gs_nil ?_
    | with_reducible refine o_int ?_
    | with_reducible refine o_bool ?_
    | with_reducible refine o_eqI ?_
    | with_reducible refine o_neI ?_
    | with_reducible refine o_eqS ?_
    | with_reducible refine o_neS ?_
    | with_reducible refine o_isN ?_
    | with_reducible refine o_notN ?_
    | with_reducible refine c_lenT ?_
    | with_reducible refine c_intB ?_
    | with_reducible refine c_min2 ?_
    | with_reducible refine c_max2 ?_
    | ((fail_if_success (with_reducible refine e_notV (e_cb (a_cons (e_lc ?_ ?_))))); (with_reducible refine e_notV ?_))
    | ((fail_if_success (with_reducible refine s_ret (e_lst ?_))); (fail_if_success (with_reducible refine s_ret (e_lc ?_ ?_))); (with_reducible refine s_ret ?_))
    | ((fail_if_success (with_reducible refine s_set (e_lst ?_))); (fail_if_success (with_reducible refine s_set (e_lc ?_ ?_))); (with_reducible refine s_set ?_))
    | ((with_reducible apply e_var); exact rfl)
    | with_reducible refine e_callG rfl ?_
    | with_reducible refine e_methG rfl ?_
    | with_reducible refine e_makeG rfl ?_
    | refine e_fld rfl (by assumption) (by assumption) ?_
    | refine s_fldA rfl (by assumption) (by assumption) ?_
    | refine o_ixT (by rfl) ?_
    | refine c_lenLs (by (first | exact Sl.LsOf.fz | exact Sl.LsOf.ce (by (repeat (first | exact Sl.At.z | apply Sl.At.s))))) ?_
    | ((with_reducible refine g_tup ?_ ?_); exact rfl)
    | with_reducible refine ⟨_, rfl, ?_⟩
    | with_reducible refine ⟨_, _, rfl, rfl, ?_⟩
    | with_reducible refine ⟨_, LsOf.fz, ?_⟩
    | refine ⟨_, _, _, _, rfl, (by (repeat (first | exact Sl.At.z | apply Sl.At.s))), (by (repeat (first | exact Sl.Lk.z | (apply Sl.Lk.s; decide +kernel)))), ?_⟩
    | refine ⟨_, _, _, rfl, (by (repeat (first | exact Sl.At.z | apply Sl.At.s))), (by rfl), ?_⟩
    | refine ⟨_, _, _, rfl, (by (repeat (first | exact Sl.At.z | apply Sl.At.s))), ?_⟩
    | refine ⟨⟨_, _, _, rfl, (by (repeat (first | exact Sl.At.z | apply Sl.At.s)))⟩, ?_⟩
    | refine ⟨_, _, _, rfl, (by (repeat (first | exact Sl.Rp.z | apply Sl.Rp.s))), (by exact Nat.le_of_ble_eq_true rfl), (by exact Nat.le_of_ble_eq_true rfl), ?_⟩
    | refine ⟨_, (by (first | exact Sl.LsOf.fz | exact Sl.LsOf.ce (by (repeat (first | exact Sl.At.z | apply Sl.At.s))))), ?_⟩
    | refine ⟨_, _, (by (first | exact Sl.LsAs.fz | exact Sl.LsAs.ce (by (repeat (first | exact Sl.At.z | apply Sl.At.s))))), ?_⟩
    | refine o_ixLs (by (first | exact Sl.LsOf.fz | exact Sl.LsOf.ce (by (repeat (first | exact Sl.At.z | apply Sl.At.s))))) (by rfl) ?_
    | refine ⟨_, _, _, _, _, rfl, rfl, (by (repeat (first | exact Sl.At.z | apply Sl.At.s))), ?_⟩
    | refine ⟨_, _, _, _, _, _, rfl, rfl, (by (repeat (first | exact Sl.At.z | apply Sl.At.s))), (by rfl), (by (repeat (first | exact Sl.Rp.z | apply Sl.Rp.s))), ?_⟩
    | refine ⟨_, _, _, _, _, rfl, (by (repeat (first | exact Sl.At.z | apply Sl.At.s))), (by (repeat (first | exact Sl.Pf.n | exact Sl.Pf.z | (apply Sl.Pf.s; decide +kernel)))), (by exact Nat.le_of_ble_eq_true rfl), (by (repeat (first | exact Sl.Rp.z | apply Sl.Rp.s))), ?_⟩
    | ((with_reducible refine And.intro ?_ ?_); exact Nat.le_of_ble_eq_true rfl)
    | with_reducible refine e_gref ?_
    | refine o_inT (by rfl) (by rfl) ?_
    | refine ⟨_, true, rfl, kit_ty (by decide +kernel), ?_⟩
    | refine ⟨_, false, rfl, kit_ty (by decide +kernel), ?_⟩
    | refine ⟨fun _ => ?_, fun hb => absurd hb (by decide +kernel)⟩
    | refine ⟨fun hb => absurd hb (by decide +kernel), fun _ => ?_⟩
    | refine ⟨fun _ => ?_, fun hb => ctT (by rfl) hb⟩
    | refine ⟨fun hb => ctT (by rfl) hb, fun _ => ?_⟩
    | refine ⟨fun _ => ?_, fun hb => ctF (by rfl) hb⟩
    | refine ⟨fun hb => ctF (by rfl) hb, fun _ => ?_⟩
    | fail)
abbrev s__law_partings : Stmt := top 25
abbrev N__law_partings : List Str := ["_law_front", "_law_found", "_law_j", "_law_loop", "_law_k", "_law_letter"]
theorem sc__law_partings : FnScope N__law_partings ["_law_front"] (defScope s__law_partings) := ⟨rfl, rfl, rfl, by decide +kernel, rfl, by decide +kernel, by decide +kernel⟩
abbrev s__law_letter_drawn : Stmt := top 26
abbrev N__law_letter_drawn : List Str := ["_law_pot_here", "_law_own", "_law_way", "_law_some", "_law_letter"]
theorem sc__law_letter_drawn : FnScope N__law_letter_drawn ["_law_pot_here", "_law_own"] (defScope s__law_letter_drawn) := ⟨rfl, rfl, rfl, by decide +kernel, rfl, by decide +kernel, by decide +kernel⟩
structure OL where
  q : OA
  I : List (List Int)
  l : List Int
  m : List Tri
  n : Int
abbrev OL.C (g : OL) : Cs := OC g.q (g.I ++ [g.l]) g.m g.n
abbrev spPutL (K : PySem.W.Frag) : Sp := SpG K (G := OL × Lt × Int) (fun g => [.ref g.1.q.o, g.2.1.d]) (fun g => g.1.C) (fun g => Ok (g.1.I ++ [g.1.l]) g.1.m g.1.n ∧ g.1.m.length ≤ 900 ∧ can g.1.I g.1.l g.1.m g.1.n g.2.1 = some g.2.2) (fun g out cs => out = .ret (triD (tri g.1.l g.2.2)) ∧ cs = OC g.1.q (step g.1.I g.1.l g.2.2 g.2.1) (g.1.m ++ [tri g.1.l g.2.2]) (more g.1.n g.2.1))
def Cans (L : List (List Int)) (m : List Tri) (n : Int) (ts : List Lt) : Prop := ∀ t ∈ ts, ∃ x, canA L m n t = some x
abbrev spParts (K : PySem.W.Frag) : Sp := SpG K (G := OG) (fun g => [.ref g.q.o]) (fun g => g.C) (fun g => Ok g.L g.m g.n ∧ g.m.length ≤ 900) (fun g out cs => ∃ ts : List Lt, Cans g.L g.m g.n ts ∧ ts.length ≤ 1000 ∧ out = .ret (.list (ts.map Lt.d)) ∧ cs = g.C)
abbrev spDrawn (K : PySem.W.Frag) : Sp := SpG K (G := OL × Addr × Int × Int) (fun g => [.ref g.2.1, .ref g.1.q.o]) (fun g => g.1.C ++ [(g.2.1, pot g.2.2.1 g.2.2.2)]) (fun g => Ok (g.1.I ++ [g.1.l]) g.1.m g.1.n ∧ g.1.m.length ≤ 900 ∧ Pot g.2.2.1 g.2.2.2) (fun g out cs => ∃ t x a b, can g.1.I g.1.l g.1.m g.1.n t = some x ∧ Pot a b ∧ out = .ret t.d ∧ cs = g.1.C ++ [(g.2.1, pot a b)])
section
variable {P : Program} {w : World} {K : PySem.W.Frag} {mg : Str → Option Value} {base : Heap}
theorem cl_putL (T : Tx K mg) (D : Fd K mg "_law_put" s__law_put) (c__law_can : Cl P w K mg base 2 "_law_can" (spCan K)) (c__law_step : Cl P w K mg base 1 "_law_step" (spStep K)) : Cl P w K mg base 3 "_law_put" (spPutL K) := by
  refine mk_clG D sc__law_put (fun _ _ _ _ _ _ us hl => match us, hl with | [_, _], _ => rfl) (fun _ => rfl) (fun cdv A outer s H E hr hu => ⟨_, (pss_cons (ps_set (i := 2) sc__law_put.nd rfl (by first | exact .inl rfl | exact .inr rfl) (pe_cl c__law_can hr hu (by omega) (by rfl) tkN (pa_cons (pv 0) (pa_cons (pv 1) pa_nil))))
    (pss_cons (ps_if (pt_cmpR op_isN (pv 2) pe_non (nomark _)) (pss_one (ps_ret pe_non)) pss_nil)
    (pss_cons (ps_set (i := 3) sc__law_put.nd rfl (by first | exact .inl rfl | exact .inr rfl) (pe_tup (pa_cons (pe_ix ix_list (pe_ix ix_list (pe_ix ix_list (pv 0) pe_int (fun _ _ => rfl)) (pe_un un_neg pe_int) (fun _ _ => rfl)) pe_int (fun _ _ => rfl)) (pa_cons (pe_ix ix_list (pe_ix ix_list (pe_ix ix_list (pv 0) pe_int (fun _ _ => rfl)) (pe_un un_neg pe_int) (fun _ _ => rfl)) pe_int (fun _ _ => rfl)) (pa_cons (pv 2) pa_nil)))))
    (pss_cons (ps_expr (pe_cl c__law_step hr hu (by omega) (by rfl) tkN (pa_cons (pe_ix ix_list (pv 0) pe_int (fun _ _ => rfl)) (pa_cons (pv 1) (pa_cons (pv 2) pa_nil)))))
    (pss_cons (ps_expr (pe_bm PySem.F.plainAttrs_list PySem.F.slot_list_append PySem.F.type_list_append mt_append (pe_ix ix_list (pv 0) pe_int (fun _ _ => rfl)) (pa_cons (pv 3) pa_nil)))
    (pss_cons (ps_asg (pe_callB (call_max2 rfl) (by rfl) T.f_max (by decide +kernel) (pa_cons (pe_ix ix_list (pv 0) pe_int (fun _ _ => rfl)) (pa_cons (pe_op op_add (pv 2) pe_int) pa_nil))) (pg_sub (pv 0) pe_int set_list))
    (pss_one (ps_ret (pv 3))))))))), ?_⟩)
  rintro ⟨⟨q, I, l, m, n⟩, t, x⟩ ⟨ok, hm, hc⟩ Zf ee hE hx
  try dsimp only [cxOf]
  dsimp only at ok hm hc
  have h3 := third_of_can hc
  have sm := sm_of ok hm
  have h2 := sm.two
  repeat tb_rel
  refine ⟨(⟨q, I ++ [l], m, n⟩, t), _, rfl, (by (repeat (first | exact Sl.Take.nil | (apply Sl.Take.cons; (repeat (first | exact Sl.Rm.z | apply Sl.Rm.s)))))), ⟨ok, hm⟩, ?_⟩
  rintro out cs ⟨rfl, rfl⟩
  dsimp only
  rw [canA_app, hc]
  simp only [optD]
  repeat tb_rel
  refine o_ixLs (by (first | exact Sl.LsOf.fz | exact Sl.LsOf.ce (by (repeat (first | exact Sl.At.z | apply Sl.At.s))))) rows_last ?_
  repeat tb_rel
  refine o_ixLs .fz (ints_at (k := 0) (by omega)) ?_
  repeat tb_rel
  refine o_ixLs (by (first | exact Sl.LsOf.fz | exact Sl.LsOf.ce (by (repeat (first | exact Sl.At.z | apply Sl.At.s))))) rows_last ?_
  repeat tb_rel
  refine o_ixLs .fz (ints_at (k := 1) (by omega)) ?_
  repeat tb_rel
  refine ⟨(q.r, I, l, n, t, x), _, rfl, (by (repeat (first | exact Sl.Take.nil | (apply Sl.Take.cons; (repeat (first | exact Sl.Rm.z | apply Sl.Rm.s)))))), ⟨sm, h3⟩, ?_⟩
  rintro out cs ⟨rfl, rfl⟩
  repeat tb_rel
  refine ⟨_, _, ?_, (by (repeat (first | exact Sl.Rp.z | apply Sl.Rp.s))), ?_⟩
  · show (madeD m).length < 100000
    rw [List.length_map]; omega
  repeat tb_rel
  rw [more_max ok h3]
  repeat tb_rel
  have e : madeD (m ++ [tri l x]) = madeD m ++ [triD (tri l x)] := List.map_append
  refine hE.rt (cs' := OC q (step I l x t) (m ++ [tri l x]) (more n t)) (r := []) ?_ ⟨rfl, rfl⟩
  show Take [_, _, (q.m, HD.lst (madeD (m ++ [tri l x])))] _ _
  rw [e]
  (repeat (first | exact Sl.Take.nil | (apply Sl.Take.cons; (repeat (first | exact Sl.Rm.z | apply Sl.Rm.s)))))
theorem cl_partings (T : Tx K mg) (D : Fd K mg "_law_partings" s__law_partings) (c__law_can : Cl P w K mg base 2 "_law_can" (spCan K)) : Cl P w K mg base 3 "_law_partings" (spParts K) := by
  refine mk_clG D sc__law_partings (fun _ _ _ _ _ _ us hl => match us, hl with | [_], _ => rfl) (fun _ => rfl) (fun cdv A outer s H E hr hu => ⟨_, (pss_cons (ps_set (i := 1) sc__law_partings.nd rfl (by first | exact .inl rfl | exact .inr rfl) (pe_lst pa_nil))
    (pss_cons (ps_for PassesOwn.leaving rfl (pi_enumRev (by rfl) T.f_enumerate (by rfl) T.f_reversed (pa_cons (pe_ix ix_list (pv 0) pe_int (fun _ _ => rfl)) pa_nil)) (pg_tup rfl (pgs_cons (pg_name (i := 2) sc__law_partings.nd rfl (by first | exact Or.inl rfl | exact Or.inr rfl)) (pgs_cons (pg_name (i := 3) sc__law_partings.nd rfl (by first | exact Or.inl rfl | exact Or.inr rfl)) pgs_nil))) (pss_one (ps_set (i := 1) sc__law_partings.nd rfl (by first | exact .inl rfl | exact .inr rfl) (pe_op op_catS (pv 1) (pe_lc (own := [("_law_k", 4)]) (g := gName 4) (tt := tYes) (te := tTup (tCons (tC (.str "S")) (tCons (tVar 2) (tCons (tVar 4) tNil)))) rfl sc__law_partings.nd (pi_range1 (by rfl) T.f_range (pa_cons (pe_callB call_len_seq (by rfl) T.f_len boot_len (pa_cons (pv 3) pa_nil)) pa_nil)) (blkOk_by (N := N__law_partings) (sc := defScope s__law_partings) (by decide +kernel)) (fun _ _ _ _ _ => (pg_name (i := 4) sc__law_partings.nd rfl (by first | exact Or.inl rfl | exact Or.inr rfl))) (fun _ _ _ _ _ => pts_nil) (fun _ _ _ _ _ => (pe_tup (pa_cons pe_str (pa_cons (pv 2) (pa_cons (pv 4) pa_nil))))))))))
    (pss_one (ps_ret (pe_lc (own := [("_law_letter", 5)]) (g := gName 5) (tt := tTest (tOp (fun x y H Q => y = .non ∧ Q (.bl (!decide (x = .non))) H) (tCallS (spCan K) (WE fun _ _ _ _ => False) (tCons (tVar 0) (tCons (tVar 5) tNil))) (tC .non))) (te := tVar 5) rfl sc__law_partings.nd (pi_list (pv 1)) (blkOk_by (N := N__law_partings) (sc := defScope s__law_partings) (by decide +kernel)) (fun _ _ _ _ _ => (pg_name (i := 5) sc__law_partings.nd rfl (by first | exact Or.inl rfl | exact Or.inr rfl))) (fun _ _ _ _ _ => (pts_one (pt_cmpR op_notN (pe_cl c__law_can hr hu (by omega) (by rfl) tkN (pa_cons (pv 0) (pa_cons (pv 5) pa_nil))) pe_non (nomark _)))) (fun _ _ _ _ _ => (pv 5))))))), ?_⟩)
  rintro ⟨q, L, m, n⟩ ⟨ok, hm⟩ Zf ee hE hx
  try dsimp only [cxOf]
  dsimp only at ok hm
  have tot : (L.map List.length).sum ≤ 902 := by have := ok.tot; omega
  refine s_seq (s_set (e_lst (a_nil ⟨by simp, ?_⟩)))
  repeat tb_rel
  refine for_by (fun i Γ' => ∃ (ts : List Lt) (u1 u2 u3 : Option Sl.D), ts.length ≤ ((L.reverse.take i).map List.length).sum ∧ Γ' = ⟨[some (.ref q.o), some (.list (ts.map Lt.d)), u1, u2, u3, none], OC q L m n⟩) ⟨[], none, none, none, Nat.zero_le _, rfl⟩ ?_ ?_ ?_
  · rintro i Γ' ⟨ts, u1, u2, u3, h1, rfl⟩
    show _ ∈ [_, _, _]
    simp
  · rintro i d Γ' hd ⟨ts, u1, u2, u3, h1, rfl⟩
    obtain ⟨l, hl, rfl⟩ : ∃ l, L.reverse[i]? = some l ∧ d = .tuple [.int (i : Nat), intsD l] := by
      obtain ⟨e, he, rfl⟩ := enumD_get hd
      rw [← List.map_reverse, List.getElem?_map] at he
      cases e2 : L.reverse[i]? with
      | none => rw [e2] at he; cases he
      | some l => rw [e2] at he; cases he; exact ⟨l, rfl, rfl⟩
    obtain ⟨hi, ei⟩ := List.getElem?_eq_some_iff.mp hl
    have hs : ((L.reverse.take i).map List.length).sum + l.length ≤ 902 := by
      have := sum_take (L := L.reverse) (i + 1)
      rw [List.take_succ_eq_append_getElem hi, ei, sum_rev, List.map_append, List.sum_append] at this
      have e1 : (List.map List.length [l]).sum = l.length := by simp
      rw [e1] at this
      omega
    repeat tb_rel
    refine e_lcMap (fun d => .tuple [.str "S", .int (i : Nat), d]) (keeps_name (by simp)) ?_
    repeat tb_rel
    have en : ((List.map Sl.D.int l).length : Int).toNat = l.length := by rw [List.length_map]; omega
    have el : (List.map Sl.D.int l).length = l.length := List.length_map ..
    refine ⟨by omega, by omega, by rw [rangeD_len, en]; omega, trivial, fun x d hd => ?_, ?_⟩
    · repeat tb_rel
      exact ⟨rfl, rfl⟩
    · have e2 : (rangeD 0 ((List.map Sl.D.int l).length : Int).toNat).map (fun d => Sl.D.tuple [.str "S", .int (i : Nat), d]) = ((List.range l.length).map (Lt.S i)).map Lt.d := by
        rw [en]
        unfold rangeD
        rw [List.map_map, List.map_map]
        apply List.map_congr_left
        intro a _
        simp [Lt.d]
      rw [e2]
      refine o_catLs .fz .fz (by simp; omega) ?_
      refine ⟨ts ++ (List.range l.length).map (Lt.S i), some (.int (i : Nat)), some (intsD l), none, ?_, ?_⟩
      · rw [List.take_succ_eq_append_getElem hi, ei, List.map_append, List.sum_append, List.length_append]
        simpa using h1
      · rw [← List.map_append]
        rfl
  · rintro Γ' ⟨ts, u1, u2, u3, h1, rfl⟩
    have tl : ts.length ≤ 1000 := by
      have := sum_take (L := L.reverse) (enumD (rowsD L).reverse).length
      rw [sum_rev] at this
      exact Nat.le_trans h1 (Nat.le_trans this (by omega))
    refine s_ret (e_lc (keeps_name (by simp)) ?_)
    repeat tb_rel
    refine ⟨by rw [List.length_map]; omega, fun i acc Γ' => ∃ us : List Lt, us.length ≤ i ∧ Cans L m n us ∧ acc = us.map Lt.d ∧ Γ' = ⟨[some (.ref q.o), some (.list (ts.map Lt.d)), u1, u2, u3, none], OC q L m n⟩, ⟨[], Nat.le_refl _, (fun t ht => nomatch ht), rfl, rfl⟩, fun _ _ _ _ => trivial, ?_, ?_⟩
    · rintro x i d acc Γ' hd ⟨us, h2, h3, rfl, rfl⟩
      obtain ⟨t, rfl⟩ : ∃ t : Lt, d = t.d := by
        obtain ⟨t, _, e⟩ := List.mem_map.mp (List.mem_of_getElem? hd)
        exact ⟨t, e.symm⟩
      repeat tb_rel
      refine ⟨(⟨q, L, m, n⟩, t), _, rfl, (by (repeat (first | exact Sl.Take.nil | (apply Sl.Take.cons; (repeat (first | exact Sl.Rm.z | apply Sl.Rm.s)))))), ⟨ok, hm⟩, ?_⟩
      rintro out cs ⟨rfl, rfl⟩
      repeat tb_rel
      refine ⟨fun hb => ?_, fun hb => ?_⟩
      · repeat tb_rel
        refine ⟨us ++ [t], by simp; omega, fun t' ht' => ?_, by rw [List.map_append]; rfl, rfl⟩
        rcases List.mem_append.mp ht' with h | h
        · exact h3 t' h
        · rw [List.mem_singleton] at h
          subst h
          cases e : canA L m n t' with
          | none => rw [e] at hb; cases hb
          | some y => exact ⟨y, rfl⟩
      · exact ⟨us, by omega, h3, rfl, rfl⟩
    · rintro acc Γ' ⟨us, h2, h3, rfl, rfl⟩
      rw [List.length_map] at h2
      exact hE.rt (cs' := OC q L m n) (r := []) (by (repeat (first | exact Sl.Take.nil | (apply Sl.Take.cons; (repeat (first | exact Sl.Rm.z | apply Sl.Rm.s)))))) ⟨us, h3, by omega, rfl, rfl⟩
end
end K32

set_option Elab.async false
set_option linter.all false
set_option autoImplicit false
set_option maxRecDepth 100000
set_option maxHeartbeats 400000
namespace K32
open PySem PySem.Spec PyProof.Rows L2 Px Sl
local macro_rules
  | `(tactic| tb_rel) => `(tactic| first
    | with_reducible refine s_forI ?_
    | with_reducible refine s_for ?_
    | with_reducible refine s_seq ?_
    | with_reducible refine s_if ?_
    | with_reducible refine s_next ?_
    | with_reducible refine s_brk ?_
    | with_reducible refine s_cont ?_
    | with_reducible refine s_retN ?_
    | with_reducible refine s_asgT ?_
    | with_reducible refine s_asgL ?_
    | with_reducible refine s_drop ?_
    | with_reducible refine s_dput ?_
    | with_reducible refine s_setIA ?_
    | with_reducible refine t_test ?_
    | with_reducible refine t_B ?_
    | with_reducible refine t_yes ?_
    | with_reducible refine t_and ?_
    | with_reducible refine t_or ?_
    | with_reducible refine t_not ?_
    | with_reducible refine e_op ?_
    | with_reducible refine e_isi ?_
    | with_reducible refine e_extN ?_
    | with_reducible refine e_appA ?_
    | with_reducible refine e_popAtA ?_
    | with_reducible refine e_cb ?_
    | with_reducible refine e_lst ?_
    | with_reducible refine e_tup ?_
    | with_reducible refine e_neg ?_
    | with_reducible refine e_int ?_
    | with_reducible refine e_str ?_
    | with_reducible refine e_bl ?_
    | with_reducible refine e_non ?_
    | with_reducible refine e_din ?_
    | with_reducible refine e_andV ?_
    | with_reducible refine e_orV ?_
    | with_reducible refine e_slLs ?_
    | with_reducible refine e_slT ?_
    | with_reducible refine e_chain ?_
    | with_reducible refine a_cons ?_
    | with_reducible refine a_nil ?_
    | with_reducible refine o_no ?_
    | with_reducible refine o_so ?_
    | with_reducible refine i_range1 ?_
    | with_reducible refine i_list ?_
    | with_reducible refine i_tup ?_
    | with_reducible refine i_enum ?_
    | with_reducible refine i_enumRev ?_
    | with_reducible refine g_name ?_
    | with_reducible refine gs_cons ?_
    | with_reducible refine gs_nil ?_
    | with_reducible refine o_int ?_
    | with_reducible refine o_bool ?_
    | with_reducible refine o_eqI ?_
    | with_reducible refine o_neI ?_
    | with_reducible refine o_eqS ?_
    | with_reducible refine o_neS ?_
    | with_reducible refine o_isN ?_
    | with_reducible refine o_notN ?_
    | with_reducible refine c_lenT ?_
    | with_reducible refine c_intB ?_
    | with_reducible refine c_min2 ?_
    | with_reducible refine c_max2 ?_
    | ((fail_if_success (with_reducible refine e_notV (e_cb (a_cons (e_lc ?_ ?_))))); (with_reducible refine e_notV ?_))
    | ((fail_if_success (with_reducible refine s_ret (e_lst ?_))); (fail_if_success (with_reducible refine s_ret (e_lc ?_ ?_))); (with_reducible refine s_ret ?_))
    | ((fail_if_success (with_reducible refine s_set (e_lst ?_))); (fail_if_success (with_reducible refine s_set (e_lc ?_ ?_))); (with_reducible refine s_set ?_))
    | ((with_reducible apply e_var); exact rfl)
    | with_reducible refine e_callG rfl ?_
    | with_reducible refine e_methG rfl ?_
    | with_reducible refine e_makeG rfl ?_
    | refine e_fld rfl (by assumption) (by assumption) ?_
    | refine s_fldA rfl (by assumption) (by assumption) ?_
    | refine o_ixT (by rfl) ?_
    | refine c_lenLs (by (first | exact Sl.LsOf.fz | exact Sl.LsOf.ce (by (repeat (first | exact Sl.At.z | apply Sl.At.s))))) ?_
    | ((with_reducible refine g_tup ?_ ?_); exact rfl)
    | with_reducible refine ⟨_, rfl, ?_⟩
    | with_reducible refine ⟨_, _, rfl, rfl, ?_⟩
    | with_reducible refine ⟨_, LsOf.fz, ?_⟩
    | refine ⟨_, _, _, _, rfl, (by (repeat (first | exact Sl.At.z | apply Sl.At.s))), (by (repeat (first | exact Sl.Lk.z | (apply Sl.Lk.s; decide +kernel)))), ?_⟩
    | refine ⟨_, _, _, rfl, (by (repeat (first | exact Sl.At.z | apply Sl.At.s))), (by rfl), ?_⟩
    | refine ⟨_, _, _, rfl, (by (repeat (first | exact Sl.At.z | apply Sl.At.s))), ?_⟩
    | refine ⟨⟨_, _, _, rfl, (by (repeat (first | exact Sl.At.z | apply Sl.At.s)))⟩, ?_⟩
    | refine ⟨_, _, _, rfl, (by (repeat (first | exact Sl.Rp.z | apply Sl.Rp.s))), (by exact Nat.le_of_ble_eq_true rfl), (by exact Nat.le_of_ble_eq_true rfl), ?_⟩
    | refine ⟨_, (by (first | exact Sl.LsOf.fz | exact Sl.LsOf.ce (by (repeat (first | exact Sl.At.z | apply Sl.At.s))))), ?_⟩
    | refine ⟨_, _, (by (first | exact Sl.LsAs.fz | exact Sl.LsAs.ce (by (repeat (first | exact Sl.At.z | apply Sl.At.s))))), ?_⟩
    | refine o_ixLs (by (first | exact Sl.LsOf.fz | exact Sl.LsOf.ce (by (repeat (first | exact Sl.At.z | apply Sl.At.s))))) (by rfl) ?_
    | refine ⟨_, _, _, _, _, rfl, rfl, (by (repeat (first | exact Sl.At.z | apply Sl.At.s))), ?_⟩
    | refine ⟨_, _, _, _, _, _, rfl, rfl, (by (repeat (first | exact Sl.At.z | apply Sl.At.s))), (by rfl), (by (repeat (first | exact Sl.Rp.z | apply Sl.Rp.s))), ?_⟩
    | refine ⟨_, _, _, _, _, rfl, (by (repeat (first | exact Sl.At.z | apply Sl.At.s))), (by (repeat (first | exact Sl.Pf.n | exact Sl.Pf.z | (apply Sl.Pf.s; decide +kernel)))), (by exact Nat.le_of_ble_eq_true rfl), (by (repeat (first | exact Sl.Rp.z | apply Sl.Rp.s))), ?_⟩
    | ((with_reducible refine And.intro ?_ ?_); exact Nat.le_of_ble_eq_true rfl)
    | with_reducible refine e_gref ?_
    | refine o_inT (by rfl) (by rfl) ?_
    | refine ⟨_, true, rfl, kit_ty (by decide +kernel), ?_⟩
    | refine ⟨_, false, rfl, kit_ty (by decide +kernel), ?_⟩
    | refine ⟨fun _ => ?_, fun hb => absurd hb (by decide +kernel)⟩
    | refine ⟨fun hb => absurd hb (by decide +kernel), fun _ => ?_⟩
    | refine ⟨fun _ => ?_, fun hb => ctT (by rfl) hb⟩
    | refine ⟨fun hb => ctT (by rfl) hb, fun _ => ?_⟩
    | refine ⟨fun _ => ?_, fun hb => ctF (by rfl) hb⟩
    | refine ⟨fun hb => ctF (by rfl) hb, fun _ => ?_⟩
    | fail)
theorem s_take {Z : Zx} {Γ : Sy} {t : TS} {E : DE} {c' r : Cs} (h : Take c' Γ.c r) (k : Sd Z t ⟨Γ.g, c'⟩ E) : Sd Z t Γ E := s_sub (fun x hx => (h.mem x).mp (List.mem_append_left _ hx)) (fun nd => by
  have := h.nd nd
  rw [keys_app] at this
  exact (List.nodup_append.mp this).1) k
theorem lts_pd {Γ : Sy} {ts : List Lt} : PdAll Γ (ts.map Lt.d) (ts.map Lt.p) := Pd.all fun t _ => t.pd
theorem lts_shp {ts : List Lt} : Shp 2 (.list (ts.map Lt.p)) := shp_list fun d hd => by
  obtain ⟨t, _, rfl⟩ := List.mem_map.mp hd
  exact t.shp
section
variable {P : Program} {w : World} {K : PySem.W.Frag} {mg : Str → Option Value} {base : Heap}
theorem cl_drawn (T : Tx K mg) (D : Fd K mg "_law_letter_drawn" s__law_letter_drawn) (c__law_digit : Cl P w K mg base 1 "_law_digit" (spDigit K)) (c__law_can : Cl P w K mg base 2 "_law_can" (spCan K)) (c__law_partings : Cl P w K mg base 3 "_law_partings" (spParts K)) : Cl P w K mg base 4 "_law_letter_drawn" (spDrawn K) := by
  refine mk_clG D sc__law_letter_drawn (fun _ _ _ _ _ _ us hl => match us, hl with | [_, _], _ => rfl) (fun _ => rfl) (fun cdv A outer s H E hr hu => ⟨_, (pss_cons (ps_set (i := 2) sc__law_letter_drawn.nd rfl (by first | exact .inl rfl | exact .inr rfl) (pe_cl c__law_digit hr hu (by omega) (by rfl) tkN (pa_cons (pv 0) (pa_cons pe_int pa_nil))))
    (pss_cons (ps_setLc (i := 3) (own := [("_law_letter", 4)]) (g := gName 4) (tt := tTest (tOp (fun x y H Q => y = .non ∧ Q (.bl (!decide (x = .non))) H) (tCallS (spCan K) (WE fun _ _ _ _ => False) (tCons (tVar 1) (tCons (tVar 4) tNil))) (tC .non))) (te := tVar 4) rfl sc__law_letter_drawn.nd rfl rfl (sw_true rfl rfl rfl (by decide +kernel)) (pi_list (pe_lst (pa_cons (pe_tup (pa_cons pe_str pa_nil)) (pa_cons (pe_tup (pa_cons pe_str pa_nil)) (pa_cons (pe_tup (pa_cons pe_str pa_nil)) pa_nil))))) (blkOk_by (N := N__law_letter_drawn) (sc := defScope s__law_letter_drawn) (by decide +kernel)) (fun _ _ _ _ _ => (pg_name (i := 4) sc__law_letter_drawn.nd rfl (by first | exact Or.inl rfl | exact Or.inr rfl))) (fun _ _ _ _ _ => (pts_one (pt_cmpR op_notN (pe_cl c__law_can hr hu (by omega) (by rfl) tkN (pa_cons (pv 1) (pa_cons (pv 4) pa_nil))) pe_non (nomark _)))) (fun _ _ _ _ _ => (pv 4)))
    (pss_cons (ps_if (pt_cmpR op_gt (pv 2) pe_int (nomark _)) (pss_one (ps_set (i := 3) sc__law_letter_drawn.nd rfl (by first | exact .inl rfl | exact .inr rfl) (pe_cl c__law_partings hr hu (by omega) (by rfl) tkN (pa_cons (pv 1) pa_nil)))) pss_nil)
    (pss_cons (ps_if (PW.pt (pw_and (pt_cmpR op_gt (pv 2) pe_int (nomark _)) (pw_and1 (pt_cmpR (op_neD hr.units) (pv 3) (pe_lst pa_nil) (nomark _))))) (pss_one (ps_ret (pe_ix ix_list (pv 3) (pe_cl c__law_digit hr hu (by omega) (by rfl) tkN (pa_cons (pv 0) (pa_cons (pe_callB call_len_seq (by rfl) T.f_len boot_len (pa_cons (pv 3) pa_nil)) pa_nil))) (fun _ _ => rfl)))) pss_nil)
    (pss_one (ps_ret (pe_tup (pa_cons pe_str pa_nil)))))))), ?_⟩)
  rintro ⟨⟨q, I, l, m, n⟩, pp, a, b⟩ ⟨ok, hm, hp⟩ Zf ee hE hx
  try dsimp only [cxOf]
  dsimp only at ok hm hp
  have h2 : 2 ≤ l.length := ok.len l (by simp)
  repeat tb_rel
  refine ⟨(pp, a, b, 6), _, rfl, (by (repeat (first | exact Sl.Take.nil | (apply Sl.Take.cons; (repeat (first | exact Sl.Rm.z | apply Sl.Rm.s)))))), ⟨hp, (by dsimp only; decide), (by dsimp only; decide)⟩, ?_⟩
  rintro out cs ⟨d, a1, b1, d0, d6, hp1, rfl, rfl⟩
  refine s_take (c' := OC q (I ++ [l]) m n ++ [(pp, pot a1 b1)]) (r := []) (by (repeat (first | exact Sl.Take.nil | (apply Sl.Take.cons; (repeat (first | exact Sl.Rm.z | apply Sl.Rm.s)))))) ?_
  show Sd _ _ ⟨[some (.ref pp), some (.ref q.o), some (.int d), none, none], OC q (I ++ [l]) m n ++ [(pp, pot a1 b1)]⟩ _
  have fin : ∀ {g : List (Option Sl.D)} {c r : Cs} {t : Lt} {x a b : Int}, can I l m n t = some x → Pot a b → Take (OC q (I ++ [l]) m n ++ [(pp, pot a b)]) c r → ee.rt t.d ⟨g, c⟩ := fun {g c r t x a b} e h tk => hE.rt tk ⟨t, x, a, b, e, h, rfl, rfl⟩
  refine s_cut (M := fun Γ' => ∃ ts : List Lt, ts.length ≤ 1000 ∧ Cans (I ++ [l]) m n ts ∧ Γ' = ⟨[some (.ref pp), some (.ref q.o), some (.int d), some (.list (ts.map Lt.d)), none], OC q (I ++ [l]) m n ++ [(pp, pot a1 b1)]⟩) ?_ ?_
  · refine s_set (e_lc (keeps_name (by simp)) ?_)
    repeat tb_rel
    refine ⟨fun i acc Γ' => ∃ us : List Lt, us.length ≤ i ∧ Cans (I ++ [l]) m n us ∧ acc = us.map Lt.d ∧ Γ' = ⟨[some (.ref pp), some (.ref q.o), some (.int d), none, none], OC q (I ++ [l]) m n ++ [(pp, pot a1 b1)]⟩, ⟨[], Nat.le_refl _, (fun t ht => nomatch ht), rfl, rfl⟩, fun _ _ _ _ => trivial, ?_, ?_⟩
    · rintro x i e acc Γ' hd ⟨us, h2, h3, rfl, rfl⟩
      obtain ⟨t, rfl⟩ : ∃ t : Lt, e = t.d := by
        match i, hd with
        | 0, hd => cases hd; exact ⟨.E, rfl⟩
        | 1, hd => cases hd; exact ⟨.R, rfl⟩
        | 2, hd => cases hd; exact ⟨.L, rfl⟩
      repeat tb_rel
      refine ⟨(⟨q, I ++ [l], m, n⟩, t), _, rfl, (by (repeat (first | exact Sl.Take.nil | (apply Sl.Take.cons; (repeat (first | exact Sl.Rm.z | apply Sl.Rm.s)))))), ⟨ok, hm⟩, ?_⟩
      rintro out cs ⟨rfl, rfl⟩
      repeat tb_rel
      refine ⟨fun hb => ?_, fun hb => ?_⟩
      · repeat tb_rel
        refine ⟨us ++ [t], by simp; omega, fun t' ht' => ?_, by rw [List.map_append]; rfl, rfl⟩
        rcases List.mem_append.mp ht' with h | h
        · exact h3 t' h
        · rw [List.mem_singleton] at h
          subst h
          cases e : canA (I ++ [l]) m n t' with
          | none => rw [e] at hb; cases hb
          | some y => exact ⟨y, rfl⟩
      · exact ⟨us, by omega, h3, rfl, rfl⟩
    · rintro acc Γ' ⟨us, h2, h3, rfl, rfl⟩
      refine ⟨us, Nat.le_trans h2 (by simp), h3, rfl⟩
  rintro _ ⟨ts, ht, hc, rfl⟩
  refine s_cut (M := fun Γ' => ∃ ts : List Lt, ts.length ≤ 1000 ∧ Cans (I ++ [l]) m n ts ∧ Γ' = ⟨[some (.ref pp), some (.ref q.o), some (.int d), some (.list (ts.map Lt.d)), none], OC q (I ++ [l]) m n ++ [(pp, pot a1 b1)]⟩) ?_ ?_
  · repeat tb_rel
    refine ⟨fun hb => ?_, fun hb => ?_⟩
    · repeat tb_rel
      refine ⟨⟨q, I ++ [l], m, n⟩, _, rfl, (by (repeat (first | exact Sl.Take.nil | (apply Sl.Take.cons; (repeat (first | exact Sl.Rm.z | apply Sl.Rm.s)))))), ⟨ok, hm⟩, ?_⟩
      rintro out cs ⟨us, h1, h2, rfl, rfl⟩
      exact ⟨us, h2, h1, rfl⟩
    · exact s_next ⟨ts, ht, hc, rfl⟩
  rintro _ ⟨ts, ht, hc, rfl⟩
  repeat tb_rel
  have fC : ∀ {Γ : Sy} {r : Cs}, Take (OC q (I ++ [l]) m n ++ [(pp, pot a1 b1)]) Γ.c r → ee.rt (Lt.d .C) Γ := fun {Γ r} tk => fin (x := n) (can_C ok) hp1 tk
  refine ⟨fun hb => ?_, fun hb => ?_⟩
  · repeat tb_rel
    refine o_neNil .fz lts_pd (lts_shp.mono (by decide)) ?_
    repeat tb_rel
    refine ⟨fun hb2 => ?_, fun hb2 => ?_⟩
    · have hpos : 0 < ts.length := by
        cases ts with
        | nil => simp at hb2
        | cons a r => simp
      repeat tb_rel
      refine ⟨(pp, a1, b1, ts.length), _, by rw [List.length_map], (by (repeat (first | exact Sl.Take.nil | (apply Sl.Take.cons; (repeat (first | exact Sl.Rm.z | apply Sl.Rm.s)))))), ⟨hp1, by dsimp only; omega, by dsimp only; omega⟩, ?_⟩
      rintro out cs ⟨e, a2, b2, e0, e1, hp2, rfl, rfl⟩
      dsimp only at e1
      obtain ⟨i, rfl⟩ : ∃ i : Nat, e = (i : Int) := ⟨e.toNat, by omega⟩
      have hi : i < ts.length := by omega
      refine o_ixLs .fz (atI_nat' (show (ts.map Lt.d)[i]? = some ts[i].d by rw [List.getElem?_map, List.getElem?_eq_getElem hi]; rfl)) ?_
      obtain ⟨x, hx⟩ := hc ts[i] (List.getElem_mem _)
      rw [canA_app] at hx
      exact fin hx hp2 (by (repeat (first | exact Sl.Take.nil | (apply Sl.Take.cons; (repeat (first | exact Sl.Rm.z | apply Sl.Rm.s))))))
    · repeat tb_rel
      exact fC (by (repeat (first | exact Sl.Take.nil | (apply Sl.Take.cons; (repeat (first | exact Sl.Rm.z | apply Sl.Rm.s))))))
  · repeat tb_rel
    exact fC (by (repeat (first | exact Sl.Take.nil | (apply Sl.Take.cons; (repeat (first | exact Sl.Rm.z | apply Sl.Rm.s))))))
end
end K32

set_option Elab.async false
set_option linter.all false
set_option autoImplicit false
set_option maxRecDepth 100000
set_option maxHeartbeats 400000
namespace K32
open PySem PySem.Spec PyProof.Rows L2 Px Sl

local macro_rules
  | `(tactic| tb_rel) => `(tactic| first
    | with_reducible refine s_forI ?_
    | with_reducible refine s_for ?_
    | with_reducible refine s_seq ?_
    | with_reducible refine s_if ?_
    | with_reducible refine s_next ?_
    | with_reducible refine s_brk ?_
    | with_reducible refine s_cont ?_
    | with_reducible refine s_retN ?_
    | with_reducible refine s_asgT ?_
    | with_reducible refine s_asgL ?_
    | with_reducible refine s_drop ?_
    | with_reducible refine s_dput ?_
    | with_reducible refine s_setIA ?_
    | with_reducible refine t_test ?_
    | with_reducible refine t_B ?_
    | with_reducible refine t_yes ?_
    | with_reducible refine t_and ?_
    | with_reducible refine t_or ?_
    | with_reducible refine t_not ?_
    | with_reducible refine e_op ?_
    | with_reducible refine e_isi ?_
    | with_reducible refine e_extN ?_
    | with_reducible refine e_appA ?_
    | with_reducible refine e_popAtA ?_
    | with_reducible refine e_cb ?_
    | with_reducible refine e_lst ?_
    | with_reducible refine e_tup ?_
    | with_reducible refine e_neg ?_
    | with_reducible refine e_int ?_
    | with_reducible refine e_str ?_
    | with_reducible refine e_bl ?_
    | with_reducible refine e_non ?_
    | with_reducible refine e_din ?_
    | with_reducible refine e_andV ?_
    | with_reducible refine e_orV ?_
    | with_reducible refine e_slLs ?_
    | with_reducible refine e_slT ?_
    | with_reducible refine e_chain ?_
    | with_reducible refine a_cons ?_
    | with_reducible refine a_nil ?_
    | with_reducible refine o_no ?_
    | with_reducible refine o_so ?_
    | with_reducible refine i_range1 ?_
    | with_reducible refine i_list ?_
    | with_reducible refine i_tup ?_
    | with_reducible refine i_enum ?_
    | with_reducible refine i_enumRev ?_
    | with_reducible refine g_name ?_
    | with_reducible refine gs_cons ?_
    | with_reducible refine gs_nil ?_
    | with_reducible refine o_int ?_
    | with_reducible refine o_bool ?_
    | with_reducible refine o_eqI ?_
    | with_reducible refine o_neI ?_
    | with_reducible refine o_eqS ?_
    | with_reducible refine o_neS ?_
    | with_reducible refine o_isN ?_
    | with_reducible refine o_notN ?_
    | with_reducible refine c_lenT ?_
    | with_reducible refine c_intB ?_
    | with_reducible refine c_min2 ?_
    | with_reducible refine c_max2 ?_
    | ((fail_if_success (with_reducible refine e_notV (e_cb (a_cons (e_lc ?_ ?_))))); (with_reducible refine e_notV ?_))
    | ((fail_if_success (with_reducible refine s_ret (e_lst ?_))); (fail_if_success (with_reducible refine s_ret (e_lc ?_ ?_))); (with_reducible refine s_ret ?_))
    | ((fail_if_success (with_reducible refine s_set (e_lst ?_))); (fail_if_success (with_reducible refine s_set (e_lc ?_ ?_))); (with_reducible refine s_set ?_))
    | ((with_reducible apply e_var); exact rfl)
    | with_reducible refine e_callG rfl ?_
    | with_reducible refine e_methG rfl ?_
    | with_reducible refine e_makeG rfl ?_
    | refine e_fld rfl (by assumption) (by assumption) ?_
    | refine s_fldA rfl (by assumption) (by assumption) ?_
    | refine o_ixT (by rfl) ?_
    | refine c_lenLs (by (first | exact Sl.LsOf.fz | exact Sl.LsOf.ce (by (repeat (first | exact Sl.At.z | apply Sl.At.s | apply K32.at_app))))) ?_
    | ((with_reducible refine g_tup ?_ ?_); exact rfl)
    | with_reducible refine ⟨_, rfl, ?_⟩
    | with_reducible refine ⟨_, _, rfl, rfl, ?_⟩
    | with_reducible refine ⟨_, LsOf.fz, ?_⟩
    | refine ⟨_, _, _, _, rfl, (by (repeat (first | exact Sl.At.z | apply Sl.At.s | apply K32.at_app))), (by (repeat (first | exact Sl.Lk.z | (apply Sl.Lk.s; decide +kernel)))), ?_⟩
    | refine ⟨_, _, _, rfl, (by (repeat (first | exact Sl.At.z | apply Sl.At.s | apply K32.at_app))), (by rfl), ?_⟩
    | refine ⟨_, _, _, rfl, (by (repeat (first | exact Sl.At.z | apply Sl.At.s | apply K32.at_app))), ?_⟩
    | refine ⟨⟨_, _, _, rfl, (by (repeat (first | exact Sl.At.z | apply Sl.At.s | apply K32.at_app)))⟩, ?_⟩
    | refine ⟨_, _, _, rfl, (by (repeat (first | exact Sl.Rp.z | apply Sl.Rp.s | apply K32.rp_app))), (by exact Nat.le_of_ble_eq_true rfl), (by exact Nat.le_of_ble_eq_true rfl), ?_⟩
    | refine ⟨_, (by (first | exact Sl.LsOf.fz | exact Sl.LsOf.ce (by (repeat (first | exact Sl.At.z | apply Sl.At.s | apply K32.at_app))))), ?_⟩
    | refine ⟨_, _, (by (first | exact Sl.LsAs.fz | exact Sl.LsAs.ce (by (repeat (first | exact Sl.At.z | apply Sl.At.s | apply K32.at_app))))), ?_⟩
    | refine o_ixLs (by (first | exact Sl.LsOf.fz | exact Sl.LsOf.ce (by (repeat (first | exact Sl.At.z | apply Sl.At.s | apply K32.at_app))))) (by rfl) ?_
    | refine ⟨_, _, _, _, _, rfl, rfl, (by (repeat (first | exact Sl.At.z | apply Sl.At.s | apply K32.at_app))), ?_⟩
    | refine ⟨_, _, _, _, _, _, rfl, rfl, (by (repeat (first | exact Sl.At.z | apply Sl.At.s | apply K32.at_app))), (by rfl), (by (repeat (first | exact Sl.Rp.z | apply Sl.Rp.s | apply K32.rp_app))), ?_⟩
    | refine ⟨_, _, _, _, _, rfl, (by (repeat (first | exact Sl.At.z | apply Sl.At.s | apply K32.at_app))), (by (repeat (first | exact Sl.Pf.n | exact Sl.Pf.z | (apply Sl.Pf.s; decide +kernel)))), (by exact Nat.le_of_ble_eq_true rfl), (by (repeat (first | exact Sl.Rp.z | apply Sl.Rp.s | apply K32.rp_app))), ?_⟩
    | ((with_reducible refine And.intro ?_ ?_); exact Nat.le_of_ble_eq_true rfl)
    | with_reducible refine e_gref ?_
    | refine o_inT (by rfl) (by rfl) ?_
    | refine ⟨_, true, rfl, kit_ty (by decide +kernel), ?_⟩
    | refine ⟨_, false, rfl, kit_ty (by decide +kernel), ?_⟩
    | refine ⟨fun _ => ?_, fun hb => absurd hb (by decide +kernel)⟩
    | refine ⟨fun hb => absurd hb (by decide +kernel), fun _ => ?_⟩
    | refine ⟨fun _ => ?_, fun hb => ctT (by rfl) hb⟩
    | refine ⟨fun hb => ctT (by rfl) hb, fun _ => ?_⟩
    | refine ⟨fun _ => ?_, fun hb => ctF (by rfl) hb⟩
    | refine ⟨fun hb => ctF (by rfl) hb, fun _ => ?_⟩
    | fail)
abbrev s__law_same : Stmt := top 27
abbrev N__law_same : List Str := ["_law_front", "_law_own", "_law_gate", "_law_loops", "_law_triples", "_law_told", "_law_due", "_law_loop"]
theorem sc__law_same : FnScope N__law_same ["_law_front", "_law_own"] (defScope s__law_same) := ⟨rfl, rfl, rfl, by decide +kernel, rfl, by decide +kernel, by decide +kernel⟩
abbrev spSame (K : PySem.W.Frag) : Sp := SpG K (G := Fr × OA) (fun g => [.ref g.1.q.f, .ref g.2.o]) (fun g => g.1.C ++ OC g.2 g.1.L g.1.m g.1.n) (fun g => Ok g.1.L g.1.m g.1.n ∧ g.1.m.length ≤ 900) (fun g out cs => out = .ret (.bool true) ∧ cs = g.1.C ++ OC g.2 g.1.L g.1.m g.1.n)
theorem made_pd {Γ : Sy} {m : List Tri} : PdAll Γ (madeD m) (m.map triP) := Pd.all fun t _ => .tup (.cons (.int _) (.cons (.int _) (.cons (.int _) .nil)))
def gateP (L : List (List Int)) : PyData := match L.getLast? with
  | none => .none
  | some l => .tuple [.int (l.getD 0 0), .int (l.getD 1 0)]
theorem gate_pd {Γ : Sy} {L : List (List Int)} : Pd Γ (gateD L) (gateP L) := by
  unfold gateD gateP
  cases L.getLast? with
  | none => exact .non
  | some l => exact .tup (.cons (.int _) (.cons (.int _) .nil))
theorem gate_ok {L : List (List Int)} {m : List Tri} {n : Int} (o : Ok L m n) (hm : m.length ≤ 900) : okR (gateP L) := by
  unfold gateP
  cases e : L.getLast? with
  | none => trivial
  | some l => exact okR_gate o hm (List.mem_of_getLast? e)
theorem refs_pd {Γ : Sy} {qs : List (Addr × List Int)} {L : List (List Int)} (hq : qs.map (·.2) = L) (h : ∀ x ∈ cpC qs.reverse, x ∈ Γ.c) : PdAll Γ (qs.map fun q => D.ref q.1) (rowsP L) := by
  have e : rowsP (qs.map (·.2)) = qs.map fun q => PyData.list (q.2.map PyData.int) := List.map_map ..
  rw [← hq, e]
  refine Pd.all fun q hq' => .ref (h _ (List.mem_map.mpr ⟨q, by simpa using hq', rfl⟩)) ints_pd
section
variable {P : Program} {w : World} {K : PySem.W.Frag} {mg : Str → Option Value} {base : Heap}
theorem cl_same (T : Tx K mg) (D : Fd K mg "_law_same" s__law_same) (c_Front_loops : ClM P w K mg base 1 "Front" "loops" (spLoops K)) (c_Front_triples : ClM P w K mg base 1 "Front" "triples" (spTriples K)) (c_Front_gate : ClM P w K mg base 1 "Front" "gate" (spGate K)) (c_Front_come : ClM P w K mg base 1 "Front" "come" (spCome K)) : Cl P w K mg base 2 "_law_same" (spSame K) := by
  refine mk_clG D sc__law_same (fun _ _ _ _ _ _ us hl => match us, hl with | [_, _], _ => rfl) (fun _ => rfl) (fun cdv A outer s H E hr hu => ⟨_, (pss_cons (ps_set (i := 2) sc__law_same.nd rfl (by first | exact .inl rfl | exact .inr rfl) pe_non)
    (pss_cons (ps_if (pt_cmpR (op_neD hr.units) (pe_ix ix_list (pv 1) pe_int (fun _ _ => rfl)) (pe_lst pa_nil) (nomark _)) (pss_one (ps_set (i := 2) sc__law_same.nd rfl (by first | exact .inl rfl | exact .inr rfl) (pe_tup (pa_cons (pe_ix ix_list (pe_ix ix_list (pe_ix ix_list (pv 1) pe_int (fun _ _ => rfl)) (pe_un un_neg pe_int) (fun _ _ => rfl)) pe_int (fun _ _ => rfl)) (pa_cons (pe_ix ix_list (pe_ix ix_list (pe_ix ix_list (pv 1) pe_int (fun _ _ => rfl)) (pe_un un_neg pe_int) (fun _ _ => rfl)) pe_int (fun _ _ => rfl)) pa_nil))))) pss_nil)
    (pss_cons (ps_set (i := 3) sc__law_same.nd rfl (by first | exact .inl rfl | exact .inr rfl) (pe_clM0 c_Front_loops T.cFront hr hu (by omega) tkN (pv 0)))
    (pss_cons (ps_set (i := 4) sc__law_same.nd rfl (by first | exact .inl rfl | exact .inr rfl) (pe_clM0 c_Front_triples T.cFront hr hu (by omega) tkN (pv 0)))
    (pss_cons (ps_for PassesOwn.leaving rfl (pi_list (pe_lst (pa_cons (pe_tup (pa_cons (pv 3) (pa_cons (pe_ix ix_list (pv 1) pe_int (fun _ _ => rfl)) pa_nil))) (pa_cons (pe_tup (pa_cons (pv 4) (pa_cons (pe_ix ix_list (pv 1) pe_int (fun _ _ => rfl)) pa_nil))) (pa_cons (pe_tup (pa_cons (pe_clM0 c_Front_gate T.cFront hr hu (by omega) tkN (pv 0)) (pa_cons (pv 2) pa_nil))) (pa_cons (pe_tup (pa_cons (pe_clM0 c_Front_come T.cFront hr hu (by omega) tkN (pv 0)) (pa_cons (pe_ix ix_list (pv 1) pe_int (fun _ _ => rfl)) pa_nil))) pa_nil)))))) (pg_tup rfl (pgs_cons (pg_name (i := 5) sc__law_same.nd rfl (by first | exact Or.inl rfl | exact Or.inr rfl)) (pgs_cons (pg_name (i := 6) sc__law_same.nd rfl (by first | exact Or.inl rfl | exact Or.inr rfl)) pgs_nil))) (pss_one (ps_if (pt_cmpR op_ne (pe_callB (call_reprG hu hr.units) (by rfl) T.f_repr (by decide +kernel) (pa_cons (pv 5) pa_nil)) (pe_callB (call_reprG hu hr.units) (by rfl) T.f_repr (by decide +kernel) (pa_cons (pv 6) pa_nil)) (nomark _)) (pss_one (ps_ret pe_bl)) pss_nil)))
    (pss_cons (ps_for PassesOwn.leaving rfl (pi_list (pv 3)) (pg_name (i := 7) sc__law_same.nd rfl (by first | exact Or.inl rfl | exact Or.inr rfl)) (pss_one (ps_expr (pe_bm PySem.F.plainAttrs_list PySem.F.slot_list_append PySem.F.type_list_append mt_append (pv 7) (pa_cons pe_int pa_nil)))))
    (pss_cons (ps_expr (pe_bm PySem.F.plainAttrs_list PySem.F.slot_list_append PySem.F.type_list_append mt_append (pv 3) (pa_cons (pe_lst (pa_cons pe_int pa_nil)) pa_nil)))
    (pss_cons (ps_expr (pe_bm PySem.F.plainAttrs_list PySem.F.slot_list_append PySem.F.type_list_append mt_append (pv 4) (pa_cons (pe_tup (pa_cons pe_int (pa_cons pe_int (pa_cons pe_int pa_nil)))) pa_nil)))
    (pss_one (ps_ret (pe_and (pe_cmpR op_eq (pe_callB (call_reprG hu hr.units) (by rfl) T.f_repr (by decide +kernel) (pa_cons (pe_clM0 c_Front_loops T.cFront hr hu (by omega) tkN (pv 0)) pa_nil)) (pe_callB (call_reprG hu hr.units) (by rfl) T.f_repr (by decide +kernel) (pa_cons (pe_ix ix_list (pv 1) pe_int (fun _ _ => rfl)) pa_nil)) (nomark _)) (pe_one (pe_cmpR op_eq (pe_callB (call_reprG hu hr.units) (by rfl) T.f_repr (by decide +kernel) (pa_cons (pe_clM0 c_Front_triples T.cFront hr hu (by omega) tkN (pv 0)) pa_nil)) (pe_callB (call_reprG hu hr.units) (by rfl) T.f_repr (by decide +kernel) (pa_cons (pe_ix ix_list (pv 1) pe_int (fun _ _ => rfl)) pa_nil)) (nomark _)))))))))))))), ?_⟩)
  rintro ⟨⟨q, L, m, k, n⟩, o⟩ ⟨ok, hm⟩ Zf ee hE hx
  try dsimp only [cxOf]
  dsimp only at ok hm
  have hL : L.length ≤ 1000 := by
    have := count_le_sum ok.len
    have := ok.tot
    omega
  refine s_seq (s_set (e_non ?_))
  refine s_cut (M := fun Γ' => Γ' = ⟨[some (.ref q.f), some (.ref o.o), some (gateD L), none, none, none, none, none], Fr.C ⟨q, L, m, k, n⟩ ++ OC o L m n⟩) ?_ ?_
  · repeat tb_rel
    refine o_neNil (by (first | exact Sl.LsOf.fz | exact Sl.LsOf.ce (by (repeat (first | exact Sl.At.z | apply Sl.At.s | apply K32.at_app))))) rows_pd (rows_shp.mono (by decide)) ?_
    repeat tb_rel
    rcases List.eq_nil_or_concat L with rfl | ⟨I, l, rfl⟩
    · repeat tb_rel
      rfl
    · rw [List.concat_eq_append] at *
      have hne : (!(rowsD (I ++ [l])).isEmpty) = true := by simp
      refine ⟨fun _ => ?_, fun hb => ctT hne hb⟩
      have h2 := ok.len l (by simp)
      repeat tb_rel
      refine o_ixLs (by (first | exact Sl.LsOf.fz | exact Sl.LsOf.ce (by (repeat (first | exact Sl.At.z | apply Sl.At.s | apply K32.at_app))))) rows_last ?_
      repeat tb_rel
      refine o_ixLs .fz (ints_at (k := 0) (by omega)) ?_
      repeat tb_rel
      refine o_ixLs (by (first | exact Sl.LsOf.fz | exact Sl.LsOf.ce (by (repeat (first | exact Sl.At.z | apply Sl.At.s | apply K32.at_app))))) rows_last ?_
      repeat tb_rel
      refine o_ixLs .fz (ints_at (k := 1) (by omega)) ?_
      repeat tb_rel
      rw [gate_last]
      rfl
  rintro _ rfl
  repeat tb_rel
  refine ⟨⟨q, L, m, k, n⟩, _, rfl, (by (repeat (first | exact Sl.Take.nil | exact K32.take_self | (apply Sl.Take.cons; (repeat (first | exact Sl.Rm.z | apply Sl.Rm.s | apply K32.rm_app)))))), hL, ?_⟩
  rintro out cs ⟨p, qs, hq, rfl, rfl⟩
  have hq : qs.map (·.2) = L := hq
  refine s_take (c' := (p, .lst (qs.map fun q => .ref q.1)) :: (Fr.C ⟨q, L, m, k, n⟩ ++ (OC o L m n ++ cpC qs.reverse))) (r := []) (.cons .z take_swap3) ?_
  repeat tb_rel
  refine ⟨⟨q, L, m, k, n⟩, _, rfl, (by (repeat (first | exact Sl.Take.nil | exact K32.take_self | (apply Sl.Take.cons; (repeat (first | exact Sl.Rm.z | apply Sl.Rm.s | apply K32.rm_app)))))), trivial, ?_⟩
  rintro out cs ⟨pt, rfl, rfl⟩
  repeat tb_rel
  refine ⟨⟨q, L, m, k, n⟩, _, rfl, (by (repeat (first | exact Sl.Take.nil | exact K32.take_self | (apply Sl.Take.cons; (repeat (first | exact Sl.Rm.z | apply Sl.Rm.s | apply K32.rm_app)))))), ok.len, ?_⟩
  rintro out cs ⟨rfl, rfl⟩
  repeat tb_rel
  refine ⟨⟨q, L, m, k, n⟩, _, rfl, (by (repeat (first | exact Sl.Take.nil | exact K32.take_self | (apply Sl.Take.cons; (repeat (first | exact Sl.Rm.z | apply Sl.Rm.s | apply K32.rm_app)))))), trivial, ?_⟩
  rintro out cs ⟨rfl, rfl⟩
  repeat tb_rel
  refine for_by (fun i Γ' => ∃ (u1 u2 : Option Sl.D), Γ' = ⟨[some (.ref q.f), some (.ref o.o), some (gateD L), some (.ref p), some (.ref pt), u1, u2, none], Fr.C ⟨q, L, m, k, n⟩ ++ ((pt, .lst (madeD m)) :: (p, .lst (qs.map fun q => .ref q.1)) :: (OC o L m n ++ cpC qs.reverse))⟩) ⟨none, none, rfl⟩ (fun _ _ _ => trivial) ?_ ?_
  · rintro i d Γ' hd ⟨u1, u2, rfl⟩
    obtain ⟨a, b, pd, rfl, ha, hb, hok⟩ : ∃ a b pd, d = .tuple [a, b] ∧ (∀ g, Pd ⟨g, Fr.C ⟨q, L, m, k, n⟩ ++ ((pt, .lst (madeD m)) :: (p, .lst (qs.map fun q => .ref q.1)) :: (OC o L m n ++ cpC qs.reverse))⟩ a pd) ∧ (∀ g, Pd ⟨g, Fr.C ⟨q, L, m, k, n⟩ ++ ((pt, .lst (madeD m)) :: (p, .lst (qs.map fun q => .ref q.1)) :: (OC o L m n ++ cpC qs.reverse))⟩ b pd) ∧ okR pd := by
      match i, hd with
      | 0, hd => cases hd; exact ⟨_, _, .list (rowsP L), rfl, fun g => .ref (by simp) (refs_pd hq fun x hx => by simp only [List.mem_append, List.mem_cons]; exact .inr (.inr (.inr (.inr hx)))), fun g => .ref (by simp) rows_pd, okR_rows ok hm⟩
      | 1, hd => cases hd; exact ⟨_, _, .list (m.map triP), rfl, fun g => .ref (by simp) made_pd, fun g => .ref (by simp) made_pd, okR_made ok hm⟩
      | 2, hd => cases hd; exact ⟨_, _, gateP L, rfl, fun g => gate_pd, fun g => gate_pd, gate_ok ok hm⟩
      | 3, hd => cases hd; exact ⟨_, _, .int n, rfl, fun g => .int n, fun g => .int n, okR_n ok hm⟩
    repeat tb_rel
    refine c_repr (ha _) hok ?_
    repeat tb_rel
    refine c_repr (hb _) hok ?_
    repeat tb_rel
    refine ⟨fun z => ?_, fun z => ?_⟩
    · simp at z
    · exact s_next ⟨_, _, rfl⟩
  rintro Γ' ⟨u1, u2, rfl⟩
  repeat tb_rel
  refine for_by (fun i Γ' => ∃ (ws : List (Addr × List Sl.D)) (u3 : Option Sl.D), ws.map (·.1) = qs.reverse.map (·.1) ∧ (∀ w ∈ ws, w.2.length ≤ 1000 + i) ∧ Γ' = ⟨[some (.ref q.f), some (.ref o.o), some (gateD L), some (.ref p), some (.ref pt), u1, u2, u3], Fr.C ⟨q, L, m, k, n⟩ ++ ((pt, .lst (madeD m)) :: (p, .lst (qs.map fun q => .ref q.1)) :: (OC o L m n ++ wsC ws))⟩) ⟨qs.reverse.map fun q => (q.1, q.2.map Sl.D.int), none, ?_, ?_, ?_⟩ ?_ ?_ ?_
  · rw [List.map_map]
    rfl
  · intro w hw
    obtain ⟨q', hq', rfl⟩ := List.mem_map.mp hw
    have hl : q'.2 ∈ L := by
      rw [← hq]
      exact List.mem_map.mpr ⟨q', by simpa using hq', rfl⟩
    have := len_le_sum hl
    have := ok.tot
    simp
    omega
  · have e : wsC (qs.reverse.map fun q => (q.1, q.2.map Sl.D.int)) = cpC qs.reverse := by
      show List.map _ (List.map _ _) = _
      rw [List.map_map]
      rfl
    rw [e]
  · rintro i Γ' ⟨ws, u3, h1, h2, rfl⟩
    show _ ∈ _
    simp
  · rintro i d Γ' hd ⟨ws, u3, h1, h2, rfl⟩
    obtain ⟨qa, hqa, rfl⟩ : ∃ q' ∈ qs, d = .ref q'.1 := by
      obtain ⟨q', hq', e⟩ := List.mem_map.mp (List.mem_of_getElem? hd)
      exact ⟨q', hq', e.symm⟩
    have hi : i < 1000 := by
      have := (List.getElem?_eq_some_iff.mp hd).1
      rw [List.length_map] at this
      have e := congrArg List.length hq
      rw [List.length_map] at e
      omega
    obtain ⟨ds, ws', g1, g2, g3, g4⟩ := ws_app (d := .int 3) (p := qa.1) (ws := ws) (N := 1000 + i) (by rw [h1]; exact List.mem_map.mpr ⟨qa, by simpa using hqa, rfl⟩) h2
    have hrp := rp_app (B := [(q.f, .ins "Front" (frF q n)), (q.r, .lst (rowsD L)), (q.m, .lst (madeD m)), (q.c, .dt k), (pt, .lst (madeD m)), (p, .lst (qs.map fun q : Addr × List Int => Sl.D.ref q.1)), (o.o, .lst [.ref o.r, .ref o.m, .int n]), (o.r, .lst (rowsD L)), (o.m, .lst (madeD m))]) g2
    obtain ⟨nn, hat⟩ := hrp.atL
    refine g_name (s_drop (e_appA (e_var rfl ⟨_, _, _, rfl, hat, e_int ⟨_, _, ?_, hrp, ?_⟩⟩)))
    · omega
    · exact ⟨ws', some (.ref qa.1), by rw [g3, h1], fun w hw => by have := g4 w hw; omega, rfl⟩
  rintro Γ' ⟨ws, u3, h1, h2, rfl⟩
  repeat tb_rel
  refine ⟨_, _, ?_, (by (repeat (first | exact Sl.Rp.z | apply Sl.Rp.s | apply K32.rp_app))), ?_⟩
  · have e := congrArg List.length hq
    rw [List.length_map] at e ⊢
    omega
  repeat tb_rel
  refine ⟨_, _, ?_, (by (repeat (first | exact Sl.Rp.z | apply Sl.Rp.s | apply K32.rp_app))), ?_⟩
  · rw [List.length_map]
    omega
  repeat tb_rel
  refine ⟨⟨q, L, m, k, n⟩, _, rfl, (by (repeat (first | exact Sl.Take.nil | exact K32.take_self | (apply Sl.Take.cons; (repeat (first | exact Sl.Rm.z | apply Sl.Rm.s | apply K32.rm_app)))))), hL, ?_⟩
  rintro out cs ⟨p2, qs2, hq2, rfl, rfl⟩
  have hq2 : qs2.map (·.2) = L := hq2
  show Ea _ _ ⟨[some (.ref q.f), some (.ref o.o), some (gateD L), some (.ref p), some (.ref pt), u1, u2, u3], (p2, .lst (qs2.map fun q : Addr × List Int => Sl.D.ref q.1)) :: ((cpC qs2.reverse ++ Fr.C ⟨q, L, m, k, n⟩) ++ ((pt, .lst (madeD m ++ [.tuple [.int 0, .int 1, .int 2]])) :: (p, .lst ((qs.map fun q : Addr × List Int => Sl.D.ref q.1) ++ [.list [.int 0]])) :: (OC o L m n ++ wsC ws)))⟩ _
  rw [List.append_assoc]
  refine a_nil ?_
  refine c_repr (.ref List.mem_cons_self (refs_pd hq2 fun x hx => List.mem_cons_of_mem _ (List.mem_append_left _ hx))) (okR_rows ok hm) ?_
  repeat tb_rel
  refine c_repr (.ref (by simp) rows_pd) (okR_rows ok hm) ?_
  repeat tb_rel
  refine ⟨fun _ => ?_, fun z => by simp at z⟩
  repeat tb_rel
  refine ⟨⟨q, L, m, k, n⟩, _, rfl, (by (repeat (first | exact Sl.Take.nil | exact K32.take_self | (apply Sl.Take.cons; (repeat (first | exact Sl.Rm.z | apply Sl.Rm.s | apply K32.rm_app)))))), trivial, ?_⟩
  rintro out cs ⟨pt2, rfl, rfl⟩
  repeat tb_rel
  refine c_repr (.ref List.mem_cons_self made_pd) (okR_made ok hm) ?_
  repeat tb_rel
  refine c_repr (.ref (by simp) made_pd) (okR_made ok hm) ?_
  repeat tb_rel
  exact hE.rt (cs' := Fr.C ⟨q, L, m, k, n⟩ ++ OC o L m n) (by (repeat (first | exact Sl.Take.nil | exact K32.take_self | (apply Sl.Take.cons; (repeat (first | exact Sl.Rm.z | apply Sl.Rm.s | apply K32.rm_app)))))) ⟨by simp, rfl⟩
end
end K32

set_option Elab.async false
set_option linter.all false
set_option autoImplicit false
set_option maxRecDepth 100000
set_option maxHeartbeats 4000000
namespace K32
open PySem PySem.Spec PyProof.Rows L2 Px Sl
local macro_rules
  | `(tactic| tb_rel) => `(tactic| first
    | with_reducible refine s_forI ?_
    | with_reducible refine s_for ?_
    | with_reducible refine s_seq ?_
    | with_reducible refine s_if ?_
    | with_reducible refine s_next ?_
    | with_reducible refine s_brk ?_
    | with_reducible refine s_cont ?_
    | with_reducible refine s_retN ?_
    | with_reducible refine s_asgT ?_
    | with_reducible refine s_asgL ?_
    | with_reducible refine s_drop ?_
    | with_reducible refine s_dput ?_
    | with_reducible refine s_setIA ?_
    | with_reducible refine t_test ?_
    | with_reducible refine t_B ?_
    | with_reducible refine t_yes ?_
    | with_reducible refine t_and ?_
    | with_reducible refine t_or ?_
    | with_reducible refine t_not ?_
    | with_reducible refine e_op ?_
    | with_reducible refine e_isi ?_
    | with_reducible refine e_extN ?_
    | with_reducible refine e_appA ?_
    | with_reducible refine e_popAtA ?_
    | with_reducible refine e_cb ?_
    | with_reducible refine e_lst ?_
    | with_reducible refine e_tup ?_
    | with_reducible refine e_neg ?_
    | with_reducible refine e_int ?_
    | with_reducible refine e_str ?_
    | with_reducible refine e_bl ?_
    | with_reducible refine e_non ?_
    | with_reducible refine e_din ?_
    | with_reducible refine e_andV ?_
    | with_reducible refine e_orV ?_
    | with_reducible refine e_slLs ?_
    | with_reducible refine e_slT ?_
    | with_reducible refine e_chain ?_
    | with_reducible refine a_cons ?_
    | with_reducible refine a_nil ?_
    | with_reducible refine o_no ?_
    | with_reducible refine o_so ?_
    | with_reducible refine i_range1 ?_
    | with_reducible refine i_list ?_
    | with_reducible refine i_tup ?_
    | with_reducible refine i_enum ?_
    | with_reducible refine i_enumRev ?_
    | with_reducible refine g_name ?_
    | with_reducible refine gs_cons ?_
    | with_reducible refine gs_nil ?_
    | with_reducible refine o_int ?_
    | with_reducible refine o_bool ?_
    | with_reducible refine o_eqI ?_
    | with_reducible refine o_neI ?_
    | with_reducible refine o_eqS ?_
    | with_reducible refine o_neS ?_
    | with_reducible refine o_isN ?_
    | with_reducible refine o_notN ?_
    | with_reducible refine c_lenT ?_
    | with_reducible refine c_intB ?_
    | with_reducible refine c_min2 ?_
    | with_reducible refine c_max2 ?_
    | ((fail_if_success (with_reducible refine e_notV (e_cb (a_cons (e_lc ?_ ?_))))); (with_reducible refine e_notV ?_))
    | ((fail_if_success (with_reducible refine s_ret (e_lst ?_))); (fail_if_success (with_reducible refine s_ret (e_lc ?_ ?_))); (with_reducible refine s_ret ?_))
    | ((fail_if_success (with_reducible refine s_set (e_lst ?_))); (fail_if_success (with_reducible refine s_set (e_lc ?_ ?_))); (with_reducible refine s_set ?_))
    | ((with_reducible apply e_var); exact rfl)
    | with_reducible refine e_callG rfl ?_
    | with_reducible refine e_methG rfl ?_
    | with_reducible refine e_makeG rfl ?_
    | refine e_fld rfl (by assumption) (by assumption) ?_
    | refine s_fldA rfl (by assumption) (by assumption) ?_
    | refine o_ixT (by rfl) ?_
    | refine c_lenLs (by (first | exact Sl.LsOf.fz | exact Sl.LsOf.ce (by (repeat (first | exact Sl.At.z | apply Sl.At.s))))) ?_
    | ((with_reducible refine g_tup ?_ ?_); exact rfl)
    | with_reducible refine ⟨_, rfl, ?_⟩
    | with_reducible refine ⟨_, _, rfl, rfl, ?_⟩
    | with_reducible refine ⟨_, LsOf.fz, ?_⟩
    | refine ⟨_, _, _, _, rfl, (by (repeat (first | exact Sl.At.z | apply Sl.At.s))), (by (repeat (first | exact Sl.Lk.z | (apply Sl.Lk.s; decide +kernel)))), ?_⟩
    | refine ⟨_, _, _, rfl, (by (repeat (first | exact Sl.At.z | apply Sl.At.s))), (by rfl), ?_⟩
    | refine ⟨_, _, _, rfl, (by (repeat (first | exact Sl.At.z | apply Sl.At.s))), ?_⟩
    | refine ⟨⟨_, _, _, rfl, (by (repeat (first | exact Sl.At.z | apply Sl.At.s)))⟩, ?_⟩
    | refine ⟨_, _, _, rfl, (by (repeat (first | exact Sl.Rp.z | apply Sl.Rp.s))), (by exact Nat.le_of_ble_eq_true rfl), (by exact Nat.le_of_ble_eq_true rfl), ?_⟩
    | refine ⟨_, (by (first | exact Sl.LsOf.fz | exact Sl.LsOf.ce (by (repeat (first | exact Sl.At.z | apply Sl.At.s))))), ?_⟩
    | refine ⟨_, _, (by (first | exact Sl.LsAs.fz | exact Sl.LsAs.ce (by (repeat (first | exact Sl.At.z | apply Sl.At.s))))), ?_⟩
    | refine o_ixLs (by (first | exact Sl.LsOf.fz | exact Sl.LsOf.ce (by (repeat (first | exact Sl.At.z | apply Sl.At.s))))) (by rfl) ?_
    | refine ⟨_, _, _, _, _, rfl, rfl, (by (repeat (first | exact Sl.At.z | apply Sl.At.s))), ?_⟩
    | refine ⟨_, _, _, _, _, _, rfl, rfl, (by (repeat (first | exact Sl.At.z | apply Sl.At.s))), (by rfl), (by (repeat (first | exact Sl.Rp.z | apply Sl.Rp.s))), ?_⟩
    | refine ⟨_, _, _, _, _, rfl, (by (repeat (first | exact Sl.At.z | apply Sl.At.s))), (by (repeat (first | exact Sl.Pf.n | exact Sl.Pf.z | (apply Sl.Pf.s; decide +kernel)))), (by exact Nat.le_of_ble_eq_true rfl), (by (repeat (first | exact Sl.Rp.z | apply Sl.Rp.s))), ?_⟩
    | ((with_reducible refine And.intro ?_ ?_); exact Nat.le_of_ble_eq_true rfl)
    | with_reducible refine e_gref ?_
    | refine o_inT (by rfl) (by rfl) ?_
    | refine ⟨_, true, rfl, kit_ty (by decide +kernel), ?_⟩
    | refine ⟨_, false, rfl, kit_ty (by decide +kernel), ?_⟩
    | refine ⟨fun _ => ?_, fun hb => absurd hb (by decide +kernel)⟩
    | refine ⟨fun hb => absurd hb (by decide +kernel), fun _ => ?_⟩
    | refine ⟨fun _ => ?_, fun hb => ctT (by rfl) hb⟩
    | refine ⟨fun hb => ctT (by rfl) hb, fun _ => ?_⟩
    | refine ⟨fun _ => ?_, fun hb => ctF (by rfl) hb⟩
    | refine ⟨fun hb => ctF (by rfl) hb, fun _ => ?_⟩
    | fail)
/-! ### try -/
abbrev _root_.Sl.Zx.at_ (Z : Zx) (F : Hp) : Zx := { Z with F0 := F }
section
variable {Z : Zx} {F F' H H' : Hp} {σ σ' : Sl.St} {Γ Γ' : Sy}
theorem rebase (S : Sta Z F H σ Γ) : Sta (Z.at_ F) F H σ Γ := ⟨Same.refl _, S.fh, S.hh, fun _ _ _ => rfl, S.pp, S.sl, S.ce, S.nd, S.ln, S.xn⟩
theorem unbase (S0 : Sta Z F H σ Γ) (S : Sta (Z.at_ F) F' H' σ' Γ') : Sta Z F' H' σ' Γ' := ⟨S0.ff.trans S.ff, S.fh, S.hh, fun a o h => (S.fr a o h).trans (S0.fr a o h), S.pp, S.sl, S.ce, S.nd, S.ln, S.xn⟩
/-- what the body may raise is an x, told True of -/
theorem s_tryRet {K : PySem.W.Frag} {cs : List Value} {c : Value} {i : Nat} {x : Str} {tb : WX → TS} {ts : Addr → Value → Option Addr → TS} {E : DE} (XR : Sy → Prop) (hK : Z.K = K)
    (hb : ∀ (F0 : Hp) (W : WX), (∀ Γ', XR Γ' → Xw (Z.at_ F0) W x Γ') → Sd (Z.at_ F0) (tb W) Γ E)
    (hl : ∀ Γ', XR Γ' → i < Γ'.g.length)
    (h0 : ∀ c' ∈ cs, PySem.W.exmOne K (.ref (He.ga K x)) c' = some false) (h1 : PySem.W.exmOne K (.ref (He.ga K x)) c = some true)
    (hs : ∀ Γ', XR Γ' → E.rt (.bool true) Γ')
    (ht : ∀ (a : Addr) (D : Ends) (σ : Sl.St) (H : Hp), σ[i]? = some (some (.ref a)) → D.rt (.bl true) H → ts a (.ref (He.ga K x)) none D σ H) :
    Sd Z (fun D σ H => tb (L2N.wTwo K cs c i ts D) D σ H) Γ E := fun F H σ S D n r b cc => by
  refine hb F (L2N.wTwo K cs c i ts D) (fun Γ' xr F1 H1 σ1 S1 => ?_) F H σ (rebase S) D (fun F' H' σ' Γ' e s S' => n F' H' σ' Γ' e s (unbase S S')) (fun v F' H' σ' d Γ' e s S' hv => r v F' H' σ' d Γ' e s (unbase S S') hv) (fun F' H' σ' Γ' e s S' => b F' H' σ' Γ' e s (unbase S S')) (fun F' H' σ' Γ' e s S' => cc F' H' σ' Γ' e s (unbase S S'))
  subst hK
  refine ⟨h0, h1, fun a ha => ht a _ _ H1 (List.getElem?_set_self (by rw [S1.ln]; exact hl Γ' xr)) ?_⟩
  exact r (.bl true) F1 H1 σ1 (.bool true) Γ' (hs Γ' xr) S1.ff (unbase S S1) (.bl true)
end
/-- isinstance of the exception that the suite holds, of any class -/
def rIsG (K : PySem.W.Frag) (D a : Addr) (cls : Value) (d : Option Addr) : List V → Hp → VK → Prop := fun xs H Q => cls = .ref D ∧ d = none ∧ rIsE K D a xs H Q
theorem call_isG {X : Cx} {a D : Addr} {oe : Obj} {pn : List (Addr × Obj)} {cls : Value} {d : Option Addr} (C : ExcC X.K D) (hz : L2N.Zn cls d oe) (hf : ∃ vs, oe.data = .fields vs) : CallR (X.suite a ((a, oe) :: pn)) (.builtin "isinstance") (rIsG X.K D a cls d) := by
  intro pins s σ H xs us Q I r h
  obtain ⟨rfl, rfl, h⟩ := h
  exact call_isE C hz.zc hf pins s σ H xs us Q I r h
theorem pe_cl0 {X : Cx} {k j : Nat} {x : Str} {sp : Sp} {W : WX} {p pos : Pos} (c : Sl.Cl X.prog X.w X.K X.mg X.base k x sp) (hr : Room j X.A) (hu : X.A.guards = some []) (hk : k ≤ j) (hg : Gl X x) (tk : L2N.Takes X W) (hdb : (x == ("__debug__" : Str)) = false := by decide) :
    PE X (.Call (.Name x p) [] [] pos) (tCallS sp (WE W) tNil) := by
  obtain ⟨f, fd, ps, F, hm, hkp, hb⟩ := c.ex
  refine ⟨fun pins s σ H Q I h => ?_⟩
  refine wpAny_Call_Name_kw (ld_glob I hg hm ?_ hdb)
  exact PySem.W.callWith_K0 I.kIn hkp (run_fnU (us := []) (vs := []) F (hr.mono hk) hu hb (L2N.passAt tk σ) I .nil h)
structure Tz (K : PySem.W.Frag) (mg : Str → Option Value) : Prop extends Tx K mg where
  g_NoCode : mg "NoCode" = some (.ref (He.ga K "NoCode"))
  g_NoDeed : mg "NoDeed" = some (.ref (He.ga K "NoDeed"))
  g_NoSide : mg "NoSide" = some (.ref (He.ga K "NoSide"))
  g_NoText : mg "NoText" = some (.ref (He.ga K "NoText"))
  g_NoWord : mg "NoWord" = some (.ref (He.ga K "NoWord"))
  g_ShapeError : mg "ShapeError" = some (.ref (He.ga K "ShapeError"))
  f_ValueError : mg "ValueError" = none
  ec : ExcC K (He.ga K "NoLetter")
  isS : PySem.W.kitOne K (.ref (He.ga K "NoLetter")) (.ref (He.ga K "ShapeError")) = some true
  isV : PySem.W.kitOne K (.ref (He.ga K "NoLetter")) (.type "ValueError") = some true
  no : ∀ x ∈ (["NoCode", "NoDeed", "NoSide", "NoText", "NoWord"] : List Str), PySem.W.exmOne K (.ref (He.ga K "NoLetter")) (.ref (He.ga K x)) = some false
  yes : PySem.W.exmOne K (.ref (He.ga K "NoLetter")) (.ref (He.ga K "NoLetter")) = some true
def tryBody (st : Stmt) : List Stmt := match defBody st with
  | (.Try b _ _ _ _) :: _ => b
  | _ => []
abbrev s__law_refused : Stmt := top 30
abbrev N__law_refused : List Str := ["_law_front", "_law_letter", "error"]
theorem sc__law_refused : FnScope N__law_refused ["_law_front", "_law_letter"] (defScope s__law_refused) := ⟨rfl, rfl, rfl, by decide +kernel, rfl, by decide +kernel, by decide +kernel⟩
abbrev s__law_things : Stmt := top 28
abbrev N__law_things : List Str := ["_law_found"]
theorem sc__law_things : FnScope N__law_things [] (defScope s__law_things) := ⟨rfl, rfl, rfl, by decide +kernel, rfl, by decide +kernel, by decide +kernel⟩
abbrev spRefused (K : PySem.W.Frag) : Sp := SpG K (G := Fr × D) (fun g => [.ref g.1.q.f, g.2]) (fun g => g.1.C) (fun g => putP (.inr g)) (fun g out cs => out = .ret (.bool true) ∧ cs = g.1.C)
def thingsD : List D := [.none, .str "C", .str "S0.3", .list [.str "C"], .tuple [], .tuple [.str "c"], .tuple [.str "X"], .tuple [.str ""], .tuple [.int 0], .tuple [.none], .tuple [.str "CE"], .tuple [.str "C", .int 0], .tuple [.str "E", .int 0], .tuple [.str "C", .str "E"], .tuple [.str "S"], .tuple [.str "S", .int 0], .tuple [.str "S", .int 0, .int 3, .int 0], .tuple [.str "S", .bool true, .int 3], .tuple [.str "S", .int 1, .bool true], .tuple [.str "S", .bool false, .int 3], .tuple [.str "S", .int (-1), .int 3], .tuple [.str "S", .int 0, .int (-1)], .tuple [.str "S", .str "0", .str "3"], .tuple [.list [.str "C"]], .tuple [.str "S", .list [.int 0], .int 3], .tuple [.tuple [.str "C"]]]
def tyB (d : D) : Bool := (tyD d).isSome
def thB : D → Bool
  | .tuple ds => ds.all tyB
  | d => tyB d
theorem tyB_ok {d : D} (h : tyB d = true) : Ty d := by
  unfold tyB at h
  cases e : tyD d with
  | none => rw [e] at h; cases h
  | some m => exact ⟨m, e⟩
theorem thB_ok {d : D} (h : thB d = true) : Th d := by
  cases d with
  | tuple ds => exact fun e he => tyB_ok (List.all_eq_true.mp h e he)
  | _ => exact tyB_ok h
theorem things_ok : thingsD.all (fun d => thB d && !isLe d) = true := by decide +kernel
theorem things_mem {d : D} (h : d ∈ thingsD) : Th d ∧ isLe d = false := by
  have := List.all_eq_true.mp things_ok d h
  obtain ⟨h1, h2⟩ := Bool.and_eq_true_iff.mp this
  exact ⟨thB_ok h1, by simpa using h2⟩
abbrev spThings (K : PySem.W.Frag) : Sp := SpG K (G := Unit) (fun _ => []) (fun _ => []) (fun _ => True) (fun _ out cs => out = .ret (.list thingsD) ∧ cs = [])
section
variable {P : Program} {w : World} {K : PySem.W.Frag} {mg : Str → Option Value} {base : Heap}
theorem cl_refused (T : Tz K mg) (D : Fd K mg "_law_refused" s__law_refused) (c_Front_put : ClM P w K mg base 3 "Front" "put" (spPut K)) : Cl P w K mg base 4 "_law_refused" (spRefused K) := by
  refine mk_clG D sc__law_refused (fun _ _ _ _ _ _ us hl => match us, hl with | [_, _], _ => rfl) (fun _ => rfl) (fun cdv A outer s H E hr hu => ⟨_, (pss_cons (L2N.ps_try_two (tb := fun W => tDrop (tMethU (He.ga K "Front") "put" (spPut K) (WE W) (tVar 0) (tCons (tVar 1) tNil))) (body := tryBody s__law_refused) (i := 2) rfl rfl sc__law_refused.nd rfl rfl ⟨rfl, by decide, .inl T.g_NoLetter⟩ ⟨rfl, by decide, T.g_NoCode⟩ ⟨rfl, by decide, T.g_NoDeed⟩ ⟨rfl, by decide, T.g_NoSide⟩ ⟨rfl, by decide, T.g_NoText⟩ ⟨rfl, by decide, T.g_NoWord⟩ (fun W pn xe tk _ => (pss_one (ps_expr (pe_clM c_Front_put T.cFront hr hu (by omega) tk (pv 0) (pa_cons (pv 1) pa_nil))))) (fun a oe cls d pn hz hf => (pss_one (ps_ret (pe_and (pe_callB (call_isG T.ec hz hf) (by rfl) T.f_isinstance (by decide +kernel) (pa_cons (pv 2) (pa_cons (pe_glob (v := .ref (He.ga K "ShapeError")) (by rfl) T.g_ShapeError rfl) pa_nil))) (pe_one (pe_callB (call_isG T.ec hz hf) (by rfl) T.f_isinstance (by decide +kernel) (pa_cons (pv 2) (pa_cons (pe_bltn (v := .ty "ValueError") (by rfl) T.f_ValueError (by decide +kernel) rfl) pa_nil)))))))))
    (pss_one (ps_ret pe_bl))), ?_⟩)
  rintro ⟨⟨q, L, m, k, n⟩, d⟩ pre Zf ee hE hx
  try dsimp only [cxOf]
  refine s_seq (s_tryRet (K := K) (tb := fun W => tDrop (tMethU (He.ga K "Front") "put" (spPut K) (WE W) (tVar 0) (tCons (tVar 1) tNil))) (ts := fun a cls d => tRet (tAndV (tCB (rIsG K (He.ga K "NoLetter") a cls d) (tCons (tVar 2) (tCons (tC (.ref (He.ga K "ShapeError"))) tNil))) (tCB (rIsG K (He.ga K "NoLetter") a cls d) (tCons (tVar 2) (tCons (tC (.ty "ValueError")) tNil))))) (cs := [.ref (He.ga K "NoCode"), .ref (He.ga K "NoDeed"), .ref (He.ga K "NoSide"), .ref (He.ga K "NoText"), .ref (He.ga K "NoWord")]) (c := .ref (He.ga K "NoLetter")) (i := 2) (x := "NoLetter") (fun Γ' => Γ' = ⟨[some (.ref q.f), some d, none], Fr.C ⟨q, L, m, k, n⟩⟩) rfl (fun F0 W hW => ?_) (fun Γ' e => by subst e; exact (show 2 < 3 by decide)) ?_ T.yes (fun Γ' e => ?_) (fun a D σ H hs hr => ?_))
  · refine s_drop ?_
    refine e_methG rfl (e_var rfl ⟨_, _, _, rfl, (by (repeat (first | exact Sl.At.z | apply Sl.At.s))), (by rfl), ?_⟩)
    repeat tb_rel
    refine ⟨.inr (⟨q, L, m, k, n⟩, d), _, rfl, (by (repeat (first | exact Sl.Take.nil | (apply Sl.Take.cons; (repeat (first | exact Sl.Rm.z | apply Sl.Rm.s)))))), pre, ?_⟩
    rintro out cs ⟨rfl, rfl⟩
    exact hW _ rfl
  · intro c' hc'
    simp at hc'
    rcases hc' with rfl | rfl | rfl | rfl | rfl
    · exact T.no _ (by simp)
    · exact T.no _ (by simp)
    · exact T.no _ (by simp)
    · exact T.no _ (by simp)
    · exact T.no _ (by simp)
  · subst e
    exact hE.rt (cs' := Fr.C ⟨q, L, m, k, n⟩) (r := []) (by (repeat (first | exact Sl.Take.nil | (apply Sl.Take.cons; (repeat (first | exact Sl.Rm.z | apply Sl.Rm.s)))))) ⟨rfl, rfl⟩
  · refine ⟨_, hs, rfl, rfl, _, _, true, rfl, (fun u h => h), T.isS, true, rfl, ?_⟩
    rw [if_pos rfl]
    exact ⟨_, hs, rfl, rfl, _, _, true, rfl, (fun u h => h), T.isV, hr⟩
theorem cl_things (T : Tz K mg) (D : Fd K mg "_law_things" s__law_things) : Cl P w K mg base 1 "_law_things" (spThings K) := by
  refine mk_clG D sc__law_things (fun _ _ _ _ _ _ us hl => match us, hl with | [], _ => rfl) (fun _ => rfl) (fun cdv A outer s H E hr hu => ⟨_, (pss_cons (ps_set (i := 0) sc__law_things.nd rfl (by first | exact .inl rfl | exact .inr rfl) (pe_lst (pa_cons pe_non (pa_cons pe_str (pa_cons pe_str (pa_cons (pe_lst (pa_cons pe_str pa_nil)) (pa_cons (pe_tup pa_nil) (pa_cons (pe_tup (pa_cons pe_str pa_nil)) (pa_cons (pe_tup (pa_cons pe_str pa_nil)) (pa_cons (pe_tup (pa_cons pe_str pa_nil)) (pa_cons (pe_tup (pa_cons pe_int pa_nil)) (pa_cons (pe_tup (pa_cons pe_non pa_nil)) (pa_cons (pe_tup (pa_cons pe_str pa_nil)) (pa_cons (pe_tup (pa_cons pe_str (pa_cons pe_int pa_nil))) (pa_cons (pe_tup (pa_cons pe_str (pa_cons pe_int pa_nil))) pa_nil)))))))))))))))
    (pss_cons (ps_expr (pe_bm PySem.F.plainAttrs_list PySem.F.slot_list_append PySem.F.type_list_append mt_append (pv 0) (pa_cons (pe_tup (pa_cons pe_str (pa_cons pe_str pa_nil))) pa_nil)))
    (pss_cons (ps_set (i := 0) sc__law_things.nd rfl (by first | exact .inl rfl | exact .inr rfl) (pe_op op_catS (pv 0) (pe_lst (pa_cons (pe_tup (pa_cons pe_str pa_nil)) (pa_cons (pe_tup (pa_cons pe_str (pa_cons pe_int pa_nil))) (pa_cons (pe_tup (pa_cons pe_str (pa_cons pe_int (pa_cons pe_int (pa_cons pe_int pa_nil))))) (pa_cons (pe_tup (pa_cons pe_str (pa_cons pe_bl (pa_cons pe_int pa_nil)))) (pa_cons (pe_tup (pa_cons pe_str (pa_cons pe_int (pa_cons pe_bl pa_nil)))) (pa_cons (pe_tup (pa_cons pe_str (pa_cons pe_bl (pa_cons pe_int pa_nil)))) (pa_cons (pe_tup (pa_cons pe_str (pa_cons (pe_un un_neg pe_int) (pa_cons pe_int pa_nil)))) pa_nil))))))))))
    (pss_one (ps_ret (pe_op op_catS (pv 0) (pe_lst (pa_cons (pe_tup (pa_cons pe_str (pa_cons pe_int (pa_cons (pe_un un_neg pe_int) pa_nil)))) (pa_cons (pe_tup (pa_cons pe_str (pa_cons pe_str (pa_cons pe_str pa_nil)))) (pa_cons (pe_tup (pa_cons (pe_lst (pa_cons pe_str pa_nil)) pa_nil)) (pa_cons (pe_tup (pa_cons pe_str (pa_cons (pe_lst (pa_cons pe_int pa_nil)) (pa_cons pe_int pa_nil)))) (pa_cons (pe_tup (pa_cons (pe_tup (pa_cons pe_str pa_nil)) pa_nil)) pa_nil)))))))))))), ?_⟩)
  rintro ⟨⟩ pre Zf ee hE hx
  try dsimp only [cxOf]
  refine s_seq (s_set (e_lstN ?_))
  repeat tb_rel
  rintro p hp
  repeat tb_rel
  refine ⟨_, _, Nat.le_of_ble_eq_true rfl, (by (repeat (first | exact Sl.Rp.z | apply Sl.Rp.s))), ?_⟩
  repeat tb_rel
  refine o_catLs (by (first | exact Sl.LsOf.fz | exact Sl.LsOf.ce (by (repeat (first | exact Sl.At.z | apply Sl.At.s))))) .fz (Nat.le_of_ble_eq_true rfl) ?_
  repeat tb_rel
  refine o_catLs .fz .fz (Nat.le_of_ble_eq_true rfl) ?_
  exact hE.rt .nil ⟨rfl, rfl⟩
end
end K32

set_option Elab.async false
set_option linter.all false
set_option autoImplicit false
set_option maxRecDepth 100000
set_option maxHeartbeats 4000000
namespace K32
open PySem PySem.Spec PyProof.Rows L2 Px Sl

local macro_rules
  | `(tactic| tb_rel) => `(tactic| first
    | with_reducible refine s_forI ?_
    | with_reducible refine s_for ?_
    | with_reducible refine s_seq ?_
    | with_reducible refine s_if ?_
    | with_reducible refine s_next ?_
    | with_reducible refine s_brk ?_
    | with_reducible refine s_cont ?_
    | with_reducible refine s_retN ?_
    | with_reducible refine s_asgT ?_
    | with_reducible refine s_asgL ?_
    | with_reducible refine s_drop ?_
    | with_reducible refine s_dput ?_
    | with_reducible refine s_setIA ?_
    | with_reducible refine t_test ?_
    | with_reducible refine t_B ?_
    | with_reducible refine t_yes ?_
    | with_reducible refine t_and ?_
    | with_reducible refine t_or ?_
    | with_reducible refine t_not ?_
    | with_reducible refine e_op ?_
    | with_reducible refine e_isi ?_
    | with_reducible refine e_extN ?_
    | with_reducible refine e_appA ?_
    | with_reducible refine e_popAtA ?_
    | with_reducible refine e_cb ?_
    | with_reducible refine e_lst ?_
    | with_reducible refine e_tup ?_
    | with_reducible refine e_neg ?_
    | with_reducible refine e_int ?_
    | with_reducible refine e_str ?_
    | with_reducible refine e_bl ?_
    | with_reducible refine e_non ?_
    | with_reducible refine e_din ?_
    | with_reducible refine e_andV ?_
    | with_reducible refine e_orV ?_
    | with_reducible refine e_slLs ?_
    | with_reducible refine e_slT ?_
    | with_reducible refine e_chain ?_
    | with_reducible refine a_cons ?_
    | with_reducible refine a_nil ?_
    | with_reducible refine o_no ?_
    | with_reducible refine o_so ?_
    | with_reducible refine i_range1 ?_
    | with_reducible refine i_list ?_
    | with_reducible refine i_tup ?_
    | with_reducible refine i_enum ?_
    | with_reducible refine i_enumRev ?_
    | with_reducible refine g_name ?_
    | with_reducible refine gs_cons ?_
    | with_reducible refine gs_nil ?_
    | with_reducible refine o_int ?_
    | with_reducible refine o_bool ?_
    | with_reducible refine o_eqI ?_
    | with_reducible refine o_neI ?_
    | with_reducible refine o_eqS ?_
    | with_reducible refine o_neS ?_
    | with_reducible refine o_isN ?_
    | with_reducible refine o_notN ?_
    | with_reducible refine c_lenT ?_
    | with_reducible refine c_intB ?_
    | with_reducible refine c_min2 ?_
    | with_reducible refine c_max2 ?_
    | ((fail_if_success (with_reducible refine e_notV (e_cb (a_cons (e_lc ?_ ?_))))); (with_reducible refine e_notV ?_))
    | ((fail_if_success (with_reducible refine s_ret (e_lst ?_))); (fail_if_success (with_reducible refine s_ret (e_lc ?_ ?_))); (with_reducible refine s_ret ?_))
    | ((fail_if_success (with_reducible refine s_set (e_lst ?_))); (fail_if_success (with_reducible refine s_set (e_lc ?_ ?_))); (with_reducible refine s_set ?_))
    | ((with_reducible apply e_var); exact rfl)
    | with_reducible refine e_callG rfl ?_
    | with_reducible refine e_methG rfl ?_
    | with_reducible refine e_makeG rfl ?_
    | refine e_fld rfl (by assumption) (by assumption) ?_
    | refine s_fldA rfl (by assumption) (by assumption) ?_
    | refine o_ixT (by rfl) ?_
    | refine c_lenLs (by (first | exact Sl.LsOf.fz | exact Sl.LsOf.ce (by (repeat (first | exact Sl.At.z | apply Sl.At.s | apply K32.at_app))))) ?_
    | ((with_reducible refine g_tup ?_ ?_); exact rfl)
    | with_reducible refine ⟨_, rfl, ?_⟩
    | with_reducible refine ⟨_, _, rfl, rfl, ?_⟩
    | with_reducible refine ⟨_, LsOf.fz, ?_⟩
    | refine ⟨_, _, _, _, rfl, (by (repeat (first | exact Sl.At.z | apply Sl.At.s | apply K32.at_app))), (by (repeat (first | exact Sl.Lk.z | (apply Sl.Lk.s; decide +kernel)))), ?_⟩
    | refine ⟨_, _, _, rfl, (by (repeat (first | exact Sl.At.z | apply Sl.At.s | apply K32.at_app))), (by rfl), ?_⟩
    | refine ⟨_, _, _, rfl, (by (repeat (first | exact Sl.At.z | apply Sl.At.s | apply K32.at_app))), ?_⟩
    | refine ⟨⟨_, _, _, rfl, (by (repeat (first | exact Sl.At.z | apply Sl.At.s | apply K32.at_app)))⟩, ?_⟩
    | refine ⟨_, _, _, rfl, (by (repeat (first | exact Sl.Rp.z | apply Sl.Rp.s | apply K32.rp_app))), (by exact Nat.le_of_ble_eq_true rfl), (by exact Nat.le_of_ble_eq_true rfl), ?_⟩
    | refine ⟨_, (by (first | exact Sl.LsOf.fz | exact Sl.LsOf.ce (by (repeat (first | exact Sl.At.z | apply Sl.At.s | apply K32.at_app))))), ?_⟩
    | refine ⟨_, _, (by (first | exact Sl.LsAs.fz | exact Sl.LsAs.ce (by (repeat (first | exact Sl.At.z | apply Sl.At.s | apply K32.at_app))))), ?_⟩
    | refine o_ixLs (by (first | exact Sl.LsOf.fz | exact Sl.LsOf.ce (by (repeat (first | exact Sl.At.z | apply Sl.At.s | apply K32.at_app))))) (by rfl) ?_
    | refine ⟨_, _, _, _, _, rfl, rfl, (by (repeat (first | exact Sl.At.z | apply Sl.At.s | apply K32.at_app))), ?_⟩
    | refine ⟨_, _, _, _, _, _, rfl, rfl, (by (repeat (first | exact Sl.At.z | apply Sl.At.s | apply K32.at_app))), (by rfl), (by (repeat (first | exact Sl.Rp.z | apply Sl.Rp.s | apply K32.rp_app))), ?_⟩
    | refine ⟨_, _, _, _, _, rfl, (by (repeat (first | exact Sl.At.z | apply Sl.At.s | apply K32.at_app))), (by (repeat (first | exact Sl.Pf.n | exact Sl.Pf.z | (apply Sl.Pf.s; decide +kernel)))), (by exact Nat.le_of_ble_eq_true rfl), (by (repeat (first | exact Sl.Rp.z | apply Sl.Rp.s | apply K32.rp_app))), ?_⟩
    | ((with_reducible refine And.intro ?_ ?_); exact Nat.le_of_ble_eq_true rfl)
    | with_reducible refine e_gref ?_
    | refine o_inT (by rfl) (by rfl) ?_
    | refine ⟨_, true, rfl, kit_ty (by decide +kernel), ?_⟩
    | refine ⟨_, false, rfl, kit_ty (by decide +kernel), ?_⟩
    | refine ⟨fun _ => ?_, fun hb => absurd hb (by decide +kernel)⟩
    | refine ⟨fun hb => absurd hb (by decide +kernel), fun _ => ?_⟩
    | refine ⟨fun _ => ?_, fun hb => ctT (by rfl) hb⟩
    | refine ⟨fun hb => ctT (by rfl) hb, fun _ => ?_⟩
    | refine ⟨fun _ => ?_, fun hb => ctF (by rfl) hb⟩
    | refine ⟨fun hb => ctF (by rfl) hb, fun _ => ?_⟩
    | fail)
abbrev s__law_letters : Stmt := top 29
abbrev N__law_letters : List Str := ["_law_own", "_law_found", "_law_j", "_law_many", "_law_k", "_law_letter"]
theorem sc__law_letters : FnScope N__law_letters ["_law_own"] (defScope s__law_letters) := ⟨rfl, rfl, rfl, by decide +kernel, rfl, by decide +kernel, by decide +kernel⟩
abbrev s__law_all_refused : Stmt := top 31
abbrev N__law_all_refused : List Str := ["_law_front", "_law_own", "_law_letter"]
theorem sc__law_all_refused : FnScope N__law_all_refused ["_law_front", "_law_own"] (defScope s__law_all_refused) := ⟨rfl, rfl, rfl, by decide +kernel, rfl, by decide +kernel, by decide +kernel⟩
abbrev spLetters (K : PySem.W.Frag) : Sp := SpG K (G := OG) (fun g => [.ref g.q.o]) (fun g => g.C) (fun g => Ok g.L g.m g.n ∧ g.m.length ≤ 100) (fun g out cs => ∃ ts : List Lt, (∀ t ∈ ts, canA g.L g.m g.n t = none) ∧ ts.length ≤ 50000 ∧ out = .ret (.list (ts.map Lt.d)) ∧ cs = g.C)
abbrev spAllRef (K : PySem.W.Frag) : Sp := SpG K (G := Fr × OA) (fun g => [.ref g.1.q.f, .ref g.2.o]) (fun g => g.1.C ++ OC g.2 g.1.L g.1.m g.1.n) (fun g => Ok g.1.L g.1.m g.1.n ∧ g.1.m.length ≤ 100 ∧ Closed g.1.k g.1.m) (fun g out cs => out = .ret (.bool true) ∧ cs = g.1.C ++ OC g.2 g.1.L g.1.m g.1.n)
section
variable {P : Program} {w : World} {K : PySem.W.Frag} {mg : Str → Option Value} {base : Heap}
theorem cl_letters (T : Tz K mg) (D : Fd K mg "_law_letters" s__law_letters) (c__law_can : Cl P w K mg base 2 "_law_can" (spCan K)) : Cl P w K mg base 3 "_law_letters" (spLetters K) := by
  refine mk_clG D sc__law_letters (fun _ _ _ _ _ _ us hl => match us, hl with | [_], _ => rfl) (fun _ => rfl) (fun cdv A outer s H E hr hu => ⟨_, (pss_cons (ps_set (i := 1) sc__law_letters.nd rfl (by first | exact .inl rfl | exact .inr rfl) (pe_lst (pa_cons (pe_tup (pa_cons pe_str pa_nil)) (pa_cons (pe_tup (pa_cons pe_str pa_nil)) (pa_cons (pe_tup (pa_cons pe_str pa_nil)) pa_nil)))))
    (pss_cons (ps_if (pt_cmpR (op_eqD hr.units) (pe_ix ix_list (pv 0) pe_int (fun _ _ => rfl)) (pe_lst pa_nil) (nomark _)) (pss_one (ps_expr (pe_bm PySem.F.plainAttrs_list PySem.F.slot_list_append PySem.F.type_list_append mt_append (pv 1) (pa_cons (pe_tup (pa_cons pe_str pa_nil)) pa_nil)))) pss_nil)
    (pss_cons (ps_for PassesOwn.leaving rfl (pi_range1 (by rfl) T.f_range (pa_cons (pe_op op_add (pe_callB call_len_seq (by rfl) T.f_len boot_len (pa_cons (pe_ix ix_list (pv 0) pe_int (fun _ _ => rfl)) pa_nil)) pe_int) pa_nil)) (pg_name (i := 2) sc__law_letters.nd rfl (by first | exact Or.inl rfl | exact Or.inr rfl)) (pss_cons (ps_set (i := 3) sc__law_letters.nd rfl (by first | exact .inl rfl | exact .inr rfl) pe_int)
    (pss_cons (ps_if (pt_cmpR op_lt (pv 2) (pe_callB call_len_seq (by rfl) T.f_len boot_len (pa_cons (pe_ix ix_list (pv 0) pe_int (fun _ _ => rfl)) pa_nil)) (nomark _)) (pss_one (ps_set (i := 3) sc__law_letters.nd rfl (by first | exact .inl rfl | exact .inr rfl) (pe_op op_add (pe_callB call_len_seq (by rfl) T.f_len boot_len (pa_cons (pe_ix ix_list (pe_ix ix_list (pv 0) pe_int (fun _ _ => rfl)) (pe_op op_sub (pe_un un_neg pe_int) (pv 2)) (fun _ _ => rfl)) pa_nil)) pe_int))) pss_nil)
    (pss_one (ps_set (i := 1) sc__law_letters.nd rfl (by first | exact .inl rfl | exact .inr rfl) (pe_op op_catS (pv 1) (pe_lc (own := [("_law_k", 4)]) (g := gName 4) (tt := tYes) (te := tTup (tCons (tC (.str "S")) (tCons (tVar 2) (tCons (tVar 4) tNil)))) rfl sc__law_letters.nd (pi_range1 (by rfl) T.f_range (pa_cons (pv 3) pa_nil)) (blkOk_by (N := N__law_letters) (sc := defScope s__law_letters) (by decide +kernel)) (fun _ _ _ _ _ => (pg_name (i := 4) sc__law_letters.nd rfl (by first | exact Or.inl rfl | exact Or.inr rfl))) (fun _ _ _ _ _ => pts_nil) (fun _ _ _ _ _ => (pe_tup (pa_cons pe_str (pa_cons (pv 2) (pa_cons (pv 4) pa_nil))))))))))))
    (pss_one (ps_ret (pe_lc (own := [("_law_letter", 5)]) (g := gName 5) (tt := tTest (tOp (fun x y H Q => y = .non ∧ Q (.bl (decide (x = .non))) H) (tCallS (spCan K) (WE fun _ _ _ _ => False) (tCons (tVar 0) (tCons (tVar 5) tNil))) (tC .non))) (te := tVar 5) rfl sc__law_letters.nd (pi_list (pv 1)) (blkOk_by (N := N__law_letters) (sc := defScope s__law_letters) (by decide +kernel)) (fun _ _ _ _ _ => (pg_name (i := 5) sc__law_letters.nd rfl (by first | exact Or.inl rfl | exact Or.inr rfl))) (fun _ _ _ _ _ => (pts_one (pt_cmpR op_isN (pe_cl c__law_can hr hu (by omega) (by rfl) tkN (pa_cons (pv 0) (pa_cons (pv 5) pa_nil))) pe_non (nomark _)))) (fun _ _ _ _ _ => (pv 5)))))))), ?_⟩)
  rintro ⟨q, L, m, n⟩ ⟨ok, hm⟩ Zf ee hE hx
  try dsimp only [cxOf]
  dsimp only at ok hm
  have tot : (L.map List.length).sum ≤ 102 := by have := ok.tot; omega
  have hL : L.length ≤ 60 := by have := count_le_sum ok.len; omega
  refine s_seq (s_set (e_lstN ?_))
  repeat tb_rel
  rintro p hp
  refine s_cut (M := fun Γ' => ∃ ts : List Lt, ts.length ≤ 4 ∧ Γ' = ⟨[some (.ref q.o), some (.ref p), none, none, none, none], (p, .lst (ts.map Lt.d)) :: OC q L m n⟩) ?_ ?_
  · repeat tb_rel
    refine o_eqNil (by (first | exact Sl.LsOf.fz | exact Sl.LsOf.ce (by (repeat (first | exact Sl.At.z | apply Sl.At.s | apply K32.at_app))))) rows_pd (rows_shp.mono (by decide)) ?_
    refine ⟨_, rfl, fun hb => ?_, fun hb => ?_⟩
    · repeat tb_rel
      refine ⟨_, _, Nat.le_of_ble_eq_true rfl, (by (repeat (first | exact Sl.Rp.z | apply Sl.Rp.s | apply K32.rp_app))), ?_⟩
      exact ⟨[.R, .L, .E, .C], by decide, rfl⟩
    · exact s_next ⟨[.R, .L, .E], by decide, rfl⟩
  rintro _ ⟨ts0, ht0, rfl⟩
  repeat tb_rel
  have eL : (rowsD L).length = L.length := List.length_map ..
  refine ⟨by omega, by omega, ?_⟩
  refine for_by (fun i Γ' => ∃ (fd : Sl.D) (ts : List Lt) (u1 u2 : Option Sl.D), (∀ g, LsOf ⟨g, (p, .lst (ts0.map Lt.d)) :: OC q L m n⟩ fd (ts.map Lt.d)) ∧ ts.length ≤ 4 + 200 * i ∧ Γ' = ⟨[some (.ref q.o), some fd, u1, u2, none, none], (p, .lst (ts0.map Lt.d)) :: OC q L m n⟩) ⟨_, ts0, none, none, fun g => .ce .z, by omega, rfl⟩ (fun _ _ _ => trivial) ?_ ?_
  · rintro i d Γ' hd ⟨fd, ts, u1, u2, hls, hts, rfl⟩
    obtain ⟨hi, rfl⟩ := rangeD_get hd
    have hi2 : i < 61 := by omega
    rw [Int.zero_add]
    refine g_name (s_seq (s_set (e_int ?_)))
    refine s_cut (M := fun Γ' => ∃ mn : Nat, mn ≤ 200 ∧ Γ' = ⟨[some (.ref q.o), some fd, some (.int (i : Nat)), some (.int (mn : Nat)), none, none], (p, .lst (ts0.map Lt.d)) :: OC q L m n⟩) ?_ ?_
    · repeat tb_rel
      refine ⟨fun hb => ?_, fun hb => ?_⟩
      · have hb' := of_decide_eq_true hb
        rw [show ((rowsD (OG.L ⟨q, L, m, n⟩)).length : Int) = (L.length : Int) by rw [List.length_map]] at hb'
        have hj : i < L.length := by omega
        repeat tb_rel
        refine o_ixLs (by (first | exact Sl.LsOf.fz | exact Sl.LsOf.ce (by (repeat (first | exact Sl.At.z | apply Sl.At.s | apply K32.at_app))))) (atI_back (xs := rowsD L) (j := i) (by rw [eL]; exact hj) (by rw [eL, List.getElem?_map, List.getElem?_eq_getElem (show L.length - 1 - i < L.length by omega)]; rfl)) ?_
        repeat tb_rel
        refine ⟨L[L.length - 1 - i].length + 1, ?_, ?_⟩
        · have := len_le_sum (L := L) (List.getElem_mem (show L.length - 1 - i < L.length by omega))
          omega
        · rw [List.length_map]
          rfl
      · exact s_next ⟨4, by decide, rfl⟩
    · rintro _ ⟨mn, hmn, rfl⟩
      repeat tb_rel
      refine e_lcMap (fun d => .tuple [.str "S", .int (i : Nat), d]) (keeps_name (by simp)) ?_
      repeat tb_rel
      have en : ((mn : Nat) : Int).toNat = mn := by omega
      refine ⟨by omega, by omega, by rw [rangeD_len, en]; omega, trivial, fun x d hd => ?_, ?_⟩
      · repeat tb_rel
        exact ⟨rfl, rfl⟩
      · have e2 : (rangeD 0 ((mn : Nat) : Int).toNat).map (fun d => Sl.D.tuple [.str "S", .int (i : Nat), d]) = ((List.range mn).map (Lt.S i)).map Lt.d := by
          rw [en]
          unfold rangeD
          rw [List.map_map, List.map_map]
          apply List.map_congr_left
          intro a _
          simp [Lt.d]
        rw [e2]
        refine o_catLs (hls _) .fz (by simp; omega) ?_
        refine ⟨.list ((ts ++ (List.range mn).map (Lt.S i)).map Lt.d), ts ++ (List.range mn).map (Lt.S i), some (.int (i : Nat)), some (.int (mn : Nat)), fun g => .fz, ?_, ?_⟩
        · rw [List.length_append, List.length_map, List.length_range]
          omega
        · rw [List.map_append]
          rfl
  · rintro Γ' ⟨fd, ts, u1, u2, hls, hts, rfl⟩
    have tl : ts.length ≤ 20000 := by
      rw [rangeD_len] at hts
      omega
    refine s_ret (e_lc (keeps_name (by simp)) ?_)
    refine i_list (e_var rfl ?_)
    have hla : ∃ src, LsAs ⟨[some (.ref q.o), some fd, u1, u2, none, none], (p, .lst (ts0.map Lt.d)) :: OC q L m n⟩ fd (ts.map Lt.d) src ∧ ∀ g c, (∀ x ∈ (p, HD.lst (ts0.map Lt.d)) :: OC q L m n, x ∈ c) → SrcOk src ⟨g, c⟩ := by
      cases hls [some (.ref q.o), some fd, u1, u2, none, none] with
      | fz => exact ⟨none, .fz, fun g c hc => trivial⟩
      | ce h => exact ⟨_, .ce h, fun g c hc => hc _ h.mem⟩
    obtain ⟨src, hla, hso⟩ := hla
    refine ⟨ts.map Lt.d, src, hla, by rw [List.length_map]; omega, fun i acc Γ' => ∃ (us : List Lt) (c : Cs), us.length ≤ i ∧ (∀ t ∈ us, canA L m n t = none) ∧ acc = us.map Lt.d ∧ (c = (p, .lst (ts0.map Lt.d)) :: OC q L m n ∨ c = OC q L m n ++ [(p, .lst (ts0.map Lt.d))]) ∧ Γ' = ⟨[some (.ref q.o), some fd, u1, u2, none, none], c⟩, ⟨[], _, Nat.le_refl _, (fun t ht => nomatch ht), rfl, .inl rfl, rfl⟩, ?_, ?_, ?_⟩
    · rintro i acc Γ' ⟨us, c, _, _, _, hc, rfl⟩
      refine hso _ _ fun x hx => ?_
      rcases hc with rfl | rfl
      · exact hx
      · simp at hx ⊢
        rcases hx with h | h | h | h <;> simp [h]
    · have go : ∀ (x : Addr × HO) (i : Nat) (t : Lt) (us : List Lt) (c r : Cs), us.length ≤ i → (∀ t ∈ us, canA L m n t = none) → Take (OC q L m n) c [(p, .lst (ts0.map Lt.d))] → True := fun _ _ _ _ _ _ _ _ _ => trivial
      rintro x i d acc Γ' hd ⟨us, c, h2, h3, rfl, hc, rfl⟩
      obtain ⟨t, rfl⟩ : ∃ t : Lt, d = t.d := by
        obtain ⟨t, _, e⟩ := List.mem_map.mp (List.mem_of_getElem? hd)
        exact ⟨t, e.symm⟩
      have htk : Take (OC q L m n) c [(p, .lst (ts0.map Lt.d))] := by
        rcases hc with rfl | rfl
        · (repeat (first | exact Sl.Take.nil | exact K32.take_self | (apply Sl.Take.cons; (repeat (first | exact Sl.Rm.z | apply Sl.Rm.s | apply K32.rm_app)))))
        · (repeat (first | exact Sl.Take.nil | exact K32.take_self | (apply Sl.Take.cons; (repeat (first | exact Sl.Rm.z | apply Sl.Rm.s | apply K32.rm_app)))))
      repeat tb_rel
      refine ⟨(⟨q, L, m, n⟩, t), _, rfl, htk, ⟨ok, (by dsimp only; omega)⟩, ?_⟩
      rintro out cs ⟨rfl, rfl⟩
      repeat tb_rel
      refine ⟨fun hb => ?_, fun hb => ?_⟩
      · repeat tb_rel
        refine ⟨us ++ [t], _, by simp; omega, fun t' ht' => ?_, by rw [List.map_append]; rfl, .inr rfl, rfl⟩
        rcases List.mem_append.mp ht' with h | h
        · exact h3 t' h
        · rw [List.mem_singleton] at h
          subst h
          cases e : canA L m n t' with
          | none => rfl
          | some y => rw [e] at hb; cases hb
      · exact ⟨us, _, by omega, h3, rfl, .inr rfl, rfl⟩
    · rintro acc Γ' ⟨us, c, h2, h3, rfl, hc, rfl⟩
      rw [List.length_map] at h2
      have htk : Take (OC q L m n) c [(p, .lst (ts0.map Lt.d))] := by
        rcases hc with rfl | rfl
        · (repeat (first | exact Sl.Take.nil | exact K32.take_self | (apply Sl.Take.cons; (repeat (first | exact Sl.Rm.z | apply Sl.Rm.s | apply K32.rm_app)))))
        · (repeat (first | exact Sl.Take.nil | exact K32.take_self | (apply Sl.Take.cons; (repeat (first | exact Sl.Rm.z | apply Sl.Rm.s | apply K32.rm_app)))))
      exact hE.rt (cs' := OC q L m n) htk ⟨us, h3, by omega, rfl, rfl⟩
theorem cl_all_refused (T : Tz K mg) (D : Fd K mg "_law_all_refused" s__law_all_refused) (c__law_things : Cl P w K mg base 1 "_law_things" (spThings K)) (c__law_letters : Cl P w K mg base 3 "_law_letters" (spLetters K)) (c__law_refused : Cl P w K mg base 4 "_law_refused" (spRefused K)) (c__law_same : Cl P w K mg base 2 "_law_same" (spSame K)) : Cl P w K mg base 5 "_law_all_refused" (spAllRef K) := by
  refine mk_clG D sc__law_all_refused (fun _ _ _ _ _ _ us hl => match us, hl with | [_, _], _ => rfl) (fun _ => rfl) (fun cdv A outer s H E hr hu => ⟨_, (pss_cons (ps_for PassesOwn.leaving rfl (pi_list (pe_op op_catS (pe_cl0 c__law_things hr hu (by omega) (by rfl) tkN) (pe_cl c__law_letters hr hu (by omega) (by rfl) tkN (pa_cons (pv 1) pa_nil)))) (pg_name (i := 2) sc__law_all_refused.nd rfl (by first | exact Or.inl rfl | exact Or.inr rfl)) (pss_one (ps_if (pt_not (pt_val (pe_cl c__law_refused hr hu (by omega) (by rfl) tkN (pa_cons (pv 0) (pa_cons (pv 2) pa_nil))))) (pss_one (ps_ret pe_bl)) pss_nil)))
    (pss_one (ps_ret (pe_cl c__law_same hr hu (by omega) (by rfl) tkN (pa_cons (pv 0) (pa_cons (pv 1) pa_nil)))))), ?_⟩)
  rintro ⟨⟨q, L, m, k, n⟩, o⟩ ⟨ok, hm, hk⟩ Zf ee hE hx
  try dsimp only [cxOf]
  dsimp only at ok hm hk
  repeat tb_rel
  refine ⟨(), _, rfl, .nil, trivial, ?_⟩
  rintro out cs ⟨rfl, rfl⟩
  repeat tb_rel
  refine ⟨⟨o, L, m, n⟩, _, rfl, (by (repeat (first | exact Sl.Take.nil | exact K32.take_self | (apply Sl.Take.cons; (repeat (first | exact Sl.Rm.z | apply Sl.Rm.s | apply K32.rm_app)))))), ⟨ok, hm⟩, ?_⟩
  rintro out cs ⟨ts, ht, hl, rfl, rfl⟩
  refine o_catLs .fz .fz (by simp [thingsD]; omega) ?_
  repeat tb_rel
  refine for_by (fun i Γ' => ∃ (u : Option Sl.D) (c : Cs), (c = OC o L m n ++ Fr.C ⟨q, L, m, k, n⟩ ∨ c = Fr.C ⟨q, L, m, k, n⟩ ++ OC o L m n) ∧ Γ' = ⟨[some (.ref q.f), some (.ref o.o), u], c⟩) ⟨none, _, .inl rfl, rfl⟩ (fun _ _ _ => trivial) ?_ ?_
  · rintro i d Γ' hd ⟨u, c, hc, rfl⟩
    have htk : Take (Fr.C ⟨q, L, m, k, n⟩) c (OC o L m n) := by
      rcases hc with rfl | rfl
      · (repeat (first | exact Sl.Take.nil | exact K32.take_self | (apply Sl.Take.cons; (repeat (first | exact Sl.Rm.z | apply Sl.Rm.s | apply K32.rm_app)))))
      · (repeat (first | exact Sl.Take.nil | exact K32.take_self | (apply Sl.Take.cons; (repeat (first | exact Sl.Rm.z | apply Sl.Rm.s | apply K32.rm_app)))))
    have hP : putP (.inr (⟨q, L, m, k, n⟩, d)) := by
      refine ⟨ok, hk, (by dsimp only; omega), ?_⟩
      rcases List.mem_append.mp (List.mem_of_getElem? hd) with h | h
      · exact ⟨(things_mem h).1, .inl (things_mem h).2⟩
      · obtain ⟨t, hm', rfl⟩ := List.mem_map.mp h
        refine ⟨th_lt t, .inr ?_⟩
        rcases List.eq_nil_or_concat L with rfl | ⟨I, l, rfl⟩
        · exact .inl rfl
        · rw [List.concat_eq_append] at *
          have := ht t hm'
          dsimp only at this
          rw [canA_app] at this
          exact .inr ⟨t, I, l, rfl, rfl, this⟩
    repeat tb_rel
    refine ⟨(⟨q, L, m, k, n⟩, d), _, rfl, htk, hP, ?_⟩
    rintro out cs ⟨rfl, rfl⟩
    repeat tb_rel
    exact ⟨_, _, .inr rfl, rfl⟩
  · rintro Γ' ⟨u, c, hc, rfl⟩
    have htk : Take (Fr.C ⟨q, L, m, k, n⟩ ++ OC o L m n) c [] := by
      rcases hc with rfl | rfl
      · (repeat (first | exact Sl.Take.nil | exact K32.take_self | (apply Sl.Take.cons; (repeat (first | exact Sl.Rm.z | apply Sl.Rm.s | apply K32.rm_app)))))
      · (repeat (first | exact Sl.Take.nil | exact K32.take_self | (apply Sl.Take.cons; (repeat (first | exact Sl.Rm.z | apply Sl.Rm.s | apply K32.rm_app)))))
    repeat tb_rel
    refine ⟨(⟨q, L, m, k, n⟩, o), _, rfl, htk, ⟨ok, (by dsimp only; omega)⟩, ?_⟩
    rintro out cs ⟨rfl, rfl⟩
    exact hE.rt (cs' := Fr.C ⟨q, L, m, k, n⟩ ++ OC o L m n) (r := []) (by (repeat (first | exact Sl.Take.nil | exact K32.take_self | (apply Sl.Take.cons; (repeat (first | exact Sl.Rm.z | apply Sl.Rm.s | apply K32.rm_app)))))) ⟨rfl, rfl⟩
end
end K32

set_option Elab.async false
set_option linter.all false
set_option autoImplicit false
set_option maxRecDepth 100000
set_option maxHeartbeats 4000000
namespace K32
open PySem PySem.Spec PyProof.Rows L2 Px Sl

local macro_rules
  | `(tactic| tb_rel) => `(tactic| first
    | with_reducible refine s_forI ?_
    | with_reducible refine s_for ?_
    | with_reducible refine s_seq ?_
    | with_reducible refine s_if ?_
    | with_reducible refine s_next ?_
    | with_reducible refine s_brk ?_
    | with_reducible refine s_cont ?_
    | with_reducible refine s_retN ?_
    | with_reducible refine s_asgT ?_
    | with_reducible refine s_asgL ?_
    | with_reducible refine s_drop ?_
    | with_reducible refine s_dput ?_
    | with_reducible refine s_setIA ?_
    | with_reducible refine t_test ?_
    | with_reducible refine t_B ?_
    | with_reducible refine t_yes ?_
    | with_reducible refine t_and ?_
    | with_reducible refine t_or ?_
    | with_reducible refine t_not ?_
    | with_reducible refine e_op ?_
    | with_reducible refine e_isi ?_
    | with_reducible refine e_extN ?_
    | with_reducible refine e_appA ?_
    | with_reducible refine e_popAtA ?_
    | with_reducible refine e_cb ?_
    | with_reducible refine e_lst ?_
    | with_reducible refine e_tup ?_
    | with_reducible refine e_neg ?_
    | with_reducible refine e_int ?_
    | with_reducible refine e_str ?_
    | with_reducible refine e_bl ?_
    | with_reducible refine e_non ?_
    | with_reducible refine e_din ?_
    | with_reducible refine e_andV ?_
    | with_reducible refine e_orV ?_
    | with_reducible refine e_slLs ?_
    | with_reducible refine e_slT ?_
    | with_reducible refine e_chain ?_
    | with_reducible refine a_cons ?_
    | with_reducible refine a_nil ?_
    | with_reducible refine o_no ?_
    | with_reducible refine o_so ?_
    | with_reducible refine i_range1 ?_
    | with_reducible refine i_list ?_
    | with_reducible refine i_tup ?_
    | with_reducible refine i_enum ?_
    | with_reducible refine i_enumRev ?_
    | with_reducible refine g_name ?_
    | with_reducible refine gs_cons ?_
    | with_reducible refine gs_nil ?_
    | with_reducible refine o_int ?_
    | with_reducible refine o_bool ?_
    | with_reducible refine o_eqI ?_
    | with_reducible refine o_neI ?_
    | with_reducible refine o_eqS ?_
    | with_reducible refine o_neS ?_
    | with_reducible refine o_isN ?_
    | with_reducible refine o_notN ?_
    | with_reducible refine c_lenT ?_
    | with_reducible refine c_intB ?_
    | with_reducible refine c_min2 ?_
    | with_reducible refine c_max2 ?_
    | ((fail_if_success (with_reducible refine e_notV (e_cb (a_cons (e_lc ?_ ?_))))); (with_reducible refine e_notV ?_))
    | ((fail_if_success (with_reducible refine s_ret (e_lst ?_))); (fail_if_success (with_reducible refine s_ret (e_lc ?_ ?_))); (with_reducible refine s_ret ?_))
    | ((fail_if_success (with_reducible refine s_set (e_lst ?_))); (fail_if_success (with_reducible refine s_set (e_lc ?_ ?_))); (with_reducible refine s_set ?_))
    | ((with_reducible apply e_var); exact rfl)
    | with_reducible refine e_callG rfl ?_
    | with_reducible refine e_methG rfl ?_
    | with_reducible refine e_makeG rfl ?_
    | refine e_fld rfl (by assumption) (by assumption) ?_
    | refine s_fldA rfl (by assumption) (by assumption) ?_
    | refine o_ixT (by rfl) ?_
    | refine c_lenLs (by (first | exact Sl.LsOf.fz | exact Sl.LsOf.ce (by (repeat (first | exact Sl.At.z | apply Sl.At.s | apply K32.at_app))))) ?_
    | ((with_reducible refine g_tup ?_ ?_); exact rfl)
    | with_reducible refine ⟨_, rfl, ?_⟩
    | with_reducible refine ⟨_, _, rfl, rfl, ?_⟩
    | with_reducible refine ⟨_, LsOf.fz, ?_⟩
    | refine ⟨_, _, _, _, rfl, (by (repeat (first | exact Sl.At.z | apply Sl.At.s | apply K32.at_app))), (by (repeat (first | exact Sl.Lk.z | (apply Sl.Lk.s; decide +kernel)))), ?_⟩
    | refine ⟨_, _, _, rfl, (by (repeat (first | exact Sl.At.z | apply Sl.At.s | apply K32.at_app))), (by rfl), ?_⟩
    | refine ⟨_, _, _, rfl, (by (repeat (first | exact Sl.At.z | apply Sl.At.s | apply K32.at_app))), ?_⟩
    | refine ⟨⟨_, _, _, rfl, (by (repeat (first | exact Sl.At.z | apply Sl.At.s | apply K32.at_app)))⟩, ?_⟩
    | refine ⟨_, _, _, rfl, (by (repeat (first | exact Sl.Rp.z | apply Sl.Rp.s | apply K32.rp_app))), (by exact Nat.le_of_ble_eq_true rfl), (by exact Nat.le_of_ble_eq_true rfl), ?_⟩
    | refine ⟨_, (by (first | exact Sl.LsOf.fz | exact Sl.LsOf.ce (by (repeat (first | exact Sl.At.z | apply Sl.At.s | apply K32.at_app))))), ?_⟩
    | refine ⟨_, _, (by (first | exact Sl.LsAs.fz | exact Sl.LsAs.ce (by (repeat (first | exact Sl.At.z | apply Sl.At.s | apply K32.at_app))))), ?_⟩
    | refine o_ixLs (by (first | exact Sl.LsOf.fz | exact Sl.LsOf.ce (by (repeat (first | exact Sl.At.z | apply Sl.At.s | apply K32.at_app))))) (by rfl) ?_
    | refine ⟨_, _, _, _, _, rfl, rfl, (by (repeat (first | exact Sl.At.z | apply Sl.At.s | apply K32.at_app))), ?_⟩
    | refine ⟨_, _, _, _, _, _, rfl, rfl, (by (repeat (first | exact Sl.At.z | apply Sl.At.s | apply K32.at_app))), (by rfl), (by (repeat (first | exact Sl.Rp.z | apply Sl.Rp.s | apply K32.rp_app))), ?_⟩
    | refine ⟨_, _, _, _, _, rfl, (by (repeat (first | exact Sl.At.z | apply Sl.At.s | apply K32.at_app))), (by (repeat (first | exact Sl.Pf.n | exact Sl.Pf.z | (apply Sl.Pf.s; decide +kernel)))), (by exact Nat.le_of_ble_eq_true rfl), (by (repeat (first | exact Sl.Rp.z | apply Sl.Rp.s | apply K32.rp_app))), ?_⟩
    | ((with_reducible refine And.intro ?_ ?_); exact Nat.le_of_ble_eq_true rfl)
    | with_reducible refine e_gref ?_
    | refine o_inT (by rfl) (by rfl) ?_
    | refine ⟨_, true, rfl, kit_ty (by decide +kernel), ?_⟩
    | refine ⟨_, false, rfl, kit_ty (by decide +kernel), ?_⟩
    | refine ⟨fun _ => ?_, fun hb => absurd hb (by decide +kernel)⟩
    | refine ⟨fun hb => absurd hb (by decide +kernel), fun _ => ?_⟩
    | refine ⟨fun _ => ?_, fun hb => ctT (by rfl) hb⟩
    | refine ⟨fun hb => ctT (by rfl) hb, fun _ => ?_⟩
    | refine ⟨fun _ => ?_, fun hb => ctF (by rfl) hb⟩
    | refine ⟨fun hb => ctF (by rfl) hb, fun _ => ?_⟩
    | fail)
/-- a front and the law's own beside it -/
structure Bo where
  q : FA
  o : OA
  L : List (List Int)
  m : List Tri
  k : Kvs
  n : Int
abbrev Bo.F (g : Bo) : Fr := ⟨g.q, g.L, g.m, g.k, g.n⟩
abbrev Bo.C (g : Bo) : Cs := g.F.C ++ OC g.o g.L g.m g.n
structure Bo.Ok (g : Bo) (i : Nat) : Prop where
  ok : K32.Ok g.L g.m g.n
  cl : Closed g.k g.m
  len : g.m.length ≤ i
theorem Bo.Ok.up {g : Bo} {i : Nat} (h : g.Ok i) : g.Ok (i + 1) := ⟨h.ok, h.cl, Nat.le_succ_of_le h.len⟩
/-- these cells stand there -/
def Has (c' c : Cs) : Prop := (∀ x ∈ c', x ∈ c) ∧ ((keys c).Nodup → (keys c').Nodup)
theorem Has.of {c' c r : Cs} (h : Take c' c r) : Has c' c := ⟨fun x hx => (h.mem x).mp (List.mem_append_left _ hx), fun nd => by
  have := h.nd nd
  rw [keys_app] at this
  exact (List.nodup_append.mp this).1⟩
theorem Has.trans {a b c : Cs} (h : Has a b) (g : Has b c) : Has a c := ⟨fun x hx => g.1 x (h.1 x hx), fun nd => h.2 (g.2 nd)⟩
theorem s_has {Z : Zx} {Γ : Sy} {t : TS} {E : DE} {c' : Cs} (h : Has c' Γ.c) (k : Sd Z t ⟨Γ.g, c'⟩ E) : Sd Z t Γ E := s_sub h.1 h.2 k
abbrev noW : WX := fun _ _ _ _ => False
abbrev tTurn (K : PySem.W.Frag) : TS := tIfS (tTest (tOp (rNeD K) (tOp (rIxL K) (tVar 2) (tC (.int 0))) (tLst tNil))) (tSeq (tAsg (tCallS (spDrawn K) (WE noW) (tCons (tVar 3) (tCons (tVar 2) tNil))) (gName 5)) (tSeq (tAsg (tCallS (spPutL K) (WE noW) (tCons (tVar 2) (tCons (tVar 5) tNil))) (gName 6)) (tIfS (tTest (tOp rNe (tCB (rReprG K) (tCons (tMethU (He.ga K "Front") "put" (spPut K) (WE noW) (tVar 1) (tCons (tVar 5) tNil)) tNil)) (tCB (rReprG K) (tCons (tVar 6) tNil)))) (tRet (tC (.bl false))) tNext))) tNext
section
variable {K : PySem.W.Frag} {Zf Zh : Hp} {s0 s4 u5 u6 : Option D} {pp : Addr} {q : FA} {o : OA} {I : List (List Int)} {l : List Int} {M : List Tri} {kv : Kvs} {N : Int} {E : DE} {a1 b1 : Int}
theorem s_turn {L : List (List Int)} {i : Nat} (w : Bo.Ok ⟨q, o, L, M, kv, N⟩ i) (hi : i < 99) (hp1 : Pot a1 b1)
    (hE : ∀ (L' : List (List Int)) (M' : List Tri) (k' : Kvs) (n' a b : Int) (v5 v6 : Option D) (c r : Cs), Bo.Ok ⟨q, o, L', M', k', n'⟩ (i + 1) → Pot a b → Take (Bo.C ⟨q, o, L', M', k', n'⟩ ++ [(pp, pot a b)]) c r → E.nx ⟨[s0, some (.ref q.f), some (.ref o.o), some (.ref pp), s4, v5, v6], c⟩) :
    Sd ⟨K, Zf, Zh, [], []⟩ (tTurn K) ⟨[s0, some (.ref q.f), some (.ref o.o), some (.ref pp), s4, u5, u6], Bo.C ⟨q, o, L, M, kv, N⟩ ++ [(pp, pot a1 b1)]⟩ E := by
  repeat tb_rel
  refine o_neNil (by (first | exact Sl.LsOf.fz | exact Sl.LsOf.ce (by (repeat (first | exact Sl.At.z | apply Sl.At.s | apply K32.at_app))))) rows_pd (rows_shp.mono (by decide)) ?_
  repeat tb_rel
  rcases List.eq_nil_or_concat L with rfl | ⟨I, l, rfl⟩
  · repeat tb_rel
    exact hE [] M kv N a1 b1 _ _ _ _ w.up hp1 (by (repeat (first | exact Sl.Take.nil | exact K32.take_self | (apply Sl.Take.cons; (repeat (first | exact Sl.Rm.z | apply Sl.Rm.s | apply K32.rm_app))))))
  · rw [List.concat_eq_append] at *
    have hne : (!(rowsD (I ++ [l])).isEmpty) = true := by simp
    refine ⟨fun _ => ?_, fun hb => ctT hne hb⟩
    have ok : K32.Ok (I ++ [l]) M N := w.ok
    have hlen : M.length ≤ i := w.len
    repeat tb_rel
    refine ⟨(⟨o, I, l, M, N⟩, pp, a1, b1), _, rfl, (by (repeat (first | exact Sl.Take.nil | exact K32.take_self | (apply Sl.Take.cons; (repeat (first | exact Sl.Rm.z | apply Sl.Rm.s | apply K32.rm_app)))))), ⟨ok, (by dsimp only; omega), hp1⟩, ?_⟩
    rintro out cs ⟨t, x, a, b, hc, hp, rfl, rfl⟩
    have h3 := third_of_can hc
    have ok2 := ok_step ok h3
    have hm2 : (M ++ [tri l x]).length ≤ 900 := by rw [List.length_append, List.length_singleton]; omega
    have okt : okR (triP (tri l x)) := (okR_tri ok2 hm2 (t := tri l x) (by simp)).okT (by decide) (by decide)
    show Sd _ _ ⟨[s0, some (.ref q.f), some (.ref o.o), some (.ref pp), s4, some t.d, u6], _⟩ _
    repeat tb_rel
    refine ⟨(⟨o, I, l, M, N⟩, t, x), _, rfl, (by (repeat (first | exact Sl.Take.nil | exact K32.take_self | (apply Sl.Take.cons; (repeat (first | exact Sl.Rm.z | apply Sl.Rm.s | apply K32.rm_app)))))), ⟨ok, (by dsimp only; omega), hc⟩, ?_⟩
    rintro out cs ⟨rfl, rfl⟩
    refine s_take (c' := Fr.C ⟨q, I ++ [l], M, kv, N⟩ ++ (OC o (step I l x t) (M ++ [tri l x]) (more N t) ++ [(pp, pot a b)])) (r := []) (by (repeat (first | exact Sl.Take.nil | exact K32.take_self | (apply Sl.Take.cons; (repeat (first | exact Sl.Rm.z | apply Sl.Rm.s | apply K32.rm_app)))))) ?_
    show Sd _ _ ⟨[s0, some (.ref q.f), some (.ref o.o), some (.ref pp), s4, some t.d, some (triD (tri l x))], _⟩ _
    repeat tb_rel
    refine ⟨.inl (⟨q, I, l, M, kv, N⟩, t, x), _, rfl, (by dsimp only [putC]; (repeat (first | exact Sl.Take.nil | exact K32.take_self | (apply Sl.Take.cons; (repeat (first | exact Sl.Rm.z | apply Sl.Rm.s | apply K32.rm_app)))))), ⟨ok, hc, w.cl, (by dsimp only; omega)⟩, ?_⟩
    rintro out cs ⟨k', hk', rfl, rfl⟩
    show Ea _ _ ⟨[s0, some (.ref q.f), some (.ref o.o), some (.ref pp), s4, some t.d, some (triD (tri l x))], Fr.C ⟨q, step I l x t, M ++ [tri l x], k', more N t⟩ ++ (OC o (step I l x t) (M ++ [tri l x]) (more N t) ++ [(pp, pot a b)])⟩ _
    repeat tb_rel
    refine c_repr (.tup (.cons (.int _) (.cons (.int _) (.cons (.int _) .nil)))) okt ?_
    repeat tb_rel
    refine c_repr (.tup (.cons (.int _) (.cons (.int _) (.cons (.int _) .nil)))) okt ?_
    repeat tb_rel
    refine ⟨fun hb => ?_, fun _ => ?_⟩
    · simp at hb
    · repeat tb_rel
      refine hE _ _ _ _ _ _ _ _ _ _ ⟨ok2, hk', ?_⟩ hp (by (repeat (first | exact Sl.Take.nil | exact K32.take_self | (apply Sl.Take.cons; (repeat (first | exact Sl.Rm.z | apply Sl.Rm.s | apply K32.rm_app))))))
      show (M ++ [tri l x]).length ≤ i + 1
      rw [List.length_append, List.length_singleton]
      omega
end
end K32

set_option Elab.async false
set_option linter.all false
set_option autoImplicit false
set_option maxRecDepth 100000
set_option maxHeartbeats 8000000
namespace K32
open PySem PySem.Spec PyProof.Rows L2 Px Sl

local macro_rules
  | `(tactic| tb_rel) => `(tactic| first
    | with_reducible refine s_forI ?_
    | with_reducible refine s_for ?_
    | with_reducible refine s_seq ?_
    | with_reducible refine s_if ?_
    | with_reducible refine s_next ?_
    | with_reducible refine s_brk ?_
    | with_reducible refine s_cont ?_
    | with_reducible refine s_retN ?_
    | with_reducible refine s_asgT ?_
    | with_reducible refine s_asgL ?_
    | with_reducible refine s_drop ?_
    | with_reducible refine s_dput ?_
    | with_reducible refine s_setIA ?_
    | with_reducible refine t_test ?_
    | with_reducible refine t_B ?_
    | with_reducible refine t_yes ?_
    | with_reducible refine t_and ?_
    | with_reducible refine t_or ?_
    | with_reducible refine t_not ?_
    | with_reducible refine e_op ?_
    | with_reducible refine e_isi ?_
    | with_reducible refine e_extN ?_
    | with_reducible refine e_appA ?_
    | with_reducible refine e_popAtA ?_
    | with_reducible refine e_cb ?_
    | with_reducible refine e_lst ?_
    | with_reducible refine e_tup ?_
    | with_reducible refine e_neg ?_
    | with_reducible refine e_int ?_
    | with_reducible refine e_str ?_
    | with_reducible refine e_bl ?_
    | with_reducible refine e_non ?_
    | with_reducible refine e_din ?_
    | with_reducible refine e_andV ?_
    | with_reducible refine e_orV ?_
    | with_reducible refine e_slLs ?_
    | with_reducible refine e_slT ?_
    | with_reducible refine e_chain ?_
    | with_reducible refine a_cons ?_
    | with_reducible refine a_nil ?_
    | with_reducible refine o_no ?_
    | with_reducible refine o_so ?_
    | with_reducible refine i_range1 ?_
    | with_reducible refine i_list ?_
    | with_reducible refine i_tup ?_
    | with_reducible refine i_enum ?_
    | with_reducible refine i_enumRev ?_
    | with_reducible refine g_name ?_
    | with_reducible refine gs_cons ?_
    | with_reducible refine gs_nil ?_
    | with_reducible refine o_int ?_
    | with_reducible refine o_bool ?_
    | with_reducible refine o_eqI ?_
    | with_reducible refine o_neI ?_
    | with_reducible refine o_eqS ?_
    | with_reducible refine o_neS ?_
    | with_reducible refine o_isN ?_
    | with_reducible refine o_notN ?_
    | with_reducible refine c_lenT ?_
    | with_reducible refine c_intB ?_
    | with_reducible refine c_min2 ?_
    | with_reducible refine c_max2 ?_
    | ((fail_if_success (with_reducible refine e_notV (e_cb (a_cons (e_lc ?_ ?_))))); (with_reducible refine e_notV ?_))
    | ((fail_if_success (with_reducible refine s_ret (e_lst ?_))); (fail_if_success (with_reducible refine s_ret (e_lc ?_ ?_))); (with_reducible refine s_ret ?_))
    | ((fail_if_success (with_reducible refine s_set (e_lst ?_))); (fail_if_success (with_reducible refine s_set (e_lc ?_ ?_))); (with_reducible refine s_set ?_))
    | ((with_reducible apply e_var); exact rfl)
    | with_reducible refine e_callG rfl ?_
    | with_reducible refine e_methG rfl ?_
    | with_reducible refine e_makeG rfl ?_
    | refine e_fld rfl (by assumption) (by assumption) ?_
    | refine s_fldA rfl (by assumption) (by assumption) ?_
    | refine o_ixT (by rfl) ?_
    | refine c_lenLs (by (first | exact Sl.LsOf.fz | exact Sl.LsOf.ce (by (repeat (first | exact Sl.At.z | apply Sl.At.s | apply K32.at_app))))) ?_
    | ((with_reducible refine g_tup ?_ ?_); exact rfl)
    | with_reducible refine ⟨_, rfl, ?_⟩
    | with_reducible refine ⟨_, _, rfl, rfl, ?_⟩
    | with_reducible refine ⟨_, LsOf.fz, ?_⟩
    | refine ⟨_, _, _, _, rfl, (by (repeat (first | exact Sl.At.z | apply Sl.At.s | apply K32.at_app))), (by (repeat (first | exact Sl.Lk.z | (apply Sl.Lk.s; decide +kernel)))), ?_⟩
    | refine ⟨_, _, _, rfl, (by (repeat (first | exact Sl.At.z | apply Sl.At.s | apply K32.at_app))), (by rfl), ?_⟩
    | refine ⟨_, _, _, rfl, (by (repeat (first | exact Sl.At.z | apply Sl.At.s | apply K32.at_app))), ?_⟩
    | refine ⟨⟨_, _, _, rfl, (by (repeat (first | exact Sl.At.z | apply Sl.At.s | apply K32.at_app)))⟩, ?_⟩
    | refine ⟨_, _, _, rfl, (by (repeat (first | exact Sl.Rp.z | apply Sl.Rp.s | apply K32.rp_app))), (by exact Nat.le_of_ble_eq_true rfl), (by exact Nat.le_of_ble_eq_true rfl), ?_⟩
    | refine ⟨_, (by (first | exact Sl.LsOf.fz | exact Sl.LsOf.ce (by (repeat (first | exact Sl.At.z | apply Sl.At.s | apply K32.at_app))))), ?_⟩
    | refine ⟨_, _, (by (first | exact Sl.LsAs.fz | exact Sl.LsAs.ce (by (repeat (first | exact Sl.At.z | apply Sl.At.s | apply K32.at_app))))), ?_⟩
    | refine o_ixLs (by (first | exact Sl.LsOf.fz | exact Sl.LsOf.ce (by (repeat (first | exact Sl.At.z | apply Sl.At.s | apply K32.at_app))))) (by rfl) ?_
    | refine ⟨_, _, _, _, _, rfl, rfl, (by (repeat (first | exact Sl.At.z | apply Sl.At.s | apply K32.at_app))), ?_⟩
    | refine ⟨_, _, _, _, _, _, rfl, rfl, (by (repeat (first | exact Sl.At.z | apply Sl.At.s | apply K32.at_app))), (by rfl), (by (repeat (first | exact Sl.Rp.z | apply Sl.Rp.s | apply K32.rp_app))), ?_⟩
    | refine ⟨_, _, _, _, _, rfl, (by (repeat (first | exact Sl.At.z | apply Sl.At.s | apply K32.at_app))), (by (repeat (first | exact Sl.Pf.n | exact Sl.Pf.z | (apply Sl.Pf.s; decide +kernel)))), (by exact Nat.le_of_ble_eq_true rfl), (by (repeat (first | exact Sl.Rp.z | apply Sl.Rp.s | apply K32.rp_app))), ?_⟩
    | ((with_reducible refine And.intro ?_ ?_); exact Nat.le_of_ble_eq_true rfl)
    | with_reducible refine e_gref ?_
    | refine o_inT (by rfl) (by rfl) ?_
    | refine ⟨_, true, rfl, kit_ty (by decide +kernel), ?_⟩
    | refine ⟨_, false, rfl, kit_ty (by decide +kernel), ?_⟩
    | refine ⟨fun _ => ?_, fun hb => absurd hb (by decide +kernel)⟩
    | refine ⟨fun hb => absurd hb (by decide +kernel), fun _ => ?_⟩
    | refine ⟨fun _ => ?_, fun hb => ctT (by rfl) hb⟩
    | refine ⟨fun hb => ctT (by rfl) hb, fun _ => ?_⟩
    | refine ⟨fun _ => ?_, fun hb => ctF (by rfl) hb⟩
    | refine ⟨fun hb => ctF (by rfl) hb, fun _ => ?_⟩
    | fail)
abbrev s_law : Stmt := top 32
abbrev N_law : List Str := ["_law_script", "_law_front", "_law_own", "_law_pot_here", "_law_k", "_law_letter", "_law_due"]
theorem sc_law : FnScope N_law ["_law_script"] (defScope s_law) := ⟨rfl, rfl, rfl, by decide +kernel, rfl, by decide +kernel, by decide +kernel⟩
section
variable {P : Program} {w : World} {K : PySem.W.Frag} {mg : Str → Option Value} {base : Heap}
abbrev spLaw (K : PySem.W.Frag) : Sp := SpG K (G := List Int) (fun is => [intsD is]) (fun _ => []) (fun is => is.length ≤ 63) (fun _ out cs => out = .ret (.bool true) ∧ cs = [])
theorem fn_law (T : Tz K mg) (c_Front___init__ : ClM P w K mg base 1 "Front" "__init__" (spInit K)) (c__law_pot : Cl P w K mg base 2 "_law_pot" (spPot K)) (c__law_digit : Cl P w K mg base 1 "_law_digit" (spDigit K)) (c__law_all_refused : Cl P w K mg base 5 "_law_all_refused" (spAllRef K)) (c__law_letter_drawn : Cl P w K mg base 4 "_law_letter_drawn" (spDrawn K)) (c__law_put : Cl P w K mg base 3 "_law_put" (spPutL K)) (c_Front_put : ClM P w K mg base 3 "Front" "put" (spPut K)) :
    ∀ fd, FunD K "law" "law" (defArgs s_law) (defBody s_law) (defScope s_law) [] [] (He.ga K "law") fd → FnU P w K mg base (L2N.CX P w) 6 (He.ga K "law") fd ["_law_script"] (spLaw K) := by
  refine mk_fnG sc_law (fun _ => rfl) (fun cdv A outer s H E hr hu => ⟨_, (pss_cons (ps_set (i := 1) sc_law.nd rfl (by first | exact .inl rfl | exact .inr rfl) (pe_clN0 c_Front___init__ T.mk_Front T.kc_Front T.g_Front hr hu (by omega) (by rfl) tkN))
    (pss_cons (ps_set (i := 2) sc_law.nd rfl (by first | exact .inl rfl | exact .inr rfl) (pe_lst (pa_cons (pe_lst (pa_cons (pe_lst (pa_cons pe_int (pa_cons pe_int pa_nil))) pa_nil)) (pa_cons (pe_lst pa_nil) (pa_cons pe_int pa_nil)))))
    (pss_cons (ps_set (i := 3) sc_law.nd rfl (by first | exact .inl rfl | exact .inr rfl) (pe_cl c__law_pot hr hu (by omega) (by rfl) tkN (pa_cons (pv 0) (pa_cons pe_int pa_nil))))
    (pss_cons (ps_if (pt_not (pt_val (pe_cl c__law_all_refused hr hu (by omega) (by rfl) tkN (pa_cons (pv 1) (pa_cons (pv 2) pa_nil))))) (pss_one (ps_ret pe_bl)) pss_nil)
    (pss_cons (ps_for PassesOwn.leaving rfl (pi_range1 (by rfl) T.f_range (pa_cons (pe_callB (call_min2 rfl) (by rfl) T.f_min (by decide +kernel) (pa_cons (pe_cl c__law_digit hr hu (by omega) (by rfl) tkN (pa_cons (pv 3) (pa_cons pe_int pa_nil))) (pa_cons (pe_op op_add pe_int (pe_op op_mul pe_int (pe_callB call_len_seq (by rfl) T.f_len boot_len (pa_cons (pv 0) pa_nil)))) pa_nil))) pa_nil)) (pg_name (i := 4) sc_law.nd rfl (by first | exact Or.inl rfl | exact Or.inr rfl)) (pss_cons (ps_if (pt_cmpR (op_neD hr.units) (pe_ix ix_list (pv 2) pe_int (fun _ _ => rfl)) (pe_lst pa_nil) (nomark _)) (pss_cons (ps_set (i := 5) sc_law.nd rfl (by first | exact .inl rfl | exact .inr rfl) (pe_cl c__law_letter_drawn hr hu (by omega) (by rfl) tkN (pa_cons (pv 3) (pa_cons (pv 2) pa_nil))))
    (pss_cons (ps_set (i := 6) sc_law.nd rfl (by first | exact .inl rfl | exact .inr rfl) (pe_cl c__law_put hr hu (by omega) (by rfl) tkN (pa_cons (pv 2) (pa_cons (pv 5) pa_nil))))
    (pss_one (ps_if (pt_cmpR op_ne (pe_callB (call_reprG hu hr.units) (by rfl) T.f_repr (by decide +kernel) (pa_cons (pe_clM c_Front_put T.cFront hr hu (by omega) tkN (pv 1) (pa_cons (pv 5) pa_nil)) pa_nil)) (pe_callB (call_reprG hu hr.units) (by rfl) T.f_repr (by decide +kernel) (pa_cons (pv 6) pa_nil)) (nomark _)) (pss_one (ps_ret pe_bl)) pss_nil)))) pss_nil)
    (pss_one (ps_if (PW.pt (pw_and (pt_cmpR op_eq (pe_cl c__law_digit hr hu (by omega) (by rfl) tkN (pa_cons (pv 3) (pa_cons pe_int pa_nil))) pe_int (nomark _)) (pw_and1 (pt_not (pt_val (pe_cl c__law_all_refused hr hu (by omega) (by rfl) tkN (pa_cons (pv 1) (pa_cons (pv 2) pa_nil)))))))) (pss_one (ps_ret pe_bl)) pss_nil))))
    (pss_one (ps_ret (pe_cl c__law_all_refused hr hu (by omega) (by rfl) tkN (pa_cons (pv 1) (pa_cons (pv 2) pa_nil)))))))))), ?_⟩)
  rintro is hl Zf ee hE hx
  try dsimp only [cxOf]
  repeat tb_rel
  rintro f0 hf0
  refine ⟨f0, _, rfl, (by (repeat (first | exact Sl.Take.nil | exact K32.take_self | (apply Sl.Take.cons; (repeat (first | exact Sl.Rm.z | apply Sl.Rm.s | apply K32.rm_app)))))), trivial, ?_⟩
  rintro out cs ⟨q0, h0, rfl, rfl⟩
  refine ⟨rfl, ?_⟩
  subst h0
  show Sd _ _ _ _
  refine s_seq (s_set (e_lstN (a_cons (e_lstN ?_))))
  repeat tb_rel
  rintro r0 hr0
  refine a_cons (e_lstN ?_)
  repeat tb_rel
  rintro m0 hm0
  repeat tb_rel
  rintro o0 ho0
  show Sd _ _ _ ee
  refine s_take (c' := Bo.C ⟨q0, ⟨o0, r0, m0⟩, [[0, 1]], [], [], 2⟩) (r := []) (by (repeat (first | exact Sl.Take.nil | exact K32.take_self | (apply Sl.Take.cons; (repeat (first | exact Sl.Rm.z | apply Sl.Rm.s | apply K32.rm_app)))))) ?_
  show Sd _ _ ⟨[some (intsD is), some (.ref q0.f), some (.ref o0), none, none, none, none], _⟩ _
  repeat tb_rel
  refine ⟨(is, 1), _, rfl, .nil, (by dsimp only; decide), ?_⟩
  rintro out cs ⟨pp, a, b, hp, rfl, rfl⟩
  have c0 : Closed [] [] := ⟨fun a b => rfl, Nat.le_refl _⟩
  repeat tb_rel
  refine ⟨(⟨q0, [[0, 1]], [], [], 2⟩, ⟨o0, r0, m0⟩), _, rfl, (by (repeat (first | exact Sl.Take.nil | exact K32.take_self | (apply Sl.Take.cons; (repeat (first | exact Sl.Rm.z | apply Sl.Rm.s | apply K32.rm_app)))))), ⟨ok0, (by simp), c0⟩, ?_⟩
  rintro out cs ⟨rfl, rfl⟩
  repeat tb_rel
  refine ⟨(pp, a, b, 31), _, rfl, (by (repeat (first | exact Sl.Take.nil | exact K32.take_self | (apply Sl.Take.cons; (repeat (first | exact Sl.Rm.z | apply Sl.Rm.s | apply K32.rm_app)))))), ⟨hp, (by dsimp only; decide), (by dsimp only; decide)⟩, ?_⟩
  rintro out cs ⟨d, a1, b1, d0, d31, hp1, rfl, rfl⟩
  repeat tb_rel
  refine o_intC (.inl (by decide)) ?_
  repeat tb_rel
  dsimp only at d31
  obtain ⟨N, em, hN⟩ : ∃ mny : Int, (if 1 + 10 * ((is.map Sl.D.int).length : Int) < d then 1 + 10 * ((is.map Sl.D.int).length : Int) else d) = mny ∧ (0 ≤ mny ∧ mny ≤ 30) := by
    refine ⟨_, rfl, ?_⟩
    split <;> omega
  rw [em]
  repeat tb_rel
  refine ⟨by omega, by omega, ?_⟩
  refine for_by (fun i Γ' => ∃ (L0 : List (List Int)) (M0 : List Tri) (K0 : Kvs) (N0 a b : Int) (u4 u5 u6 : Option Sl.D) (c : Cs), Bo.Ok ⟨q0, ⟨o0, r0, m0⟩, L0, M0, K0, N0⟩ i ∧ Pot a b ∧ Has (Bo.C ⟨q0, ⟨o0, r0, m0⟩, L0, M0, K0, N0⟩ ++ [(pp, pot a b)]) c ∧ Γ' = ⟨[some (intsD is), some (.ref q0.f), some (.ref o0), some (.ref pp), u4, u5, u6], c⟩) ⟨_, _, _, _, _, _, _, _, _, _, ⟨ok0, c0, Nat.le_refl _⟩, hp1, Has.of (r := []) (by (repeat (first | exact Sl.Take.nil | exact K32.take_self | (apply Sl.Take.cons; (repeat (first | exact Sl.Rm.z | apply Sl.Rm.s | apply K32.rm_app)))))), rfl⟩ (fun _ _ _ => trivial) ?_ ?_
  · rintro i d Γ' hd ⟨L0, M0, K0, N0, a, b, u4, u5, u6, c, w0, hp, tk, rfl⟩
    obtain ⟨hi, rfl⟩ := rangeD_get hd
    have hi2 : i < 30 := by omega
    refine g_name ?_
    refine s_has tk ?_
    refine s_seq ?_
    refine s_turn (q := q0) (o := ⟨o0, r0, m0⟩) (M := M0) (kv := K0) (N := N0) (a1 := a) (b1 := b) w0 (by omega) hp fun L' M' k' n' a b v5 v6 c r w hp tk => ?_
    refine s_take tk ?_
    repeat tb_rel
    refine ⟨(pp, a, b, 4), _, rfl, (by (repeat (first | exact Sl.Take.nil | exact K32.take_self | (apply Sl.Take.cons; (repeat (first | exact Sl.Rm.z | apply Sl.Rm.s | apply K32.rm_app)))))), ⟨hp, (by dsimp only; decide), (by dsimp only; decide)⟩, ?_⟩
    rintro out cs ⟨e, a1, b1, e0, e4, hp1, rfl, rfl⟩
    repeat tb_rel
    refine ⟨fun _ => ?_, fun _ => ?_⟩
    · repeat tb_rel
      refine ⟨(⟨q0, L', M', k', n'⟩, ⟨o0, r0, m0⟩), _, rfl, (by (repeat (first | exact Sl.Take.nil | exact K32.take_self | (apply Sl.Take.cons; (repeat (first | exact Sl.Rm.z | apply Sl.Rm.s | apply K32.rm_app)))))), ⟨w.ok, Nat.le_trans w.len (by omega), w.cl⟩, ?_⟩
      rintro out cs ⟨rfl, rfl⟩
      repeat tb_rel
      exact ⟨L', M', k', n', a1, b1, _, v5, v6, _, w, hp1, Has.of (r := []) (by (repeat (first | exact Sl.Take.nil | exact K32.take_self | (apply Sl.Take.cons; (repeat (first | exact Sl.Rm.z | apply Sl.Rm.s | apply K32.rm_app)))))), rfl⟩
    · repeat tb_rel
      exact ⟨L', M', k', n', a1, b1, _, v5, v6, _, w, hp1, Has.of (r := []) (by (repeat (first | exact Sl.Take.nil | exact K32.take_self | (apply Sl.Take.cons; (repeat (first | exact Sl.Rm.z | apply Sl.Rm.s | apply K32.rm_app)))))), rfl⟩
  · rintro Γ' ⟨L0, M0, K0, N0, a, b, u4, u5, u6, c, w0, hp, tk, rfl⟩
    have hi : (rangeD 0 N.toNat).length ≤ 30 := by rw [rangeD_len]; omega
    refine s_has tk ?_
    repeat tb_rel
    refine ⟨(⟨q0, L0, M0, K0, N0⟩, ⟨o0, r0, m0⟩), _, rfl, (by (repeat (first | exact Sl.Take.nil | exact K32.take_self | (apply Sl.Take.cons; (repeat (first | exact Sl.Rm.z | apply Sl.Rm.s | apply K32.rm_app)))))), ⟨w0.ok, Nat.le_trans w0.len (by omega), w0.cl⟩, ?_⟩
    rintro out cs ⟨rfl, rfl⟩
    exact hE.rt (cs' := []) .nil ⟨rfl, rfl⟩
end
end K32

set_option Elab.async false
set_option linter.all false
set_option maxRecDepth 100000
set_option maxHeartbeats 0
namespace K32
open PySem PySem.Spec PyProof.Rows L2 Px Sl
def mkD (x : Str) (i : Nat) : He.DefD := ⟨(x, none), x, x, defArgs (top i), defBody (top i), defScope (top i), [], []⟩
def mkM (x q : Str) (j : Nat) : He.DefD := ⟨("Front", some x), x, q, defArgs (mtop 14 j), defBody (mtop 14 j), defScope (mtop 14 j), [], []⟩
def dfs : List (Str × Nat) := [("is_corner", 9), ("sides_of", 10), ("is_letter", 13), ("_law_at", 16), ("_law_pot", 17), ("_law_digit", 18), ("_law_thirds", 19), ("_law_wanted", 20), ("_law_step", 21), ("_law_third", 22), ("_law_can", 23), ("_law_put", 24), ("_law_partings", 25), ("_law_letter_drawn", 26), ("_law_same", 27), ("_law_things", 28), ("_law_letters", 29), ("_law_refused", 30), ("_law_all_refused", 31), ("law", 32)]
def mts : List (Str × Str × Nat) := [("__init__", "Front.__init__", 0), ("loops", "Front.loops", 1), ("gate", "Front.gate", 2), ("come", "Front.come", 3), ("triples", "Front.triples", 4), ("parted_at", "Front.parted_at", 5), ("third_of", "Front.third_of", 6), ("may_stand", "Front.may_stand", 7), ("part", "Front.part", 8), ("go_on", "Front.go_on", 9), ("put", "Front.put", 10)]
def fn : List He.DefD := (dfs.map fun p => mkD p.1 p.2) ++ mts.map fun p => mkM p.1 p.2.1 p.2.2
def frees : List Str := ["len", "int", "str", "bool", "list", "tuple", "isinstance", "all", "any", "min", "max", "repr", "range", "reversed", "enumerate", "ValueError"]
def kinds : List Str := ["NoCode", "NoDeed", "NoSide", "NoText", "NoWord"]
def fields : List Str := ["rows", "made", "closed", "many"]
def fa : List He.Fa := [.glo "PLAIN", .exc "NoLetter", .glo "NoLetter", .cls "Front", .mkr "Front", .glo "Front", .glo "ShapeError", .glo "NoCode", .glo "NoDeed", .glo "NoSide", .glo "NoText", .glo "NoWord"] ++ (frees.map He.Fa.free ++ (dfs.map (fun p => He.Fa.glo p.1) ++ (fields.map (He.Fa.noat "Front") ++ mts.map fun p => He.Fa.meth "Front" p.1)))
def exB (K : PySem.W.Frag) (D : Addr) : List Bool := [
  He.eqO (PySem.W.findIn K (.ref D) "__getattribute__") (some (some (.builtin "BaseException.__getattribute__"))),
  He.eqO (PySem.W.findIn K (.ref D) "__getattr__") (some none),
  decide (PySem.W.subIn K (.ref D) (.type "BaseException") = some true),
  PySem.W.hasDictIn K D,
  He.eqO (PySem.W.findIn K (.ref D) "__class__") (some (some (.builtin "object.__class__"))),
  He.eqO (PySem.W.specialIn K (.builtin "object.__class__") "__get__") (some (some (.builtin "getset_descriptor.__get__"))),
  decide (PySem.W.takesIn K (.builtin "object.__class__") = some true),
  decide (PySem.W.mroIn K D (.type "object") = some true),
  decide (PySem.W.kitOne K (.ref D) (.type "ValueError") = some true),
  decide (PySem.W.kitOne K (.ref D) (.ref (He.ga K "ShapeError")) = some true),
  kinds.all fun x => decide (PySem.W.exmOne K (.ref D) (.ref (He.ga K x)) = some false),
  decide (PySem.W.exmOne K (.ref D) (.ref D) = some true),
  He.tupB K "PLAIN" [.str "C", .str "R", .str "L", .str "E"]]
def ex (K : PySem.W.Frag) : Bool := (exB K (He.ga K "NoLetter")).all id
abbrev R : PySem.W.OpenRow := PySem.W.OpenLaw.row PySem.Challenge.rw_shapestring_k32_no_letter
abbrev hk : PySem.W.Hook := He.hookX 5 fa fn [] [] ex
def ob (s : PySem.W.SharedT) : He.AlX := He.obsX 5 fa fn [] [] ex (HandSHeadRun.getT s)
theorem ob_eq (s : PySem.W.SharedT) : ob s = hk.obs s.abs := He.obsX_eq (HandSHeadRun.getT_eq s)
def loose : List PySem.Str := ["ShapeError", "NoText", "NoSide", "NoLetter", "NoCode", "NoDeed", "NoWord", "is_corner", "sides_of", "PLAIN", "is_letter", "Front", "_law_at", "_law_pot", "_law_digit", "_law_thirds", "_law_wanted", "_law_step", "_law_third", "_law_can", "_law_put", "_law_partings", "_law_letter_drawn", "_law_same", "_law_things", "_law_letters", "_law_refused", "_law_all_refused"]
theorem run (w : World) : HandSHeadRun.RunEq R (PySem.W.view R.prog [32]) hk ob 4000 loose w := by
  intro os
  kernel_rfl
end K32

set_option Elab.async false
set_option linter.all false
set_option maxRecDepth 100000
set_option maxHeartbeats 0
namespace K32
open PySem PySem.Spec PyProof.Rows L2 Px Sl
section
variable {P : Program} {w : World} {K : PySem.W.Frag} {h : Heap} {mg : Str → Option Value}
theorem free_in (X : K.In h) (G : h.Ns mainGlobals mg) (c : He.SaysD fa fn K) {x : Str} (hm : x ∈ frees) : mg x = none :=
  He.free_ok X G (c.facts (List.mem_append_right _ (List.mem_append_left _ (List.mem_map.mpr ⟨x, hm, rfl⟩))))
theorem def_in (X : K.In h) (G : h.Ns mainGlobals mg) (c : He.SaysD fa fn K) {x : Str} {i : Nat} (hm : (x, i) ∈ dfs) : Fd K mg x (top i) :=
  ⟨c.defs (d := mkD x i) (List.mem_append_left _ (List.mem_map.mpr ⟨(x, i), hm, rfl⟩)), He.glo_ok X G (c.facts (List.mem_append_right _ (List.mem_append_right _ (List.mem_append_left _ (List.mem_map.mpr ⟨(x, i), hm, rfl⟩)))))⟩
theorem na_in (c : He.SaysD fa fn K) {x : Str} (hm : x ∈ fields) : NoAttr K (He.ga K "Front") x :=
  He.noat_ok (c.facts (f := .noat "Front" x) (List.mem_append_right _ (List.mem_append_right _ (List.mem_append_right _ (List.mem_append_left _ (List.mem_map.mpr ⟨x, hm, rfl⟩))))))
theorem md_in (c : He.SaysD fa fn K) {x q : Str} {j : Nat} (hm : (x, q, j) ∈ mts) : Md K "Front" x q (mtop 14 j) := by
  have d := c.defs (d := mkM x q j) (List.mem_append_right _ (List.mem_map.mpr ⟨(x, q, j), hm, rfl⟩))
  have m := He.meth_ok (c.facts (f := .meth "Front" x) (List.mem_append_right _ (List.mem_append_right _ (List.mem_append_right _ (List.mem_append_right _ (List.mem_map.mpr ⟨(x, q, j), hm, rfl⟩))))))
  exact ⟨d, m.at_, m.fn⟩
theorem tx_of (X : K.In h) (G : h.Ns mainGlobals mg) (c : He.SaysD fa fn K) (hx : He.tupB K "PLAIN" [.str "C", .str "R", .str "L", .str "E"] = true) : Tx K mg := by
  have fr : ∀ {x : Str}, x ∈ frees → mg x = none := fun hm => free_in X G c hm
  obtain ⟨e1, e2, e3, e4⟩ := He.exc_ok (c.facts (f := .exc "NoLetter") (List.mem_append_left _ (.tail _ (.head _))))
  have mk := He.mkr_ok (c.facts (f := .mkr "Front") (List.mem_append_left _ (.tail _ (.tail _ (.tail _ (.tail _ (.head _)))))))
  exact ⟨fr (by decide +kernel), fr (by decide +kernel), fr (by decide +kernel), fr (by decide +kernel), fr (by decide +kernel), fr (by decide +kernel), fr (by decide +kernel), fr (by decide +kernel), fr (by decide +kernel), fr (by decide +kernel), fr (by decide +kernel), fr (by decide +kernel), fr (by decide +kernel), fr (by decide +kernel), fr (by decide +kernel),
    He.glo_ok X G (c.facts (f := .glo "PLAIN") (List.mem_append_left _ (.head _))), fun H => He.tupB_ok hx H,
    He.glo_ok X G (c.facts (f := .glo "NoLetter") (List.mem_append_left _ (.tail _ (.tail _ (.head _))))), e1, e2, e3, e4,
    He.glo_ok X G (c.facts (f := .glo "Front") (List.mem_append_left _ (.tail _ (.tail _ (.tail _ (.tail _ (.tail _ (.head _)))))))),
    He.cls_ok (c.facts (f := .cls "Front") (List.mem_append_left _ (.tail _ (.tail _ (.tail _ (.head _)))))), mk.makes, mk.kp,
    na_in c (by decide +kernel), na_in c (by decide +kernel), na_in c (by decide +kernel), na_in c (by decide +kernel)⟩
theorem tz_of (X : K.In h) (G : h.Ns mainGlobals mg) (c : He.SaysD fa fn K) (hx : ex K = true) : Tz K mg := by
  have al := List.all_eq_true.mp hx
  have g : ∀ (i : Nat) {b : Bool}, (exB K (He.ga K "NoLetter"))[i]? = some b → b = true := fun i b e => al b (List.mem_of_getElem? e)
  have gl : ∀ {x : Str}, He.Fa.glo x ∈ fa → mg x = some (.ref (He.ga K x)) := fun hm => He.glo_ok X G (c.facts hm)
  exact { toTx := tx_of X G c (g 12 rfl), g_NoCode := gl (List.mem_append_left _ (by simp)), g_NoDeed := gl (List.mem_append_left _ (by simp)), g_NoSide := gl (List.mem_append_left _ (by simp)), g_NoText := gl (List.mem_append_left _ (by simp)), g_NoWord := gl (List.mem_append_left _ (by simp)), g_ShapeError := gl (List.mem_append_left _ (by simp)), f_ValueError := free_in X G c (by decide +kernel), ec := ⟨He.eqO_ok (g 0 rfl), He.eqO_ok (g 1 rfl), of_decide_eq_true (g 2 rfl), g 3 rfl, He.eqO_ok (g 4 rfl), He.eqO_ok (g 5 rfl), of_decide_eq_true (g 6 rfl), of_decide_eq_true (g 7 rfl)⟩, isS := of_decide_eq_true (g 9 rfl), isV := of_decide_eq_true (g 8 rfl), no := fun x hm => of_decide_eq_true (List.all_eq_true.mp (g 10 rfl) x hm), yes := of_decide_eq_true (g 11 rfl) }
theorem all_of (X : K.In h) (G : h.Ns mainGlobals mg) (c : He.SaysD fa fn K) (hx : ex K = true) (base : Heap) : ∀ fd, FunD K "law" "law" (defArgs s_law) (defBody s_law) (defScope s_law) [] [] (He.ga K "law") fd → FnU P w K mg base (L2N.CX P w) 6 (He.ga K "law") fd ["_law_script"] (spLaw K) := by
  have Z := tz_of X G c hx
  have T : Tx K mg := Z.toTx
  have d : ∀ {x : Str} {i : Nat}, (x, i) ∈ dfs → Fd K mg x (top i) := fun hm => def_in X G c hm
  have m : ∀ {x q : Str} {j : Nat}, (x, q, j) ∈ mts → Md K "Front" x q (mtop 14 j) := fun hm => md_in c hm
  have c_at : Sl.Cl P w K mg base 1 "_law_at" (spAt K) := cl__law_at T (d (by decide +kernel))
  have c_pot := cl__law_pot T (d (by decide +kernel)) c_at
  have c_dig : Sl.Cl P w K mg base 1 "_law_digit" (spDigit K) := cl__law_digit T (d (by decide +kernel))
  have c_cor : Sl.Cl P w K mg base 1 "is_corner" (spCorner K) := cl_is_corner T (d (by decide +kernel))
  have c_sid : Sl.Cl P w K mg base 1 "sides_of" (spSides K) := cl_sides_of T (d (by decide +kernel))
  have c_let := cl_is_letter T (d (by decide +kernel)) c_cor
  have m_ini : ClM P w K mg base 1 "Front" "__init__" (spInit K) := cl_init T (m (by decide +kernel))
  have m_gat : ClM P w K mg base 1 "Front" "gate" (spGate K) := cl_gate T (m (by decide +kernel))
  have m_com : ClM P w K mg base 1 "Front" "come" (spCome K) := cl_come T (m (by decide +kernel))
  have m_tri : ClM P w K mg base 1 "Front" "triples" (spTriples K) := cl_triples T (m (by decide +kernel))
  have m_loo : ClM P w K mg base 1 "Front" "loops" (spLoops K) := cl_loops T (m (by decide +kernel))
  have m_pat : ClM P w K mg base 1 "Front" "parted_at" (spParted K) := cl_parted_at T (m (by decide +kernel))
  have m_thi := cl_third_of T (m (by decide +kernel)) m_pat
  have m_sta := cl_may_stand T (m (by decide +kernel)) m_gat
  have m_par : ClM P w K mg base 1 "Front" "part" (spPart K) := cl_part T (m (by decide +kernel))
  have m_go := cl_go_on T (m (by decide +kernel)) m_par
  have m_put := cl_put T (m (by decide +kernel)) c_let c_sid m_gat m_thi m_sta m_go
  have c_thi : Sl.Cl P w K mg base 1 "_law_thirds" (spThirds K) := cl_thirds T (d (by decide +kernel))
  have c_wan : Sl.Cl P w K mg base 1 "_law_wanted" (spWanted K) := cl_wanted T (d (by decide +kernel))
  have c_ste : Sl.Cl P w K mg base 1 "_law_step" (spStep K) := cl_step T (d (by decide +kernel))
  have c_thr : Sl.Cl P w K mg base 1 "_law_third" (spThird K) := cl_third T (d (by decide +kernel))
  have c_can := cl_can T (d (by decide +kernel)) c_thr c_wan c_thi
  have c_put := cl_putL T (d (by decide +kernel)) c_can c_ste
  have c_par := cl_partings T (d (by decide +kernel)) c_can
  have c_dra := cl_drawn T (d (by decide +kernel)) c_dig c_can c_par
  have c_sam := cl_same T (d (by decide +kernel)) m_loo m_tri m_gat m_com
  have c_thg : Sl.Cl P w K mg base 1 "_law_things" (spThings K) := cl_things Z (d (by decide +kernel))
  have c_ltr := cl_letters Z (d (by decide +kernel)) c_can
  have c_ref := cl_refused Z (d (by decide +kernel)) m_put
  have c_all := cl_all_refused Z (d (by decide +kernel)) c_thg c_ltr c_ref c_sam
  exact fn_law Z m_ini c_pot c_dig c_all c_dra c_put m_put
theorem to0 {base : Heap} {k : Nat} {f : Addr} {fd : FuncData} {ps : List Str} {sp : Sp} (F : FnU P w K mg base (L2N.CX P w) k f fd ps sp) (hs : ∀ vs H Q E, sp vs H Q E → sp vs H Q fun _ _ _ => False) : FnU P w K mg base CX0 k f fd ps sp := by
  refine ⟨F.len, fun A outer s H args us vs Q E hr hu e0 hb r h => ?_⟩
  refine codeAny_mono (F.run A outer s H args us vs Q (fun _ _ _ => False) hr hu e0 hb r (hs vs H Q E h)) fun rs s' hq => ?_
  cases rs with
  | error e =>
    obtain ⟨_, _, _, _, _, _, _, _, _, _, _, _, z⟩ := (show L2N.CX P w outer H s (fun _ _ _ => False) e s' from hq)
    exact z.elim
  | ok fl => cases fl <;> exact hq
theorem facts {f : Addr} (X : K.In h) (G : h.Ns mainGlobals mg) (hfa : mg ("law" : Str) = some (.ref f)) (c : He.SaysD fa fn K) (hx : ex K = true) :
    ∃ fd : FuncData, (∀ (s : Shared) (v : Value), BindsTo s fd ⟨[v], []⟩ [("_law_script", v)]) ∧ ∀ base : Heap, FnU P w K mg base CX0 6 f fd ["_law_script"] (spLaw K) := by
  obtain ⟨⟨fd, FD⟩, g0⟩ := def_in X G c (x := "law") (i := 32) (by decide +kernel)
  have e := hfa.symm.trans g0
  cases e
  have b := FunD.bindsA (ps := ["_law_script"]) FD fun _ _ _ _ _ _ us hl => match us, hl with | [_], _ => rfl
  refine ⟨fd, fun s v => b s [v] rfl, fun base => to0 (all_of X G c hx base fd FD) fun vs H Q E h => ?_⟩
  obtain ⟨g, F, hg, h1, h2, h3, h4, h5⟩ := h
  refine ⟨g, F, hg, h1, h2, h3, h4, fun out cs' hr F' H' st ce => ?_⟩
  have h6 := h5 out cs' hr F' H' st ce
  obtain ⟨rfl, rfl⟩ := hr
  exact h6
end
end K32
open PySem PySem.W PySem.Calls PyProof.Rows
theorem PySem.Challenge.cw_shapestring_k32_no_letter_holds : PySem.Challenge.rw_shapestring_k32_no_letter.Holds := by
  w_on; o_law
  refine HandSHeadRun.head_any (r := OpenLaw.row PySem.Challenge.rw_shapestring_k32_no_letter) (q := view (OpenLaw.row PySem.Challenge.rw_shapestring_k32_no_letter).prog [32]) (H := K32.hk) (ob := K32.ob) (M := 4000) (loose := K32.loose) (d := HandSHeadRun.topDef (OpenLaw.row PySem.Challenge.rw_shapestring_k32_no_letter).prog 32) (kwd := []) K32.ob_eq
    (by kernel_rfl) (fun s => by kernel_rfl) K32.run (by kernel_rfl) (by kernel_rfl) (by kernel_rfl) (by rfl) (by first | assumption | decide +kernel) (by decide +kernel) ⟨rfl, rfl, rfl, rfl, rfl, by decide +kernel⟩ ?hw ?hc
  case hw => w_witness2
  case hc =>
    refine Px.walkU (l := PySem.Challenge.rw_shapestring_k32_no_letter) (n := 63) (k := 6) (x := "_law_script") (CX := L2.CX0) rfl (by decide) (by kernel_rfl) ⟨rfl, by decide, by decide⟩ ?F (fun _ _ _ _ z => z)
    intro w mg fa h Y G hmg0
    obtain ⟨K, KX, c⟩ := Y
    have hmg : mg ("law" : PySem.Str) = some (.ref fa) := by
      have e : (HandSHeadRun.topDef (OpenLaw.row PySem.Challenge.rw_shapestring_k32_no_letter).prog 32).name = ("law" : PySem.Str) := by kernel_rfl
      rw [← e]
      exact hmg0
    obtain ⟨fd, hb, hF⟩ := K32.facts (P := (PySem.Challenge.rw_shapestring_k32_no_letter).prog) (w := w) KX G hmg c.t.d c.more
    refine ⟨K, fd, K32.spLaw K, KX, hb, fun H a ns hl _ hS => ?_, fun base _ _ => hF base⟩
    refine ⟨ns, H, hl, fun _ _ h => h, .cons (.lst hS Sl.dqa_ints) .nil, (fun x hx => nomatch hx), List.nodup_nil, fun out cs' hr F' H' st ce => ?_⟩
    obtain ⟨rfl, rfl⟩ := hr
    intro v hv
    cases hv
    rfl
