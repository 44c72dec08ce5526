import PyProof.Rows.All
import Wide.All
import OpenK.AllK
import Wide.FinOn
import HandS.Base
import HandS.Call
import HandS.List
import HandS.Comp
import HandS.Exc
import HandS.ExcOwn
import HandS.ExcCtx
import HandS.ExcIs
import HandS.HotCalls
import HandS.Words
import HandS.WordsList
import HandS.WordsDict
import HandS.WordsExc
import PyProof.EqAt
import PyProof.EqKinds
import PyProof.TupleCall
import HandS.ForMost
import HandS.ForExc
import HandS.IsInst
import HandS.Defaults
import HandS.HeadHook1
import HandS.HeadHook2
import HandS.RevRange
import HandS.Codes
import HandS.Walk
import HandS.Strs
import KE.KTreeB
import PyProof.AutoSeq1
import HandS.FStr
import HandS.StrMore
import HandS.Text
import HandS.Wide
import KE.KIntText
import KE.IntTextLaws
import KE.IntTextText
import PyProof.Rows.StrIntSpec
import PyProof.Rows.StrSplitCount
import PyProof.Rows.StrCut
import PyProof.StrLawsTight
import PyProof.StrLawsChain
import KE.KStateDown
import Lean
import HandS.Ends
import HandS.More
import HandS.Head0
import HandS.Head1
import HandS.Head2
import HandS.HeadEnd
import HandS.HeadHook4
import PySem.Challenge.RW_shapestring_k51_words_as_texts
set_option Elab.async false
set_option linter.all false
set_option autoImplicit false
set_option maxRecDepth 100000
set_option maxHeartbeats 4000000
/-! A list comprehension over range, and isinstance of the handled exception, inside a def that an except suite calls. -/
namespace Px
open PySem PySem.Spec PyProof.Rows L2 L2H
/-- what Inv says of a pin -/
abbrev PinAt (X : Cx) (H : Hp) (s : Shared) (p : Addr × Obj) : Prop :=
  s.heap.get? p.1 = some p.2 ∧ H p.1 = none ∧ p.1 ≠ X.env.locals ∧ p.1 ∉ X.fs ∧ ∀ v, p.2.data ≠ .cell v
/-- the block of a comprehension, one pin kept -/
abbrev bk (X : Cx) (p : Addr × Obj) (s : Shared) (H : Hp) (sc : Scope) (ce : Env) (fp : List Addr) : Cx := { X.blk s H sc ce fp with pn := [p] }
theorem bk_inv {X : Cx} {p : Addr × Obj} {s s' : Shared} {H H' : Hp} {sc : Scope} {ce : Env} {fp : List Addr} {σ : L2.St}
    (I : Inv (X.blk s H sc ce fp) [] σ H' s') (hp : PinAt (X.blk s H sc ce fp) H' s' p) : Inv (bk X p s H sc ce fp) [] σ H' s' := by
  obtain ⟨⟨o1, o2, o3, o4, o5, o6, o7, o8, o9, o10, o11, o12, o13, o14, o15, o16, o17, o18⟩, i2, i3, i4, i5, i6, i7, i8, i9, i10, i11⟩ := I
  refine ⟨⟨o1, o2, o3, o4, o5, o6, o7, o8, o9, o10, o11, o12, o13, o14, o15, o16, o17, o18⟩, i2, i3, i4, i5, i6, i7, i8, fun q hq => ?_, i10, i11⟩
  have e : q = p := by simpa using hq
  rw [e]
  exact hp
section
variable {X : Cx} {p : Addr × Obj}
theorem lcH_core {pins : List (Addr × Obj)} {s : Shared} {σ : L2.St} {H : Hp} {Q : VK} {el tg it0 : Expr} {cs : List Expr} {sc : Scope} {own : List (Str × Nat)} {pos pos' : Pos} {wi : TI} {g : TG} {tt : TT} {te : TE} {use : Option (Value → Sem Unit)} {Qf : Value → Shared → Prop}
    (hot : Hot1 X.A p) (hp : p ∈ X.pn) (hN : X.N.Nodup) (I : Inv X pins σ H s) (hi : PIH X tg it0 wi) (ok : BlkOk X.N X.env.scope sc own)
    (hg : ∀ (s : Shared) (H : Hp) (C : Addr) (cl : List (Str × Addr)) (fp : List Addr), PG (bk X p s H sc (compEnvC sc cl C X.env) fp) tg g)
    (ht : ∀ (s : Shared) (H : Hp) (C : Addr) (cl : List (Str × Addr)) (fp : List Addr), PTs (bk X p s H sc (compEnvC sc cl C X.env) fp) cs tt)
    (he : ∀ (s : Shared) (H : Hp) (C : Addr) (cl : List (Str × Addr)) (fp : List Addr), PE (bk X p s H sc (compEnvC sc cl C X.env) fp) el te)
    (hs : ∀ x, foldedSetIterable it0 X.env x = pure x) (h : tLc wi g tt te (own.map (·.2)) σ H Q)
    (hR : ∀ D C s' m H', Inv X pins σ H' s' → Q (.ref D) H' → s'.heap.Ns C m → FpOk X pins H' C → compPost (model X.prog X.w) X.A X.xe use Qf (.ref D) C (.ok .next) s') :
    wpAny (model X.prog X.w) X.A (comprehension (.ListComp el [⟨tg, it0, cs, 0⟩] sc pos) sc X.env pos' (newList []) false (eval it0 X.env) use) Qf X.xe s := by
  have cells : ∀ y ∈ sc.names, y.2 = .free → ∃ c, X.env.cells.lookup y.1 = some c := fun y hy e =>
    (ok.free y hy e).elim (fun k => I.ok.has _ (.inl k)) (fun k => I.ok.has _ (.inr k))
  refine wpAny_comprehension_free (use := use) rfl hs (closure_ok cells) ok.kind (fun y hy e => by rw [ok.uniq y hy, e]) ?_
  refine thn (hi.run pins s σ H _ I h) fun xv s1 hx => thn hx fun itv s2 h2 => ?_
  obtain ⟨it, fp, tn, J, H2, rfl, I2, T, t2, f2, q⟩ := h2
  refine wpAny_newObj_type (newEnv_comp ?_) (by show 0 ≤ sizeLine; decide)
  obtain ⟨D, eD⟩ : ∃ D, D = s2.heap.objs.size := ⟨_, rfl⟩
  rw [← eD]
  obtain ⟨W, ⟨m0, w0⟩, turn⟩ := q D (I2.hok.fresh (Nat.le_of_eq eD.symm))
  obtain ⟨s3, e3⟩ : ∃ s3 : Shared, s3 = { s2 with heap := s2.heap.push { cls := .type "list", data := .seq ([] : List Value).toArray } } := ⟨_, rfl⟩
  have hh3 : s3.heap = s2.heap.push { cls := .type "list", data := .seq ([] : List Value).toArray } := by rw [e3]
  have I3 : Inv X pins σ (upd H2 D (.lst [])) s3 := by
    rw [e3]
    refine I2.laid (t' := s2.toks) (fun b o e => Heap.get?_push_of_some _ e) (Nat.le_of_eq eD.symm) ⟨Nat.zero_le _, [], 0, .nil, ?_⟩
    rw [eD]
    exact Heap.get?_push_size _ rfl
  have lt2 : ∀ b ∈ fp, b < s2.heap.objs.size := fun b hb => by
    obtain ⟨o, e, _⟩ := T.obj _ _ t2 b hb
    exact Heap.lt_size e
  have f3 : ∀ b ∈ fp, FpOk X pins (upd H2 D (.lst [])) b ∧ b < s3.heap.objs.size := fun b hb => by
    refine ⟨⟨?_, (f2 b hb).2⟩, by rw [hh3, Heap.size_push]; exact Nat.lt_succ_of_lt (lt2 b hb)⟩
    rw [upd_ne (by rw [eD]; exact Nat.ne_of_lt (lt2 b hb))]
    exact (f2 b hb).1
  have t3 : tn 0 s3.heap := T.keep _ _ _ t2 fun b _ o e => by rw [hh3]; exact Heap.get?_push_of_some _ e
  have P3 := I3.pin p (List.mem_append_left _ hp)
  have I4b := block_start I3 ok hN f3
  have pl3 : p.1 < s3.heap.objs.size := Heap.lt_size P3.1
  have nst : p.1 ∉ frs X.stack := fun hm => (List.mem_cons.mp (I3.stkSub p.1 hm)).elim P3.2.2.1 P3.2.2.2.1
  have I4 := bk_inv (p := p) I4b ⟨pushCells_keeps _ _ _ _ (Heap.get?_push_of_some _ P3.1), P3.2.1, Nat.ne_of_lt pl3, nst, P3.2.2.2.2⟩
  have pg := hg s3 (upd H2 D (.lst [])) s3.heap.objs.size (cellsFrom (s3.heap.objs.size + 1) sc.names (cloFrom X.env.cells sc.names [])) fp
  have pt := ht s3 (upd H2 D (.lst [])) s3.heap.objs.size (cellsFrom (s3.heap.objs.size + 1) sc.names (cloFrom X.env.cells sc.names [])) fp
  have pe := he s3 (upd H2 D (.lst [])) s3.heap.objs.size (cellsFrom (s3.heap.objs.size + 1) sc.names (cloFrom X.env.cells sc.names [])) fp
  rw [← e3]
  show codeAny _ _ (.compStart (.ListComp el [⟨tg, it0, cs, 0⟩] sc pos) 0 (.ref it) (.ref D) (compEnvC sc (cellsFrom (s3.heap.objs.size + 1) sc.names (cloFrom X.env.cells sc.names [])) s3.heap.objs.size X.env)) (compPost (model X.prog X.w) X.A X.xe use Qf (.ref D) s3.heap.objs.size) { s3 with heap := pushCells (s3.heap.push { cls := .type "dict", data := .dict #[] }) sc.names }
  have nfp : ∀ b ∈ fp, (upd H2 D (.lst [])) b = none := fun b hb => (f3 b hb).1.1
  generalize hce : compEnvC sc (cellsFrom (s3.heap.objs.size + 1) sc.names (cloFrom X.env.cells sc.names [])) s3.heap.objs.size X.env = ce at I4b I4 pg pt pe ⊢
  have cL : ce.locals = s3.heap.objs.size := by subst hce; rfl
  generalize hH3 : upd H2 D (.lst []) = H3 at I3 I4b I4 pg pt pe w0 nfp f3 P3
  generalize hs4 : ({ s3 with heap := pushCells (s3.heap.push { cls := .type "dict", data := .dict #[] }) sc.names } : Shared) = s4 at I4b I4 ⊢
  have t4 : tn 0 s4.heap := T.keep _ _ _ t3 fun b _ o e => by rw [← hs4]; exact pushCells_keeps _ _ _ _ (Heap.get?_push_of_some _ e)
  have pfp : ∀ b ∈ fp, p.1 ≠ b := fun b hb => (f3 b hb).1.2.2.2.2.2 p (List.mem_append_left _ hp)
  have hc : HotC (bk X p s3 H3 sc ce fp) := ⟨p, hot, List.mem_singleton.mpr rfl⟩
  have stat : ∀ {σ' : L2.St} {H' : Hp} {s' : Shared}, Inv (bk X p s3 H3 sc ce fp) [] σ' H' s' → (∀ b ∈ fp, H' b = none) → ∀ b ∈ fp, FpOk (bk X p s3 H3 sc ce fp) [] H' b := fun {σ' H' s'} I' hn b hb =>
    ⟨hn b hb, (I'.ok.exf b hb).1, I'.ok.exfs b hb, .inl hb, fun x c e => (I'.ok.exf b hb).2 x c e, fun q hq => by
      have e : q = p := by simpa using hq
      rw [e]
      exact pfp b hb⟩
  have loop : codeAny (model X.prog X.w) X.A (.compLoop (.ListComp el [⟨tg, it0, cs, 0⟩] sc pos) 0 (.ref it) (.ref D) ce) (compPost (model X.prog X.w) X.A X.xe use Qf (.ref D) s3.heap.objs.size) s4 := by
    refine compLoop_any (fun n s' => ∃ i H', Inv (bk X p s3 H3 sc ce fp) [] (wipe σ (own.map (·.2))) H' s' ∧ tn i s'.heap ∧ (∀ b ∈ fp, H' b = none) ∧ W i n H') ?_ m0 ⟨0, H3, I4, t4, nfp, w0⟩
    rintro n s5 ⟨i, H5, I5, t5, n5, w5⟩
    rcases turn i n H5 w5 with ⟨stop, qq⟩ | ⟨go, Nx, hNx, step⟩
    · refine thnF (T.done (bk X p s3 H3 sc ce fp) rfl rfl rfl hc i [] s5 _ H5 (fun _ _ => False) I5 (stat I5 n5) t5 stop) fun r s6 ⟨hr, I6⟩ => ?_
      subst hr
      have I7 : Inv X pins σ H5 s6 := I3.call' (ch := fp) I6.os I6.base I6.hok I6.bare fun b hb => by
        obtain ⟨_, g1, _, g3, g4, g5⟩ := (f3 b hb).1
        exact ⟨g3, g1, g4, g5⟩
      obtain ⟨m, hn, _⟩ := I6.loc
      have hn' : s6.heap.Ns ce.locals m := hn
      have nC : H5 ce.locals = none := I6.free
      rw [cL] at hn' nC
      exact hR D s3.heap.objs.size s6 m H5 I7 qq hn' (I3.fpOk (Nat.le_refl _) nC)
    · refine thnF (T.item (bk X p s3 H3 sc ce fp) rfl rfl rfl hc i [] s5 _ H5 (fun _ _ => False) I5 (stat I5 n5) t5 go) fun r s6 ⟨u, hr, h6⟩ => ?_
      subst hr
      refine thnF h6 fun _ s7 ⟨x, H7, I7, r7, y7, t7, n7⟩ => ?_
      have J7 := I7.pinned (stat I7 n7) (T.obj _ _ t7)
      refine thnF (pg.run _ s7 _ H7 x u _ J7 r7 (step x H7 y7)) fun _ s8 ⟨σ8, H8, I8, hw8, q8⟩ => ?_
      refine thnF (pt.run _ s8 σ8 H8 _ I8 q8) fun b s9 ⟨H9, I9, q9⟩ => ?_
      have fin : ∀ {s' : Shared} {H' : Hp}, Inv (bk X p s3 H3 sc ce fp) ([] ++ pinsAt fp s7.heap) σ8 H' s' → Nx H' → ∃ m, m < n ∧ ∃ i H', Inv (bk X p s3 H3 sc ce fp) [] (wipe σ (own.map (·.2))) H' s' ∧ tn i s'.heap ∧ (∀ b ∈ fp, H' b = none) ∧ W i m H' := fun {s' H'} I' nx => by
        obtain ⟨m', hm, w'⟩ := hNx H' nx
        have at' : ∀ b ∈ fp, ∀ o, s7.heap.get? b = some o → s'.heap.get? b = some o ∧ H' b = none := fun b hb o e => by
          have z := I'.pin (b, o) (List.mem_append_right _ (List.mem_append_right _ (mem_pinsAt hb e)))
          exact ⟨z.1, z.2.1⟩
        have ln : (wipe σ (own.map (·.2))).length = σ8.length := by rw [← hw8, wipe_length]
        refine ⟨m', hm, i + 1, H', (I'.unpinned (pins := [])).weak ln (fun j v e => ?_), T.keep _ _ _ t7 fun b hb o e => (at' b hb o e).1, fun b hb => ?_, w'⟩
        · rw [← hw8] at e
          exact (wipe_some e).1
        · obtain ⟨o, e, _⟩ := T.obj _ _ t7 b hb
          exact (at' b hb o e).2
      cases b with
      | false =>
        simp only [Bool.false_eq_true, if_false] at q9 ⊢
        exact fin I9 q9
      | true =>
        simp only [if_true] at q9 ⊢
        refine thnF (pe.run _ s9 σ8 H9 _ I9 q9) fun z s10 ⟨yv, H10, I10, r10, acc, hD10, hz10, nx⟩ => ?_
        exact app_ok (X := bk X p s3 H3 sc ce fp) I10 hD10 hz10 r10 fun s11 I11 => fin I11 nx
  exact codeAny_compStart_list loop (T.self X.A 0 _ _ _ t4 loop)
/-- such a comprehension as a value -/
theorem pe_lcH {el tg it0 : Expr} {cs : List Expr} {sc : Scope} {own : List (Str × Nat)} {pos : Pos} {wi : TI} {g : TG} {tt : TT} {te : TE}
    (hot : Hot1 X.A p) (hp : p ∈ X.pn) (hN : X.N.Nodup) (hi : PIH X tg it0 wi) (ok : BlkOk X.N X.env.scope sc own)
    (hg : ∀ (s : Shared) (H : Hp) (C : Addr) (cl : List (Str × Addr)) (fp : List Addr), PG (bk X p s H sc (compEnvC sc cl C X.env) fp) tg g)
    (ht : ∀ (s : Shared) (H : Hp) (C : Addr) (cl : List (Str × Addr)) (fp : List Addr), PTs (bk X p s H sc (compEnvC sc cl C X.env) fp) cs tt)
    (he : ∀ (s : Shared) (H : Hp) (C : Addr) (cl : List (Str × Addr)) (fp : List Addr), PE (bk X p s H sc (compEnvC sc cl C X.env) fp) el te)
    (hs : ∀ x, foldedSetIterable it0 X.env x = pure x := by intro _; rfl) :
    PE X (.ListComp el [⟨tg, it0, cs, 0⟩] sc pos) (tLc wi g tt te (own.map (·.2))) := by
  refine ⟨fun pins s σ H Q I h => ?_⟩
  rw [eval_ListComp]
  refine lcH_core hot hp hN I hi ok hg ht he hs h fun D C s' m H' I' q hn f => ⟨m, hn, fun h'' sb => ?_⟩
  obtain ⟨f0, f1, _, f3, f4, f5⟩ := f
  exact ⟨.ref D, H', I'.turned (t' := s'.toks) (fun b o hb e => (sb.2 b hb).trans e) f0 f1 f3 f4 f5, rfl, q⟩
/-- isinstance of the pinned exception of class D0 -/
theorem call_isP {a D0 : Addr} {oe : Obj} (hp : (a, oe) ∈ X.pn) (C : ExcC X.K D0) (hz : Zc (.ref D0) none oe) (hf : ∃ vs, oe.data = .fields vs) : CallR X (.builtin "isinstance") (rIsE X.K D0 a) := by
  intro pins s σ H xs us Q I r h
  obtain ⟨c, cv, b, rfl, hcv, e, q⟩ := h
  obtain ⟨u1, u2, rfl, r1, r2⟩ := vals2 r
  cases r1
  have ec := hcv _ r2
  subst ec
  have hget := (I.pin (a, oe) (List.mem_append_left _ hp)).1
  obtain ⟨vs, hv⟩ := hf
  have J : PySem.W.InstAt s.heap a oe D0 none := by
    obtain ⟨oc, od, oda, osl⟩ := oe
    obtain ⟨h1, h2⟩ := hz
    dsimp only at h1 h2 hv
    subst h1 h2 hv
    exact ⟨hget, rfl, rfl, trivial⟩
  refine PySem.W.kia_one (PySem.W.handS_kitx_exc C.hg C.hk C.hs C.hd C.ha C.hn C.ht C.hm) I.kIn J e (fun z => nomatch z) fun tk => ?_
  exact ⟨.bl b, H, I.kept (t' := tk) fun _ _ z => z, rfl, q⟩
end
end Px

set_option Elab.async false
set_option linter.all false
set_option autoImplicit false
set_option maxRecDepth 100000
set_option maxHeartbeats 4000000
/-! A def that an except suite calls with the exception it holds. -/
namespace Px
open PySem PySem.Spec PyProof.Rows L2 L2H
abbrev SpE := Addr → Value → Option Addr → Sp
structure FnE (P : Program) (w : World) (K : PySem.W.Frag) (mg : Str → Option Value) (base : Heap) (CX : CXT) (k : Nat) (f : Addr) (fd : FuncData) (ps : List Str) (sp : SpE) : Prop where
  len : ∀ a cls d vs H Q E, sp a cls d vs H Q E → vs.length = ps.length
  run : ∀ (A : Around) (outer : List Env) (s : Shared) (H : Hp) (args : Args) (us : List Value) (vs : List V) (Q : VK) (E : XK) (p : Addr × Obj) (cls : Value) (d : Option Addr),
    RoomH k A → Hot1 A p → Zc cls d p.2 → PinOk outer H s p → Env0 P w K mg base A outer s H → BindsTo s fd args (ps.zip us) → Vals vs us → sp p.1 cls d vs H Q E →
    codeAny (model P w) A (.call (.ref f) args) (CR CX outer P w H s Q E) s
theorem fnE_of {CX : CXT} {P : Program} {w : World} {K : PySem.W.Frag} {mg : Str → Option Value} {base : Heap} {k : Nat} {f : Addr} {nm qn : Str} {pr : Arguments} {bd : List Stmt} {sc : Scope} {dV kV doc pm cdv ct oc : Value} {an od : Option Addr}
    {osl : Array (Option Value)} {N ps : List Str} {sp : SpE} (lk : K.lookup f = some ⟨oc, od, .func (PySem.W.fnOf nm qn pr bd sc dV kV doc pm an cdv ct), osl⟩) (hcd : PySem.W.codeIn K cdv qn = true) (S : FnScope N ps sc)
    (len : ∀ a cls d vs H Q E, sp a cls d vs H Q E → vs.length = ps.length)
    (hbody : ∀ (A : Around) (outer : List Env) (s : Shared) (H : Hp) (vs : List V) (Q : VK) (E : XK) (p : Addr × Obj) (cls : Value) (d : Option Addr), Hot1 A p → Zc cls d p.2 → RoomH k (A.deeper (envOfC qn sc s.heap.objs.size f cdv)) → sp p.1 cls d vs H Q E →
      ∃ t, PSs (cxH CX P w K mg base N qn sc f cdv A outer s H E p) bd t ∧ t { nx := fun _ H' => Q .non H', rt := Q } (L2.start N vs) H) :
    FnE P w K mg base CX (k + 1) f (PySem.W.fnOf nm qn pr bd sc dV kV doc pm an cdv ct) ps sp := by
  refine ⟨len, fun A outer s H args us vs Q E p cls d hr hot hz hpin e0 hb r hsp => ?_⟩
  have kin : K.In s.heap := e0.mod.kin.keeps fun b o e => (e0.bs b o e).1
  have lim : s.heap.NoLimit := e0.mod.nolimit.keeps fun b o e => (e0.bs b o e).1
  refine codeAny_call_function hr.depth (kin _ _ lk) rfl S.co S.gen rfl (PySem.W.codeRec_of kin hcd) (hb _ _ _ _ ?_)
  refine wpAny_newFunctionEnv_cells S.kind ?_ fun env he s1 x => ?_
  · intro y hy
    refine (S.par y.1 (List.of_mem_zip (show (y.1, y.2) ∈ ps.zip us from hy)).1).elim Or.inl fun q => Or.inr ⟨q, ?_⟩
    exact PySem.W.cellsFrom_some _ _ _ (.inl q)
  · subst he
    refine ⟨lim.keeps x.toInCall.keep, codeAny_func ?_⟩
    obtain ⟨t, ht, hq⟩ := hbody A outer s H vs Q E p cls d hot hz (hr.deeper _) hsp
    have I := inv_startH (CX := CX) (E := E) S hpin e0 (len _ _ _ _ _ _ _ hsp) r x
    refine wpAny_mono (ht.run [] s1 (L2.start N vs) H _ I hq) (fun fl s' hs => ?_) fun _ _ z => z
    cases fl with
    | ret u =>
      obtain ⟨v, σ', H', J, rv, q⟩ := hs
      exact ⟨v, H', J.os, J.bare, J.base, J.hok, rv, q⟩
    | next =>
      obtain ⟨σ', H', J, q⟩ := hs
      exact ⟨V.non, H', J.os, J.bare, J.base, J.hok, rfl, q⟩
    | brk =>
      obtain ⟨_, _, _, q⟩ := hs
      exact q.elim
    | cont =>
      obtain ⟨_, _, _, q⟩ := hs
      exact q.elim
/-- such a call in the suite that holds the exception (nothing leaves the callee) -/
theorem pe_callE {X : Cx} {a : Addr} {oe : Obj} {pn : List (Addr × Obj)} {cls : Value} {d : Option Addr} {k : Nat} {f : Addr} {fd : FuncData} {ps : List Str} {sp : SpE} {x : Str} {q pos : Pos} {e : Expr} {es : List Expr} {t : TA}
    (hz : L2N.Zn cls d oe) (hf : ∃ vs, oe.data = .fields vs) (F : FnE X.prog X.w X.K X.mg X.base CX0 k f fd ps sp) (hr : Room k X.A)
    (hg : Gl (X.suite a ((a, oe) :: pn)) x) (hm : X.mg x = some (.ref f)) (hk : PySem.W.keepIn X.K (.ref f) = true) (hb : Binds X.K fd ps [])
    (ha : PA (X.suite a ((a, oe) :: pn)) (e :: es) t) (hdb : (x == ("__debug__" : Str)) = false := by decide)
    (hst : starEach (e :: es) X.env = (false, eval e X.env) :: starEach es X.env := by rfl) (hpl : (backTo pos (starEach es X.env)).any (·.1) = false := by rfl) :
    PE (X.suite a ((a, oe) :: pn)) (.Call (.Name x q) (e :: es) [] pos) (tCall (sp a cls d) [] E0 t) := by
  refine ⟨fun pins s σ H Q I h => ?_⟩
  refine wpAny_Call_Name_kw (ld_glob I hg hm ?_ hdb)
  refine PySem.W.callWith_K (h₀ := X.base) I.ok.mod.kin hk (thn (ha.run pos pins s σ H _ I h) fun us s1 hh => ?_) hst hpl
  obtain ⟨vs, H1, I1, r, z⟩ := hh
  rw [List.append_nil] at z
  refine ⟨I1.kIn, ?_⟩
  have P1 := I1.pin (a, oe) (List.mem_append_left _ List.mem_cons_self)
  have hpin : PinOk X.stack H1 s1 (a, oe) := ⟨P1.1, P1.2.1, fun hm => (List.mem_cons.mp (I1.stkSub a hm)).elim P1.2.2.1 P1.2.2.2.1, P1.2.2.2.2⟩
  have hl : us.length = ps.length := by rw [← r.length]; exact F.len _ _ _ _ _ _ _ z
  have b := hb s1 us I1.kIn (by rw [List.append_nil]; exact hl)
  rw [List.append_nil] at b
  obtain ⟨ws, hw⟩ := hf
  have hot : Hot1 (X.A.mark (some (.ref a))) (a, oe) := ⟨rfl, ws, hw, hz.2.2 ws hw⟩
  refine wpAny_call (codeAny_mono (F.run (X.A.mark (some (.ref a))) X.stack s1 H1 ⟨us, []⟩ us vs Q E0 (a, oe) cls d ⟨hr.dp, hr.un⟩ hot hz.zc hpin I1.env0 b r z) fun rs s' hq => ?_)
  cases rs with
  | error e => exact False.elim (show CX0 X.stack H1 s1 E0 e s' from hq)
  | ok fl =>
    cases fl with
    | ret u => exact I1.after hq
    | next => exact False.elim hq
    | brk => exact False.elim hq
    | cont => exact False.elim hq
end Px

set_option Elab.async false
set_option linter.all false
set_option autoImplicit false
set_option maxRecDepth 100000
set_option maxHeartbeats 4000000
/-! Data in place of heaps: what a reading asks, said of plain data. -/
namespace Dl
open PySem PySem.Spec PyProof.Rows L2
/-! ### data: as the layer's own, and the empty dict -/
mutual
inductive Dq (K : PySem.W.Frag) (H : Hp) : V → PyData → Prop
  | non : Dq K H .non .none
  | bl (b : Bool) : Dq K H (.bl b) (.bool b)
  | int (i : Int) : Dq K H (.int i) (.int i)
  | str (x : Str) : Dq K H (.str x) (.str x)
  | dic {a : Addr} : Rd H a (.dK []) → Dq K H (.ref a) (.dict [])
  | lst {a : Addr} {xs : List V} {ds : List PyData} : SqL K H a xs → DqAll K H xs ds → Dq K H (.ref a) (.list ds)
  | tup {a : Addr} {xs : List V} {ds : List PyData} : SqT K H a xs → DqAll K H xs ds → Dq K H (.ref a) (.tuple ds)
inductive DqAll (K : PySem.W.Frag) (H : Hp) : List V → List PyData → Prop
  | nil : DqAll K H [] []
  | cons {v : V} {vs : List V} {d : PyData} {ds : List PyData} : Dq K H v d → DqAll K H vs ds → DqAll K H (v :: vs) (d :: ds)
end
mutual
theorem dq_dp {K : PySem.W.Frag} {H : Hp} : ∀ {v : V} {d : PyData}, Dq K H v d → d.canLay0 = true → Dp K H v d
  | _, _, .non, _ => .non
  | _, _, .bl b, _ => .bl b
  | _, _, .int i, _ => .int i
  | _, _, .str x, _ => .str x
  | _, _, .dic _, c => by cases c
  | _, _, .lst h a, c => .lst h (dqa_dpa a c)
  | _, _, .tup h a, c => .tup h (dqa_dpa a c)
theorem dqa_dpa {K : PySem.W.Frag} {H : Hp} : ∀ {vs : List V} {ds : List PyData}, DqAll K H vs ds → PyData.canLayAll0 ds = true → DpAll K H vs ds
  | _, _, .nil, _ => .nil
  | _, _, .cons h a, c => by
    unfold PyData.canLayAll0 at c
    obtain ⟨c1, c2⟩ := Bool.and_eq_true_iff.mp c
    exact .cons (dq_dp h c1) (dqa_dpa a c2)
end
theorem rd_same {H H' : Hp} {a : Addr} {u : HO} (e : Same H H') (h : Rd H a u) : Rd H' a u := h.elim (fun h => .inl (e _ _ h)) fun ⟨o, h⟩ => .inr ⟨o, e _ _ h⟩
/-! ### data stays -/
theorem sqT_same {K : PySem.W.Frag} {H H' : Hp} {a : Addr} {xs : List V} (e : Same H H') (h : SqT K H a xs) : SqT K H' a xs := by
  rcases h with (h | ⟨o, h⟩) | h
  · exact .inl (.inl (e _ _ h))
  · exact .inl (.inr ⟨o, e _ _ h⟩)
  · exact .inr h
mutual
theorem dp_same {K : PySem.W.Frag} {H H' : Hp} (e : Same H H') : ∀ {v : V} {d : PyData}, Dq K H v d → Dq K H' v d
  | _, _, .non => .non
  | _, _, .bl b => .bl b
  | _, _, .int i => .int i
  | _, _, .str x => .str x
  | _, _, .dic h => .dic (rd_same e h)
  | _, _, .lst h a => .lst (e.seq h) (dpa_same e a)
  | _, _, .tup h a => .tup (sqT_same e h) (dpa_same e a)
theorem dpa_same {K : PySem.W.Frag} {H H' : Hp} (e : Same H H') : ∀ {vs : List V} {ds : List PyData}, DqAll K H vs ds → DqAll K H' vs ds
  | _, _, .nil => .nil
  | _, _, .cons h a => .cons (dp_same e h) (dpa_same e a)
end
section
variable {K : PySem.W.Frag} {H : Hp}
theorem dpa_len : ∀ {vs : List V} {ds : List PyData}, DqAll K H vs ds → vs.length = ds.length
  | _, _, .nil => rfl
  | _, _, .cons _ a => by rw [List.length_cons, List.length_cons, dpa_len a]
theorem dpa_get : ∀ {vs : List V} {ds : List PyData} {i : Nat} {d : PyData}, DqAll K H vs ds → ds[i]? = some d → ∃ v, vs[i]? = some v ∧ Dq K H v d
  | _, _, i, d, .nil, h => by simp at h
  | _, _, 0, d, .cons h a, e => by
    have e' := Option.some.inj e
    exact ⟨_, rfl, e' ▸ h⟩
  | _, _, i + 1, d, .cons h a, e => dpa_get (i := i) a e
theorem dpa_app : ∀ {vs ws : List V} {ds es : List PyData}, DqAll K H vs ds → DqAll K H ws es → DqAll K H (vs ++ ws) (ds ++ es)
  | _, _, _, _, .nil, b => b
  | _, _, _, _, .cons h a, b => .cons h (dpa_app a b)
theorem dpa_one {v : V} {d : PyData} (h : Dq K H v d) : DqAll K H [v] [d] := .cons h .nil
theorem dpa_take : ∀ {vs : List V} {ds : List PyData} (n : Nat), DqAll K H vs ds → DqAll K H (vs.take n) (ds.take n)
  | _, _, 0, _ => by simp only [List.take_zero]; exact .nil
  | _, _, n + 1, .nil => .nil
  | _, _, n + 1, .cons h a => .cons h (dpa_take n a)
theorem dpa_drop : ∀ {vs : List V} {ds : List PyData} (n : Nat), DqAll K H vs ds → DqAll K H (vs.drop n) (ds.drop n)
  | _, _, 0, a => a
  | _, _, n + 1, .nil => .nil
  | _, _, n + 1, .cons h a => dpa_drop n a
theorem dpa_rev {vs : List V} {ds : List PyData} (a : DqAll K H vs ds) : DqAll K H vs.reverse ds.reverse := by
  induction a using DqAll.rec (motive_1 := fun _ _ _ => True) with
  | nil => exact .nil
  | cons h a _ ih =>
    rw [List.reverse_cons, List.reverse_cons]
    exact dpa_app ih (dpa_one h)
  | _ => trivial
theorem dpa_set : ∀ {vs : List V} {ds : List PyData} {v : V} {d : PyData} (i : Nat), DqAll K H vs ds → Dq K H v d → DqAll K H (vs.set i v) (ds.set i d)
  | _, _, _, _, _, .nil, _ => .nil
  | _, _, _, _, 0, .cons _ a, h => .cons h a
  | _, _, _, _, i + 1, .cons h' a, h => .cons h' (dpa_set i a h)
theorem dpa_ints {is : List Int} : DqAll K H (is.map V.int) (is.map PyData.int) := by
  induction is with
  | nil => exact .nil
  | cons i r ih => exact .cons (.int i) ih
theorem ints_dpa : ∀ {is : List Int} {vs : List V}, DqAll K H vs (is.map PyData.int) → vs = is.map V.int
  | [], _, .nil => rfl
  | i :: is, _, .cons h a => by
    cases h
    rw [ints_dpa a]
    rfl
theorem bools_dpa : ∀ {bs : List Bool} {vs : List V}, DqAll K H vs (bs.map PyData.bool) → vs = bs.map V.bl
  | [], _, .nil => rfl
  | i :: is, _, .cons h a => by
    cases h
    rw [bools_dpa a]
    rfl
theorem strs_dpa : ∀ {bs : List Str} {vs : List V}, DqAll K H vs (bs.map PyData.str) → vs = bs.map V.str
  | [], _, .nil => rfl
  | i :: is, _, .cons h a => by
    cases h
    rw [strs_dpa a]
    rfl
theorem dpa_strs {is : List Str} : DqAll K H (is.map V.str) (is.map PyData.str) := by
  induction is with
  | nil => exact .nil
  | cons i r ih => exact .cons (.str i) ih
theorem dpa_dropLast {vs : List V} {ds : List PyData} (a : DqAll K H vs ds) : DqAll K H vs.dropLast ds.dropLast := by
  rw [List.dropLast_eq_take, List.dropLast_eq_take, dpa_len a]
  exact dpa_take _ a
theorem dpa_atI {vs : List V} {ds : List PyData} {i : Int} {d : PyData} (a : DqAll K H vs ds) (h : atI ds i = some d) : ∃ v, atI vs i = some v ∧ Dq K H v d := by
  unfold atI at h ⊢
  rw [dpa_len a]
  cases e : ixN ds.length i with
  | none => rw [e] at h; cases h
  | some j =>
    rw [e] at h
    exact dpa_get a h
theorem dpa_flat_rep {vs : List V} {ds : List PyData} (a : DqAll K H vs ds) : ∀ n : Nat, DqAll K H (List.replicate n vs).flatten (List.replicate n ds).flatten
  | 0 => .nil
  | n + 1 => by
    rw [List.replicate_succ, List.replicate_succ, List.flatten_cons, List.flatten_cons]
    exact dpa_app a (dpa_flat_rep a n)
end
/-! ### mutable things, by data -/
inductive DO where
  | lst (ds : List PyData)
  | dk (kvs : List (Key × PyData))
  | dt (kvs : List (List Key × PyData))
/-- the values of a dict's entries -/
def EnOk {α : Type} (K : PySem.W.Frag) (F : Hp) : List (α × V) → List (α × PyData) → Prop := Paired fun x y => x.1 = y.1 ∧ Dq K F x.2 y.2
def HoOk (K : PySem.W.Frag) (F : Hp) : HO → DO → Prop
  | .lst vs, .lst ds => DqAll K F vs ds
  | .dK xs, .dk ys => EnOk K F xs ys
  | .dT xs, .dt ys => EnOk K F xs ys
  | _, _ => False
theorem enOk_same {α : Type} {K : PySem.W.Frag} {H H' : Hp} (e : Same H H') {xs : List (α × V)} {ys : List (α × PyData)} (h : EnOk K H xs ys) : EnOk K H' xs ys := by
  unfold EnOk at h ⊢
  induction h with
  | nil => exact .nil
  | cons h _ ih => exact .cons ⟨h.1, dp_same e h.2⟩ ih
theorem hoOk_same {K : PySem.W.Frag} {H H' : Hp} (e : Same H H') {o : HO} {c : DO} (h : HoOk K H o c) : HoOk K H' o c := by
  cases o <;> cases c <;> first | exact h.elim | exact dpa_same e h | exact enOk_same e h
inductive Ent where
  | fz (d : PyData)
  | own (o : DO)
  | par (p : Addr) (o : DO)
def Ent.mut : Ent → Bool
  | .fz _ => false
  | _ => true
abbrev Gm := List (Option Ent)
abbrev St := L2.St
/-- where one stands: the written part, the frozen heap and the heap at the entry, the cells that came as arguments -/
structure Zx where
  K : PySem.W.Frag
  F0 : Hp
  H0 : Hp
  ps : List Addr
  xt : List (Addr × HO) := []
/-- a cell of data outside the frozen part -/
def Cell (K : PySem.W.Frag) (F H : Hp) (p : Addr) (o : DO) : Prop := ∃ u, H p = some u ∧ F p = none ∧ HoOk K F u o
def EntOk (Z : Zx) (F H : Hp) (v : V) : Ent → Prop
  | .fz d => Dq Z.K F v d
  | .own o => ∃ p, v = .ref p ∧ Z.H0 p = none ∧ Cell Z.K F H p o
  | .par p o => v = .ref p ∧ p ∈ Z.ps ∧ Cell Z.K F H p o
structure Sta (Z : Zx) (F H : Hp) (σ : St) (Γ : Gm) : Prop where
  ff : Same Z.F0 F
  fh : Same F H
  hh : ∀ a o, a ∉ Z.ps → Z.H0 a = some o → H a = some o
  fr : ∀ a o, Z.H0 a = some o → F a = Z.F0 a
  pp : ∀ p ∈ Z.ps, H p ≠ none
  sl : ∀ (i : Nat) e, Γ[i]? = some (some e) → ∃ v, σ[i]? = some (some v) ∧ EntOk Z F H v e
  dj : ∀ (i j : Nat) e e' p, i ≠ j → Γ[i]? = some (some e) → Γ[j]? = some (some e') → e.mut = true → e'.mut = true → σ[i]? = some (some (.ref p)) → σ[j]? = some (some (.ref p)) → False
  ln : σ.length = Γ.length
  xn : ∀ q ∈ Z.xt, H q.1 = some q.2 ∧ F q.1 = none ∧ ∀ (j : Nat) e, Γ[j]? = some (some e) → e.mut = true → σ[j]? = some (some (.ref q.1)) → False
section
variable {Z : Zx} {F F' H H' : Hp} {σ : St} {Γ : Gm} {p : Addr}
theorem Sta.free0 (S : Sta Z F H σ Γ) (hp : H p = none) : Z.H0 p = none := by
  cases e : Z.H0 p with
  | none => rfl
  | some o =>
    by_cases hm : p ∈ Z.ps
    · exact absurd hp (S.pp p hm)
    · rw [S.hh p o hm e] at hp
      cases hp
theorem Sta.freeF (S : Sta Z F H σ Γ) (hp : H p = none) : F p = none := S.fh.free hp
theorem EntOk.cell {v : V} {e : Ent} (h : EntOk Z F H v e) (hm : e.mut = true) : ∃ p o, v = .ref p ∧ Cell Z.K F H p o := by
  cases e with
  | fz d => cases hm
  | own o =>
    obtain ⟨p, rfl, _, c⟩ := h
    exact ⟨p, o, rfl, c⟩
  | par q o => exact ⟨q, o, h.1, h.2.2⟩
theorem Cell.same {K : PySem.W.Frag} {o : DO} (eF : Same F F') (eH : Same H H') (hn : F' p = none) (c : Cell K F H p o) : Cell K F' H' p o := by
  obtain ⟨u, h1, _, h3⟩ := c
  exact ⟨u, eH _ _ h1, hn, hoOk_same eF h3⟩
/-- a new thing p that is frozen at once -/
theorem Sta.frozen (S : Sta Z F H σ Γ) (hp : H p = none) (u : HO) : Sta Z (upd F p u) (upd H p u) σ Γ := by
  have sF : Same F (upd F p u) := fun b o e => by
    have nb : b ≠ p := fun z => by rw [z, S.freeF hp] at e; cases e
    rw [upd_ne nb]
    exact e
  have sH : Same H (upd H p u) := fun b o e => by
    have nb : b ≠ p := fun z => by rw [z, hp] at e; cases e
    rw [upd_ne nb]
    exact e
  refine ⟨S.ff.trans sF, fun b o e => ?_, fun a o hm h => sH a o (S.hh a o hm h), fun a o h => ?_, fun q hq z => ?_, fun i e hi => ?_, S.dj, S.ln, fun q hq => ?_⟩
  · by_cases hb : b = p
    · rw [hb, upd_same] at e
      rw [hb, upd_same]
      exact e
    · rw [upd_ne hb] at e
      exact sH b o (S.fh b o e)
  · have nb : a ≠ p := fun z => by rw [z, S.free0 hp] at h; cases h
    rw [upd_ne nb]
    exact S.fr a o h
  · by_cases hb : q = p
    · rw [hb, upd_same] at z
      cases z
    · rw [upd_ne hb] at z
      exact S.pp q hq z
  · obtain ⟨v, hv, ok⟩ := S.sl i e hi
    refine ⟨v, hv, ?_⟩
    have go : ∀ {q : Addr} {o : DO}, Cell Z.K F H q o → Cell Z.K (upd F p u) (upd H p u) q o := fun {q o} c => by
      have nq : q ≠ p := fun z => by
        obtain ⟨w, h1, _⟩ := c
        rw [z, hp] at h1
        cases h1
      refine c.same sF sH ?_
      rw [upd_ne nq]
      exact c.choose_spec.2.1
    cases e with
    | fz d => exact dp_same sF ok
    | own o =>
      obtain ⟨q, rfl, h0, c⟩ := ok
      exact ⟨q, rfl, h0, go c⟩
    | par q o => exact ⟨ok.1, ok.2.1, go ok.2.2⟩
  · obtain ⟨x1, x2, x3⟩ := S.xn q hq
    refine ⟨sH _ _ x1, ?_, x3⟩
    rw [upd_ne (fun z => by rw [z, hp] at x1; cases x1)]
    exact x2
theorem upd_grow {u : HO} (hp : H p = none) : Same H (upd H p u) := fun b o e => by
  have nb : b ≠ p := fun z => by rw [z, hp] at e; cases e
  rw [upd_ne nb]
  exact e
/-- a new thing p outside the frozen part, in no slot yet -/
structure New (Z : Zx) (F H : Hp) (σ : St) (Γ : Gm) (p : Addr) (o : DO) : Prop where
  h0 : Z.H0 p = none
  cell : Cell Z.K F H p o
  no : ∀ (j : Nat) e, Γ[j]? = some (some e) → e.mut = true → σ[j]? = some (some (.ref p)) → False
  np : ∀ q ∈ Z.xt, q.1 ≠ p
theorem Sta.laid (S : Sta Z F H σ Γ) (hp : H p = none) {u : HO} {o : DO} (ho : HoOk Z.K F u o) : Sta Z F (upd H p u) σ Γ ∧ New Z F (upd H p u) σ Γ p o := by
  have sH : Same H (upd H p u) := upd_grow hp
  refine ⟨⟨S.ff, S.fh.trans sH, fun a x hm h => sH a x (S.hh a x hm h), S.fr, fun q hq z => ?_, fun i e hi => ?_, S.dj, S.ln, fun q hq => ?_⟩, S.free0 hp, ⟨u, upd_same, S.freeF hp, ho⟩, fun j e hj hm hs => ?_, fun q hq z => ?_⟩
  · by_cases hb : q = p
    · rw [hb, upd_same] at z
      cases z
    · rw [upd_ne hb] at z
      exact S.pp q hq z
  · obtain ⟨v, hv, ok⟩ := S.sl i e hi
    refine ⟨v, hv, ?_⟩
    have go : ∀ {q : Addr} {x : DO}, Cell Z.K F H q x → Cell Z.K F (upd H p u) q x := fun {q x} c => c.same (Same.refl _) sH c.choose_spec.2.1
    cases e with
    | fz d => exact ok
    | own x =>
      obtain ⟨q, rfl, h0, c⟩ := ok
      exact ⟨q, rfl, h0, go c⟩
    | par q x => exact ⟨ok.1, ok.2.1, go ok.2.2⟩
  · obtain ⟨x1, x2, x3⟩ := S.xn q hq
    exact ⟨sH _ _ x1, x2, x3⟩
  · obtain ⟨v, hv, ok⟩ := S.sl j e hj
    obtain ⟨q, x, rfl, w, h1, _⟩ := ok.cell hm
    rw [hs] at hv
    injection hv with hv
    injection hv with hv
    injection hv with hv
    rw [← hv, hp] at h1
    cases h1
  · have x1 := (S.xn q hq).1
    rw [z, hp] at x1
    cases x1
/-- a new thing is frozen later -/
theorem Sta.freeze (S : Sta Z F H σ Γ) {o : DO} (n : New Z F H σ Γ p o) : ∃ u, H p = some u ∧ HoOk Z.K F u o ∧ Same F (upd F p u) ∧ Sta Z (upd F p u) H σ Γ := by
  obtain ⟨u, h1, h2, h3⟩ := n.cell
  have sF : Same F (upd F p u) := upd_grow h2
  refine ⟨u, h1, h3, sF, S.ff.trans sF, fun b x e => ?_, S.hh, fun a x h => ?_, S.pp, fun i e hi => ?_, S.dj, S.ln, fun q hq => ?_⟩
  · by_cases hb : b = p
    · rw [hb, upd_same] at e
      rw [hb, h1]
      exact e
    · rw [upd_ne hb] at e
      exact S.fh b x e
  · have nb : a ≠ p := fun z => by rw [z, n.h0] at h; cases h
    rw [upd_ne nb]
    exact S.fr a x h
  · obtain ⟨v, hv, ok⟩ := S.sl i e hi
    refine ⟨v, hv, ?_⟩
    have go : ∀ {q : Addr} {x : DO}, q ≠ p → Cell Z.K F H q x → Cell Z.K (upd F p u) H q x := fun {q x} nq c => by
      refine c.same sF (Same.refl _) ?_
      rw [upd_ne nq]
      exact c.choose_spec.2.1
    cases e with
    | fz d => exact dp_same sF ok
    | own x =>
      obtain ⟨q, rfl, h0, c⟩ := ok
      exact ⟨q, rfl, h0, go (fun z => n.no i _ hi rfl (by rw [← z]; exact hv)) c⟩
    | par q x =>
      obtain ⟨rfl, hq, c⟩ := ok
      exact ⟨rfl, hq, go (fun z => n.no i _ hi rfl (by rw [← z]; exact hv)) c⟩
  · obtain ⟨x1, x2, x3⟩ := S.xn q hq
    refine ⟨x1, ?_, x3⟩
    rw [upd_ne (n.np q hq)]
    exact x2
theorem get_set_eq {α : Type} {l : List α} {i : Nat} {a : α} (h : i < l.length) : (l.set i a)[i]? = some a := by
  rw [List.getElem?_set_self h]
theorem get_set_ne {α : Type} {l : List α} {i j : Nat} {a : α} (h : i ≠ j) : (l.set i a)[j]? = l[j]? := List.getElem?_set_ne h
/-- a value stored in a slot -/
theorem Sta.put (S : Sta Z F H σ Γ) {i : Nat} {v : V} {d : PyData} (hv : Dq Z.K F v d) : Sta Z F H (σ.set i (some v)) (Γ.set i (some (.fz d))) := by
  refine ⟨S.ff, S.fh, S.hh, S.fr, S.pp, fun j e hj => ?_, fun j k e e' q hjk hj hk me me' sj sk => ?_, by rw [List.length_set, List.length_set, S.ln], fun q hq => ?_⟩
  · by_cases hij : i = j
    · subst hij
      have hl : i < Γ.length := by
        have := (List.getElem?_eq_some_iff.mp hj).1
        rw [List.length_set] at this
        exact this
      rw [get_set_eq hl] at hj
      injection hj with hj
      injection hj with hj
      subst hj
      exact ⟨v, get_set_eq (by rw [S.ln]; exact hl), hv⟩
    · rw [get_set_ne hij] at hj
      obtain ⟨w, hw, ok⟩ := S.sl j e hj
      exact ⟨w, by rw [get_set_ne hij]; exact hw, ok⟩
  · have ne1 : i ≠ j := fun z => by
      subst z
      have hl : i < Γ.length := by
        have := (List.getElem?_eq_some_iff.mp hj).1
        rw [List.length_set] at this
        exact this
      rw [get_set_eq hl] at hj
      injection hj with hj
      injection hj with hj
      rw [← hj] at me
      cases me
    have ne2 : i ≠ k := fun z => by
      subst z
      have hl : i < Γ.length := by
        have := (List.getElem?_eq_some_iff.mp hk).1
        rw [List.length_set] at this
        exact this
      rw [get_set_eq hl] at hk
      injection hk with hk
      injection hk with hk
      rw [← hk] at me'
      cases me'
    rw [get_set_ne ne1] at hj sj
    rw [get_set_ne ne2] at hk sk
    exact S.dj j k e e' q hjk hj hk me me' sj sk
  · obtain ⟨x1, x2, x3⟩ := S.xn q hq
    refine ⟨x1, x2, fun j e hj me sj => ?_⟩
    have ne1 : i ≠ j := fun z => by
      subst z
      have hl : i < Γ.length := by
        have := (List.getElem?_eq_some_iff.mp hj).1
        rw [List.length_set] at this
        exact this
      rw [get_set_eq hl] at hj
      injection hj with hj
      injection hj with hj
      rw [← hj] at me
      cases me
    rw [get_set_ne ne1] at hj sj
    exact x3 j e hj me sj
/-- a new thing stored in a slot -/
theorem Sta.putN (S : Sta Z F H σ Γ) {i : Nat} {o : DO} (n : New Z F H σ Γ p o) : Sta Z F H (σ.set i (some (.ref p))) (Γ.set i (some (.own o))) := by
  refine ⟨S.ff, S.fh, S.hh, S.fr, S.pp, fun j e hj => ?_, fun j k e e' q hjk hj hk me me' sj sk => ?_, by rw [List.length_set, List.length_set, S.ln], fun q hq => ?_⟩
  · by_cases hij : i = j
    · subst hij
      have hl : i < Γ.length := by
        have := (List.getElem?_eq_some_iff.mp hj).1
        rw [List.length_set] at this
        exact this
      rw [get_set_eq hl] at hj
      injection hj with hj
      injection hj with hj
      subst hj
      exact ⟨.ref p, get_set_eq (by rw [S.ln]; exact hl), p, rfl, n.h0, n.cell⟩
    · rw [get_set_ne hij] at hj
      obtain ⟨w, hw, ok⟩ := S.sl j e hj
      exact ⟨w, by rw [get_set_ne hij]; exact hw, ok⟩
  · by_cases h1 : i = j
    · subst h1
      have hl : i < σ.length := by
        have := (List.getElem?_eq_some_iff.mp sj).1
        rw [List.length_set] at this
        exact this
      rw [get_set_eq hl] at sj
      injection sj with sj
      injection sj with sj
      injection sj with sj
      subst sj
      rw [get_set_ne hjk] at hk sk
      exact n.no k e' hk me' sk
    · rw [get_set_ne h1] at hj sj
      by_cases h2 : i = k
      · subst h2
        have hl : i < σ.length := by
          have := (List.getElem?_eq_some_iff.mp sk).1
          rw [List.length_set] at this
          exact this
        rw [get_set_eq hl] at sk
        injection sk with sk
        injection sk with sk
        injection sk with sk
        subst sk
        exact n.no j e hj me sj
      · rw [get_set_ne h2] at hk sk
        exact S.dj j k e e' q hjk hj hk me me' sj sk
  · obtain ⟨x1, x2, x3⟩ := S.xn q hq
    refine ⟨x1, x2, fun j e hj me sj => ?_⟩
    by_cases h1 : i = j
    · subst h1
      have hl : i < σ.length := by
        have := (List.getElem?_eq_some_iff.mp sj).1
        rw [List.length_set] at this
        exact this
      rw [get_set_eq hl] at sj
      injection sj with sj
      injection sj with sj
      injection sj with sj
      exact n.np q hq sj.symm
    · rw [get_set_ne h1] at hj sj
      exact x3 j e hj me sj
/-- a cell's content, kept in its slot -/
def Ent.with : Ent → DO → Ent
  | .fz d, _ => .fz d
  | .own _, o => .own o
  | .par p _, o => .par p o
def Ent.cont : Ent → Option DO
  | .fz _ => none
  | .own o => some o
  | .par _ o => some o
theorem Sta.at_ (S : Sta Z F H σ Γ) {i : Nat} {e : Ent} {o : DO} (hi : Γ[i]? = some (some e)) (hc : e.cont = some o) : ∃ p u, σ[i]? = some (some (.ref p)) ∧ H p = some u ∧ F p = none ∧ HoOk Z.K F u o := by
  obtain ⟨v, hv, ok⟩ := S.sl i e hi
  cases e with
  | fz d => cases hc
  | own x =>
    injection hc with hc
    subst hc
    obtain ⟨p, rfl, _, u, h1, h2, h3⟩ := ok
    exact ⟨p, u, hv, h1, h2, h3⟩
  | par q x =>
    injection hc with hc
    subst hc
    obtain ⟨rfl, _, u, h1, h2, h3⟩ := ok
    exact ⟨q, u, hv, h1, h2, h3⟩
/-- a cell written -/
theorem Sta.write (S : Sta Z F H σ Γ) {i : Nat} {e : Ent} {o : DO} {u : HO} (hi : Γ[i]? = some (some e)) (hm : e.mut = true) (hs : σ[i]? = some (some (.ref p))) (ho : HoOk Z.K F u o) : Sta Z F (upd H p u) σ (Γ.set i (some (e.with o))) := by
  obtain ⟨v, hv, ok⟩ := S.sl i e hi
  rw [hs] at hv
  injection hv with hv
  injection hv with hv
  subst hv
  obtain ⟨q, x, eq, w, h1, h2, h3⟩ := ok.cell hm
  injection eq with eq
  subst eq
  have hl : i < Γ.length := (List.getElem?_eq_some_iff.mp hi).1
  have nF : ∀ b c, F b = some c → b ≠ p := fun b c hb z => by rw [z, h2] at hb; cases hb
  have n0 : p ∉ Z.ps → Z.H0 p = none := fun hp => by
    cases e with
    | fz d => cases hm
    | own y =>
      obtain ⟨q, eq, h0, _⟩ := ok
      injection eq with eq
      rw [eq]
      exact h0
    | par q y =>
      obtain ⟨eq, hq, _⟩ := ok
      injection eq with eq
      rw [eq] at hp
      exact absurd hq hp
  refine ⟨S.ff, fun b c hb => by rw [upd_ne (nF b c hb)]; exact S.fh b c hb, fun a c ha h => ?_, S.fr, fun q hq z => ?_, fun j e' hj => ?_, fun j k e1 e2 q hjk hj hk me me' sj sk => ?_, by rw [List.length_set, S.ln], fun q hq => ?_⟩
  · by_cases hap : a = p
    · rw [hap] at h ha
      rw [n0 ha] at h
      cases h
    · rw [upd_ne hap]
      exact S.hh a c ha h
  · by_cases hb : q = p
    · rw [hb, upd_same] at z
      cases z
    · rw [upd_ne hb] at z
      exact S.pp q hq z
  · by_cases hij : i = j
    · subst hij
      rw [get_set_eq hl] at hj
      injection hj with hj
      injection hj with hj
      subst hj
      refine ⟨.ref p, hs, ?_⟩
      cases e with
      | fz d => cases hm
      | own y =>
        obtain ⟨q, eq, h0, _⟩ := ok
        injection eq with eq
        subst eq
        exact ⟨p, rfl, h0, u, upd_same, h2, ho⟩
      | par q y =>
        obtain ⟨eq, hq, _⟩ := ok
        injection eq with eq
        subst eq
        exact ⟨rfl, hq, u, upd_same, h2, ho⟩
    · rw [get_set_ne hij] at hj
      obtain ⟨w', hw', ok'⟩ := S.sl j e' hj
      refine ⟨w', hw', ?_⟩
      have go : ∀ {q : Addr} {x : DO}, q ≠ p → Cell Z.K F H q x → Cell Z.K F (upd H p u) q x := fun {q x} nq c => by
        obtain ⟨w, g1, g2, g3⟩ := c
        exact ⟨w, by rw [upd_ne nq]; exact g1, g2, g3⟩
      cases e' with
      | fz d => exact ok'
      | own y =>
        obtain ⟨q, rfl, h0, c⟩ := ok'
        exact ⟨q, rfl, h0, go (fun z => S.dj i j e _ p hij hi hj hm rfl hs (by rw [← z]; exact hw')) c⟩
      | par q y =>
        obtain ⟨rfl, hq, c⟩ := ok'
        exact ⟨rfl, hq, go (fun z => S.dj i j e _ p hij hi hj hm rfl hs (by rw [← z]; exact hw')) c⟩
  · have kind : ∀ {j : Nat} {e1 : Ent}, (Γ.set i (some (e.with o)))[j]? = some (some e1) → e1.mut = true → ∃ e0, Γ[j]? = some (some e0) ∧ e0.mut = true := fun {j e1} h m => by
      by_cases hij : i = j
      · subst hij
        exact ⟨e, hi, hm⟩
      · rw [get_set_ne hij] at h
        exact ⟨e1, h, m⟩
    obtain ⟨f1, g1, g2⟩ := kind hj me
    obtain ⟨f2, g3, g4⟩ := kind hk me'
    exact S.dj j k f1 f2 q hjk g1 g3 g2 g4 sj sk
  · obtain ⟨x1, x2, x3⟩ := S.xn q hq
    refine ⟨?_, x2, fun j e1 hj me sj => ?_⟩
    · rw [upd_ne (fun z => x3 i e hi hm (by rw [z]; exact hs))]
      exact x1
    · by_cases hij : i = j
      · subst hij
        exact x3 i e hi hm sj
      · rw [get_set_ne hij] at hj
        exact x3 j e1 hj me sj
/-- a slot forgotten -/
theorem Sta.drop (S : Sta Z F H σ Γ) {i : Nat} : Sta Z F H σ (Γ.set i none) := by
  have sub : ∀ {j : Nat} {e : Ent}, (Γ.set i none)[j]? = some (some e) → Γ[j]? = some (some e) := fun {j e} h => by
    by_cases hij : i = j
    · subst hij
      have hl : i < Γ.length := by
        have := (List.getElem?_eq_some_iff.mp h).1
        rw [List.length_set] at this
        exact this
      rw [get_set_eq hl] at h
      cases h
    · rw [get_set_ne hij] at h
      exact h
  exact ⟨S.ff, S.fh, S.hh, S.fr, S.pp, fun j e h => S.sl j e (sub h), fun j k e e' q hjk hj hk => S.dj j k e e' q hjk (sub hj) (sub hk), by rw [List.length_set, S.ln], fun q hq => ⟨(S.xn q hq).1, (S.xn q hq).2.1, fun j e hj => (S.xn q hq).2.2 j e (sub hj)⟩⟩
/-- an own cell taken out of its slot -/
theorem Sta.take (S : Sta Z F H σ Γ) {i : Nat} {o : DO} (hi : Γ[i]? = some (some (.own o))) : ∃ p, σ[i]? = some (some (.ref p)) ∧ New Z F H σ (Γ.set i none) p o := by
  obtain ⟨v, hv, p, rfl, h0, c⟩ := S.sl i _ hi
  refine ⟨p, hv, h0, c, fun j e hj hm hs => ?_, fun q hq z => (S.xn q hq).2.2 i _ hi rfl (by rw [z]; exact hv)⟩
  by_cases hij : i = j
  · subst hij
    have hl : i < Γ.length := (List.getElem?_eq_some_iff.mp hi).1
    rw [get_set_eq hl] at hj
    cases hj
  · rw [get_set_ne hij] at hj
    exact S.dj i j _ e p hij hi hj rfl hm hv hs
/-- one more thing to be kept -/
abbrev Zx.pin (Z : Zx) (q : Addr × HO) : Zx := { Z with xt := q :: Z.xt }
theorem Sta.pinned (S : Sta Z F H σ Γ) {u : HO} (h1 : H p = some u) (h2 : F p = none) (h3 : ∀ (j : Nat) e, Γ[j]? = some (some e) → e.mut = true → σ[j]? = some (some (.ref p)) → False) : Sta (Z.pin (p, u)) F H σ Γ :=
  ⟨S.ff, S.fh, S.hh, S.fr, S.pp, S.sl, S.dj, S.ln, fun q hq => (List.mem_cons.mp hq).elim (fun z => by subst z; exact ⟨h1, h2, h3⟩) (S.xn q)⟩
theorem Sta.unpinned {q : Addr × HO} (S : Sta (Z.pin q) F H σ Γ) : Sta Z F H σ Γ := ⟨S.ff, S.fh, S.hh, S.fr, S.pp, S.sl, S.dj, S.ln, fun x hx => S.xn x (List.mem_cons_of_mem _ hx)⟩
end
end Dl

set_option Elab.async false
set_option linter.all false
set_option autoImplicit false
set_option maxRecDepth 100000
set_option maxHeartbeats 4000000
namespace Dl
open PySem PySem.Spec PyProof.Rows L2
/-! ### judgements over data -/
def Ed (Z : Zx) (te : TE) (Γ : Gm) (R : PyData → Gm → Prop) : Prop := ∀ F H σ, Sta Z F H σ Γ → ∀ Q : VK, (∀ v F' H' d Γ', R d Γ' → Same F F' → Sta Z F' H' σ Γ' → Dq Z.K F' v d → Q v H') → te σ H Q
/-- a new thing -/
def En (Z : Zx) (te : TE) (Γ : Gm) (R : DO → Gm → Prop) : Prop := ∀ F H σ, Sta Z F H σ Γ → ∀ Q : VK, (∀ p F' H' o Γ', R o Γ' → Same F F' → Sta Z F' H' σ Γ' → New Z F' H' σ Γ' p o → Q (.ref p) H') → te σ H Q
/-- without a change -/
def Ep (Z : Zx) (te : TE) (Γ : Gm) (d : PyData) : Prop := ∀ F H σ, Sta Z F H σ Γ → ∀ Q : VK, (∀ v F' H', Same F F' → Same H H' → Sta Z F' H' σ Γ → Dq Z.K F' v d → Q v H') → te σ H Q
def Et (Z : Zx) (t : TT) (Γ : Gm) (R : Bool → Gm → Prop) : Prop := ∀ F H σ, Sta Z F H σ Γ → ∀ Q : Bool → Hp → Prop, (∀ b F' H' Γ', R b Γ' → Same F F' → Sta Z F' H' σ Γ' → Q b H') → t σ H Q
def Ea (Z : Zx) (ta : TA) (Γ : Gm) (R : List PyData → Gm → Prop) : Prop := ∀ F H σ, Sta Z F H σ Γ → ∀ Q : List V → Hp → Prop, (∀ vs F' H' ds Γ', R ds Γ' → Same F F' → Sta Z F' H' σ Γ' → DqAll Z.K F' vs ds → Q vs H') → ta σ H Q
def cl (Γ : Gm) (i : Nat) : Option DO := match Γ[i]? with
  | some (some e) => e.cont
  | _ => none
def wr (Γ : Gm) (i : Nat) (o : DO) : Gm := match Γ[i]? with
  | some (some e) => Γ.set i (some (e.with o))
  | _ => Γ
section
variable {Z : Zx} {Γ : Gm} {R : PyData → Gm → Prop} {ta tb te : TE} {d e : PyData} {i j : Int} {F H : Hp} {σ : St}
theorem cl_at {k : Nat} {o : DO} (h : cl Γ k = some o) : ∃ e, Γ[k]? = some (some e) ∧ e.cont = some o ∧ e.mut = true ∧ ∀ o', wr Γ k o' = Γ.set k (some (e.with o')) := by
  unfold cl at h
  cases q : Γ[k]? with
  | none => rw [q] at h; cases h
  | some x =>
    rw [q] at h
    cases x with
    | none => cases h
    | some e =>
      refine ⟨e, rfl, h, ?_, fun o' => by unfold wr; rw [q]⟩
      cases e with
      | fz d => cases h
      | own o => rfl
      | par p o => rfl
theorem Sta.rd (S : Sta Z F H σ Γ) {k : Nat} {o : DO} (h : cl Γ k = some o) : ∃ p u, σ[k]? = some (some (.ref p)) ∧ H p = some u ∧ HoOk Z.K F u o ∧ ∀ u' o', HoOk Z.K F u' o' → Sta Z F (upd H p u') σ (wr Γ k o') := by
  obtain ⟨e, h1, h2, h3, h4⟩ := cl_at h
  obtain ⟨p, u, g1, g2, g3, g4⟩ := S.at_ h1 h2
  exact ⟨p, u, g1, g2, g4, fun u' o' ho => by rw [h4]; exact S.write h1 h3 g1 ho⟩
theorem Sta.rdL (S : Sta Z F H σ Γ) {k : Nat} {ds : List PyData} (h : cl Γ k = some (.lst ds)) : ∃ p vs, σ[k]? = some (some (.ref p)) ∧ H p = some (.lst vs) ∧ DqAll Z.K F vs ds ∧ ∀ vs' ds', DqAll Z.K F vs' ds' → Sta Z F (upd H p (.lst vs')) σ (wr Γ k (.lst ds')) := by
  obtain ⟨p, u, g1, g2, g3, g4⟩ := S.rd h
  cases u with
  | lst vs => exact ⟨p, vs, g1, g2, g3, fun vs' ds' ho => g4 (.lst vs') (.lst ds') ho⟩
  | _ => exact g3.elim
theorem Ed.imp {R' : PyData → Gm → Prop} (h : Ed Z te Γ R) (hi : ∀ d Γ', R d Γ' → R' d Γ') : Ed Z te Γ R' := fun F H σ S Q q => h F H σ S Q fun v F' H' d Γ' r => q v F' H' d Γ' (hi d Γ' r)
theorem Ep.ed (h : Ep Z te Γ d) (r : R d Γ) : Ed Z te Γ R := fun F H σ S Q q => h F H σ S Q fun v F' H' sF _ S' hd => q v F' H' d Γ r sF S' hd
/-! ### expressions -/
theorem e_var {k : Nat} (h : Γ[k]? = some (some (.fz d))) (r : R d Γ) : Ed Z (tVar k) Γ R := fun F H σ S Q q => by
  obtain ⟨v, hv, ok⟩ := S.sl k _ h
  exact ⟨v, hv, q v F H d Γ r (Same.refl _) S ok⟩
theorem e_int (r : R (.int i) Γ) : Ed Z (tC (.int i)) Γ R := fun F H σ S Q q => q _ F H _ Γ r (Same.refl _) S (.int i)
theorem e_bl {b : Bool} (r : R (.bool b) Γ) : Ed Z (tC (.bl b)) Γ R := fun F H σ S Q q => q _ F H _ Γ r (Same.refl _) S (.bl b)
theorem e_str {x : Str} (r : R (.str x) Γ) : Ed Z (tC (.str x)) Γ R := fun F H σ S Q q => q _ F H _ Γ r (Same.refl _) S (.str x)
theorem e_non (r : R .none Γ) : Ed Z (tC .non) Γ R := fun F H σ S Q q => q _ F H _ Γ r (Same.refl _) S .non
theorem p_var {k : Nat} (h : Γ[k]? = some (some (.fz d))) : Ep Z (tVar k) Γ d := fun F H σ S Q q => by
  obtain ⟨v, hv, ok⟩ := S.sl k _ h
  exact ⟨v, hv, q v F H (Same.refl _) (Same.refl _) S ok⟩
theorem p_int : Ep Z (tC (.int i)) Γ (.int i) := fun F H σ S Q q => q _ F H (Same.refl _) (Same.refl _) S (.int i)
theorem p_str {x : Str} : Ep Z (tC (.str x)) Γ (.str x) := fun F H σ S Q q => q _ F H (Same.refl _) (Same.refl _) S (.str x)
/-- what an operation asks, of data -/
def Ro (Z : Zx) (r : R2) (x y : PyData) (Γ : Gm) (R : PyData → Gm → Prop) : Prop := ∀ F H σ v w, Sta Z F H σ Γ → Dq Z.K F v x → Dq Z.K F w y → ∀ Q : VK, (∀ z F' H' d Γ', R d Γ' → Same F F' → Sta Z F' H' σ Γ' → Dq Z.K F' z d → Q z H') → r v w H Q
theorem e_op {r : R2} (h : Ed Z ta Γ fun x Γ1 => Ed Z tb Γ1 fun y Γ2 => Ro Z r x y Γ2 R) : Ed Z (tOp r ta tb) Γ R := fun F H σ S Q q =>
  h F H σ S _ fun v F1 H1 x Γ1 hb s1 S1 hv => hb F1 H1 σ S1 _ fun w F2 H2 y Γ2 hr s2 S2 hw =>
    hr F2 H2 σ v w S2 (dp_same s2 hv) hw Q fun z F3 H3 d Γ3 r s3 S3 hz => q z F3 H3 d Γ3 r ((s1.trans s2).trans s3) S3 hz
theorem e_un {r : V → Hp → VK → Prop} (h : Ed Z ta Γ fun x Γ1 => ∀ F H σ v, Sta Z F H σ Γ1 → Dq Z.K F v x → ∀ Q : VK, (∀ z F' H' d Γ', R d Γ' → Same F F' → Sta Z F' H' σ Γ' → Dq Z.K F' z d → Q z H') → r v H Q) : Ed Z (tUn r ta) Γ R := fun F H σ S Q q =>
  h F H σ S _ fun v F1 H1 x Γ1 hr s1 S1 hv => hr F1 H1 σ v S1 hv Q fun z F3 H3 d Γ3 r s3 S3 hz => q z F3 H3 d Γ3 r (s1.trans s3) S3 hz
theorem e_neg (h : Ed Z ta Γ fun x Γ1 => ∃ i, x = .int i ∧ R (.int (-i)) Γ1) : Ed Z (tUn (rU fun i => .int (-i)) ta) Γ R := e_un (h.imp fun x Γ1 ⟨i, e, r⟩ F H σ v S hv Q q => by
  subst e
  cases hv
  exact ⟨i, rfl, q _ F H _ Γ1 r (Same.refl _) S (.int _)⟩)
theorem o_int {f : Int → Int → Int} (r : R (.int (f i j)) Γ) : Ro Z (rI0 fun i j => .int (f i j)) (.int i) (.int j) Γ R := fun F H σ v w S hv hw Q q => by
  cases hv
  cases hw
  exact ⟨i, j, rfl, rfl, q _ F H _ Γ r (Same.refl _) S (.int _)⟩
theorem o_bool {f : Int → Int → Bool} (r : R (.bool (f i j)) Γ) : Ro Z (rI0 fun i j => .bl (f i j)) (.int i) (.int j) Γ R := fun F H σ v w S hv hw Q q => by
  cases hv
  cases hw
  exact ⟨i, j, rfl, rfl, q _ F H _ Γ r (Same.refl _) S (.bl _)⟩
theorem o_intC {C : Int → Int → Prop} {f : Int → Int → Int} (c : C i j) (r : R (.int (f i j)) Γ) : Ro Z (rI C fun i j => .int (f i j)) (.int i) (.int j) Γ R := fun F H σ v w S hv hw Q q => by
  cases hv
  cases hw
  exact ⟨i, j, rfl, rfl, c, q _ F H _ Γ r (Same.refl _) S (.int _)⟩
theorem o_eqI (r : R (.bool (decide (i = j))) Γ) : Ro Z rEq (.int i) (.int j) Γ R := fun F H σ v w S hv hw Q q => by
  cases hv
  cases hw
  refine ⟨rfl, ?_⟩
  have e : decide (V.int i = V.int j) = decide (i = j) := by
    by_cases h : i = j
    · rw [h, decide_eq_true rfl, decide_eq_true rfl]
    · rw [decide_eq_false h, decide_eq_false fun z => h (V.int.inj z)]
  rw [e]
  exact q _ F H _ Γ r (Same.refl _) S (.bl _)
theorem o_neI (r : R (.bool (!decide (i = j))) Γ) : Ro Z rNe (.int i) (.int j) Γ R := fun F H σ v w S hv hw Q q => by
  cases hv
  cases hw
  refine ⟨rfl, ?_⟩
  have e : decide (V.int i = V.int j) = decide (i = j) := by
    by_cases h : i = j
    · rw [h, decide_eq_true rfl, decide_eq_true rfl]
    · rw [decide_eq_false h, decide_eq_false fun z => h (V.int.inj z)]
  rw [e]
  exact q _ F H _ Γ r (Same.refl _) S (.bl _)
theorem dec_str {x y : Str} : decide (V.str x = V.str y) = decide (x = y) := by
  by_cases h : x = y
  · rw [h, decide_eq_true rfl, decide_eq_true rfl]
  · rw [decide_eq_false h, decide_eq_false fun z => h (V.str.inj z)]
theorem o_eqS {x y : Str} (r : R (.bool (decide (x = y))) Γ) : Ro Z rEq (.str x) (.str y) Γ R := fun F H σ v w S hv hw Q q => by
  cases hv
  cases hw
  refine ⟨rfl, ?_⟩
  rw [dec_str]
  exact q _ F H _ Γ r (Same.refl _) S (.bl _)
theorem o_neS {x y : Str} (r : R (.bool (!decide (x = y))) Γ) : Ro Z rNe (.str x) (.str y) Γ R := fun F H σ v w S hv hw Q q => by
  cases hv
  cases hw
  refine ⟨rfl, ?_⟩
  rw [dec_str]
  exact q _ F H _ Γ r (Same.refl _) S (.bl _)
def isN : PyData → Bool
  | .none => true
  | _ => false
theorem isN_ok {K : PySem.W.Frag} {v : V} {d : PyData} (h : Dq K F v d) : decide (v = .non) = isN d := by
  cases h <;> rfl
theorem o_isN (r : R (.bool (isN d)) Γ) : Ro Z (fun x y H Q => y = .non ∧ Q (.bl (decide (x = .non))) H) d .none Γ R := fun F H σ v w S hv hw Q q => by
  cases hw
  refine ⟨rfl, ?_⟩
  rw [isN_ok hv]
  exact q _ F H _ Γ r (Same.refl _) S (.bl _)
theorem o_notN (r : R (.bool (!isN d)) Γ) : Ro Z (fun x y H Q => y = .non ∧ Q (.bl (!decide (x = .non))) H) d .none Γ R := fun F H σ v w S hv hw Q q => by
  cases hw
  refine ⟨rfl, ?_⟩
  rw [isN_ok hv]
  exact q _ F H _ Γ r (Same.refl _) S (.bl _)
theorem dq_eq {v : V} (hs : SeqAt.shaped d = true) (S : Same F H) (h : Dq Z.K F v d) : Dp Z.K H v d := dq_dp (dp_same S h) (SeqAt.canLay_of_shaped hs)
theorem o_eqD (h1 : SeqAt.shaped d = true) (h2 : SeqAt.shaped e = true) (r : R (.bool (PyData.eqv d e)) Γ) : Ro Z (rEqD Z.K) d e Γ R := fun F H σ v w S hv hw Q q =>
  ⟨d, e, dq_eq h1 S.fh hv, dq_eq h2 S.fh hw, h1, h2, q _ F H _ Γ r (Same.refl _) S (.bl _)⟩
theorem o_neD (h1 : SeqAt.shaped d = true) (h2 : SeqAt.shaped e = true) (r : R (.bool (!PyData.eqv d e)) Γ) : Ro Z (rNeD Z.K) d e Γ R := fun F H σ v w S hv hw Q q =>
  ⟨d, e, dq_eq h1 S.fh hv, dq_eq h2 S.fh hw, h1, h2, q _ F H _ Γ r (Same.refl _) S (.bl _)⟩
/-- the same of a cell and what changes nothing -/
theorem hd_eq {k : Nat} {ds : List PyData} (S : Sta Z F H σ Γ) (hc : cl Γ k = some (.lst ds)) (hs : SeqAt.shaped (.list ds) = true) : ∃ p, σ[k]? = some (some (.ref p)) ∧ Dp Z.K H (.ref p) (.list ds) := by
  obtain ⟨p, vs, h1, h2, h3, _⟩ := S.rdL hc
  exact ⟨p, h1, dq_dp (.lst (SqL.of h2) (dpa_same S.fh h3)) (SeqAt.canLay_of_shaped hs)⟩
theorem e_eqO {k : Nat} {ds : List PyData} (hc : cl Γ k = some (.lst ds)) (hb : Ep Z tb Γ e) (h1 : SeqAt.shaped (.list ds) = true) (h2 : SeqAt.shaped e = true) (r : R (.bool (PyData.eqv (.list ds) e)) Γ) : Ed Z (tOp (rEqD Z.K) (tVar k) tb) Γ R := fun F H σ S Q q => by
  obtain ⟨p, g1, g2⟩ := hd_eq S hc h1
  refine ⟨_, g1, hb F H σ S _ fun w F' H' sF sH S' hw => ?_⟩
  obtain ⟨p', g3, g4⟩ := hd_eq S' hc h1
  rw [g1] at g3
  injection g3 with g3
  injection g3 with g3
  rw [← g3] at g4
  exact ⟨_, e, g4, dq_eq h2 S'.fh hw, h1, h2, q _ F' H' _ Γ r sF S' (.bl _)⟩
theorem e_neO {k : Nat} {ds : List PyData} (hc : cl Γ k = some (.lst ds)) (hb : Ep Z tb Γ e) (h1 : SeqAt.shaped (.list ds) = true) (h2 : SeqAt.shaped e = true) (r : R (.bool (!PyData.eqv (.list ds) e)) Γ) : Ed Z (tOp (rNeD Z.K) (tVar k) tb) Γ R := fun F H σ S Q q => by
  obtain ⟨p, g1, g2⟩ := hd_eq S hc h1
  refine ⟨_, g1, hb F H σ S _ fun w F' H' sF sH S' hw => ?_⟩
  obtain ⟨p', g3, g4⟩ := hd_eq S' hc h1
  rw [g1] at g3
  injection g3 with g3
  injection g3 with g3
  rw [← g3] at g4
  exact ⟨_, e, g4, dq_eq h2 S'.fh hw, h1, h2, q _ F' H' _ Γ r sF S' (.bl _)⟩
theorem o_ixT {ds : List PyData} (h : atI ds i = some d) (r : R d Γ) : Ro Z (rIxT Z.K) (.tuple ds) (.int i) Γ R := fun F H σ v w S hv hw Q q => by
  cases hw
  cases hv with
  | tup hs ha =>
    obtain ⟨z, g1, g2⟩ := dpa_atI ha h
    exact ⟨_, _, i, z, rfl, rfl, sqT_same S.fh hs, g1, q z F H d Γ r (Same.refl _) S g2⟩
theorem o_ixL {ds : List PyData} (h : atI ds i = some d) (r : R d Γ) : Ro Z (rIxL Z.K) (.list ds) (.int i) Γ R := fun F H σ v w S hv hw Q q => by
  cases hw
  cases hv with
  | lst hs ha =>
    obtain ⟨z, g1, g2⟩ := dpa_atI ha h
    exact ⟨_, _, i, z, rfl, rfl, S.fh.seq hs, g1, q z F H d Γ r (Same.refl _) S g2⟩
theorem o_ixS {x : Str} {c : Nat} (hl : x.length ≤ sizeLine) (h : atI x.cps.toList i = some c) (r : R (.str ⟨#[c]⟩) Γ) : Ro Z rIxS (.str x) (.int i) Γ R := fun F H σ v w S hv hw Q q => by
  cases hw
  cases hv
  exact ⟨x, i, c, rfl, rfl, hl, h, q _ F H _ Γ r (Same.refl _) S (.str _)⟩
theorem e_ixO {k : Nat} (h : Ed Z tb Γ fun y Γ1 => ∃ i ds d, y = .int i ∧ cl Γ1 k = some (.lst ds) ∧ atI ds i = some d ∧ R d Γ1) (h0 : ∃ o, cl Γ k = some o) : Ed Z (tOp (rIxL Z.K) (tVar k) tb) Γ R := fun F H σ S Q q => by
  obtain ⟨o, ho⟩ := h0
  obtain ⟨p, u, g1, _⟩ := S.rd ho
  refine ⟨_, g1, h F H σ S _ fun w F' H' y Γ1 ⟨i, ds, d, e, c, a, r⟩ sF S' hw => ?_⟩
  subst e
  cases hw
  obtain ⟨p', vs, g2, g3, g4, _⟩ := S'.rdL c
  rw [g1] at g2
  injection g2 with g2
  injection g2 with g2
  injection g2 with g2
  subst g2
  obtain ⟨z, z1, z2⟩ := dpa_atI g4 a
  exact ⟨p, vs, i, z, rfl, rfl, SqL.of g3, z1, q z F' H' d Γ1 r sF S' z2⟩
theorem o_addS {x y : Str} (hl : x.length + y.length ≤ sizeLine) (r : R (.str (x ++ y)) Γ) : Ro Z (fun x y H Q => ∃ i j, x = .str i ∧ y = .str j ∧ i.length + j.length ≤ sizeLine ∧ Q (.str (i ++ j)) H) (.str x) (.str y) Γ R := fun F H σ v w S hv hw Q q => by
  cases hw
  cases hv
  exact ⟨x, y, rfl, rfl, hl, q _ F H _ Γ r (Same.refl _) S (.str _)⟩
/-! ### values in a tuple or list of flat things -/
def flatD : PyData → Bool
  | .none => true
  | .bool _ => true
  | .int _ => true
  | .str _ => true
  | _ => false
def flV : PyData → V
  | .bool b => .bl b
  | .int i => .int i
  | .str x => .str x
  | _ => .non
theorem flV_ok {K : PySem.W.Frag} {v : V} (h : Dq K F v d) (hf : flatD d = true) : v = flV d := by
  cases h <;> first | rfl | cases hf
theorem flVs_ok {K : PySem.W.Frag} : ∀ {vs : List V} {ds : List PyData}, DqAll K F vs ds → ds.all flatD = true → vs = ds.map flV
  | _, _, .nil, _ => rfl
  | _, _, .cons h a, c => by
    rw [List.all_cons] at c
    obtain ⟨c1, c2⟩ := Bool.and_eq_true_iff.mp c
    rw [List.map_cons, flV_ok h c1, flVs_ok a c2]
theorem flat_flV (h : flatD d = true) : flatV (flV d) = true := by
  cases d <;> first | rfl | cases h
theorem all_flV {ds : List PyData} (h : ds.all flatD = true) : (ds.map flV).all flatV = true := by
  induction ds with
  | nil => rfl
  | cons a r ih =>
    rw [List.all_cons] at h
    obtain ⟨c1, c2⟩ := Bool.and_eq_true_iff.mp h
    rw [List.map_cons, List.all_cons, flat_flV c1, ih c2] <;> rfl
def inD (x : PyData) (ds : List PyData) : Bool := inV (flV x) (ds.map flV)
theorem o_inT {ng : Bool} {x : PyData} {ds : List PyData} (hx : flatD x = true) (ha : ds.all flatD = true) (r : R (.bool (if ng then !inD x ds else inD x ds)) Γ) : Ro Z (rIn Z.K ng) x (.tuple ds) Γ R := fun F H σ v w S hv hw Q q => by
  cases hw with
  | tup hs hd =>
    rw [flV_ok hv hx]
    have e := flVs_ok hd ha
    subst e
    exact ⟨_, _, rfl, .inr (sqT_same S.fh hs), flat_flV hx, all_flV ha, q _ F H _ Γ r (Same.refl _) S (.bl _)⟩
theorem o_inL {ng : Bool} {x : PyData} {ds : List PyData} (hx : flatD x = true) (ha : ds.all flatD = true) (r : R (.bool (if ng then !inD x ds else inD x ds)) Γ) : Ro Z (rIn Z.K ng) x (.list ds) Γ R := fun F H σ v w S hv hw Q q => by
  cases hw with
  | lst hs hd =>
    rw [flV_ok hv hx]
    have e := flVs_ok hd ha
    subst e
    exact ⟨_, _, rfl, .inl (S.fh.seq hs), flat_flV hx, all_flV ha, q _ F H _ Γ r (Same.refl _) S (.bl _)⟩
/-! ### arguments, displays -/
theorem a_nil {R : List PyData → Gm → Prop} (r : R [] Γ) : Ea Z tNil Γ R := fun F H σ S Q q => q [] F H [] Γ r (Same.refl _) S .nil
theorem a_cons {R : List PyData → Gm → Prop} {tr : TA} (h : Ed Z te Γ fun d Γ1 => Ea Z tr Γ1 fun ds Γ2 => R (d :: ds) Γ2) : Ea Z (tCons te tr) Γ R := fun F H σ S Q q =>
  h F H σ S _ fun v F1 H1 d Γ1 hr s1 S1 hv => hr F1 H1 σ S1 _ fun vs F2 H2 ds Γ2 r s2 S2 hvs => q (v :: vs) F2 H2 (d :: ds) Γ2 r (s1.trans s2) S2 (.cons (dp_same s2 hv) hvs)
theorem e_tup {ta : TA} (h : Ea Z ta Γ fun ds Γ1 => ds.length ≤ 1000 ∧ R (.tuple ds) Γ1) : Ed Z (tTup ta) Γ R := fun F H σ S Q q =>
  h F H σ S _ fun vs F1 H1 ds Γ1 ⟨hl, r⟩ s1 S1 hvs => ⟨by rw [dpa_len hvs]; exact Nat.le_of_lt (small1000 hl), fun p hp => by
    have s2 : Same F1 (upd F1 p (.tup vs)) := upd_grow (S1.freeF hp)
    exact q (.ref p) _ _ _ Γ1 r (s1.trans s2) (S1.frozen hp _) (.tup (.inl (.inl upd_same)) (dpa_same s2 hvs))⟩
theorem n_lst {R : DO → Gm → Prop} {ta : TA} (h : Ea Z ta Γ fun ds Γ1 => ds.length ≤ 1000 ∧ R (.lst ds) Γ1) : En Z (tLst ta) Γ R := fun F H σ S Q q =>
  h F H σ S _ fun vs F1 H1 ds Γ1 ⟨hl, r⟩ s1 S1 hvs => ⟨by rw [dpa_len hvs]; exact Nat.le_of_lt (small1000 hl), fun p hp => by
    obtain ⟨S2, n⟩ := S1.laid (p := p) hp (u := .lst vs) (o := .lst ds) hvs
    exact q p F1 _ _ Γ1 r s1 S2 n⟩
theorem e_new (h : En Z te Γ fun o Γ1 => ∃ ds, o = .lst ds ∧ R (.list ds) Γ1) : Ed Z te Γ R := fun F H σ S Q q =>
  h F H σ S _ fun p F1 H1 o Γ1 ⟨ds, e, r⟩ s1 S1 n => by
    subst e
    obtain ⟨u, h1, h2, h3, S2⟩ := S1.freeze n
    cases u with
    | lst vs => exact q (.ref p) _ H1 _ Γ1 r (s1.trans h3) S2 (.lst (.inl (.inl upd_same)) (dpa_same h3 h2))
    | _ => exact h2.elim
theorem e_lst {ta : TA} (h : Ea Z ta Γ fun ds Γ1 => ds.length ≤ 1000 ∧ R (.list ds) Γ1) : Ed Z (tLst ta) Γ R :=
  e_new (n_lst fun F H σ S Q q => h F H σ S Q fun vs F' H' ds Γ' ⟨hl, r⟩ => q vs F' H' ds Γ' ⟨hl, ds, rfl, r⟩)
theorem e_dict0 (r : R (.dict []) Γ) : Ed Z tDNewK Γ R := fun F H σ S Q q p hp =>
  q (.ref p) _ _ _ Γ r (upd_grow (S.freeF hp)) (S.frozen hp _) (.dic (.inl upd_same))
theorem p_lst0 : Ep Z (tLst tNil) Γ (.list []) := fun F H σ S Q q => ⟨Nat.zero_le _, fun p hp =>
  q (.ref p) _ _ (upd_grow (S.freeF hp)) (upd_grow hp) (S.frozen hp _) (.lst (.inl (.inl upd_same)) .nil)⟩
theorem p_lst1 (h : Ep Z te Γ d) : Ep Z (tLst (tCons te tNil)) Γ (.list [d]) := fun F H σ S Q q =>
  h F H σ S _ fun v F1 H1 s1 sH S1 hv => ⟨by show 1 ≤ sizeLine; decide, fun p hp => by
    have s2 : Same F1 (upd F1 p (.lst [v])) := upd_grow (S1.freeF hp)
    exact q (.ref p) _ _ (s1.trans s2) (sH.trans (upd_grow hp)) (S1.frozen hp _) (.lst (.inl (.inl upd_same)) (dpa_one (dp_same s2 hv)))⟩
theorem p_op {f : Int → Int → Int} (ha : Ep Z ta Γ (.int i)) (hb : Ep Z tb Γ (.int j)) : Ep Z (tOp (rI0 fun i j => .int (f i j)) ta tb) Γ (.int (f i j)) := fun F H σ S Q q =>
  ha F H σ S _ fun v F1 H1 s1 sH S1 hv => hb F1 H1 σ S1 _ fun w F2 H2 s2 sH2 S2 hw => by
    cases hv
    cases hw
    exact ⟨i, j, rfl, rfl, q _ F2 H2 (s1.trans s2) (sH.trans sH2) S2 (.int _)⟩
/-! ### built-ins by values -/
def Rc (Z : Zx) (r : List V → Hp → VK → Prop) (xs : List PyData) (Γ : Gm) (R : PyData → Gm → Prop) : Prop := ∀ F H σ vs, Sta Z F H σ Γ → DqAll Z.K F vs xs → ∀ Q : VK, (∀ z F' H' d Γ', R d Γ' → Same F F' → Sta Z F' H' σ Γ' → Dq Z.K F' z d → Q z H') → r vs H Q
theorem e_cb {r : List V → Hp → VK → Prop} {ta : TA} (h : Ea Z ta Γ fun xs Γ1 => Rc Z r xs Γ1 R) : Ed Z (tCB r ta) Γ R := fun F H σ S Q q =>
  h F H σ S _ fun vs F1 H1 ds Γ1 hr s1 S1 hvs => hr F1 H1 σ vs S1 hvs Q fun z F2 H2 d Γ2 r s2 S2 hz => q z F2 H2 d Γ2 r (s1.trans s2) S2 hz
theorem c_lenS {x : Str} (hl : x.length ≤ sizeLine) (r : R (.int x.length) Γ) : Rc Z (fun xs H Q => ∃ z, xs = [.str z] ∧ z.length ≤ sizeLine ∧ Q (.int z.length) H) [.str x] Γ R := fun F H σ vs S hv Q q => by
  cases hv with
  | cons h a =>
    cases h
    cases a
    exact ⟨x, rfl, hl, q _ F H _ Γ r (Same.refl _) S (.int _)⟩
theorem c_lenL {ds : List PyData} (r : R (.int ds.length) Γ) : Rc Z (fun xs H Q => ∃ p ys, xs = [.ref p] ∧ (SqL Z.K H p ys ∨ SqT Z.K H p ys) ∧ Q (.int ys.length) H) [.list ds] Γ R := fun F H σ vs S hv Q q => by
  cases hv with
  | cons h a =>
    cases a
    cases h with
    | lst hs hd =>
      refine ⟨_, _, rfl, .inl (S.fh.seq hs), ?_⟩
      rw [dpa_len hd]
      exact q _ F H _ Γ r (Same.refl _) S (.int _)
theorem c_lenT {ds : List PyData} (r : R (.int ds.length) Γ) : Rc Z (fun xs H Q => ∃ p ys, xs = [.ref p] ∧ (SqL Z.K H p ys ∨ SqT Z.K H p ys) ∧ Q (.int ys.length) H) [.tuple ds] Γ R := fun F H σ vs S hv Q q => by
  cases hv with
  | cons h a =>
    cases a
    cases h with
    | tup hs hd =>
      refine ⟨_, _, rfl, .inr (sqT_same S.fh hs), ?_⟩
      rw [dpa_len hd]
      exact q _ F H _ Γ r (Same.refl _) S (.int _)
theorem e_lenO {k : Nat} {ds : List PyData} (hc : cl Γ k = some (.lst ds)) (r : R (.int ds.length) Γ) : Ed Z (tCB (fun xs H Q => ∃ p ys, xs = [.ref p] ∧ (SqL Z.K H p ys ∨ SqT Z.K H p ys) ∧ Q (.int ys.length) H) (tCons (tVar k) tNil)) Γ R := fun F H σ S Q q => by
  obtain ⟨p, vs, g1, g2, g3, _⟩ := S.rdL hc
  refine ⟨_, g1, p, vs, rfl, .inl (SqL.of g2), ?_⟩
  rw [dpa_len g3]
  exact q _ F H _ Γ r (Same.refl _) S (.int _)
theorem c_intB {b : Bool} (r : R (.int (if b then 1 else 0)) Γ) : Rc Z (fun xs H Q => (∃ i, xs = [.int i] ∧ Q (.int i) H) ∨ ∃ k, xs = [.bl k] ∧ Q (.int (if k then 1 else 0)) H) [.bool b] Γ R := fun F H σ vs S hv Q q => by
  cases hv with
  | cons h a =>
    cases h
    cases a
    exact .inr ⟨b, rfl, q _ F H _ Γ r (Same.refl _) S (.int _)⟩
theorem c_all {bs : List Bool} (r : R (.bool (bs.all id)) Γ) : Rc Z (rAll Z.K) [.list (bs.map PyData.bool)] Γ R := fun F H σ vs S hv Q q => by
  cases hv with
  | cons h a =>
    cases a
    cases h with
    | lst hs hd =>
      have e := bools_dpa hd
      subst e
      exact ⟨_, bs, rfl, S.fh.seq hs, q _ F H _ Γ r (Same.refl _) S (.bl _)⟩
theorem c_any {bs : List Bool} (r : R (.bool (bs.any id)) Γ) : Rc Z (rAny Z.K) [.list (bs.map PyData.bool)] Γ R := fun F H σ vs S hv Q q => by
  cases hv with
  | cons h a =>
    cases a
    cases h with
    | lst hs hd =>
      have e := bools_dpa hd
      subst e
      exact ⟨_, bs, rfl, S.fh.seq hs, q _ F H _ Γ r (Same.refl _) S (.bl _)⟩
/-! ### isinstance with a built-in class -/
def tyD : PyData → String
  | .none => "NoneType"
  | .bool _ => "bool"
  | .int _ => "int"
  | .str _ => "str"
  | .list _ => "list"
  | .tuple _ => "tuple"
  | .dict _ => "dict"
theorem tyX_of {K : PySem.W.Frag} {v : V} (S : Same F H) (h : Dq K F v d) : TyX K H v (.type (tyD d)) := by
  have h' := dp_same S h
  cases h' with
  | non => exact .base .non
  | bl b => exact .base (.bl b)
  | int i => exact .base (.int i)
  | str x => exact .base (.str x)
  | dic hr =>
    rcases hr with hr | ⟨o, hr⟩
    · exact .base (.dK hr)
    · exact .fDict hr
  | lst hs _ =>
    rcases hs with (hs | ⟨o, hs⟩) | ⟨o, _, _, h1, h2, _⟩
    · exact .base (.lst hs)
    · exact .base (.frz hs)
    · exact .kList h1 h2
  | tup hs _ =>
    rcases hs with (hs | ⟨o, hs⟩) | ⟨o, _, _, h1, h2, _⟩
    · exact .base (.tup hs)
    · exact .fTuple hs
    · exact .kTuple h1 h2
def tTy (n : String) : TE := tC (.ty n)
theorem e_isi {n : String} {b : Bool} (h : Ed Z ta Γ fun d Γ1 => ∃ b, PySem.W.kitOne Z.K (.type (tyD d)) (.type n) = some b ∧ R (.bool b) Γ1) : Ed Z (tCB (rIsi Z.K) (tCons ta (tCons (tC (.ty n)) tNil))) Γ R := fun F H σ S Q q =>
  h F H σ S _ fun v F1 H1 d Γ1 ⟨b, hb, r⟩ s1 S1 hv => ⟨v, .ty n, .type (tyD d), .type n, b, rfl, .ty n, tyX_of S1.fh hv, hb, q _ F1 H1 _ Γ1 r s1 S1 (.bl b)⟩
/-! ### slices -/
def cutD (ds : List PyData) (lo hi : Option Int) : List PyData := (ds.drop (HT.sIx ds.length 0 lo)).take (HT.sIx ds.length ds.length hi - HT.sIx ds.length 0 lo)
def Eo (Z : Zx) (to : TO) (Γ : Gm) (R : Option Int → Gm → Prop) : Prop := ∀ F H σ, Sta Z F H σ Γ → ∀ Q : Option Int → Hp → Prop, (∀ o F' H' Γ', R o Γ' → Same F F' → Sta Z F' H' σ Γ' → Q o H') → to σ H Q
theorem o_no {R : Option Int → Gm → Prop} (r : R none Γ) : Eo Z tNoPart Γ R := fun F H σ S Q q => q none F H Γ r (Same.refl _) S
theorem o_so {R : Option Int → Gm → Prop} (h : Ed Z te Γ fun d Γ1 => ∃ i, d = .int i ∧ R (some i) Γ1) : Eo Z (tPart te) Γ R := fun F H σ S Q q =>
  h F H σ S _ fun v F1 H1 d Γ1 ⟨i, e, r⟩ s1 S1 hv => by
    subst e
    cases hv
    exact ⟨i, rfl, q _ F1 H1 Γ1 r s1 S1⟩
theorem e_slS {tl th : TO} (h : Ed Z te Γ fun d Γ1 => ∃ x, d = .str x ∧ x.length ≤ sizeLine ∧ Eo Z tl Γ1 fun lo Γ2 => Eo Z th Γ2 fun hi Γ3 => R (.str (cutS x lo hi)) Γ3) : Ed Z (tSl rSlS te tl th) Γ R := fun F H σ S Q q =>
  h F H σ S _ fun v F1 H1 d Γ1 ⟨x, e, hl, h2⟩ s1 S1 hv => by
    subst e
    cases hv
    exact h2 F1 H1 σ S1 _ fun lo F2 H2 Γ2 h3 s2 S2 => h3 F2 H2 σ S2 _ fun hi F3 H3 Γ3 r s3 S3 => ⟨x, rfl, hl, q _ F3 H3 _ Γ3 r ((s1.trans s2).trans s3) S3 (.str _)⟩
theorem dpa_cut {K : PySem.W.Frag} {vs : List V} {ds : List PyData} {lo hi : Option Int} (a : DqAll K F vs ds) : DqAll K F (cutV vs lo hi) (cutD ds lo hi) := by
  unfold cutV cutD
  rw [dpa_len a]
  exact dpa_take _ (dpa_drop _ a)
theorem n_slL {R : DO → Gm → Prop} {tl th : TO} (h : Ed Z te Γ fun d Γ1 => ∃ ds, d = .list ds ∧ Eo Z tl Γ1 fun lo Γ2 => Eo Z th Γ2 fun hi Γ3 => R (.lst (cutD ds lo hi)) Γ3) : En Z (tSl (rSlL Z.K) te tl th) Γ R := fun F H σ S Q q =>
  h F H σ S _ fun v F1 H1 d Γ1 ⟨ds, e, h2⟩ s1 S1 hv => by
    subst e
    exact h2 F1 H1 σ S1 _ fun lo F2 H2 Γ2 h3 s2 S2 => h3 F2 H2 σ S2 _ fun hi F3 H3 Γ3 r s3 S3 => by
      have s13 := s2.trans s3
      cases dp_same s13 hv with
      | lst hs hd =>
        refine ⟨_, _, rfl, S3.fh.seq hs, fun p hp => ?_⟩
        obtain ⟨S4, n⟩ := S3.laid (p := p) hp (u := .lst (cutV _ lo hi)) (o := .lst (cutD ds lo hi)) (dpa_cut hd)
        exact q p F3 _ _ Γ3 r (s1.trans s13) S4 n
/-- a new list, frozen, that the heap tracks -/
def El (Z : Zx) (te : TE) (Γ : Gm) (R : List PyData → Gm → Prop) : Prop := ∀ F H σ, Sta Z F H σ Γ → ∀ Q : VK, (∀ p vs F' H' ds Γ', R ds Γ' → Same F F' → Sta Z F' H' σ Γ' → F' p = some (.lst vs) → DqAll Z.K F' vs ds → Q (.ref p) H') → te σ H Q
theorem l_new {R : List PyData → Gm → Prop} (h : En Z te Γ fun o Γ1 => ∃ ds, o = .lst ds ∧ R ds Γ1) : El Z te Γ R := fun F H σ S Q q =>
  h F H σ S _ fun p F1 H1 o Γ1 ⟨ds, e, r⟩ s1 S1 n => by
    subst e
    obtain ⟨u, h1, h2, h3, S2⟩ := S1.freeze n
    cases u with
    | lst vs => exact q p vs _ H1 _ Γ1 r (s1.trans h3) S2 upd_same (dpa_same h3 h2)
    | _ => exact h2.elim
theorem n_cat {R : DO → Gm → Prop} (h : El Z ta Γ fun ds Γ1 => El Z tb Γ1 fun es Γ2 => ds.length + es.length ≤ 100000 ∧ R (.lst (ds ++ es)) Γ2) : En Z (tOp rCat ta tb) Γ R := fun F H σ S Q q =>
  h F H σ S _ fun p vs F1 H1 ds Γ1 h2 s1 S1 hp hv => h2 F1 H1 σ S1 _ fun p2 ws F2 H2 es Γ2 ⟨hl, r⟩ s2 S2 hp2 hw => by
    have g1 : H2 p = some (.lst vs) := S2.fh _ _ (s2 _ _ hp)
    have g2 : H2 p2 = some (.lst ws) := S2.fh _ _ hp2
    have hz : vs.length + ws.length ≤ sizeLine := by
      rw [dpa_len hv, dpa_len hw]
      exact Nat.le_trans hl (by decide)
    refine ⟨p, p2, vs, ws, rfl, rfl, g1, g2, hz, fun l hl' => ?_⟩
    obtain ⟨S4, n⟩ := S2.laid (p := l) hl' (u := .lst (vs ++ ws)) (o := .lst (ds ++ es)) (dpa_app (dpa_same s2 hv) hw)
    exact q l F2 _ _ Γ2 r (s1.trans s2) S4 n
theorem n_catO {R : DO → Gm → Prop} {k : Nat} (h0 : ∃ o, cl Γ k = some o) (h : El Z tb Γ fun es Γ2 => ∃ ds, cl Γ2 k = some (.lst ds) ∧ ds.length + es.length ≤ 100000 ∧ R (.lst (ds ++ es)) Γ2) : En Z (tOp rCat (tVar k) tb) Γ R := fun F H σ S Q q => by
  obtain ⟨o, ho⟩ := h0
  obtain ⟨p, u, g1, _⟩ := S.rd ho
  refine ⟨_, g1, h F H σ S _ fun p2 ws F2 H2 es Γ2 ⟨ds, hc, hl, r⟩ s2 S2 hp2 hw => ?_⟩
  obtain ⟨p', vs, g2, g3, g4, _⟩ := S2.rdL hc
  rw [g1] at g2
  injection g2 with g2
  injection g2 with g2
  injection g2 with g2
  subst g2
  have hz : vs.length + ws.length ≤ sizeLine := by
    rw [dpa_len g4, dpa_len hw]
    exact Nat.le_trans hl (by decide)
  refine ⟨p, p2, vs, ws, rfl, rfl, g3, S2.fh _ _ hp2, hz, fun l hl' => ?_⟩
  obtain ⟨S4, n⟩ := S2.laid (p := l) hl' (u := .lst (vs ++ ws)) (o := .lst (ds ++ es)) (dpa_app g4 hw)
  exact q l F2 _ _ Γ2 r s2 S4 n
/-! ### tests -/
variable {RB : Bool → Gm → Prop} {t u : TT}
theorem Et.imp {R' : Bool → Gm → Prop} (h : Et Z t Γ RB) (hi : ∀ b Γ', RB b Γ' → R' b Γ') : Et Z t Γ R' := fun F H σ S Q q => h F H σ S Q fun b F' H' Γ' r => q b F' H' Γ' (hi b Γ' r)
theorem t_test (h : Ed Z te Γ fun d Γ1 => ∃ b, d = .bool b ∧ RB b Γ1) : Et Z (tTest te) Γ RB := fun F H σ S Q q =>
  h F H σ S _ fun v F1 H1 d Γ1 ⟨b, e, r⟩ s1 S1 hv => by
    subst e
    cases hv
    exact ⟨b, rfl, q b F1 H1 Γ1 r s1 S1⟩
theorem t_B (h : Ed Z te Γ fun d Γ1 => ∃ b, d = .bool b ∧ RB b Γ1) : Et Z (tB te) Γ RB := fun F H σ S Q q =>
  h F H σ S _ fun v F1 H1 d Γ1 ⟨b, e, r⟩ s1 S1 hv => by
    subst e
    cases hv
    exact ⟨b, rfl, q b F1 H1 Γ1 r s1 S1⟩
theorem t_and (h : Et Z t Γ fun b Γ1 => (b = true → Et Z u Γ1 RB) ∧ (b = false → RB false Γ1)) : Et Z (tAnd t u) Γ RB := fun F H σ S Q q =>
  h F H σ S _ fun b F1 H1 Γ1 ⟨h1, h2⟩ s1 S1 => by
    cases b with
    | true => exact iteT (h1 rfl F1 H1 σ S1 Q fun b F' H' Γ' r s => q b F' H' Γ' r (s1.trans s))
    | false => exact iteF (q false F1 H1 Γ1 (h2 rfl) s1 S1)
theorem t_or (h : Et Z t Γ fun b Γ1 => (b = false → Et Z u Γ1 RB) ∧ (b = true → RB true Γ1)) : Et Z (tOr t u) Γ RB := fun F H σ S Q q =>
  h F H σ S _ fun b F1 H1 Γ1 ⟨h1, h2⟩ s1 S1 => by
    cases b with
    | false => exact iteF (h1 rfl F1 H1 σ S1 Q fun b F' H' Γ' r s => q b F' H' Γ' r (s1.trans s))
    | true => exact iteT (q true F1 H1 Γ1 (h2 rfl) s1 S1)
theorem t_not (h : Et Z t Γ fun b Γ1 => RB (!b) Γ1) : Et Z (tNot t) Γ RB := fun F H σ S Q q => h F H σ S _ fun b F1 H1 Γ1 r s1 S1 => q (!b) F1 H1 Γ1 r s1 S1
end
end Dl

set_option Elab.async false
set_option linter.all false
set_option autoImplicit false
set_option maxRecDepth 100000
set_option maxHeartbeats 4000000
namespace Dl
open PySem PySem.Spec PyProof.Rows L2
/-! ### statements over data -/
inductive RV where
  | fz (d : PyData)
  | new (o : DO)
structure DE where
  nx : Gm → Prop
  rt : RV → Gm → Prop
  bk : Gm → Prop := fun _ => False
  ct : Gm → Prop := fun _ => False
def RvOk (Z : Zx) (F H : Hp) (σ : St) (Γ : Gm) (v : V) : RV → Prop
  | .fz d => Dq Z.K F v d
  | .new o => ∃ p, v = .ref p ∧ New Z F H σ Γ p o
def Sd (Z : Zx) (t : TS) (Γ : Gm) (E : DE) : Prop := ∀ F H σ, Sta Z F H σ Γ → ∀ D : Ends,
  (∀ F' H' σ' Γ', E.nx Γ' → Same F F' → Sta Z F' H' σ' Γ' → D.nx σ' H') →
  (∀ v F' H' σ' rv Γ', E.rt rv Γ' → Same F F' → Sta Z F' H' σ' Γ' → RvOk Z F' H' σ' Γ' v rv → D.rt v H') →
  (∀ F' H' σ' Γ', E.bk Γ' → Same F F' → Sta Z F' H' σ' Γ' → D.bk σ' H') →
  (∀ F' H' σ' Γ', E.ct Γ' → Same F F' → Sta Z F' H' σ' Γ' → D.ct σ' H') → t D σ H
section
variable {Z : Zx} {Γ : Gm} {E : DE} {ta tb te : TE} {t u : TS} {tc : TT} {F H : Hp} {σ : St}
theorem s_seq (h : Sd Z t Γ { E with nx := fun Γ1 => Sd Z u Γ1 E }) : Sd Z (tSeq t u) Γ E := fun F H σ S D n r b c =>
  h F H σ S { D with nx := u D } (fun F' H' σ' Γ' hu s S' => hu F' H' σ' S' D (fun F2 H2 σ2 Γ2 e s2 => n F2 H2 σ2 Γ2 e (s.trans s2)) (fun v F2 H2 σ2 rv Γ2 e s2 => r v F2 H2 σ2 rv Γ2 e (s.trans s2)) (fun F2 H2 σ2 Γ2 e s2 => b F2 H2 σ2 Γ2 e (s.trans s2)) (fun F2 H2 σ2 Γ2 e s2 => c F2 H2 σ2 Γ2 e (s.trans s2))) r b c
theorem s_cut {M : Gm → Prop} (h : Sd Z t Γ { E with nx := M }) (k : ∀ Γ1, M Γ1 → Sd Z u Γ1 E) : Sd Z (tSeq t u) Γ E := s_seq fun F H σ S D n r b c => h F H σ S D (fun F' H' σ' Γ' m => n F' H' σ' Γ' (k Γ' m)) r b c
theorem Sd.imp {E' : DE} (h : Sd Z t Γ E) (h1 : ∀ Γ', E.nx Γ' → E'.nx Γ') (h2 : ∀ rv Γ', E.rt rv Γ' → E'.rt rv Γ') (h3 : ∀ Γ', E.bk Γ' → E'.bk Γ') (h4 : ∀ Γ', E.ct Γ' → E'.ct Γ') : Sd Z t Γ E' := fun F H σ S D n r b c =>
  h F H σ S D (fun F' H' σ' Γ' e => n F' H' σ' Γ' (h1 _ e)) (fun v F' H' σ' rv Γ' e => r v F' H' σ' rv Γ' (h2 _ _ e)) (fun F' H' σ' Γ' e => b F' H' σ' Γ' (h3 _ e)) (fun F' H' σ' Γ' e => c F' H' σ' Γ' (h4 _ e))
theorem s_next (h : E.nx Γ) : Sd Z tNext Γ E := fun F H σ S D n _ _ _ => n F H σ Γ h (Same.refl _) S
theorem s_brk (h : E.bk Γ) : Sd Z tBreak Γ E := fun F H σ S D _ _ b _ => b F H σ Γ h (Same.refl _) S
theorem s_cont (h : E.ct Γ) : Sd Z tCont Γ E := fun F H σ S D _ _ _ c => c F H σ Γ h (Same.refl _) S
theorem s_set {i : Nat} (h : Ed Z te Γ fun d Γ1 => E.nx (Γ1.set i (some (.fz d)))) : Sd Z (tAsg te (gName i)) Γ E := fun F H σ S D n _ _ _ =>
  h F H σ S _ fun v F' H' d Γ' e s S' hv => n F' H' _ _ e s (S'.put hv)
theorem s_setN {i : Nat} (h : En Z te Γ fun o Γ1 => E.nx (Γ1.set i (some (.own o)))) : Sd Z (tAsg te (gName i)) Γ E := fun F H σ S D n _ _ _ =>
  h F H σ S _ fun p F' H' o Γ' e s S' hn => n F' H' _ _ e s (S'.putN hn)
theorem s_if (h : Et Z tc Γ fun b Γ1 => (b = true → Sd Z t Γ1 E) ∧ (b = false → Sd Z u Γ1 E)) : Sd Z (tIfS tc t u) Γ E := fun F H σ S D n r b c =>
  h F H σ S _ fun k F' H' Γ' ⟨h1, h2⟩ s S' => by
    have go : ∀ {t : TS}, Sd Z t Γ' E → t D σ H' := fun {t} h => h F' H' σ S' D (fun F2 H2 σ2 Γ2 e s2 => n F2 H2 σ2 Γ2 e (s.trans s2)) (fun v F2 H2 σ2 rv Γ2 e s2 => r v F2 H2 σ2 rv Γ2 e (s.trans s2)) (fun F2 H2 σ2 Γ2 e s2 => b F2 H2 σ2 Γ2 e (s.trans s2)) (fun F2 H2 σ2 Γ2 e s2 => c F2 H2 σ2 Γ2 e (s.trans s2))
    cases k with
    | true => exact iteT (go (h1 rfl))
    | false => exact iteF (go (h2 rfl))
theorem s_ret (h : Ed Z te Γ fun d Γ1 => E.rt (.fz d) Γ1) : Sd Z (tRet te) Γ E := fun F H σ S D _ r _ _ => h F H σ S _ fun v F' H' d Γ' e s S' hv => r v F' H' σ (.fz d) Γ' e s S' hv
theorem s_retNew (h : En Z te Γ fun o Γ1 => E.rt (.new o) Γ1) : Sd Z (tRet te) Γ E := fun F H σ S D _ r _ _ => h F H σ S _ fun p F' H' o Γ' e s S' hn => r (.ref p) F' H' σ (.new o) Γ' e s S' ⟨p, rfl, hn⟩
theorem s_retO {k : Nat} {o : DO} (hk : Γ[k]? = some (some (.own o))) (h : E.rt (.new o) (Γ.set k none)) : Sd Z (tRet (tVar k)) Γ E := fun F H σ S D _ r _ _ => by
  obtain ⟨p, h1, n⟩ := S.take hk
  exact ⟨_, h1, r (.ref p) F H σ (.new o) _ h (Same.refl _) S.drop ⟨p, rfl, n⟩⟩
theorem s_retN (h : E.rt (.fz .none) Γ) : Sd Z tRetN Γ E := fun F H σ S D _ r _ _ => r .non F H σ (.fz .none) Γ h (Same.refl _) S .non
theorem s_drop (h : Ed Z te Γ fun _ Γ1 => E.nx Γ1) : Sd Z (tDrop te) Γ E := fun F H σ S D n _ _ _ => h F H σ S _ fun v F' H' d Γ' e s S' hv => n F' H' σ Γ' e s S'
theorem s_never : False → Sd Z tNever Γ E := False.elim
/-- an own list is frozen where it stands -/
theorem s_frz {k : Nat} {ds : List PyData} (hk : Γ[k]? = some (some (.own (.lst ds)))) (h : Sd Z t (Γ.set k (some (.fz (.list ds)))) E) : Sd Z t Γ E := fun F H σ S D n r b c => by
  obtain ⟨p, h1, nw⟩ := S.take hk
  obtain ⟨w, g1, g2, g3, S2⟩ := S.drop.freeze nw
  cases w with
  | lst vs =>
    have S3 := S2.put (i := k) (v := .ref p) (d := .list ds) (.lst (.inl (.inl upd_same)) (dpa_same g3 g2))
    have hl : k < σ.length := (List.getElem?_eq_some_iff.mp h1).1
    have e1 : σ.set k (some (.ref p)) = σ := by
      apply List.ext_getElem?
      intro j
      by_cases hj : k = j
      · subst hj
        rw [get_set_eq hl, h1]
      · rw [get_set_ne hj]
    have e2 : (Γ.set k none).set k (some (Ent.fz (.list ds))) = Γ.set k (some (.fz (.list ds))) := List.set_set ..
    rw [e1, e2] at S3
    exact h _ H σ S3 D (fun F2 H2 σ2 Γ2 e s2 => n F2 H2 σ2 Γ2 e (g3.trans s2)) (fun v F2 H2 σ2 rv Γ2 e s2 => r v F2 H2 σ2 rv Γ2 e (g3.trans s2)) (fun F2 H2 σ2 Γ2 e s2 => b F2 H2 σ2 Γ2 e (g3.trans s2)) (fun F2 H2 σ2 Γ2 e s2 => c F2 H2 σ2 Γ2 e (g3.trans s2))
  | _ => exact g2.elim
/-- a slot is forgotten -/
theorem s_forget {k : Nat} (h : Sd Z t (Γ.set k none) E) : Sd Z t Γ E := fun F H σ S => h F H σ S.drop
/-! ### list methods on a cell -/
theorem e_pop {R : PyData → Gm → Prop} {k : Nat} {ds : List PyData} {d : PyData} (hc : cl Γ k = some (.lst (ds ++ [d]))) (r : R d (wr Γ k (.lst ds))) : Ed Z (tBM0 Z.K "list" rPop (tVar k)) Γ R := fun F H σ S Q q => by
  obtain ⟨p, vs, g1, g2, g3, g4⟩ := S.rdL hc
  have ln := dpa_len g3
  rw [List.length_append, List.length_singleton] at ln
  obtain ⟨v, hv, hd⟩ := dpa_get (i := ds.length) g3 (by rw [List.getElem?_append_right (Nat.le_refl _), Nat.sub_self]; rfl)
  have e : vs[vs.length - 1]? = some v := by
    rw [ln, Nat.add_sub_cancel]
    exact hv
  have dl := dpa_dropLast g3
  rw [List.dropLast_concat] at dl
  exact ⟨_, g1, .inl ⟨rfl, vs, SqL.of g2⟩, p, vs, v, rfl, rfl, g2, e, q v F _ d _ r (Same.refl _) (g4 _ _ dl) hd⟩
theorem s_app {k : Nat} (h0 : ∃ ds, cl Γ k = some (.lst ds)) (h : Ed Z te Γ fun d Γ1 => ∃ ds, cl Γ1 k = some (.lst ds) ∧ ds.length < 100000 ∧ E.nx (wr Γ1 k (.lst (ds ++ [d])))) : Sd Z (tDrop (tBM Z.K "list" rAppend (tVar k) (tCons te tNil))) Γ E := fun F H σ S D n _ _ _ => by
  obtain ⟨ds0, hc0⟩ := h0
  obtain ⟨p, vs0, g1, g2, _⟩ := S.rdL hc0
  refine ⟨_, g1, .inl ⟨rfl, vs0, SqL.of g2⟩, h F H σ S _ fun v F' H' d Γ1 ⟨ds, hc, hl, e⟩ s S' hv => ?_⟩
  obtain ⟨p', vs, g3, g4, g5, g6⟩ := S'.rdL hc
  rw [g1] at g3
  injection g3 with g3
  injection g3 with g3
  injection g3 with g3
  subst g3
  exact ⟨p, vs, v, rfl, rfl, g4, by rw [dpa_len g5]; exact Nat.lt_of_lt_of_le hl (by decide), n F' _ σ _ e s (g6 _ _ (dpa_app g5 (dpa_one hv)))⟩
theorem s_rev {k : Nat} {ds : List PyData} (hc : cl Γ k = some (.lst ds)) (h : E.nx (wr Γ k (.lst ds.reverse))) : Sd Z (tDrop (tBM0 Z.K "list" rReverse (tVar k))) Γ E := fun F H σ S D n _ _ _ => by
  obtain ⟨p, vs, g1, g2, g3, g4⟩ := S.rdL hc
  exact ⟨_, g1, .inl ⟨rfl, vs, SqL.of g2⟩, p, vs, rfl, rfl, g2, n F _ σ _ h (Same.refl _) (g4 _ _ (dpa_rev g3))⟩
theorem s_clear {k : Nat} {ds : List PyData} (hc : cl Γ k = some (.lst ds)) (h : E.nx (wr Γ k (.lst []))) : Sd Z (tDrop (tBM0 Z.K "list" rClear (tVar k))) Γ E := fun F H σ S D n _ _ _ => by
  obtain ⟨p, vs, g1, g2, g3, g4⟩ := S.rdL hc
  exact ⟨_, g1, .inl ⟨rfl, vs, SqL.of g2⟩, p, vs, rfl, rfl, g2, n F _ σ _ h (Same.refl _) (g4 _ _ .nil)⟩
theorem ixN_lt {n j : Nat} {i : Int} (h : ixN n i = some j) : j < n := (ixN_seq h).2.1
/-- cell[i] = e -/
theorem s_setI {k : Nat} {ti : TE} (h0 : ∃ o, cl Γ k = some o) (h : Ed Z te Γ fun d Γ1 => (∃ o, cl Γ1 k = some o) ∧ Ed Z ti Γ1 fun y Γ2 => ∃ i j ds, y = .int i ∧ cl Γ2 k = some (.lst ds) ∧ ixN ds.length i = some j ∧ E.nx (wr Γ2 k (.lst (ds.set j d)))) : Sd Z (tAsg te (gSub (tVar k) ti rSetL)) Γ E := fun F H σ S D n _ _ _ =>
  h F H σ S _ fun v F1 H1 d Γ1 ⟨⟨o1, c1⟩, h2⟩ s1 S1 hv => by
    obtain ⟨p, u, g1, _⟩ := S1.rd c1
    refine ⟨_, g1, h2 F1 H1 σ S1 _ fun w F2 H2 y Γ2 ⟨i, j, ds, ey, c2, hj, e⟩ s2 S2 hw => ?_⟩
    subst ey
    cases hw
    obtain ⟨p', vs, g3, g4, g5, g6⟩ := S2.rdL c2
    rw [g1] at g3
    injection g3 with g3
    injection g3 with g3
    injection g3 with g3
    subst g3
    exact ⟨p, vs, i, j, rfl, rfl, g4, by rw [dpa_len g5]; exact hj, n F2 _ σ _ e (s1.trans s2) (g6 _ _ (dpa_set j g5 (dp_same s2 hv)))⟩
/-! ### targets -/
def Gt (Z : Zx) (g : TG) (d : PyData) (Γ : Gm) (R : Gm → Prop) : Prop := ∀ F H σ v, Sta Z F H σ Γ → Dq Z.K F v d → ∀ Q : St → Hp → Prop, (∀ σ' Γ', R Γ' → Sta Z F H σ' Γ' → Q σ' H) → g v σ H Q
theorem g_name {i : Nat} {d : PyData} {R : Gm → Prop} (r : R (Γ.set i (some (.fz d)))) : Gt Z (gName i) d Γ R := fun F H σ v S hv Q q => q _ _ r (S.put hv)
def Gs (Z : Zx) (g : TGs) (ds : List PyData) (Γ : Gm) (R : Gm → Prop) : Prop := ∀ F H σ vs, Sta Z F H σ Γ → DqAll Z.K F vs ds → ∀ Q : St → Hp → Prop, (∀ σ' Γ', R Γ' → Sta Z F H σ' Γ' → Q σ' H) → g vs σ H Q
theorem gs_nil {R : Gm → Prop} (r : R Γ) : Gs Z gNil [] Γ R := fun F H σ vs S hv Q q => by
  cases hv
  exact ⟨rfl, q σ Γ r S⟩
theorem gs_cons {g : TG} {gr : TGs} {d : PyData} {ds : List PyData} {R : Gm → Prop} (h : Gt Z g d Γ fun Γ1 => Gs Z gr ds Γ1 R) : Gs Z (gCons g gr) (d :: ds) Γ R := fun F H σ vs S hv Q q => by
  cases hv with
  | cons h1 h2 => exact ⟨_, _, rfl, h F H σ _ S h1 _ fun σ' Γ' hr S' => hr F H σ' _ S' h2 Q q⟩
theorem g_tup {n : Nat} {gr : TGs} {ds : List PyData} {R : Gm → Prop} (hn : ds.length = n) (h : Gs Z gr ds Γ R) : Gt Z (gTup Z.K n gr) (.tuple ds) Γ R := fun F H σ v S hv Q q => by
  cases hv with
  | tup hs hd => exact ⟨_, _, rfl, sqT_same S.fh hs, by rw [dpa_len hd]; exact hn, h F H σ _ S hd Q q⟩
theorem s_asgT {n : Nat} {gr : TGs} (h : Ed Z te Γ fun d Γ1 => Gt Z (gTup Z.K n gr) d Γ1 E.nx) : Sd Z (tAsg te (gTup Z.K n gr)) Γ E := fun F H σ S D nx _ _ _ =>
  h F H σ S _ fun v F' H' d Γ' hg s S' hv => hg F' H' σ v S' hv _ fun σ' Γ2 e S2 => nx F' H' σ' Γ2 e s S2
/-! ### iterators -/
structure WalkD (K : PySem.W.Frag) (F1 : Hp) (J : It) (ds : List PyData) : Prop where
  go : ∀ (i : Nat) F H, Same F1 F → Same F H → i < ds.length → J.go i H
  stop : ∀ F H, Same F1 F → Same F H → J.stop ds.length H
  yld : ∀ (i : Nat) d v H' F H, Same F1 F → Same F H → ds[i]? = some d → J.yld i H v H' → (H' = H ∧ Dq K F v d) ∨ ∃ T vs es, v = .ref T ∧ H T = none ∧ H' = upd H T (.tup vs) ∧ d = .tuple es ∧ DqAll K F vs es
theorem WalkD.next {K : PySem.W.Frag} {F1 H' : Hp} {J : It} {ds : List PyData} (w : WalkD K F1 J ds) (hK : Z.K = K) {i : Nat} {d : PyData} {v : V} (S : Sta Z F H σ Γ) (e : Same F1 F) (hd : ds[i]? = some d) (hy : J.yld i H v H') : ∃ F', Same F F' ∧ Sta Z F' H' σ Γ ∧ Dq Z.K F' v d := by
  subst hK
  rcases w.yld i d v H' F H e S.fh hd hy with ⟨rfl, h⟩ | ⟨T, vs, es, rfl, hT, rfl, rfl, h⟩
  · exact ⟨F, Same.refl _, S, h⟩
  · have s2 : Same F (upd F T (.tup vs)) := upd_grow (S.freeF hT)
    exact ⟨_, s2, S.frozen hT _, .tup (.inl (.inl upd_same)) (dpa_same s2 h)⟩
def Ei (Z : Zx) (wi : TI) (Γ : Gm) (R : List PyData → Gm → Prop) : Prop := ∀ F H σ, Sta Z F H σ Γ → ∀ Q : It → Hp → Prop, (∀ J F' H' ds Γ', R ds Γ' → Same F F' → Sta Z F' H' σ Γ' → WalkD Z.K F' J ds → Q J H') → wi σ H Q
/-- for .. in ..: I by the turn -/
theorem s_for {wi : TI} {g : TG} {tb : TS} (h : Ei Z wi Γ fun ds Γ1 => ∃ I : Nat → Gm → Prop, I 0 Γ1 ∧ (∀ i d Γ', ds[i]? = some d → I i Γ' → Gt Z g d Γ' fun Γ2 => Sd Z tb Γ2 { E with nx := I (i + 1), ct := I (i + 1), bk := E.nx }) ∧ ∀ Γ', I ds.length Γ' → E.nx Γ') : Sd Z (tFor wi g tb) Γ E := fun F H σ S D n r b c =>
  h F H σ S _ fun J F1 H1 ds Γ1 ⟨I, h0, hs, hd⟩ s1 S1 w => by
    refine ⟨fun i m σ' H' => m = ds.length - i ∧ i ≤ ds.length ∧ ∃ F' Γ', I i Γ' ∧ Same F1 F' ∧ Sta Z F' H' σ' Γ', ⟨_, rfl, Nat.zero_le _, F1, Γ1, h0, Same.refl _, S1⟩, ?_⟩
    rintro i m σ2 H2 ⟨rfl, hi, F2, Γ2, hI, s2, S2⟩
    by_cases hlt : i < ds.length
    · refine .inr ⟨w.go i F2 H2 s2 S2.fh hlt, fun σ' H' => i + 1 ≤ ds.length ∧ ∃ F' Γ', I (i + 1) Γ' ∧ Same F1 F' ∧ Sta Z F' H' σ' Γ', fun σ' H' hN => ⟨ds.length - (i + 1), by omega, rfl, hN.1, hN.2⟩, fun x H3 hy => ?_⟩
      obtain ⟨d, hd'⟩ : ∃ d, ds[i]? = some d := ⟨ds[i], List.getElem?_eq_getElem hlt⟩
      obtain ⟨F3, s3, S3, hx⟩ := w.next rfl S2 s2 hd' hy
      have s13 := s2.trans s3
      refine hs i d Γ2 hd' hI F3 H3 σ2 x S3 hx _ fun σ4 Γ4 hb S4 => ?_
      have nxt : ∀ {F' H' σ' Γ'}, I (i + 1) Γ' → Same F3 F' → Sta Z F' H' σ' Γ' → i + 1 ≤ ds.length ∧ ∃ F' Γ', I (i + 1) Γ' ∧ Same F1 F' ∧ Sta Z F' H' σ' Γ' := fun {F' H' σ' Γ'} e s S' => ⟨hlt, F', Γ', e, s13.trans s, S'⟩
      exact hb F3 H3 σ4 S4 _ (fun F' H' σ' Γ' e s S' => nxt e s S') (fun v F' H' σ' rv Γ' e s => r v F' H' σ' rv Γ' e ((s1.trans s13).trans s)) (fun F' H' σ' Γ' e s => n F' H' σ' Γ' e ((s1.trans s13).trans s)) (fun F' H' σ' Γ' e s S' => nxt e s S')
    · have ei : i = ds.length := by omega
      subst ei
      exact .inl ⟨w.stop F2 H2 s2 S2.fh, n F2 H2 σ2 Γ2 (hd Γ2 hI) (s1.trans s2) S2⟩
/-- while ..: I by a measure -/
theorem s_while {tb : TS} (I : Nat → Gm → Prop) (m0 : Nat) (h0 : I m0 Γ) (hs : ∀ m Γ', I m Γ' → Et Z tc Γ' fun b Γ2 => (b = true → Sd Z tb Γ2 { E with nx := fun Γ3 => ∃ m', m' < m ∧ I m' Γ3, ct := fun Γ3 => ∃ m', m' < m ∧ I m' Γ3, bk := E.nx }) ∧ (b = false → E.nx Γ2)) : Sd Z (tWhile tc tb) Γ E := fun F H σ S D n r b c => by
  refine ⟨fun m σ' H' => ∃ F' Γ', I m Γ' ∧ Same F F' ∧ Sta Z F' H' σ' Γ', ⟨m0, F, Γ, h0, Same.refl _, S⟩, ?_⟩
  rintro m σ2 H2 ⟨F2, Γ2, hI, s2, S2⟩
  refine hs m Γ2 hI F2 H2 σ2 S2 _ fun k F3 H3 Γ3 ⟨h1, h2⟩ s3 S3 => ?_
  have s23 := s2.trans s3
  cases k with
  | false => exact iteF (n F3 H3 σ2 Γ3 (h2 rfl) s23 S3)
  | true =>
    refine iteT ⟨fun σ' H' => ∃ m', m' < m ∧ ∃ F' Γ', I m' Γ' ∧ Same F F' ∧ Sta Z F' H' σ' Γ', fun σ' H' z => z, ?_⟩
    exact h1 rfl F3 H3 σ2 S3 _ (fun F' H' σ' Γ' ⟨m', hm, e⟩ s S' => ⟨m', hm, F', Γ', e, s23.trans s, S'⟩) (fun v F' H' σ' rv Γ' e s => r v F' H' σ' rv Γ' e (s23.trans s)) (fun F' H' σ' Γ' e s => n F' H' σ' Γ' e (s23.trans s)) (fun F' H' σ' Γ' ⟨m', hm, e⟩ s S' => ⟨m', hm, F', Γ', e, s23.trans s, S'⟩)
/-! sources -/
theorem i_list {tl : TE} {R : List PyData → Gm → Prop} (h : Ed Z tl Γ fun d Γ1 => ∃ ds, d = .list ds ∧ R ds Γ1) : Ei Z (iList Z.K tl) Γ R := fun F H σ S Q q =>
  h F H σ S _ fun v F1 H1 d Γ1 ⟨ds, e, r⟩ s1 S1 hv => by
    subst e
    cases hv with
    | @lst a xs _ hs hd =>
      refine ⟨a, rfl, ⟨xs, S1.fh.seq hs⟩, q _ F1 H1 ds Γ1 r s1 S1 ⟨fun i F2 H2 s2 s3 hi => ?_, fun F2 H2 s2 s3 => ?_, fun i d v H' F2 H2 s2 s3 hd' hy => ?_⟩⟩
      · rw [← dpa_len hd] at hi
        exact ⟨xs, xs[i], s3.seq (s2.seq hs), List.getElem?_eq_getElem hi⟩
      · exact ⟨xs, s3.seq (s2.seq hs), by rw [dpa_len hd]; exact Nat.le_refl _⟩
      · obtain ⟨rfl, hx⟩ := hy
        obtain ⟨w, hw, hdw⟩ := dpa_get (dpa_same s2 hd) hd'
        have := hx xs (s3.seq (s2.seq hs))
        rw [hw] at this
        injection this with this
        subst this
        exact .inl ⟨rfl, hdw⟩
theorem i_tup {tl : TE} {R : List PyData → Gm → Prop} (h : Ed Z tl Γ fun d Γ1 => ∃ ds, d = .tuple ds ∧ R ds Γ1) : Ei Z (iTup Z.K tl) Γ R := fun F H σ S Q q =>
  h F H σ S _ fun v F1 H1 d Γ1 ⟨ds, e, r⟩ s1 S1 hv => by
    subst e
    cases hv with
    | @tup a xs _ hs hd =>
      refine ⟨a, rfl, ⟨xs, sqT_same S1.fh hs⟩, q _ F1 H1 ds Γ1 r s1 S1 ⟨fun i F2 H2 s2 s3 hi => ?_, fun F2 H2 s2 s3 => ?_, fun i d v H' F2 H2 s2 s3 hd' hy => ?_⟩⟩
      · rw [← dpa_len hd] at hi
        exact ⟨xs, xs[i], sqT_same s3 (sqT_same s2 hs), List.getElem?_eq_getElem hi⟩
      · exact ⟨xs, sqT_same s3 (sqT_same s2 hs), by rw [dpa_len hd]; exact Nat.le_refl _⟩
      · obtain ⟨rfl, hx⟩ := hy
        obtain ⟨w, hw, hdw⟩ := dpa_get (dpa_same s2 hd) hd'
        have := hx xs (sqT_same s3 (sqT_same s2 hs))
        rw [hw] at this
        injection this with this
        subst this
        exact .inl ⟨rfl, hdw⟩
/-- 0, 1, .. below n -/
def rangeD (lo : Int) (n : Nat) : List PyData := (List.range n).map fun i => .int (lo + (i : Nat))
theorem rangeD_len (lo : Int) (n : Nat) : (rangeD lo n).length = n := by simp [rangeD]
theorem rangeD_get {lo : Int} {n i : Nat} {d : PyData} (h : (rangeD lo n)[i]? = some d) : i < n ∧ d = .int (lo + (i : Nat)) := by
  unfold rangeD at h
  rw [List.getElem?_map] at h
  cases e : (List.range n)[i]? with
  | none => rw [e] at h; cases h
  | some j =>
    rw [e] at h
    obtain ⟨h1, h2⟩ := List.getElem?_eq_some_iff.mp e
    rw [List.getElem_range] at h2
    rw [List.length_range] at h1
    injection h with h
    rw [← h, ← h2]
    exact ⟨h1, rfl⟩
theorem walkD_range {K : PySem.W.Frag} {F1 : Hp} {lo : Int} {n : Nat} : WalkD K F1 (Itr lo n) (rangeD lo n) := by
  refine ⟨fun i F2 H2 _ _ hi => ?_, fun F2 H2 _ _ => ?_, fun i d v H' F2 H2 s2 s3 hd' hy => ?_⟩
  · rw [rangeD_len] at hi
    exact hi
  · rw [rangeD_len]
    exact Nat.le_refl _
  · obtain ⟨rfl, rfl⟩ := hy
    obtain ⟨_, rfl⟩ := rangeD_get hd'
    exact .inl ⟨rfl, .int _⟩
theorem i_range1 {ta : TE} {R : List PyData → Gm → Prop} (h : Ed Z ta Γ fun d Γ1 => ∃ n : Int, d = .int n ∧ -(2 ^ 62) ≤ n ∧ n < 2 ^ 62 ∧ R (rangeD 0 n.toNat) Γ1) : Ei Z (iRng1 (tCons ta tNil)) Γ R := fun F H σ S Q q =>
  h F H σ S _ fun v F1 H1 d Γ1 ⟨n, e, h1, h2, r⟩ s1 S1 hv => by
    subst e
    cases hv
    exact ⟨n, rfl, h1, h2, q _ F1 H1 _ Γ1 r s1 S1 walkD_range⟩
/-- a + (n - 1) c', .. : by steps of -1 -/
def downD (n : Nat) : List PyData := (List.range n).map fun i => .int ((n : Int) - 1 - (i : Nat))
theorem downD_len (n : Nat) : (downD n).length = n := by simp [downD]
theorem downD_get {n i : Nat} {d : PyData} (h : (downD n)[i]? = some d) : i < n ∧ d = .int ((n : Int) - 1 - (i : Nat)) := by
  unfold downD at h
  rw [List.getElem?_map] at h
  cases e : (List.range n)[i]? with
  | none => rw [e] at h; cases h
  | some j =>
    rw [e] at h
    obtain ⟨h1, h2⟩ := List.getElem?_eq_some_iff.mp e
    rw [List.getElem_range] at h2
    rw [List.length_range] at h1
    injection h with h
    rw [← h, ← h2]
    exact ⟨h1, rfl⟩
theorem i_revR1 {ta : TE} {R : List PyData → Gm → Prop} (h : Ed Z ta Γ fun d Γ1 => ∃ n : Nat, d = .int (n : Int) ∧ n ≤ 100000 ∧ R (downD n) Γ1) : Ei Z (iRevR (tRg1 ta)) Γ R := fun F H σ S Q q =>
  h F H σ S _ fun v F1 H1 d Γ1 ⟨n, e, h1, r⟩ s1 S1 hv => by
    subst e
    cases hv
    refine ⟨(n : Int), rfl, by omega, by omega, by omega, by omega, q _ F1 H1 _ Γ1 r s1 S1 ?_⟩
    have e1 : ((n : Int) - 0).toNat = n := by omega
    rw [e1]
    refine ⟨fun i F2 H2 _ _ hi => ?_, fun F2 H2 _ _ => ?_, fun i d v H' F2 H2 s2 s3 hd' hy => ?_⟩
    · rw [downD_len] at hi
      exact hi
    · rw [downD_len]
      exact Nat.le_refl _
    · obtain ⟨rfl, rfl⟩ := hy
      obtain ⟨_, rfl⟩ := downD_get hd'
      have e2 : (0 : Int) + (n : Nat) - 1 + (i : Nat) * (-1) = (n : Int) - 1 - (i : Nat) := by omega
      rw [e2]
      exact .inl ⟨rfl, .int _⟩
theorem i_revL {tl : TE} {R : List PyData → Gm → Prop} (h : Ed Z tl Γ fun d Γ1 => ∃ ds, d = .list ds ∧ R ds.reverse Γ1) : Ei Z (iRev Z.K (tCons tl tNil)) Γ R := fun F H σ S Q q =>
  h F H σ S _ fun v F1 H1 d Γ1 ⟨ds, e, r⟩ s1 S1 hv => by
    subst e
    cases hv with
    | @lst a xs _ hs hd =>
      refine ⟨a, xs, rfl, S1.fh.seq hs, q _ F1 H1 _ Γ1 r s1 S1 ⟨fun i F2 H2 s2 s3 hi => ?_, fun F2 H2 s2 s3 => ?_, fun i d v H' F2 H2 s2 s3 hd' hy => ?_⟩⟩
      · rw [List.length_reverse, ← dpa_len hd] at hi
        exact ⟨hi, xs, xs[xs.length - 1 - i]'(by omega), s3.seq (s2.seq hs), List.getElem?_eq_getElem _⟩
      · rw [List.length_reverse, ← dpa_len hd]
        exact Nat.le_refl _
      · obtain ⟨rfl, hx⟩ := hy
        have h1 := hx xs (s3.seq (s2.seq hs))
        have hi : i < ds.length := by
          have := (List.getElem?_eq_some_iff.mp hd').1
          rw [List.length_reverse] at this
          exact this
        rw [List.getElem?_reverse hi, ← dpa_len hd] at hd'
        obtain ⟨w, hw, hdw⟩ := dpa_get (dpa_same s2 hd) hd'
        rw [hw] at h1
        injection h1 with h1
        subst h1
        exact .inl ⟨rfl, hdw⟩
theorem i_str {tl : TE} {R : List PyData → Gm → Prop} (h : Ed Z tl Γ fun d Γ1 => ∃ x : Str, d = .str x ∧ R (x.cps.toList.map fun c => .str ⟨#[c]⟩) Γ1) : Ei Z (iStr tl) Γ R := fun F H σ S Q q =>
  h F H σ S _ fun v F1 H1 d Γ1 ⟨x, e, r⟩ s1 S1 hv => by
    subst e
    cases hv
    have ln : (x.cps.toList.map fun c => PyData.str ⟨#[c]⟩).length = x.cps.size := by simp
    refine ⟨x, rfl, q _ F1 H1 _ Γ1 r s1 S1 ⟨fun i F2 H2 _ _ hi => ?_, fun F2 H2 _ _ => ?_, fun i d v H' F2 H2 s2 s3 hd' hy => ?_⟩⟩
    · rw [ln] at hi
      exact hi
    · rw [ln]
      exact Nat.le_refl _
    · obtain ⟨rfl, c, hc, rfl⟩ := hy
      rw [List.getElem?_map, Array.getElem?_toList, hc] at hd'
      injection hd' with hd'
      subst hd'
      exact .inl ⟨rfl, .str _⟩
theorem dpa_pair {K : PySem.W.Frag} {v w : V} {d e : PyData} (h1 : Dq K F v d) (h2 : Dq K F w e) : DqAll K F [v, w] [d, e] := .cons h1 (.cons h2 .nil)
def enumD (ds : List PyData) : List PyData := (List.range ds.length).zipWith (fun i d => .tuple [.int (i : Nat), d]) ds
theorem enumD_len (ds : List PyData) : (enumD ds).length = ds.length := by simp [enumD]
theorem enumD_get {ds : List PyData} {i : Nat} {d : PyData} (h : (enumD ds)[i]? = some d) : ∃ e, ds[i]? = some e ∧ d = .tuple [.int (i : Nat), e] := by
  unfold enumD at h
  rw [List.getElem?_zipWith] at h
  cases e1 : (List.range ds.length)[i]? with
  | none => rw [e1] at h; cases h
  | some j =>
    cases e2 : ds[i]? with
    | none => rw [e1, e2] at h; cases h
    | some e =>
      rw [e1, e2] at h
      obtain ⟨h1, h2⟩ := List.getElem?_eq_some_iff.mp e1
      rw [List.getElem_range] at h2
      injection h with h
      rw [← h, ← h2]
      exact ⟨e, rfl, rfl⟩
theorem i_enum {tl : TE} {R : List PyData → Gm → Prop} (h : Ed Z tl Γ fun d Γ1 => ∃ ds, d = .list ds ∧ R (enumD ds) Γ1) : Ei Z (iEnum Z.K (tCons tl tNil)) Γ R := fun F H σ S Q q =>
  h F H σ S _ fun v F1 H1 d Γ1 ⟨ds, e, r⟩ s1 S1 hv => by
    subst e
    cases hv with
    | @lst a xs _ hs hd =>
      refine ⟨a, xs, rfl, S1.fh.seq hs, q _ F1 H1 _ Γ1 r s1 S1 ⟨fun i F2 H2 s2 s3 hi => ?_, fun F2 H2 s2 s3 => ?_, fun i d v H' F2 H2 s2 s3 hd' hy => ?_⟩⟩
      · rw [enumD_len, ← dpa_len hd] at hi
        exact ⟨xs, xs[i], s3.seq (s2.seq hs), List.getElem?_eq_getElem hi⟩
      · exact ⟨xs, s3.seq (s2.seq hs), by rw [enumD_len, dpa_len hd]; exact Nat.le_refl _⟩
      · obtain ⟨T, x, rfl, hT, rfl, hx⟩ := hy
        obtain ⟨e, he, rfl⟩ := enumD_get hd'
        obtain ⟨w, hw, hdw⟩ := dpa_get (dpa_same s2 hd) he
        have h1 := hx xs (s3.seq (s2.seq hs))
        rw [hw] at h1
        injection h1 with h1
        subst h1
        exact .inr ⟨T, _, _, rfl, hT, rfl, rfl, dpa_pair (.int _) hdw⟩
/-! ### comprehensions -/
def wipeG (Γ : Gm) : List Nat → Gm
  | [] => Γ
  | v :: vs => (wipeG Γ vs).set v none
theorem Sta.wiped (S : Sta Z F H σ Γ) : ∀ vs : List Nat, Sta Z F H (wipe σ vs) (wipeG Γ vs)
  | [] => S
  | v :: vs => by
    have S' := S.wiped vs
    have sub : ∀ {j : Nat} {e : Ent}, ((wipeG Γ vs).set v none)[j]? = some (some e) → v ≠ j ∧ (wipeG Γ vs)[j]? = some (some e) := fun {j e} h => by
      by_cases hij : v = j
      · subst hij
        have hl : v < (wipeG Γ vs).length := by
          have := (List.getElem?_eq_some_iff.mp h).1
          rw [List.length_set] at this
          exact this
        rw [get_set_eq hl] at h
        cases h
      · rw [get_set_ne hij] at h
        exact ⟨hij, h⟩
    refine ⟨S'.ff, S'.fh, S'.hh, S'.fr, S'.pp, fun j e h => ?_, fun j k e e' q hjk hj hk m m' sj sk => ?_, ?_, fun q hq => ⟨(S'.xn q hq).1, (S'.xn q hq).2.1, fun j e hj m sj => ?_⟩⟩
    · obtain ⟨nv, h'⟩ := sub h
      obtain ⟨w, hw, ok⟩ := S'.sl j e h'
      exact ⟨w, (get_set_ne nv).trans hw, ok⟩
    · obtain ⟨n1, h1⟩ := sub hj
      obtain ⟨n2, h2⟩ := sub hk
      exact S'.dj j k e e' q hjk h1 h2 m m' ((get_set_ne n1).symm.trans sj) ((get_set_ne n2).symm.trans sk)
    · show ((wipe σ vs).set v none).length = ((wipeG Γ vs).set v none).length
      rw [List.length_set, List.length_set, S'.ln]
    · obtain ⟨n1, h1⟩ := sub hj
      exact (S'.xn q hq).2.2 j e h1 m ((get_set_ne n1).symm.trans sj)
theorem wipe_back {vs : List Nat} {i : Nat} {v : V} (h : (wipe σ vs)[i]? = some (some v)) : σ[i]? = some (some v) := (wipe_some h).1
theorem Sta.unwipe {vs : List Nat} (S : Sta Z F H (wipe σ vs) Γ) : Sta Z F H σ Γ := by
  have at_ : ∀ {j : Nat} {e : Ent} {p : Addr}, Γ[j]? = some (some e) → σ[j]? = some (some (.ref p)) → (wipe σ vs)[j]? = some (some (.ref p)) := fun {j e p} h hs => by
    obtain ⟨v, hv, _⟩ := S.sl j e h
    have := wipe_back hv
    rw [hs] at this
    injection this with this
    rw [this]
    exact hv
  refine ⟨S.ff, S.fh, S.hh, S.fr, S.pp, fun j e h => ?_, fun j k e e' q hjk hj hk m m' sj sk => S.dj j k e e' q hjk hj hk m m' (at_ hj sj) (at_ hk sk), ?_, fun q hq => ⟨(S.xn q hq).1, (S.xn q hq).2.1, fun j e hj m sj => (S.xn q hq).2.2 j e hj m (at_ hj sj)⟩⟩
  · obtain ⟨v, hv, ok⟩ := S.sl j e h
    exact ⟨v, wipe_back hv, ok⟩
  · have := S.ln
    rw [wipe_length] at this
    exact this
theorem wipe_get : ∀ (vs : List Nat) (σ : St) (i : Nat), (wipe σ vs)[i]? = if i ∈ vs then (σ[i]?).map fun _ => none else σ[i]?
  | [], σ, i => by simp [wipe]
  | v :: vs, σ, i => by
    show ((wipe σ vs).set v none)[i]? = _
    by_cases h : v = i
    · subst h
      rw [if_pos List.mem_cons_self]
      by_cases hl : v < σ.length
      · rw [get_set_eq (by rw [wipe_length]; exact hl), List.getElem?_eq_getElem hl] <;> rfl
      · rw [List.getElem?_eq_none (by rw [List.length_set, wipe_length]; omega), List.getElem?_eq_none (by omega)] <;> rfl
    · rw [get_set_ne h, wipe_get vs σ i]
      by_cases hm : i ∈ vs
      · rw [if_pos hm, if_pos (List.mem_cons_of_mem _ hm)]
      · rw [if_neg hm, if_neg (fun z => (List.mem_cons.mp z).elim (fun z => h z.symm) hm)]
theorem wipe_idem (vs : List Nat) (σ : St) : wipe (wipe σ vs) vs = wipe σ vs := by
  apply List.ext_getElem?
  intro i
  rw [wipe_get, wipe_get]
  by_cases h : i ∈ vs
  · rw [if_pos h, if_pos h]
    cases σ[i]? <;> rfl
  · rw [if_neg h, if_neg h]
theorem wipe_set {vs : List Nat} {j : Nat} {x : Option V} (hj : j ∈ vs) : wipe (σ.set j x) vs = wipe σ vs := by
  apply List.ext_getElem?
  intro i
  rw [wipe_get, wipe_get]
  by_cases h : i ∈ vs
  · rw [if_pos h, if_pos h]
    by_cases e : j = i
    · subst e
      by_cases hl : j < σ.length
      · rw [get_set_eq hl, List.getElem?_eq_getElem hl] <;> rfl
      · rw [List.getElem?_eq_none (by rw [List.length_set]; omega), List.getElem?_eq_none (by omega)]
    · rw [get_set_ne e]
  · rw [if_neg h, if_neg h, get_set_ne (fun z : j = i => h (by rw [← z]; exact hj))]
/-- a target that stores into slots of vs alone -/
def Keeps (g : TG) (vs : List Nat) : Prop := ∀ v σ H (P : St → Hp → Prop), (g v σ H fun σ' H' => wipe σ' vs = wipe σ vs → P σ' H') → g v σ H fun σ' H' => wipe σ' vs = wipe σ vs ∧ P σ' H'
def KeepsS (g : TGs) (vs : List Nat) : Prop := ∀ ws σ H (P : St → Hp → Prop), (g ws σ H fun σ' H' => wipe σ' vs = wipe σ vs → P σ' H') → g ws σ H fun σ' H' => wipe σ' vs = wipe σ vs ∧ P σ' H'
theorem keeps_name {vs : List Nat} {j : Nat} (hj : j ∈ vs) : Keeps (gName j) vs := fun v σ H P h => ⟨wipe_set hj, h (wipe_set hj)⟩
theorem keeps_nil {vs : List Nat} : KeepsS gNil vs := fun ws σ H P h => ⟨h.1, rfl, h.2 rfl⟩
theorem keeps_cons {vs : List Nat} {j : Nat} {gr : TGs} (hj : j ∈ vs) (hr : KeepsS gr vs) : KeepsS (gCons (gName j) gr) vs := fun ws σ H P h => by
  obtain ⟨v, r, e, h⟩ := h
  refine ⟨v, r, e, ?_⟩
  have w1 : wipe (σ.set j (some v)) vs = wipe σ vs := wipe_set hj
  show gr r (σ.set j (some v)) H fun σ' H' => wipe σ' vs = wipe σ vs ∧ P σ' H'
  have h' : gr r (σ.set j (some v)) H fun σ' H' => wipe σ' vs = wipe (σ.set j (some v)) vs → P σ' H' := by
    rw [w1]
    exact h
  have := hr r (σ.set j (some v)) H P h'
  rw [w1] at this
  exact this
theorem keeps_tup {K : PySem.W.Frag} {vs : List Nat} {n : Nat} {gr : TGs} (hr : KeepsS gr vs) : Keeps (gTup K n gr) vs := fun v σ H P h => by
  obtain ⟨a, xs, e, h1, h2, h3⟩ := h
  exact ⟨a, xs, e, h1, h2, hr xs σ H P h3⟩
theorem Sta.repin {D : Addr} {u u' : HO} (S : Sta (Z.pin (D, u)) F H σ Γ) (h0 : Z.H0 D = none) (hz : ∀ q ∈ Z.xt, q.1 ≠ D) : Sta (Z.pin (D, u')) F (upd H D u') σ Γ := by
  obtain ⟨x1, x2, x3⟩ := S.xn (D, u) List.mem_cons_self
  have ne : ∀ {a : Addr} {o : HO}, F a = some o → a ≠ D := fun {a o} h z => by rw [z, x2] at h; cases h
  refine ⟨S.ff, fun b o e => by rw [upd_ne (ne e)]; exact S.fh b o e, fun a o hm h => ?_, S.fr, fun q hq z => ?_, fun i e hi => ?_, S.dj, S.ln, fun q hq => ?_⟩
  · rw [upd_ne (fun z => by have h' : Z.H0 a = some o := h; rw [z, h0] at h'; cases h')]
    exact S.hh a o hm h
  · by_cases hb : q = D
    · rw [hb, upd_same] at z
      cases z
    · rw [upd_ne hb] at z
      exact S.pp q hq z
  · obtain ⟨v, hv, ok⟩ := S.sl i e hi
    refine ⟨v, hv, ?_⟩
    have go : ∀ {q : Addr} {x : DO}, q ≠ D → Cell Z.K F H q x → Cell Z.K F (upd H D u') q x := fun {q x} nq c => by
      obtain ⟨w, g1, g2, g3⟩ := c
      exact ⟨w, by rw [upd_ne nq]; exact g1, g2, g3⟩
    cases e with
    | fz d => exact ok
    | own x =>
      obtain ⟨q, rfl, h0', c⟩ := ok
      exact ⟨q, rfl, h0', go (fun z => x3 i _ hi rfl (by rw [← z]; exact hv)) c⟩
    | par q x =>
      obtain ⟨rfl, hq, c⟩ := ok
      exact ⟨rfl, hq, go (fun z => x3 i _ hi rfl (by rw [← z]; exact hv)) c⟩
  · rcases List.mem_cons.mp hq with rfl | hq
    · exact ⟨upd_same, x2, x3⟩
    · obtain ⟨y1, y2, y3⟩ := S.xn q (List.mem_cons_of_mem _ hq)
      exact ⟨by rw [upd_ne (hz q hq)]; exact y1, y2, y3⟩
/-- [e for .. in .. if ..], a new list; I by the turn and what is made -/
theorem n_lc {R : DO → Gm → Prop} {wi : TI} {g : TG} {tt : TT} {vs : List Nat} (hk : Keeps g vs)
    (h : Ei Z wi Γ fun ds Γ1 => ds.length ≤ 100000 ∧ ∃ I : Nat → List PyData → Gm → Prop, I 0 [] (wipeG Γ1 vs) ∧ (∀ (x : Addr × HO) i d acc Γ', ds[i]? = some d → I i acc Γ' → Gt (Z.pin x) g d Γ' fun Γ2 => Et (Z.pin x) tt Γ2 fun b Γ3 => (b = true → Ed (Z.pin x) te Γ3 fun e Γ4 => I (i + 1) (acc ++ [e]) (wipeG Γ4 vs)) ∧ (b = false → I (i + 1) acc (wipeG Γ3 vs))) ∧ ∀ acc Γ', I ds.length acc Γ' → R (.lst acc) Γ') :
    En Z (tLc wi g tt te vs) Γ R := fun F H σ S Q q =>
  h F H σ S _ fun J F1 H1 ds Γ1 ⟨hl, I, i0, hs, hd⟩ s1 S1 w D hD => by
    obtain ⟨SD, nD⟩ := S1.laid hD (u := .lst []) (o := .lst []) .nil
    have P0 : Sta (Z.pin (D, .lst [])) F1 (upd H1 D (.lst [])) (wipe σ vs) (wipeG Γ1 vs) := (SD.pinned upd_same (S1.freeF hD) nD.no).wiped vs
    refine ⟨fun i m H' => m = ds.length - i ∧ i ≤ ds.length ∧ ∃ F' Γ' acc ws, I i acc Γ' ∧ acc.length ≤ i ∧ Same F1 F' ∧ Sta (Z.pin (D, .lst ws)) F' H' (wipe σ vs) Γ' ∧ DqAll Z.K F' ws acc, ⟨_, rfl, Nat.zero_le _, F1, _, [], [], i0, Nat.le_refl _, Same.refl _, P0, .nil⟩, ?_⟩
    rintro i m H2 ⟨rfl, hi, F2, Γ2, acc, ws, hI, hla, s2, S2, hws⟩
    by_cases hlt : i < ds.length
    · refine .inr ⟨w.go i F2 H2 s2 S2.fh hlt, fun H' => i + 1 ≤ ds.length ∧ ∃ F' Γ' acc ws, I (i + 1) acc Γ' ∧ acc.length ≤ i + 1 ∧ Same F1 F' ∧ Sta (Z.pin (D, .lst ws)) F' H' (wipe σ vs) Γ' ∧ DqAll Z.K F' ws acc, fun H' hN => ⟨ds.length - (i + 1), by omega, rfl, hN.1, hN.2⟩, fun x H3 hy => ?_⟩
      obtain ⟨d, hd'⟩ : ∃ d, ds[i]? = some d := ⟨ds[i], List.getElem?_eq_getElem hlt⟩
      obtain ⟨F3, s3, S3, hx⟩ := w.next (Z := Z.pin (D, .lst ws)) rfl S2 s2 hd' hy
      have key := hk x (wipe σ vs) H3 (fun σ2 H4 => tt σ2 H4 fun b H5 => if b = true then te σ2 H5 fun y H6 => ∃ acc, H6 D = some (.lst acc) ∧ acc.length < sizeLine ∧ (i + 1 ≤ ds.length ∧ ∃ F' Γ' acc' ws, I (i + 1) acc' Γ' ∧ acc'.length ≤ i + 1 ∧ Same F1 F' ∧ Sta (Z.pin (D, .lst ws)) F' (upd H6 D (.lst (acc ++ [y]))) (wipe σ vs) Γ' ∧ DqAll Z.K F' ws acc') else (i + 1 ≤ ds.length ∧ ∃ F' Γ' acc' ws, I (i + 1) acc' Γ' ∧ acc'.length ≤ i + 1 ∧ Same F1 F' ∧ Sta (Z.pin (D, .lst ws)) F' H5 (wipe σ vs) Γ' ∧ DqAll Z.K F' ws acc')) (hs (D, .lst ws) i d acc Γ2 hd' hI F3 H3 (wipe σ vs) x S3 hx _ fun σ4 Γ4 ht S4 hw4 => ?_)
      · rw [wipe_idem] at key
        exact key
      · rw [wipe_idem] at hw4
        refine ht F3 H3 σ4 S4 _ fun b F5 H5 Γ5 ⟨hy1, hy2⟩ s5 S5 => ?_
        cases b with
        | true =>
          refine iteT (hy1 rfl F5 H5 σ4 S5 _ fun y F6 H6 e Γ6 hI6 s6 S6 hye => ?_)
          have sF := ((s2.trans s3).trans s5).trans s6
          have s36 := (s3.trans s5).trans s6
          refine ⟨ws, (S6.xn (D, .lst ws) List.mem_cons_self).1, ?_, hlt, F6, _, _, ws ++ [y], hI6, by rw [List.length_append, List.length_singleton]; omega, sF, ?_, dpa_app (dpa_same s36 hws) (dpa_one hye)⟩
          · rw [dpa_len hws]
            exact Nat.lt_of_lt_of_le (show acc.length < 200000 by omega) (by decide)
          · have W6 := S6.wiped vs
            rw [hw4] at W6
            exact W6.repin nD.h0 nD.np
        | false =>
          have W5 := S5.wiped vs
          rw [hw4] at W5
          exact iteF ⟨hlt, F5, _, _, ws, hy2 rfl, by omega, (s2.trans s3).trans s5, W5, dpa_same (s3.trans s5) hws⟩
    · have ei : i = ds.length := by omega
      subst ei
      have U := S2.unpinned.unwipe
      obtain ⟨x1, x2, x3⟩ := S2.xn (D, .lst ws) List.mem_cons_self
      refine .inl ⟨w.stop F2 H2 s2 S2.fh, q D F2 H2 (.lst acc) Γ2 (hd acc Γ2 hI) (s1.trans s2) U ⟨nD.h0, ⟨.lst ws, x1, x2, hws⟩, fun j e hj hm hs' => ?_, nD.np⟩⟩
      refine x3 j e hj hm ?_
      obtain ⟨v, hv, _⟩ := S2.sl j e hj
      have := wipe_back hv
      rw [hs'] at this
      injection this with this
      rw [this]
      exact hv
end
end Dl

set_option Elab.async false
set_option linter.all false
set_option autoImplicit false
set_option maxRecDepth 100000
set_option maxHeartbeats 4000000
namespace Dl
open PySem PySem.Spec PyProof.Rows L2
/-! ### promises over data -/
inductive AV where
  | fz (d : PyData)
  | mu (o : DO)
def AvOk (K : PySem.W.Frag) (F H : Hp) (v : V) : AV → Prop
  | .fz d => Dq K F v d
  | .mu o => ∃ p, v = .ref p ∧ Cell K F H p o
def muA : List V → List AV → List Addr
  | .ref p :: vs, .mu _ :: as => p :: muA vs as
  | _ :: vs, _ :: as => muA vs as
  | _, _ => []
structure Stp (F H : Hp) (ps : List Addr) (F' H' : Hp) : Prop where
  ff : Same F F'
  fh : Same F' H'
  hh : ∀ a o, a ∉ ps → H a = some o → H' a = some o
  fr : ∀ a o, H a = some o → F' a = F a
inductive Out where
  | ret (rv : RV)
  | exc (x : Str)
def RvP (K : PySem.W.Frag) (H F' H' : Hp) (v : V) : RV → Prop
  | .fz d => Dq K F' v d
  | .new o => ∃ p, v = .ref p ∧ H p = none ∧ Cell K F' H' p o
/-- of one shape, the data the same -/
def ShA : List AV → List AV → Prop
  | [], as' => as' = []
  | .fz d :: as, as' => ∃ r, as' = .fz d :: r ∧ ShA as r
  | .mu _ :: as, as' => ∃ o r, as' = .mu o :: r ∧ ShA as r
def SpD (K : PySem.W.Frag) (Pre : List AV → Prop) (R : List AV → Out → List AV → Prop) : Sp := fun vs H Q E => ∃ F as, Same F H ∧ Paired (AvOk K F H) vs as ∧ (muA vs as).Nodup ∧ Pre as ∧
  ∀ out as', R as out as' → ShA as as' → ∀ F' H', Stp F H (muA vs as) F' H' → Paired (AvOk K F' H') vs as' → match out with
    | .ret rv => ∀ v, RvP K H F' H' v rv → Q v H'
    | .exc x => E (.ref (He.ga K x)) none H'
def adr : V → Addr
  | .ref a => a
  | _ => 0
def entA : List V → List AV → Gm
  | v :: vs, .fz d :: as => some (.fz d) :: entA vs as
  | v :: vs, .mu o :: as => some (.par (adr v) o) :: entA vs as
  | _, _ => []
def entG (N : List Str) (vs : List V) (as : List AV) : Gm := entA vs as ++ List.replicate (N.length - vs.length) none
theorem entA_len : ∀ {vs : List V} {as : List AV}, vs.length = as.length → (entA vs as).length = vs.length
  | [], [], _ => rfl
  | v :: vs, .fz d :: as, h => by
    show (entA vs as).length + 1 = vs.length + 1
    rw [entA_len (Nat.succ.inj h)]
  | v :: vs, .mu d :: as, h => by
    show (entA vs as).length + 1 = vs.length + 1
    rw [entA_len (Nat.succ.inj h)]
  | [], _ :: _, h => by cases h
  | _ :: _, [], h => by cases h
section
variable {K : PySem.W.Frag} {F H F' H' : Hp}
theorem muA_mem : ∀ {vs : List V} {as : List AV} {i : Nat} {p : Addr} {o : DO}, vs[i]? = some (.ref p) → as[i]? = some (.mu o) → p ∈ muA vs as
  | [], _, _, _, _, h, _ => by simp at h
  | _ :: _, [], _, _, _, _, h => by simp at h
  | v :: vs, a :: as, 0, p, o, h1, h2 => by
    have e1 : v = .ref p := Option.some.inj h1
    have e2 : a = .mu o := Option.some.inj h2
    subst e1 e2
    exact List.mem_cons_self
  | v :: vs, a :: as, i + 1, p, o, h1, h2 => by
    have ih := muA_mem (vs := vs) (as := as) (i := i) h1 h2
    unfold muA
    split
    · rename_i e1 e2
      obtain ⟨rfl, rfl⟩ := List.cons.inj e1
      obtain ⟨rfl, rfl⟩ := List.cons.inj e2
      exact List.mem_cons_of_mem _ ih
    · rename_i e1 e2
      obtain ⟨rfl, rfl⟩ := List.cons.inj e1
      obtain ⟨rfl, rfl⟩ := List.cons.inj e2
      exact ih
    · rename_i h1 h2
      exact absurd rfl (h2 v vs a as rfl)
theorem muA_cons {v : V} {vs : List V} {a : AV} {as : List AV} : (∃ p o, v = .ref p ∧ a = .mu o ∧ muA (v :: vs) (a :: as) = p :: muA vs as) ∨ muA (v :: vs) (a :: as) = muA vs as := by
  cases a with
  | fz d => right; cases v <;> rfl
  | mu o =>
    cases v with
    | ref p => exact .inl ⟨p, o, rfl, rfl, rfl⟩
    | _ => exact .inr rfl
theorem muA_nodup : ∀ {vs : List V} {as : List AV} {i j : Nat} {p : Addr} {o o' : DO}, (muA vs as).Nodup → i < j → vs[i]? = some (.ref p) → as[i]? = some (.mu o) → vs[j]? = some (.ref p) → as[j]? = some (.mu o') → False
  | [], _, _, _, _, _, _, _, _, h, _, _, _ => by simp at h
  | _ :: _, [], _, _, _, _, _, _, _, _, h, _, _ => by simp at h
  | v :: vs, a :: as, 0, j + 1, p, o, o', nd, _, h1, h2, h3, h4 => by
    have e1 : v = .ref p := Option.some.inj h1
    have e2 : a = .mu o := Option.some.inj h2
    subst e1 e2
    have m : p ∈ muA vs as := muA_mem (i := j) h3 h4
    exact (List.nodup_cons.mp (show (p :: muA vs as).Nodup from nd)).1 m
  | v :: vs, a :: as, i + 1, j + 1, p, o, o', nd, hij, h1, h2, h3, h4 => by
    have nd' : (muA vs as).Nodup := by
      rcases muA_cons (v := v) (vs := vs) (a := a) (as := as) with ⟨_, _, _, _, e⟩ | e
      · rw [e] at nd
        exact (List.nodup_cons.mp nd).2
      · rw [e] at nd
        exact nd
    exact muA_nodup (i := i) (j := j) nd' (by omega) h1 h2 h3 h4
theorem ent_get : ∀ {vs : List V} {as : List AV} {i : Nat} {e : Ent}, Paired (AvOk K F H) vs as → (entA vs as)[i]? = some (some e) → ∃ v, vs[i]? = some v ∧ ((∃ d, e = .fz d ∧ as[i]? = some (.fz d) ∧ Dq K F v d) ∨ ∃ p o, v = .ref p ∧ e = .par p o ∧ as[i]? = some (.mu o) ∧ Cell K F H p o)
  | _, _, i, e, .nil, h => by
    have h' : ([] : Gm)[i]? = some (some e) := h
    simp at h'
  | _, _, 0, e, .cons (a := v) (b := a) hv r, h => by
    cases a with
    | fz d =>
      have e1 : Ent.fz d = e := Option.some.inj (Option.some.inj h)
      exact ⟨v, rfl, .inl ⟨d, e1.symm, rfl, hv⟩⟩
    | mu o =>
      obtain ⟨p, rfl, c⟩ := hv
      have e1 : Ent.par p o = e := Option.some.inj (Option.some.inj h)
      exact ⟨.ref p, rfl, .inr ⟨p, o, rfl, e1.symm, rfl, c⟩⟩
  | _, _, i + 1, e, .cons (a := v) (b := a) hv r, h => by
    cases a with
    | fz d => exact ent_get (i := i) r h
    | mu o => exact ent_get (i := i) r h
theorem entG_get {N : List Str} {vs : List V} {as : List AV} {i : Nat} {e : Ent} (h : (entG N vs as)[i]? = some (some e)) : (entA vs as)[i]? = some (some e) := by
  unfold entG at h
  by_cases hi : i < (entA vs as).length
  · rw [List.getElem?_append_left hi] at h
    exact h
  · rw [List.getElem?_append_right (by omega)] at h
    have := List.getElem?_eq_some_iff.mp h
    obtain ⟨h1, h2⟩ := this
    rw [List.getElem_replicate] at h2
    cases h2
theorem start_get {N : List Str} {vs : List V} {i : Nat} {v : V} (h : vs[i]? = some v) : (L2.start N vs)[i]? = some (some v) := by
  have hi : i < vs.length := (List.getElem?_eq_some_iff.mp h).1
  unfold L2.start
  rw [List.getElem?_append_left (by rw [List.length_map]; exact hi), List.getElem?_map, h]
  rfl
theorem sta0 {N : List Str} {vs : List V} {as : List AV} (s : Same F H) (hp : Paired (AvOk K F H) vs as) (nd : (muA vs as).Nodup) (hc : ∀ p ∈ muA vs as, H p ≠ none) : Sta ⟨K, F, H, muA vs as, []⟩ F H (L2.start N vs) (entG N vs as) := by
  have ln := Paired.length hp
  refine ⟨Same.refl _, s, fun a o _ h => h, fun a o _ => rfl, hc, fun i e h => ?_, fun i j e e' p hij hi hj m m' si sj => ?_, ?_, fun q hq => by cases hq⟩
  · obtain ⟨v, hv, hh⟩ := ent_get hp (entG_get h)
    refine ⟨v, start_get hv, ?_⟩
    rcases hh with ⟨d, rfl, _, hd⟩ | ⟨p, o, rfl, rfl, ha, c⟩
    · exact hd
    · exact ⟨rfl, muA_mem hv ha, c⟩
  · obtain ⟨v, hv, hh⟩ := ent_get hp (entG_get hi)
    obtain ⟨w, hw, hh'⟩ := ent_get hp (entG_get hj)
    rcases hh with ⟨d, rfl, _, _⟩ | ⟨q, o, rfl, rfl, ha, _⟩
    · cases m
    · rcases hh' with ⟨d, rfl, _, _⟩ | ⟨q', o', rfl, rfl, ha', _⟩
      · cases m'
      · rw [start_get hv] at si
        rw [start_get hw] at sj
        injection si with si
        injection si with si
        injection si with si
        injection sj with sj
        injection sj with sj
        injection sj with sj
        subst si sj
        rcases Nat.lt_or_gt_of_ne hij with hlt | hlt
        · exact muA_nodup nd hlt hv ha hw ha'
        · exact muA_nodup nd hlt hw ha' hv ha
  · unfold L2.start entG
    rw [List.length_append, List.length_append, List.length_map, entA_len ln, List.length_replicate, List.length_replicate]
theorem muA_cell : ∀ {vs : List V} {as : List AV}, Paired (AvOk K F H) vs as → ∀ p ∈ muA vs as, ∃ o, Cell K F H p o
  | _, _, .nil, p, h => by cases h
  | _, _, .cons (a := v) (b := a) (l₁ := vs) (l₂ := as) hv r, p, h => by
    rcases muA_cons (v := v) (vs := vs) (a := a) (as := as) with ⟨q, o, rfl, rfl, e⟩ | e
    · rw [e] at h
      rcases List.mem_cons.mp h with rfl | h
      · obtain ⟨q, e, c⟩ := hv
        injection e with e
        subst e
        exact ⟨o, c⟩
      · exact muA_cell r p h
    · rw [e] at h
      exact muA_cell r p h
/-- the arguments behind the body -/
def fitA : List V → List AV → Gm → List AV → Prop
  | [], [], _, as' => as' = []
  | _ :: vs, .fz d :: as, _ :: Γ, as' => ∃ r, as' = .fz d :: r ∧ fitA vs as Γ r
  | v :: vs, .mu _ :: as, e :: Γ, as' => ∃ o r, e = some (.par (adr v) o) ∧ as' = .mu o :: r ∧ fitA vs as Γ r
  | _, _, _, _ => False
theorem fit_ok : ∀ {vs : List V} {as : List AV} {Γ : Gm} {as' : List AV}, Paired (AvOk K F H) vs as → Same F F' → (∀ (i : Nat) p o, Γ[i]? = some (some (.par p o)) → Cell K F' H' p o) → fitA vs as Γ as' → Paired (AvOk K F' H') vs as'
  | _, _, _, as', .nil, _, _, h => by
    have h' : as' = [] := h
    subst h'
    exact .nil
  | _, _, Γ, as', .cons (a := v) (b := a) hv r, s, hc, h => by
    cases a with
    | fz d =>
      cases Γ with
      | nil => exact (show False from h).elim
      | cons e Γ =>
        obtain ⟨r', rfl, h'⟩ := h
        exact .cons (dp_same s hv) (fit_ok r s (fun i p o hi => hc (i + 1) p o hi) h')
    | mu o =>
      cases Γ with
      | nil => exact (show False from h).elim
      | cons e Γ =>
        obtain ⟨o', r', rfl, rfl, h'⟩ := h
        obtain ⟨p, rfl, c⟩ := hv
        exact .cons ⟨p, rfl, hc 0 p o' rfl⟩ (fit_ok r s (fun i p o hi => hc (i + 1) p o hi) h')
end
theorem fit_sh : ∀ {vs : List V} {as : List AV} {Γ : Gm} {as' : List AV}, fitA vs as Γ as' → ShA as as'
  | [], [], _, _, h => h
  | _ :: vs, .fz d :: as, _ :: Γ, as', h => by
    obtain ⟨r, rfl, h'⟩ := h
    exact ⟨r, rfl, fit_sh h'⟩
  | v :: vs, .mu _ :: as, e :: Γ, as', h => by
    obtain ⟨o, r, _, rfl, h'⟩ := h
    exact ⟨o, r, rfl, fit_sh h'⟩
  | _ :: _, .fz _ :: _, [], _, h => (show False from h).elim
  | _ :: _, .mu _ :: _, [], _, h => (show False from h).elim
  | [], _ :: _, _, _, h => (show False from h).elim
  | _ :: _, [], _, _, h => (show False from h).elim
/-- an exception of the class x at this state is what W wants -/
def Xw (Z : Zx) (W : WX) (x : Str) (Γ : Gm) : Prop := ∀ F H σ, Sta Z F H σ Γ → W (.ref (He.ga Z.K x)) none σ H
theorem Sta.par_cell {Z : Zx} {F H : Hp} {σ : St} {Γ : Gm} (S : Sta Z F H σ Γ) (i : Nat) (p : Addr) (o : DO) (h : Γ[i]? = some (some (.par p o))) : Cell Z.K F H p o := by
  obtain ⟨v, _, ok⟩ := S.sl i _ h
  exact ok.2.2
abbrev ZA (K : PySem.W.Frag) (F H : Hp) (vs : List V) (as : List AV) : Zx := ⟨K, F, H, muA vs as, []⟩
theorem sp_run {K : PySem.W.Frag} {Pre : List AV → Prop} {R : List AV → Out → List AV → Prop} {N : List Str} {vs : List V} {H : Hp} {Q : VK} {E : XK} {P : TS → Prop} (h : SpD K Pre R vs H Q E)
    (hb : ∀ F as, Pre as → vs.length = as.length → (∀ x Γ' as', fitA vs as Γ' as' → R as (.exc x) as' → Xw (ZA K F H vs as) (fun cls d _ H => E cls d H) x Γ') →
      ∃ t, P t ∧ Sd (ZA K F H vs as) t (entG N vs as) { nx := fun Γ' => ∃ as', fitA vs as Γ' as' ∧ R as (.ret (.fz .none)) as', rt := fun rv Γ' => ∃ as', fitA vs as Γ' as' ∧ R as (.ret rv) as' }) :
    ∃ t, P t ∧ t { nx := fun _ H' => Q .non H', rt := Q } (L2.start N vs) H := by
  obtain ⟨F, as, s, hp, nd, pre, q⟩ := h
  have fin : ∀ {F' H' : Hp} {σ' : St} {Γ' : Gm} {as' : List AV} {out : Out}, Sta (ZA K F H vs as) F' H' σ' Γ' → fitA vs as Γ' as' → R as out as' → match out with
      | .ret rv => ∀ v, RvP K H F' H' v rv → Q v H'
      | .exc x => E (.ref (He.ga K x)) none H' := fun {F' H' σ' Γ' as' out} S hf hr =>
    q out as' hr (fit_sh hf) F' H' ⟨S.ff, S.fh, S.hh, S.fr⟩ (fit_ok hp S.ff (fun i p o h => S.par_cell i p o h) hf)
  obtain ⟨t, hP, ht⟩ := hb F as pre (Paired.length hp) fun x Γ' as' hf hr F' H' σ' S => fin (out := .exc x) S hf hr
  refine ⟨t, hP, ht F H _ (sta0 s hp nd fun p hm z => ?_) _ (fun F' H' σ' Γ' ⟨as', hf, hr⟩ _ S => fin (out := .ret (.fz .none)) S hf hr .non .non) (fun v F' H' σ' rv Γ' ⟨as', hf, hr⟩ _ S ok => fin (out := .ret rv) S hf hr v ?_) (fun _ _ _ _ z => False.elim z) (fun _ _ _ _ z => False.elim z)⟩
  · obtain ⟨o, u, h1, _⟩ := muA_cell hp p hm
    rw [h1] at z
    cases z
  · cases rv with
    | fz d => exact ok
    | new o =>
      obtain ⟨p, rfl, n⟩ := ok
      exact ⟨p, rfl, n.h0, n.cell⟩
/-! ### a def by its name -/
structure Cl (P : Program) (w : World) (K : PySem.W.Frag) (mg : Str → Option Value) (base : Heap) (k : Nat) (x : Str) (sp : Sp) : Prop where
  ex : ∃ (f : Addr) (fd : FuncData) (ps : List Str), FnOk P w K mg base (L2N.CX P w) k f fd ps sp ∧ mg x = some (.ref f) ∧ PySem.W.keepIn K (.ref f) = true ∧ Binds K fd ps []
section
variable {P : Program} {w : World} {K : PySem.W.Frag} {mg : Str → Option Value} {base : Heap}
theorem Cl.mono {j k : Nat} {x : Str} {sp : Sp} (c : Cl P w K mg base j x sp) (h : j ≤ k) : Cl P w K mg base k x sp := by
  obtain ⟨f, fd, ps, F, r⟩ := c.ex
  exact ⟨f, fd, ps, F.mono h, r⟩
theorem mk_cl {x : Str} {st : Stmt} {N ps : List Str} {k : Nat} {Pre : List AV → Prop} {R : List AV → Out → List AV → Prop}
    (c : ∃ fd, FunD K x x (defArgs st) (defBody st) (defScope st) [] [] (He.ga K x) fd) (g : mg x = some (.ref (He.ga K x))) (S : FnScope N ps (defScope st))
    (hbind : ∀ (kV doc pm : Value) (an : Option Addr) (cdv ct : Value) (us : List Value), us.length = ps.length → bindArgs (PySem.W.fnOf x x (defArgs st) (defBody st) (defScope st) .none kV doc pm an cdv ct) ⟨us, []⟩ = pure (ps.zip us))
    (hlen : ∀ as, Pre as → as.length = ps.length)
    (body : ∀ (cdv : Value) (A : Around) (outer : List Env) (s : Shared) (H : Hp) (E : XK) (vs : List V) (F : Hp) (as : List AV), Room k (A.deeper (envOfC x (defScope st) s.heap.objs.size (He.ga K x) cdv)) → Pre as → vs.length = as.length →
      (∀ y Γ' as', fitA vs as Γ' as' → R as (.exc y) as' → Xw (ZA K F H vs as) (fun cls d _ H => E cls d H) y Γ') →
      ∃ t, PSs (cxOf (L2N.CX P w) P w K mg base N x (defScope st) (He.ga K x) cdv A outer s H E) (defBody st) t ∧
        Sd (ZA K F H vs as) t (entG N vs as) { nx := fun Γ' => ∃ as', fitA vs as Γ' as' ∧ R as (.ret (.fz .none)) as', rt := fun rv Γ' => ∃ as', fitA vs as Γ' as' ∧ R as (.ret rv) as' }) :
    Cl P w K mg base (k + 1) x (SpD K Pre R) := by
  obtain ⟨fd, FD⟩ := c
  refine ⟨_, fd, ps, FD.ok S (fun vs H Q E h => ?_) (fun cdv A outer s H vs Q E hr h => sp_run h fun F as pre hl hx => body cdv A outer s H E vs F as hr pre hl hx), g, FD.kp, FD.bindsN hbind⟩
  obtain ⟨F, as, _, hp, _, pre, _⟩ := h
  rw [Paired.length hp]
  exact hlen as pre
end
section
variable {X : Cx} {k j : Nat} {x : Str} {sp : Sp} {W : WX} {p pos : Pos} {e : Expr} {es : List Expr} {t : TA}
theorem tkN : L2N.Takes X (fun _ _ _ _ => False) := fun _ _ x => by
  obtain ⟨_, _, _, _, _, _, _, _, _, _, _, _, _, _, _, _, z⟩ := x
  exact z.elim
theorem pe_cl (c : Cl X.prog X.w X.K X.mg X.base k x sp) (hr : Room j X.A) (hk : k ≤ j) (hg : Gl X x) (tk : L2N.Takes X W) (ha : PA X (e :: es) t) (hdb : (x == ("__debug__" : Str)) = false := by decide)
    (he : starEach (e :: es) X.env = (false, eval e X.env) :: starEach es X.env := by rfl) (hpl : (backTo pos (starEach es X.env)).any (·.1) = false := by rfl) :
    PE X (.Call (.Name x p) (e :: es) [] pos) (tCallS sp (WE W) t) := by
  obtain ⟨f, fd, ps, F, hm, hkp, hb⟩ := c.ex
  exact pe_callS F (hr.mono hk) hg hm hkp hb (fun σ => L2N.passAt tk σ) ha hdb he hpl
end
/-! ### calls over data -/
/-- an argument: data, or the slot of a cell -/
abbrev GA := PyData ⊕ Nat
def GaOk (K : PySem.W.Frag) (F : Hp) (σ : St) (v : V) : GA → Prop
  | .inl d => Dq K F v d
  | .inr k => σ[k]? = some (some v)
def Eg (Z : Zx) (ta : TA) (Γ : Gm) (R : List GA → Gm → Prop) : Prop := ∀ F H σ, Sta Z F H σ Γ → ∀ Q : List V → Hp → Prop, (∀ vs F' H' xs Γ', R xs Γ' → Same F F' → Sta Z F' H' σ Γ' → Paired (GaOk Z.K F' σ) vs xs → Q vs H') → ta σ H Q
theorem gaOk_same {K : PySem.W.Frag} {F F' : Hp} {σ : St} {v : V} {a : GA} (s : Same F F') (h : GaOk K F σ v a) : GaOk K F' σ v a := by
  cases a with
  | inl d => exact dp_same s h
  | inr k => exact h
section
variable {Z : Zx} {Γ : Gm} {te : TE} {tr : TA} {F H F' H' : Hp} {σ : St}
theorem ga_nil {R : List GA → Gm → Prop} (r : R [] Γ) : Eg Z tNil Γ R := fun F H σ S Q q => q [] F H [] Γ r (Same.refl _) S .nil
theorem ga_cons {R : List GA → Gm → Prop} (h : Ed Z te Γ fun d Γ1 => Eg Z tr Γ1 fun xs Γ2 => R (.inl d :: xs) Γ2) : Eg Z (tCons te tr) Γ R := fun F H σ S Q q =>
  h F H σ S _ fun v F1 H1 d Γ1 hr s1 S1 hv => hr F1 H1 σ S1 _ fun vs F2 H2 xs Γ2 r s2 S2 hvs => q (v :: vs) F2 H2 (.inl d :: xs) Γ2 r (s1.trans s2) S2 (.cons (dp_same s2 hv) hvs)
theorem ga_cell {R : List GA → Gm → Prop} {k : Nat} (hc : ∃ o, cl Γ k = some o) (h : Eg Z tr Γ fun xs Γ2 => R (.inr k :: xs) Γ2) : Eg Z (tCons (tVar k) tr) Γ R := fun F H σ S Q q => by
  obtain ⟨o, ho⟩ := hc
  obtain ⟨p, u, g1, _⟩ := S.rd ho
  exact ⟨_, g1, h F H σ S _ fun vs F2 H2 xs Γ2 r s2 S2 hvs => q (.ref p :: vs) F2 H2 (.inr k :: xs) Γ2 r s2 S2 (.cons g1 hvs)⟩
def avs (Γ : Gm) : List GA → List AV → Prop
  | [], as => as = []
  | .inl d :: xs, as => ∃ r, as = .fz d :: r ∧ avs Γ xs r
  | .inr k :: xs, as => ∃ o r, cl Γ k = some o ∧ as = .mu o :: r ∧ avs Γ xs r
def slots : List GA → List Nat
  | [] => []
  | .inl _ :: xs => slots xs
  | .inr k :: xs => k :: slots xs
/-- the cells behind a call -/
def setA (Γ : Gm) : List GA → List AV → Gm
  | .inl _ :: xs, _ :: as => setA Γ xs as
  | .inr k :: xs, .mu o :: as => setA (wr Γ k o) xs as
  | _, _ => Γ
theorem avs_ok : ∀ {xs : List GA} {as : List AV} {vs : List V}, Sta Z F H σ Γ → avs Γ xs as → Paired (GaOk Z.K F σ) vs xs → Paired (AvOk Z.K F H) vs as
  | [], as, _, S, h, .nil => by
    have h' : as = [] := h
    subst h'
    exact .nil
  | .inl d :: xs, as, _, S, h, .cons hv r => by
    obtain ⟨r', rfl, h'⟩ := h
    exact .cons hv (avs_ok S h' r)
  | .inr k :: xs, as, _, S, h, .cons (a := v) hv r => by
    obtain ⟨o, r', hc, rfl, h'⟩ := h
    obtain ⟨e, h1, h2, h3, _⟩ := cl_at hc
    obtain ⟨p, u, g1, g2, g3, g4⟩ := S.at_ h1 h2
    have e1 : v = .ref p := by
      have hv' : σ[k]? = some (some v) := hv
      rw [g1] at hv'
      injection hv' with hv'
      injection hv' with hv'
      exact hv'.symm
    exact .cons ⟨p, e1, u, g2, g3, g4⟩ (avs_ok S h' r)
theorem avs_mu : ∀ {xs : List GA} {as : List AV} {vs : List V} {p : Addr}, Sta Z F H σ Γ → avs Γ xs as → Paired (GaOk Z.K F σ) vs xs → p ∈ muA vs as → ∃ k ∈ slots xs, ∃ e, Γ[k]? = some (some e) ∧ e.mut = true ∧ σ[k]? = some (some (.ref p))
  | [], as, _, p, S, h, .nil, hm => by
    have h' : as = [] := h
    subst h'
    cases hm
  | .inl d :: xs, as, _, p, S, h, .cons (a := v) (l₁ := vs) hv r, hm => by
    obtain ⟨r', rfl, h'⟩ := h
    have e : muA (v :: vs) (.fz d :: r') = muA vs r' := by cases v <;> rfl
    rw [e] at hm
    exact avs_mu (xs := xs) S h' r hm
  | .inr k :: xs, as, _, p, S, h, .cons (a := v) (l₁ := vs) hv r, hm => by
    obtain ⟨o, r', hc, rfl, h'⟩ := h
    obtain ⟨e, h1, h2, h3, _⟩ := cl_at hc
    rcases muA_cons (v := v) (vs := vs) (a := .mu o) (as := r') with ⟨q, o2, rfl, _, eq⟩ | eq
    · rw [eq] at hm
      rcases List.mem_cons.mp hm with rfl | hm
      · exact ⟨k, List.mem_cons_self, e, h1, h3, hv⟩
      · obtain ⟨k', hk', r2⟩ := avs_mu S h' r hm
        exact ⟨k', List.mem_cons_of_mem _ hk', r2⟩
    · rw [eq] at hm
      obtain ⟨k', hk', r2⟩ := avs_mu S h' r hm
      exact ⟨k', List.mem_cons_of_mem _ hk', r2⟩
theorem avs_nodup : ∀ {xs : List GA} {as : List AV} {vs : List V}, Sta Z F H σ Γ → avs Γ xs as → Paired (GaOk Z.K F σ) vs xs → (slots xs).Nodup → (muA vs as).Nodup
  | [], as, _, S, h, .nil, _ => by
    have h' : as = [] := h
    subst h'
    exact List.nodup_nil
  | .inl d :: xs, as, _, S, h, .cons (a := v) (l₁ := vs) hv r, nd => by
    obtain ⟨r', rfl, h'⟩ := h
    have e : muA (v :: vs) (.fz d :: r') = muA vs r' := by cases v <;> rfl
    rw [e]
    exact avs_nodup S h' r nd
  | .inr k :: xs, as, _, S, h, .cons (a := v) (l₁ := vs) hv r, nd => by
    obtain ⟨o, r', hc, rfl, h'⟩ := h
    obtain ⟨n1, n2⟩ := List.nodup_cons.mp (show (k :: slots xs).Nodup from nd)
    have ih := avs_nodup S h' r n2
    obtain ⟨e, h1, h2, h3, _⟩ := cl_at hc
    rcases muA_cons (v := v) (vs := vs) (a := .mu o) (as := r') with ⟨q, o2, rfl, _, eq⟩ | eq
    · rw [eq]
      refine List.nodup_cons.mpr ⟨fun hm => ?_, ih⟩
      obtain ⟨k', hk', e', g1, g2, g3⟩ := avs_mu S h' r hm
      exact S.dj k k' e e' q (fun z => n1 (by rw [z]; exact hk')) h1 g1 h3 g2 hv g3
    · rw [eq]
      exact ih
theorem cl_wr {k k' : Nat} {o o' : DO} (h : cl Γ k' = some o) : ∃ o2, cl (wr Γ k o') k' = some o2 := by
  unfold wr
  cases q : Γ[k]? with
  | none => exact ⟨o, h⟩
  | some x =>
    cases x with
    | none => exact ⟨o, h⟩
    | some e =>
      by_cases hk : k = k'
      · subst hk
        have hl : k < Γ.length := (List.getElem?_eq_some_iff.mp q).1
        unfold cl at h ⊢
        rw [q] at h
        dsimp only
        rw [get_set_eq hl]
        cases e with
        | fz d => cases h
        | own x => exact ⟨o', rfl⟩
        | par p x => exact ⟨o', rfl⟩
      · refine ⟨o, ?_⟩
        unfold cl at h ⊢
        dsimp only
        rw [get_set_ne hk]
        exact h
def ShG : List GA → List AV → Prop
  | [], as => as = []
  | .inl d :: xs, as => ∃ r, as = .fz d :: r ∧ ShG xs r
  | .inr _ :: xs, as => ∃ o r, as = .mu o :: r ∧ ShG xs r
theorem shG_of : ∀ {xs : List GA} {as as' : List AV}, avs Γ xs as → ShA as as' → ShG xs as'
  | [], as, as', h, s => by
    have h' : as = [] := h
    subst h'
    exact s
  | .inl d :: xs, as, as', h, s => by
    obtain ⟨r, rfl, h'⟩ := h
    obtain ⟨r', rfl, s'⟩ := s
    exact ⟨r', rfl, shG_of h' s'⟩
  | .inr k :: xs, as, as', h, s => by
    obtain ⟨o, r, _, rfl, h'⟩ := h
    obtain ⟨o', r', rfl, s'⟩ := s
    exact ⟨o', r', rfl, shG_of h' s'⟩
theorem muA_sh : ∀ {vs : List V} {as as' : List AV}, ShA as as' → muA vs as = muA vs as'
  | vs, [], as', s => by
    have s' : as' = [] := s
    subst s'
    rfl
  | [], .fz d :: as, as', s => by
    obtain ⟨r, rfl, _⟩ := s
    rfl
  | [], .mu d :: as, as', s => by
    obtain ⟨o, r, rfl, _⟩ := s
    rfl
  | v :: vs, .fz d :: as, as', s => by
    obtain ⟨r, rfl, s'⟩ := s
    have e1 : muA (v :: vs) (.fz d :: as) = muA vs as := by cases v <;> rfl
    have e2 : muA (v :: vs) (.fz d :: r) = muA vs r := by cases v <;> rfl
    rw [e1, e2, muA_sh s']
  | v :: vs, .mu d :: as, as', s => by
    obtain ⟨o, r, rfl, s'⟩ := s
    have ih := muA_sh (vs := vs) s'
    cases v with
    | ref p =>
      show p :: muA vs as = p :: muA vs r
      rw [ih]
    | _ => exact ih
theorem cells_of : ∀ {xs : List GA} {as : List AV}, avs Γ xs as → ∀ k ∈ slots xs, ∃ o, cl Γ k = some o
  | [], _, _, k, hk => by cases hk
  | .inl d :: xs, as, h, k, hk => by
    obtain ⟨r, _, h'⟩ := h
    exact cells_of (xs := xs) h' k hk
  | .inr j :: xs, as, h, k, hk => by
    obtain ⟨o, r, hc, _, h'⟩ := h
    rcases List.mem_cons.mp (show k ∈ j :: slots xs from hk) with rfl | hk
    · exact ⟨o, hc⟩
    · exact cells_of h' k hk
theorem setA_sta : ∀ {xs : List GA} {as' : List AV} {vs : List V} {Γ : Gm} {Hm : Hp}, Sta Z F Hm σ Γ → (∀ k ∈ slots xs, ∃ o, cl Γ k = some o) → Paired (GaOk Z.K F σ) vs xs → Paired (AvOk Z.K F H') vs as' → ShG xs as' → ∃ Hx, Sta Z F Hx σ (setA Γ xs as') ∧ (∀ a, a ∈ muA vs as' → Hx a = H' a) ∧ (∀ a, a ∉ muA vs as' → Hx a = Hm a)
  | _, _, _, Γ, Hm, S, _, .nil, .nil, _ => ⟨Hm, S, ⟨fun a h => absurd (show a ∈ ([] : List Addr) from h) (by simp), fun a _ => rfl⟩⟩
  | .inl d :: xs, _, _, Γ, Hm, S, hc, .cons (a := v) (l₁ := vs) hv r, .cons (b := a') (l₂ := as') ha ra, sh => by
    obtain ⟨r', er, sh'⟩ := sh
    obtain ⟨rfl, rfl⟩ := List.cons.inj er
    have e : muA (v :: vs) (.fz d :: as') = muA vs as' := by cases v <;> rfl
    obtain ⟨Hx, S', h1, h2⟩ := setA_sta (xs := xs) S hc r ra sh'
    exact ⟨Hx, S', fun a => by rw [e]; exact h1 a, fun a => by rw [e]; exact h2 a⟩
  | .inr k :: xs, _, _, Γ, Hm, S, hc, .cons (a := v) (l₁ := vs) hv r, .cons (b := a') (l₂ := as') ha ra, sh => by
    obtain ⟨o, r', er, sh'⟩ := sh
    obtain ⟨rfl, rfl⟩ := List.cons.inj er
    obtain ⟨q, rfl, u, g1, g2, g3⟩ := ha
    obtain ⟨o0, c0⟩ := hc k List.mem_cons_self
    obtain ⟨p, u0, k1, k2, k3, k4⟩ := S.rd c0
    have hv' : σ[k]? = some (some (.ref q)) := hv
    rw [k1] at hv'
    injection hv' with hv'
    injection hv' with hv'
    injection hv' with hv'
    subst hv'
    obtain ⟨Hx, S', h1, h2⟩ := setA_sta (Γ := wr Γ k o) (k4 u o g3) (fun k' hk' => by
      obtain ⟨o1, c1⟩ := hc k' (List.mem_cons_of_mem _ hk')
      exact cl_wr c1) r ra sh'
    refine ⟨Hx, S', fun a ha' => ?_, fun a ha' => ?_⟩
    · by_cases hm : a ∈ muA vs as'
      · exact h1 a hm
      · have ea : a = p := (List.mem_cons.mp (show a ∈ p :: muA vs as' from ha')).elim id fun z => absurd z hm
        rw [h2 a hm, ea, upd_same, g1]
    · have hn : a ≠ p := fun z => ha' (show a ∈ p :: muA vs as' from by rw [z]; exact List.mem_cons_self)
      rw [h2 a (fun z => ha' (show a ∈ p :: muA vs as' from List.mem_cons_of_mem _ z)), upd_ne hn]
/-- the state behind a call -/
theorem after_call {xs : List GA} {as as' : List AV} {vs : List V} (S : Sta Z F H σ Γ) (ha : avs Γ xs as) (hg : Paired (GaOk Z.K F σ) vs xs) (st : Stp F H (muA vs as) F' H') (hp : Paired (AvOk Z.K F' H') vs as') (sh : ShA as as') : Sta Z F' H' σ (setA Γ xs as') := by
  have cell : ∀ p ∈ muA vs as, ∃ u, H p = some u ∧ F p = none := fun p hm => by
    obtain ⟨o, u, h1, h2, _⟩ := muA_cell (avs_ok S ha hg) p hm
    exact ⟨u, h1, h2⟩
  have frz : ∀ {a : Addr} {u : HO}, H a = some u → F' a = F a := fun {a u} h => st.fr a u h
  have keep : ∀ {a : Addr} {u : HO}, H a = some u → (if a ∈ muA vs as then H a else H' a) = some u := fun {a u} h => by
    by_cases hm : a ∈ muA vs as
    · rw [if_pos hm]
      exact h
    · rw [if_neg hm]
      exact st.hh a u hm h
  have S1 : Sta Z F' (fun a => if a ∈ muA vs as then H a else H' a) σ Γ := by
    refine ⟨S.ff.trans st.ff, fun b o e => ?_, fun a o hm h => keep (S.hh a o hm h), fun a o h => ?_, fun p hp' => ?_, fun i e hi => ?_, S.dj, S.ln, fun q hq => ?_⟩
    · show (if b ∈ muA vs as then H b else H' b) = some o
      by_cases hm : b ∈ muA vs as
      · obtain ⟨u, h1, h2⟩ := cell b hm
        rw [frz h1, h2] at e
        cases e
      · rw [if_neg hm]
        exact st.fh b o e
    · have : ∃ u, H a = some u := by
        by_cases hm : a ∈ Z.ps
        · cases q : H a with
          | none => exact absurd q (S.pp a hm)
          | some u => exact ⟨u, rfl⟩
        · exact ⟨o, S.hh a o hm h⟩
      obtain ⟨u, hu⟩ := this
      rw [frz hu]
      exact S.fr a o h
    · cases q : H p with
      | none => exact absurd q (S.pp p hp')
      | some u =>
        intro z
        have z1 := keep q
        have z2 : (if p ∈ muA vs as then H p else H' p) = none := by
          rw [q]
          exact z
        rw [z2] at z1
        cases z1
    · obtain ⟨v, hv, ok⟩ := S.sl i e hi
      refine ⟨v, hv, ?_⟩
      have go : ∀ {q : Addr} {x : DO}, Cell Z.K F H q x → Cell Z.K F' (fun a => if a ∈ muA vs as then H a else H' a) q x := fun {q x} c => by
        obtain ⟨u, h1, h2, h3⟩ := c
        exact ⟨u, keep h1, by rw [frz h1]; exact h2, hoOk_same st.ff h3⟩
      cases e with
      | fz d => exact dp_same st.ff ok
      | own x =>
        obtain ⟨q, rfl, h0, c⟩ := ok
        exact ⟨q, rfl, h0, go c⟩
      | par q x => exact ⟨ok.1, ok.2.1, go ok.2.2⟩
    · obtain ⟨x1, x2, x3⟩ := S.xn q hq
      exact ⟨keep x1, by rw [frz x1]; exact x2, x3⟩
  have hg' : Paired (GaOk Z.K F' σ) vs xs := Paired.mapP hg fun v a h => gaOk_same st.ff h
  obtain ⟨Hx, S2, h1, h2⟩ := setA_sta S1 (cells_of ha) hg' hp (shG_of ha sh)
  have e : Hx = H' := by
    funext a
    by_cases hm : a ∈ muA vs as'
    · exact h1 a hm
    · rw [h2 a hm, if_neg (by rw [muA_sh sh]; exact hm)]
  rw [← e]
  exact S2
theorem wr_mut {k j : Nat} {o : DO} {e : Ent} (h : (wr Γ k o)[j]? = some (some e)) (m : e.mut = true) : ∃ e0, Γ[j]? = some (some e0) ∧ e0.mut = true := by
  unfold wr at h
  cases q : Γ[k]? with
  | none => rw [q] at h; exact ⟨e, h, m⟩
  | some x =>
    rw [q] at h
    cases x with
    | none => exact ⟨e, h, m⟩
    | some e1 =>
      by_cases hk : k = j
      · subst hk
        have hl : k < Γ.length := (List.getElem?_eq_some_iff.mp q).1
        have h' : (Γ.set k (some (e1.with o)))[k]? = some (some e) := h
        rw [get_set_eq hl] at h'
        injection h' with h'
        injection h' with h'
        refine ⟨e1, q, ?_⟩
        subst h'
        cases e1 with
        | fz d => cases m
        | own x => rfl
        | par p x => rfl
      · have h' : (Γ.set k (some (e1.with o)))[j]? = some (some e) := h
        rw [get_set_ne hk] at h'
        exact ⟨e, h', m⟩
theorem setA_mut : ∀ {xs : List GA} {as : List AV} {Γ : Gm} {j : Nat} {e : Ent}, (setA Γ xs as)[j]? = some (some e) → e.mut = true → ∃ e0, Γ[j]? = some (some e0) ∧ e0.mut = true
  | [], as, Γ, j, e, h, m => ⟨e, h, m⟩
  | .inl d :: xs, [], Γ, j, e, h, m => ⟨e, h, m⟩
  | .inl d :: xs, _ :: as, Γ, j, e, h, m => setA_mut (xs := xs) (as := as) h m
  | .inr k :: xs, [], Γ, j, e, h, m => ⟨e, h, m⟩
  | .inr k :: xs, .fz d :: as, Γ, j, e, h, m => ⟨e, h, m⟩
  | .inr k :: xs, .mu o :: as, Γ, j, e, h, m => by
    obtain ⟨e0, h0, m0⟩ := setA_mut (xs := xs) (as := as) (Γ := wr Γ k o) h m
    exact wr_mut h0 m0
theorem new_call {xs : List GA} {as as' : List AV} {vs : List V} {p : Addr} {o : DO} (S : Sta Z F H σ Γ) (hp0 : H p = none) (c : Cell Z.K F' H' p o) : New Z F' H' σ (setA Γ xs as') p o := by
  refine ⟨S.free0 hp0, c, fun j e hj m hs => ?_, fun x hx z => ?_⟩
  · obtain ⟨e0, h0, m0⟩ := setA_mut hj m
    obtain ⟨v, hv, ok⟩ := S.sl j e0 h0
    obtain ⟨q, x, rfl, u, h1, _⟩ := ok.cell m0
    rw [hs] at hv
    injection hv with hv
    injection hv with hv
    injection hv with hv
    rw [← hv, hp0] at h1
    cases h1
  · have x1 := (S.xn x hx).1
    rw [z, hp0] at x1
    cases x1
/-- a call for its value -/
theorem e_call {K : PySem.W.Frag} {Pre : List AV → Prop} {R : List AV → Out → List AV → Prop} {W : WX} {ta : TA} {Q : PyData → Gm → Prop} (hK : K = Z.K)
    (h : Eg Z ta Γ fun xs Γ1 => ∃ as, avs Γ1 xs as ∧ (slots xs).Nodup ∧ Pre as ∧ ∀ out as', R as out as' → ShA as as' → match out with
      | .ret (.fz d) => Q d (setA Γ1 xs as')
      | .ret (.new (.lst ds)) => Q (.list ds) (setA Γ1 xs as')
      | .ret (.new _) => False
      | .exc x => Xw Z W x (setA Γ1 xs as')) : Ed Z (tCallS (SpD K Pre R) (WE W) ta) Γ Q := fun F H σ S Q' q =>
  h F H σ S _ fun vs F1 H1 xs Γ1 ⟨as, ha, nd, pre, hr⟩ s1 S1 hg => by
    subst hK
    refine ⟨F1, as, S1.fh, avs_ok S1 ha hg, avs_nodup S1 ha hg nd, pre, fun out as' r sh F2 H2 st hp => ?_⟩
    have S2 := after_call S1 ha hg st hp sh
    have h' := hr out as' r sh
    cases out with
    | exc x => exact h' F2 H2 σ S2
    | ret rv =>
      intro v hv
      cases rv with
      | fz d => exact q v F2 H2 d _ h' (s1.trans st.ff) S2 hv
      | new o =>
        cases o with
        | lst ds =>
          obtain ⟨p, rfl, hp0, c⟩ := hv
          obtain ⟨u, c1, c2, c3⟩ := c
          have n : New Z F2 H2 σ (setA Γ1 xs as') p (.lst ds) := new_call (as := as) (vs := vs) S1 hp0 ⟨u, c1, c2, c3⟩
          obtain ⟨w, g1, g2, g3, S3⟩ := S2.freeze n
          cases w with
          | lst ws => exact q (.ref p) _ H2 (.list ds) _ h' ((s1.trans st.ff).trans g3) S3 (.lst (.inl (.inl upd_same)) (dpa_same g3 g2))
          | _ => exact g2.elim
        | _ => exact (show False from h').elim
/-- a call for the new thing it gives -/
theorem n_call {K : PySem.W.Frag} {Pre : List AV → Prop} {R : List AV → Out → List AV → Prop} {W : WX} {ta : TA} {Q : DO → Gm → Prop} (hK : K = Z.K)
    (h : Eg Z ta Γ fun xs Γ1 => ∃ as, avs Γ1 xs as ∧ (slots xs).Nodup ∧ Pre as ∧ ∀ out as', R as out as' → ShA as as' → match out with
      | .ret (.fz _) => False
      | .ret (.new o) => Q o (setA Γ1 xs as')
      | .exc x => Xw Z W x (setA Γ1 xs as')) : En Z (tCallS (SpD K Pre R) (WE W) ta) Γ Q := fun F H σ S Q' q =>
  h F H σ S _ fun vs F1 H1 xs Γ1 ⟨as, ha, nd, pre, hr⟩ s1 S1 hg => by
    subst hK
    refine ⟨F1, as, S1.fh, avs_ok S1 ha hg, avs_nodup S1 ha hg nd, pre, fun out as' r sh F2 H2 st hp => ?_⟩
    have S2 := after_call S1 ha hg st hp sh
    have h' := hr out as' r sh
    cases out with
    | exc x => exact h' F2 H2 σ S2
    | ret rv =>
      intro v hv
      cases rv with
      | fz d => exact (show False from h').elim
      | new o =>
        obtain ⟨p, rfl, hp0, c⟩ := hv
        exact q p F2 H2 o _ h' (s1.trans st.ff) S2 (new_call (as := as) (vs := vs) S1 hp0 c)
/-! ### raise -/
theorem s_raise {W : WX} {x : Str} {E : DE} (h : Xw Z W x Γ) : Sd Z (fun _ σ H => (fun (_ : St) (H : Hp) (Q : XK) => Q (.ref (He.ga Z.K x)) none H) σ H fun cls d H' => W cls d σ H') Γ E := fun F H σ S D _ _ _ _ => h F H σ S
end
end Dl

set_option Elab.async false
set_option linter.all false
set_option autoImplicit false
set_option maxRecDepth 100000
set_option maxHeartbeats 4000000
namespace Dl
open PySem PySem.Spec PyProof.Rows L2
/-! ### promises with a ghost -/
def SpG (K : PySem.W.Frag) {G : Type} (args : G → List AV) (pre : G → Prop) (res : G → Out → List AV → Prop) : Sp := fun vs H Q E => ∃ g, pre g ∧ SpD K (fun as => as = args g) (fun _ out as' => res g out as') vs H Q E
/-- the ends of a def's body -/
structure EndsG (vs : List V) (as : List AV) (R : Out → List AV → Prop) (E : DE) : Prop where
  nx : ∀ {Γ' : Gm} {as' : List AV}, fitA vs as Γ' as' → R (.ret (.fz .none)) as' → E.nx Γ'
  rt : ∀ {rv : RV} {Γ' : Gm} {as' : List AV}, fitA vs as Γ' as' → R (.ret rv) as' → E.rt rv Γ'
theorem fit_nil {Γ : Gm} : fitA [] [] Γ [] := rfl
theorem fit_fz {v : V} {vs : List V} {d : PyData} {as r : List AV} {e : Option Ent} {Γ : Gm} (h : fitA vs as Γ r) : fitA (v :: vs) (.fz d :: as) (e :: Γ) (.fz d :: r) := ⟨r, rfl, h⟩
theorem fit_mu {v : V} {vs : List V} {o o' : DO} {as r : List AV} {Γ : Gm} (h : fitA vs as Γ r) : fitA (v :: vs) (.mu o :: as) (some (.par (adr v) o') :: Γ) (.mu o' :: r) := ⟨o', r, rfl, rfl, h⟩
/-- what a raise wants -/
def Exw (Z : Zx) (vs : List V) (as : List AV) (R : Out → List AV → Prop) (E : XK) : Prop := ∀ y Γ' as', fitA vs as Γ' as' → R (.exc y) as' → Xw Z (fun cls d _ H => E cls d H) y Γ'
section
variable {P : Program} {w : World} {K : PySem.W.Frag} {mg : Str → Option Value} {base : Heap}
def Fd (K : PySem.W.Frag) (mg : Str → Option Value) (x : Str) (st : Stmt) : Prop := (∃ fd, FunD K x x (defArgs st) (defBody st) (defScope st) [] [] (He.ga K x) fd) ∧ mg x = some (.ref (He.ga K x))
theorem mk_clG {x : Str} {st : Stmt} {N ps : List Str} {k : Nat} {G : Type} {args : G → List AV} {pre : G → Prop} {res : G → Out → List AV → Prop}
    (D : Fd K mg x st) (S : FnScope N ps (defScope st))
    (hbind : ∀ (kV doc pm : Value) (an : Option Addr) (cdv ct : Value) (us : List Value), us.length = ps.length → bindArgs (PySem.W.fnOf x x (defArgs st) (defBody st) (defScope st) .none kV doc pm an cdv ct) ⟨us, []⟩ = pure (ps.zip us))
    (hlen : ∀ g, (args g).length = ps.length)
    (body : ∀ (cdv : Value) (A : Around) (outer : List Env) (s : Shared) (H : Hp) (E : XK), Room k (A.deeper (envOfC x (defScope st) s.heap.objs.size (He.ga K x) cdv)) →
      ∃ t, PSs (cxOf (L2N.CX P w) P w K mg base N x (defScope st) (He.ga K x) cdv A outer s H E) (defBody st) t ∧
        ∀ (g : G) (vs : List V), pre g → vs.length = (args g).length → ∀ (Zf Zh : Hp) (zp : List Addr) (ee : DE), EndsG vs (args g) (res g) ee → Exw ⟨K, Zf, Zh, zp, []⟩ vs (args g) (res g) E →
          Sd ⟨K, Zf, Zh, zp, []⟩ t (entG N vs (args g)) ee) :
    Cl P w K mg base (k + 1) x (SpG K args pre res) := by
  obtain ⟨⟨fd, FD⟩, g0⟩ := D
  refine ⟨_, fd, ps, FD.ok S (fun vs H Q E h => ?_) (fun cdv A outer s H vs Q E hr h => ?_), g0, FD.kp, FD.bindsN hbind⟩
  · obtain ⟨g, hg, F, as, _, hp, _, pre, _⟩ := h
    rw [Paired.length hp, pre]
    exact hlen g
  · obtain ⟨g, hg, h⟩ := h
    obtain ⟨t, ht, hw⟩ := body cdv A outer s H E hr
    refine sp_run h fun F as pre hl hx => ?_
    subst pre
    exact ⟨t, ht, hw g vs hg hl F H _ _ ⟨fun hf hr' => ⟨_, hf, hr'⟩, fun hf hr' => ⟨_, hf, hr'⟩⟩ fun y Γ' as' hf hr' => hx y Γ' as' hf hr'⟩
theorem mk_fnG {x : Str} {st : Stmt} {N ps : List Str} {k : Nat} {G : Type} {args : G → List AV} {pre : G → Prop} {res : G → Out → List AV → Prop}
    (S : FnScope N ps (defScope st))
    (hlen : ∀ g, (args g).length = ps.length)
    (body : ∀ (cdv : Value) (A : Around) (outer : List Env) (s : Shared) (H : Hp) (E : XK), Room k (A.deeper (envOfC x (defScope st) s.heap.objs.size (He.ga K x) cdv)) →
      ∃ t, PSs (cxOf (L2N.CX P w) P w K mg base N x (defScope st) (He.ga K x) cdv A outer s H E) (defBody st) t ∧
        ∀ (g : G) (vs : List V), pre g → vs.length = (args g).length → ∀ (Zf Zh : Hp) (zp : List Addr) (ee : DE), EndsG vs (args g) (res g) ee → Exw ⟨K, Zf, Zh, zp, []⟩ vs (args g) (res g) E →
          Sd ⟨K, Zf, Zh, zp, []⟩ t (entG N vs (args g)) ee) :
    ∀ fd, FunD K x x (defArgs st) (defBody st) (defScope st) [] [] (He.ga K x) fd → FnOk P w K mg base (L2N.CX P w) (k + 1) (He.ga K x) fd ps (SpG K args pre res) := by
  intro fd FD
  refine FD.ok S (fun vs H Q E h => ?_) (fun cdv A outer s H vs Q E hr h => ?_)
  · obtain ⟨g, hg, F, as, _, hp, _, pre, _⟩ := h
    rw [Paired.length hp, pre]
    exact hlen g
  · obtain ⟨g, hg, h⟩ := h
    obtain ⟨t, ht, hw⟩ := body cdv A outer s H E hr
    refine sp_run h fun F as pre hl hx => ?_
    subst pre
    exact ⟨t, ht, hw g vs hg hl F H _ _ ⟨fun hf hr' => ⟨_, hf, hr'⟩, fun hf hr' => ⟨_, hf, hr'⟩⟩ fun y Γ' as' hf hr' => hx y Γ' as' hf hr'⟩
end
section
variable {Z : Zx} {Γ : Gm} {te : TE} {tr : TA} {F H F' H' : Hp} {σ : St}
theorem e_callG {K : PySem.W.Frag} {G : Type} {args : G → List AV} {pre : G → Prop} {res : G → Out → List AV → Prop} {W : WX} {ta : TA} {Q : PyData → Gm → Prop} (hK : K = Z.K)
    (h : Eg Z ta Γ fun xs Γ1 => ∃ g, avs Γ1 xs (args g) ∧ (slots xs).Nodup ∧ pre g ∧ ∀ out as', res g out as' → ShA (args g) as' → match out with
      | .ret (.fz d) => Q d (setA Γ1 xs as')
      | .ret (.new (.lst ds)) => Q (.list ds) (setA Γ1 xs as')
      | .ret (.new _) => False
      | .exc x => Xw Z W x (setA Γ1 xs as')) : Ed Z (tCallS (SpG K args pre res) (WE W) ta) Γ Q := fun F H σ S Q' q =>
  h F H σ S _ fun vs F1 H1 xs Γ1 ⟨g, ha, nd, hg, hr⟩ s1 S1 hga => by
    subst hK
    refine ⟨g, hg, F1, _, S1.fh, avs_ok S1 ha hga, avs_nodup S1 ha hga nd, rfl, fun out as' r sh F2 H2 st hp => ?_⟩
    have S2 := after_call S1 ha hga st hp sh
    have h' := hr out as' r sh
    cases out with
    | exc x => exact h' F2 H2 σ S2
    | ret rv =>
      intro v hv
      cases rv with
      | fz d => exact q v F2 H2 d _ h' (s1.trans st.ff) S2 hv
      | new o =>
        cases o with
        | lst ds =>
          obtain ⟨p, rfl, hp0, c⟩ := hv
          obtain ⟨u, c1, c2, c3⟩ := c
          have n : New Z F2 H2 σ (setA Γ1 xs as') p (.lst ds) := new_call (as := args g) (vs := vs) S1 hp0 ⟨u, c1, c2, c3⟩
          obtain ⟨w, g1, g2, g3, S3⟩ := S2.freeze n
          cases w with
          | lst ws => exact q (.ref p) _ H2 (.list ds) _ h' ((s1.trans st.ff).trans g3) S3 (.lst (.inl (.inl upd_same)) (dpa_same g3 g2))
          | _ => exact g2.elim
        | _ => exact (show False from h').elim
theorem n_callG {K : PySem.W.Frag} {G : Type} {args : G → List AV} {pre : G → Prop} {res : G → Out → List AV → Prop} {W : WX} {ta : TA} {Q : DO → Gm → Prop} (hK : K = Z.K)
    (h : Eg Z ta Γ fun xs Γ1 => ∃ g, avs Γ1 xs (args g) ∧ (slots xs).Nodup ∧ pre g ∧ ∀ out as', res g out as' → ShA (args g) as' → match out with
      | .ret (.fz _) => False
      | .ret (.new o) => Q o (setA Γ1 xs as')
      | .exc x => Xw Z W x (setA Γ1 xs as')) : En Z (tCallS (SpG K args pre res) (WE W) ta) Γ Q := fun F H σ S Q' q =>
  h F H σ S _ fun vs F1 H1 xs Γ1 ⟨g, ha, nd, hg, hr⟩ s1 S1 hga => by
    subst hK
    refine ⟨g, hg, F1, _, S1.fh, avs_ok S1 ha hga, avs_nodup S1 ha hga nd, rfl, fun out as' r sh F2 H2 st hp => ?_⟩
    have S2 := after_call S1 ha hga st hp sh
    have h' := hr out as' r sh
    cases out with
    | exc x => exact h' F2 H2 σ S2
    | ret rv =>
      intro v hv
      cases rv with
      | fz d => exact (show False from h').elim
      | new o =>
        obtain ⟨p, rfl, hp0, c⟩ := hv
        exact q p F2 H2 o _ h' (s1.trans st.ff) S2 (new_call (as := args g) (vs := vs) S1 hp0 c)
/-! ### a text many times -/
def rMulS : R2 := fun x y H Q => ∃ i n, x = .str i ∧ y = .int n ∧ MulOk i n ∧ Q (.str (Txt.mul i n)) H
theorem op_mulS {X : Cx} : OpR X (binaryOp .Mult) rMulS := by
  intro pins s σ H x y v u Q I rx ry h
  obtain ⟨i, n, rfl, rfl, hz, q⟩ := h
  obtain ⟨t, rfl⟩ := rx
  obtain ⟨t', rfl⟩ := ry
  exact SB.mul hz (fun t' tk => ⟨.str (Txt.mul i n), H, I.tok _, ⟨_, rfl⟩, q⟩)
theorem o_mulS {R : PyData → Gm → Prop} {x : Str} {n : Int} (hm : MulOk x n) (r : R (.str (Txt.mul x n)) Γ) : Ro Z rMulS (.str x) (.int n) Γ R := fun F H σ v w S hv hw Q q => by
  cases hv
  cases hw
  exact ⟨x, n, rfl, rfl, hm, q _ F H _ Γ r (Same.refl _) S (.str _)⟩
/-! ### try .. except .. as -/
abbrev Zx.at_ (Z : Zx) (F : Hp) : Zx := { Z with F0 := F }
theorem Sta.rebase (S : Sta Z F H σ Γ) : Sta (Z.at_ F) F H σ Γ :=
  ⟨Same.refl _, S.fh, S.hh, fun _ _ _ => rfl, S.pp, fun i e h => by
    obtain ⟨v, h1, ok⟩ := S.sl i e h
    exact ⟨v, h1, by cases e <;> exact ok⟩, S.dj, S.ln, S.xn⟩
theorem Sta.unbase {F0 : Hp} {σ' : St} {Γ' : Gm} (S0 : Sta Z F0 H σ Γ) (S : Sta (Z.at_ F0) F' H' σ' Γ') : Same F0 F' ∧ Sta Z F' H' σ' Γ' :=
  ⟨S.ff, S0.ff.trans S.ff, S.fh, S.hh, fun a o h => (S.fr a o h).trans (S0.fr a o h), S.pp, fun i e h => by
    obtain ⟨v, h1, ok⟩ := S.sl i e h
    exact ⟨v, h1, by cases e <;> exact ok⟩, S.dj, S.ln, S.xn⟩
/-- XR: what may be raised, where; the suite, of the raw state -/
theorem s_tryAs {K : PySem.W.Frag} {c : Value} {i : Nat} {tb : WX → TS} {ts : Addr → Value → Option Addr → TS} {Wout : WX} {E : DE} (XR : Str → Gm → Prop) (hK : Z.K = K)
    (hb : ∀ (F0 : Hp) (W : WX), (∀ y Γ', XR y Γ' → Xw (Z.at_ F0) W y Γ') → Sd (Z.at_ F0) (tb W) Γ E)
    (hx : ∀ y Γ', XR y Γ' → PySem.W.exmOne K (.ref (He.ga K y)) c = some true)
    (hs : ∀ y Γ', XR y Γ' → ∀ F H σ, Sta Z F H σ Γ' → ∀ a, H a = none → ∀ D : Ends, (∀ F' H' σ' Γ2, E.nx Γ2 → Same F F' → Sta Z F' H' (σ'.set i none) Γ2 → D.nx σ' H') → ts a (.ref (He.ga K y)) none D (σ.set i (some (.ref a))) H) :
    Sd Z (fun D σ H => tb (wAs K c i ts Wout D) D σ H) Γ E := fun F H σ S D n r b cc => by
  refine hb F (wAs K c i ts Wout D) (fun y Γ' xr F1 H1 σ1 S1 => ?_) F H σ S.rebase D (fun F' H' σ' Γ' e s S' => n F' H' σ' Γ' e s (S.unbase S').2) (fun v F' H' σ' rv Γ' e s S' ok => r v F' H' σ' rv Γ' e s (S.unbase S').2 ?_) (fun F' H' σ' Γ' e s S' => b F' H' σ' Γ' e s (S.unbase S').2) (fun F' H' σ' Γ' e s S' => cc F' H' σ' Γ' e s (S.unbase S').2)
  · obtain ⟨sm, S2⟩ := S.unbase S1
    subst hK
    refine ⟨true, hx y Γ' xr, fun _ a ha => ?_, fun z => nomatch z⟩
    exact hs y Γ' xr F1 H1 σ1 S2 a ha _ fun F' H' σ' Γ2 e s S' => n F' H' _ Γ2 e (sm.trans s) S'
  · cases rv with
    | fz d => exact ok
    | new o =>
      obtain ⟨p, e1, nw⟩ := ok
      exact ⟨p, e1, ⟨nw.h0, nw.cell, nw.no, nw.np⟩⟩
end
end Dl

set_option Elab.async false
set_option linter.all false
set_option maxRecDepth 100000
set_option maxHeartbeats 1000000
namespace Dl
section
open PySem PySem.AutoSeq1
theorem add_gen (l : Addr) (items : Array Value) (n : Nat) (b : Addr) (items2 : Array Value) (n2 : Nat) (d1 d2 : Option Addr) (s1 s2 : Array (Option Value)) (hc0 : items.size + items2.size ≤ sizeLine) :
    Meets (Builtin.«list.__add__» ⟨[.ref l, .ref b], []⟩) (fun _ R s => s.heap.get? l = some { cls := .type "list", dict := d1, data := .seq items n, slots := s1 } ∧ s.heap.get? b = some { cls := .type "list", dict := d2, data := .seq items2 n2, slots := s2 } ∧ R (.ok (.ret (Value.ref s.heap.objs.size))) { s with heap := s.heap.push { cls := Value.type "list", data := Data.seq (items ++ items2) }, toks := s.toks }) :=
  .of_wp fun prog w A R s h => by obtain ⟨hp, g, d, tk, os⟩ := s; obtain ⟨hl, hb, h⟩ := h; have f1 := idx_int; have f2 := sub_tuple_tuple; have f3 := sub_list_list; have f4 := sub_tuple_list; have f5 := sub_list_tuple; wp_walk using wpAny_loadPart' hl, wpAny_loadPart' hb; exact ⟨_, rfl, h⟩
end
open PySem PySem.Spec PyProof.Rows L2
/-! ### list + list, of any lists -/
def rCatS (K : PySem.W.Frag) : R2 := fun x y H Q => ∃ l b xs zs, x = .ref l ∧ y = .ref b ∧ SqL K H l xs ∧ SqL K H b zs ∧ xs.length + zs.length ≤ sizeLine ∧ ∀ p, H p = none → Q (.ref p) (upd H p (.lst (xs ++ zs)))
theorem op_catS {X : Cx} : OpR X (binaryOp .Add) (rCatS X.K) := by
  intro pins s σ H x y v u Q I rx ry h
  obtain ⟨l, b, xs, zs, rfl, rfl, hH, hB, hz, q⟩ := h
  cases rx
  cases ry
  obtain ⟨its, r, pl, hl⟩ := I.list hH
  obtain ⟨its2, r2, pl2, hl2⟩ := I.list hB
  obtain ⟨o, n, e, c, _, dd⟩ := pl
  obtain ⟨o2, n2, e2, c2, _, dd2⟩ := pl2
  obtain ⟨oc, od, oda, osl⟩ := o
  obtain ⟨oc2, od2, oda2, osl2⟩ := o2
  dsimp only at c c2 dd dd2
  subst c c2 dd dd2
  have hs : its.toArray.size + its2.toArray.size ≤ sizeLine := by
    rw [List.size_toArray, List.size_toArray, ← r.length, ← r2.length]
    exact hz
  refine concat_meets ⟨_, e, rfl⟩ ⟨_, e2, rfl⟩ noFill_list_add seq_list_add F.slot_list_add F.entry_list_add (F.args_list_add_2 _ _) (add_gen l its.toArray n b its2.toArray n2 od od2 osl osl2 hs) ⟨e, e2, ?_⟩
  have ea : its.toArray ++ its2.toArray = (its ++ its2).toArray := by simp
  rw [ea]
  exact ⟨.ref _, _, I.lnew (t' := s.toks) (r.append r2) (by rw [List.length_append]; omega), rfl, q _ I.fresh⟩
section
variable {Z : Zx} {Γ : Gm} {R : PyData → Gm → Prop} {ta tb te : TE} {F H : Hp} {σ : St} {E : DE}
theorem o_cat {ds es : List PyData} (hl : ds.length + es.length ≤ 100000) (r : R (.list (ds ++ es)) Γ) : Ro Z (rCatS Z.K) (.list ds) (.list es) Γ R := fun F H σ v w S hv hw Q q => by
  cases hv with
  | @lst _ xs1 _ h1 a1 =>
    cases hw with
    | @lst _ xs2 _ h2 a2 =>
      refine ⟨_, _, _, _, rfl, rfl, S.fh.seq h1, S.fh.seq h2, ?_, fun p hp => ?_⟩
      · rw [dpa_len a1, dpa_len a2]
        exact Nat.le_trans hl (by decide)
      · have g := upd_grow (u := .lst (xs1 ++ xs2)) (S.freeF hp)
        exact q _ _ _ _ Γ r g (S.frozen hp _) (.lst (.inl (.inl upd_same)) (dpa_same g (dpa_app a1 a2)))
theorem n_catS {R : DO → Gm → Prop} (h : Ed Z ta Γ fun x Γ1 => Ed Z tb Γ1 fun y Γ2 => ∃ ds es, x = .list ds ∧ y = .list es ∧ ds.length + es.length ≤ 100000 ∧ R (.lst (ds ++ es)) Γ2) : En Z (tOp (rCatS Z.K) ta tb) Γ R := fun F H σ S Q q =>
  h F H σ S _ fun v F1 H1 d Γ1 h2 s1 S1 hv => h2 F1 H1 σ S1 _ fun w F2 H2 d2 Γ2 ⟨ds, es, e1, e2, hl, r⟩ s2 S2 hw => by
    subst e1 e2
    cases dp_same s2 hv with
    | lst h1 a1 =>
      cases hw with
      | lst h2 a2 =>
        refine ⟨_, _, _, _, rfl, rfl, S2.fh.seq h1, S2.fh.seq h2, ?_, fun p hp => ?_⟩
        · rw [dpa_len a1, dpa_len a2]
          exact Nat.le_trans hl (by decide)
        · obtain ⟨S4, n⟩ := S2.laid (p := p) hp (u := .lst (_ ++ _)) (o := .lst (ds ++ es)) (dpa_app a1 a2)
          exact q p F2 _ _ Γ2 r (s1.trans s2) S4 n
/-- the left one a cell -/
theorem n_catSO {R : DO → Gm → Prop} {k : Nat} (h0 : ∃ o, cl Γ k = some o) (h : Ed Z tb Γ fun y Γ2 => ∃ ds es, y = .list es ∧ cl Γ2 k = some (.lst ds) ∧ ds.length + es.length ≤ 100000 ∧ R (.lst (ds ++ es)) Γ2) : En Z (tOp (rCatS Z.K) (tVar k) tb) Γ R := fun F H σ S Q q => by
  obtain ⟨o, ho⟩ := h0
  obtain ⟨p, u, g1, _⟩ := S.rd ho
  refine ⟨_, g1, h F H σ S _ fun w F2 H2 d2 Γ2 ⟨ds, es, e2, hc, hl, r⟩ s2 S2 hw => ?_⟩
  subst e2
  obtain ⟨p', vs, g2, g3, g4, _⟩ := S2.rdL hc
  rw [g1] at g2
  injection g2 with g2
  injection g2 with g2
  injection g2 with g2
  subst g2
  cases hw with
  | lst h2 a2 =>
    refine ⟨_, _, _, _, rfl, rfl, .inl (.inl g3), S2.fh.seq h2, ?_, fun l hl' => ?_⟩
    · rw [dpa_len g4, dpa_len a2]
      exact Nat.le_trans hl (by decide)
    · obtain ⟨S4, n⟩ := S2.laid (p := l) hl' (u := .lst (_ ++ _)) (o := .lst (ds ++ es)) (dpa_app g4 a2)
      exact q l F2 _ _ Γ2 r s2 S4 n
theorem e_slL {tl th : TO} (h : Ed Z te Γ fun d Γ1 => ∃ ds, d = .list ds ∧ Eo Z tl Γ1 fun lo Γ2 => Eo Z th Γ2 fun hi Γ3 => R (.list (cutD ds lo hi)) Γ3) : Ed Z (tSl (rSlL Z.K) te tl th) Γ R :=
  e_new (n_slL (h.imp fun d Γ1 ⟨ds, e, h2⟩ => ⟨ds, e, fun F H σ S Q q => h2 F H σ S Q fun o F' H' Γ' r => q o F' H' Γ' fun F H σ S Q q => r F H σ S Q fun o F' H' Γ' r => q o F' H' Γ' ⟨_, rfl, r⟩⟩))
/-! ### loops, the rest apart -/
def ForI (Z : Zx) (g : TG) (tb u : TS) (E : DE) (ds : List PyData) (Γ : Gm) : Prop := ∃ I : Nat → Gm → Prop, I 0 Γ ∧ (∀ i d Γ', ds[i]? = some d → I i Γ' → Gt Z g d Γ' fun Γ2 => Sd Z tb Γ2 { nx := I (i + 1), rt := E.rt, bk := fun Γ' => Sd Z u Γ' E, ct := I (i + 1) }) ∧ ∀ Γ', I ds.length Γ' → Sd Z u Γ' E
theorem for_by {g : TG} {tb u : TS} {ds : List PyData} (I : Nat → Gm → Prop) (h0 : I 0 Γ) (hs : ∀ i d Γ', ds[i]? = some d → I i Γ' → Gt Z g d Γ' fun Γ2 => Sd Z tb Γ2 { nx := I (i + 1), rt := E.rt, bk := fun Γ' => Sd Z u Γ' E, ct := I (i + 1) }) (hd : ∀ Γ', I ds.length Γ' → Sd Z u Γ' E) : ForI Z g tb u E ds Γ := ⟨I, h0, hs, hd⟩
theorem s_forI {wi : TI} {g : TG} {tb u : TS} (h : Ei Z wi Γ (ForI Z g tb u E)) : Sd Z (tSeq (tFor wi g tb) u) Γ E := by
  refine s_seq (s_for ?_)
  intro F H σ S Q q
  refine h F H σ S Q fun J F' H' ds Γ' r => q J F' H' ds Γ' ?_
  exact r
def WhI (Z : Zx) (tc : TT) (tb u : TS) (E : DE) (Γ : Gm) : Prop := ∃ (I : Nat → Gm → Prop) (m0 : Nat), I m0 Γ ∧ ∀ m Γ', I m Γ' → Et Z tc Γ' fun b Γ2 => (b = true → Sd Z tb Γ2 { nx := fun Γ3 => ∃ m', m' < m ∧ I m' Γ3, rt := E.rt, bk := fun Γ' => Sd Z u Γ' E, ct := fun Γ3 => ∃ m', m' < m ∧ I m' Γ3 }) ∧ (b = false → Sd Z u Γ2 E)
theorem while_by {tc : TT} {tb u : TS} (I : Nat → Gm → Prop) (m0 : Nat) (h0 : I m0 Γ) (hs : ∀ m Γ', I m Γ' → Et Z tc Γ' fun b Γ2 => (b = true → Sd Z tb Γ2 { nx := fun Γ3 => ∃ m', m' < m ∧ I m' Γ3, rt := E.rt, bk := fun Γ' => Sd Z u Γ' E, ct := fun Γ3 => ∃ m', m' < m ∧ I m' Γ3 }) ∧ (b = false → Sd Z u Γ2 E)) : WhI Z tc tb u E Γ := ⟨I, m0, h0, hs⟩
theorem s_whileI {tc : TT} {tb u : TS} (h : WhI Z tc tb u E Γ) : Sd Z (tSeq (tWhile tc tb) u) Γ E := by
  obtain ⟨I, m0, h0, hs⟩ := h
  exact s_seq (s_while I m0 h0 hs)
end
end Dl

set_option Elab.async false
set_option linter.all false
set_option autoImplicit false
set_option maxRecDepth 100000
set_option maxHeartbeats 1000000
namespace Dl
open PySem PySem.Spec PyProof.Rows L2
/-! ### shapes of data, for == -/
def Shp (n : Nat) (d : PyData) : Prop := d.canLay0 = true ∧ d.depth ≤ n
theorem Shp.mono {m n : Nat} {d : PyData} (h : Shp m d) (e : m ≤ n) : Shp n d := ⟨h.1, Nat.le_trans h.2 e⟩
theorem Shp.ok {n : Nat} {d : PyData} (h : Shp n d) (e : n ≤ 64) : SeqAt.shaped d = true := by
  unfold SeqAt.shaped
  rw [h.1, decide_eq_true (Nat.le_trans h.2 e)]
  rfl
theorem shp_int {n : Nat} {i : Int} : Shp n (.int i) := ⟨rfl, Nat.zero_le _⟩
theorem shp_none {n : Nat} : Shp n .none := ⟨rfl, Nat.zero_le _⟩
theorem shp_bool {n : Nat} {i : Bool} : Shp n (.bool i) := ⟨rfl, Nat.zero_le _⟩
theorem shp_all {n : Nat} : ∀ {ds : List PyData}, (∀ d ∈ ds, Shp n d) → PyData.canLayAll0 ds = true ∧ PyData.depthAll ds ≤ n
  | [], _ => ⟨rfl, Nat.zero_le _⟩
  | d :: ds, h => by
    obtain ⟨h1, h2⟩ := h d List.mem_cons_self
    obtain ⟨h3, h4⟩ := shp_all (ds := ds) fun x hx => h x (List.mem_cons_of_mem _ hx)
    refine ⟨?_, ?_⟩
    · unfold PyData.canLayAll0
      rw [h1, h3]
      rfl
    · unfold PyData.depthAll
      exact Nat.max_le.mpr ⟨h2, h4⟩
theorem shp_list {n : Nat} {ds : List PyData} (h : ∀ d ∈ ds, Shp n d) : Shp (n + 1) (.list ds) := by
  obtain ⟨h1, h2⟩ := shp_all h
  refine ⟨?_, ?_⟩
  · unfold PyData.canLay0
    exact h1
  · unfold PyData.depth
    exact Nat.succ_le_succ h2
theorem shp_tuple {n : Nat} {ds : List PyData} (h : ∀ d ∈ ds, Shp n d) : Shp (n + 1) (.tuple ds) := by
  obtain ⟨h1, h2⟩ := shp_all h
  refine ⟨?_, ?_⟩
  · unfold PyData.canLay0
    exact h1
  · unfold PyData.depth
    exact Nat.succ_le_succ h2
theorem shp_ints {is : List Int} : Shp 1 (.list (is.map PyData.int)) := shp_list fun d hd => by
  obtain ⟨i, _, rfl⟩ := List.mem_map.mp hd
  exact shp_int
theorem shaped_ints {is : List Int} : SeqAt.shaped (.list (is.map PyData.int)) = true := shp_ints.ok (by decide)
theorem eqv_ints : ∀ {a b : List Int}, PyData.eqvAll (a.map PyData.int) (b.map PyData.int) = decide (a = b)
  | [], [] => by unfold PyData.eqvAll; rfl
  | [], _ :: _ => by unfold PyData.eqvAll; rfl
  | _ :: _, [] => by unfold PyData.eqvAll; rfl
  | i :: a, j :: b => by
    show PyData.eqvAll (.int i :: a.map PyData.int) (.int j :: b.map PyData.int) = _
    unfold PyData.eqvAll PyData.eqv
    rw [eqv_ints]
    by_cases h1 : i = j
    · by_cases h2 : a = b
      · simp [h1, h2]
      · simp [h1, h2]
    · simp [h1]
theorem eqv_listI {a b : List Int} : PyData.eqv (.list (a.map PyData.int)) (.list (b.map PyData.int)) = decide (a = b) := by
  unfold PyData.eqv
  exact eqv_ints
theorem eqv_nil {ds : List PyData} : PyData.eqv (.list ds) (.list []) = ds.isEmpty := by
  unfold PyData.eqv
  cases ds <;> (unfold PyData.eqvAll; rfl)
theorem atI_nat' {α : Type} {l : List α} {i : Nat} {x : α} (h : l[i]? = some x) : atI l (i : Int) = some x := atI_nat h
/-- an operation that hands on what it is told of its result -/
theorem Ro.imp {Z : Zx} {r : R2} {x y : PyData} {Γ : Gm} {R R' : PyData → Gm → Prop} (h : Ro Z r x y Γ R) (hi : ∀ d Γ', R d Γ' → R' d Γ') : Ro Z r x y Γ R' := fun F H σ v w S hv hw Q q => h F H σ v w S hv hw Q fun z F' H' d Γ' r => q z F' H' d Γ' (hi d Γ' r)
/-- text[i], a place from 0 on -/
theorem o_ixSn {Z : Zx} {Γ : Gm} {R : PyData → Gm → Prop} {x : Str} {i : Nat} {c : Nat} (hl : x.length ≤ sizeLine) (h : x.cps.toList[i]? = some c) (r : R (.str ⟨#[c]⟩) Γ) : Ro Z rIxS (.str x) (.int (i : Nat)) Γ R := o_ixS hl (atI_nat h) r
/-- the last of a cell -/
theorem atI_last' {α : Type} {l : List α} {x : α} : atI (l ++ [x]) (-1) = some x := atI_last l x
/-- a promise that is never asked for -/
theorem cl_never {P : Program} {w : World} {K : PySem.W.Frag} {mg : Str → Option Value} {base : Heap} {x : Str} {st : Stmt} {ps : List Str} {k : Nat} {G : Type} {args : G → List AV} {pre : G → Prop} {res : G → Out → List AV → Prop}
    (D : Fd K mg x st)
    (hbind : ∀ (kV doc pm : Value) (an : Option Addr) (cdv ct : Value) (us : List Value), us.length = ps.length → bindArgs (PySem.W.fnOf x x (defArgs st) (defBody st) (defScope st) .none kV doc pm an cdv ct) ⟨us, []⟩ = pure (ps.zip us))
    (no : ∀ g, ¬ pre g) : Cl P w K mg base k x (SpG K args pre res) := by
  obtain ⟨⟨fd, FD⟩, g0⟩ := D
  exact ⟨_, fd, ps, ⟨fun vs H Q E h => by obtain ⟨g, hg, _⟩ := h; exact (no g hg).elim, fun A outer s H args us vs Q E _ _ _ _ h => by obtain ⟨g, hg, _⟩ := h; exact (no g hg).elim⟩, g0, FD.kp, FD.bindsN hbind⟩
theorem kit_str {K : PySem.W.Frag} : ∀ {d : PyData}, PySem.W.kitOne K (.type (tyD d)) (.type "str") = some (match d with | .str _ => true | _ => false)
  | .none => (kit_ty (show kitB "NoneType" "str" = some false by decide +kernel) : _)
  | .bool _ => (kit_ty (show kitB "bool" "str" = some false by decide +kernel) : _)
  | .int _ => (kit_ty (show kitB "int" "str" = some false by decide +kernel) : _)
  | .str _ => (kit_ty (show kitB "str" "str" = some true by decide +kernel) : _)
  | .list _ => (kit_ty (show kitB "list" "str" = some false by decide +kernel) : _)
  | .tuple _ => (kit_ty (show kitB "tuple" "str" = some false by decide +kernel) : _)
  | .dict _ => (kit_ty (show kitB "dict" "str" = some false by decide +kernel) : _)
theorem kit_list {K : PySem.W.Frag} : ∀ {d : PyData}, PySem.W.kitOne K (.type (tyD d)) (.type "list") = some (match d with | .list _ => true | _ => false)
  | .none => (kit_ty (show kitB "NoneType" "list" = some false by decide +kernel) : _)
  | .bool _ => (kit_ty (show kitB "bool" "list" = some false by decide +kernel) : _)
  | .int _ => (kit_ty (show kitB "int" "list" = some false by decide +kernel) : _)
  | .str _ => (kit_ty (show kitB "str" "list" = some false by decide +kernel) : _)
  | .list _ => (kit_ty (show kitB "list" "list" = some true by decide +kernel) : _)
  | .tuple _ => (kit_ty (show kitB "tuple" "list" = some false by decide +kernel) : _)
  | .dict _ => (kit_ty (show kitB "dict" "list" = some false by decide +kernel) : _)
theorem kit_tuple {K : PySem.W.Frag} : ∀ {d : PyData}, PySem.W.kitOne K (.type (tyD d)) (.type "tuple") = some (match d with | .tuple _ => true | _ => false)
  | .none => (kit_ty (show kitB "NoneType" "tuple" = some false by decide +kernel) : _)
  | .bool _ => (kit_ty (show kitB "bool" "tuple" = some false by decide +kernel) : _)
  | .int _ => (kit_ty (show kitB "int" "tuple" = some false by decide +kernel) : _)
  | .str _ => (kit_ty (show kitB "str" "tuple" = some false by decide +kernel) : _)
  | .list _ => (kit_ty (show kitB "list" "tuple" = some false by decide +kernel) : _)
  | .tuple _ => (kit_ty (show kitB "tuple" "tuple" = some true by decide +kernel) : _)
  | .dict _ => (kit_ty (show kitB "dict" "tuple" = some false by decide +kernel) : _)
theorem s_ifB {Z : Zx} {Γ : Gm} {tc : TT} {t u : TS} {E : DE} (B : Bool) (ht : Et Z tc Γ fun b Γ1 => b = B ∧ Γ1 = Γ) (h1 : B = true → Sd Z t Γ E) (h2 : B = false → Sd Z u Γ E) : Sd Z (tIfS tc t u) Γ E :=
  s_if (ht.imp fun b Γ1 ⟨e1, e2⟩ => by subst e1 e2; exact ⟨h1, h2⟩)
theorem e_isi2 {Z : Zx} {Γ : Gm} {ta : TE} {R : PyData → Gm → Prop} {n : String} (h : Ed Z ta Γ fun d Γ1 => ∃ b, PySem.W.kitOne Z.K (.type (tyD d)) (.type n) = some b ∧ R (.bool b) Γ1) : Ed Z (tCB (rIsi Z.K) (tCons ta (tCons (tC (.ty n)) tNil))) Γ R := e_isi (b := true) h
end Dl

set_option Elab.async false
set_option linter.all false
set_option autoImplicit false
set_option maxRecDepth 100000
set_option maxHeartbeats 1000000
namespace Dl
open PySem PySem.Spec PyProof.Rows L2
section
variable {Z : Zx} {Γ : Gm} {te : TE} {F H F' H' : Hp} {σ : St} {p : Addr} {o : DO}
/-- behind a call that was handed a new thing which no slot holds -/
theorem after_new (S : Sta Z F H σ Γ) (n : New Z F H σ Γ p o) (st : Stp F H [p] F' H') (hp : H' p ≠ none) : Sta Z F' H' σ Γ := by
  have ne : ∀ {a : Addr} {u : HO}, Z.H0 a = some u → a ∉ [p] := fun {a u} h z => by
    have e := List.mem_singleton.mp z
    rw [e, n.h0] at h
    cases h
  have mv : ∀ {q : Addr} {o : DO}, q ≠ p → Cell Z.K F H q o → Cell Z.K F' H' q o := fun {q o} hq ⟨u, h1, h2, h3⟩ =>
    ⟨u, st.hh q u (fun z => hq (List.mem_singleton.mp z)) h1, (st.fr q u h1).trans h2, hoOk_same st.ff h3⟩
  refine ⟨S.ff.trans st.ff, st.fh, fun a u ha h => st.hh a u (ne h) (S.hh a u ha h), fun a u h => ?_, fun q hq => ?_, fun i e h => ?_, S.dj, S.ln, fun q hq => ?_⟩
  · by_cases ha : a ∈ Z.ps
    · have h2 := S.pp a ha
      cases hq : H a with
      | none => exact absurd hq h2
      | some u2 => exact (st.fr a u2 hq).trans (S.fr a u h)
    · exact (st.fr a u (S.hh a u ha h)).trans (S.fr a u h)
  · by_cases e : q = p
    · rw [e]
      exact hp
    · have h2 := S.pp q hq
      cases hq2 : H q with
      | none => exact absurd hq2 h2
      | some u2 =>
        rw [st.hh q u2 (fun z => e (List.mem_singleton.mp z)) hq2]
        exact fun z => nomatch z
  · obtain ⟨v, h1, ok⟩ := S.sl i e h
    refine ⟨v, h1, ?_⟩
    cases e with
    | fz d => exact dp_same st.ff ok
    | own o2 =>
      obtain ⟨q, rfl, h0, c⟩ := ok
      exact ⟨q, rfl, h0, mv (fun z => n.no i _ h rfl (by rw [h1, z])) c⟩
    | par q o2 =>
      obtain ⟨rfl, h0, c⟩ := ok
      exact ⟨rfl, h0, mv (fun z => n.no i _ h rfl (by rw [h1, z])) c⟩
  · obtain ⟨g1, g2, g3⟩ := S.xn q hq
    exact ⟨st.hh q.1 q.2 (fun z => n.np q hq (List.mem_singleton.mp z)) g1, (st.fr q.1 q.2 g1).trans g2, g3⟩
/-- f(e), e a new thing that f may change -/
theorem e_callN {K : PySem.W.Frag} {G : Type} {args : G → List AV} {pre : G → Prop} {res : G → Out → List AV → Prop} {W : WX} {Q : PyData → Gm → Prop} (hK : K = Z.K)
    (h : En Z te Γ fun o Γ1 => ∃ g, args g = [.mu o] ∧ pre g ∧ ∀ out as', res g out as' → ShA [.mu o] as' → match out with
      | .ret (.fz d) => Q d Γ1
      | .ret (.new _) => False
      | .exc x => Xw Z W x Γ1) : Ed Z (tCallS (SpG K args pre res) (WE W) (tCons te tNil)) Γ Q := fun F H σ S Q' q =>
  h F H σ S _ fun p F1 H1 o Γ1 ⟨g, hg, hpre, hr⟩ s1 S1 n => by
    subst hK
    refine ⟨g, hpre, F1, [.mu o], S1.fh, .cons ⟨p, rfl, n.cell⟩ .nil, List.nodup_cons.mpr ⟨fun z => (nomatch z), .nil⟩, hg.symm, fun out as' r sh F2 H2 st hp => ?_⟩
    have hp2 : H2 p ≠ none := by
      obtain ⟨o2, r2, e, e2⟩ := sh
      have e3 : r2 = [] := e2
      subst e3 e
      cases hp with
      | cons h1 _ =>
        obtain ⟨q, e, u, h2, _⟩ := h1
        injection e with e
        rw [e, h2]
        exact fun z => nomatch z
    have S2 := after_new S1 n st hp2
    have h' := hr out as' r sh
    cases out with
    | exc x => exact h' F2 H2 σ S2
    | ret rv =>
      intro v hv
      cases rv with
      | fz d => exact q v F2 H2 d _ h' (s1.trans st.ff) S2 hv
      | new o => exact (show False from h').elim
/-- a loop that may be left: J at the end and at a break -/
theorem for_byB {E : DE} {g : TG} {tb u : TS} {ds : List PyData} (I : Nat → Gm → Prop) (J : Gm → Prop) (h0 : I 0 Γ) (hs : ∀ i d Γ', ds[i]? = some d → I i Γ' → Gt Z g d Γ' fun Γ2 => Sd Z tb Γ2 { nx := I (i + 1), rt := E.rt, bk := J, ct := I (i + 1) }) (hd : ∀ Γ', I ds.length Γ' → J Γ') (hj : ∀ Γ', J Γ' → Sd Z u Γ' E) : ForI Z g tb u E ds Γ := by
  refine for_by I h0 (fun i d Γ' hd' hI F H σ v S hv Q q => ?_) fun Γ' h => hj _ (hd _ h)
  exact hs i d Γ' hd' hI F H σ v S hv Q fun σ' Γ2 r => q σ' Γ2 (r.imp (fun _ h => h) (fun _ _ h => h) hj fun _ h => h)
end
/-! ### slices of texts -/
theorem cutS_hi {x : Str} {k : Nat} : (cutS x none (some (k : Int))).cps.toList = x.cps.toList.take k := by
  unfold cutS
  have e : x.length = x.cps.toList.length := by simp [Str.length]
  rw [HT.sIx_none, HT.sIx_nat]
  show (x.cps.toList.drop 0).take (min k x.length - 0) = _
  rw [List.drop_zero, Nat.sub_zero, e, ← List.take_take, List.take_length]
theorem cutS_lo {x : Str} {k : Nat} : (cutS x (some (k : Int)) none).cps.toList = x.cps.toList.drop k := by
  unfold cutS
  have e : x.length = x.cps.toList.length := by simp [Str.length]
  rw [HT.sIx_none, HT.sIx_nat]
  show (x.cps.toList.drop (min k x.length)).take (x.length - min k x.length) = _
  rw [e]
  rw [List.take_of_length_le (by rw [List.length_drop]; omega)]
  by_cases h : k ≤ x.cps.toList.length
  · rw [Nat.min_eq_left h]
  · rw [Nat.min_eq_right (by omega), List.drop_length, List.drop_eq_nil_of_le (by omega)]
theorem cutS_hi_len {x : Str} {k : Nat} : (cutS x none (some (k : Int))).length = min k x.length := by
  have e : ∀ x : Str, x.length = x.cps.toList.length := fun x => by simp [Str.length]
  rw [e, cutS_hi, List.length_take, e x]
theorem cutS_lo_len {x : Str} {k : Nat} : (cutS x (some (k : Int)) none).length = x.length - k := by
  have e : ∀ x : Str, x.length = x.cps.toList.length := fun x => by simp [Str.length]
  rw [e, cutS_lo, List.length_drop, e x]
end Dl

set_option Elab.async false
set_option linter.all false
set_option autoImplicit false
set_option maxRecDepth 100000
set_option maxHeartbeats 1000000
namespace Dl
open PySem PySem.Spec PyProof.Rows L2 Px
section
variable {Z : Zx} {Γ : Gm} {F H F' H' : Hp} {σ : St} {p : Addr} {o : DO}
theorem Cell.up {K : PySem.W.Frag} (c : Cell K F H p o) (s : Same H H') : Cell K F H' p o := by
  obtain ⟨u, h1, h2, h3⟩ := c
  exact ⟨u, s _ _ h1, h2, h3⟩
theorem Sta.up (S : Sta Z F H σ Γ) (s : Same H H') : Sta Z F H' σ Γ := by
  refine ⟨S.ff, S.fh.trans s, fun a u ha h => s _ _ (S.hh a u ha h), S.fr, fun q hq z => ?_, fun i e h => ?_, S.dj, S.ln, fun q hq => ?_⟩
  · cases hq2 : H q with
    | none => exact S.pp q hq hq2
    | some u =>
      rw [s _ _ hq2] at z
      cases z
  · obtain ⟨v, h1, ok⟩ := S.sl i e h
    refine ⟨v, h1, ?_⟩
    cases e with
    | fz d => exact ok
    | own o2 =>
      obtain ⟨q, e1, h0, c⟩ := ok
      exact ⟨q, e1, h0, c.up s⟩
    | par q o2 =>
      obtain ⟨e1, h0, c⟩ := ok
      exact ⟨e1, h0, c.up s⟩
  · obtain ⟨g1, g2, g3⟩ := S.xn q hq
    exact ⟨s _ _ g1, g2, g3⟩
theorem new_of (S : Sta Z F H σ Γ) (hp : H p = none) (c : Cell Z.K F H' p o) : New Z F H' σ Γ p o := by
  refine ⟨S.free0 hp, c, fun j e hj m hs => ?_, fun x hx z => ?_⟩
  · obtain ⟨v, hv, ok⟩ := S.sl j e hj
    obtain ⟨q, x, rfl, u, h1, _⟩ := ok.cell m
    rw [hs] at hv
    injection hv with hv
    injection hv with hv
    injection hv with hv
    rw [← hv, hp] at h1
    cases h1
  · have x1 := (S.xn x hx).1
    rw [z, hp] at x1
    cases x1
theorem Sta.setn {i : Nat} {x : Option V} (S : Sta Z F H σ Γ) (hi : Γ[i]? = some none) : Sta Z F H (σ.set i x) Γ := by
  have ne : ∀ {j : Nat} {e : Ent}, Γ[j]? = some (some e) → i ≠ j := fun {j e} h z => by
    rw [← z, hi] at h
    cases h
  refine ⟨S.ff, S.fh, S.hh, S.fr, S.pp, fun j e h => ?_, fun j k e e' q hjk hj hk m m' s1 s2 => ?_, by rw [List.length_set]; exact S.ln, fun q hq => ?_⟩
  · obtain ⟨v, h1, ok⟩ := S.sl j e h
    exact ⟨v, (get_set_ne (ne h)).trans h1, ok⟩
  · rw [get_set_ne (ne hj)] at s1
    rw [get_set_ne (ne hk)] at s2
    exact S.dj j k e e' q hjk hj hk m m' s1 s2
  · obtain ⟨g1, g2, g3⟩ := S.xn q hq
    exact ⟨g1, g2, fun j e hj m hs => g3 j e hj m (by rw [get_set_ne (ne hj)] at hs; exact hs)⟩
/-- x = f(e) in an except suite: f makes a list of ints -/
theorem suite_ints {i j : Nat} {a : Addr} {ks : List Int} {E : DE} {sp : Sp} {D : Ends} (S : Sta Z F H σ Γ) (hj : Γ[j]? = some none) (hij : j ≠ i) (hl : j < Γ.length) (hE : E.nx (Γ.set i (some (.own (.lst (ks.map PyData.int))))))
    (hD : ∀ F' H' σ' Γ2, E.nx Γ2 → Same F F' → Sta Z F' H' (σ'.set j none) Γ2 → D.nx σ' H')
    (hsp : ∀ Q : VK, (∀ H' p, Same H H' → H p = none → H' p = some (.lst (ks.map V.int)) → Q (.ref p) H') → sp [.ref a] H Q fun _ _ _ => False) :
    tAsg (tCall sp [] (fun _ _ _ => False) (tCons (tVar j) tNil)) (gName i) D (σ.set j (some (.ref a))) H := by
  refine ⟨.ref a, get_set_eq (by rw [S.ln]; exact hl), hsp _ fun H' p s hp h => ?_⟩
  have S1 : Sta Z F H (σ.set j (some (.ref a))) Γ := S.setn hj
  have n : New Z F H' (σ.set j (some (.ref a))) Γ p (.lst (ks.map PyData.int)) := new_of S1 hp ⟨_, h, S.freeF hp, dpa_ints⟩
  have S2 := (S1.up s).putN (i := i) n
  refine hD F H' _ _ hE (Same.refl _) (S2.setn ?_)
  rw [get_set_ne (fun z => hij z.symm)]
  exact hj
/-! ### a cell looked at as data, for a test -/
def demut : Option Ent → Option Ent
  | some (.fz d) => some (.fz d)
  | _ => none
def viewG (Γ : Gm) (k : Nat) (ds : List PyData) : Gm := (Γ.map demut).set k (some (.fz (.list ds)))
theorem demut_get {i : Nat} {e : Ent} (h : (Γ.map demut)[i]? = some (some e)) : ∃ d, e = .fz d ∧ Γ[i]? = some (some (.fz d)) := by
  rw [List.getElem?_map] at h
  cases hg : Γ[i]? with
  | none => rw [hg] at h; cases h
  | some x =>
    rw [hg] at h
    cases x with
    | none => cases h
    | some y =>
      cases y with
      | fz d => cases h; exact ⟨d, rfl, rfl⟩
      | own o => cases h
      | par q o => cases h
theorem t_view {t : TT} {k : Nat} {ds : List PyData} {B : Bool} (hk : cl Γ k = some (.lst ds)) (h : ∀ F0 H0, Et ⟨Z.K, F0, H0, [], []⟩ t (viewG Γ k ds) fun b _ => b = B) : Et Z t Γ fun b Γ1 => b = B ∧ Γ1 = Γ := fun F H σ S Q q => by
  obtain ⟨p, vs, g1, g2, g3, _⟩ := S.rdL hk
  obtain ⟨e, ek, _, em, _⟩ := cl_at hk
  have hF : F p = none := by
    obtain ⟨v, hv, ok⟩ := S.sl k e ek
    obtain ⟨p', x, rfl, u, h1, h2, _⟩ := ok.cell em
    rw [g1] at hv
    injection hv with hv
    injection hv with hv
    injection hv with hv
    rw [hv]
    exact h2
  have gr : Same F (upd F p (.lst vs)) := upd_grow hF
  have kl : k < Γ.length := (List.getElem?_eq_some_iff.mp ek).1
  have S2 : Sta ⟨Z.K, upd F p (.lst vs), H, [], []⟩ (upd F p (.lst vs)) H σ (viewG Γ k ds) := by
    have mut0 : ∀ {i : Nat} {e : Ent}, (viewG Γ k ds)[i]? = some (some e) → e.mut = true → False := fun {i e} hi hm => by
      unfold viewG at hi
      by_cases z : k = i
      · subst z
        rw [get_set_eq (by rw [List.length_map]; exact kl)] at hi
        injection hi with hi
        injection hi with hi
        rw [← hi] at hm
        cases hm
      · rw [get_set_ne z] at hi
        obtain ⟨d, rfl, _⟩ := demut_get hi
        cases hm
    refine ⟨Same.refl _, fun a u ha => ?_, fun _ _ _ h => h, fun _ _ _ => rfl, fun _ z => (nomatch z), fun i e hi => ?_, fun i j e e' q _ hi _ hm _ => (mut0 hi hm).elim, ?_, fun _ z => (nomatch z)⟩
    · by_cases z : a = p
      · rw [z, upd_same] at ha
        rw [z, g2]
        exact ha
      · rw [upd_ne z] at ha
        exact S.fh a u ha
    · unfold viewG at hi
      by_cases z : k = i
      · subst z
        rw [get_set_eq (by rw [List.length_map]; exact kl)] at hi
        injection hi with hi
        injection hi with hi
        subst hi
        exact ⟨_, g1, .lst (.inl (.inl upd_same)) (dpa_same gr g3)⟩
      · rw [get_set_ne z] at hi
        obtain ⟨d, rfl, h2⟩ := demut_get hi
        obtain ⟨v, hv, ok⟩ := S.sl i _ h2
        exact ⟨v, hv, dp_same gr ok⟩
    · unfold viewG
      rw [List.length_set, List.length_map]
      exact S.ln
  refine h _ _ _ _ σ S2 _ fun b F3 H3 Γ3 hb _ S3 => ?_
  exact q b F H3 Γ ⟨hb, rfl⟩ (Same.refl _) (S.up fun a o ha => S3.hh a o (fun z => nomatch z) ha)
theorem t_yes {RB : Bool → Gm → Prop} (r : RB true Γ) : Et Z tYes Γ RB := fun F H σ S Q q => q true F H Γ r (Same.refl _) S
/-- [e for .. in ..], e as f of the item -/
theorem n_lcMap {R : DO → Gm → Prop} {wi : TI} {g : TG} {te : TE} {vs : List Nat} (f : PyData → PyData) (hk : Keeps g vs)
    (h : Ei Z wi Γ fun ds Γ1 => ds.length ≤ 100000 ∧ (∀ (x : Addr × HO) d, d ∈ ds → Gt (Z.pin x) g d (wipeG Γ1 vs) fun Γ2 => Ed (Z.pin x) te Γ2 fun e Γ4 => e = f d ∧ wipeG Γ4 vs = wipeG Γ1 vs) ∧ R (.lst (ds.map f)) (wipeG Γ1 vs)) :
    En Z (tLc wi g tYes te vs) Γ R := by
  refine n_lc hk ?_
  intro F H σ S Q q
  refine h F H σ S Q fun J F' H' ds Γ' ⟨hl, hs, r⟩ => q J F' H' ds Γ' ⟨hl, fun i acc Γ2 => acc = (ds.take i).map f ∧ Γ2 = wipeG Γ' vs, ⟨by simp, rfl⟩, ?_, ?_⟩
  · rintro x i d acc Γ2 hd ⟨rfl, rfl⟩
    intro F2 H2 σ2 v S2 hv Q2 q2
    refine hs x d (List.mem_of_getElem? hd) F2 H2 σ2 v S2 hv Q2 fun σ3 Γ3 h3 => q2 σ3 Γ3 (t_yes ⟨fun _ => ?_, fun z => nomatch z⟩)
    refine h3.imp fun e Γ4 ⟨e1, e2⟩ => ⟨?_, e2⟩
    subst e1
    obtain ⟨hi, rfl⟩ := List.getElem?_eq_some_iff.mp hd
    rw [List.take_succ_eq_append_getElem hi, List.map_append]
    rfl
  · rintro acc Γ2 ⟨rfl, rfl⟩
    rw [List.take_length]
    exact r
end
end Dl

set_option Elab.async false
set_option linter.all false
set_option autoImplicit false
set_option maxRecDepth 100000
set_option maxHeartbeats 1000000
namespace Dl
open PySem PySem.Spec PyProof.Rows L2
section
variable {Z : Zx} {Γ : Gm} {R : PyData → Gm → Prop} {ta tb te : TE} {t : TT} {F H : Hp} {σ : St} {E : DE}
theorem e_andV (h : Ed Z ta Γ fun d Γ1 => ∃ b, d = .bool b ∧ (b = true → Ed Z tb Γ1 R) ∧ (b = false → R (.bool false) Γ1)) : Ed Z (tAndV ta tb) Γ R := fun F H σ S Q q =>
  h F H σ S _ fun v F1 H1 d Γ1 ⟨b, e, h1, h2⟩ s1 S1 hv => by
    subst e
    cases hv
    refine ⟨b, rfl, ?_⟩
    cases b with
    | true => exact iteT (h1 rfl F1 H1 σ S1 Q fun v F2 H2 d Γ2 r s2 => q v F2 H2 d Γ2 r (s1.trans s2))
    | false => exact iteF (q _ F1 H1 _ Γ1 (h2 rfl) s1 S1 (.bl false))
theorem e_orV (h : Ed Z ta Γ fun d Γ1 => ∃ b, d = .bool b ∧ (b = false → Ed Z tb Γ1 R) ∧ (b = true → R (.bool true) Γ1)) : Ed Z (tOrV ta tb) Γ R := fun F H σ S Q q =>
  h F H σ S _ fun v F1 H1 d Γ1 ⟨b, e, h1, h2⟩ s1 S1 hv => by
    subst e
    cases hv
    refine ⟨b, rfl, ?_⟩
    cases b with
    | true => exact iteT (q _ F1 H1 _ Γ1 (h2 rfl) s1 S1 (.bl true))
    | false => exact iteF (h1 rfl F1 H1 σ S1 Q fun v F2 H2 d Γ2 r s2 => q v F2 H2 d Γ2 r (s1.trans s2))
theorem e_notV (h : Ed Z ta Γ fun d Γ1 => ∃ b, d = .bool b ∧ R (.bool (!b)) Γ1) : Ed Z (tNotV ta) Γ R := fun F H σ S Q q =>
  h F H σ S _ fun v F1 H1 d Γ1 ⟨b, e, r⟩ s1 S1 hv => by
    subst e
    cases hv
    exact ⟨b, rfl, q _ F1 H1 _ Γ1 r s1 S1 (.bl _)⟩
theorem e_ifE (h : Et Z t Γ fun b Γ1 => (b = true → Ed Z ta Γ1 R) ∧ (b = false → Ed Z tb Γ1 R)) : Ed Z (tIf t ta tb) Γ R := fun F H σ S Q q =>
  h F H σ S _ fun b F1 H1 Γ1 ⟨h1, h2⟩ s1 S1 => by
    cases b with
    | true => exact iteT (h1 rfl F1 H1 σ S1 Q fun v F2 H2 d Γ2 r s2 => q v F2 H2 d Γ2 r (s1.trans s2))
    | false => exact iteF (h2 rfl F1 H1 σ S1 Q fun v F2 H2 d Γ2 r s2 => q v F2 H2 d Γ2 r (s1.trans s2))
theorem s_augI {i : Nat} {f : Int → Int → Int} {a : Int} (hi : Γ[i]? = some (some (.fz (.int a)))) (h : Ed Z te Γ fun d Γ1 => ∃ b, d = .int b ∧ E.nx (Γ1.set i (some (.fz (.int (f a b)))))) : Sd Z (tAug i te (ipI f)) Γ E := fun F H σ S D n _ _ _ => by
  obtain ⟨v, hv, ok⟩ := S.sl i _ hi
  cases ok
  exact ⟨_, hv, h F H σ S _ fun w F1 H1 d Γ1 ⟨b, e, r⟩ s1 S1 hw => by
    subst e
    cases hw
    exact ⟨a, b, rfl, rfl, n F1 H1 _ _ r s1 (S1.put (.int _))⟩⟩
/-! ### methods of texts -/
def Rm (Z : Zx) (r : V → List V → Hp → VK → Prop) (x : Str) (ds : List PyData) (Γ : Gm) (R : PyData → Gm → Prop) : Prop := ∀ F H σ vs, Sta Z F H σ Γ → DqAll Z.K F vs ds → ∀ Q : VK, (∀ z F' H' d Γ', R d Γ' → Same F F' → Sta Z F' H' σ Γ' → Dq Z.K F' z d → Q z H') → r (.str x) vs H Q
theorem e_bmS {r : V → List V → Hp → VK → Prop} {tr : TA} (h : Ed Z te Γ fun d Γ1 => ∃ x, d = .str x ∧ Ea Z tr Γ1 fun ds Γ2 => Rm Z r x ds Γ2 R) : Ed Z (tBM Z.K "str" r te tr) Γ R := fun F H σ S Q q =>
  h F H σ S _ fun v F1 H1 d Γ1 ⟨x, e, h1⟩ s1 S1 hv => by
    subst e
    cases hv
    exact ⟨rfl, h1 F1 H1 σ S1 _ fun vs F2 H2 ds Γ2 hr s2 S2 hvs => hr F2 H2 σ vs S2 hvs Q fun z F3 H3 d Γ3 r s3 => q z F3 H3 d Γ3 r ((s1.trans s2).trans s3)⟩
theorem m_join {x : Str} {ys : List Str} (hz : (ys.map (·.length)).sum + ys.length * x.length ≤ 16777216) (r : R (.str (Txt.join x ys)) Γ) :
    Rm Z (fun x xs H Q => ∃ a p, ∃ ys : List Str, x = .str a ∧ xs = [.ref p] ∧ (SqL Z.K H p (ys.map V.str) ∨ SqT Z.K H p (ys.map V.str)) ∧ (ys.map (·.length)).sum + ys.length * a.length ≤ 16777216 ∧ Q (.str (Txt.join a ys)) H) x [.list (ys.map PyData.str)] Γ R := fun F H σ vs S hv Q q => by
  cases hv with
  | cons h a =>
    cases a
    cases h with
    | lst hs hd =>
      have e := strs_dpa hd
      subst e
      exact ⟨x, _, ys, rfl, rfl, .inl (S.fh.seq hs), hz, q _ F H _ Γ r (Same.refl _) S (.str _)⟩
theorem m_strip {x b : Str} (hz : x.length ≤ sizeLine) (r : R (.str (Txt.stripChars x b)) Γ) : Rm Z (fun x xs H Q => ∃ a b, x = .str a ∧ xs = [.str b] ∧ a.length ≤ sizeLine ∧ Q (.str (Txt.stripChars a b)) H) x [.str b] Γ R := fun F H σ vs S hv Q q => by
  cases hv with
  | cons h a =>
    cases a
    cases h
    exact ⟨x, b, rfl, rfl, hz, q _ F H _ Γ r (Same.refl _) S (.str _)⟩
theorem m_split {x b : Str} (hb : (b.length == 0) = false) (hz : x.length + 2 ≤ sizeLine) (r : R (.list ((Txt.split x b).map PyData.str)) Γ) : Rm Z (fun x xs H Q => ∃ a b, x = .str a ∧ xs = [.str b] ∧ (b.length == 0) = false ∧ a.length + 2 ≤ sizeLine ∧ rNewStrs (Txt.split a b) H Q) x [.str b] Γ R := fun F H σ vs S hv Q q => by
  cases hv with
  | cons h a =>
    cases a
    cases h
    refine ⟨x, b, rfl, rfl, hb, hz, fun p hp => ?_⟩
    exact q _ _ _ _ Γ r (upd_grow (S.freeF hp)) (S.frozen hp _) (.lst (.inl (.inl upd_same)) dpa_strs)
theorem c_strI {i : Int} (hz : i.natAbs.log2 < 1920) (r : R (.str (toString i)) Γ) : Rc Z (fun xs H Q => ∃ i, xs = [.int i] ∧ i.natAbs.log2 < 1920 ∧ Q (.str (toString i)) H) [.int i] Γ R := fun F H σ vs S hv Q q => by
  cases hv with
  | cons h a =>
    cases a
    cases h
    exact ⟨i, rfl, hz, q _ F H _ Γ r (Same.refl _) S (.str _)⟩
theorem c_intT {a : Str} {n : Int} (hn : PySem.intText? a = some n) (hl : a.length ≤ 640) (r : R (.int n) Γ) : Rc Z (fun xs H Q => ∃ a n, xs = [.str a] ∧ PySem.intText? a = some n ∧ a.length ≤ 640 ∧ Q (.int n) H) [.str a] Γ R := fun F H σ vs S hv Q q => by
  cases hv with
  | cons h b =>
    cases b
    cases h
    exact ⟨a, n, rfl, hn, hl, q _ F H _ Γ r (Same.refl _) S (.int _)⟩
theorem n_listOf {R : DO → Gm → Prop} (h : Ed Z te Γ fun d Γ1 => ∃ ds, d = .list ds ∧ R (.lst ds) Γ1) : En Z (tCB (fun xs H Q => ∃ p ys, xs = [.ref p] ∧ (SqL Z.K H p ys ∨ SqT Z.K H p ys) ∧ ∀ l, H l = none → Q (.ref l) (upd H l (.lst ys))) (tCons te tNil)) Γ R := fun F H σ S Q q =>
  h F H σ S _ fun v F1 H1 d Γ1 ⟨ds, e, r⟩ s1 S1 hv => by
    subst e
    cases hv with
    | lst hs hd =>
      refine ⟨_, _, rfl, .inl (S1.fh.seq hs), fun l hl => ?_⟩
      obtain ⟨S2, n⟩ := S1.laid hl (o := .lst ds) (u := .lst _) hd
      exact q l F1 _ _ Γ1 r s1 S2 n
theorem o_inSg {c : Nat} {z : Str} (r : R (.bool (decide (c ∈ z.cps.toList))) Γ) : Ro Z (fun x y H Q => ∃ (c : Nat) (z : Str), x = .str ⟨#[c]⟩ ∧ y = .str z ∧ Q (.bl (decide (c ∈ z.cps.toList))) H) (.str ⟨#[c]⟩) (.str z) Γ R := fun F H σ v w S hv hw Q q => by
  cases hv
  cases hw
  exact ⟨c, z, rfl, rfl, q _ F H _ Γ r (Same.refl _) S (.bl _)⟩
theorem o_notInSg {c : Nat} {z : Str} (r : R (.bool (!decide (c ∈ z.cps.toList))) Γ) : Ro Z (fun x y H Q => ∃ (c : Nat) (z : Str), x = .str ⟨#[c]⟩ ∧ y = .str z ∧ Q (.bl (!decide (c ∈ z.cps.toList))) H) (.str ⟨#[c]⟩) (.str z) Γ R := fun F H σ v w S hv hw Q q => by
  cases hv
  cases hw
  exact ⟨c, z, rfl, rfl, q _ F H _ Γ r (Same.refl _) S (.bl _)⟩
/-! ### f'..' -/
def Ej (Z : Zx) (ts : List TE) (acc : Str) (Γ : Gm) (R : Str → Gm → Prop) : Prop := ∀ F H σ, Sta Z F H σ Γ → ∀ Q : Str → Hp → Prop, (∀ x F' H' Γ', R x Γ' → Same F F' → Sta Z F' H' σ Γ' → Q x H') → tJs ts acc σ H Q
theorem j_nil {acc : Str} {R : Str → Gm → Prop} (r : R acc Γ) : Ej Z [] acc Γ R := fun F H σ S Q q => q acc F H Γ r (Same.refl _) S
theorem j_cons {ts : List TE} {acc : Str} {R : Str → Gm → Prop} (h : Ed Z te Γ fun d Γ1 => ∃ y, d = .str y ∧ (acc ++ y).length ≤ sizeLine ∧ Ej Z ts (acc ++ y) Γ1 R) : Ej Z (te :: ts) acc Γ R := fun F H σ S Q q =>
  h F H σ S _ fun v F1 H1 d Γ1 ⟨y, e, hz, h1⟩ s1 S1 hv => by
    subst e
    cases hv
    exact ⟨y, rfl, hz, h1 F1 H1 σ S1 Q fun x F2 H2 Γ2 r s2 => q x F2 H2 Γ2 r (s1.trans s2)⟩
theorem e_fs {ts : List TE} (h : Ej Z ts Str.empty Γ fun x Γ1 => R (.str x) Γ1) : Ed Z (fun σ H Q => tJs ts Str.empty σ H fun out H1 => Q (.str out) H1) Γ R := fun F H σ S Q q => h F H σ S _ fun x F1 H1 Γ1 r s1 S1 => q _ F1 H1 _ Γ1 r s1 S1 (.str _)
theorem e_fmtI (h : Ed Z te Γ fun d Γ1 => ∃ i, d = .int i ∧ i.natAbs.log2 < 1920 ∧ R (.str (toString i)) Γ1) : Ed Z (tFmt te) Γ R := fun F H σ S Q q =>
  h F H σ S _ fun v F1 H1 d Γ1 ⟨i, e, hz, r⟩ s1 S1 hv => by
    subst e
    cases hv
    exact .inr ⟨i, rfl, hz, q _ F1 H1 _ Γ1 r s1 S1 (.str _)⟩
/-- f(..).append(e): a new list that is dropped -/
theorem s_appN {tr : TE} (h : En Z te Γ fun o Γ1 => ∃ ds, o = .lst ds ∧ ds.length < 100000 ∧ ∀ x, Ed (Z.pin x) tr Γ1 fun _ Γ2 => E.nx Γ2) : Sd Z (tDrop (tBM Z.K "list" rAppend te (tCons tr tNil))) Γ E := fun F H σ S D nx _ _ _ =>
  h F H σ S _ fun p F1 H1 o Γ1 ⟨ds, e, hl, h1⟩ s1 S1 n => by
    subst e
    obtain ⟨u, c1, c2, c3⟩ := n.cell
    cases u with
    | lst vs =>
      refine ⟨.inl ⟨rfl, vs, SqL.of c1⟩, h1 (p, .lst vs) F1 H1 σ (S1.pinned c1 c2 n.no) _ fun v F2 H2 d Γ2 r s2 S2 hv => ?_⟩
      obtain ⟨g1, g2, g3⟩ := S2.xn (p, .lst vs) List.mem_cons_self
      refine ⟨p, vs, v, rfl, rfl, g1, ?_, ?_⟩
      · rw [dpa_len c3]
        exact Nat.lt_of_lt_of_le hl (by decide)
      · exact nx F2 _ σ Γ2 r (s1.trans s2) (S2.repin (u' := .lst (vs ++ [v])) n.h0 n.np).unpinned
    | _ => exact c3.elim
/-- [e for .. in ..], told by the list that is made -/
theorem n_lcL {R : DO → Gm → Prop} {wi : TI} {g : TG} {te : TE} {vs : List Nat} (hk : Keeps g vs)
    (h : Ei Z wi Γ fun ds Γ1 => ds.length ≤ 100000 ∧ ∃ es : List PyData, es.length = ds.length ∧ (∀ (x : Addr × HO) (i : Nat) d e, ds[i]? = some d → es[i]? = some e → Gt (Z.pin x) g d (wipeG Γ1 vs) fun Γ2 => Ed (Z.pin x) te Γ2 fun e' Γ4 => e' = e ∧ wipeG Γ4 vs = wipeG Γ1 vs) ∧ R (.lst es) (wipeG Γ1 vs)) :
    En Z (tLc wi g tYes te vs) Γ R := by
  refine n_lc hk ?_
  intro F H σ S Q q
  refine h F H σ S Q fun J F' H' ds Γ' ⟨hl, es, he, hs, r⟩ => q J F' H' ds Γ' ⟨hl, fun i acc Γ2 => acc = es.take i ∧ Γ2 = wipeG Γ' vs, ⟨by simp, rfl⟩, ?_, ?_⟩
  · rintro x i d acc Γ2 hd ⟨rfl, rfl⟩
    intro F2 H2 σ2 v S2 hv Q2 q2
    have hi : i < es.length := by
      rw [he]
      exact (List.getElem?_eq_some_iff.mp hd).1
    refine hs x i d es[i] hd (List.getElem?_eq_getElem hi) F2 H2 σ2 v S2 hv Q2 fun σ3 Γ3 h3 => q2 σ3 Γ3 (t_yes ⟨fun _ => ?_, fun z => nomatch z⟩)
    refine h3.imp fun e Γ4 ⟨e1, e2⟩ => ⟨?_, e2⟩
    subst e1
    rw [List.take_succ_eq_append_getElem hi]
  · rintro acc Γ2 ⟨rfl, rfl⟩
    rw [← he, List.take_length]
    exact r
end
theorem cutS_mid {x : Str} {i j : Nat} (h : i ≤ j) : (cutS x (some (i : Int)) (some (j : Int))).cps.toList = (x.cps.toList.drop i).take (j - i) := by
  unfold cutS
  have e : x.length = x.cps.toList.length := by simp [Str.length]
  rw [HT.sIx_nat, HT.sIx_nat]
  show (x.cps.toList.drop (min i x.length)).take (min j x.length - min i x.length) = _
  rw [e]
  by_cases hi : i ≤ x.cps.toList.length
  · rw [Nat.min_eq_left hi]
    by_cases hj : j ≤ x.cps.toList.length
    · rw [Nat.min_eq_left hj]
    · rw [Nat.min_eq_right (by omega)]
      rw [List.take_of_length_le (by rw [List.length_drop]; omega), List.take_of_length_le (by rw [List.length_drop]; omega)]
  · rw [Nat.min_eq_right (by omega), Nat.min_eq_right (by omega), List.drop_length, List.drop_eq_nil_of_le (by omega)]
    simp
/-- f(e), e a new thing that f may change, f telling a new list -/
theorem e_callN2 {Z : Zx} {Γ : Gm} {te : TE} {K : PySem.W.Frag} {G : Type} {args : G → List AV} {pre : G → Prop} {res : G → Out → List AV → Prop} {W : WX} {Q : PyData → Gm → Prop} (hK : K = Z.K)
    (h : En Z te Γ fun o Γ1 => ∃ g, args g = [.mu o] ∧ pre g ∧ ∀ out as', res g out as' → ShA [.mu o] as' → match out with
      | .ret (.fz d) => Q d Γ1
      | .ret (.new (.lst ds)) => Q (.list ds) Γ1
      | .ret (.new _) => False
      | .exc x => Xw Z W x Γ1) : Ed Z (tCallS (SpG K args pre res) (WE W) (tCons te tNil)) Γ Q := fun F H σ S Q' q =>
  h F H σ S _ fun p F1 H1 o Γ1 ⟨g, hg, hpre, hr⟩ s1 S1 n => by
    subst hK
    refine ⟨g, hpre, F1, [.mu o], S1.fh, .cons ⟨p, rfl, n.cell⟩ .nil, List.nodup_cons.mpr ⟨fun z => (nomatch z), .nil⟩, hg.symm, fun out as' r sh F2 H2 st hp => ?_⟩
    have hp2 : H2 p ≠ none := by
      obtain ⟨o2, r2, e, e2⟩ := sh
      have e3 : r2 = [] := e2
      subst e3 e
      cases hp with
      | cons h1 _ =>
        obtain ⟨q, e, u, h2, _⟩ := h1
        injection e with e
        rw [e, h2]
        exact fun z => nomatch z
    have S2 := after_new S1 n st hp2
    have h' := hr out as' r sh
    cases out with
    | exc x => exact h' F2 H2 σ S2
    | ret rv =>
      intro v hv
      cases rv with
      | fz d => exact q v F2 H2 d _ h' (s1.trans st.ff) S2 hv
      | new o =>
        cases o with
        | lst ds =>
          obtain ⟨p', rfl, hp0, c⟩ := hv
          obtain ⟨u, c1, c2, c3⟩ := c
          have n2 : New Z F2 H2 σ Γ1 p' (.lst ds) := new_call (xs := []) (as := []) (as' := []) (vs := []) S1 hp0 ⟨u, c1, c2, c3⟩
          obtain ⟨w, g1, g2, g3, S3⟩ := S2.freeze n2
          cases w with
          | lst ws => exact q (.ref p') _ H2 (.list ds) _ h' ((s1.trans st.ff).trans g3) S3 (.lst (.inl (.inl upd_same)) (dpa_same g3 g2))
          | _ => exact g2.elim
        | _ => exact (show False from h').elim
end Dl

set_option Elab.async false
set_option linter.all false
set_option autoImplicit false
set_option maxRecDepth 100000
set_option maxHeartbeats 1000000
namespace K51
open PySem PySem.NumText
abbrev sg (c : Nat) : PyData := .str ⟨#[c]⟩
abbrev Dg (c : Nat) : Prop := 48 ≤ c ∧ c ≤ 57
def pl (c : Nat) : Prop := c = 67 ∨ c = 82 ∨ c = 76 ∨ c = 69
def isL (c : Nat) : Prop := c = 67 ∨ c = 82 ∨ c = 76 ∨ c = 69 ∨ c = 83
inductive Lt where
  | p (c : Nat)
  | s (j k : Nat)
def Lt.enc : Lt → PyData
  | .p c => .tuple [sg c]
  | .s j k => .tuple [sg 83, .int (j : Nat), .int (k : Nat)]
def digs (n : Nat) : List Nat := (Nat.toDigits 10 n).map Char.toNat
def Lt.txt : Lt → List Nat
  | .p c => [c]
  | .s j k => 83 :: (digs j ++ 46 :: digs k)
def Lt.ok : Lt → Prop
  | .p c => pl c
  | .s _ _ => True
/-! ### where a run ends -/
theorem span_uniq {P : Nat → Prop} : ∀ {a a' r r' : List Nat}, a ++ r = a' ++ r' → (∀ c ∈ a, P c) → (∀ c ∈ a', P c) → (∀ c t, r = c :: t → ¬ P c) → (∀ c t, r' = c :: t → ¬ P c) → a = a' ∧ r = r'
  | [], [], r, r', e, _, _, _, _ => ⟨rfl, e⟩
  | [], c :: a', r, r', e, _, h2, h3, _ => absurd (h2 c List.mem_cons_self) (h3 c _ e)
  | c :: a, [], r, r', e, h1, _, _, h4 => absurd (h1 c List.mem_cons_self) (h4 c _ e.symm)
  | c :: a, c' :: a', r, r', e, h1, h2, h3, h4 => by
    injection e with e1 e2
    obtain ⟨q1, q2⟩ := span_uniq e2 (fun x hx => h1 x (List.mem_cons_of_mem _ hx)) (fun x hx => h2 x (List.mem_cons_of_mem _ hx)) h3 h4
    exact ⟨by rw [e1, q1], q2⟩
def Fig (ds : List Nat) (j : Nat) : Prop := AllDigits ds ∧ ds ≠ [] ∧ (ds = [48] ∨ ∀ r, ds ≠ 48 :: r) ∧ j = digitsVal ds
inductive Rd : List Nat → List Lt → Prop
  | nil : Rd [] []
  | p {c : Nat} {s : List Nat} {ls : List Lt} : pl c → Rd s ls → Rd (c :: s) (.p c :: ls)
  | s {ds es s : List Nat} {j k : Nat} {ls : List Lt} : Fig ds j → Fig es k → Rd s ls → Rd (83 :: (ds ++ 46 :: (es ++ s))) (.s j k :: ls)
theorem Rd.begins {s : List Nat} {ls : List Lt} (h : Rd s ls) : ∀ c t, s = c :: t → isL c := by
  intro c t e
  cases h with
  | nil => cases e
  | p hc _ =>
    injection e with e1 _
    subst e1
    unfold pl at hc
    unfold isL
    omega
  | s _ _ _ =>
    injection e with e1 _
    unfold isL
    omega
theorem Rd.noD {s : List Nat} {ls : List Lt} (h : Rd s ls) : ∀ c t, s = c :: t → ¬ Dg c := fun c t e hd => by
  have := h.begins c t e
  unfold isL at this
  omega
theorem rd_p {c : Nat} {s : List Nat} {ls : List Lt} (hc : pl c) (h : Rd (c :: s) ls) : ∃ l2, ls = .p c :: l2 ∧ Rd s l2 := by
  cases h with
  | p _ h => exact ⟨_, rfl, h⟩
  | s => unfold pl at hc; omega
theorem rd_no {c : Nat} {s : List Nat} {ls : List Lt} (hc : ¬ pl c) (h8 : c ≠ 83) (h : Rd (c :: s) ls) : False := by
  cases h with
  | p h1 _ => exact hc h1
  | s => exact h8 rfl
theorem rd_s {ds r : List Nat} {ls : List Lt} (hd : AllDigits ds) (hr : ∀ c t, r = c :: t → ¬ Dg c) (h : Rd (83 :: (ds ++ r)) ls) :
    Fig ds (digitsVal ds) ∧ ∃ r2, r = 46 :: r2 ∧ ∀ es r3, r2 = es ++ r3 → AllDigits es → (∀ c t, r3 = c :: t → ¬ Dg c) → Fig es (digitsVal es) ∧ ∃ l2, ls = .s (digitsVal ds) (digitsVal es) :: l2 ∧ Rd r3 l2 := by
  generalize hq : 83 :: (ds ++ r) = q at h
  cases h with
  | nil => cases hq
  | p h1 _ =>
    injection hq with e _
    unfold pl at h1
    omega
  | s f1 f2 h =>
    injection hq with _ e
    obtain ⟨rfl, rfl⟩ := span_uniq (P := Dg) e hd f1.1 hr (fun c t z => by injection z with z1 _; omega)
    have f1' := f1
    obtain ⟨_, _, _, rfl⟩ := f1'
    refine ⟨f1, _, rfl, fun es r3 e2 he h3 => ?_⟩
    obtain ⟨rfl, rfl⟩ := span_uniq (P := Dg) e2 f2.1 he h.noD h3
    have f2' := f2
    obtain ⟨_, _, _, rfl⟩ := f2'
    exact ⟨f2, _, rfl, h⟩
theorem Rd.det {s : List Nat} {ls : List Lt} (h : Rd s ls) : ∀ {ls' : List Lt}, Rd s ls' → ls = ls' := by
  induction h with
  | nil =>
    intro ls' h'
    cases h'
    rfl
  | p hc _ ih =>
    intro ls' h'
    obtain ⟨l2, rfl, h2⟩ := rd_p hc h'
    rw [ih h2]
  | s f1 f2 h ih =>
    intro ls' h'
    obtain ⟨g1, r2, e, g2⟩ := rd_s f1.1 (fun c t z => by injection z with z1 _; omega) h'
    injection e with _ e
    obtain ⟨g3, l2, rfl, g4⟩ := g2 _ _ e.symm f2.1 h.noD
    obtain ⟨_, _, _, e1⟩ := f1
    obtain ⟨_, _, _, e2⟩ := f2
    rw [ih g4, e1, e2]
/-! ### parts -/
def PartOk (c : Nat) (b : List Nat) (l : Lt) : Prop := (pl c ∧ b = [] ∧ l = .p c) ∨ (c = 83 ∧ ∃ ds es j k, Fig ds j ∧ Fig es k ∧ b = ds ++ 46 :: es ∧ l = .s j k)
theorem fig_free {ds : List Nat} {j : Nat} (h : Fig ds j) : ∀ c ∈ ds, ¬ isL c := fun c hc hl => by
  have := h.1 c hc
  unfold isL at hl
  omega
theorem rd_part {c : Nat} {b rest : List Nat} {ls : List Lt} (hb : ∀ x ∈ b, ¬ isL x) (hr : ∀ x t, rest = x :: t → isL x) (h : Rd (c :: (b ++ rest)) ls) : ∃ l l2, PartOk c b l ∧ ls = l :: l2 ∧ Rd rest l2 := by
  generalize hq : c :: (b ++ rest) = q at h
  cases h with
  | nil => cases hq
  | @p c' s l2 hc h =>
    injection hq with e1 e2
    subst e1 e2
    cases b with
    | nil => exact ⟨_, _, .inl ⟨hc, rfl, rfl⟩, rfl, h⟩
    | cons x b => exact absurd (h.begins x _ rfl) (hb x List.mem_cons_self)
  | @s ds es s j k l2 f1 f2 h =>
    injection hq with e1 e2
    have e3 : b ++ rest = (ds ++ 46 :: es) ++ s := by rw [e2]; simp
    obtain ⟨rfl, rfl⟩ := span_uniq (P := fun x => ¬ isL x) e3 hb (fun x hx => by
      rcases List.mem_append.mp hx with hx | hx
      · exact fig_free f1 x hx
      · rcases List.mem_cons.mp hx with rfl | hx
        · unfold isL; omega
        · exact fig_free f2 x hx) (fun x t z => fun q => q (hr x t z)) (fun x t z => fun q => q (h.begins x t z))
    exact ⟨_, _, .inr ⟨e1, ds, es, j, k, f1, f2, rfl, rfl⟩, rfl, h⟩
theorem part_rd {c : Nat} {b rest : List Nat} {l : Lt} {l2 : List Lt} (h : PartOk c b l) (hr : Rd rest l2) : Rd (c :: (b ++ rest)) (l :: l2) := by
  rcases h with ⟨hc, rfl, rfl⟩ | ⟨rfl, ds, es, j, k, f1, f2, rfl, rfl⟩
  · exact .p hc hr
  · have := Rd.s f1 f2 hr
    simpa using this
/-! ### numbers as figures -/
theorem dig_code {ch : Char} (h : ch.isDigit = true) : Dg ch.toNat := by
  unfold Char.isDigit at h
  rw [Bool.and_eq_true, decide_eq_true_eq, decide_eq_true_eq] at h
  exact ⟨UInt32.le_iff_toNat_le.mp h.1, UInt32.le_iff_toNat_le.mp h.2⟩
theorem digs_val (n : Nat) : digitsVal (digs n) = n := PySem.W.KIN.val_back n
theorem digs_all (n : Nat) : AllDigits (digs n) := by
  intro c hc
  obtain ⟨ch, h1, rfl⟩ := List.mem_map.mp hc
  exact dig_code (Nat.isDigit_of_mem_toDigits (by decide) (by decide) h1)
theorem digs_len (n : Nat) : 1 ≤ (digs n).length := by
  unfold digs
  rw [List.length_map]
  exact PyProof.Rows.tDigits_len_ge 10 n
theorem digs_fig (n : Nat) : Fig (digs n) n := by
  refine ⟨digs_all n, ?_, ?_, (digs_val n).symm⟩
  · intro z
    have := digs_len n
    rw [z] at this
    simp at this
  · by_cases h : ∃ r, digs n = 48 :: r
    · obtain ⟨r, e⟩ := h
      refine .inl ?_
      have t := toDigits_all (digs n) (digs_all n)
      rw [digs_val] at t
      have tl := congrArg List.length t
      have hl : (Nat.toDigits 10 n).length = r.length + 1 := by
        have := congrArg List.length e
        unfold digs at this
        rw [List.length_map] at this
        simpa using this
      rw [hl, e] at tl
      have hdw : (48 :: r).dropWhile (· == 48) = r.dropWhile (· == 48) := rfl
      rw [hdw] at tl
      have hle : (r.dropWhile (· == 48)).length ≤ r.length := (List.dropWhile_sublist _).length_le
      cases hq : r.dropWhile (· == 48) with
      | nil =>
        rw [hq] at tl
        simp at tl
        rw [e, tl]
      | cons a b =>
        rw [hq] at tl hle
        simp at tl hle
        omega
    · exact .inr fun r e => h ⟨r, e⟩
theorem digs_short {n k : Nat} (hk : 1 ≤ k) (h : n < 10 ^ k) : (digs n).length ≤ k := by
  unfold digs
  rw [List.length_map]
  exact PyProof.Rows.digits10_le hk h
theorem str_num (n : Nat) : (Str.ofString (toString ((n : Nat) : Int))).cps.toList = digs n := PySem.W.KIN.signs_num n
theorem int_fig {x : Str} {j : Nat} (h : Fig x.cps.toList j) (hl : x.length ≤ 640) : intText? x = some ((j : Nat) : Int) := by
  obtain ⟨h1, h2, _, rfl⟩ := h
  exact intText_digits h1 h2 (by omega)
theorem rd_txt : ∀ {ls : List Lt}, (∀ l ∈ ls, l.ok) → Rd (ls.flatMap Lt.txt) ls
  | [], _ => .nil
  | .p c :: ls, h => .p (h _ List.mem_cons_self) (rd_txt fun l hl => h l (List.mem_cons_of_mem _ hl))
  | .s j k :: ls, h => by
    have := Rd.s (digs_fig j) (digs_fig k) (rd_txt fun l hl => h l (List.mem_cons_of_mem _ hl))
    simpa [Lt.txt] using this
/-! ### runs of figures are short -/
def NR (n : Nat) (t : List Nat) : Prop := ∀ p m s, t = p ++ (m ++ s) → AllDigits m → m.length ≤ n
theorem NR.mono {m n : Nat} {t : List Nat} (h : NR m t) (e : m ≤ n) : NR n t := fun p q s he hd => Nat.le_trans (h p q s he hd) e
theorem nr_len {t : List Nat} {n : Nat} (h : t.length ≤ n) : NR n t := fun p m s e _ => by
  have := congrArg List.length e
  simp at this
  omega
theorem NR.left {n : Nat} {a b : List Nat} (h : NR n (a ++ b)) : NR n a := fun p m s e hd => h p m (s ++ b) (by rw [e]; simp) hd
theorem NR.right {n : Nat} {a b : List Nat} (h : NR n (a ++ b)) : NR n b := fun p m s e hd => h (a ++ p) m s (by rw [e]; simp) hd
theorem NR.take {n k : Nat} {t : List Nat} (h : NR n t) : NR n (t.take k) := NR.left (b := t.drop k) (by rw [List.take_append_drop]; exact h)
theorem NR.drop {n k : Nat} {t : List Nat} (h : NR n t) : NR n (t.drop k) := NR.right (a := t.take k) (by rw [List.take_append_drop]; exact h)
theorem nr_cat {a b : Nat} {s t : List Nat} (h1 : NR a s) (h2 : NR b t) : NR (a + b) (s ++ t) := fun p m q e hd => by
  rcases List.append_eq_append_iff.mp e with ⟨c, e1, e2⟩ | ⟨c, e1, e2⟩
  · exact Nat.le_trans (h2 c m q e2 hd) (by omega)
  · rcases List.append_eq_append_iff.mp e2 with ⟨d, e3, e4⟩ | ⟨d, e3, e4⟩
    · have := h1 p m d (by rw [e1, e3]) hd
      omega
    · have g1 := h1 p c [] (by rw [e1]; simp) fun x hx => hd x (by rw [e3]; exact List.mem_append_left _ hx)
      have g2 := h2 [] d q (by rw [e4]; rfl) fun x hx => hd x (by rw [e3]; exact List.mem_append_right _ hx)
      rw [e3, List.length_append]
      omega
theorem nr_sep {n : Nat} {s t : List Nat} {c : Nat} (hc : ¬ Dg c) (h1 : NR n s) (h2 : NR n t) : NR n (s ++ c :: t) := fun p m q e hd => by
  rcases List.append_eq_append_iff.mp e with ⟨d, e1, e2⟩ | ⟨d, e1, e2⟩
  · cases d with
    | nil =>
      cases m with
      | nil => exact Nat.zero_le _
      | cons x m =>
        injection e2 with e3 _
        exact absurd (hd x List.mem_cons_self) (by rw [← e3]; exact hc)
    | cons x d =>
      injection e2 with _ e3
      exact h2 d m q e3 hd
  · rcases List.append_eq_append_iff.mp e2 with ⟨f, e3, e4⟩ | ⟨f, e3, e4⟩
    · exact h1 p m f (by rw [e1, e3]) hd
    · cases f with
      | nil =>
        rw [List.append_nil] at e3
        exact h1 p m [] (by rw [e1, e3]; simp) hd
      | cons x f =>
        injection e4 with e5 _
        exact absurd (hd x (by rw [e3]; exact List.mem_append_right _ List.mem_cons_self)) (by rw [← e5]; exact hc)
theorem nr_txt {n : Nat} {t : List Nat} {l : Lt} (h : NR n t) (hn : 0 < n) (hl : l.ok) (hj : ∀ j k, l = .s j k → (digs j).length ≤ n ∧ (digs k).length ≤ n) : NR n (t ++ l.txt) := by
  cases l with
  | p c =>
    refine nr_sep ?_ h (nr_len (by simp))
    have hl : pl c := hl
    unfold pl at hl
    omega
  | s j k =>
    obtain ⟨h1, h2⟩ := hj j k rfl
    have e : t ++ (Lt.s j k).txt = (t ++ 83 :: digs j) ++ 46 :: digs k := by simp [Lt.txt]
    rw [e]
    exact nr_sep (by omega) (nr_sep (by omega) h (nr_len h1)) (nr_len h2)
end K51

set_option Elab.async false
set_option linter.all false
set_option autoImplicit false
set_option maxRecDepth 100000
set_option maxHeartbeats 1000000
namespace K51
open PySem PySem.NumText
theorem cps_app (a b : Str) : (a ++ b).cps.toList = a.cps.toList ++ b.cps.toList := by
  rw [Str.cps_append]
  simp
theorem len_cps (a : Str) : a.cps.toList.length = a.length := by simp [Str.length]
theorem str_ext {a b : Str} (h : a.cps.toList = b.cps.toList) : a = b := by
  cases a with
  | mk x =>
    cases b with
    | mk y =>
      congr 1
      exact Array.toList_inj.mp h
/-! ### split at the point -/
theorem split_two {x a b : Str} (h : Txt.split x ⟨#[46]⟩ = [a, b]) : x.cps.toList = a.cps.toList ++ 46 :: b.cps.toList := by
  have := StrLaws.join_split x ⟨#[46]⟩
  rw [h] at this
  have e : Str.join (⟨#[46]⟩ : Str) [a, b] = a ++ ⟨#[46]⟩ ++ b := rfl
  rw [e] at this
  rw [← this, cps_app, cps_app]
  simp
theorem split_len2 {x : Str} {a b : List Nat} (e : x.cps.toList = a ++ 46 :: b) (ha : 46 ∉ a) (hb : 46 ∉ b) : ∃ y z : Str, Txt.split x ⟨#[46]⟩ = [y, z] ∧ y.cps.toList = a ∧ z.cps.toList = b := by
  have hl := PyProof.Rows.split_len x 46
  have hc : PyProof.Rows.cnt 46 x.cps.toList = 1 := by
    rw [e, PyProof.Rows.cnt_append, PyProof.Rows.cnt_cons, PyProof.Rows.cnt_none 46 a ha, PyProof.Rows.cnt_none 46 b hb]
    simp
  rw [hc] at hl
  match hs : Txt.split x ⟨#[46]⟩ with
  | [] => rw [hs] at hl; simp at hl
  | [_] => rw [hs] at hl; simp at hl
  | _ :: _ :: _ :: _ => rw [hs] at hl; simp at hl; omega
  | [y, z] =>
    have f := StrLaws.split_free x 46
    rw [hs] at f
    have e2 := split_two hs
    rw [e] at e2
    have h1 : 46 ∉ y.cps.toList := f y List.mem_cons_self
    obtain ⟨q1, q2⟩ := span_uniq (P := fun c => c ≠ 46) e2 (fun c hc z => ha (z ▸ hc)) (fun c hc z => h1 (z ▸ hc)) (fun c t z => by injection z with z1 _; simp [z1.symm]) (fun c t z => by injection z with z1 _; simp [z1.symm])
    injection q2 with _ q2
    exact ⟨y, z, rfl, q1.symm, q2.symm⟩
/-! ### strip -/
theorem strip_nil {x y : Str} : Txt.stripChars x y = ⟨#[]⟩ ↔ ∀ c ∈ x.cps.toList, c ∈ y.cps.toList := by
  unfold Txt.stripChars
  rw [PyProof.Rows.stripBy_eq]
  obtain ⟨l1, l2, l3⟩ := PyProof.Rows.lo_facts y.cps.contains x
  generalize hlo : stripLo y.cps.contains true x = lo at *
  obtain ⟨h1, h2, h3, h4⟩ := PyProof.Rows.hi_facts y.cps.contains x lo l1
  generalize hhi : stripHi y.cps.contains true x lo = hi at *
  have hxl := len_cps x
  have inY : ∀ c, y.cps.contains c = true ↔ c ∈ y.cps.toList := fun c => by simp
  have sub : (Builtin.Str.strSub x lo hi).cps.toList = (x.cps.toList.drop lo).take (hi - lo) := StrLaws.strSub_toList x lo hi
  constructor
  · intro e c hc
    have e2 : (x.cps.toList.drop lo).take (hi - lo) = [] := by rw [← sub, e]
    have e3 := congrArg List.length e2
    rw [List.length_take, List.length_drop] at e3
    have e4 : hi = lo := by
      have e5 : min (hi - lo) (x.cps.toList.length - lo) = 0 := e3
      omega
    obtain ⟨k, hk, rfl⟩ := List.mem_iff_getElem.mp hc
    have g : x.cps.getD k 0 = x.cps.toList[k] := by
      rw [← PyProof.Rows.getD_list]
      rw [List.getD_eq_getElem?_getD, List.getElem?_eq_getElem hk]
      rfl
    rw [← g]
    refine (inY _).mp ?_
    by_cases hkl : k < lo
    · exact l2 k hkl
    · exact h3 k (by omega) (by omega)
  · intro h
    have hlo2 : lo = x.length := by
      rcases l3 with l3 | l3
      · exact l3
      · by_cases hz : lo = x.length
        · exact hz
        · have hk : lo < x.cps.toList.length := by omega
          have g : x.cps.getD lo 0 = x.cps.toList[lo] := by
            rw [← PyProof.Rows.getD_list]
            rw [List.getD_eq_getElem?_getD, List.getElem?_eq_getElem hk]
            rfl
          rw [g] at l3
          have := (inY _).mpr (h _ (List.getElem_mem hk))
          rw [l3] at this
          cases this
    refine str_ext ?_
    rw [sub, List.drop_eq_nil_of_le (by omega)]
    simp
end K51

set_option Elab.async false
set_option linter.all false
set_option autoImplicit false
set_option maxRecDepth 100000
set_option maxHeartbeats 400000
namespace K51
open PySem PySem.Spec PyProof.Rows L2 Dl
def top (i : Nat) : Stmt := PySem.Challenge.pw_shapestring_k51_words_as_texts.main.body.getD i (.Pass ⟨0, 0, 0, 0⟩)
structure Tx (K : PySem.W.Frag) (mg : Str → Option Value) : Prop where
  f_len : mg "len" = none
  f_int : mg "int" = none
  f_str : mg "str" = none
  f_list : mg "list" = none
  f_tuple : mg "tuple" = none
  f_isinstance : mg "isinstance" = none
  f_all : mg "all" = none
  f_range : mg "range" = none
  f_bool : mg "bool" = none
  g_ALONE : ∃ t, mg "ALONE" = some (.str "CRLE" t)
  g_FIGURES : ∃ t, mg "FIGURES" = some (.str "0123456789" t)
  g_NoText : mg "NoText" = some (.ref (He.ga K "NoText"))
  x_NoText : PySem.W.excIn K (He.ga K "NoText") He.veBase "ValueError.__new__" = true
  k_NoText : PySem.W.keepIn K (.ref (He.ga K "NoText")) = true
  b_NoText : PySem.W.subIn K (.ref (He.ga K "NoText")) (.type "BaseException") = some true
  t_NoText : PySem.W.typeIn K (.ref (He.ga K "NoText")) = some (.type "type")
local macro_rules
  | `(tactic| tb_rel) => `(tactic| first
    | with_reducible refine s_forI ?_
    | with_reducible refine s_whileI ?_
    | with_reducible refine s_seq ?_
    | with_reducible refine s_if ?_
    | with_reducible refine s_next ?_
    | with_reducible refine s_brk ?_
    | with_reducible refine s_cont ?_
    | with_reducible refine s_retN ?_
    | with_reducible refine t_test ?_
    | with_reducible refine t_B ?_
    | with_reducible refine t_and ?_
    | with_reducible refine t_or ?_
    | with_reducible refine t_not ?_
    | with_reducible refine e_slL ?_
    | with_reducible refine e_slS ?_
    | with_reducible refine e_op ?_
    | with_reducible refine e_isi2 ?_
    | with_reducible refine e_cb ?_
    | with_reducible refine e_tup ?_
    | with_reducible refine e_lst ?_
    | with_reducible refine e_neg ?_
    | with_reducible refine e_int ?_
    | with_reducible refine e_str ?_
    | with_reducible refine e_bl ?_
    | with_reducible refine e_non ?_
    | with_reducible refine e_dict0 ?_
    | with_reducible refine a_cons ?_
    | with_reducible refine a_nil ?_
    | with_reducible refine o_no ?_
    | with_reducible refine o_so ?_
    | with_reducible refine i_list ?_
    | with_reducible refine i_tup ?_
    | with_reducible refine i_range1 ?_
    | with_reducible refine i_revR1 ?_
    | with_reducible refine i_revL ?_
    | with_reducible refine i_str ?_
    | with_reducible refine i_enum ?_
    | with_reducible refine g_name ?_
    | with_reducible refine gs_cons ?_
    | with_reducible refine gs_nil ?_
    | with_reducible refine o_int ?_
    | with_reducible refine o_bool ?_
    | with_reducible refine o_eqI ?_
    | with_reducible refine o_neI ?_
    | with_reducible refine o_eqS ?_
    | with_reducible refine o_neS ?_
    | with_reducible refine o_isN ?_
    | with_reducible refine o_notN ?_
    | with_reducible refine c_lenL ?_
    | with_reducible refine c_lenT ?_
    | with_reducible refine c_intB ?_
    | with_reducible refine e_andV ?_
    | with_reducible refine e_orV ?_
    | with_reducible refine e_notV ?_
    | with_reducible refine e_ifE ?_
    | with_reducible refine e_bmS ?_
    | with_reducible refine e_fs ?_
    | with_reducible refine e_fmtI ?_
    | with_reducible refine j_cons ?_
    | with_reducible refine j_nil ?_
    | with_reducible refine o_inSg ?_
    | with_reducible refine o_notInSg ?_
    | ((fail_if_success (with_reducible refine s_ret (e_lst ?_))); (fail_if_success (with_reducible refine s_ret (e_callG ?_ ?_))); (with_reducible refine s_ret ?_))
    | ((fail_if_success (with_reducible refine s_set (e_lst ?_))); (fail_if_success (with_reducible refine s_set (e_callG ?_ ?_))); (with_reducible refine s_set ?_))
    | ((with_reducible apply e_var); exact rfl)
    | ((with_reducible apply ga_cell); exact ⟨_, rfl⟩)
    | with_reducible refine ga_cons ?_
    | with_reducible refine ga_nil ?_
    | with_reducible refine e_callG rfl ?_
    | ((with_reducible refine c_lenS ?_ ?_); assumption)
    | ((with_reducible refine g_tup ?_ ?_); exact rfl)
    | with_reducible refine ⟨_, rfl, ?_⟩
    | ((with_reducible refine And.intro ?_ ?_); assumption)
    | ((with_reducible refine And.intro ?_ ?_); exact Nat.le_of_ble_eq_true rfl))
abbrev intsD (is : List Int) : PyData := .list (is.map PyData.int)
def Pot (n s : Int) : Prop := 0 ≤ n ∧ 0 ≤ s ∧ s < 2147483647
abbrev pot (n s : Int) : DO := .lst [.int n, .int s]
abbrev s__law_at : Stmt := top 24
abbrev N__law_at : List Str := ["_law_script", "_law_k"]
theorem sc__law_at : FnScope N__law_at ["_law_script", "_law_k"] (defScope s__law_at) := ⟨rfl, rfl, rfl, by decide +kernel, rfl, by decide +kernel, by decide +kernel⟩
abbrev s__law_pot : Stmt := top 25
abbrev N__law_pot : List Str := ["_law_script", "_law_k", "_law_seed", "_law_cell", "_law_number"]
theorem sc__law_pot : FnScope N__law_pot ["_law_script", "_law_k"] (defScope s__law_pot) := ⟨rfl, rfl, rfl, by decide +kernel, rfl, by decide +kernel, by decide +kernel⟩
abbrev s__law_digit : Stmt := top 26
abbrev N__law_digit : List Str := ["_law_pot_here", "_law_base", "_law_digit_here"]
theorem sc__law_digit : FnScope N__law_digit ["_law_pot_here", "_law_base"] (defScope s__law_digit) := ⟨rfl, rfl, rfl, by decide +kernel, rfl, by decide +kernel, by decide +kernel⟩
abbrev s__law_string : Stmt := top 32
abbrev N__law_string : List Str := ["_law_cell", "_law_many", "_law_signs", "_law_text_here", "_law_k"]
theorem sc__law_string : FnScope N__law_string ["_law_cell", "_law_many", "_law_signs"] (defScope s__law_string) := ⟨rfl, rfl, rfl, by decide +kernel, rfl, by decide +kernel, by decide +kernel⟩
abbrev spAt (K : PySem.W.Frag) : Sp := SpG K (G := List Int × Nat) (fun g => [.fz (intsD g.1), .fz (.int (g.2 : Nat))]) (fun _ => True) (fun g out as' => out = .ret (.fz (.int (g.1.getD g.2 0))) ∧ as' = [.fz (intsD g.1), .fz (.int (g.2 : Nat))])
abbrev spPot (K : PySem.W.Frag) : Sp := SpG K (G := List Int × Nat) (fun g => [.fz (intsD g.1), .fz (.int (g.2 : Nat))]) (fun g => g.2 ≤ 1000) (fun g out as' => ∃ n s, Pot n s ∧ out = .ret (.new (pot n s)) ∧ as' = [.fz (intsD g.1), .fz (.int (g.2 : Nat))])
abbrev spDigit (K : PySem.W.Frag) : Sp := SpG K (G := Int × Int × Int) (fun g => [.mu (pot g.1 g.2.1), .fz (.int g.2.2)]) (fun g => Pot g.1 g.2.1 ∧ 0 < g.2.2 ∧ g.2.2.natAbs < 2 ^ 300) (fun g out as' => ∃ d n s, 0 ≤ d ∧ d < g.2.2 ∧ Pot n s ∧ out = .ret (.fz (.int d)) ∧ as' = [.mu (pot n s), .fz (.int g.2.2)])
abbrev spString (K : PySem.W.Frag) : Sp := SpG K (G := Int × Nat × Str) (fun g => [.fz (.int g.1), .fz (.int (g.2.1 : Nat)), .fz (.str g.2.2)]) (fun g => g.2.1 ≤ 1000 ∧ 0 < g.2.2.length ∧ g.2.2.length ≤ 1000) (fun g out as' => ∃ z : Str, z.length = g.2.1 ∧ (∀ c ∈ z.cps.toList, c ∈ g.2.2.cps.toList) ∧ out = .ret (.fz (.str z)) ∧ as' = [.fz (.int g.1), .fz (.int (g.2.1 : Nat)), .fz (.str g.2.2)])
section
variable {P : Program} {w : World} {K : PySem.W.Frag} {mg : Str → Option Value} {base : Heap}
theorem cl__law_at (T : Tx K mg) (D : Fd K mg "_law_at" s__law_at) : Cl P w K mg base 1 "_law_at" (spAt K) := by
  refine mk_clG D sc__law_at (fun _ _ _ _ _ _ us hl => match us, hl with | [_, _], _ => rfl) (fun _ => rfl) (fun cdv A outer s H E hr => ⟨_, (pss_cons (ps_if (pt_cmpR op_lt (pv 1) (pe_callB call_len_seq (by rfl) T.f_len boot_len (pa_cons (pv 0) pa_nil)) (nomark _)) (pss_one (ps_ret (pe_ix ix_list (pv 0) (pv 1) (fun _ _ => rfl)))) pss_nil)
    (pss_one (ps_ret pe_int))), ?_⟩)
  rintro ⟨is, k⟩ vs pre hl Zf Zh zp ee hE hx
  try dsimp only [cxOf]
  match vs, hl with
  | [v0, v1], _ =>
  repeat tb_rel
  refine ⟨fun hb => ?_, fun hb => ?_⟩
  · repeat tb_rel
    have hb' := of_decide_eq_true hb
    have hk : k < is.length := by simpa using hb'
    refine o_ixL (d := .int is[k]) (atI_nat' (by simp [hk])) ?_
    exact hE.rt (fit_fz (fit_fz fit_nil)) ⟨by simp [List.getD, hk], rfl⟩
  · repeat tb_rel
    have hk : ¬ k < is.length := by simpa using hb
    exact hE.rt (fit_fz (fit_fz fit_nil)) ⟨by simp [List.getD, hk], rfl⟩
theorem cl__law_pot (T : Tx K mg) (D : Fd K mg "_law_pot" s__law_pot) (c__law_at : Cl P w K mg base 1 "_law_at" (spAt K)) : Cl P w K mg base 2 "_law_pot" (spPot K) := by
  refine mk_clG D sc__law_pot (fun _ _ _ _ _ _ us hl => match us, hl with | [_, _], _ => rfl) (fun _ => rfl) (fun cdv A outer s H E hr => ⟨_, (pss_cons (ps_set (i := 2) sc__law_pot.nd rfl (.inl rfl) (pe_op op_add pe_int (pe_op op_mul pe_int (pv 1))))
    (pss_cons (ps_for PassesOwn.leaving rfl (pi_list (pe_slice sl_list (pv 0) po_none (po_some pe_int))) (pg_name (i := 3) sc__law_pot.nd rfl (Or.inl rfl)) (pss_one (ps_set (i := 2) sc__law_pot.nd rfl (.inl rfl) (pe_op op_mod (pe_op op_add (pe_op op_mul (pv 2) pe_int) (pv 3)) pe_int))))
    (pss_cons (ps_set (i := 4) sc__law_pot.nd rfl (.inl rfl) (pe_cl c__law_at hr (by omega) (by rfl) tkN (pa_cons (pv 0) (pa_cons (pv 1) pa_nil))))
    (pss_cons (ps_if (pt_cmpR op_lt (pv 4) (pe_op op_pow pe_int pe_int) (nomark _)) (pss_one (ps_set (i := 4) sc__law_pot.nd rfl (.inl rfl) pe_int)) pss_nil)
    (pss_one (ps_ret (pe_lst (pa_cons (pv 4) (pa_cons (pv 2) pa_nil))))))))), ?_⟩)
  rintro ⟨is, k⟩ vs pre hl Zf Zh zp ee hE hx
  try dsimp only [cxOf]
  dsimp only at pre
  match vs, hl with
  | [v0, v1], _ =>
  repeat tb_rel
  refine o_intC (.inl (by decide)) ?_
  repeat tb_rel
  refine for_by (fun i Γ' => ∃ (sd : Int) (c : Option Ent), 0 ≤ sd ∧ sd < 2147483647 ∧ Γ' = [some (.fz (intsD is)), some (.fz (.int (k : Nat))), some (.fz (.int sd)), c, none]) ⟨_, none, ?_, ?_, rfl⟩ ?_ ?_
  · omega
  · omega
  · rintro i d Γ' hd ⟨sd, c, h1, h2, rfl⟩
    obtain ⟨z, rfl⟩ : ∃ z, d = .int z := by
      have hm := List.mem_of_getElem? hd
      have hm2 := List.mem_of_mem_take hm
      obtain ⟨z, _, rfl⟩ := List.mem_map.mp (List.mem_of_mem_drop hm2)
      exact ⟨z, rfl⟩
    repeat tb_rel
    refine o_intC (.inr (by decide)) ?_
    repeat tb_rel
    refine o_intC (by decide) ?_
    exact ⟨_, _, Int.emod_nonneg _ (by decide), Int.emod_lt_of_pos _ (by decide), rfl⟩
  · rintro Γ' ⟨sd, c, h1, h2, rfl⟩
    repeat tb_rel
    refine s_set (e_callG rfl ?_)
    repeat tb_rel
    refine ⟨(is, k), ⟨_, rfl, _, rfl, rfl⟩, .nil, trivial, ?_⟩
    rintro out as' ⟨rfl, rfl⟩ _
    dsimp only [setA]
    repeat tb_rel
    refine o_intC ⟨by decide, by decide, by decide⟩ ?_
    repeat tb_rel
    refine ⟨fun hb => ?_, fun hb => ?_⟩
    · repeat tb_rel
      refine s_retNew (n_lst ?_)
      repeat tb_rel
      exact hE.rt (fit_fz (fit_fz fit_nil)) ⟨0, _, ⟨Int.le_refl 0, h1, h2⟩, rfl, rfl⟩
    · repeat tb_rel
      refine s_retNew (n_lst ?_)
      repeat tb_rel
      have hb' := of_decide_eq_false hb
      exact hE.rt (fit_fz (fit_fz fit_nil)) ⟨_, _, ⟨Int.le_trans (by decide) (Int.not_lt.mp hb'), h1, h2⟩, rfl, rfl⟩
theorem cl__law_digit (T : Tx K mg) (D : Fd K mg "_law_digit" s__law_digit) : Cl P w K mg base 1 "_law_digit" (spDigit K) := by
  refine mk_clG D sc__law_digit (fun _ _ _ _ _ _ us hl => match us, hl with | [_, _], _ => rfl) (fun _ => rfl) (fun cdv A outer s H E hr => ⟨_, (pss_cons (ps_if (pt_cmpR op_eq (pe_ix ix_list (pv 0) pe_int (fun _ _ => rfl)) pe_int (nomark _)) (pss_cons (ps_asg (pe_op op_mod (pe_op op_add (pe_op op_mul (pe_ix ix_list (pv 0) pe_int (fun _ _ => rfl)) pe_int) pe_int) pe_int) (pg_sub (pv 0) pe_int set_list))
    (pss_one (ps_asg (pe_op op_mod (pe_op op_mul (pe_ix ix_list (pv 0) pe_int (fun _ _ => rfl)) (pe_ix ix_list (pv 0) pe_int (fun _ _ => rfl))) pe_int) (pg_sub (pv 0) pe_int set_list)))) pss_nil)
    (pss_cons (ps_set (i := 2) sc__law_digit.nd rfl (.inl rfl) (pe_op op_mod (pe_ix ix_list (pv 0) pe_int (fun _ _ => rfl)) (pv 1)))
    (pss_cons (ps_asg (pe_op op_fdivW (pe_ix ix_list (pv 0) pe_int (fun _ _ => rfl)) (pv 1)) (pg_sub (pv 0) pe_int set_list))
    (pss_one (ps_ret (pv 2)))))), ?_⟩)
  rintro ⟨n, sd, b⟩ vs ⟨⟨hn, hs0, hs1⟩, hb0, hb1⟩ hl Zf Zh zp ee hE hx
  try dsimp only [cxOf]
  dsimp only at hn hs0 hs1 hb0 hb1
  match vs, hl with
  | [v0, v1], _ =>
  have fin : ∀ n sd : Int, 0 ≤ n → 0 ≤ sd → sd < 2147483647 → Sd ⟨K, Zf, Zh, zp, []⟩ (tSeq (tAsg (tOp (rI (fun _ j => 0 < j) fun i j => .int (i % j)) (tOp (rIxL K) (tVar 0) (tC (.int 0))) (tVar 1)) (gName 2)) (tSeq (tAsg (tOp (rI CDivW fun i j => .int (i / j)) (tOp (rIxL K) (tVar 0) (tC (.int 0))) (tVar 1)) (gSub (tVar 0) (tC (.int 0)) rSetL)) (tRet (tVar 2)))) [some (.par (adr v0) (pot n sd)), some (.fz (.int b)), none] ee := by
    intro n sd hn hs0 hs1
    refine s_seq (s_set (e_op (e_ixO (e_int ⟨0, _, .int n, rfl, rfl, rfl, ?_⟩) ⟨_, rfl⟩)))
    repeat tb_rel
    refine o_intC hb0 ?_
    refine s_seq (s_setI ⟨_, rfl⟩ (e_op (e_ixO (e_int ⟨0, _, .int n, rfl, rfl, rfl, ?_⟩) ⟨_, rfl⟩)))
    repeat tb_rel
    refine o_intC (wide_div hb0 hb1 (by decide) (by decide)) ⟨⟨_, rfl⟩, e_int ⟨0, 0, _, rfl, rfl, rfl, ?_⟩⟩
    repeat tb_rel
    exact hE.rt (fit_mu (fit_fz fit_nil)) ⟨n % b, n / b, sd, Int.emod_nonneg _ (by show b ≠ 0; omega), Int.emod_lt_of_pos _ hb0, ⟨Int.ediv_nonneg hn (by show 0 ≤ b; omega), hs0, hs1⟩, rfl, rfl⟩
  refine s_seq (s_if (t_test (e_op (e_ixO (e_int ⟨0, _, .int n, rfl, rfl, rfl, ?_⟩) ⟨_, rfl⟩))))
  repeat tb_rel
  refine ⟨fun hb => ?_, fun hb => ?_⟩
  · refine s_seq (s_setI ⟨_, rfl⟩ (e_op (e_op (e_op (e_ixO (e_int ⟨1, _, .int sd, rfl, rfl, rfl, ?_⟩) ⟨_, rfl⟩)))))
    repeat tb_rel
    refine o_intC (.inr (by decide)) ?_
    repeat tb_rel
    refine o_intC (by decide) ⟨⟨_, rfl⟩, e_int ⟨1, 1, _, rfl, rfl, rfl, ?_⟩⟩
    have q0 : 0 ≤ (sd * 16807 + 11) % 2147483647 := Int.emod_nonneg _ (by decide)
    have q1 : (sd * 16807 + 11) % 2147483647 < 2147483647 := Int.emod_lt_of_pos _ (by decide)
    generalize (sd * 16807 + 11) % 2147483647 = z at q0 q1 ⊢
    refine s_setI ⟨_, rfl⟩ (e_op (e_op (e_ixO (e_int ⟨1, _, .int z, rfl, rfl, rfl, ?_⟩) ⟨_, rfl⟩)))
    refine e_ixO (e_int ⟨1, _, .int z, rfl, rfl, rfl, ?_⟩) ⟨_, rfl⟩
    refine o_intC (.inl (by omega)) ?_
    repeat tb_rel
    refine o_intC (by decide) ⟨⟨_, rfl⟩, e_int ⟨0, 0, _, rfl, rfl, rfl, ?_⟩⟩
    exact fin _ _ (Int.emod_nonneg _ (by decide)) q0 q1
  · exact s_next (fin _ _ hn hs0 hs1)
theorem cl__law_string (T : Tx K mg) (D : Fd K mg "_law_string" s__law_string) : Cl P w K mg base 1 "_law_string" (spString K) := by
  refine mk_clG D sc__law_string (fun _ _ _ _ _ _ us hl => match us, hl with | [_, _, _], _ => rfl) (fun _ => rfl) (fun cdv A outer s H E hr => ⟨_, (pss_cons (ps_set (i := 3) sc__law_string.nd rfl (.inl rfl) pe_str)
    (pss_cons (ps_for PassesOwn.leaving rfl (pi_range1 (by rfl) T.f_range (pa_cons (pv 1) pa_nil)) (pg_name (i := 4) sc__law_string.nd rfl (Or.inl rfl)) (pss_cons (ps_set (i := 3) sc__law_string.nd rfl (.inl rfl) (pe_op op_add_str (pv 3) (pe_ix ix_str (pv 2) (pe_op op_mod (pv 0) (pe_callB call_len_str (by rfl) T.f_len boot_len (pa_cons (pv 2) pa_nil))) (fun _ _ => rfl))))
    (pss_one (ps_set (i := 0) sc__law_string.nd rfl (.inl rfl) (pe_op op_fdiv (pv 0) (pe_callB call_len_str (by rfl) T.f_len boot_len (pa_cons (pv 2) pa_nil)))))))
    (pss_one (ps_ret (pv 3))))), ?_⟩)
  rintro ⟨c, n, sg⟩ vs ⟨hn, h0, h1⟩ hl Zf Zh zp ee hE hx
  try dsimp only [cxOf]
  dsimp only at hn h0 h1
  match vs, hl with
  | [v0, v1, v2], _ =>
  have hz : sg.length ≤ sizeLine := Nat.le_trans h1 (by decide)
  repeat tb_rel
  refine ⟨by omega, by omega, ?_⟩
  refine for_by (fun i Γ' => ∃ (c : Int) (z : Str) (u : Option Ent), z.length = i ∧ (∀ y ∈ z.cps.toList, y ∈ sg.cps.toList) ∧ Γ' = [some (.fz (.int c)), some (.fz (.int (n : Nat))), some (.fz (.str sg)), some (.fz (.str z)), u]) ⟨c, _, none, rfl, by intro y hy; exact absurd hy (by decide +kernel +revert), rfl⟩ ?_ ?_
  · rintro i d Γ' hd ⟨c, z, u, hzl, hza, rfl⟩
    obtain ⟨hi, rfl⟩ := rangeD_get hd
    repeat tb_rel
    refine o_intC (by omega) ?_
    have q0 : 0 ≤ c % (sg.length : Int) := Int.emod_nonneg _ (by omega)
    have q1 : c % (sg.length : Int) < sg.length := Int.emod_lt_of_pos _ (by omega)
    have q2 : (c % (sg.length : Int)).toNat < sg.cps.toList.length := by
      have : sg.length = sg.cps.toList.length := by simp [Str.length]
      omega
    have q3 : ((c % (sg.length : Int)).toNat : Int) = c % (sg.length : Int) := by omega
    rw [← q3]
    refine o_ixSn hz (List.getElem?_eq_getElem q2) ?_
    refine o_addS ?_ ?_
    · rw [hzl]
      show i + 1 ≤ sizeLine
      exact Nat.le_trans (show i + 1 ≤ 1001 by omega) (by decide)
    · repeat tb_rel
      refine o_intC ⟨by omega, by omega⟩ ?_
      refine ⟨_, _, _, ?_, fun y hy => ?_, rfl⟩
      · rw [Str.length_append, hzl]
        rfl
      · rw [cps_app] at hy
        rcases List.mem_append.mp hy with hy | hy
        · exact hza y hy
        · rw [List.mem_singleton.mp hy]
          exact List.getElem_mem q2
  · rintro Γ' ⟨c, z, u, hzl, hza, rfl⟩
    repeat tb_rel
    exact hE.rt (fit_fz (fit_fz (fit_fz fit_nil))) ⟨z, by rw [hzl, rangeD_len]; simp, hza, rfl, rfl⟩
end
end K51

set_option Elab.async false
set_option linter.all false
set_option autoImplicit false
set_option maxRecDepth 100000
set_option maxHeartbeats 4000000
namespace K51
open PySem PySem.Spec PyProof.Rows PySem.NumText L2 Dl
local macro_rules
  | `(tactic| tb_rel) => `(tactic| first
    | with_reducible refine s_forI ?_
    | with_reducible refine s_whileI ?_
    | with_reducible refine s_seq ?_
    | with_reducible refine s_if ?_
    | with_reducible refine s_next ?_
    | with_reducible refine s_brk ?_
    | with_reducible refine s_cont ?_
    | with_reducible refine s_retN ?_
    | with_reducible refine t_test ?_
    | with_reducible refine t_B ?_
    | with_reducible refine t_and ?_
    | with_reducible refine t_or ?_
    | with_reducible refine t_not ?_
    | with_reducible refine e_slL ?_
    | with_reducible refine e_slS ?_
    | with_reducible refine e_op ?_
    | with_reducible refine e_isi2 ?_
    | with_reducible refine e_cb ?_
    | with_reducible refine e_tup ?_
    | with_reducible refine e_lst ?_
    | with_reducible refine e_neg ?_
    | with_reducible refine e_int ?_
    | with_reducible refine e_str ?_
    | with_reducible refine e_bl ?_
    | with_reducible refine e_non ?_
    | with_reducible refine e_dict0 ?_
    | with_reducible refine a_cons ?_
    | with_reducible refine a_nil ?_
    | with_reducible refine o_no ?_
    | with_reducible refine o_so ?_
    | with_reducible refine i_list ?_
    | with_reducible refine i_tup ?_
    | with_reducible refine i_range1 ?_
    | with_reducible refine i_revR1 ?_
    | with_reducible refine i_revL ?_
    | with_reducible refine i_str ?_
    | with_reducible refine i_enum ?_
    | with_reducible refine g_name ?_
    | with_reducible refine gs_cons ?_
    | with_reducible refine gs_nil ?_
    | with_reducible refine o_int ?_
    | with_reducible refine o_bool ?_
    | with_reducible refine o_eqI ?_
    | with_reducible refine o_neI ?_
    | with_reducible refine o_eqS ?_
    | with_reducible refine o_neS ?_
    | with_reducible refine o_isN ?_
    | with_reducible refine o_notN ?_
    | with_reducible refine c_lenL ?_
    | with_reducible refine c_lenT ?_
    | with_reducible refine c_intB ?_
    | with_reducible refine e_andV ?_
    | with_reducible refine e_orV ?_
    | with_reducible refine e_notV ?_
    | with_reducible refine e_ifE ?_
    | with_reducible refine e_bmS ?_
    | with_reducible refine e_fs ?_
    | with_reducible refine e_fmtI ?_
    | with_reducible refine j_cons ?_
    | with_reducible refine j_nil ?_
    | with_reducible refine o_inSg ?_
    | with_reducible refine o_notInSg ?_
    | ((fail_if_success (with_reducible refine s_ret (e_lst ?_))); (fail_if_success (with_reducible refine s_ret (e_callG ?_ ?_))); (with_reducible refine s_ret ?_))
    | ((fail_if_success (with_reducible refine s_set (e_lst ?_))); (fail_if_success (with_reducible refine s_set (e_callG ?_ ?_))); (with_reducible refine s_set ?_))
    | ((with_reducible apply e_var); exact rfl)
    | ((with_reducible apply ga_cell); exact ⟨_, rfl⟩)
    | with_reducible refine ga_cons ?_
    | with_reducible refine ga_nil ?_
    | with_reducible refine e_callG rfl ?_
    | ((with_reducible refine c_lenS ?_ ?_); assumption)
    | ((with_reducible refine g_tup ?_ ?_); exact rfl)
    | with_reducible refine ⟨_, rfl, ?_⟩
    | ((with_reducible refine And.intro ?_ ?_); assumption)
    | ((with_reducible refine And.intro ?_ ?_); exact Nat.le_of_ble_eq_true rfl))
abbrev s_show_letter : Stmt := top 19
abbrev N_show_letter : List Str := ["letter"]
theorem sc_show_letter : FnScope N_show_letter ["letter"] (defScope s_show_letter) := ⟨rfl, rfl, rfl, by decide +kernel, rfl, by decide +kernel, by decide +kernel⟩
abbrev s_show_word : Stmt := top 20
abbrev N_show_word : List Str := ["word", "letter"]
theorem sc_show_word : FnScope N_show_word ["word"] (defScope s_show_word) := ⟨rfl, rfl, rfl, by decide +kernel, rfl, by decide +kernel, by decide +kernel⟩
abbrev s_figures_from : Stmt := top 21
abbrev N_figures_from : List Str := ["text", "at", "end"]
theorem sc_figures_from : FnScope N_figures_from ["text", "at"] (defScope s_figures_from) := ⟨rfl, rfl, rfl, by decide +kernel, rfl, by decide +kernel, by decide +kernel⟩
abbrev s_read_word : Stmt := top 22
abbrev N_read_word : List Str := ["text", "found", "at", "j", "k"]
theorem sc_read_word : FnScope N_read_word ["text"] (defScope s_read_word) := ⟨rfl, rfl, rfl, by decide +kernel, rfl, by decide +kernel, by decide +kernel⟩
abbrev NT : Str := "NoText"
theorem sC : Str.ofString "C" = ⟨#[67]⟩ := by decide +kernel
theorem sE : Str.ofString "E" = ⟨#[69]⟩ := by decide +kernel
theorem sL : Str.ofString "L" = ⟨#[76]⟩ := by decide +kernel
theorem sR : Str.ofString "R" = ⟨#[82]⟩ := by decide +kernel
theorem sS : Str.ofString "S" = ⟨#[83]⟩ := by decide +kernel
theorem sP : Str.ofString "." = ⟨#[46]⟩ := by decide +kernel
theorem s0 : Str.ofString "0" = ⟨#[48]⟩ := by decide +kernel
theorem sN : Str.ofString "" = ⟨#[]⟩ := by decide +kernel
abbrev mkS (cs : List Nat) : Str := ⟨cs.toArray⟩
/-- a letter whose numbers are short -/
def Sh (l : Lt) : Prop := l.ok ∧ ∀ j k, l = .s j k → j < 10 ^ 60 ∧ k < 10 ^ 60
theorem log_ok {n : Nat} (h : n < 10 ^ 60) : (((n : Nat) : Int)).natAbs.log2 < 1920 := by
  refine PySem.Flt.log2_lt_of (by decide) ?_
  rw [Int.natAbs_natCast]
  exact Nat.lt_trans h (by decide +kernel)
abbrev spShowL (K : PySem.W.Frag) : Sp := SpG K (G := Lt) (fun l => [.fz l.enc]) (fun l => Sh l) (fun l out as' => out = .ret (.fz (.str (mkS l.txt))) ∧ as' = [.fz l.enc])
abbrev spShowW (K : PySem.W.Frag) : Sp := SpG K (G := List Lt) (fun ls => [.fz (.list (ls.map Lt.enc))]) (fun ls => (∀ l ∈ ls, Sh l) ∧ ls.length ≤ 16) (fun ls out as' => out = .ret (.fz (.str (mkS (ls.flatMap Lt.txt)))) ∧ as' = [.fz (.list (ls.map Lt.enc))])
theorem num_str (n : Nat) : (Str.ofString (toString ((n : Nat) : Int))) = mkS (digs n) := str_ext (by rw [str_num])
theorem txt_len {l : Lt} (h : Sh l) : l.txt.length ≤ 122 := by
  cases l with
  | p c => exact (by decide : 1 ≤ 122)
  | s j k =>
    obtain ⟨h1, h2⟩ := h.2 j k rfl
    have d1 := digs_short (k := 60) (by decide) h1
    have d2 := digs_short (k := 60) (by decide) h2
    simp [Lt.txt]
    omega
section
variable {P : Program} {w : World} {K : PySem.W.Frag} {mg : Str → Option Value} {base : Heap}
theorem cl_show_letter (T : Tx K mg) (D : Fd K mg "show_letter" s_show_letter) : Cl P w K mg base 1 "show_letter" (spShowL K) := by
  refine mk_clG D sc_show_letter (fun _ _ _ _ _ _ us hl => match us, hl with | [_], _ => rfl) (fun _ => rfl) (fun cdv A outer s H E hr => ⟨_, (pss_cons (ps_if (pt_cmpR op_eq (pe_ix ix_tup (pv 0) pe_int (fun _ _ => rfl)) pe_str (nomark _)) (pss_one (ps_ret (pe_joined (.cons pe_str (.cons (pe_fmt (pe_ix ix_tup (pv 0) pe_int (fun _ _ => rfl))) (.cons pe_str (.cons (pe_fmt (pe_ix ix_tup (pv 0) pe_int (fun _ _ => rfl))) .nil))))))) pss_nil)
    (pss_one (ps_ret (pe_ix ix_tup (pv 0) pe_int (fun _ _ => rfl))))), ?_⟩)
  rintro l vs hs hl Zf Zh zp ee hE hx
  try dsimp only [cxOf]
  match vs, hl with
  | [v0], _ =>
  simp only [sS, sP]
  cases l with
  | p c =>
    have hc : pl c := hs.1
    have h83 : c ≠ 83 := by unfold pl at hc; omega
    repeat tb_rel
    refine o_ixT (d := sg c) rfl ?_
    repeat tb_rel
    refine ⟨fun hb => absurd (by simpa using hb) h83, fun _ => ?_⟩
    repeat tb_rel
    refine o_ixT (d := sg c) rfl ?_
    exact hE.rt (fit_fz fit_nil) ⟨rfl, rfl⟩
  | s j k =>
    obtain ⟨hj, hk⟩ := hs.2 j k rfl
    have tl := txt_len hs
    repeat tb_rel
    refine o_ixT (d := sg 83) rfl ?_
    repeat tb_rel
    refine ⟨fun _ => ?_, fun hb => ?_⟩
    rotate_left
    · simp at hb
    have dj := digs_short (k := 60) (by decide) hj
    have dk := digs_short (k := 60) (by decide) hk
    have lj : (mkS (digs j)).length = (digs j).length := by rw [← len_cps]
    have lk : (mkS (digs k)).length = (digs k).length := by rw [← len_cps]
    have le : Str.empty.length = 0 := rfl
    have l1 : ∀ c : Nat, (⟨#[c]⟩ : Str).length = 1 := fun _ => rfl
    have big : ∀ n : Nat, n ≤ 1000 → n ≤ sizeLine := fun n h => Nat.le_trans h (by decide)
    repeat tb_rel
    refine o_ixT (d := .int (j : Nat)) rfl ?_
    repeat tb_rel
    refine ⟨log_ok hj, ?_⟩
    rw [num_str]
    repeat tb_rel
    refine ⟨big _ (by rw [Str.length_append, Str.length_append, le, l1, lj]; omega), ?_⟩
    repeat tb_rel
    refine ⟨big _ (by rw [Str.length_append, Str.length_append, Str.length_append, le, l1, l1, lj]; omega), ?_⟩
    repeat tb_rel
    refine o_ixT (d := .int (k : Nat)) rfl ?_
    repeat tb_rel
    refine ⟨log_ok hk, ?_⟩
    rw [num_str]
    repeat tb_rel
    refine ⟨big _ (by rw [Str.length_append, Str.length_append, Str.length_append, Str.length_append, le, l1, l1, lj, lk]; omega), ?_⟩
    repeat tb_rel
    refine hE.rt (fit_fz fit_nil) ⟨?_, rfl⟩
    congr 3
    refine str_ext ?_
    rw [cps_app, cps_app, cps_app, cps_app]
    simp [Lt.txt, Str.empty]
theorem join_cps : ∀ (ls : List Lt), (Txt.join ⟨#[]⟩ (ls.map fun l => mkS l.txt)).cps.toList = ls.flatMap Lt.txt := by
  intro ls
  rw [TL.join_eq]
  induction ls with
  | nil => rfl
  | cons l ls ih =>
    cases ls with
    | nil => simp [Str.join]
    | cons m ls =>
      have e : Str.join (⟨#[]⟩ : Str) ((l :: m :: ls).map fun l => mkS l.txt) = mkS l.txt ++ ⟨#[]⟩ ++ Str.join ⟨#[]⟩ ((m :: ls).map fun l => mkS l.txt) := rfl
      rw [e, cps_app, cps_app, ih]
      simp
theorem sum_le {α : Type} (f : α → Nat) (b : Nat) : ∀ ls : List α, (∀ l ∈ ls, f l ≤ b) → (ls.map f).sum ≤ ls.length * b
  | [], _ => by simp
  | l :: ls, h => by
    have h1 := h l List.mem_cons_self
    have h2 := sum_le f b ls fun x hx => h x (List.mem_cons_of_mem _ hx)
    rw [List.map_cons, List.sum_cons, List.length_cons, Nat.succ_mul]
    omega
theorem cl_show_word (T : Tx K mg) (D : Fd K mg "show_word" s_show_word) (c_show_letter : Cl P w K mg base 1 "show_letter" (spShowL K)) : Cl P w K mg base 2 "show_word" (spShowW K) := by
  refine mk_clG D sc_show_word (fun _ _ _ _ _ _ us hl => match us, hl with | [_], _ => rfl) (fun _ => rfl) (fun cdv A outer s H E hr => ⟨_, (pss_one (ps_ret (pe_bm PySem.F.plainAttrs_str PySem.F.slot_str_join PySem.F.type_str_join mt_join pe_str (pa_cons (pe_lc (own := [("letter", 1)])  rfl sc_show_word.nd (pi_list (pv 0)) (blkOk_by (N := N_show_word) (sc := defScope s_show_word) (by decide +kernel)) (fun _ _ _ _ _ => (pg_name (i := 1) sc_show_word.nd rfl (Or.inl rfl))) (fun _ _ _ _ _ => pts_nil) (fun _ _ _ _ _ => (pe_cl c_show_letter hr (by omega) (by rfl) tkN (pa_cons (pv 1) pa_nil)))) pa_nil)))), ?_⟩)
  rintro ls vs ⟨hs, h16⟩ hl Zf Zh zp ee hE hx
  try dsimp only [cxOf]
  match vs, hl with
  | [v0], _ =>
  simp only [sN]
  repeat tb_rel
  refine e_new (n_lcL (keeps_name (by decide)) (i_list (e_var rfl ⟨_, rfl, by simp; omega, ls.map (fun l => .str (mkS l.txt)), by simp, ?_, ?_⟩)))
  · rintro x i d e hd he
    rw [List.getElem?_map] at hd he
    cases hq : ls[i]? with
    | none => rw [hq] at hd; cases hd
    | some l =>
      rw [hq] at hd he
      cases hd
      cases he
      repeat tb_rel
      refine ⟨l, ⟨_, rfl, rfl⟩, .nil, hs l (List.mem_of_getElem? hq), ?_⟩
      rintro out as' ⟨rfl, rfl⟩ _
      exact ⟨rfl, rfl⟩
  · refine ⟨_, rfl, a_nil ?_⟩
    have e : ls.map (fun l => PyData.str (mkS l.txt)) = (ls.map fun l => mkS l.txt).map PyData.str := by simp
    rw [e]
    refine m_join ?_ ?_
    · rw [List.map_map]
      have := sum_le (fun l : Lt => (mkS l.txt).length) 122 ls fun l hl => by
        rw [← len_cps]
        exact txt_len (hs l hl)
      have h2 : (⟨#[]⟩ : Str).length = 0 := rfl
      rw [h2]
      show (ls.map fun l : Lt => (mkS l.txt).length).sum + _ * 0 ≤ _
      omega
    · refine hE.rt (fit_fz fit_nil) ⟨?_, rfl⟩
      congr 3
      exact str_ext (join_cps ls)
end
end K51

set_option Elab.async false
set_option linter.all false
set_option autoImplicit false
set_option maxRecDepth 100000
set_option maxHeartbeats 4000000
namespace K51
open PySem PySem.Spec PyProof.Rows PySem.NumText L2 Dl
local macro_rules
  | `(tactic| tb_rel) => `(tactic| first
    | with_reducible refine s_forI ?_
    | with_reducible refine s_whileI ?_
    | with_reducible refine s_seq ?_
    | with_reducible refine s_if ?_
    | with_reducible refine s_next ?_
    | with_reducible refine s_brk ?_
    | with_reducible refine s_cont ?_
    | with_reducible refine s_retN ?_
    | with_reducible refine t_test ?_
    | with_reducible refine t_B ?_
    | with_reducible refine t_and ?_
    | with_reducible refine t_or ?_
    | with_reducible refine t_not ?_
    | with_reducible refine e_slL ?_
    | with_reducible refine e_slS ?_
    | with_reducible refine e_op ?_
    | with_reducible refine e_isi2 ?_
    | with_reducible refine e_cb ?_
    | with_reducible refine e_tup ?_
    | with_reducible refine e_lst ?_
    | with_reducible refine e_neg ?_
    | with_reducible refine e_int ?_
    | with_reducible refine e_str ?_
    | with_reducible refine e_bl ?_
    | with_reducible refine e_non ?_
    | with_reducible refine e_dict0 ?_
    | with_reducible refine a_cons ?_
    | with_reducible refine a_nil ?_
    | with_reducible refine o_no ?_
    | with_reducible refine o_so ?_
    | with_reducible refine i_list ?_
    | with_reducible refine i_tup ?_
    | with_reducible refine i_range1 ?_
    | with_reducible refine i_revR1 ?_
    | with_reducible refine i_revL ?_
    | with_reducible refine i_str ?_
    | with_reducible refine i_enum ?_
    | with_reducible refine g_name ?_
    | with_reducible refine gs_cons ?_
    | with_reducible refine gs_nil ?_
    | with_reducible refine o_int ?_
    | with_reducible refine o_bool ?_
    | with_reducible refine o_eqI ?_
    | with_reducible refine o_neI ?_
    | with_reducible refine o_eqS ?_
    | with_reducible refine o_neS ?_
    | with_reducible refine o_isN ?_
    | with_reducible refine o_notN ?_
    | with_reducible refine c_lenL ?_
    | with_reducible refine c_lenT ?_
    | with_reducible refine c_intB ?_
    | with_reducible refine e_andV ?_
    | with_reducible refine e_orV ?_
    | with_reducible refine e_notV ?_
    | with_reducible refine e_ifE ?_
    | with_reducible refine e_bmS ?_
    | with_reducible refine e_fs ?_
    | with_reducible refine e_fmtI ?_
    | with_reducible refine j_cons ?_
    | with_reducible refine j_nil ?_
    | with_reducible refine o_inSg ?_
    | with_reducible refine o_notInSg ?_
    | ((fail_if_success (with_reducible refine s_ret (e_lst ?_))); (fail_if_success (with_reducible refine s_ret (e_callG ?_ ?_))); (with_reducible refine s_ret ?_))
    | ((fail_if_success (with_reducible refine s_set (e_lst ?_))); (fail_if_success (with_reducible refine s_set (e_callG ?_ ?_))); (with_reducible refine s_set ?_))
    | ((with_reducible apply e_var); exact rfl)
    | ((with_reducible apply ga_cell); exact ⟨_, rfl⟩)
    | with_reducible refine ga_cons ?_
    | with_reducible refine ga_nil ?_
    | with_reducible refine e_callG rfl ?_
    | ((with_reducible refine c_lenS ?_ ?_); assumption)
    | ((with_reducible refine g_tup ?_ ?_); exact rfl)
    | with_reducible refine ⟨_, rfl, ?_⟩
    | ((with_reducible refine And.intro ?_ ?_); assumption)
    | ((with_reducible refine And.intro ?_ ?_); exact Nat.le_of_ble_eq_true rfl))
def dgB (c : Nat) : Bool := decide (48 ≤ c ∧ c ≤ 57)
theorem fig_list : (Str.ofString "0123456789").cps.toList = [48, 49, 50, 51, 52, 53, 54, 55, 56, 57] := by decide +kernel
theorem in_fig {c : Nat} : decide (c ∈ (Str.ofString "0123456789").cps.toList) = dgB c := by
  unfold dgB
  rw [decide_eq_decide, fig_list]
  simp
  omega
theorem alone_list : (Str.ofString "CRLE").cps.toList = [67, 82, 76, 69] := by decide +kernel
theorem in_alone {c : Nat} : c ∈ (Str.ofString "CRLE").cps.toList ↔ pl c := by
  rw [alone_list]
  unfold pl
  simp
/-- the figures ahead -/
def run (s : List Nat) : List Nat := s.takeWhile dgB
theorem run_eq {a r : List Nat} (ha : AllDigits a) (hr : ∀ c t, r = c :: t → ¬ Dg c) : run (a ++ r) = a := by
  unfold run
  induction a with
  | nil =>
    cases r with
    | nil => rfl
    | cons c t =>
      have : dgB c = false := by
        unfold dgB
        rw [decide_eq_false_iff_not]
        exact hr c t rfl
      simp [this]
  | cons x a ih =>
    have : dgB x = true := by
      unfold dgB
      rw [decide_eq_true_iff]
      exact ha x List.mem_cons_self
    rw [List.cons_append, List.takeWhile_cons, this]
    simp only [if_true]
    rw [ih fun c hc => ha c (List.mem_cons_of_mem _ hc)]
theorem run_all (s : List Nat) : AllDigits (run s) := fun c hc => by
  have := List.all_eq_true.mp (List.all_takeWhile (l := s) (p := dgB)) c hc
  unfold dgB at this
  exact of_decide_eq_true this
theorem run_split (s : List Nat) : ∃ r, s = run s ++ r ∧ ∀ c t, r = c :: t → ¬ Dg c := by
  refine ⟨s.dropWhile dgB, (List.takeWhile_append_dropWhile).symm, fun c t e hd => ?_⟩
  have := List.head?_dropWhile_not dgB s
  rw [e] at this
  simp at this
  unfold dgB at this
  simp at this
  omega
theorem run_drop (s : List Nat) : ∀ c t, s.drop (run s).length = c :: t → ¬ Dg c := by
  obtain ⟨r, e, h⟩ := run_split s
  have e2 : s.drop (run s).length = r := by
    conv => lhs; rw [e]
    have : run (run s ++ r) = run s := run_eq (run_all s) h
    rw [this, List.drop_left]
  rw [e2]
  exact h
def FigR (x : Str) (i : Nat) (out : Out) : Prop := (Fig (run (x.cps.toList.drop i)) (digitsVal (run (x.cps.toList.drop i))) ∧ out = .ret (.fz (.tuple [.int ((digitsVal (run (x.cps.toList.drop i)) : Nat) : Int), .int ((i + (run (x.cps.toList.drop i)).length : Nat) : Int)]))) ∨ (¬ Fig (run (x.cps.toList.drop i)) (digitsVal (run (x.cps.toList.drop i))) ∧ out = .exc NT)
abbrev spFigs (K : PySem.W.Frag) : Sp := SpG K (G := Str × Nat) (fun g => [.fz (.str g.1), .fz (.int (g.2 : Nat))]) (fun g => g.2 ≤ g.1.length ∧ g.1.length ≤ 5000 ∧ NR 640 g.1.cps.toList) (fun g out as' => FigR g.1 g.2 out ∧ as' = [.fz (.str g.1), .fz (.int (g.2 : Nat))])
section
variable {P : Program} {w : World} {K : PySem.W.Frag} {mg : Str → Option Value} {base : Heap}
theorem cl_figures_from (T : Tx K mg) (D : Fd K mg "figures_from" s_figures_from) : Cl P w K mg base 1 "figures_from" (spFigs K) := by
  refine mk_clG D sc_figures_from (fun _ _ _ _ _ _ us hl => match us, hl with | [_, _], _ => rfl) (fun _ => rfl) (fun cdv A outer s H E hr => ⟨_, (pss_cons (ps_set (i := 2) sc_figures_from.nd rfl (.inl rfl) (pv 1))
    (pss_cons (ps_while PassesOwn.leaving (PW.pt (pw_and (pt_cmpR op_lt (pv 2) (pe_callB call_len_str (by rfl) T.f_len boot_len (pa_cons (pv 0) pa_nil)) (nomark _)) (pw_and1 (pt_cmpR op_in_sign (pe_ix ix_str (pv 0) (pv 2) (fun _ _ => rfl)) (pe_glob (v := .str "0123456789") (by rfl) T.g_FIGURES.choose_spec ⟨_, rfl⟩) (by rfl))))) (pss_one (ps_aug (i := 2) sc_figures_from.nd rfl (.inl rfl) pe_int ip_add)))
    (pss_cons (ps_if (PW.pt (pw_or (pt_cmpR op_eq (pv 2) (pv 1) (nomark _)) (pw_or1 (PW.pt (pw_and (pt_cmpR op_eq (pe_ix ix_str (pv 0) (pv 1) (fun _ _ => rfl)) pe_str (nomark _)) (pw_and1 (pt_cmpR op_gt (pv 2) (pe_op op_add (pv 1) pe_int) (nomark _)))))))) (pss_one (L2N.ps_raise rfl (L2N.takes_of rfl rfl rfl rfl) (L2N.pmk_own PySem.F.excBase_ValueError T.x_NoText T.g_NoText T.k_NoText (raises_own T.b_NoText T.t_NoText) (by rfl)))) pss_nil)
    (pss_one (ps_ret (pe_tup (pa_cons (pe_callTy call_int_str (by rfl) T.f_int boot_int (pa_cons (pe_slice sl_str (pv 0) (po_some (pv 1)) (po_some (pv 2))) pa_nil)) (pa_cons (pv 2) pa_nil)))))))), ?_⟩)
  rintro ⟨x, i⟩ vs ⟨hi, hx5, hNR⟩ hl Zf Zh zp ee hE hx
  try dsimp only [cxOf]
  dsimp only at hi hx5 hNR
  match vs, hl with
  | [v0, v1], _ =>
  simp only [s0]
  have hz : x.length ≤ sizeLine := Nat.le_trans hx5 (by decide)
  have hxl := len_cps x
  repeat tb_rel
  refine while_by (fun m Γ' => ∃ e : Nat, m = x.length - e ∧ i ≤ e ∧ e ≤ x.length ∧ AllDigits ((x.cps.toList.drop i).take (e - i)) ∧ Γ' = [some (.fz (.str x)), some (.fz (.int (i : Nat))), some (.fz (.int (e : Nat)))]) _ ⟨i, rfl, Nat.le_refl _, hi, by rw [Nat.sub_self]; intro c hc; simp at hc, rfl⟩ ?_
  rintro m Γ' ⟨e, rfl, h1, h2, h3, rfl⟩
  have nxt : ∀ c, x.cps.toList[e]? = some c → (x.cps.toList.drop i).take (e + 1 - i) = (x.cps.toList.drop i).take (e - i) ++ [c] := fun c hc => by
    rw [show e + 1 - i = (e - i) + 1 by omega]
    rw [List.take_succ]
    congr 1
    rw [List.getElem?_drop, show i + (e - i) = e by omega, hc]
    rfl
  have rest : (e < x.length → ∀ c, x.cps.toList[e]? = some c → ¬ Dg c) → run (x.cps.toList.drop i) = (x.cps.toList.drop i).take (e - i) := fun h => by
    have e1 : x.cps.toList.drop i = (x.cps.toList.drop i).take (e - i) ++ x.cps.toList.drop e := by
      conv => lhs; rw [← List.take_append_drop (e - i) (x.cps.toList.drop i)]
      rw [List.drop_drop, show i + (e - i) = e by omega]
    conv => lhs; rw [e1]
    refine run_eq h3 fun c t q => ?_
    have hlt : e < x.length := by
      have := congrArg List.length q
      rw [List.length_drop, List.length_cons] at this
      omega
    refine h hlt c ?_
    have : (x.cps.toList.drop e)[0]? = some c := by rw [q]; rfl
    rw [List.getElem?_drop] at this
    simpa using this
  have tst : Et ⟨K, Zf, Zh, zp, []⟩ (tAnd (tTest (tOp (rI0 fun i j => .bl (decide (i < j))) (tVar 2) (tCB (fun xs H Q => ∃ z, xs = [.str z] ∧ z.length ≤ sizeLine ∧ Q (.int z.length) H) (tCons (tVar 0) tNil)))) (tTest (tOp (fun x y H Q => ∃ (c : Nat) (z : Str), x = .str ⟨#[c]⟩ ∧ y = .str z ∧ Q (.bl (decide (c ∈ z.cps.toList))) H) (tOp rIxS (tVar 0) (tVar 2)) (tC (.str "0123456789"))))) [some (.fz (.str x)), some (.fz (.int (i : Nat))), some (.fz (.int (e : Nat)))] (fun b Γ2 => b = (match x.cps.toList[e]? with | some c => dgB c | none => false) ∧ Γ2 = [some (.fz (.str x)), some (.fz (.int (i : Nat))), some (.fz (.int (e : Nat)))]) := by
    repeat tb_rel
    refine ⟨fun h => ?_, fun h => ⟨?_, rfl⟩⟩
    · have hlt : e < x.length := by have := of_decide_eq_true h; omega
      have hc : x.cps.toList[e]? = some x.cps.toList[e] := List.getElem?_eq_getElem (by omega)
      repeat tb_rel
      refine o_ixSn hz hc ?_
      repeat tb_rel
      rw [hc]
      exact ⟨in_fig, rfl⟩
    · have hlt : ¬ e < x.length := by have := of_decide_eq_false h; omega
      rw [List.getElem?_eq_none (by omega)]
  refine tst.imp ?_
  rintro b Γ2 ⟨rfl, rfl⟩
  refine ⟨fun hb => ?_, fun hb => ?_⟩
  · cases hc : x.cps.toList[e]? with
    | none => rw [hc] at hb; cases hb
    | some c =>
      rw [hc] at hb
      have hlt : e < x.length := by
        obtain ⟨h, _⟩ := List.getElem?_eq_some_iff.mp hc
        omega
      refine s_augI rfl (e_int ⟨1, rfl, x.length - (e + 1), by omega, e + 1, rfl, by omega, by omega, ?_, rfl⟩)
      rw [nxt c hc]
      intro y hy
      rcases List.mem_append.mp hy with hy | hy
      · exact h3 y hy
      · rw [List.mem_singleton.mp hy]
        unfold dgB at hb
        exact of_decide_eq_true hb
  · have hrun := rest fun hlt c hc hd => by
      rw [hc] at hb
      unfold dgB at hb
      exact of_decide_eq_false hb hd
    have hds : (x.cps.toList.drop i).take (e - i) = run (x.cps.toList.drop i) := hrun.symm
    have hlr : (run (x.cps.toList.drop i)).length = e - i := by
      rw [hrun, List.length_take, List.length_drop]
      omega
    have hrl : (run (x.cps.toList.drop i)).length ≤ 640 := by
      refine hNR (x.cps.toList.take i) _ ((x.cps.toList.drop i).drop (run (x.cps.toList.drop i)).length) ?_ (run_all _)
      rw [hlr]
      conv => lhs; rw [← List.take_append_drop i x.cps.toList, ← List.take_append_drop (e - i) (x.cps.toList.drop i)]
      rw [hds]
    refine s_seq (s_ifB (decide (e = i ∨ x.cps.toList[i]? = some 48 ∧ i + 1 < e)) ?_ (fun hb => ?_) (fun hb => ?_))
    · repeat tb_rel
      refine ⟨fun h => ?_, fun h => ⟨?_, rfl⟩⟩
      · have hne : e ≠ i := by
          have := of_decide_eq_false h
          omega
        have hc : x.cps.toList[i]? = some x.cps.toList[i] := List.getElem?_eq_getElem (by omega)
        generalize x.cps.toList[i] = c at hc
        repeat tb_rel
        refine o_ixSn hz hc ?_
        repeat tb_rel
        refine ⟨fun h => ?_, fun h => ⟨?_, rfl⟩⟩
        · have h48 : c = 48 := by simpa using h
          repeat tb_rel
          refine ⟨?_, rfl⟩
          rw [decide_eq_decide, hc, h48]
          constructor
          · intro q
            exact .inr ⟨rfl, by omega⟩
          · rintro (q | q)
            · exact absurd q hne
            · omega
        · have h48 : c ≠ 48 := by simpa using h
          symm
          rw [decide_eq_false_iff_not, hc]
          rintro (q | ⟨q, _⟩)
          · exact hne q
          · exact h48 (Option.some.inj q)
      · symm
        have := of_decide_eq_true h
        rw [decide_eq_true_iff]
        exact .inl (by omega)
    · have hb' := of_decide_eq_true hb
      refine s_raise (hx NT _ _ (fit_fz (fit_fz fit_nil)) ⟨.inr ⟨fun hF => ?_, rfl⟩, rfl⟩)
      dsimp only at hF
      rcases hb' with q | ⟨q1, q2⟩
      · refine hF.2.1 (List.length_eq_zero_iff.mp ?_)
        omega
      · have hd0 : ∃ r, run (x.cps.toList.drop i) = 48 :: r := by
          cases hq : run (x.cps.toList.drop i) with
          | nil => rw [hq] at hlr; simp at hlr; omega
          | cons a r =>
            refine ⟨r, ?_⟩
            obtain ⟨r2, e2, _⟩ := run_split (x.cps.toList.drop i)
            have : (x.cps.toList.drop i)[0]? = some a := by rw [e2, hq]; rfl
            rw [List.getElem?_drop, Nat.add_zero, q1] at this
            rw [← Option.some.inj this]
        obtain ⟨r, hr⟩ := hd0
        rcases hF.2.2.1 with z | z
        · rw [z] at hlr
          simp at hlr
          omega
        · exact z r hr
    · have hb' := of_decide_eq_false hb
      have hne : e ≠ i := fun z => hb' (.inl z)
      have hF : Fig (run (x.cps.toList.drop i)) (digitsVal (run (x.cps.toList.drop i))) := by
        refine ⟨run_all _, fun z => ?_, ?_, rfl⟩
        · rw [z] at hlr
          simp at hlr
          omega
        · by_cases hr : ∃ r, run (x.cps.toList.drop i) = 48 :: r
          · obtain ⟨r, hr⟩ := hr
            refine .inl ?_
            cases r with
            | nil => exact hr
            | cons a r =>
              refine absurd (.inr ⟨?_, ?_⟩) hb'
              · obtain ⟨r2, e2, _⟩ := run_split (x.cps.toList.drop i)
                have : (x.cps.toList.drop i)[0]? = some 48 := by rw [e2, hr]; rfl
                rw [List.getElem?_drop, Nat.add_zero] at this
                exact this
              · rw [hr] at hlr
                simp at hlr
                omega
          · exact .inr fun r z => hr ⟨r, z⟩
      have hcut : (cutS x (some (i : Int)) (some (e : Int))).cps.toList = run (x.cps.toList.drop i) := by
        rw [cutS_mid h1, hds]
      repeat tb_rel
      refine c_intT (n := ((digitsVal (run (x.cps.toList.drop i)) : Nat) : Int)) (int_fig (by rw [hcut]; exact hF) ?_) ?_ ?_
      · rw [← len_cps, hcut]
        exact hrl
      · rw [← len_cps, hcut]
        exact hrl
      repeat tb_rel
      refine hE.rt (fit_fz (fit_fz fit_nil)) ⟨.inl ⟨hF, ?_⟩, rfl⟩
      dsimp only
      rw [hlr, show i + (e - i) = e by omega]
end
end K51

set_option Elab.async false
set_option linter.all false
set_option autoImplicit false
set_option maxRecDepth 100000
set_option maxHeartbeats 4000000
namespace K51
open PySem PySem.Spec PyProof.Rows PySem.NumText L2 Dl
local macro_rules
  | `(tactic| tb_rel) => `(tactic| first
    | with_reducible refine s_forI ?_
    | with_reducible refine s_whileI ?_
    | with_reducible refine s_seq ?_
    | with_reducible refine s_if ?_
    | with_reducible refine s_next ?_
    | with_reducible refine s_brk ?_
    | with_reducible refine s_cont ?_
    | with_reducible refine s_retN ?_
    | with_reducible refine t_test ?_
    | with_reducible refine t_B ?_
    | with_reducible refine t_and ?_
    | with_reducible refine t_or ?_
    | with_reducible refine t_not ?_
    | with_reducible refine e_slL ?_
    | with_reducible refine e_slS ?_
    | with_reducible refine e_op ?_
    | with_reducible refine e_isi2 ?_
    | with_reducible refine e_cb ?_
    | with_reducible refine e_tup ?_
    | with_reducible refine e_lst ?_
    | with_reducible refine e_neg ?_
    | with_reducible refine e_int ?_
    | with_reducible refine e_str ?_
    | with_reducible refine e_bl ?_
    | with_reducible refine e_non ?_
    | with_reducible refine e_dict0 ?_
    | with_reducible refine a_cons ?_
    | with_reducible refine a_nil ?_
    | with_reducible refine o_no ?_
    | with_reducible refine o_so ?_
    | with_reducible refine i_list ?_
    | with_reducible refine i_tup ?_
    | with_reducible refine i_range1 ?_
    | with_reducible refine i_revR1 ?_
    | with_reducible refine i_revL ?_
    | with_reducible refine i_str ?_
    | with_reducible refine i_enum ?_
    | with_reducible refine g_name ?_
    | with_reducible refine gs_cons ?_
    | with_reducible refine gs_nil ?_
    | with_reducible refine o_int ?_
    | with_reducible refine o_bool ?_
    | with_reducible refine o_eqI ?_
    | with_reducible refine o_neI ?_
    | with_reducible refine o_eqS ?_
    | with_reducible refine o_neS ?_
    | with_reducible refine o_isN ?_
    | with_reducible refine o_notN ?_
    | with_reducible refine c_lenL ?_
    | with_reducible refine c_lenT ?_
    | with_reducible refine c_intB ?_
    | with_reducible refine e_andV ?_
    | with_reducible refine e_orV ?_
    | with_reducible refine e_notV ?_
    | with_reducible refine e_ifE ?_
    | with_reducible refine e_bmS ?_
    | with_reducible refine e_fs ?_
    | with_reducible refine e_fmtI ?_
    | with_reducible refine j_cons ?_
    | with_reducible refine j_nil ?_
    | with_reducible refine o_inSg ?_
    | with_reducible refine o_notInSg ?_
    | ((fail_if_success (with_reducible refine s_ret (e_lst ?_))); (fail_if_success (with_reducible refine s_ret (e_callG ?_ ?_))); (with_reducible refine s_ret ?_))
    | ((fail_if_success (with_reducible refine s_set (e_lst ?_))); (fail_if_success (with_reducible refine s_set (e_callG ?_ ?_))); (with_reducible refine s_set ?_))
    | ((with_reducible apply e_var); exact rfl)
    | ((with_reducible apply ga_cell); exact ⟨_, rfl⟩)
    | with_reducible refine ga_cons ?_
    | with_reducible refine ga_nil ?_
    | with_reducible refine e_callG rfl ?_
    | ((with_reducible refine c_lenS ?_ ?_); assumption)
    | ((with_reducible refine g_tup ?_ ?_); exact rfl)
    | with_reducible refine ⟨_, rfl, ?_⟩
    | ((with_reducible refine And.intro ?_ ?_); assumption)
    | ((with_reducible refine And.intro ?_ ?_); exact Nat.le_of_ble_eq_true rfl))
abbrev encs (ls : List Lt) : List PyData := ls.map Lt.enc
def ReadR (d : PyData) (out : Out) : Prop := (∃ x ls, d = .str x ∧ Rd x.cps.toList ls ∧ out = .ret (.new (.lst (encs ls)))) ∨ ((∀ x ls, d = .str x → ¬ Rd x.cps.toList ls) ∧ out = .exc NT)
def As (t : List Nat) : Prop := ∀ c ∈ t, c < 128
def TxOk (x : Str) : Prop := x.length ≤ 5000 ∧ NR 640 x.cps.toList ∧ As x.cps.toList
abbrev spRead (K : PySem.W.Frag) : Sp := SpG K (G := PyData) (fun d => [.fz d]) (fun d => ∀ x, d = .str x → TxOk x) (fun d out as' => ReadR d out ∧ as' = [.fz d])
theorem drop_at {l : List Nat} {i : Nat} {c : Nat} (h : l[i]? = some c) : l.drop i = c :: l.drop (i + 1) := by
  obtain ⟨hi, rfl⟩ := List.getElem?_eq_some_iff.mp h
  exact (List.drop_eq_getElem_cons hi)
theorem run_cut (s : List Nat) : s = run s ++ s.drop (run s).length := by
  obtain ⟨r, e, h⟩ := run_split s
  have : s.drop (run s).length = r := by
    conv => lhs; rw [e]
    rw [run_eq (run_all s) h, List.drop_left]
  rw [this]
  exact e
section
variable {P : Program} {w : World} {K : PySem.W.Frag} {mg : Str → Option Value} {base : Heap}
theorem cl_read_word (T : Tx K mg) (D : Fd K mg "read_word" s_read_word) (c_figures_from : Cl P w K mg base 1 "figures_from" (spFigs K)) : Cl P w K mg base 2 "read_word" (spRead K) := by
  refine mk_clG D sc_read_word (fun _ _ _ _ _ _ us hl => match us, hl with | [_], _ => rfl) (fun _ => rfl) (fun cdv A outer s H E hr => ⟨_, (pss_cons (ps_if (pt_not (pt_val (pe_callB call_isi (by rfl) T.f_isinstance (by decide +kernel) (pa_cons (pv 0) (pa_cons (pe_bltn (v := .ty "str") (by rfl) T.f_str (by decide +kernel) rfl) pa_nil))))) (pss_one (L2N.ps_raise rfl (L2N.takes_of rfl rfl rfl rfl) (L2N.pmk_own PySem.F.excBase_ValueError T.x_NoText T.g_NoText T.k_NoText (raises_own T.b_NoText T.t_NoText) (by rfl)))) pss_nil)
    (pss_cons (ps_set (i := 1) sc_read_word.nd rfl (.inl rfl) (pe_lst pa_nil))
    (pss_cons (ps_set (i := 2) sc_read_word.nd rfl (.inl rfl) pe_int)
    (pss_cons (ps_while PassesOwn.leaving (pt_cmpR op_lt (pv 2) (pe_callB call_len_str (by rfl) T.f_len boot_len (pa_cons (pv 0) pa_nil)) (nomark _)) (pss_one (ps_if (pt_cmpR op_eq (pe_ix ix_str (pv 0) (pv 2) (fun _ _ => rfl)) pe_str (nomark _)) (pss_cons (ps_asg (pe_cl c_figures_from hr (by omega) (by rfl) (L2N.takes_of rfl rfl rfl rfl) (pa_cons (pv 0) (pa_cons (pe_op op_add (pv 2) pe_int) pa_nil))) (pg_tup rfl (pgs_cons (pg_name (i := 3) sc_read_word.nd rfl (Or.inl rfl)) (pgs_cons (pg_name (i := 2) sc_read_word.nd rfl (Or.inl rfl)) pgs_nil))))
    (pss_cons (ps_if (pt_cmpR op_ne (pe_slice sl_str (pv 0) (po_some (pv 2)) (po_some (pe_op op_add (pv 2) pe_int))) pe_str (nomark _)) (pss_one (L2N.ps_raise rfl (L2N.takes_of rfl rfl rfl rfl) (L2N.pmk_own PySem.F.excBase_ValueError T.x_NoText T.g_NoText T.k_NoText (raises_own T.b_NoText T.t_NoText) (by rfl)))) pss_nil)
    (pss_cons (ps_asg (pe_cl c_figures_from hr (by omega) (by rfl) (L2N.takes_of rfl rfl rfl rfl) (pa_cons (pv 0) (pa_cons (pe_op op_add (pv 2) pe_int) pa_nil))) (pg_tup rfl (pgs_cons (pg_name (i := 4) sc_read_word.nd rfl (Or.inl rfl)) (pgs_cons (pg_name (i := 2) sc_read_word.nd rfl (Or.inl rfl)) pgs_nil))))
    (pss_one (ps_expr (pe_bm PySem.F.plainAttrs_list PySem.F.slot_list_append PySem.F.type_list_append mt_append (pv 1) (pa_cons (pe_tup (pa_cons pe_str (pa_cons (pv 3) (pa_cons (pv 4) pa_nil)))) pa_nil))))))) (pss_one (ps_if (pt_cmpR op_in_sign (pe_ix ix_str (pv 0) (pv 2) (fun _ _ => rfl)) (pe_glob (v := .str "CRLE") (by rfl) T.g_ALONE.choose_spec ⟨_, rfl⟩) (by rfl)) (pss_cons (ps_expr (pe_bm PySem.F.plainAttrs_list PySem.F.slot_list_append PySem.F.type_list_append mt_append (pv 1) (pa_cons (pe_tup (pa_cons (pe_ix ix_str (pv 0) (pv 2) (fun _ _ => rfl)) pa_nil)) pa_nil)))
    (pss_one (ps_aug (i := 2) sc_read_word.nd rfl (.inl rfl) pe_int ip_add))) (pss_one (L2N.ps_raise rfl (L2N.takes_of rfl rfl rfl rfl) (L2N.pmk_own PySem.F.excBase_ValueError T.x_NoText T.g_NoText T.k_NoText (raises_own T.b_NoText T.t_NoText) (by rfl)))))))))
    (pss_one (ps_ret (pv 1))))))), ?_⟩)
  rintro d vs hd3 hl Zf Zh zp ee hE hx
  try dsimp only [cxOf]
  match vs, hl with
  | [v0], _ =>
  simp only [sS, sP]
  have hx' : ∀ a b c d' e, (∀ x ls, d = .str x → ¬ Rd x.cps.toList ls) → Xw ⟨K, Zf, Zh, zp, []⟩ (fun cls d _ H => E cls d H) NT [e, a, b, c, d'] := fun a b c d' e h => hx NT _ _ (fit_fz fit_nil) ⟨.inr ⟨h, rfl⟩, rfl⟩
  repeat tb_rel
  refine ⟨_, kit_str, ?_⟩
  repeat tb_rel
  by_cases hs : ∃ x, d = .str x
  rotate_left
  · refine ⟨fun _ => ?_, fun h => ?_⟩
    · exact s_raise (hx' _ _ _ _ _ fun x ws e => absurd ⟨x, e⟩ hs)
    · cases d <;> first | (cases h; done) | exact absurd ⟨_, rfl⟩ hs
  obtain ⟨x, rfl⟩ := hs
  obtain ⟨hx5, hNR, _⟩ := hd3 x rfl
  have hz : x.length ≤ sizeLine := Nat.le_trans hx5 (by decide)
  have hxl := len_cps x
  have hx'' : ∀ a b c d' e, (∀ ls, ¬ Rd x.cps.toList ls) → Xw ⟨K, Zf, Zh, zp, []⟩ (fun cls d _ H => E cls d H) NT [e, a, b, c, d'] := fun a b c d' e h => hx' a b c d' e fun y ws e => by
    injection e with e
    subst e
    exact h ws
  refine ⟨fun h => (nomatch h), fun _ => ?_⟩
  refine s_next (s_seq (s_setN (n_lst (a_nil ⟨by decide, ?_⟩))))
  repeat tb_rel
  refine while_by (fun m Γ' => ∃ (i : Nat) (l0 : List Lt) (u3 u4 : Option Ent), m = x.length - i ∧ i ≤ x.length ∧ l0.length ≤ i ∧ (∀ ls, Rd x.cps.toList ls → ∃ l2, ls = l0 ++ l2 ∧ Rd (x.cps.toList.drop i) l2) ∧ (∀ l2, Rd (x.cps.toList.drop i) l2 → Rd x.cps.toList (l0 ++ l2)) ∧ Γ' = [some (.fz (.str x)), some (.own (.lst (encs l0))), some (.fz (.int (i : Nat))), u3, u4]) _ ⟨0, [], none, none, rfl, Nat.zero_le _, Nat.zero_le _, fun ls h => ⟨ls, rfl, h⟩, fun l2 h => h, rfl⟩ ?_
  rintro m Γ' ⟨i, l0, u3, u4, rfl, hi, hl0, hR1, hR2, rfl⟩
  repeat tb_rel
  refine ⟨fun hb => ?_, fun hb => ?_⟩
  rotate_left
  · have hi2 : i = x.length := by have := of_decide_eq_false hb; omega
    refine s_retO (o := .lst (encs l0)) rfl ?_
    refine hE.rt (fit_fz fit_nil) ⟨.inl ⟨x, l0, rfl, ?_, rfl⟩, rfl⟩
    have := hR2 [] (by rw [List.drop_eq_nil_of_le (by omega)]; exact .nil)
    simpa using this
  have hlt : i < x.length := by have := of_decide_eq_true hb; omega
  have hc : x.cps.toList[i]? = some x.cps.toList[i] := List.getElem?_eq_getElem (by omega)
  generalize x.cps.toList[i] = c at hc
  have hdr := drop_at hc
  rw [hdr] at hR1 hR2
  repeat tb_rel
  refine o_ixSn hz hc ?_
  repeat tb_rel
  refine ⟨fun hb => ?_, fun hb => ?_⟩
  · have h83 : c = 83 := by simpa using hb
    subst h83
    refine s_seq (s_asgT (e_callG rfl ?_))
    repeat tb_rel
    refine ⟨(x, i + 1), ⟨_, rfl, _, rfl, rfl⟩, .nil, ⟨by dsimp only; omega, hx5, hNR⟩, ?_⟩
    rintro out as' ⟨hr1, rfl⟩ _
    dsimp only at hr1
    unfold FigR at hr1
    have hcut1 := run_cut (x.cps.toList.drop (i + 1))
    have hnd1 := run_drop (x.cps.toList.drop (i + 1))
    generalize hds : run (x.cps.toList.drop (i + 1)) = ds at hr1 hcut1 hnd1
    have hdd : AllDigits ds := hds ▸ run_all _
    rw [List.drop_drop] at hcut1 hnd1
    rcases hr1 with ⟨hF, rfl⟩ | ⟨hnF, rfl⟩
    rotate_left
    · refine hx'' _ _ _ _ _ fun ls h => ?_
      obtain ⟨l2, _, h2⟩ := hR1 ls h
      rw [hcut1] at h2
      exact hnF (rd_s hdd hnd1 h2).1
    dsimp only [setA]
    generalize hj : i + 1 + ds.length = j at *
    have hjl : j ≤ x.length := by
      have := congrArg List.length hcut1
      rw [List.length_append, List.length_drop, List.length_drop] at this
      omega
    repeat tb_rel
    have ej : (j : Int) + 1 = ((j + 1 : Nat) : Int) := by omega
    rw [ej]
    have hc1 : (cutS x (some (j : Int)) (some ((j + 1 : Nat) : Int))).cps.toList = (x.cps.toList.drop j).take 1 := by
      rw [cutS_mid (by omega), show j + 1 - j = 1 by omega]
    refine ⟨fun hb => ?_, fun hb => ?_⟩
    · have hne : cutS x (some (j : Int)) (some ((j + 1 : Nat) : Int)) ≠ ⟨#[46]⟩ := by simpa using hb
      refine s_raise (hx'' _ _ _ _ _ fun ls h => ?_)
      obtain ⟨l2, _, h2⟩ := hR1 ls h
      rw [hcut1] at h2
      obtain ⟨_, r2, e2, _⟩ := rd_s hdd hnd1 h2
      exact hne (str_ext (by rw [hc1, e2]; rfl))
    have heq : cutS x (some (j : Int)) (some ((j + 1 : Nat) : Int)) = ⟨#[46]⟩ := by simpa using hb
    have hp46 : x.cps.toList[j]? = some 46 := by
      have : (x.cps.toList.drop j).take 1 = [46] := by rw [← hc1, heq]
      have h0 : ((x.cps.toList.drop j).take 1)[0]? = some 46 := by rw [this]; rfl
      rw [List.getElem?_take_of_lt (by decide), List.getElem?_drop, Nat.add_zero] at h0
      exact h0
    have hdj := drop_at hp46
    have hjlt : j < x.length := by
      obtain ⟨h, _⟩ := List.getElem?_eq_some_iff.mp hp46
      omega
    refine s_next (s_seq (s_asgT (e_callG rfl ?_)))
    repeat tb_rel
    rw [ej]
    refine ⟨(x, j + 1), ⟨_, rfl, _, rfl, rfl⟩, .nil, ⟨by dsimp only; omega, hx5, hNR⟩, ?_⟩
    rintro out as' ⟨hr2, rfl⟩ _
    dsimp only at hr2
    unfold FigR at hr2
    have hcut2 := run_cut (x.cps.toList.drop (j + 1))
    have hnd2 := run_drop (x.cps.toList.drop (j + 1))
    generalize hes : run (x.cps.toList.drop (j + 1)) = es at hr2 hcut2 hnd2
    have hdd2 : AllDigits es := hes ▸ run_all _
    rw [List.drop_drop] at hcut2 hnd2
    rcases hr2 with ⟨hF2, rfl⟩ | ⟨hnF, rfl⟩
    rotate_left
    · refine hx'' _ _ _ _ _ fun ls h => ?_
      obtain ⟨l2, _, h2⟩ := hR1 ls h
      rw [hcut1] at h2
      obtain ⟨_, r2, e2, h3⟩ := rd_s hdd hnd1 h2
      rw [hdj] at e2
      injection e2 with _ e2
      exact hnF (h3 es _ (by rw [← e2]; exact hcut2) hdd2 hnd2).1
    dsimp only [setA]
    generalize hk : j + 1 + es.length = k at *
    have hkl : k ≤ x.length := by
      have := congrArg List.length hcut2
      rw [List.length_append, List.length_drop, List.length_drop] at this
      omega
    repeat tb_rel
    refine s_app ⟨_, rfl⟩ ?_
    repeat tb_rel
    try refine ⟨by simp; omega, ?_⟩
    have e : encs l0 ++ [PyData.tuple [.str ⟨#[83]⟩, .int ((digitsVal ds : Nat) : Int), .int ((digitsVal es : Nat) : Int)]] = encs (l0 ++ [.s (digitsVal ds) (digitsVal es)]) := by simp [encs, Lt.enc]
    rw [e]
    refine ⟨x.length - k, by omega, k, l0 ++ [.s (digitsVal ds) (digitsVal es)], _, _, rfl, hkl, by simp; omega, fun ls h => ?_, fun l2 h => ?_, rfl⟩
    · obtain ⟨l2, rfl, h2⟩ := hR1 ls h
      rw [hcut1] at h2
      obtain ⟨_, r2, e2, h3⟩ := rd_s hdd hnd1 h2
      rw [hdj] at e2
      injection e2 with _ e2
      obtain ⟨_, l3, rfl, h4⟩ := h3 es _ (by rw [← e2]; exact hcut2) hdd2 hnd2
      exact ⟨l3, by simp, h4⟩
    · have h5 := hR2 (.s (digitsVal ds) (digitsVal es) :: l2) (by
        rw [hcut1, hdj, hcut2]
        exact .s hF hF2 h)
      simpa using h5
  · have h83 : c ≠ 83 := by simpa using hb
    repeat tb_rel
    refine o_ixSn hz hc ?_
    repeat tb_rel
    refine ⟨fun hb => ?_, fun hb => ?_⟩
    · have hpl : pl c := in_alone.mp (of_decide_eq_true hb)
      refine s_seq (s_app ⟨_, rfl⟩ ?_)
      repeat tb_rel
      refine o_ixSn hz hc ?_
      repeat tb_rel
      try refine ⟨by simp; omega, ?_⟩
      have e : encs l0 ++ [PyData.tuple [.str ⟨#[c]⟩]] = encs (l0 ++ [.p c]) := by simp [encs, Lt.enc]
      rw [e]
      refine s_augI rfl (e_int ⟨1, rfl, x.length - (i + 1), by omega, i + 1, l0 ++ [.p c], _, _, rfl, by omega, by simp; omega, fun ls h => ?_, fun l2 h => ?_, rfl⟩)
      · obtain ⟨l2, rfl, h2⟩ := hR1 ls h
        obtain ⟨l3, rfl, h3⟩ := rd_p hpl h2
        exact ⟨l3, by simp, h3⟩
      · have h5 := hR2 (.p c :: l2) (.p hpl h)
        simpa using h5
    · have hpl : ¬ pl c := fun q => of_decide_eq_false hb (in_alone.mpr q)
      refine s_raise (hx'' _ _ _ _ _ fun ls h => ?_)
      obtain ⟨l2, _, h2⟩ := hR1 ls h
      exact rd_no hpl h83 h2
end
end K51

set_option Elab.async false
set_option linter.all false
set_option autoImplicit false
set_option maxRecDepth 100000
set_option maxHeartbeats 4000000
namespace K51
open PySem PySem.Spec PyProof.Rows PySem.NumText L2 Dl
local macro_rules
  | `(tactic| tb_rel) => `(tactic| first
    | with_reducible refine s_forI ?_
    | with_reducible refine s_whileI ?_
    | with_reducible refine s_seq ?_
    | with_reducible refine s_if ?_
    | with_reducible refine s_next ?_
    | with_reducible refine s_brk ?_
    | with_reducible refine s_cont ?_
    | with_reducible refine s_retN ?_
    | with_reducible refine t_test ?_
    | with_reducible refine t_B ?_
    | with_reducible refine t_and ?_
    | with_reducible refine t_or ?_
    | with_reducible refine t_not ?_
    | with_reducible refine e_slL ?_
    | with_reducible refine e_slS ?_
    | with_reducible refine e_op ?_
    | with_reducible refine e_isi2 ?_
    | with_reducible refine e_cb ?_
    | with_reducible refine e_tup ?_
    | with_reducible refine e_lst ?_
    | with_reducible refine e_neg ?_
    | with_reducible refine e_int ?_
    | with_reducible refine e_str ?_
    | with_reducible refine e_bl ?_
    | with_reducible refine e_non ?_
    | with_reducible refine e_dict0 ?_
    | with_reducible refine a_cons ?_
    | with_reducible refine a_nil ?_
    | with_reducible refine o_no ?_
    | with_reducible refine o_so ?_
    | with_reducible refine i_list ?_
    | with_reducible refine i_tup ?_
    | with_reducible refine i_range1 ?_
    | with_reducible refine i_revR1 ?_
    | with_reducible refine i_revL ?_
    | with_reducible refine i_str ?_
    | with_reducible refine i_enum ?_
    | with_reducible refine g_name ?_
    | with_reducible refine gs_cons ?_
    | with_reducible refine gs_nil ?_
    | with_reducible refine o_int ?_
    | with_reducible refine o_bool ?_
    | with_reducible refine o_eqI ?_
    | with_reducible refine o_neI ?_
    | with_reducible refine o_eqS ?_
    | with_reducible refine o_neS ?_
    | with_reducible refine o_isN ?_
    | with_reducible refine o_notN ?_
    | with_reducible refine c_lenL ?_
    | with_reducible refine c_lenT ?_
    | with_reducible refine c_intB ?_
    | with_reducible refine e_andV ?_
    | with_reducible refine e_orV ?_
    | with_reducible refine e_notV ?_
    | with_reducible refine e_ifE ?_
    | with_reducible refine e_bmS ?_
    | with_reducible refine e_fs ?_
    | with_reducible refine e_fmtI ?_
    | with_reducible refine j_cons ?_
    | with_reducible refine j_nil ?_
    | with_reducible refine o_inSg ?_
    | with_reducible refine o_notInSg ?_
    | ((fail_if_success (with_reducible refine s_ret (e_lst ?_))); (fail_if_success (with_reducible refine s_ret (e_callG ?_ ?_))); (with_reducible refine s_ret ?_))
    | ((fail_if_success (with_reducible refine s_set (e_lst ?_))); (fail_if_success (with_reducible refine s_set (e_callG ?_ ?_))); (with_reducible refine s_set ?_))
    | ((with_reducible apply e_var); exact rfl)
    | ((with_reducible apply ga_cell); exact ⟨_, rfl⟩)
    | with_reducible refine ga_cons ?_
    | with_reducible refine ga_nil ?_
    | with_reducible refine e_callG rfl ?_
    | ((with_reducible refine c_lenS ?_ ?_); assumption)
    | ((with_reducible refine g_tup ?_ ?_); exact rfl)
    | with_reducible refine ⟨_, rfl, ?_⟩
    | ((with_reducible refine And.intro ?_ ?_); assumption)
    | ((with_reducible refine And.intro ?_ ?_); exact Nat.le_of_ble_eq_true rfl))
abbrev s__law_letters : Stmt := top 28
abbrev N__law_letters : List Str := ["_law_pot_here", "_law_found", "_law_k", "_law_way", "_law_most"]
theorem sc__law_letters : FnScope N__law_letters ["_law_pot_here"] (defScope s__law_letters) := ⟨rfl, rfl, rfl, by decide +kernel, rfl, by decide +kernel, by decide +kernel⟩
abbrev s__law_text : Stmt := top 29
abbrev N__law_text : List Str := ["_law_letters_here", "_law_text_here", "_law_letter"]
theorem sc__law_text : FnScope N__law_text ["_law_letters_here"] (defScope s__law_text) := ⟨rfl, rfl, rfl, by decide +kernel, rfl, by decide +kernel, by decide +kernel⟩
abbrev s__law_figures : Stmt := top 30
abbrev N__law_figures : List Str := ["_law_text_here"]
theorem sc__law_figures : FnScope N__law_figures ["_law_text_here"] (defScope s__law_figures) := ⟨rfl, rfl, rfl, by decide +kernel, rfl, by decide +kernel, by decide +kernel⟩
abbrev s__law_spoilt : Stmt := top 33
abbrev N__law_spoilt : List Str := ["_law_text_here", "_law_cell", "_law_way", "_law_signs", "_law_sign", "_law_at_here"]
theorem sc__law_spoilt : FnScope N__law_spoilt ["_law_text_here", "_law_cell"] (defScope s__law_spoilt) := ⟨rfl, rfl, rfl, by decide +kernel, rfl, by decide +kernel, by decide +kernel⟩
abbrev spLetters (K : PySem.W.Frag) : Sp := SpG K (G := Int × Int) (fun g => [.mu (pot g.1 g.2)]) (fun g => Pot g.1 g.2) (fun g out as' => ∃ ls n s, (∀ l ∈ ls, Sh l) ∧ ls.length ≤ 16 ∧ out = .ret (.new (.lst (encs ls))) ∧ as' = [.mu (pot n s)])
abbrev spText (K : PySem.W.Frag) : Sp := SpG K (G := List Lt) (fun ls => [.fz (.list (encs ls))]) (fun ls => (∀ l ∈ ls, Sh l) ∧ ls.length ≤ 16) (fun ls out as' => out = .ret (.fz (.str (mkS (ls.flatMap Lt.txt)))) ∧ as' = [.fz (.list (encs ls))])
open Classical in
abbrev spFigures (K : PySem.W.Frag) : Sp := SpG K (G := Str) (fun x => [.fz (.str x)]) (fun x => x.length ≤ 5000) (fun x out as' => (∃ b : Bool, (b = true ↔ Fig x.cps.toList (digitsVal x.cps.toList)) ∧ out = .ret (.fz (.bool b))) ∧ as' = [.fz (.str x)])
theorem txts_len : ∀ {ls : List Lt}, (∀ l ∈ ls, Sh l) → (ls.flatMap Lt.txt).length ≤ ls.length * 122
  | [], _ => by simp
  | l :: ls, h => by
    have h1 := txt_len (h l List.mem_cons_self)
    have h2 := txts_len (ls := ls) fun x hx => h x (List.mem_cons_of_mem _ hx)
    rw [List.flatMap_cons, List.length_append, List.length_cons, Nat.succ_mul]
    omega
theorem nr_txts {ls : List Lt} (h : ∀ l ∈ ls, Sh l) : NR 60 (ls.flatMap Lt.txt) := by
  have key : ∀ (ls : List Lt) (t : List Nat), NR 60 t → (∀ l ∈ ls, Sh l) → NR 60 (t ++ ls.flatMap Lt.txt) := by
    intro ls
    induction ls with
    | nil => intro t ht _; simpa using ht
    | cons l ls ih =>
      intro t ht h
      rw [List.flatMap_cons, ← List.append_assoc]
      refine ih _ (nr_txt ht (by decide) (h l List.mem_cons_self).1 fun j k e => ?_) fun x hx => h x (List.mem_cons_of_mem _ hx)
      obtain ⟨h1, h2⟩ := (h l List.mem_cons_self).2 j k e
      exact ⟨digs_short (by decide) h1, digs_short (by decide) h2⟩
  exact key ls [] (nr_len (by simp)) h
theorem as_app {a b : List Nat} (h1 : As a) (h2 : As b) : As (a ++ b) := fun c hc => (List.mem_append.mp hc).elim (h1 c) (h2 c)
theorem as_txts {ls : List Lt} (h : ∀ l ∈ ls, Sh l) : As (ls.flatMap Lt.txt) := by
  intro c hc
  obtain ⟨l, hl, hc⟩ := List.mem_flatMap.mp hc
  cases l with
  | p d =>
    rw [List.mem_singleton.mp hc]
    have hd : pl d := (h _ hl).1
    unfold pl at hd
    omega
  | s j k =>
    rcases List.mem_cons.mp hc with rfl | hc
    · decide
    · rcases List.mem_append.mp hc with hc | hc
      · have := digs_all j c hc
        omega
      · rcases List.mem_cons.mp hc with rfl | hc
        · decide
        · have := digs_all k c hc
          omega
section
variable {P : Program} {w : World} {K : PySem.W.Frag} {mg : Str → Option Value} {base : Heap}
theorem cl__law_letters (T : Tx K mg) (D : Fd K mg "_law_letters" s__law_letters) (c__law_digit : Cl P w K mg base 1 "_law_digit" (spDigit K)) : Cl P w K mg base 2 "_law_letters" (spLetters K) := by
  refine mk_clG D sc__law_letters (fun _ _ _ _ _ _ us hl => match us, hl with | [_], _ => rfl) (fun _ => rfl) (fun cdv A outer s H E hr => ⟨_, (pss_cons (ps_set (i := 1) sc__law_letters.nd rfl (.inl rfl) (pe_lst pa_nil))
    (pss_cons (ps_for PassesOwn.leaving rfl (pi_range1 (by rfl) T.f_range (pa_cons (pe_cl c__law_digit hr (by omega) (by rfl) tkN (pa_cons (pv 0) (pa_cons pe_int pa_nil))) pa_nil)) (pg_name (i := 2) sc__law_letters.nd rfl (Or.inl rfl)) (pss_cons (ps_set (i := 3) sc__law_letters.nd rfl (.inl rfl) (pe_cl c__law_digit hr (by omega) (by rfl) tkN (pa_cons (pv 0) (pa_cons pe_int pa_nil))))
    (pss_one (ps_if (pt_cmpR op_lt (pv 3) pe_int (nomark _)) (pss_one (ps_expr (pe_bm PySem.F.plainAttrs_list PySem.F.slot_list_append PySem.F.type_list_append mt_append (pv 1) (pa_cons (pe_ix ix_list (pe_lst (pa_cons (pe_tup (pa_cons pe_str pa_nil)) (pa_cons (pe_tup (pa_cons pe_str pa_nil)) (pa_cons (pe_tup (pa_cons pe_str pa_nil)) (pa_cons (pe_tup (pa_cons pe_str pa_nil)) pa_nil))))) (pv 3) (fun _ _ => rfl)) pa_nil)))) (pss_cons (ps_set (i := 4) sc__law_letters.nd rfl (.inl rfl) (pe_ix ix_list (pe_lst (pa_cons pe_int (pa_cons (pe_op op_pow pe_int pe_int) pa_nil))) (pe_op op_sub (pv 3) pe_int) (fun _ _ => rfl)))
    (pss_one (ps_expr (pe_bm PySem.F.plainAttrs_list PySem.F.slot_list_append PySem.F.type_list_append mt_append (pv 1) (pa_cons (pe_tup (pa_cons pe_str (pa_cons (pe_cl c__law_digit hr (by omega) (by rfl) tkN (pa_cons (pv 0) (pa_cons (pv 4) pa_nil))) (pa_cons (pe_cl c__law_digit hr (by omega) (by rfl) tkN (pa_cons (pv 0) (pa_cons (pv 4) pa_nil))) pa_nil)))) pa_nil)))))))))
    (pss_one (ps_ret (pv 1))))), ?_⟩)
  rintro ⟨pn, ps⟩ vs hp hl Zf Zh zp ee hE hx
  try dsimp only [cxOf]
  match vs, hl with
  | [v0], _ =>
  simp only [sC, sE, sL, sR, sS]
  refine s_seq (s_setN (n_lst (a_nil ⟨by decide, ?_⟩)))
  repeat tb_rel
  refine ⟨(pn, ps, 17), ⟨_, _, rfl, rfl, _, rfl, rfl⟩, by simp [slots], ⟨hp, show (0 : Int) < 17 by decide, show (17 : Int).natAbs < 2 ^ 300 by decide⟩, ?_⟩
  rintro out as' ⟨m, pn, ps, hm0, hm1, hp, rfl, rfl⟩ _
  dsimp only [setA] at hm0 hm1 ⊢
  repeat tb_rel
  refine ⟨by omega, by omega, ?_⟩
  refine for_by (fun i Γ' => ∃ (pn ps : Int) (ls : List Lt) (u2 u3 u4 : Option Ent), Pot pn ps ∧ (∀ l ∈ ls, Sh l) ∧ ls.length = i ∧ Γ' = [some (.par (adr v0) (pot pn ps)), some (.own (.lst (encs ls))), u2, u3, u4]) ⟨pn, ps, [], none, none, none, hp, fun _ h => (nomatch h), rfl, rfl⟩ ?_ ?_
  · rintro i d Γ' hd ⟨pn, ps, ls, u2, u3, u4, hp, hls, hlen, rfl⟩
    obtain ⟨hi, rfl⟩ := rangeD_get hd
    have happ : ∀ l : Lt, encs ls ++ [l.enc] = encs (ls ++ [l]) := fun l => by simp [encs]
    have hmem : ∀ {l : Lt}, Sh l → ∀ x ∈ ls ++ [l], Sh x := fun hl x hx => by
      rcases List.mem_append.mp hx with hx | hx
      · exact hls x hx
      · rw [List.mem_singleton.mp hx]
        exact hl
    refine g_name (s_seq (s_set (e_callG rfl ?_)))
    repeat tb_rel
    refine ⟨(pn, ps, 6), ⟨_, _, rfl, rfl, _, rfl, rfl⟩, by simp [slots], ⟨hp, show (0 : Int) < 6 by decide, show (6 : Int).natAbs < 2 ^ 300 by decide⟩, ?_⟩
    rintro out as' ⟨wy, pn, ps, hw0, hw1, hp, rfl, rfl⟩ _
    dsimp only [setA] at hw0 hw1 ⊢
    obtain ⟨wn, rfl⟩ := Int.eq_ofNat_of_zero_le hw0
    repeat tb_rel
    refine ⟨fun hb => ?_, fun hb => ?_⟩
    · have h4 : wn < 4 := by have := of_decide_eq_true hb; omega
      obtain ⟨c, hc, hat⟩ : ∃ c, pl c ∧ ([.tuple [.str ⟨#[67]⟩], .tuple [.str ⟨#[82]⟩], .tuple [.str ⟨#[76]⟩], .tuple [.str ⟨#[69]⟩]] : List PyData)[wn]? = some (Lt.p c).enc := by
        match wn, h4 with
        | 0, _ => exact ⟨67, by unfold pl; omega, rfl⟩
        | 1, _ => exact ⟨82, by unfold pl; omega, rfl⟩
        | 2, _ => exact ⟨76, by unfold pl; omega, rfl⟩
        | 3, _ => exact ⟨69, by unfold pl; omega, rfl⟩
      refine s_app ⟨_, rfl⟩ ?_
      repeat tb_rel
      refine o_ixL (d := (Lt.p c).enc) (atI_nat hat) ?_
      refine ⟨_, rfl, by simp; omega, ?_⟩
      rw [happ]
      exact ⟨pn, ps, ls ++ [.p c], _, _, _, hp, hmem (l := .p c) ⟨hc, fun _ _ z => (nomatch z)⟩, by simp [hlen], rfl⟩
    · have h4 : wn = 4 ∨ wn = 5 := by have := of_decide_eq_false hb; omega
      obtain ⟨mo, hmo0, hmo1, hat⟩ : ∃ mo : Nat, 0 < mo ∧ mo ≤ 10 ^ 60 ∧ atI ([.int 10, .int (10 ^ Int.toNat 60)] : List PyData) ((wn : Int) - 4) = some (.int (mo : Nat)) := by
        rcases h4 with rfl | rfl
        · exact ⟨10, by decide, by decide, rfl⟩
        · exact ⟨10 ^ 60, by decide, by decide, rfl⟩
      repeat tb_rel
      refine o_intC ⟨by decide, by decide, by decide⟩ ?_
      repeat tb_rel
      refine o_ixL hat ?_
      have hmb : ((mo : Nat) : Int).natAbs < 2 ^ 300 := by
        rw [Int.natAbs_natCast]
        exact Nat.lt_of_le_of_lt hmo1 (by decide +kernel)
      refine s_app ⟨_, rfl⟩ ?_
      repeat tb_rel
      refine ⟨(pn, ps, (mo : Int)), ⟨_, _, rfl, rfl, _, rfl, rfl⟩, by simp [slots], ⟨hp, by dsimp only; omega, hmb⟩, ?_⟩
      rintro out as' ⟨j, pn, ps, hj0, hj1, hp, rfl, rfl⟩ _
      dsimp only [setA] at hj0 hj1 ⊢
      repeat tb_rel
      refine ⟨(pn, ps, (mo : Int)), ⟨_, _, rfl, rfl, _, rfl, rfl⟩, by simp [slots], ⟨hp, by dsimp only; omega, hmb⟩, ?_⟩
      rintro out as' ⟨k, pn, ps, hk0, hk1, hp, rfl, rfl⟩ _
      dsimp only [setA] at hk0 hk1 ⊢
      obtain ⟨jn, rfl⟩ := Int.eq_ofNat_of_zero_le hj0
      obtain ⟨kn, rfl⟩ := Int.eq_ofNat_of_zero_le hk0
      repeat tb_rel
      try refine ⟨by simp; omega, ?_⟩
      have happ2 := happ (.s jn kn)
      rw [show (Lt.s jn kn).enc = .tuple [.str ⟨#[83]⟩, .int (jn : Nat), .int (kn : Nat)] from rfl] at happ2
      rw [happ2]
      exact ⟨pn, ps, ls ++ [.s jn kn], _, _, _, hp, hmem (l := .s jn kn) ⟨trivial, fun a b e => by cases e; exact ⟨by omega, by omega⟩⟩, by simp [hlen], rfl⟩
  · rintro Γ' ⟨pn, ps, ls, u2, u3, u4, hp, hls, hlen, rfl⟩
    rw [rangeD_len] at hlen
    refine s_retO (o := .lst (encs ls)) rfl ?_
    exact hE.rt (fit_mu fit_nil) ⟨ls, pn, ps, hls, by omega, rfl, rfl⟩
theorem cl__law_figures (T : Tx K mg) (D : Fd K mg "_law_figures" s__law_figures) : Cl P w K mg base 1 "_law_figures" (spFigures K) := by
  refine mk_clG D sc__law_figures (fun _ _ _ _ _ _ us hl => match us, hl with | [_], _ => rfl) (fun _ => rfl) (fun cdv A outer s H E hr => ⟨_, (pss_one (ps_ret (pe_and (pe_cmpR op_ne (pv 0) pe_str (nomark _)) (pe_and (pe_cmpR op_eq (pe_bm PySem.F.plainAttrs_str PySem.F.slot_str_strip PySem.F.type_str_strip mt_stripChars (pv 0) (pa_cons pe_str pa_nil)) pe_str (nomark _)) (pe_one (pe_or (pe_cmpR op_eq (pv 0) pe_str (nomark _)) (pe_one (pe_cmpR op_ne (pe_ix ix_str (pv 0) pe_int (fun _ _ => rfl)) pe_str (nomark _))))))))), ?_⟩)
  rintro x vs hx5 hl Zf Zh zp ee hE hx
  try dsimp only [cxOf]
  match vs, hl with
  | [v0], _ =>
  have hz : x.length ≤ sizeLine := Nat.le_trans hx5 (by decide)
  have hxl := len_cps x
  simp only [s0, sN]
  have fin : ∀ b : Bool, (b = true ↔ Fig x.cps.toList (digitsVal x.cps.toList)) → ee.rt (.fz (.bool b)) [some (.fz (.str x))] := fun b h => hE.rt (fit_fz fit_nil) ⟨⟨b, h, rfl⟩, rfl⟩
  have inF : ∀ c, c ∈ (Str.ofString "0123456789").cps.toList ↔ Dg c := fun c => by
    rw [fig_list]
    simp
    omega
  repeat tb_rel
  refine ⟨fun hb => ?_, fun hb => ?_⟩
  rotate_left
  · have hn : x = ⟨#[]⟩ := by simpa using hb
    refine fin _ ⟨fun h => (nomatch h), fun h => absurd (by rw [hn]) h.2.1⟩
  have hne : x ≠ ⟨#[]⟩ := by simpa using hb
  have hne2 : x.cps.toList ≠ [] := fun z => hne (str_ext z)
  repeat tb_rel
  refine m_strip hz ?_
  repeat tb_rel
  refine ⟨fun hb => ?_, fun hb => ?_⟩
  rotate_left
  · have hns : Txt.stripChars x (Str.ofString "0123456789") ≠ ⟨#[]⟩ := by simpa using hb
    refine fin _ ⟨fun h => (nomatch h), fun h => absurd (strip_nil.mpr fun c hc => (inF c).mpr (h.1 c hc)) hns⟩
  have hst : Txt.stripChars x (Str.ofString "0123456789") = ⟨#[]⟩ := by simpa using hb
  have hall : AllDigits x.cps.toList := fun c hc => (inF c).mp (strip_nil.mp hst c hc)
  have hF : Fig x.cps.toList (digitsVal x.cps.toList) ↔ (x.cps.toList = [48] ∨ ∀ r, x.cps.toList ≠ 48 :: r) := ⟨fun h => h.2.2.1, fun h => ⟨hall, hne2, h, rfl⟩⟩
  repeat tb_rel
  refine ⟨fun hb => ?_, fun hb => ?_⟩
  rotate_left
  · have h0 : x = ⟨#[48]⟩ := by simpa using hb
    refine fin _ ⟨fun _ => hF.mpr (.inl (by rw [h0])), fun _ => rfl⟩
  have h0 : x ≠ ⟨#[48]⟩ := by simpa using hb
  obtain ⟨c, r, hcr⟩ : ∃ c r, x.cps.toList = c :: r := by
    cases hq : x.cps.toList with
    | nil => exact absurd hq hne2
    | cons c r => exact ⟨c, r, rfl⟩
  repeat tb_rel
  refine o_ixS (c := c) hz (show atI x.cps.toList ((0 : Nat) : Int) = some c from atI_nat (by rw [hcr]; rfl)) ?_
  repeat tb_rel
  refine fin _ ?_
  rw [hF, hcr]
  constructor
  · intro h
    have : c ≠ 48 := by simpa using h
    exact .inr fun r' z => by injection z with z1 _; exact this z1
  · rintro (h | h)
    · exact absurd (str_ext (by rw [hcr, h])) h0
    · have : c ≠ 48 := fun z => h r (by rw [z])
      simpa using this
theorem cl__law_text (T : Tx K mg) (D : Fd K mg "_law_text" s__law_text) : Cl P w K mg base 1 "_law_text" (spText K) := by
  refine mk_clG D sc__law_text (fun _ _ _ _ _ _ us hl => match us, hl with | [_], _ => rfl) (fun _ => rfl) (fun cdv A outer s H E hr => ⟨_, (pss_cons (ps_set (i := 1) sc__law_text.nd rfl (.inl rfl) pe_str)
    (pss_cons (ps_for PassesOwn.leaving rfl (pi_list (pv 0)) (pg_name (i := 2) sc__law_text.nd rfl (Or.inl rfl)) (pss_cons (ps_set (i := 1) sc__law_text.nd rfl (.inl rfl) (pe_op op_add_str (pv 1) (pe_ix ix_tup (pv 2) pe_int (fun _ _ => rfl))))
    (pss_one (ps_if (pt_cmpR op_eq (pe_ix ix_tup (pv 2) pe_int (fun _ _ => rfl)) pe_str (nomark _)) (pss_one (ps_set (i := 1) sc__law_text.nd rfl (.inl rfl) (pe_op op_add_str (pe_op op_add_str (pe_op op_add_str (pv 1) (pe_callTy call_str_int (by rfl) T.f_str (by decide +kernel) (pa_cons (pe_ix ix_tup (pv 2) pe_int (fun _ _ => rfl)) pa_nil))) pe_str) (pe_callTy call_str_int (by rfl) T.f_str (by decide +kernel) (pa_cons (pe_ix ix_tup (pv 2) pe_int (fun _ _ => rfl)) pa_nil))))) pss_nil))))
    (pss_one (ps_ret (pv 1))))), ?_⟩)
  rintro ls vs ⟨hs, h16⟩ hl Zf Zh zp ee hE hx
  try dsimp only [cxOf]
  match vs, hl with
  | [v0], _ =>
  simp only [sS, sP, sN]
  repeat tb_rel
  refine for_by (fun i Γ' => ∃ u : Option Ent, Γ' = [some (.fz (.list (encs ls))), some (.fz (.str (mkS ((ls.take i).flatMap Lt.txt)))), u]) ⟨none, rfl⟩ ?_ ?_
  · rintro i d Γ' hd ⟨u, rfl⟩
    obtain ⟨l, hq, rfl⟩ : ∃ l, ls[i]? = some l ∧ d = l.enc := by
      rw [List.getElem?_map] at hd
      cases hq : ls[i]? with
      | none => rw [hq] at hd; cases hd
      | some l => rw [hq] at hd; cases hd; exact ⟨l, rfl, rfl⟩
    have hsl := hs l (List.mem_of_getElem? hq)
    have hi : i < ls.length := (List.getElem?_eq_some_iff.mp hq).1
    have htk : ls.take (i + 1) = ls.take i ++ [l] := by
      rw [List.take_succ, hq]
      rfl
    have hlen : (mkS ((ls.take i).flatMap Lt.txt)).length ≤ 2000 := by
      rw [← len_cps]
      have := txts_len (ls := ls.take i) fun x hx => hs x (List.mem_of_mem_take hx)
      rw [List.length_take] at this
      have h2 : min i ls.length * 122 ≤ 16 * 122 := Nat.mul_le_mul_right _ (by omega)
      show ((ls.take i).flatMap Lt.txt).length ≤ 2000
      omega
    generalize htt : mkS ((ls.take i).flatMap Lt.txt) = tx at hlen ⊢
    have htc : tx.cps.toList = (ls.take i).flatMap Lt.txt := by rw [← htt]
    have big : ∀ n : Nat, n ≤ 10000 → n ≤ sizeLine := fun n h => Nat.le_trans h (by decide)
    have l1 : ∀ c : Nat, (⟨#[c]⟩ : Str).length = 1 := fun _ => rfl
    cases l with
    | p c =>
      have h83 : c ≠ 83 := by
        have hc : pl c := hsl.1
        unfold pl at hc
        omega
      repeat tb_rel
      refine o_ixT (d := sg c) rfl ?_
      refine o_addS (big _ (by rw [l1]; omega)) ?_
      repeat tb_rel
      refine o_ixT (d := sg c) rfl ?_
      repeat tb_rel
      have e : tx ++ ⟨#[c]⟩ = mkS ((ls.take (i + 1)).flatMap Lt.txt) := str_ext (by rw [cps_app, htc, htk]; simp [Lt.txt])
      rw [e]
      exact ⟨fun hb => absurd (by simpa using hb) h83, fun _ => s_next ⟨_, rfl⟩⟩
    | s j k =>
      obtain ⟨hj, hk⟩ := hsl.2 j k rfl
      have dj := digs_short (k := 60) (by decide) hj
      have dk := digs_short (k := 60) (by decide) hk
      have lj : (mkS (digs j)).length = (digs j).length := by rw [← len_cps]
      have lk : (mkS (digs k)).length = (digs k).length := by rw [← len_cps]
      repeat tb_rel
      refine o_ixT (d := sg 83) rfl ?_
      refine o_addS (big _ (by rw [l1]; omega)) ?_
      repeat tb_rel
      refine o_ixT (d := sg 83) rfl ?_
      repeat tb_rel
      refine ⟨fun _ => ?_, fun hb => by simp at hb⟩
      repeat tb_rel
      refine o_ixT (d := .int (j : Nat)) rfl ?_
      repeat tb_rel
      refine c_strI (log_ok hj) ?_
      rw [num_str]
      refine o_addS (big _ (by rw [Str.length_append, l1, lj]; omega)) ?_
      repeat tb_rel
      refine o_addS (big _ (by rw [Str.length_append, Str.length_append, l1, l1, lj]; omega)) ?_
      repeat tb_rel
      refine o_ixT (d := .int (k : Nat)) rfl ?_
      repeat tb_rel
      refine c_strI (log_ok hk) ?_
      rw [num_str]
      refine o_addS (big _ (by rw [Str.length_append, Str.length_append, Str.length_append, l1, l1, lj, lk]; omega)) ?_
      have e : tx ++ ⟨#[83]⟩ ++ mkS (digs j) ++ ⟨#[46]⟩ ++ mkS (digs k) = mkS ((ls.take (i + 1)).flatMap Lt.txt) := str_ext (by rw [cps_app, cps_app, cps_app, cps_app, htc, htk]; simp [Lt.txt])
      rw [e]
      exact ⟨_, rfl⟩
  · rintro Γ' ⟨u, rfl⟩
    have el : (encs ls).length = ls.length := by simp [encs]
    rw [el, List.take_length]
    repeat tb_rel
    exact hE.rt (fit_fz fit_nil) ⟨rfl, rfl⟩
abbrev spSpoilt (K : PySem.W.Frag) : Sp := SpG K (G := Str × Int) (fun g => [.fz (.str g.1), .fz (.int g.2)]) (fun g => g.1.length ≤ 2000 ∧ NR 60 g.1.cps.toList ∧ As g.1.cps.toList) (fun g out as' => ∃ z : Str, TxOk z ∧ out = .ret (.fz (.str z)) ∧ as' = [.fz (.str g.1), .fz (.int g.2)])
theorem cl__law_spoilt (T : Tx K mg) (D : Fd K mg "_law_spoilt" s__law_spoilt) (c__law_string : Cl P w K mg base 1 "_law_string" (spString K)) : Cl P w K mg base 2 "_law_spoilt" (spSpoilt K) := by
  refine mk_clG D sc__law_spoilt (fun _ _ _ _ _ _ us hl => match us, hl with | [_, _], _ => rfl) (fun _ => rfl) (fun cdv A outer s H E hr => ⟨_, (pss_cons (ps_set (i := 2) sc__law_spoilt.nd rfl (.inl rfl) (pe_op op_mod (pv 1) pe_int))
    (pss_cons (ps_set (i := 3) sc__law_spoilt.nd rfl (.inl rfl) pe_str)
    (pss_cons (ps_set (i := 4) sc__law_spoilt.nd rfl (.inl rfl) (pe_ix ix_str (pv 3) (pe_op op_mod (pe_op op_fdiv (pv 1) pe_int) pe_int) (fun _ _ => rfl)))
    (pss_cons (ps_set (i := 5) sc__law_spoilt.nd rfl (.inl rfl) (pe_op op_mod (pe_op op_fdiv (pv 1) pe_int) (pe_op op_add (pe_callB call_len_str (by rfl) T.f_len boot_len (pa_cons (pv 0) pa_nil)) pe_int)))
    (pss_cons (ps_if (pt_cmpR op_eq (pv 2) pe_int (nomark _)) (pss_one (ps_ret (pe_cl c__law_string hr (by omega) (by rfl) tkN (pa_cons (pe_op op_fdiv (pv 1) pe_int) (pa_cons (pe_op op_mod (pe_op op_fdiv (pv 1) pe_int) pe_int) (pa_cons (pe_slice sl_str (pv 3) po_none (po_some pe_int)) pa_nil)))))) pss_nil)
    (pss_cons (ps_if (pt_cmpR op_eq (pv 2) pe_int (nomark _)) (pss_one (ps_ret (pe_op op_add_str (pv 0) (pe_slice sl_str (pv 0) (po_some (pv 5)) po_none)))) pss_nil)
    (pss_one (ps_ret (pe_ix ix_list (pe_lst (pa_cons (pe_op op_add_str (pe_op op_add_str (pe_slice sl_str (pv 0) po_none (po_some (pv 5))) (pv 4)) (pe_slice sl_str (pv 0) (po_some (pv 5)) po_none)) (pa_cons (pe_op op_add_str (pe_slice sl_str (pv 0) po_none (po_some (pv 5))) (pe_slice sl_str (pv 0) (po_some (pe_op op_add (pv 5) pe_int)) po_none)) (pa_cons (pe_op op_add_str (pe_op op_add_str (pe_slice sl_str (pv 0) po_none (po_some (pv 5))) (pv 4)) (pe_slice sl_str (pv 0) (po_some (pe_op op_add (pv 5) pe_int)) po_none)) (pa_cons (pe_slice sl_str (pv 0) po_none (po_some (pv 5))) pa_nil))))) (pv 2) (fun _ _ => rfl)))))))))), ?_⟩)
  rintro ⟨x, c⟩ vs ⟨hx3, hNR, hAs⟩ hl Zf Zh zp ee hE hx
  try dsimp only [cxOf]
  dsimp only at hx3 hNR hAs
  match vs, hl with
  | [v0, v1], _ =>
  have hz : x.length ≤ sizeLine := Nat.le_trans hx3 (by decide)
  have hE' : ∀ (u v t r : Option Ent) (z : Str), TxOk z → ee.rt (.fz (.str z)) [some (.fz (.str x)), some (.fz (.int c)), u, v, t, r] := fun u v t r z h => hE.rt (fit_fz (fit_fz fit_nil)) ⟨z, h, rfl, rfl⟩
  have m0 : 0 ≤ c % 6 := Int.emod_nonneg _ (by decide)
  have m1 : c % 6 < 6 := Int.emod_lt_of_pos _ (by decide)
  have q0 : 0 ≤ c / 6 % 24 := Int.emod_nonneg _ (by decide)
  have q1 : c / 6 % 24 < 24 := Int.emod_lt_of_pos _ (by decide)
  have q2 : ((c / 6 % 24).toNat : Int) = c / 6 % 24 := by omega
  generalize hsgs : Str.ofString "CRLES.0123456789 sc-+_\n\t" = sgs
  have hl24 : sgs.cps.toList.length = 24 := by rw [← hsgs]; decide +kernel
  have hs24 : sgs.length = 24 := by rw [← len_cps]; exact hl24
  have hzs : sgs.length ≤ sizeLine := by rw [hs24]; decide
  have big : ∀ n : Nat, n ≤ 10000 → n ≤ sizeLine := fun n h => Nat.le_trans h (by decide)
  have l1 : ∀ c : Nat, (⟨#[c]⟩ : Str).length = 1 := fun _ => rfl
  have hN1 : ∀ c : Nat, NR 1 (⟨#[c]⟩ : Str).cps.toList := fun c => nr_len (Nat.le_refl 1)
  repeat tb_rel
  refine o_intC (by decide) ?_
  repeat tb_rel
  refine o_intC ⟨by decide, by decide⟩ ?_
  repeat tb_rel
  refine o_intC (by decide) ?_
  rw [← q2]
  refine o_ixSn hzs (List.getElem?_eq_getElem (by omega)) ?_
  have hsa : As sgs.cps.toList := by
    rw [← hsgs]
    unfold As
    decide +kernel
  have hsn := hsa _ (List.getElem_mem (l := sgs.cps.toList) (n := (c / 6 % 24).toNat) (by omega))
  generalize sgs.cps.toList[(c / 6 % 24).toNat]'_ = sgn at hsn ⊢
  repeat tb_rel
  refine o_intC ⟨by decide, by decide⟩ ?_
  repeat tb_rel
  refine o_intC (show (0 : Int) < (x.length : Int) + 1 by omega) ?_
  have r0 : 0 ≤ c / 144 % ((x.length : Int) + 1) := Int.emod_nonneg _ (by omega)
  have r1 : c / 144 % ((x.length : Int) + 1) < (x.length : Int) + 1 := Int.emod_lt_of_pos _ (by omega)
  obtain ⟨k, hk⟩ : ∃ k : Nat, c / 144 % ((x.length : Int) + 1) = (k : Nat) := ⟨_, (Int.toNat_of_nonneg r0).symm⟩
  rw [hk] at r0 r1 ⊢
  have s0' : 0 ≤ c / 6 % 13 := Int.emod_nonneg _ (by decide)
  have s1' : c / 6 % 13 < 13 := Int.emod_lt_of_pos _ (by decide)
  have t3 : ∀ {a b d : Str}, a.length + b.length + d.length ≤ 5000 → NR 60 a.cps.toList → NR 1 b.cps.toList → NR 60 d.cps.toList → As a.cps.toList → As b.cps.toList → As d.cps.toList → TxOk (a ++ b ++ d) := fun h1 h2 h3 h4 a1 a2 a3 => ⟨by rw [Str.length_append, Str.length_append]; exact h1, by rw [cps_app, cps_app]; exact (nr_cat (nr_cat h2 h3) h4).mono (by decide), by rw [cps_app, cps_app]; exact as_app (as_app a1 a2) a3⟩
  have t2 : ∀ {a d : Str}, a.length + d.length ≤ 5000 → NR 60 a.cps.toList → NR 60 d.cps.toList → As a.cps.toList → As d.cps.toList → TxOk (a ++ d) := fun h1 h2 h4 a1 a3 => ⟨by rw [Str.length_append]; exact h1, by rw [cps_app]; exact (nr_cat h2 h4).mono (by decide), by rw [cps_app]; exact as_app a1 a3⟩
  have nhi : NR 60 (cutS x none (some (k : Int))).cps.toList := by rw [cutS_hi]; exact hNR.take
  have ahi : As (cutS x none (some (k : Int))).cps.toList := by rw [cutS_hi]; exact fun y hy => hAs y (List.mem_of_mem_take hy)
  have alo : ∀ k : Nat, As (cutS x (some (k : Int)) none).cps.toList := fun k => by rw [cutS_lo]; exact fun y hy => hAs y (List.mem_of_mem_drop hy)
  have asn : As (⟨#[sgn]⟩ : Str).cps.toList := fun y hy => by rw [List.mem_singleton.mp hy]; exact hsn
  have nlo : ∀ k : Nat, NR 60 (cutS x (some (k : Int)) none).cps.toList := fun k => by rw [cutS_lo]; exact hNR.drop
  repeat tb_rel
  refine ⟨fun hb => ?_, fun hb => ?_⟩
  · refine s_ret (e_callG rfl ?_)
    repeat tb_rel
    refine o_intC ⟨by decide, by decide⟩ ?_
    repeat tb_rel
    refine o_intC ⟨by decide, by decide⟩ ?_
    repeat tb_rel
    refine o_intC (by decide) ?_
    repeat tb_rel
    have hc16 : (cutS sgs none (some ((16 : Nat) : Int))).length = 16 := by rw [cutS_hi_len, hs24]; rfl
    rw [← Int.toNat_of_nonneg s0']
    refine ⟨(c / 78, (c / 6 % 13).toNat, cutS sgs none (some ((16 : Nat) : Int))), ⟨_, rfl, _, rfl, _, rfl, rfl⟩, .nil, ⟨by dsimp only; omega, by dsimp only; omega, by dsimp only; omega⟩, ?_⟩
    rintro out as' ⟨z, hzl, hza, rfl, rfl⟩ _
    dsimp only [setA] at hzl hza ⊢
    exact hE' _ _ _ _ _ ⟨by omega, nr_len (by rw [len_cps]; omega), fun y hy => hsa y (List.mem_of_mem_take (by rw [← cutS_hi]; exact hza y hy))⟩
  have n4 : c % 6 ≠ 4 := by simpa using hb
  repeat tb_rel
  refine ⟨fun hb => ?_, fun hb => ?_⟩
  · repeat tb_rel
    refine o_addS (big _ (by rw [cutS_lo_len]; omega)) ?_
    exact hE' _ _ _ _ _ (t2 (by rw [cutS_lo_len]; omega) hNR (nlo k) hAs (alo k))
  have n5 : c % 6 ≠ 5 := by simpa using hb
  refine s_next (s_ret (e_op (e_lst ?_)))
  repeat tb_rel
  refine o_addS (big _ (by rw [cutS_hi_len, l1]; omega)) ?_
  repeat tb_rel
  refine o_addS (big _ (by rw [Str.length_append, l1, cutS_hi_len, cutS_lo_len]; omega)) ?_
  repeat tb_rel
  have ek : (k : Int) + 1 = ((k + 1 : Nat) : Int) := by omega
  rw [ek]
  refine o_addS (big _ (by rw [cutS_hi_len, cutS_lo_len]; omega)) ?_
  repeat tb_rel
  refine o_addS (big _ (by rw [cutS_hi_len, l1]; omega)) ?_
  repeat tb_rel
  rw [ek]
  refine o_addS (big _ (by rw [Str.length_append, l1, cutS_hi_len, cutS_lo_len]; omega)) ?_
  repeat tb_rel
  obtain ⟨j, hj⟩ : ∃ j : Nat, c % 6 = (j : Nat) := ⟨_, (Int.toNat_of_nonneg m0).symm⟩
  rw [hj] at m0 m1 n4 n5 ⊢
  have hj4 : j < 4 := by omega
  match j, hj4 with
  | 0, _ => exact o_ixL rfl (hE' _ _ _ _ _ (t3 (by rw [l1, cutS_lo_len, cutS_hi_len]; omega) nhi (hN1 _) (nlo k) ahi asn (alo k)))
  | 1, _ => exact o_ixL rfl (hE' _ _ _ _ _ (t2 (by rw [cutS_lo_len, cutS_hi_len]; omega) nhi (nlo _) ahi (alo _)))
  | 2, _ => exact o_ixL rfl (hE' _ _ _ _ _ (t3 (by rw [l1, cutS_lo_len, cutS_hi_len]; omega) nhi (hN1 _) (nlo _) ahi asn (alo _)))
  | 3, _ => exact o_ixL rfl (hE' _ _ _ _ _ ⟨by rw [cutS_hi_len]; omega, nhi.mono (by decide), ahi⟩)
end
end K51

set_option Elab.async false
set_option linter.all false
set_option autoImplicit false
set_option maxRecDepth 100000
set_option maxHeartbeats 4000000
namespace K51
open PySem PySem.Spec PyProof.Rows PySem.NumText L2 Dl
local macro_rules
  | `(tactic| tb_rel) => `(tactic| first
    | with_reducible refine s_forI ?_
    | with_reducible refine s_whileI ?_
    | with_reducible refine s_seq ?_
    | with_reducible refine s_if ?_
    | with_reducible refine s_next ?_
    | with_reducible refine s_brk ?_
    | with_reducible refine s_cont ?_
    | with_reducible refine s_retN ?_
    | with_reducible refine t_test ?_
    | with_reducible refine t_B ?_
    | with_reducible refine t_and ?_
    | with_reducible refine t_or ?_
    | with_reducible refine t_not ?_
    | with_reducible refine e_slL ?_
    | with_reducible refine e_slS ?_
    | with_reducible refine e_op ?_
    | with_reducible refine e_isi2 ?_
    | with_reducible refine e_cb ?_
    | with_reducible refine e_tup ?_
    | with_reducible refine e_lst ?_
    | with_reducible refine e_neg ?_
    | with_reducible refine e_int ?_
    | with_reducible refine e_str ?_
    | with_reducible refine e_bl ?_
    | with_reducible refine e_non ?_
    | with_reducible refine e_dict0 ?_
    | with_reducible refine a_cons ?_
    | with_reducible refine a_nil ?_
    | with_reducible refine o_no ?_
    | with_reducible refine o_so ?_
    | with_reducible refine i_list ?_
    | with_reducible refine i_tup ?_
    | with_reducible refine i_range1 ?_
    | with_reducible refine i_revR1 ?_
    | with_reducible refine i_revL ?_
    | with_reducible refine i_str ?_
    | with_reducible refine i_enum ?_
    | with_reducible refine g_name ?_
    | with_reducible refine gs_cons ?_
    | with_reducible refine gs_nil ?_
    | with_reducible refine o_int ?_
    | with_reducible refine o_bool ?_
    | with_reducible refine o_eqI ?_
    | with_reducible refine o_neI ?_
    | with_reducible refine o_eqS ?_
    | with_reducible refine o_neS ?_
    | with_reducible refine o_isN ?_
    | with_reducible refine o_notN ?_
    | with_reducible refine c_lenL ?_
    | with_reducible refine c_lenT ?_
    | with_reducible refine c_intB ?_
    | with_reducible refine e_andV ?_
    | with_reducible refine e_orV ?_
    | with_reducible refine e_notV ?_
    | with_reducible refine e_ifE ?_
    | with_reducible refine e_bmS ?_
    | with_reducible refine e_fs ?_
    | with_reducible refine e_fmtI ?_
    | with_reducible refine j_cons ?_
    | with_reducible refine j_nil ?_
    | with_reducible refine o_inSg ?_
    | with_reducible refine o_notInSg ?_
    | ((fail_if_success (with_reducible refine s_ret (e_lst ?_))); (fail_if_success (with_reducible refine s_ret (e_callG ?_ ?_))); (with_reducible refine s_ret ?_))
    | ((fail_if_success (with_reducible refine s_set (e_lst ?_))); (fail_if_success (with_reducible refine s_set (e_callG ?_ ?_))); (with_reducible refine s_set ?_))
    | ((with_reducible apply e_var); exact rfl)
    | ((with_reducible apply ga_cell); exact ⟨_, rfl⟩)
    | with_reducible refine ga_cons ?_
    | with_reducible refine ga_nil ?_
    | with_reducible refine e_callG rfl ?_
    | ((with_reducible refine c_lenS ?_ ?_); assumption)
    | ((with_reducible refine g_tup ?_ ?_); exact rfl)
    | with_reducible refine ⟨_, rfl, ?_⟩
    | ((with_reducible refine And.intro ?_ ?_); assumption)
    | ((with_reducible refine And.intro ?_ ?_); exact Nat.le_of_ble_eq_true rfl))
abbrev s__law_own_reading : Stmt := top 31
abbrev N__law_own_reading : List Str := ["_law_text_here", "_law_parts", "_law_sign", "_law_found", "_law_part", "_law_numbers", "_law_number"]
theorem sc__law_own_reading : FnScope N__law_own_reading ["_law_text_here"] (defScope s__law_own_reading) := ⟨rfl, rfl, rfl, by decide +kernel, rfl, by decide +kernel, by decide +kernel⟩
abbrev spOwn (K : PySem.W.Frag) : Sp := SpG K (G := Str) (fun x => [.fz (.str x)]) (fun x => TxOk x) (fun x out as' => ((∃ ls, Rd x.cps.toList ls ∧ out = .ret (.new (.lst (encs ls)))) ∨ ((∀ ls, ¬ Rd x.cps.toList ls) ∧ out = .ret (.fz .none))) ∧ as' = [.fz (.str x)])
theorem in5 {c a b d e f : Nat} : inD (sg c) [sg a, sg b, sg d, sg e, sg f] = (decide (c = a) || (decide (c = b) || (decide (c = d) || (decide (c = e) || decide (c = f))))) := by
  unfold inD
  show inV (.str ⟨#[c]⟩) [.str ⟨#[a]⟩, .str ⟨#[b]⟩, .str ⟨#[d]⟩, .str ⟨#[e]⟩, .str ⟨#[f]⟩] = _
  simp [inV, eqV, Bool.beq_eq_decide_eq, eq_comm]
abbrev strsD (ps : List (List Nat)) : List PyData := ps.map fun p => .str (mkS p)
def PartP (p : List Nat) : Prop := ∃ c b, p = c :: b ∧ isL c ∧ ∀ y ∈ b, ¬ isL y
theorem shp_strs {ps : List (List Nat)} (h : ∀ p ∈ ps, ∀ c ∈ p, c < 128) : Shp 1 (.list (strsD ps)) := shp_list fun d hd => by
  obtain ⟨p, hp, rfl⟩ := List.mem_map.mp hd
  refine ⟨?_, Nat.zero_le _⟩
  show PyData.strOk (mkS p) = true
  unfold PyData.strOk
  rw [Array.all_eq_true_iff_forall_mem]
  intro c hc
  have := h p hp c (by simpa using hc)
  simp
  omega
theorem ixN_last {n : Nat} : ixN (n + 1) (-1) = some n := by
  unfold ixN
  rw [if_neg (by decide), if_pos (by omega)]
  congr 1
  omega
theorem flat_begins : ∀ {ps : List (List Nat)}, (∀ p ∈ ps, PartP p) → ∀ c t, ps.flatten = c :: t → isL c
  | [], _, c, t, e => by cases e
  | p :: ps, h, c, t, e => by
    obtain ⟨c', b, rfl, hc, _⟩ := h p List.mem_cons_self
    injection e with e1 _
    rw [← e1]
    exact hc
section
variable {P : Program} {w : World} {K : PySem.W.Frag} {mg : Str → Option Value} {base : Heap}
theorem cl__law_own_reading (T : Tx K mg) (D : Fd K mg "_law_own_reading" s__law_own_reading) (c__law_figures : Cl P w K mg base 1 "_law_figures" (spFigures K)) : Cl P w K mg base 2 "_law_own_reading" (spOwn K) := by
  refine mk_clG D sc__law_own_reading (fun _ _ _ _ _ _ us hl => match us, hl with | [_], _ => rfl) (fun _ => rfl) (fun cdv A outer s H E hr => ⟨_, (pss_cons (ps_set (i := 1) sc__law_own_reading.nd rfl (.inl rfl) (pe_lst pa_nil))
    (pss_cons (ps_for PassesOwn.leaving rfl (pi_str (pv 0)) (pg_name (i := 2) sc__law_own_reading.nd rfl (Or.inl rfl)) (pss_one (ps_if (pt_cmpR op_in_seq (pv 2) (pe_tup (pa_cons pe_str (pa_cons pe_str (pa_cons pe_str (pa_cons pe_str (pa_cons pe_str pa_nil)))))) (by rfl)) (pss_one (ps_expr (pe_bm PySem.F.plainAttrs_list PySem.F.slot_list_append PySem.F.type_list_append mt_append (pv 1) (pa_cons (pv 2) pa_nil)))) (pss_one (ps_if (pt_cmpR (op_eqD hr.units) (pv 1) (pe_lst pa_nil) (nomark _)) (pss_one (ps_ret pe_non)) (pss_one (ps_asg (pe_op op_add_str (pe_ix ix_list (pv 1) (pe_un un_neg pe_int) (fun _ _ => rfl)) (pv 2)) (pg_sub (pv 1) (pe_un un_neg pe_int) set_list))))))))
    (pss_cons (ps_set (i := 3) sc__law_own_reading.nd rfl (.inl rfl) (pe_lst pa_nil))
    (pss_cons (ps_for PassesOwn.leaving rfl (pi_list (pv 1)) (pg_name (i := 4) sc__law_own_reading.nd rfl (Or.inl rfl)) (pss_cons (ps_set (i := 5) sc__law_own_reading.nd rfl (.inl rfl) (pe_bm PySem.F.plainAttrs_str PySem.F.slot_str_split PySem.F.type_str_split mt_split (pe_slice sl_str (pv 4) (po_some pe_int) po_none) (pa_cons pe_str pa_nil)))
    (pss_one (ps_if (PW.pt (pw_and (pt_cmpR op_eq (pe_callB call_len_str (by rfl) T.f_len boot_len (pa_cons (pv 4) pa_nil)) pe_int (nomark _)) (pw_and1 (pt_cmpR op_ne (pv 4) pe_str (nomark _))))) (pss_one (ps_expr (pe_bm PySem.F.plainAttrs_list PySem.F.slot_list_append PySem.F.type_list_append mt_append (pv 3) (pa_cons (pe_tup (pa_cons (pv 4) pa_nil)) pa_nil)))) (pss_one (ps_if (PW.pt (pw_and (pt_cmpR op_eq (pe_ix ix_str (pv 4) pe_int (fun _ _ => rfl)) pe_str (nomark _)) (pw_and (pt_cmpR op_eq (pe_callB call_len_seq (by rfl) T.f_len boot_len (pa_cons (pv 5) pa_nil)) pe_int (nomark _)) (pw_and1 (pt_val (pe_callB (cr_all rfl) (by rfl) T.f_all (by decide +kernel) (pa_cons (pe_lc (own := [("_law_number", 6)]) (g := gName 6) (tt := tYes) (te := tCallS (spFigures K) (WE fun _ _ _ _ => False) (tCons (tVar 6) tNil)) rfl sc__law_own_reading.nd (pi_list (pv 5)) (blkOk_by (N := N__law_own_reading) (sc := defScope s__law_own_reading) (by decide +kernel)) (fun _ _ _ _ _ => (pg_name (i := 6) sc__law_own_reading.nd rfl (Or.inl rfl))) (fun _ _ _ _ _ => pts_nil) (fun _ _ _ _ _ => (pe_cl c__law_figures hr (by omega) (by rfl) tkN (pa_cons (pv 6) pa_nil)))) pa_nil))))))) (pss_one (ps_expr (pe_bm PySem.F.plainAttrs_list PySem.F.slot_list_append PySem.F.type_list_append mt_append (pv 3) (pa_cons (pe_tup (pa_cons pe_str (pa_cons (pe_callTy call_int_str (by rfl) T.f_int boot_int (pa_cons (pe_ix ix_list (pv 5) pe_int (fun _ _ => rfl)) pa_nil)) (pa_cons (pe_callTy call_int_str (by rfl) T.f_int boot_int (pa_cons (pe_ix ix_list (pv 5) pe_int (fun _ _ => rfl)) pa_nil)) pa_nil)))) pa_nil)))) (pss_one (ps_ret pe_non))))))))
    (pss_one (ps_ret (pv 3))))))), ?_⟩)
  rintro x vs ⟨hx5, hNR, hAs⟩ hl Zf Zh zp ee hE hx
  try dsimp only [cxOf]
  match vs, hl with
  | [v0], _ =>
  simp only [sC, sE, sL, sR, sS, sP]
  have hz : x.length ≤ sizeLine := Nat.le_trans hx5 (by decide)
  have hxl := len_cps x
  have big : ∀ n : Nat, n ≤ 20000 → n ≤ sizeLine := fun n h => Nat.le_trans h (by decide)
  have hno : ∀ a b c d e f, (∀ ls, ¬ Rd x.cps.toList ls) → ee.rt (.fz .none) [some (.fz (.str x)), a, b, c, d, e, f] := fun a b c d e f h => hE.rt (fit_fz fit_nil) ⟨.inr ⟨h, rfl⟩, rfl⟩
  refine s_seq (s_setN (n_lst (a_nil ⟨by decide, ?_⟩)))
  repeat tb_rel
  refine for_by (fun i Γ' => ∃ (ps : List (List Nat)) (u : Option Ent), ps.flatten = x.cps.toList.take i ∧ (∀ p ∈ ps, PartP p) ∧ ps.length ≤ i ∧ Γ' = [some (.fz (.str x)), some (.own (.lst (strsD ps))), u, none, none, none, none]) ⟨[], none, rfl, fun _ h => (nomatch h), Nat.le_refl _, rfl⟩ ?_ ?_
  · rintro i d Γ' hd ⟨ps, u, hfl, hps, hpl, rfl⟩
    obtain ⟨c, hc, rfl⟩ : ∃ c, x.cps.toList[i]? = some c ∧ d = sg c := by
      rw [List.getElem?_map] at hd
      cases hq : x.cps.toList[i]? with
      | none => rw [hq] at hd; cases hd
      | some l => rw [hq] at hd; cases hd; exact ⟨l, rfl, rfl⟩
    have hi : i < x.length := by
      obtain ⟨h, _⟩ := List.getElem?_eq_some_iff.mp hc
      omega
    have htk : x.cps.toList.take (i + 1) = x.cps.toList.take i ++ [c] := by
      rw [List.take_succ, hc]
      rfl
    repeat tb_rel
    refine o_inT rfl rfl ?_
    rw [if_neg (by decide), in5]
    repeat tb_rel
    refine ⟨fun hb => ?_, fun hb => ?_⟩
    · have hL : isL c := by simpa [isL] using hb
      refine s_app ⟨_, rfl⟩ ?_
      repeat tb_rel
      try refine ⟨by simp; omega, ?_⟩
      have e : strsD ps ++ [sg c] = strsD (ps ++ [[c]]) := by simp [strsD]
      rw [e]
      refine ⟨ps ++ [[c]], _, by rw [htk, List.flatten_append, hfl]; simp, fun p hp => ?_, by simp; omega, rfl⟩
      rcases List.mem_append.mp hp with hp | hp
      · exact hps p hp
      · rw [List.mem_singleton.mp hp]
        exact ⟨c, [], rfl, hL, fun _ h => (nomatch h)⟩
    · have hL : ¬ isL c := by
        intro q
        rcases q with rfl | rfl | rfl | rfl | rfl <;> simp at hb
      refine s_ifB ps.isEmpty (t_test (e_eqO (ds := strsD ps) rfl p_lst0 ?_ rfl ⟨_, rfl, ?_, rfl⟩)) (fun hb => ?_) (fun hb => ?_)
      · exact (shp_strs fun p hp c hc => hAs c (List.mem_of_mem_take (by rw [← hfl]; exact List.mem_flatten.mpr ⟨p, hp, hc⟩))).ok (by decide)
      · rw [eqv_nil]
        cases ps <;> simp [strsD]
      · have hp0 : ps = [] := by simpa using hb
        subst hp0
        have hi0 : i = 0 := by
          have h0 := congrArg List.length hfl
          rw [List.length_take] at h0
          simp only [List.flatten_nil, List.length_nil] at h0
          omega
        subst hi0
        repeat tb_rel
        refine hno _ _ _ _ _ _ fun ls h => ?_
        cases hq : x.cps.toList with
        | nil => rw [hq] at hc; cases hc
        | cons a r =>
          rw [hq] at hc h
          cases hc
          exact hL (h.begins c r rfl)
      · obtain ⟨qs, p, rfl⟩ : ∃ qs p, ps = qs ++ [p] := by
          refine ⟨ps.dropLast, ps.getLast (fun z => by simp [z] at hb), ?_⟩
          exact (List.dropLast_concat_getLast _).symm
        have hplen : (mkS p).length ≤ x.length := by
          have h0 := congrArg List.length hfl
          rw [List.flatten_append, List.length_append, List.length_take] at h0
          rw [← len_cps]
          simp at h0 ⊢
          omega
        have e1 : strsD (qs ++ [p]) = strsD qs ++ [.str (mkS p)] := by simp [strsD]
        refine s_setI ⟨_, rfl⟩ (e_op (e_ixO (e_neg (e_int ⟨_, rfl, -1, _, .str (mkS p), rfl, rfl, by rw [e1]; exact atI_last', ?_⟩)) ⟨_, rfl⟩))
        repeat tb_rel
        refine o_addS (big _ (by show _ + 1 ≤ _; omega)) ⟨⟨_, rfl⟩, e_neg (e_int ⟨_, rfl, -1, qs.length, _, rfl, rfl, ?_, ?_⟩)⟩
        · have : (strsD (qs ++ [p])).length = qs.length + 1 := by simp [strsD]
          rw [this]
          exact ixN_last
        · have e2 : (strsD (qs ++ [p])).set qs.length (.str (mkS p ++ ⟨#[c]⟩)) = strsD (qs ++ [p ++ [c]]) := by
            have e3 : mkS p ++ ⟨#[c]⟩ = mkS (p ++ [c]) := str_ext (by rw [cps_app])
            rw [e1, e3]
            have hql : qs.length = (strsD qs).length := by simp [strsD]
            rw [hql]
            simp [List.set_append, strsD]
          rw [e2]
          refine ⟨qs ++ [p ++ [c]], _, ?_, fun q hq => ?_, by simp at hpl ⊢; omega, rfl⟩
          · rw [htk, ← hfl]
            simp
          · rcases List.mem_append.mp hq with hq | hq
            · exact hps q (List.mem_append_left _ hq)
            · rw [List.mem_singleton.mp hq]
              obtain ⟨c0, b, rfl, h1, h2⟩ := hps p (List.mem_append_right _ List.mem_cons_self)
              refine ⟨c0, b ++ [c], rfl, h1, fun y hy => ?_⟩
              rcases List.mem_append.mp hy with hy | hy
              · exact h2 y hy
              · rw [List.mem_singleton.mp hy]
                exact hL
  · rintro Γ' ⟨ps, u, hfl, hps, hpl, rfl⟩
    have el : (x.cps.toList.map fun c => PyData.str ⟨#[c]⟩).length = x.cps.toList.length := by simp
    rw [el, List.take_length] at hfl
    rw [el] at hpl
    refine s_seq (s_setN (n_lst (a_nil ⟨by decide, ?_⟩)))
    refine s_frz (k := 1) rfl ?_
    repeat tb_rel
    refine for_by (fun j Γ' => ∃ (l0 : List Lt) (u2 u4 u5 : Option Ent), l0.length = j ∧ (∀ ls, Rd x.cps.toList ls → ∃ l2, ls = l0 ++ l2 ∧ Rd (ps.drop j).flatten l2) ∧ (∀ l2, Rd (ps.drop j).flatten l2 → Rd x.cps.toList (l0 ++ l2)) ∧ Γ' = [some (.fz (.str x)), some (.fz (.list (strsD ps))), u2, some (.own (.lst (encs l0))), u4, u5, none]) ⟨[], _, none, none, rfl, fun ls h => ⟨ls, rfl, by rw [List.drop_zero, hfl]; exact h⟩, fun l2 h => by rw [List.drop_zero, hfl] at h; exact h, rfl⟩ ?_ ?_
    rotate_left
    · rintro Γ' ⟨l0, u2, u4, u5, _, hR1, hR2, rfl⟩
      have el2 : (strsD ps).length = ps.length := by simp [strsD]
      rw [el2, List.drop_length] at hR2
      refine s_retO (o := .lst (encs l0)) rfl ?_
      refine hE.rt (fit_fz fit_nil) ⟨.inl ⟨l0, ?_, rfl⟩, rfl⟩
      have := hR2 [] .nil
      simpa using this
    · rintro j d Γ' hd ⟨l0, u2, u4, u5, hl0, hR1, hR2, rfl⟩
      obtain ⟨p, hp, rfl⟩ : ∃ p, ps[j]? = some p ∧ d = .str (mkS p) := by
        rw [List.getElem?_map] at hd
        cases hq : ps[j]? with
        | none => rw [hq] at hd; cases hd
        | some l => rw [hq] at hd; cases hd; exact ⟨l, rfl, rfl⟩
      have hpm := List.mem_of_getElem? hp
      have hj5 : l0.length ≤ 5000 := by
        have h0 := (List.getElem?_eq_some_iff.mp hp).1
        omega
      obtain ⟨c, b, rfl, hcL, hbL⟩ := hps p hpm
      have hdrop : ps.drop j = (c :: b) :: ps.drop (j + 1) := by
        obtain ⟨h, e⟩ := List.getElem?_eq_some_iff.mp hp
        rw [← e]
        exact List.drop_eq_getElem_cons h
      have hcat : x.cps.toList = (ps.take j).flatten ++ (c :: (b ++ (ps.drop (j + 1)).flatten)) := by
        rw [← hfl]
        conv => lhs; rw [← List.take_append_drop j ps, hdrop]
        simp
      rw [hdrop, List.flatten_cons, List.cons_append] at hR1 hR2
      have hbeg : ∀ y t, (ps.drop (j + 1)).flatten = y :: t → isL y := flat_begins fun q hq => hps q (List.mem_of_mem_drop hq)
      have hblen : b.length + 1 ≤ x.length := by
        have h0 := congrArg List.length hcat
        rw [List.length_append, List.length_cons, List.length_append] at h0
        omega
      have hpl5 : (mkS (c :: b)).length = b.length + 1 := by rw [← len_cps]; simp
      have hzp : (mkS (c :: b)).length ≤ sizeLine := big _ (by omega)
      have hcut : (cutS (mkS (c :: b)) (some 1) none).cps.toList = b := by
        have := cutS_lo (x := mkS (c :: b)) (k := 1)
        exact this
      have hcl : (cutS (mkS (c :: b)) (some 1) none).length = b.length := by rw [← len_cps, hcut]
      repeat tb_rel
      refine m_split rfl (big _ (by rw [hcl]; omega)) ?_
      generalize hsp : Txt.split (cutS (mkS (c :: b)) (some 1) none) ⟨#[46]⟩ = sp
      have hspl : sp.length ≤ 10000 := by
        have := PyProof.Rows.split_le (cutS (mkS (c :: b)) (some 1) none) ⟨#[46]⟩
        rw [hsp, hcl] at this
        omega
      have hspm : ∀ y ∈ sp, y.length ≤ 5000 := fun y hy => by
        have := PyProof.Rows.part_short (x := cutS (mkS (c :: b)) (some 1) none) (y := ⟨#[46]⟩) (a := y) (by rw [hsp]; exact hy)
        rw [hcl] at this
        omega
      have step : ∀ l, PartOk c b l → (∀ ls, Rd x.cps.toList ls → ∃ l2, ls = (l0 ++ [l]) ++ l2 ∧ Rd (ps.drop (j + 1)).flatten l2) ∧ (∀ l2, Rd (ps.drop (j + 1)).flatten l2 → Rd x.cps.toList ((l0 ++ [l]) ++ l2)) := fun l hl => by
        constructor
        · intro ls h
          obtain ⟨l2, rfl, h2⟩ := hR1 ls h
          obtain ⟨l', l3, hl', rfl, h3⟩ := rd_part hbL hbeg h2
          have h4 := part_rd hl h3
          have h5 := h2.det h4
          injection h5 with h5 _
          exact ⟨l3, by rw [h5]; simp, h3⟩
        · intro l2 h
          have := hR2 _ (part_rd hl h)
          simpa using this
      have hnop : (∀ l, ¬ PartOk c b l) → ∀ ls, ¬ Rd x.cps.toList ls := fun h ls hls => by
        obtain ⟨l2, _, h2⟩ := hR1 ls hls
        obtain ⟨l', _, hl', _⟩ := rd_part hbL hbeg h2
        exact h l' hl'
      refine s_ifB (decide (b = [] ∧ c ≠ 83)) ?_ (fun hb => ?_) (fun hb => ?_)
      · repeat tb_rel
        refine ⟨fun h => ?_, fun h => ⟨?_, rfl⟩⟩
        · have hb0 : b = [] := by
            have : ((mkS (c :: b)).length : Int) = 1 := by simpa using h
            rw [hpl5] at this
            exact List.length_eq_zero_iff.mp (by omega)
          subst hb0
          repeat tb_rel
          refine ⟨?_, rfl⟩
          simp
        · have hb0 : b ≠ [] := by
            have : ((mkS (c :: b)).length : Int) ≠ 1 := by simpa using h
            rw [hpl5] at this
            intro z
            rw [z] at this
            simp at this
          simp [hb0]
      · obtain ⟨rfl, h83⟩ := of_decide_eq_true hb
        have hplc : pl c := by
          unfold isL at hcL
          unfold pl
          omega
        refine s_app ⟨_, rfl⟩ ?_
        repeat tb_rel
        try refine ⟨by simp; omega, ?_⟩
        obtain ⟨g1, g2⟩ := step (.p c) (.inl ⟨hplc, rfl, rfl⟩)
        have e : encs l0 ++ [PyData.tuple [.str (mkS [c])]] = encs (l0 ++ [.p c]) := by simp [encs, Lt.enc]
        rw [e]
        exact ⟨l0 ++ [.p c], _, _, _, by simp [hl0], g1, g2, rfl⟩
      have hb1 := of_decide_eq_false hb
      open Classical in
      refine s_ifB (decide (c = 83 ∧ ∃ a d : Str, sp = [a, d] ∧ Fig a.cps.toList (digitsVal a.cps.toList) ∧ Fig d.cps.toList (digitsVal d.cps.toList))) ?_ (fun hb => ?_) (fun hb => ?_)
      · repeat tb_rel
        refine o_ixS (c := c) hzp (show atI (c :: b) ((0 : Nat) : Int) = some c from atI_nat rfl) ?_
        repeat tb_rel
        refine ⟨fun h => ?_, fun h => ⟨?_, rfl⟩⟩
        rotate_left
        · have h83 : c ≠ 83 := by simpa using h
          symm
          rw [decide_eq_false_iff_not]
          exact fun q => h83 q.1
        have h83 : c = 83 := by simpa using h
        repeat tb_rel
        refine ⟨fun h => ?_, fun h => ⟨?_, rfl⟩⟩
        rotate_left
        · have h2 : sp.length ≠ 2 := by
            have := of_decide_eq_false h
            rw [List.length_map] at this
            omega
          symm
          rw [decide_eq_false_iff_not]
          rintro ⟨_, a, d, rfl, _⟩
          exact h2 rfl
        have h2 : sp.length = 2 := by
          have := of_decide_eq_true h
          rw [List.length_map] at this
          omega
        obtain ⟨a, d, rfl⟩ : ∃ a d, sp = [a, d] := by
          match sp, h2 with
          | [a, d], _ => exact ⟨a, d, rfl⟩
        refine t_B (e_cb (a_cons (e_new (n_lcL (keeps_name (by decide)) (i_list (e_var rfl ⟨_, rfl, by simp, [.bool (decide (Fig a.cps.toList (digitsVal a.cps.toList))), .bool (decide (Fig d.cps.toList (digitsVal d.cps.toList)))], rfl, ?_, ?_⟩))))))
        · rintro y i d' e hd he
          obtain ⟨z, hz5, rfl, rfl⟩ : ∃ z : Str, z.length ≤ 5000 ∧ d' = .str z ∧ e = .bool (decide (Fig z.cps.toList (digitsVal z.cps.toList))) := by
            match i, hd, he with
            | 0, hd, he =>
              cases hd
              cases he
              exact ⟨a, hspm a List.mem_cons_self, rfl, rfl⟩
            | 1, hd, he =>
              cases hd
              cases he
              exact ⟨d, hspm d (.tail _ (.head _)), rfl, rfl⟩
          repeat tb_rel
          refine ⟨z, ⟨_, rfl, rfl⟩, .nil, hz5, ?_⟩
          rintro out as' ⟨⟨bb, hbb, rfl⟩, rfl⟩ _
          refine ⟨?_, rfl⟩
          congr 1
          rw [Bool.eq_iff_iff, hbb, decide_eq_true_iff]
        · refine ⟨_, rfl, a_nil ?_⟩
          refine c_all (bs := [decide (Fig a.cps.toList (digitsVal a.cps.toList)), decide (Fig d.cps.toList (digitsVal d.cps.toList))]) ⟨_, rfl, ?_, rfl⟩
          rw [Bool.eq_iff_iff, decide_eq_true_iff]
          simp only [List.all_cons, List.all_nil, id, Bool.and_true, Bool.and_eq_true, decide_eq_true_iff]
          constructor
          · rintro ⟨q1, q2⟩
            exact ⟨h83, a, d, rfl, q1, q2⟩
          · rintro ⟨_, a', d', e, q1, q2⟩
            injection e with e1 e2
            injection e2 with e2 _
            subst e1 e2
            exact ⟨q1, q2⟩
      · obtain ⟨rfl, a, d, rfl, f1, f2⟩ := of_decide_eq_true hb
        have hbe : b = a.cps.toList ++ 46 :: d.cps.toList := by rw [← hcut]; exact split_two hsp
        have la : a.length ≤ 640 := by
          rw [← len_cps]
          refine hNR ((ps.take j).flatten ++ [83]) a.cps.toList (46 :: (d.cps.toList ++ (ps.drop (j + 1)).flatten)) ?_ f1.1
          rw [hcat, hbe]
          simp
        have ld : d.length ≤ 640 := by
          rw [← len_cps]
          refine hNR ((ps.take j).flatten ++ (83 :: (a.cps.toList ++ [46]))) d.cps.toList (ps.drop (j + 1)).flatten ?_ f2.1
          rw [hcat, hbe]
          simp
        refine s_app ⟨_, rfl⟩ ?_
        repeat tb_rel
        refine o_ixL (d := .str a) rfl ?_
        repeat tb_rel
        refine c_intT (int_fig f1 la) la ?_
        repeat tb_rel
        refine o_ixL (d := .str d) rfl ?_
        repeat tb_rel
        refine c_intT (int_fig f2 ld) ld ?_
        repeat tb_rel
        try refine ⟨by simp; omega, ?_⟩
        obtain ⟨g1, g2⟩ := step (.s (digitsVal a.cps.toList) (digitsVal d.cps.toList)) (.inr ⟨rfl, _, _, _, _, f1, f2, hbe, rfl⟩)
        have e : encs l0 ++ [PyData.tuple [.str ⟨#[83]⟩, .int ((digitsVal a.cps.toList : Nat) : Int), .int ((digitsVal d.cps.toList : Nat) : Int)]] = encs (l0 ++ [.s (digitsVal a.cps.toList) (digitsVal d.cps.toList)]) := by simp [encs, Lt.enc]
        rw [e]
        exact ⟨l0 ++ [.s (digitsVal a.cps.toList) (digitsVal d.cps.toList)], _, _, _, by simp [hl0], g1, g2, rfl⟩
      · have hb2 := of_decide_eq_false hb
        repeat tb_rel
        refine hno _ _ _ _ _ _ (hnop fun l hl => ?_)
        rcases hl with ⟨h1, h2, _⟩ | ⟨h1, ds, es, jj, kk, f1, f2, h2, _⟩
        · refine hb1 ⟨h2, ?_⟩
          unfold pl at h1
          omega
        · refine hb2 ⟨h1, ?_⟩
          have nd : ∀ {q : List Nat} {m : Nat}, Fig q m → 46 ∉ q := fun f hm => by
            have := f.1 46 hm
            omega
          obtain ⟨y, z, e1, e2, e3⟩ := split_len2 (x := cutS (mkS (c :: b)) (some 1) none) (a := ds) (b := es) (by rw [hcut, h2]) (nd f1) (nd f2)
          rw [hsp] at e1
          obtain ⟨_, _, _, rfl⟩ := id f1
          obtain ⟨_, _, _, rfl⟩ := id f2
          exact ⟨y, z, e1, by rw [e2]; exact f1, by rw [e3]; exact f2⟩
end
end K51

set_option Elab.async false
set_option linter.all false
set_option autoImplicit false
set_option maxRecDepth 100000
set_option maxHeartbeats 4000000
namespace K51
open PySem PySem.Spec PyProof.Rows L2 L2H Dl Px
abbrev s__law_kinds : Stmt := top 27
abbrev N__law_kinds : List Str := ["_law_e", "_law_some", "_law_k"]
theorem sc__law_kinds : FnScope N__law_kinds ["_law_e"] (defScope s__law_kinds) := ⟨rfl, rfl, rfl, by decide +kernel, rfl, by decide +kernel, by decide +kernel⟩
/-- what isinstance says of an error of the class x -/
def kindsOf : List Str := ["NoCorner", "NoSide", "NoText", "NoCode", "NoWord", "NoCaps", "NoLetter", "NoSkin", "NoDeed", "NoPast", "Spoilt", "Taken", "Gone", "TooMany"]
structure Ki (K : PySem.W.Frag) (mg : Str → Option Value) : Prop where
  ec : ExcC K (He.ga K "NoText")
  ve : PySem.W.kitOne K (.ref (He.ga K "NoText")) (.type "ValueError") = some true
  k : ∀ x ∈ kindsOf, x ≠ "NoText" → PySem.W.kitOne K (.ref (He.ga K "NoText")) (.ref (He.ga K x)) = some false
  kn : PySem.W.kitOne K (.ref (He.ga K "NoText")) (.ref (He.ga K "NoText")) = some true
  g : ∀ x ∈ kindsOf, mg x = some (.ref (He.ga K x))
  f_isinstance : mg "isinstance" = none
  f_range : mg "range" = none
  f_ValueError : mg "ValueError" = none
def spKinds (K : PySem.W.Frag) : SpE := fun a cls d vs H Q E => vs = [.ref a] ∧ cls = .ref (He.ga K "NoText") ∧ d = none ∧ ∀ H' p, Same H H' → H p = none → H' p = some (.lst [.int 0, .int 3]) → Q (.ref p) H'
theorem t_is {K : PySem.W.Frag} {D a : Addr} {c : V} {cv : Value} {b : Bool} {σ : L2.St} {H : Hp} {Q : VK} (h0 : σ[0]? = some (some (.ref a))) (h1 : ∀ u, RelV c u → u = cv) (h2 : PySem.W.kitOne K (.ref D) cv = some b) (q : Q (.bl b) H) :
    tCB (rIsE K D a) (tCons (tVar 0) (tCons (tC c) tNil)) σ H Q := ⟨_, h0, c, cv, b, rfl, h1, h2, q⟩
theorem upd_none {H : Hp} {p q : Addr} {u : HO} (h : upd H p u q = none) : H q = none := by
  by_cases e : q = p
  · rw [e, upd_same] at h
    cases h
  · rw [upd_ne e] at h
    exact h
theorem kgrow {H G : Hp} {p : Addr} {u : HO} (s : Same H G) (n : G p = none) : Same H (upd G p u) ∧ upd G p u p = some u := ⟨s.trans (upd_grow n), upd_same⟩
theorem kkeep {G : Hp} {p q : Addr} {u v : HO} (h : G p = some v) (n : G q = none) : upd G q u p = some v := upd_grow n p v h
def kbs : List Bool := [true, false, false, true, false, false, false, false, false, false, false, false, false, false, false]
def kacc (i : Nat) : List V := ((List.range i).filter fun k => kbs.getD k false).map fun k => .int (k : Nat)
theorem kacc_succ (i : Nat) : kacc (i + 1) = if kbs.getD i false = true then kacc i ++ [.int (i : Nat)] else kacc i := by
  unfold kacc
  rw [List.range_succ, List.filter_append, List.map_append]
  cases h : kbs.getD i false with
  | true => rw [List.filter_cons_of_pos (p := fun k => kbs.getD k false) h]; simp
  | false => rw [List.filter_cons_of_neg (p := fun k => kbs.getD k false) (by rw [h]; simp)]; simp
theorem kacc_len {i : Nat} (h : i < 15) : (kacc i).length < sizeLine := by
  unfold kacc
  rw [List.length_map]
  have h1 := List.length_filter_le (fun k => kbs.getD k false) (List.range i)
  rw [List.length_range] at h1
  exact Nat.lt_of_le_of_lt (Nat.le_trans h1 (Nat.le_of_lt h)) (by decide)
theorem katI {i : Nat} (h : i < 15) : atI ([V.bl true, .bl false, .bl false, .bl true] ++ [.bl false, .bl false, .bl false, .bl false] ++ [.bl false, .bl false, .bl false, .bl false] ++ [.bl false, .bl false, .bl false]) (0 + (i : Nat)) = some (.bl (kbs.getD i false)) := by
  rw [Int.zero_add]
  refine atI_nat ?_
  show (kbs.map V.bl)[i]? = _
  rw [List.getElem?_map]
  have hl : i < kbs.length := h
  simp [List.getD, hl]
section
variable {P : Program} {w : World} {K : PySem.W.Frag} {mg : Str → Option Value} {base : Heap}
theorem fn_kinds (T : Ki K mg) {f : Addr} {fd : FuncData} (FD : FunD K "_law_kinds" "_law_kinds" (defArgs s__law_kinds) (defBody s__law_kinds) (defScope s__law_kinds) [] [] f fd) : FnE P w K mg base CX0 1 f fd ["_law_e"] (spKinds K) := by
  obtain ⟨oc, od, dV, kV, doc, pm, an, cdv, ct, osl, rfl, lk, hcd, _, _⟩ := FD.ex
  refine fnE_of lk hcd sc__law_kinds (fun a cls d vs H Q E h => by obtain ⟨rfl, _⟩ := h; rfl) fun A outer s H vs Q E p cls d hot hz hr h => ?_
  obtain ⟨rfl, rfl, rfl, q⟩ := h
  obtain ⟨a, oe⟩ := p
  have nd := sc__law_kinds.nd
  have cis : CallR (cxH CX0 P w K mg base N__law_kinds "_law_kinds" (defScope s__law_kinds) f cdv A outer s H E (a, oe)) (.builtin "isinstance") (rIsE K (He.ga K "NoText") a) := call_isP (List.mem_singleton.mpr rfl) T.ec hz ⟨_, hot.2.choose_spec.1⟩
  have kr : ∀ x : Addr, ∀ u, RelV (V.ref x) u → u = .ref x := fun x u h => h
  refine ⟨_, (pss_cons (ps_set (i := 1) nd rfl (.inr rfl) (pe_lst (pa_cons (pe_callB cis (by rfl) T.f_isinstance (by decide +kernel) (pa_cons (pv 0) (pa_cons (pe_bltn (v := .ty "ValueError") (by rfl) T.f_ValueError (by decide +kernel) rfl) pa_nil))) (pa_cons (pe_callB cis (by rfl) T.f_isinstance (by decide +kernel) (pa_cons (pv 0) (pa_cons (pe_glob (v := .ref (He.ga K "NoCorner")) (by rfl) (T.g "NoCorner" (by decide +kernel)) rfl) pa_nil))) (pa_cons (pe_callB cis (by rfl) T.f_isinstance (by decide +kernel) (pa_cons (pv 0) (pa_cons (pe_glob (v := .ref (He.ga K "NoSide")) (by rfl) (T.g "NoSide" (by decide +kernel)) rfl) pa_nil))) (pa_cons (pe_callB cis (by rfl) T.f_isinstance (by decide +kernel) (pa_cons (pv 0) (pa_cons (pe_glob (v := .ref (He.ga K "NoText")) (by rfl) (T.g "NoText" (by decide +kernel)) rfl) pa_nil))) pa_nil))))))
    (pss_cons (ps_set (i := 1) nd rfl (.inr rfl) (pe_op op_catS (pv 1) (pe_lst (pa_cons (pe_callB cis (by rfl) T.f_isinstance (by decide +kernel) (pa_cons (pv 0) (pa_cons (pe_glob (v := .ref (He.ga K "NoCode")) (by rfl) (T.g "NoCode" (by decide +kernel)) rfl) pa_nil))) (pa_cons (pe_callB cis (by rfl) T.f_isinstance (by decide +kernel) (pa_cons (pv 0) (pa_cons (pe_glob (v := .ref (He.ga K "NoWord")) (by rfl) (T.g "NoWord" (by decide +kernel)) rfl) pa_nil))) (pa_cons (pe_callB cis (by rfl) T.f_isinstance (by decide +kernel) (pa_cons (pv 0) (pa_cons (pe_glob (v := .ref (He.ga K "NoCaps")) (by rfl) (T.g "NoCaps" (by decide +kernel)) rfl) pa_nil))) (pa_cons (pe_callB cis (by rfl) T.f_isinstance (by decide +kernel) (pa_cons (pv 0) (pa_cons (pe_glob (v := .ref (He.ga K "NoLetter")) (by rfl) (T.g "NoLetter" (by decide +kernel)) rfl) pa_nil))) pa_nil)))))))
    (pss_cons (ps_set (i := 1) nd rfl (.inr rfl) (pe_op op_catS (pv 1) (pe_lst (pa_cons (pe_callB cis (by rfl) T.f_isinstance (by decide +kernel) (pa_cons (pv 0) (pa_cons (pe_glob (v := .ref (He.ga K "NoSkin")) (by rfl) (T.g "NoSkin" (by decide +kernel)) rfl) pa_nil))) (pa_cons (pe_callB cis (by rfl) T.f_isinstance (by decide +kernel) (pa_cons (pv 0) (pa_cons (pe_glob (v := .ref (He.ga K "NoDeed")) (by rfl) (T.g "NoDeed" (by decide +kernel)) rfl) pa_nil))) (pa_cons (pe_callB cis (by rfl) T.f_isinstance (by decide +kernel) (pa_cons (pv 0) (pa_cons (pe_glob (v := .ref (He.ga K "NoPast")) (by rfl) (T.g "NoPast" (by decide +kernel)) rfl) pa_nil))) (pa_cons (pe_callB cis (by rfl) T.f_isinstance (by decide +kernel) (pa_cons (pv 0) (pa_cons (pe_glob (v := .ref (He.ga K "Spoilt")) (by rfl) (T.g "Spoilt" (by decide +kernel)) rfl) pa_nil))) pa_nil)))))))
    (pss_cons (ps_set (i := 1) nd rfl (.inr rfl) (pe_op op_catS (pv 1) (pe_lst (pa_cons (pe_callB cis (by rfl) T.f_isinstance (by decide +kernel) (pa_cons (pv 0) (pa_cons (pe_glob (v := .ref (He.ga K "Taken")) (by rfl) (T.g "Taken" (by decide +kernel)) rfl) pa_nil))) (pa_cons (pe_callB cis (by rfl) T.f_isinstance (by decide +kernel) (pa_cons (pv 0) (pa_cons (pe_glob (v := .ref (He.ga K "Gone")) (by rfl) (T.g "Gone" (by decide +kernel)) rfl) pa_nil))) (pa_cons (pe_callB cis (by rfl) T.f_isinstance (by decide +kernel) (pa_cons (pv 0) (pa_cons (pe_glob (v := .ref (He.ga K "TooMany")) (by rfl) (T.g "TooMany" (by decide +kernel)) rfl) pa_nil))) pa_nil))))))
    (pss_one (ps_ret (pe_lcH (p := (a, oe)) (own := [("_law_k", 2)]) (g := gName 2) (tt := tB (tOp (rIxL K) (tVar 1) (tVar 2))) (te := tVar 2) hot (List.mem_singleton.mpr rfl) nd (pi_range1H (by rfl) T.f_range (pa_cons pe_int pa_nil)) (blkOk_by (N := N__law_kinds) (sc := defScope s__law_kinds) (by decide +kernel)) (fun _ _ _ _ _ => pg_name (i := 2) nd rfl (Or.inl rfl)) (fun _ _ _ _ _ => pts_one (pt_val (pe_ix ix_list (pv 1) (pv 2) (fun _ _ => rfl)))) (fun _ _ _ _ _ => pv 2)))))))), ?_⟩
  refine t_is rfl (fun _ h => h) T.ve ?_
  refine t_is rfl (kr _) (T.k "NoCorner" (by decide +kernel) (by decide +kernel)) ?_
  refine t_is rfl (kr _) (T.k "NoSide" (by decide +kernel) (by decide +kernel)) ?_
  refine t_is rfl (kr _) T.kn ?_
  refine ⟨by decide, fun p0 n0 => ?_⟩
  obtain ⟨s0, h0⟩ := kgrow (u := .lst [V.bl true, .bl false, .bl false, .bl true]) (Same.refl H) n0
  generalize upd H p0 _ = H0 at s0 h0 ⊢
  refine ⟨_, rfl, ?_⟩
  refine t_is rfl (kr _) (T.k "NoCode" (by decide +kernel) (by decide +kernel)) ?_
  refine t_is rfl (kr _) (T.k "NoWord" (by decide +kernel) (by decide +kernel)) ?_
  refine t_is rfl (kr _) (T.k "NoCaps" (by decide +kernel) (by decide +kernel)) ?_
  refine t_is rfl (kr _) (T.k "NoLetter" (by decide +kernel) (by decide +kernel)) ?_
  refine ⟨by decide, fun q1 m1 => ?_⟩
  obtain ⟨t1, g1⟩ := kgrow (u := .lst [V.bl false, .bl false, .bl false, .bl false]) s0 m1
  have f1 := kkeep (u := .lst [V.bl false, .bl false, .bl false, .bl false]) h0 m1
  generalize upd H0 q1 _ = G1 at t1 g1 f1 ⊢
  refine ⟨_, _, _, _, rfl, rfl, SqL.of f1, SqL.of g1, by decide, fun p1 n1 => ?_⟩
  obtain ⟨s1, h1⟩ := kgrow (u := .lst ([V.bl true, .bl false, .bl false, .bl true] ++ [V.bl false, .bl false, .bl false, .bl false])) t1 n1
  generalize upd G1 p1 _ = H1 at s1 h1 ⊢
  refine ⟨_, rfl, ?_⟩
  refine t_is rfl (kr _) (T.k "NoSkin" (by decide +kernel) (by decide +kernel)) ?_
  refine t_is rfl (kr _) (T.k "NoDeed" (by decide +kernel) (by decide +kernel)) ?_
  refine t_is rfl (kr _) (T.k "NoPast" (by decide +kernel) (by decide +kernel)) ?_
  refine t_is rfl (kr _) (T.k "Spoilt" (by decide +kernel) (by decide +kernel)) ?_
  refine ⟨by decide, fun q2 m2 => ?_⟩
  obtain ⟨t2, g2⟩ := kgrow (u := .lst [V.bl false, .bl false, .bl false, .bl false]) s1 m2
  have f2 := kkeep (u := .lst [V.bl false, .bl false, .bl false, .bl false]) h1 m2
  generalize upd H1 q2 _ = G2 at t2 g2 f2 ⊢
  refine ⟨_, _, _, _, rfl, rfl, SqL.of f2, SqL.of g2, by decide, fun p2 n2 => ?_⟩
  obtain ⟨s2, h2⟩ := kgrow (u := .lst (([V.bl true, .bl false, .bl false, .bl true] ++ [V.bl false, .bl false, .bl false, .bl false]) ++ [V.bl false, .bl false, .bl false, .bl false])) t2 n2
  generalize upd G2 p2 _ = H2 at s2 h2 ⊢
  refine ⟨_, rfl, ?_⟩
  refine t_is rfl (kr _) (T.k "Taken" (by decide +kernel) (by decide +kernel)) ?_
  refine t_is rfl (kr _) (T.k "Gone" (by decide +kernel) (by decide +kernel)) ?_
  refine t_is rfl (kr _) (T.k "TooMany" (by decide +kernel) (by decide +kernel)) ?_
  refine ⟨by decide, fun q3 m3 => ?_⟩
  obtain ⟨t3, g3⟩ := kgrow (u := .lst [V.bl false, .bl false, .bl false]) s2 m3
  have f3 := kkeep (u := .lst [V.bl false, .bl false, .bl false]) h2 m3
  generalize upd H2 q3 _ = G3 at t3 g3 f3 ⊢
  refine ⟨_, _, _, _, rfl, rfl, SqL.of f3, SqL.of g3, by decide, fun p3 n3 => ?_⟩
  obtain ⟨s3, h3⟩ := kgrow (u := .lst ((([V.bl true, .bl false, .bl false, .bl true] ++ [V.bl false, .bl false, .bl false, .bl false]) ++ [V.bl false, .bl false, .bl false, .bl false]) ++ [V.bl false, .bl false, .bl false])) t3 n3
  generalize upd G3 p3 _ = H3 at s3 h3 ⊢
  refine ⟨15, rfl, by decide, by decide, fun D nD => ?_⟩
  refine lc_range (lo := 0) (n := 15) (fun i H' => H' = upd H3 D (.lst (kacc i))) rfl (fun i H' hi e => ?_) (fun H' e => ?_)
  · subst e
    have hx : H3 p3 ≠ none := by rw [h3]; exact fun z => nomatch z
    have ne : p3 ≠ D := fun z => hx (z ▸ nD)
    refine ⟨rfl, _, rfl, _, rfl, _, _, _, .bl (kbs.getD i false), rfl, rfl, SqL.of ((upd_ne ne).trans h3), ?_, _, rfl, ?_⟩
    · exact katI hi
    · cases hb : kbs.getD i false with
      | true =>
        rw [if_pos rfl]
        refine ⟨_, rfl, _, upd_same, ?_, ?_⟩
        · exact kacc_len hi
        · rw [upd_upd, kacc_succ, hb]
          simp
      | false =>
        rw [if_neg (by simp), kacc_succ, hb]
        simp
  · subst e
    refine q _ D (fun b o e => ?_) ?_ ?_
    · have e3 := s3 b o e
      rw [upd_ne (fun z => by rw [z, nD] at e3; cases e3)]
      exact e3
    · cases hD : H D with
      | none => rfl
      | some o => have := s3 D o hD; rw [nD] at this; cases this
    · rw [upd_same]
      rfl
end
end K51

set_option Elab.async false
set_option linter.all false
set_option autoImplicit false
set_option maxRecDepth 100000
set_option maxHeartbeats 4000000
namespace K51
open PySem PySem.Spec PyProof.Rows PySem.NumText L2 Dl Px
local macro_rules
  | `(tactic| tb_rel) => `(tactic| first
    | with_reducible refine s_forI ?_
    | with_reducible refine s_whileI ?_
    | with_reducible refine s_seq ?_
    | with_reducible refine s_if ?_
    | with_reducible refine s_next ?_
    | with_reducible refine s_brk ?_
    | with_reducible refine s_cont ?_
    | with_reducible refine s_retN ?_
    | with_reducible refine t_test ?_
    | with_reducible refine t_B ?_
    | with_reducible refine t_and ?_
    | with_reducible refine t_or ?_
    | with_reducible refine t_not ?_
    | with_reducible refine e_slL ?_
    | with_reducible refine e_slS ?_
    | with_reducible refine e_op ?_
    | with_reducible refine e_isi2 ?_
    | with_reducible refine e_cb ?_
    | with_reducible refine e_tup ?_
    | with_reducible refine e_lst ?_
    | with_reducible refine e_neg ?_
    | with_reducible refine e_int ?_
    | with_reducible refine e_str ?_
    | with_reducible refine e_bl ?_
    | with_reducible refine e_non ?_
    | with_reducible refine e_dict0 ?_
    | with_reducible refine a_cons ?_
    | with_reducible refine a_nil ?_
    | with_reducible refine o_no ?_
    | with_reducible refine o_so ?_
    | with_reducible refine i_list ?_
    | with_reducible refine i_tup ?_
    | with_reducible refine i_range1 ?_
    | with_reducible refine i_revR1 ?_
    | with_reducible refine i_revL ?_
    | with_reducible refine i_str ?_
    | with_reducible refine i_enum ?_
    | with_reducible refine g_name ?_
    | with_reducible refine gs_cons ?_
    | with_reducible refine gs_nil ?_
    | with_reducible refine o_int ?_
    | with_reducible refine o_bool ?_
    | with_reducible refine o_eqI ?_
    | with_reducible refine o_neI ?_
    | with_reducible refine o_eqS ?_
    | with_reducible refine o_neS ?_
    | with_reducible refine o_isN ?_
    | with_reducible refine o_notN ?_
    | with_reducible refine c_lenL ?_
    | with_reducible refine c_lenT ?_
    | with_reducible refine c_intB ?_
    | with_reducible refine e_andV ?_
    | with_reducible refine e_orV ?_
    | with_reducible refine e_notV ?_
    | with_reducible refine e_ifE ?_
    | with_reducible refine e_bmS ?_
    | with_reducible refine e_fs ?_
    | with_reducible refine e_fmtI ?_
    | with_reducible refine j_cons ?_
    | with_reducible refine j_nil ?_
    | with_reducible refine o_inSg ?_
    | with_reducible refine o_notInSg ?_
    | ((fail_if_success (with_reducible refine s_ret (e_lst ?_))); (fail_if_success (with_reducible refine s_ret (e_callG ?_ ?_))); (with_reducible refine s_ret ?_))
    | ((fail_if_success (with_reducible refine s_set (e_lst ?_))); (fail_if_success (with_reducible refine s_set (e_callG ?_ ?_))); (with_reducible refine s_set ?_))
    | ((with_reducible apply e_var); exact rfl)
    | ((with_reducible apply ga_cell); exact ⟨_, rfl⟩)
    | with_reducible refine ga_cons ?_
    | with_reducible refine ga_nil ?_
    | with_reducible refine e_callG rfl ?_
    | ((with_reducible refine c_lenS ?_ ?_); assumption)
    | ((with_reducible refine g_tup ?_ ?_); exact rfl)
    | with_reducible refine ⟨_, rfl, ?_⟩
    | ((with_reducible refine And.intro ?_ ?_); assumption)
    | ((with_reducible refine And.intro ?_ ?_); exact Nat.le_of_ble_eq_true rfl))
abbrev s__law_read : Stmt := top 34
abbrev N__law_read : List Str := ["_law_text_here", "_law_told", "_law_e"]
theorem sc__law_read : FnScope N__law_read ["_law_text_here"] (defScope s__law_read) := ⟨rfl, rfl, rfl, by decide +kernel, rfl, by decide +kernel, by decide +kernel⟩
abbrev s__law_is_told : Stmt := top 35
abbrev N__law_is_told : List Str := ["_law_found", "_law_due", "_law_one", "_law_thing"]
theorem sc__law_is_told : FnScope N__law_is_told ["_law_found", "_law_due"] (defScope s__law_is_told) := ⟨rfl, rfl, rfl, by decide +kernel, rfl, by decide +kernel, by decide +kernel⟩
abbrev s_law : Stmt := top 36
abbrev N_law : List Str := ["_law_script", "_law_letters_here", "_law_text_here", "_law_handed", "_law_cell", "_law_spoilt_here", "_law_due", "_law_thing"]
theorem sc_law : FnScope N_law ["_law_script"] (defScope s_law) := ⟨rfl, rfl, rfl, by decide +kernel, rfl, by decide +kernel, by decide +kernel⟩
def scO__law_is_told : Scope := match defBody s__law_is_told with
  | [_, .Return (some (.Compare (.ListComp _ _ sc _) _ _ _)) _] => sc
  | _ => defScope s__law_is_told
def ToldR (d : PyData) (ds : List PyData) : Prop := (∃ x ls, d = .str x ∧ Rd x.cps.toList ls ∧ ds = encs ls) ∨ ((∀ x ls, d = .str x → ¬ Rd x.cps.toList ls) ∧ ds = [.int 0, .int 3])
abbrev spTold (K : PySem.W.Frag) : Sp := SpG K (G := PyData) (fun d => [.fz d]) (fun d => ∀ x, d = .str x → TxOk x) (fun d out as' => ∃ ds, ToldR d ds ∧ out = .ret (.new (.lst ds)) ∧ as' = [.fz d])
abbrev spIsTold (K : PySem.W.Frag) : Sp := SpG K (G := List Lt) (fun ls => [.fz (.list (encs ls)), .fz (.list (encs ls))]) (fun ls => (∀ l ∈ ls, l.ok) ∧ ls.length ≤ 5000) (fun ls out as' => out = .ret (.fz (.bool true)) ∧ as' = [.fz (.list (encs ls)), .fz (.list (encs ls))])
abbrev spLaw (K : PySem.W.Frag) : Sp := SpG K (G := List Int) (fun is => [.fz (intsD is)]) (fun is => is.length ≤ 63) (fun is out as' => out = .ret (.fz (.bool true)) ∧ as' = [.fz (intsD is)])
structure Ts (K : PySem.W.Frag) (mg : Str → Option Value) : Prop where
  g_ShapeError : mg "ShapeError" = some (.ref (He.ga K "ShapeError"))
  e_ShapeError : PySem.W.exmOne K (.ref (He.ga K "NoText")) (.ref (He.ga K "ShapeError")) = some true
theorem enc_shp {l : Lt} (h : l.ok) : Shp 1 l.enc ∧ ∃ es, l.enc = .tuple es ∧ es.length ≤ 3 ∧ ∀ d ∈ es, ∀ b, d ≠ .bool b := by
  cases l with
  | p c =>
    have hc : pl c := h
    refine ⟨shp_tuple fun d hd => ?_, _, rfl, by simp, fun d hd b => ?_⟩
    · rw [List.mem_singleton.mp hd]
      refine ⟨?_, Nat.zero_le _⟩
      unfold pl at hc
      rcases hc with rfl | rfl | rfl | rfl <;> decide +kernel
    · rw [List.mem_singleton.mp hd]
      exact fun z => nomatch z
  | s j k =>
    refine ⟨shp_tuple fun d hd => ?_, _, rfl, by simp, fun d hd b => ?_⟩
    · rcases List.mem_cons.mp hd with rfl | hd
      · exact ⟨by decide +kernel, Nat.zero_le _⟩
      · rcases List.mem_cons.mp hd with rfl | hd
        · exact shp_int
        · rw [List.mem_singleton.mp hd]
          exact shp_int
    · rcases List.mem_cons.mp hd with rfl | hd
      · exact fun z => nomatch z
      · rcases List.mem_cons.mp hd with rfl | hd
        · exact fun z => nomatch z
        · rw [List.mem_singleton.mp hd]
          exact fun z => nomatch z
theorem encs_shp {ls : List Lt} (h : ∀ l ∈ ls, l.ok) : SeqAt.shaped (.list (encs ls)) = true := (shp_list fun d hd => by
  obtain ⟨l, hl, rfl⟩ := List.mem_map.mp hd
  exact (enc_shp (h l hl)).1).ok (by decide)
theorem rd_ok {s : List Nat} {ls : List Lt} (h : Rd s ls) : (∀ l ∈ ls, l.ok) ∧ ls.length ≤ s.length := by
  induction h with
  | nil => exact ⟨fun _ h => (nomatch h), Nat.le_refl _⟩
  | p hc _ ih =>
    refine ⟨fun l hl => ?_, by simp; exact ih.2⟩
    rcases List.mem_cons.mp hl with rfl | hl
    · exact hc
    · exact ih.1 l hl
  | s _ _ _ ih =>
    refine ⟨fun l hl => ?_, by have := ih.2; simp; omega⟩
    rcases List.mem_cons.mp hl with rfl | hl
    · trivial
    · exact ih.1 l hl
theorem cutD_len (ds : List PyData) (lo hi : Option Int) : (Dl.cutD ds lo hi).length ≤ ds.length := by
  unfold Dl.cutD
  rw [List.length_take, List.length_drop]
  omega
theorem kit_bool {K : PySem.W.Frag} {d : PyData} (h : ∀ b, d ≠ .bool b) : PySem.W.kitOne K (.type (tyD d)) (.type "bool") = some false := by
  cases d with
  | bool b => exact absurd rfl (h b)
  | none => exact kit_ty (show kitB "NoneType" "bool" = some false by decide +kernel)
  | int _ => exact kit_ty (show kitB "int" "bool" = some false by decide +kernel)
  | str _ => exact kit_ty (show kitB "str" "bool" = some false by decide +kernel)
  | list _ => exact kit_ty (show kitB "list" "bool" = some false by decide +kernel)
  | tuple _ => exact kit_ty (show kitB "tuple" "bool" = some false by decide +kernel)
  | dict _ => exact kit_ty (show kitB "dict" "bool" = some false by decide +kernel)
section
variable {P : Program} {w : World} {K : PySem.W.Frag} {mg : Str → Option Value} {base : Heap}
theorem cl__law_read (T : Ts K mg) (D : Fd K mg "_law_read" s__law_read) (c_read_word : Cl P w K mg base 2 "read_word" (spRead K)) (TK : Ki K mg) (DK : Fd K mg "_law_kinds" s__law_kinds) : Cl P w K mg base 3 "_law_read" (spTold K) := by
  obtain ⟨⟨fdk, FD__law_kinds⟩, M__law_kinds⟩ := DK
  have F__law_kinds : FnE P w K mg base CX0 1 _ fdk ["_law_e"] (spKinds K) := fn_kinds TK FD__law_kinds
  refine mk_clG D sc__law_read (fun _ _ _ _ _ _ us hl => match us, hl with | [_], _ => rfl) (fun _ => rfl) (fun cdv A outer s H E hr => ⟨_, (pss_cons (ps_set (i := 1) sc__law_read.nd rfl (.inl rfl) pe_non)
    (pss_cons (L2N.ps_try_as (i := 2) rfl rfl sc__law_read.nd rfl rfl ⟨rfl, by decide, .inl T.g_ShapeError⟩ tkN (fun W pn xe tk _ => (pss_one (ps_set (i := 1) sc__law_read.nd rfl (.inl rfl) (pe_cl c_read_word hr (by omega) (by rfl) tk (pa_cons (pv 0) pa_nil))))) (fun a oe cls d pn hz hf => (pss_one (ps_set (i := 1) sc__law_read.nd rfl (.inl rfl) (pe_callE hz hf F__law_kinds (hr.mono (by omega)) (by rfl) M__law_kinds FD__law_kinds.kp (FD__law_kinds.bindsN fun _ _ _ _ _ _ us hl => match us, hl with | [_], _ => rfl) (pa_cons (pv 2) pa_nil))))))
    (pss_one (ps_ret (pv 1))))), ?_⟩)
  rintro d vs hd hl Zf Zh zp ee hE hx
  try dsimp only [cxOf]
  match vs, hl with
  | [v0], _ =>
  repeat tb_rel
  refine s_tryAs (K := K) (tb := fun W => tAsg (tCallS (spRead K) (WE W) (tCons (tVar 0) tNil)) (gName 1)) (ts := fun a cls d => tAsg (tCall (spKinds K a cls d) [] (fun _ _ _ => False) (tCons (tVar 2) tNil)) (gName 1)) (Wout := fun _ _ _ _ => False) (fun y Γ' => y = NT ∧ Γ' = [some (.fz d), some (.fz .none), none] ∧ ∀ x ls, d = .str x → ¬ Rd x.cps.toList ls) rfl (fun F0 W hW => ?_) ?_ ?_
  · refine s_setN (n_callG rfl ?_)
    repeat tb_rel
    refine ⟨d, ⟨_, rfl, rfl⟩, .nil, hd, ?_⟩
    rintro out as' ⟨hr1, rfl⟩ _
    rcases hr1 with ⟨x, ls, rfl, ht, rfl⟩ | ⟨no, rfl⟩
    · refine s_retO (o := .lst (encs ls)) rfl ?_
      exact hE.rt (fit_fz fit_nil) ⟨_, .inl ⟨x, ls, rfl, ht, rfl⟩, rfl, rfl⟩
    · exact hW NT _ ⟨rfl, rfl, no⟩
  · rintro y Γ' ⟨rfl, _, _⟩
    exact T.e_ShapeError
  · rintro y Γ' ⟨rfl, rfl, no⟩ F H σ S a ha D hD
    refine suite_ints (ks := [0, 3]) S rfl (by decide) (by simp) ?_ hD fun Q q => ⟨rfl, rfl, rfl, q⟩
    refine s_retO (o := .lst [.int 0, .int 3]) rfl ?_
    exact hE.rt (fit_fz fit_nil) ⟨_, .inr ⟨no, rfl⟩, rfl, rfl⟩
theorem cl__law_is_told (T : Tx K mg) (D : Fd K mg "_law_is_told" s__law_is_told) : Cl P w K mg base 1 "_law_is_told" (spIsTold K) := by
  refine mk_clG D sc__law_is_told (fun _ _ _ _ _ _ us hl => match us, hl with | [_, _], _ => rfl) (fun _ => rfl) (fun cdv A outer s H E hr => ⟨_, (pss_cons (ps_if (PW.pt (pw_or (pt_not (pt_val (pe_callB call_isi (by rfl) T.f_isinstance (by decide +kernel) (pa_cons (pv 0) (pa_cons (pe_bltn (v := .ty "list") (by rfl) T.f_list (by decide +kernel) rfl) pa_nil))))) (pw_or (pt_cmpR (op_neD hr.units) (pv 0) (pv 1) (nomark _)) (pw_or1 (pt_not (pt_val (pe_callB (cr_all rfl) (by rfl) T.f_all (by decide +kernel) (pa_cons (pe_lc (own := [("_law_one", 2)]) (g := gName 2) (tt := tYes) (te := tCB (rIsi K) (tCons (tVar 2) (tCons (tC (.ty "tuple")) tNil))) rfl sc__law_is_told.nd (pi_list (pv 0)) (blkOk_by (N := N__law_is_told) (sc := defScope s__law_is_told) (by decide +kernel)) (fun _ _ _ _ _ => (pg_name (i := 2) sc__law_is_told.nd rfl (Or.inl rfl))) (fun _ _ _ _ _ => pts_nil) (fun _ _ _ _ _ => (pe_callB call_isi (by rfl) T.f_isinstance (by decide +kernel) (pa_cons (pv 2) (pa_cons (pe_bltn (v := .ty "tuple") (by rfl) T.f_tuple (by decide +kernel) rfl) pa_nil))))) pa_nil)))))))) (pss_one (ps_ret pe_bl)) pss_nil)
    (pss_one (ps_ret (pe_cmpR (op_eqD hr.units) (pe_lc (own := [("_law_one", 2)]) (g := gName 2) (tt := tTest (tOp (rIn K false) (tC (.bl true)) (tLc (iTup K (tVar 2)) (gName 3) tYes (tCB (rIsi K) (tCons (tVar 3) (tCons (tC (.ty "bool")) tNil))) [3]))) (te := tVar 2) rfl sc__law_is_told.nd (pi_list (pv 0)) (blkOk_by (N := N__law_is_told) (sc := defScope s__law_is_told) (by decide +kernel)) (fun _ _ _ _ _ => (pg_name (i := 2) sc__law_is_told.nd rfl (Or.inl rfl))) (fun _ _ _ _ _ => (pts_one (pt_cmpR op_in_seq pe_bl (pe_lc (own := [("_law_thing", 3)]) (g := gName 3) (tt := tYes) (te := tCB (rIsi K) (tCons (tVar 3) (tCons (tC (.ty "bool")) tNil))) rfl sc__law_is_told.nd (pi_tup (pv 2)) (blkOk_by (N := N__law_is_told) (sc := scO__law_is_told) (by decide +kernel)) (fun _ _ _ _ _ => (pg_name (i := 3) sc__law_is_told.nd rfl (Or.inl rfl))) (fun _ _ _ _ _ => pts_nil) (fun _ _ _ _ _ => (pe_callB call_isi (by rfl) T.f_isinstance (by decide +kernel) (pa_cons (pv 3) (pa_cons (pe_bltn (v := .ty "bool") (by rfl) T.f_bool (by decide +kernel) rfl) pa_nil))))) (by rfl)))) (fun _ _ _ _ _ => (pv 2))) (pe_lst pa_nil) (nomark _))))), ?_⟩)
  rintro ls vs ⟨hok, h5⟩ hl Zf Zh zp ee hE hx
  try dsimp only [cxOf]
  match vs, hl with
  | [v0, v1], _ =>
  have hsh := encs_shp hok
  have hel : (encs ls).length = ls.length := by simp [encs]
  refine s_seq (s_ifB false ?_ (fun hb => (nomatch hb)) (fun _ => ?_))
  · repeat tb_rel
    refine ⟨fun _ => ?_, fun h => (nomatch h)⟩
    repeat tb_rel
    refine o_neD hsh hsh ?_
    rw [SeqAt.eqv_refl _ (SeqAt.canLay_of_shaped hsh)]
    repeat tb_rel
    refine ⟨fun _ => ?_, fun h => (nomatch h)⟩
    refine t_not (t_B (e_cb (a_cons (e_new (n_lcMap (fun _ => .bool true) (keeps_name (by decide)) (i_list (e_var rfl ⟨_, rfl, ?_, ?_, ?_⟩)))))))
    · omega
    · rintro y d hd
      obtain ⟨l, hl, rfl⟩ := List.mem_map.mp hd
      obtain ⟨es, hes, _⟩ := (enc_shp (hok l hl)).2
      rw [hes]
      repeat tb_rel
      exact ⟨rfl, rfl⟩
    · refine ⟨_, rfl, a_nil ?_⟩
      have e : (encs ls).map (fun _ => PyData.bool true) = ((encs ls).map fun _ => true).map PyData.bool := by simp
      rw [e]
      refine c_all ⟨_, rfl, ?_, rfl⟩
      simp
  · refine s_next (s_ret (e_op (e_new (n_lc (keeps_name (by decide)) (i_list (e_var rfl ⟨_, rfl, by omega, fun i acc Γ' => acc = [] ∧ Γ' = [some (.fz (.list (encs ls))), some (.fz (.list (encs ls))), none, none], ⟨rfl, rfl⟩, ?_, ?_⟩))))))
    · rintro x i d acc Γ' hd ⟨rfl, rfl⟩
      obtain ⟨l, hl, rfl⟩ := List.mem_map.mp (List.mem_of_getElem? hd)
      obtain ⟨es, hes, hl3, hnb⟩ := (enc_shp (hok l hl)).2
      rw [hes]
      refine g_name (t_test (e_op (e_bl (e_new (n_lcMap (fun _ => .bool false) (keeps_name (by decide)) (i_tup (e_var rfl ⟨_, rfl, by omega, ?_, ?_⟩)))))))
      · rintro y d hd
        repeat tb_rel
        refine ⟨_, kit_bool (hnb d hd), ?_⟩
        exact ⟨rfl, rfl⟩
      · refine ⟨_, rfl, o_inL rfl (by simp [flatD]) ⟨_, rfl, fun h => ?_, fun _ => ⟨rfl, rfl⟩⟩⟩
        rw [if_neg (by decide)] at h
        unfold inD at h
        have : inV (flV (.bool true)) ((es.map fun _ => PyData.bool false).map flV) = false := by
          unfold inV
          rw [List.any_eq_false]
          intro v hv
          rw [List.map_map] at hv
          obtain ⟨_, _, rfl⟩ := List.mem_map.mp hv
          simp [flV, eqV]
        rw [this] at h
        cases h
    · rintro acc Γ' ⟨rfl, rfl⟩
      refine ⟨_, rfl, e_lst (a_nil ⟨by decide, ?_⟩)⟩
      refine o_eqD rfl rfl ?_
      refine hE.rt (fit_fz (fit_fz fit_nil)) ⟨?_, rfl⟩
      rw [eqv_nil]
      rfl
theorem fn_law (T : Tx K mg) (c__law_pot : Cl P w K mg base 2 "_law_pot" (spPot K)) (c__law_letters : Cl P w K mg base 2 "_law_letters" (spLetters K)) (c__law_text : Cl P w K mg base 1 "_law_text" (spText K)) (c_show_word : Cl P w K mg base 2 "show_word" (spShowW K)) (c__law_read : Cl P w K mg base 3 "_law_read" (spTold K)) (c__law_is_told : Cl P w K mg base 1 "_law_is_told" (spIsTold K)) (c__law_spoilt : Cl P w K mg base 2 "_law_spoilt" (spSpoilt K)) (c__law_own_reading : Cl P w K mg base 2 "_law_own_reading" (spOwn K)) : ∀ fd, FunD K "law" "law" (defArgs s_law) (defBody s_law) (defScope s_law) [] [] (He.ga K "law") fd → FnOk P w K mg base (L2N.CX P w) 4 (He.ga K "law") fd ["_law_script"] (spLaw K) := by
  refine mk_fnG sc_law (fun _ => rfl) (fun cdv A outer s H E hr => ⟨_, (pss_cons (ps_set (i := 1) sc_law.nd rfl (.inl rfl) (pe_cl c__law_letters hr (by omega) (by rfl) tkN (pa_cons (pe_cl c__law_pot hr (by omega) (by rfl) tkN (pa_cons (pv 0) (pa_cons pe_int pa_nil))) pa_nil)))
    (pss_cons (ps_set (i := 2) sc_law.nd rfl (.inl rfl) (pe_cl c__law_text hr (by omega) (by rfl) tkN (pa_cons (pv 1) pa_nil)))
    (pss_cons (ps_set (i := 3) sc_law.nd rfl (.inl rfl) (pe_callTy call_list_of (by rfl) T.f_list (by decide +kernel) (pa_cons (pv 1) pa_nil)))
    (pss_cons (ps_if (PW.pt (pw_or (pt_cmpR op_ne (pe_cl c_show_word hr (by omega) (by rfl) tkN (pa_cons (pv 3) pa_nil)) (pv 2) (nomark _)) (pw_or (pt_cmpR (op_neD hr.units) (pv 3) (pv 1) (nomark _)) (pw_or1 (pt_not (pt_val (pe_cl c__law_is_told hr (by omega) (by rfl) tkN (pa_cons (pe_cl c__law_read hr (by omega) (by rfl) tkN (pa_cons (pv 2) pa_nil)) (pa_cons (pv 1) pa_nil))))))))) (pss_one (ps_ret pe_bl)) pss_nil)
    (pss_cons (ps_expr (pe_bm PySem.F.plainAttrs_list PySem.F.slot_list_append PySem.F.type_list_append mt_append (pe_cl c__law_read hr (by omega) (by rfl) tkN (pa_cons (pv 2) pa_nil)) (pa_cons (pe_tup (pa_cons pe_str pa_nil)) pa_nil)))
    (pss_cons (ps_for PassesOwn.leaving rfl (pi_list (pe_op op_catS (pe_slice sl_list (pv 0) (po_some pe_int) (po_some pe_int)) (pe_lst (pa_cons pe_int pa_nil)))) (pg_name (i := 4) sc_law.nd rfl (Or.inl rfl)) (pss_cons (ps_set (i := 5) sc_law.nd rfl (.inl rfl) (pe_cl c__law_spoilt hr (by omega) (by rfl) tkN (pa_cons (pv 2) (pa_cons (pv 4) pa_nil))))
    (pss_cons (ps_set (i := 6) sc_law.nd rfl (.inl rfl) (pe_cl c__law_own_reading hr (by omega) (by rfl) tkN (pa_cons (pv 5) pa_nil)))
    (pss_cons (ps_if (PW.pt (pw_or (PW.pt (pw_and (pt_cmpR op_isN (pv 6) pe_non (nomark _)) (pw_and1 (pt_cmpR (op_neD hr.units) (pe_cl c__law_read hr (by omega) (by rfl) tkN (pa_cons (pv 5) pa_nil)) (pe_lst (pa_cons pe_int (pa_cons pe_int pa_nil))) (nomark _))))) (pw_or1 (PW.pt (pw_and (pt_cmpR op_notN (pv 6) pe_non (nomark _)) (pw_and1 (pt_not (pt_val (pe_cl c__law_is_told hr (by omega) (by rfl) tkN (pa_cons (pe_cl c__law_read hr (by omega) (by rfl) tkN (pa_cons (pv 5) pa_nil)) (pa_cons (pv 6) pa_nil))))))))))) (pss_one (ps_ret pe_bl)) pss_nil)
    (pss_cons (ps_set (i := 7) sc_law.nd rfl (.inl rfl) (pe_ix ix_list (pe_lst (pa_cons pe_non (pa_cons pe_int (pa_cons pe_bl (pa_cons (pe_lst (pa_cons pe_str (pa_cons pe_str pa_nil))) (pa_cons (pe_tup (pa_cons pe_str (pa_cons pe_str pa_nil))) (pa_cons pe_dnewK (pa_cons (pv 1) pa_nil)))))))) (pe_op op_mod (pv 4) pe_int) (fun _ _ => rfl)))
    (pss_one (ps_if (pt_cmpR (op_neD hr.units) (pe_cl c__law_read hr (by omega) (by rfl) tkN (pa_cons (pv 7) pa_nil)) (pe_lst (pa_cons pe_int (pa_cons pe_int pa_nil))) (nomark _)) (pss_one (ps_ret pe_bl)) pss_nil)))))))
    (pss_one (ps_ret (pe_and (pe_cmpR op_eq (pe_cl c_show_word hr (by omega) (by rfl) tkN (pa_cons (pe_lst pa_nil) pa_nil)) pe_str (nomark _)) (pe_one (pe_cl c__law_is_told hr (by omega) (by rfl) tkN (pa_cons (pe_cl c__law_read hr (by omega) (by rfl) tkN (pa_cons (pv 2) pa_nil)) (pa_cons (pv 1) pa_nil))))))))))))), ?_⟩)
  rintro is vs his hl Zf Zh zp ee hE hx
  try dsimp only [cxOf]
  match vs, hl with
  | [v0], _ =>
  refine s_seq (s_set (e_callN2 rfl (n_callG rfl ?_)))
  repeat tb_rel
  refine ⟨(is, 0), ⟨_, rfl, _, rfl, rfl⟩, .nil, Nat.zero_le _, ?_⟩
  rintro out as' ⟨pn, ps, hp, rfl, rfl⟩ _
  refine ⟨(pn, ps), rfl, hp, ?_⟩
  rintro out as' ⟨ls, _, _, hs, h16, rfl, rfl⟩ _
  dsimp only [setA]
  have hok : ∀ l ∈ ls, l.ok := fun l hl => (hs l hl).1
  have hsh := encs_shp hok
  have htx : TxOk (mkS (ls.flatMap Lt.txt)) := by
    refine ⟨?_, (nr_txts hs).mono (by decide), as_txts hs⟩
    rw [← len_cps]
    have := txts_len hs
    have h2 : ls.length * 122 ≤ 16 * 122 := Nat.mul_le_mul_right _ h16
    show (ls.flatMap Lt.txt).length ≤ 5000
    omega
  have htl : (mkS (ls.flatMap Lt.txt)).length ≤ 2000 := by
    rw [← len_cps]
    have := txts_len hs
    have h2 : ls.length * 122 ≤ 16 * 122 := Nat.mul_le_mul_right _ h16
    show (ls.flatMap Lt.txt).length ≤ 2000
    omega
  have hrd : Rd (mkS (ls.flatMap Lt.txt)).cps.toList ls := rd_txt hok
  have told : ∀ (x : Str) l2 ds, Rd x.cps.toList l2 → ToldR (.str x) ds → ds = encs l2 := fun x l2 ds h hd => by
    rcases hd with ⟨y, l3, e, hy, rfl⟩ | ⟨no, _⟩
    · injection e with e
      subst e
      rw [h.det hy]
    · exact absurd h (no x l2 rfl)
  have toldN : ∀ (d : PyData) ds, (∀ x l2, d = .str x → ¬ Rd x.cps.toList l2) → ToldR d ds → ds = [.int 0, .int 3] := fun d ds h hd => by
    rcases hd with ⟨y, l3, e, hy, rfl⟩ | ⟨_, rfl⟩
    · exact absurd hy (h y l3 e)
    · rfl
  have preS : ∀ {x : Str}, TxOk x → ∀ y, PyData.str x = .str y → TxOk y := fun h y e => by
    injection e with e
    rw [← e]
    exact h
  generalize htt : mkS (ls.flatMap Lt.txt) = tx at htx htl hrd
  refine s_seq (s_set (e_callG rfl ?_))
  repeat tb_rel
  refine ⟨ls, ⟨_, rfl, rfl⟩, .nil, ⟨hs, h16⟩, ?_⟩
  rintro out as' ⟨rfl, rfl⟩ _
  dsimp only [setA]
  rw [htt]
  refine s_seq (s_set (e_new (n_listOf (e_var rfl ⟨_, rfl, _, rfl, ?_⟩))))
  refine s_seq (s_ifB false ?_ (fun hb => (nomatch hb)) (fun _ => ?_))
  · repeat tb_rel
    refine ⟨ls, ⟨_, rfl, rfl⟩, .nil, ⟨hs, h16⟩, ?_⟩
    rintro out as' ⟨rfl, rfl⟩ _
    dsimp only [setA]
    rw [htt]
    repeat tb_rel
    refine ⟨fun _ => ?_, fun h => by simp at h⟩
    repeat tb_rel
    refine o_neD hsh hsh ?_
    rw [SeqAt.eqv_refl _ (SeqAt.canLay_of_shaped hsh)]
    repeat tb_rel
    refine ⟨fun _ => ?_, fun h => (nomatch h)⟩
    repeat tb_rel
    refine ⟨.str tx, ⟨_, rfl, rfl⟩, .nil, preS htx, ?_⟩
    rintro out as' ⟨ds, hds, rfl, rfl⟩ _
    obtain rfl := told _ _ _ hrd hds
    dsimp only [setA]
    repeat tb_rel
    refine ⟨ls, ⟨_, rfl, _, rfl, rfl⟩, .nil, ⟨hok, by omega⟩, ?_⟩
    rintro out as' ⟨rfl, rfl⟩ _
    dsimp only [setA]
    repeat tb_rel
    first | exact ⟨rfl, rfl⟩ | rfl
  refine s_next (s_seq (s_appN (n_callG rfl ?_)))
  repeat tb_rel
  refine ⟨.str tx, ⟨_, rfl, rfl⟩, .nil, preS htx, ?_⟩
  rintro out as' ⟨ds, hds, rfl, rfl⟩ _
  obtain rfl := told _ _ _ hrd hds
  dsimp only [setA]
  refine ⟨_, rfl, by simp [encs]; omega, fun y => ?_⟩
  repeat tb_rel
  refine o_cat (by have := cutD_len (is.map PyData.int) (some 1) (some 21); rw [List.length_map] at this; show _ + 1 ≤ 100000; omega) ?_
  repeat tb_rel
  have ev03 : PyData.eqv (.list [.int 0, .int 3]) (.list [.int 0, .int 3]) = true := eqv_listI (a := [0, 3]) (b := [0, 3])
  have sh03 : SeqAt.shaped (.list [.int 0, .int 3]) = true := (shp_ints (is := [0, 3])).ok (by decide)
  refine for_by (fun i Γ' => ∃ u4 u5 u6 u7 : Option Ent, Γ' = [some (.fz (intsD is)), some (.fz (.list (encs ls))), some (.fz (.str tx)), some (.fz (.list (encs ls))), u4, u5, u6, u7]) ⟨none, none, none, none, rfl⟩ ?_ ?_
  · rintro i d Γ' hd ⟨u4, u5, u6, u7, rfl⟩
    obtain ⟨c, rfl⟩ : ∃ c, d = .int c := by
      have hm := List.mem_of_getElem? hd
      rcases List.mem_append.mp hm with hm | hm
      · have hm2 := List.mem_of_mem_take hm
        obtain ⟨z, _, rfl⟩ := List.mem_map.mp (List.mem_of_mem_drop hm2)
        exact ⟨z, rfl⟩
      · exact ⟨9, List.mem_singleton.mp hm⟩
    refine g_name (s_seq (s_set (e_callG rfl ?_)))
    repeat tb_rel
    refine ⟨(tx, c), ⟨_, rfl, _, rfl, rfl⟩, .nil, ⟨htl, by rw [← htt]; exact nr_txts hs, by rw [← htt]; exact as_txts hs⟩, ?_⟩
    rintro out as' ⟨y, hy, rfl, rfl⟩ _
    dsimp only [setA]
    refine s_seq (s_set (e_callG rfl ?_))
    repeat tb_rel
    refine ⟨y, ⟨_, rfl, rfl⟩, .nil, hy, ?_⟩
    rintro out as' ⟨hr1, rfl⟩ _
    have m0 : 0 ≤ c % 7 := Int.emod_nonneg _ (by decide)
    have m1 : c % 7 < 7 := Int.emod_lt_of_pos _ (by decide)
    obtain ⟨j, hj⟩ : ∃ j : Nat, c % 7 = (j : Nat) := ⟨_, (Int.toNat_of_nonneg m0).symm⟩
    have hj7 : j < 7 := by omega
    obtain ⟨L, hL⟩ : ∃ L, L = [PyData.none, .int 7, .bool true, .list [.str (Str.ofString "C"), .str (Str.ofString "E")], .tuple [.str (Str.ofString "C"), .str (Str.ofString "E")], .dict [], .list (encs ls)] := ⟨_, rfl⟩
    obtain ⟨d, hd, hns⟩ : ∃ d, L[j]? = some d ∧ ∀ x, d ≠ .str x := by
      subst hL
      match j, hj7 with
      | 0, _ => exact ⟨_, rfl, fun _ z => nomatch z⟩
      | 1, _ => exact ⟨_, rfl, fun _ z => nomatch z⟩
      | 2, _ => exact ⟨_, rfl, fun _ z => nomatch z⟩
      | 3, _ => exact ⟨_, rfl, fun _ z => nomatch z⟩
      | 4, _ => exact ⟨_, rfl, fun _ z => nomatch z⟩
      | 5, _ => exact ⟨_, rfl, fun _ z => nomatch z⟩
      | 6, _ => exact ⟨_, rfl, fun _ z => nomatch z⟩
    have last : ∀ u6 : Option Ent, Sd ⟨K, Zf, Zh, zp, []⟩ (tSeq (tAsg (tOp (rIxL K) (tLst (tCons (tC V.non) (tCons (tC (V.int 7)) (tCons (tC (V.bl true)) (tCons (tLst (tCons (tC (V.str (Str.ofString "C"))) (tCons (tC (V.str (Str.ofString "E"))) tNil))) (tCons (tTup (tCons (tC (V.str (Str.ofString "C"))) (tCons (tC (V.str (Str.ofString "E"))) tNil))) (tCons tDNewK (tCons (tVar 1) tNil)))))))) (tOp (rI (fun x j => 0 < j) fun i j => V.int (i % j)) (tVar 4) (tC (V.int 7)))) (gName 7))
        (tIfS (tTest (tOp (rNeD K) (tCallS (spTold K) (WE fun x x_1 x_2 x_3 => False) (tCons (tVar 7) tNil)) (tLst (tCons (tC (V.int 0)) (tCons (tC (V.int 3)) tNil))))) (tRet (tC (V.bl false))) tNext))
        [some (.fz (intsD is)), some (.fz (.list (encs ls))), some (.fz (.str tx)), some (.fz (.list (encs ls))), some (.fz (.int c)), some (.fz (.str y)), u6, u7] { nx := fun Γ' => ∃ u4 u5 u6 u7 : Option Ent, Γ' = [some (.fz (intsD is)), some (.fz (.list (encs ls))), some (.fz (.str tx)), some (.fz (.list (encs ls))), u4, u5, u6, u7], rt := ee.rt, bk := fun _ => False, ct := fun _ => False } := fun u6 => by
      refine s_seq (s_set (e_op (e_lst ?_)))
      repeat tb_rel
      refine o_intC (by decide) ?_
      rw [hj, ← hL]
      refine o_ixL (d := d) (atI_nat hd) ?_
      refine s_ifB false ?_ (fun hb => (nomatch hb)) (fun _ => s_next ⟨_, _, _, _, rfl⟩)
      repeat tb_rel
      refine ⟨d, ⟨_, rfl, rfl⟩, .nil, fun x e => absurd e (hns x), ?_⟩
      rintro out as' ⟨ds, hds, rfl, rfl⟩ _
      obtain rfl := toldN _ _ (fun x _ e => absurd e (hns x)) hds
      dsimp only [setA]
      repeat tb_rel
      refine o_neD sh03 sh03 ?_
      rw [ev03]
      exact ⟨_, rfl, rfl, rfl⟩
    have fin : ∀ {u : TS} {Γ : Gm} {bk ct : Gm → Prop}, Sd ⟨K, Zf, Zh, zp, []⟩ u Γ { nx := fun Γ' => ∃ u4 u5 u6 u7 : Option Ent, Γ' = [some (.fz (intsD is)), some (.fz (.list (encs ls))), some (.fz (.str tx)), some (.fz (.list (encs ls))), u4, u5, u6, u7], rt := ee.rt, bk := fun _ => False, ct := fun _ => False } → Sd ⟨K, Zf, Zh, zp, []⟩ u Γ { nx := fun Γ' => ∃ u4 u5 u6 u7 : Option Ent, Γ' = [some (.fz (intsD is)), some (.fz (.list (encs ls))), some (.fz (.str tx)), some (.fz (.list (encs ls))), u4, u5, u6, u7], rt := ee.rt, bk := bk, ct := ct } := fun h => h.imp (fun _ h => h) (fun _ _ h => h) (fun _ h => h.elim) (fun _ h => h.elim)
    rcases hr1 with ⟨l2, hl2, rfl⟩ | ⟨no, rfl⟩
    · dsimp only [setA]
      refine s_seq (s_ifB false ?_ (fun hb => (nomatch hb)) (fun _ => s_next (fin (last _))))
      repeat tb_rel
      refine ⟨fun h => (nomatch h), fun _ => ⟨fun _ => ?_, fun h => (nomatch h)⟩⟩
      repeat tb_rel
      refine ⟨fun _ => ?_, fun h => (nomatch h)⟩
      repeat tb_rel
      refine ⟨.str y, ⟨_, rfl, rfl⟩, .nil, preS hy, ?_⟩
      rintro out as' ⟨ds, hds, rfl, rfl⟩ _
      obtain rfl := told _ _ _ hl2 hds
      dsimp only [setA]
      repeat tb_rel
      have hok2 := rd_ok hl2
      have hy5 := hy.1
      rw [len_cps] at hok2
      refine ⟨l2, ⟨_, rfl, _, rfl, rfl⟩, .nil, ⟨hok2.1, by omega⟩, ?_⟩
      rintro out as' ⟨rfl, rfl⟩ _
      dsimp only [setA]
      repeat tb_rel
      first | exact ⟨rfl, rfl⟩ | rfl
    · dsimp only [setA]
      refine s_seq (s_ifB false ?_ (fun hb => (nomatch hb)) (fun _ => s_next (fin (last _))))
      repeat tb_rel
      refine ⟨fun _ => ?_, fun h => (nomatch h)⟩
      repeat tb_rel
      refine ⟨.str y, ⟨_, rfl, rfl⟩, .nil, preS hy, ?_⟩
      rintro out as' ⟨ds, hds, rfl, rfl⟩ _
      obtain rfl := toldN _ _ (fun x l3 e => by injection e with e; subst e; exact no l3) hds
      dsimp only [setA]
      repeat tb_rel
      refine o_neD sh03 sh03 ?_
      rw [ev03]
      repeat tb_rel
      refine ⟨fun _ => ?_, fun h => (nomatch h)⟩
      repeat tb_rel
      refine ⟨fun h => (nomatch h), fun _ => ?_⟩
      first | exact ⟨rfl, rfl⟩ | rfl
  · rintro Γ' ⟨u4, u5, u6, u7, rfl⟩
    refine s_ret ?_
    repeat tb_rel
    refine ⟨[], ⟨_, rfl, rfl⟩, .nil, ⟨fun _ h => (nomatch h), by decide⟩, ?_⟩
    rintro out as' ⟨rfl, rfl⟩ _
    dsimp only [setA]
    repeat tb_rel
    refine ⟨fun _ => ?_, fun h => by simp [sN] at h⟩
    repeat tb_rel
    refine ⟨.str tx, ⟨_, rfl, rfl⟩, .nil, preS htx, ?_⟩
    rintro out as' ⟨ds, hds, rfl, rfl⟩ _
    obtain rfl := told _ _ _ hrd hds
    dsimp only [setA]
    repeat tb_rel
    refine ⟨ls, ⟨_, rfl, _, rfl, rfl⟩, .nil, ⟨hok, by omega⟩, ?_⟩
    rintro out as' ⟨rfl, rfl⟩ _
    dsimp only [setA]
    exact hE.rt (fit_fz fit_nil) ⟨rfl, rfl⟩
end
end K51

set_option Elab.async false
set_option linter.all false
set_option maxRecDepth 100000
set_option maxHeartbeats 0
namespace K51
open PySem PySem.Spec PyProof.Rows L2 Dl
def mkD (x : Str) (i : Nat) : He.DefD := ⟨(x, none), x, x, defArgs (top i), defBody (top i), defScope (top i), [], []⟩
def dfs : List (Str × Nat) := [("show_letter", 19), ("show_word", 20), ("figures_from", 21), ("read_word", 22), ("_law_at", 24), ("_law_pot", 25), ("_law_digit", 26), ("_law_kinds", 27), ("_law_letters", 28), ("_law_text", 29), ("_law_figures", 30), ("_law_own_reading", 31), ("_law_string", 32), ("_law_spoilt", 33), ("_law_read", 34), ("_law_is_told", 35), ("law", 36)]
def fn : List He.DefD := dfs.map fun p => mkD p.1 p.2
def frees : List Str := ["len", "int", "str", "list", "tuple", "isinstance", "all", "range", "bool", "ValueError"]
def fa : List He.Fa := [.str "ALONE" "CRLE", .str "FIGURES" "0123456789", .exc "NoText", .exm "NoText" "ShapeError" true, .glo "ShapeError"] ++ (frees.map He.Fa.free ++ (dfs.map (fun p => He.Fa.glo p.1) ++ kindsOf.map He.Fa.glo))
def exB (K : PySem.W.Frag) (D : Addr) : List Bool := [
  He.eqO (PySem.W.findIn K (.ref D) "__getattribute__") (some (some (.builtin "BaseException.__getattribute__"))),
  He.eqO (PySem.W.findIn K (.ref D) "__getattr__") (some none),
  decide (PySem.W.subIn K (.ref D) (.type "BaseException") = some true),
  PySem.W.hasDictIn K D,
  He.eqO (PySem.W.findIn K (.ref D) "__class__") (some (some (.builtin "object.__class__"))),
  He.eqO (PySem.W.specialIn K (.builtin "object.__class__") "__get__") (some (some (.builtin "getset_descriptor.__get__"))),
  decide (PySem.W.takesIn K (.builtin "object.__class__") = some true),
  decide (PySem.W.mroIn K D (.type "object") = some true),
  decide (PySem.W.kitOne K (.ref D) (.type "ValueError") = some true),
  decide (PySem.W.kitOne K (.ref D) (.ref D) = some true),
  kindsOf.all fun x => decide (x = "NoText") || decide (PySem.W.kitOne K (.ref D) (.ref (He.ga K x)) = some false)]
def ex (K : PySem.W.Frag) : Bool := (exB K (He.ga K "NoText")).all id
abbrev R : PySem.W.OpenRow := PySem.W.OpenLaw.row PySem.Challenge.rw_shapestring_k51_words_as_texts
abbrev hk : PySem.W.Hook := He.hookX 5 fa fn [] [] ex
def ob (s : PySem.W.SharedT) : He.AlX := He.obsX 5 fa fn [] [] ex (HandSHeadRun.getT s)
theorem ob_eq (s : PySem.W.SharedT) : ob s = hk.obs s.abs := He.obsX_eq (HandSHeadRun.getT_eq s)
def loose : List PySem.Str := (["ShapeError", "TooMany", "NoText", "NoCorner", "NoSide", "NoLetter", "NoCaps", "NoCode", "NoDeed", "Taken", "Gone", "NoPast", "NoSkin", "Spoilt", "NoWord", "ALONE", "FIGURES", "show_letter"] : List PySem.Str) ++ (["show_word", "figures_from", "read_word", "_law_at", "_law_pot", "_law_digit", "_law_kinds", "_law_letters", "_law_text", "_law_figures", "_law_own_reading", "_law_string", "_law_spoilt", "_law_read", "_law_is_told"] : List PySem.Str)
theorem runH (w : World) : HandSHeadRun.RunEq R (PySem.W.view R.prog [36]) hk ob 4000 loose w := by
  intro os
  kernel_rfl
end K51

set_option Elab.async false
set_option linter.all false
set_option maxRecDepth 100000
set_option maxHeartbeats 0
namespace K51
open PySem PySem.Spec PyProof.Rows L2 Dl
section
variable {P : Program} {w : World} {K : PySem.W.Frag} {h : Heap} {mg : Str → Option Value}
theorem fact_in (c : He.SaysD fa fn K) {f : He.Fa} (hm : f ∈ fa) : f.ok K = true := c.facts hm
theorem free_in (X : K.In h) (G : h.Ns mainGlobals mg) (c : He.SaysD fa fn K) {x : Str} (hm : x ∈ frees) : mg x = none :=
  He.free_ok X G (c.facts (List.mem_append_right _ (List.mem_append_left _ (List.mem_map.mpr ⟨x, hm, rfl⟩))))
theorem kind_in (X : K.In h) (G : h.Ns mainGlobals mg) (c : He.SaysD fa fn K) {x : Str} (hm : x ∈ kindsOf) : mg x = some (.ref (He.ga K x)) :=
  He.glo_ok X G (c.facts (List.mem_append_right _ (List.mem_append_right _ (List.mem_append_right _ (List.mem_map.mpr ⟨x, hm, rfl⟩)))))
theorem def_in (X : K.In h) (G : h.Ns mainGlobals mg) (c : He.SaysD fa fn K) {x : Str} {i : Nat} (hm : (x, i) ∈ dfs) : Fd K mg x (top i) :=
  ⟨c.defs (d := mkD x i) (List.mem_map.mpr ⟨(x, i), hm, rfl⟩), He.glo_ok X G (c.facts (List.mem_append_right _ (List.mem_append_right _ (List.mem_append_left _ (List.mem_map.mpr ⟨(x, i), hm, rfl⟩)))))⟩
theorem tx_of (X : K.In h) (G : h.Ns mainGlobals mg) (c : He.SaysD fa fn K) : Tx K mg := by
  have fr : ∀ {x : Str}, x ∈ frees → mg x = none := fun hm => free_in X G c hm
  obtain ⟨e1, e2, e3, e4⟩ := He.exc_ok (c.facts (f := .exc "NoText") (List.mem_append_left _ (.tail _ (.tail _ (.head _)))))
  exact ⟨fr (by decide +kernel), fr (by decide +kernel), fr (by decide +kernel), fr (by decide +kernel), fr (by decide +kernel), fr (by decide +kernel), fr (by decide +kernel), fr (by decide +kernel), fr (by decide +kernel),
    He.str_ok X G (c.facts (f := .str "ALONE" "CRLE") (List.mem_append_left _ (.head _))), He.str_ok X G (c.facts (f := .str "FIGURES" "0123456789") (List.mem_append_left _ (.tail _ (.head _)))), kind_in X G c (by decide +kernel), e1, e2, e3, e4⟩
theorem ki_of (X : K.In h) (G : h.Ns mainGlobals mg) (c : He.SaysD fa fn K) (hx : ex K = true) : Ki K mg := by
  have al := List.all_eq_true.mp hx
  have g : ∀ (i : Nat) {b : Bool}, (exB K (He.ga K "NoText"))[i]? = some b → b = true := fun i b e => al b (List.mem_of_getElem? e)
  have g10 := g 10 rfl
  refine ⟨⟨He.eqO_ok (g 0 rfl), He.eqO_ok (g 1 rfl), of_decide_eq_true (g 2 rfl), g 3 rfl, He.eqO_ok (g 4 rfl), He.eqO_ok (g 5 rfl), of_decide_eq_true (g 6 rfl), of_decide_eq_true (g 7 rfl)⟩, of_decide_eq_true (g 8 rfl), fun x hm hn => ?_, of_decide_eq_true (g 9 rfl), fun x hm => kind_in X G c hm, free_in X G c (by decide +kernel), free_in X G c (by decide +kernel), free_in X G c (by decide +kernel)⟩
  have := List.all_eq_true.mp g10 x hm
  rcases Bool.or_eq_true_iff.mp this with z | z
  · exact absurd (of_decide_eq_true z) hn
  · exact of_decide_eq_true z
theorem ts_of (X : K.In h) (G : h.Ns mainGlobals mg) (c : He.SaysD fa fn K) : Ts K mg :=
  ⟨He.glo_ok X G (c.facts (f := .glo "ShapeError") (List.mem_append_left _ (.tail _ (.tail _ (.tail _ (.tail _ (.head _))))))), He.exm_ok (c.facts (f := .exm "NoText" "ShapeError" true) (List.mem_append_left _ (.tail _ (.tail _ (.tail _ (.head _))))))⟩
theorem all_of (X : K.In h) (G : h.Ns mainGlobals mg) (c : He.SaysD fa fn K) (hx : ex K = true) (base : Heap) : ∀ fd, FunD K "law" "law" (defArgs s_law) (defBody s_law) (defScope s_law) [] [] (He.ga K "law") fd → FnOk P w K mg base (L2N.CX P w) 4 (He.ga K "law") fd ["_law_script"] (spLaw K) := by
  have T := tx_of X G c
  have TS := ts_of X G c
  have TK := ki_of X G c hx
  have d : ∀ {x : Str} {i : Nat}, (x, i) ∈ dfs → Fd K mg x (top i) := fun hm => def_in X G c hm
  have c1 : Cl P w K mg base 1 "_law_at" (spAt K) := cl__law_at T (d (by decide +kernel))
  have c2 := cl__law_pot T (d (by decide +kernel)) c1
  have c3 : Cl P w K mg base 1 "_law_digit" (spDigit K) := cl__law_digit T (d (by decide +kernel))
  have c4 : Cl P w K mg base 1 "_law_string" (spString K) := cl__law_string T (d (by decide +kernel))
  have c5 : Cl P w K mg base 1 "show_letter" (spShowL K) := cl_show_letter T (d (by decide +kernel))
  have c6 := cl_show_word T (d (by decide +kernel)) c5
  have c7 : Cl P w K mg base 1 "figures_from" (spFigs K) := cl_figures_from T (d (by decide +kernel))
  have c8 := cl_read_word T (d (by decide +kernel)) c7
  have c9 := cl__law_letters T (d (by decide +kernel)) c3
  have c10 : Cl P w K mg base 1 "_law_text" (spText K) := cl__law_text T (d (by decide +kernel))
  have c11 : Cl P w K mg base 1 "_law_figures" (spFigures K) := cl__law_figures T (d (by decide +kernel))
  have c12 := cl__law_own_reading T (d (by decide +kernel)) c11
  have c13 := cl__law_spoilt T (d (by decide +kernel)) c4
  have c14 := cl__law_read TS (d (by decide +kernel)) c8 TK (d (by decide +kernel))
  have c15 : Cl P w K mg base 1 "_law_is_told" (spIsTold K) := cl__law_is_told T (d (by decide +kernel))
  exact fn_law T c2 c9 c10 c6 c14 c15 c13 c12
theorem to0 {base : Heap} {k : Nat} {f : Addr} {fd : FuncData} {ps : List Str} {sp : Sp} (F : FnOk P w K mg base (L2N.CX P w) k f fd ps sp) (hs : ∀ vs H Q E, sp vs H Q E → sp vs H Q fun _ _ _ => False) : FnOk P w K mg base CX0 k f fd ps sp := by
  refine ⟨F.len, fun A outer s H args us vs Q E hr e0 hb r h => ?_⟩
  refine codeAny_mono (F.run A outer s H args us vs Q (fun _ _ _ => False) hr e0 hb r (hs vs H Q E h)) fun rs s' hq => ?_
  cases rs with
  | error e =>
    obtain ⟨_, _, _, _, _, _, _, _, _, _, _, _, z⟩ := (show L2N.CX P w outer H s (fun _ _ _ => False) e s' from hq)
    exact z.elim
  | ok fl => cases fl <;> exact hq
theorem facts {f : Addr} (X : K.In h) (G : h.Ns mainGlobals mg) (hfa : mg ("law" : Str) = some (.ref f)) (c : He.SaysD fa fn K) (hx : ex K = true) :
    ∃ fd : FuncData, (∀ (s : Shared) (v : Value), BindsTo s fd ⟨[v], []⟩ [("_law_script", v)]) ∧ ∀ base : Heap, FnOk P w K mg base CX0 4 f fd ["_law_script"] (spLaw K) := by
  obtain ⟨⟨fd, FD⟩, g0⟩ := def_in X G c (x := "law") (i := 36) (by decide +kernel)
  have e := hfa.symm.trans g0
  cases e
  have b := FunD.bindsA (ps := ["_law_script"]) FD fun _ _ _ _ _ _ us hl => match us, hl with | [_], _ => rfl
  refine ⟨fd, fun s v => b s [v] rfl, fun base => to0 (all_of X G c hx base fd FD) fun vs H Q E h => ?_⟩
  obtain ⟨g, hg, F, as, h1, h2, h3, h4, h5⟩ := h
  refine ⟨g, hg, F, as, h1, h2, h3, h4, fun out as' hr sh F' H' st hp => ?_⟩
  have h6 := h5 out as' hr sh F' H' st hp
  obtain ⟨rfl, rfl⟩ := hr
  exact h6
end
end K51
open PySem PySem.W PySem.Calls PyProof.Rows
theorem PySem.Challenge.cw_shapestring_k51_words_as_texts_holds : PySem.Challenge.rw_shapestring_k51_words_as_texts.Holds := by
  w_on; o_law
  refine HandSHeadRun.head_any (r := OpenLaw.row PySem.Challenge.rw_shapestring_k51_words_as_texts) (q := view (OpenLaw.row PySem.Challenge.rw_shapestring_k51_words_as_texts).prog [36]) (H := K51.hk) (ob := K51.ob) (M := 4000) (loose := K51.loose) (d := HandSHeadRun.topDef (OpenLaw.row PySem.Challenge.rw_shapestring_k51_words_as_texts).prog 36) (kwd := []) K51.ob_eq
    (by kernel_rfl) (fun s => by kernel_rfl) K51.runH (by kernel_rfl) (by kernel_rfl) (by kernel_rfl) (by rfl) (by first | assumption | decide +kernel) (by decide +kernel) ⟨rfl, rfl, rfl, rfl, rfl, by decide +kernel⟩ ?hw ?hc
  case hw => w_witness2
  case hc =>
    refine L2.walk_ofE (l := PySem.Challenge.rw_shapestring_k51_words_as_texts) (n := 63) (k := 4) (x := "_law_script") (CX := L2.CX0) rfl (by decide) (by kernel_rfl) ⟨rfl, by decide, by decide⟩ ?F (fun _ _ _ _ z => z)
    intro w mg fa h Y G hmg0
    obtain ⟨K, KX, c⟩ := Y
    have hmg : mg ("law" : PySem.Str) = some (.ref fa) := by
      have e : (HandSHeadRun.topDef (OpenLaw.row PySem.Challenge.rw_shapestring_k51_words_as_texts).prog 36).name = ("law" : PySem.Str) := by kernel_rfl
      rw [← e]
      exact hmg0
    obtain ⟨fd, hb, hF⟩ := K51.facts (P := (PySem.Challenge.rw_shapestring_k51_words_as_texts).prog) (w := w) KX G hmg c.t.d c.more
    refine ⟨K, fd, K51.spLaw K, KX, hb, fun H a ns hl _ hS => ?_, fun base _ _ => hF base⟩
    refine ⟨ns, hl, H, [.fz (K51.intsD ns)], fun _ _ h => h, .cons (.lst hS Dl.dpa_ints) .nil, .nil, rfl, fun out as' hr sh F' H' st hp => ?_⟩
    obtain ⟨rfl, rfl⟩ := hr
    intro v hv
    cases hv
    rfl
