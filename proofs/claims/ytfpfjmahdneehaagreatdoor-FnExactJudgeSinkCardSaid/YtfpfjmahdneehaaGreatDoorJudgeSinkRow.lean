/- FnExactJudgeSink: for every input the law answers true, and its argument reads as before; the listed tables are tied to the program's text. -/
import Derived.Test.YtfpfjmahdneehaaGreatDoorJudgeSinkLaw
import Derived.Test.YtfpfjmahdneehaaGreatDoorJudgeSinkFacts
import Derived.Test.YtfpfjmahdneehaaGreatDoorEv4
import Derived.Test.YtfpfjmahdneehaaGreatDoorEv5
import Derived.Test.YtfpfjmahdneehaaGreatDoorLib
import Derived.Test.YtfpfjmahdneehaaGreatDoorRows
import Derived.Test.YtfpfjmahdneehaaGreatDoorCards
import Derived.Test.YtfpfjmahdneehaaGreatDoorTie
import Derived.ProofKit
import Derived.Lay
import Derived.MakeChecks
import Derived.SevenTiedAt
import Derived.LaidLaws
import Derived.Handed
import Derived.Carry
namespace Go.Proofs.YtfpfjmahdneehaaGreatDoor
open Go Go.Ev Go.Shelf Go.ChangeShapes Go.WideShapes Go.ChangeAt Go.RowKit Go.Proofs.Tryz
theorem mix:prog.follows .mixedOrders=true:=by kernel_rfl
theorem own:ownKnob prog.godebug=none:=by kernel_rfl
theorem laidOut:laidOutB prog=true:=by kernel_rfl
theorem aEP {gl:bD}: ∀p,EA.bW=some p→ ∀ds r,p ds=some r→cV prog gl EA ds r:=by
 intro p hp ds r h;have e:p=primIndexByte:=(Option.some.inj hp).symm;subst e;exact Yl (fun s c w=>Any.strings_IndexByte Tryz.aEm s c w) ds r h
theorem aEQ {gl:bD} (hm:gl.some64 0): ∀p,EB.bW=some p→ ∀ds r,p ds=some r→cV prog gl EB ds r:=by
 intro p hp ds r h;have e:p=primContainsG:=(Option.some.inj hp).symm;subst e;exact Zh hm (fun s c w=>Any.strings_Contains_one Tryz.VV s c w) (fun s t m w b hm=>Any.strings_Contains Tryz.VV s t m w b hm) ds r h
theorem aER {gl:bD}: ∀p,EC.bW=some p→ ∀ds r,p ds=some r→cV prog gl EC ds r:=by
 intro p hp ds r h;have e:p=primAtoi:=(Option.some.inj hp).symm;subst e;exact Yn (fun s n b d w=>Any.strconv_Atoi Tryz.aEp s n b d w) ds r h
theorem aES {gl:bD}: ∀p,ED.bW=some p→ ∀ds r,p ds=some r→cV prog gl ED ds r:=by
 intro p hp ds r h;have e:p=primCompare:=(Option.some.inj hp).symm;subst e;exact Ym (fun a b w=>Any.strings_Compare Tryz.aEr a b w) ds r h
theorem aET {gl:bD}: ∀p,EE.bW=some p→ ∀ds r,p ds=some r→cV prog gl EE ds r:=by
 intro p hp ds r h;have e:p=gG aK:=(Option.some.inj hp).symm;subst e;exact clone204 ds r h
theorem aEU {gl:bD}: ∀p,EF.bW=some p→ ∀ds r,p ds=some r→cV prog gl EF ds r:=by
 intro p hp ds r h;have e:p=gG bN:=(Option.some.inj hp).symm;subst e;exact clone205 ds r h
theorem aEV {gl:bD} (d:gl.has prog "internal/strconv.uint64pow10" .u64 Lib.pow10Tab): ∀p,EG.bW=some p→ ∀ds r,p ds=some r→cV prog gl EG ds r:=by
 intro p hp ds r h;have e:p=primItoa:=(Option.some.inj hp).symm;subst e;exact Yf d (fun n f g w b=>Any.strconv_Itoa Tryz.aEw n f g w b) ds r h
theorem aEW {gl:bD}: ∀p,EH.bW=some p→ ∀ds r,p ds=some r→cV prog gl EH ds r:=by
 intro p hp ds r h;have e:p=rF bN:=(Option.some.inj hp).symm;subst e;exact Zu (ts:=ak bN) rfl (by decide) rfl (fun _ _ _=>rfl) aEC ds r h
theorem aEX {gl:bD} (_:gl.some64 0): ∀p,EI.bW=some p→ ∀ds r,p ds=some r→cV prog gl EI ds r:=by
 intro p hp ds r h;have e:p=ui bN:=(Option.some.inj hp).symm;subst e;exact Zs (ts:=ak bN) rfl (fun _ _ _=>rfl) (fun aN n cap i j cur ty frz w f g k b hm d hj m=>aED aN n cap i j cur ty frz w f g k b hm d hj m) (fun a n cap i w hi b hm q=>delE283 a n cap i w hi b hm q) ds r h
theorem aEY {gl:bD} (hm:gl.some64 0): ∀p,EJ.bW=some p→ ∀ds r,p ds=some r→cV prog gl EJ ds r:=by
 intro p hp ds r h;have e:p=primFields:=(Option.some.inj hp).symm;subst e;exact Zn hm (fun s m w b hm=>aEH s m w b hm) ds r h
theorem aEZ {gl:bD}: ∀p,EK.bW=some p→ ∀ds r,p ds=some r→cV prog gl EK ds r:=by
 intro p hp ds r h;have e:p=primSortI:=(Option.some.inj hp).symm;subst e;exact Zm (fun aN cap zs w b d f=>AnyM.slices_Sort_int Tryz.VZ aN 0 cap zs w b d f) (fun p cap w=>AnyM.slices_Sort_int_none Tryz.VZ p cap w) ds r h
theorem aFa {gl:bD} (hm:gl.some64 0): ∀p,EL.bW=some p→ ∀ds r,p ds=some r→cV prog gl EL ds r:=by
 intro p hp ds r h;have e:p=primIndex:=(Option.some.inj hp).symm;subst e;exact Zf hm (fun s t m w b hm=>Any.strings_Index Tryz.aEK s t m w b hm) ds r h
theorem aFb {gl:bD}: ∀p,EM.bW=some p→ ∀ds r,p ds=some r→cV prog gl EM ds r:=by
 intro p hp ds r h;have e:p=primMul64:=(Option.some.inj hp).symm;subst e;exact Ze (fun x y w b hy=>Any.bits_Mul64 Tryz.aEM x y b hy w) ds r h
theorem aFc {gl:bD}: ∀p,EN.bW=some p→ ∀ds r,p ds=some r→cV prog gl EN ds r:=by
 intro p hp ds r h;have e:p=gG bf:=(Option.some.inj hp).symm;subst e;exact clone174 ds r h
theorem aFd {gl:bD}:dq prog gl EO:=dq.all (by kernel_rfl)
theorem aFe {gl:bD}:dq prog gl EP:=dq.all (by kernel_rfl)
theorem aFf {gl:bD}:dq prog gl ER:=dq.all (by kernel_rfl)
theorem aFg {gl:bD}:dq prog gl ES:=dq.all (by kernel_rfl)
theorem aFh {gl:bD} (_:gl.has prog "internal/strconv.uint64pow10" .u64 Lib.pow10Tab) (_:gl.some64 0):dq prog gl ET:=.no rfl (.no rfl (.no rfl (.no rfl (.no rfl (.no rfl (.no rfl (.no rfl (.no rfl (.no rfl (.no rfl (.no rfl (.no rfl (.no rfl (.no rfl (.no rfl (.no rfl (.no rfl (.no rfl (.no rfl (.no rfl (.no rfl (.no rfl (.no rfl (.no rfl (.no rfl (.no rfl (.no rfl (.no rfl (.no rfl (.no rfl (.no rfl (.cons aEP (dq.all (by kernel_rfl))))))))))))))))))))))))))))))))))
theorem aFi {gl:bD} (_:gl.has prog "internal/strconv.uint64pow10" .u64 Lib.pow10Tab) (hm:gl.some64 0):dq prog gl EU:=.no rfl (.no rfl (.no rfl (.no rfl (.cons (aEQ hm) (.no rfl (.no rfl (.no rfl (.no rfl (.no rfl (.no rfl (.no rfl (.no rfl (.no rfl (.no rfl (.no rfl (.no rfl (.cons aER (.no rfl (.no rfl (.no rfl (.no rfl (.cons aES (dq.all (by kernel_rfl))))))))))))))))))))))))
theorem aFj {gl:bD} (b:gl.has prog "internal/strconv.uint64pow10" .u64 Lib.pow10Tab) (hm:gl.some64 0):dq prog gl EV:=.no rfl (.no rfl (.no rfl (.no rfl (.no rfl (.no rfl (.no rfl (.no rfl (.no rfl (.no rfl (.cons aET (.cons aEU (.no rfl (.no rfl (.no rfl (.no rfl (.no rfl (.no rfl (.no rfl (.no rfl (.no rfl (.no rfl (.no rfl (.no rfl (.no rfl (.cons (aEV b) (.no rfl (.no rfl (.no rfl (.no rfl (.no rfl (.no rfl (.no rfl (.no rfl (.no rfl (.cons aEW (.no rfl (.no rfl (.cons (aEX hm) (dq.all (by kernel_rfl))))))))))))))))))))))))))))))))))))))))
theorem aFk {gl:bD} (_:gl.has prog "internal/strconv.uint64pow10" .u64 Lib.pow10Tab) (hm:gl.some64 0):dq prog gl EW:=.no rfl (.no rfl (.no rfl (.no rfl (.no rfl (.no rfl (.cons (aEY hm) (.no rfl (.no rfl (.no rfl (.no rfl (.no rfl (.no rfl (.no rfl (.no rfl (.no rfl (.no rfl (.no rfl (.no rfl (.no rfl (.no rfl (.no rfl (.no rfl (.no rfl (.cons aEZ (.no rfl (.no rfl (.no rfl (.no rfl (.no rfl (.no rfl (.cons (aFa hm) (.no rfl (.no rfl (.no rfl (.no rfl (.no rfl (.no rfl (.cons aFb (dq.all (by kernel_rfl))))))))))))))))))))))))))))))))))))))))
theorem aFl {gl:bD} (_:gl.has prog "internal/strconv.uint64pow10" .u64 Lib.pow10Tab) (_:gl.some64 0):dq prog gl EX:=.no rfl (.no rfl (.no rfl (.no rfl (.no rfl (.no rfl (.no rfl (.no rfl (.cons aFc (dq.all (by kernel_rfl))))))))))
theorem aFm {gl:bD}:dq prog gl EY:=dq.all (by kernel_rfl)
theorem Wb {gl:bD} (b:gl.has prog "internal/strconv.uint64pow10" .u64 Lib.pow10Tab) (hm:gl.some64 0):dq prog gl EZ:=((((((((((aFd).app aFe).app aFf).app aFg).app (aFh b hm)).app (aFi b hm)).app (aFj b hm)).app (aFk b hm)).app (aFl b hm)).app aFm)
theorem aFn {gl:bD} (d:gl.has prog "internal/strconv.uint64pow10" .u64 Lib.pow10Tab) (hm:gl.some64 0):Du prog gl T tab:=
 XZ mix anC (OH.ok _ (List.mem_cons_self ..)) anD (fun x b=>by
  rcases List.mem_cons.1 b with rfl|b
  ·exact(Wb d hm).ok _ (List.mem_cons_self ..)
  ·exact(Wb d hm).ok x b)
def KB:List (TypeId×List CT):=[(33,[cD,cD,aK,aK,.int .i64,fy,eh,.int .i64,.str,bf,bf,aK]),(25,[cD,cD,aK,aK]),(22,[cD]),(9,[.str]),(23,[aK]),(146,[.int .i64,.int .i64,.str]),(3,[.int .i64]),(26,[fy]),(106,[.int .i64,.int .i64,.int .i64,.int .i64,.int .i64,cW,aK,bN,.int .i64,.int .i64,bf,.str,.int .i64,hY,bf,bf,.int .i64,aK,bN,.int .i64,.int .i64,bf,.str,eX,.int .i64,eh]),(103,[.int .i64,.int .i64,.int .i64,.int .i64,cW,aK,bN,.int .i64,.int .i64,bf,.str]),(95,[.int .i64,.int .i64,cW]),(93,[cW]),(192,[.int .i64,.int .i64,.int .i64,.str]),(111,[.int .i64,.int .i64,.str]),(101,[aK,bN,.int .i64,.int .i64,bf,.str]),(99,[aK,bN,.int .i64,.int .i64]),(96,[aK]),(258,[.int .i64,.int .i64,.str]),(97,[bN]),(261,[.int .i64,.str,.int .i64,.int .i64,.str]),(30,[bf]),(81,[hY]),(4,[.bool]),(104,[eX,.int .i64]),(82,[eX]),(5,[.int .u8]),(27,[eh]),(109,[.int .i64,.int .i64,.int .i64,.int .i64,.int .i64,.int .i64,.int .i64,cW,.bool,.str]),(29,[.int .i64,.str]),(31,[aK])]
theorem aFo:om KB prog KB=true:=by kernel_rfl
def wS:List kL:=[⟨33,true,[cD,cD,aK,aK,.int .i64,fy,eh,.int .i64,.str,bf,bf,aK]⟩]
theorem aFp:(wS.all fun p=>iz KB p.t p.bq)=true:=by kernel_rfl
theorem aFq (ds:List DV) (b:Typed (wS.flatMap (·.bq)) ds) (j:DE ds): ∃n,D T tab gV n yk ds=some (true:Bool):=by
 obtain⟨k,r0,rfl,b⟩:=b;obtain⟨m,r1,rfl,b⟩:=b;obtain⟨p,r2,rfl,b⟩:=b;obtain⟨q,r3,rfl,b⟩:=b;obtain⟨r,r4,rfl,b⟩:=b;obtain⟨s,r5,rfl,b⟩:=b;obtain⟨t,r6,rfl,b⟩:=b;obtain⟨u,r7,rfl,b⟩:=b;obtain⟨z,r8,rfl,b⟩:=b;obtain⟨x9,r9,rfl,b⟩:=b;obtain⟨d,ae,rfl,b⟩:=b;obtain⟨f,g,rfl,b⟩:=b;have b:g=[]:=b;subst b;obtain⟨o0,o1,o2,o3,o4,o5,o6,o7,o8,o9,h,i,_⟩:=j;exact(aEe k m p q r s t u z x9 d f o0 o1 o2 o3 o4 o5 o6 o7 o8 o9 h i).val
def tn:List (String×DataW Unit):=[("math/bits.deBruijn32tab",Rows.laid_math_bits_deBruijn32tab),("math/bits.deBruijn64tab",Rows.laid_math_bits_deBruijn64tab),("internal/strconv.uint64pow10",Rows.laid_internal_strconv_uint64pow10),("unicode/utf8.acceptRanges",Rows.laid_unicode_utf8_acceptRanges),("strconv.ErrRange",Rows.laid_strconv_ErrRange),("strconv.ErrSyntax",Rows.laid_strconv_ErrSyntax),("unicode/utf8.first",Rows.laid_unicode_utf8_first)]
theorem aFr {w:World} (h:laidMet prog tn w):(bD.mk w.heap.size w).has prog "internal/strconv.uint64pow10" .u64 Lib.pow10Tab:=
 Yj h (List.mem_iff_getElem?.2 ⟨2,by kernel_rfl⟩) (show prog.globalNamed "internal/strconv.uint64pow10" =some 7 by kernel_rfl) (show (prog.globals[7]?).map (·.type)=some 407 by kernel_rfl) (show prog.underlying 407=some (.array 20 361) by kernel_rfl) (show prog.underlying 361=some (.int .u64) by kernel_rfl) (by kernel_rfl) (by kernel_rfl)
theorem aFs {W:World} (h:W.ShapedOpen prog):(bD.mk W.heap.size W).some64 0:=
 Zj (t:=3) h (of_decide_eq_true (by kernel_rfl)) (by kernel_rfl) (by kernel_rfl) (by kernel_rfl) underlying3
theorem aFt {A:Type} {en:TypeId×Value→A} {sp:Nat→Bool} {held:Bool} {args:Array Value} {d:List (DataW A)} {b:List MemPlace} (W:World) (f:laidMet prog tn W) (g:W.ShapedOpen prog) (i:qh wS args.toList) (j:args.size=1) (h:DataW.TrodAll en prog W 0 sp held (wS.map (·.t)) args.toList d b):
  Calls prog 3 args W fun e k=>e=.returned (.bool true)∧Below W.heap.size W k:=by
 obtain⟨ds,m,p,q⟩:=Zc aFo aFp i h;obtain⟨n,r⟩:=aFq ds m (MR ds p);exact Zd (E:=tab yk) (My (aFn (aFr f) (aFs g)) n yk ds _ r) rfl rfl rfl rfl j (q (tab yk) ⟨W.heap.size,W⟩ rfl rfl (Nat.le_refl _) (fun _ _=>rfl))
set_option maxRecDepth 100000 in
theorem lifted (os:Os) (started:os.Started) (A:Type) (enc:TypeId×Value→A):
  ReturnsInHanded {} checked os 3 .any (fun w args=>(Rows.fnExactJudgeSinkSpec.pre enc prog f3 [] false w args∧laidMetH prog tn w)∧sizedMet enc prog f3 (OpenSpec.ofChange Rows.fnExactJudgeSinkSpec) false w args)
   (Rows.fnExactJudgeSinkSpec.post enc prog f3 false true false false):=by
 refine Zi (C:=checked) (X:=fun w _=>laidMetH prog tn w) (fun _ _ _ hh h=>h.of_heap hh) own started (by kernel_rfl) func3
  (ChangeSpec.witness_shaped (enc:=enc) (C:=checked) (os:=os) (X:=fun w _=>laidMetH prog tn w) false (World.laidAll prog os tn) #[.agg #[.slice none 0 0,.slice none 0 0,.slice none 0 0,.slice none 0 0,.int .i64 0,.slice none 0 0,.slice none 0 0,.int .i64 0,.string ⟨#[]⟩,.slice none 0 0,.slice none 0 0,.slice none 0 0]] 16 (World.laidAll_os _ _ _)
   (World.shaped_of_ZipB (by kernel_rfl) (by kernel_rfl)) (by kernel_rfl) (by kernel_rfl) (by kernel_rfl)
   (by rw [MakeChecks.laidMetH_plain _ _ _ (by kernel_rfl)];exact laidMet_laidAll _ (by kernel_rfl) (by kernel_rfl))) ?_
 intro W base args ds gs before hS d s _ _ u _;rw [MakeChecks.laidMetH_plain _ _ _ (by kernel_rfl)]at u
 have b: ∀(j:Nat) t v,f3.params[j]? =some t→args[j]? =some v→Value.okWide prog W .any base t v:=d
 have f:=s;obtain⟨p,q,g,hV,rfl,_,_⟩:=s;have i:DataW.TrodAll enc prog W 0 (fun _=>true) true f3.params.toList args.toList ds p:=g
 rw [params3]at i b;have k:=i;obtain⟨v0,d0,rfl,rfl,z⟩:=trodAll_one i;obtain⟨rfl,rfl⟩:=trodVars_none hV;obtain⟨ad,e0,_⟩:=okWide_struct (show prog.underlying 33=some (.struct (prog.fieldsOf 33)) by kernel_rfl) (b 0 33 v0 rfl rfl)
 simp only [List.append_nil]at f;refine(aFt W u hS (show qh wS [v0]from⟨⟨_,e0⟩,trivial⟩) rfl k).mono fun e W' ⟨he,hb⟩=> ?_
 subst he;obtain⟨m,r⟩:=(show DataW.Trod enc prog W 0 (fun _=>true) true 33 v0 d0 p from z)
 exact⟨_,rfl,_,_,_,[],_,[],f,trodAll_mk1 (shut_bool (show prog.underlying 4=some .bool by kernel_rfl) _),trodAll_mk1 (Below.trod laidOut (by kernel_rfl) (of_decide_eq_true (by kernel_rfl)) z hb (DataW.trod_lt _ _ _ _ r)),rfl,hb.frame _,fun h=>by cases h⟩
theorem holds:Rows.FnExactJudgeSinkSaid:=
 OpenClaim.holds_of_wide 3 f3 rfl rfl rfl rfl rfl rfl rfl ⟨rfl,rfl,rfl,rfl,rfl⟩ rfl rfl rfl rfl rfl (by kernel_rfl) func3 closed
  (of_decide_eq_true (by kernel_rfl)) (by unfold Func.isWrapper;first|(rw [if_pos (by decide +kernel)];kernel_rfl)|(rw [if_neg (by decide +kernel)];exact⟨rfl,rfl⟩))
  (fun os started H enc _=>lifted os started H enc)
theorem fnExactJudgeSink_card:Rows.FnExactJudgeSinkCardSaid:=
 Claim7.holds_tied_plain_at .later [] [.data,.data,.data,.data,.sentinel,.sentinel,.pinned] true (true, "3fe99607c59be2bbce39c442855025a6d1ab626665539488f166c1b8d2187eda") true holds (fun _ h=>by cases h) (by kernel_rfl) (fun _ h=>by cases h) fnExactJudgeSink_row_tie rfl ⟨rfl,rfl⟩ (by kernel_rfl) rfl
  (fun f fn i d=>by
   obtain rfl:f=3:=Option.some.inj ((show prog.funcNamed "loop.example/g00289/laws.FnExactJudgeSink" =some 3 by kernel_rfl).symm.trans i) |>.symm
   obtain rfl:fn=f3:=(Option.some.inj (func3.symm.trans d)).symm;exact⟨by kernel_rfl,fun j t g=>by
    rw [params3]at g;have hm:t∈[33]:=by simpa using Array.mem_of_getElem? g
    have b:([33].all fun u=> !prog.wantsStandIn u)=true:=by kernel_rfl
    exact(show prog.wantsStandIn t=false by simpa using List.all_eq_true.1 b t hm)⟩)
  aEk
#print axioms fnExactJudgeSink_card
end Go.Proofs.YtfpfjmahdneehaaGreatDoor
