/- FnExactJudgeDone: for every input the law answers true, and its argument reads as before; the listed tables are tied to the program's text. -/
import Derived.Test.YtfpfjmahdneehaaGreatDoorJudgeDoneLaw
import Derived.Test.YtfpfjmahdneehaaGreatDoorJudgeDoneFacts
import Derived.Test.YtfpfjmahdneehaaGreatDoorEv4
import Derived.Test.YtfpfjmahdneehaaGreatDoorEv5
import Derived.Test.YtfpfjmahdneehaaGreatDoorLib
import Derived.Test.YtfpfjmahdneehaaGreatDoorRows
import Derived.Test.YtfpfjmahdneehaaGreatDoorCards
import Derived.Test.YtfpfjmahdneehaaGreatDoorTie
import Derived.ProofKit
import Derived.Lay
import Derived.MakeChecks
import Derived.SevenTiedAt
import Derived.LaidLaws
import Derived.Handed
import Derived.Carry
open Option.some renaming inj->À
open Go.Lib renaming pow10Tab->Á
namespace Go.Proofs.YtfpfjmahdneehaaGreatDoor
open Go Go.Ev Go.Shelf Go.ChangeShapes Go.WideShapes Go.ChangeAt Go.RowKit Go.Proofs.Tryz
theorem mix:prog.follows .mixedOrders=true:=by kernel_rfl
theorem own:ownKnob prog.godebug=none:=by kernel_rfl
theorem laidOut:laidOutB prog=true:=by kernel_rfl
theorem aGw {gl:bF}: ∀p,FB.cg=some p-> ∀ds r,p ds=some r->cW prog gl FB ds r:=by
 intro p hp ds r h;have e:p=yv:=(À hp).symm;subst e;exact ZB (fun s c w=>Any.strings_IndexByte Tryz.aFT s c w) ds r h
theorem aGx {gl:bF} (hm:gl.some64 0): ∀p,FC.cg=some p-> ∀ds r,p ds=some r->cW prog gl FC ds r:=by
 intro p hp ds r h;have e:p=yz:=(À hp).symm;subst e;exact abA hm (fun s c w=>Any.strings_Contains_one Tryz.Xr s c w) (fun s t m w b hm=>Any.strings_Contains Tryz.Xr s t m w b hm) ds r h
theorem aGy {gl:bF}: ∀p,FD.cg=some p-> ∀ds r,p ds=some r->cW prog gl FD ds r:=by
 intro p hp ds r h;have e:p=yx:=(À hp).symm;subst e;exact ZD (fun s n b d w=>Any.strconv_Atoi Tryz.aFW s n b d w) ds r h
theorem aGz {gl:bF}: ∀p,FE.cg=some p-> ∀ds r,p ds=some r->cW prog gl FE ds r:=by
 intro p hp ds r h;have e:p=yw:=(À hp).symm;subst e;exact ZC (fun a b w=>Any.strings_Compare Tryz.aFY a b w) ds r h
theorem aGA {gl:bF}: ∀p,FF.cg=some p-> ∀ds r,p ds=some r->cW prog gl FF ds r:=by
 intro p hp ds r h;have e:p=gK aL:=(À hp).symm;subst e;exact clone204 ds r h
theorem aGB {gl:bF}: ∀p,FH.cg=some p-> ∀ds r,p ds=some r->cW prog gl FH ds r:=by
 intro p hp ds r h;have e:p=gK bQ:=(À hp).symm;subst e;exact clone205 ds r h
theorem aGC {gl:bF} (d:gl.has prog "internal/strconv.uint64pow10" .u64 Á): ∀p,FI.cg=some p-> ∀ds r,p ds=some r->cW prog gl FI ds r:=by
 intro p hp ds r h;have e:p=yt:=(À hp).symm;subst e;exact Zv d (fun n f g w b=>Any.strconv_Itoa Tryz.aGd n f g w b) ds r h
theorem aGD {gl:bF}: ∀p,FJ.cg=some p-> ∀ds r,p ds=some r->cW prog gl FJ ds r:=by
 intro p hp ds r h;have e:p=sa bQ:=(À hp).symm;subst e;exact abN (ts:=ak bQ) rfl (by decide) rfl (fun _ _ _=>rfl) aGj ds r h
theorem aGE {gl:bF} (_:gl.some64 0): ∀p,FK.cg=some p-> ∀ds r,p ds=some r->cW prog gl FK ds r:=by
 intro p hp ds r h;have e:p=uK bQ:=(À hp).symm;subst e;exact abL (ts:=ak bQ) rfl (fun _ _ _=>rfl) (fun aO n cap i j cur ty frz w f g k b hm d hj m=>aGk aO n cap i j cur ty frz w f g k b hm d hj m) (fun a n cap i w hi b hm q=>delE283 a n cap i w hi b hm q) ds r h
theorem aGF {gl:bF} (hm:gl.some64 0): ∀p,FL.cg=some p-> ∀ds r,p ds=some r->cW prog gl FL ds r:=by
 intro p hp ds r h;have e:p=uL:=(À hp).symm;subst e;exact abG hm (fun s m w b hm=>aGo s m w b hm) ds r h
theorem aGG {gl:bF}: ∀p,FM.cg=some p-> ∀ds r,p ds=some r->cW prog gl FM ds r:=by
 intro p hp ds r h;have e:p=uM:=(À hp).symm;subst e;exact abF (fun aO cap b w d f g=>AnyM.slices_Sort_int Tryz.Xw aO 0 cap b w d f g) (fun p cap w=>AnyM.slices_Sort_int_none Tryz.Xw p cap w) ds r h
theorem aGH {gl:bF} (hm:gl.some64 0): ∀p,FN.cg=some p-> ∀ds r,p ds=some r->cW prog gl FN ds r:=by
 intro p hp ds r h;have e:p=yy:=(À hp).symm;subst e;exact aaY hm (fun s t m w b hm=>Any.strings_Index Tryz.aGr s t m w b hm) ds r h
theorem aGI {gl:bF}: ∀p,FO.cg=some p-> ∀ds r,p ds=some r->cW prog gl FO ds r:=by
 intro p hp ds r h;have e:p=primMul64:=(À hp).symm;subst e;exact aaX (fun x y w b hy=>Any.bits_Mul64 Tryz.aGt x y b hy w) ds r h
theorem aGJ {gl:bF}: ∀p,FP.cg=some p-> ∀ds r,p ds=some r->cW prog gl FP ds r:=by
 intro p hp ds r h;have e:p=gK bn:=(À hp).symm;subst e;exact clone174 ds r h
theorem aGK {gl:bF}:du prog gl FQ:=du.all (by kernel_rfl)
theorem aGL {gl:bF}:du prog gl FR:=du.all (by kernel_rfl)
theorem aGM {gl:bF}:du prog gl FT:=du.all (by kernel_rfl)
theorem aGN {gl:bF}:du prog gl FU:=du.all (by kernel_rfl)
theorem aGO {gl:bF} (_:gl.has prog "internal/strconv.uint64pow10" .u64 Á) (_:gl.some64 0):du prog gl FV:=.no rfl (.no rfl (.no rfl (.no rfl (.no rfl (.no rfl (.no rfl (.no rfl (.no rfl (.no rfl (.no rfl (.no rfl (.no rfl (.no rfl (.no rfl (.no rfl (.no rfl (.no rfl (.no rfl (.no rfl (.no rfl (.no rfl (.no rfl (.no rfl (.no rfl (.no rfl (.no rfl (.no rfl (.no rfl (.no rfl (.no rfl (.no rfl (.cons aGw (du.all (by kernel_rfl))))))))))))))))))))))))))))))))))
theorem aGP {gl:bF} (_:gl.has prog "internal/strconv.uint64pow10" .u64 Á) (hm:gl.some64 0):du prog gl FW:=.no rfl (.no rfl (.no rfl (.no rfl (.cons (aGx hm) (.no rfl (.no rfl (.no rfl (.no rfl (.no rfl (.no rfl (.no rfl (.no rfl (.no rfl (.no rfl (.no rfl (.no rfl (.cons aGy (.no rfl (.no rfl (.no rfl (.no rfl (.cons aGz (du.all (by kernel_rfl))))))))))))))))))))))))
theorem aGQ {gl:bF} (b:gl.has prog "internal/strconv.uint64pow10" .u64 Á) (hm:gl.some64 0):du prog gl FX:=.no rfl (.no rfl (.no rfl (.no rfl (.no rfl (.no rfl (.no rfl (.no rfl (.no rfl (.no rfl (.cons aGA (.cons aGB (.no rfl (.no rfl (.no rfl (.no rfl (.no rfl (.no rfl (.no rfl (.no rfl (.no rfl (.no rfl (.no rfl (.no rfl (.no rfl (.cons (aGC b) (.no rfl (.no rfl (.no rfl (.no rfl (.no rfl (.no rfl (.no rfl (.no rfl (.no rfl (.cons aGD (.no rfl (.no rfl (.cons (aGE hm) (du.all (by kernel_rfl))))))))))))))))))))))))))))))))))))))))
theorem aGR {gl:bF} (_:gl.has prog "internal/strconv.uint64pow10" .u64 Á) (hm:gl.some64 0):du prog gl FY:=.no rfl (.no rfl (.no rfl (.no rfl (.no rfl (.no rfl (.cons (aGF hm) (.no rfl (.no rfl (.no rfl (.no rfl (.no rfl (.no rfl (.no rfl (.no rfl (.no rfl (.no rfl (.no rfl (.no rfl (.no rfl (.no rfl (.no rfl (.no rfl (.no rfl (.cons aGG (.no rfl (.no rfl (.no rfl (.no rfl (.no rfl (.no rfl (.cons (aGH hm) (.no rfl (.no rfl (.no rfl (.no rfl (.no rfl (.no rfl (.cons aGI (du.all (by kernel_rfl))))))))))))))))))))))))))))))))))))))))
theorem aGS {gl:bF} (_:gl.has prog "internal/strconv.uint64pow10" .u64 Á) (_:gl.some64 0):du prog gl FZ:=.no rfl (.no rfl (.no rfl (.no rfl (.no rfl (.no rfl (.no rfl (.no rfl (.cons aGJ (du.all (by kernel_rfl))))))))))
theorem aGT {gl:bF}:du prog gl Ga:=du.all (by kernel_rfl)
theorem Xy {gl:bF} (b:gl.has prog "internal/strconv.uint64pow10" .u64 Á) (hm:gl.some64 0):du prog gl Gb:=((((((((((aGK).app aGL).app aGM).app aGN).app (aGO b hm)).app (aGP b hm)).app (aGQ b hm)).app (aGR b hm)).app (aGS b hm)).app aGT)
theorem aGU {gl:bF} (d:gl.has prog "internal/strconv.uint64pow10" .u64 Á) (hm:gl.some64 0):Em prog gl T tab:=
 Zp mix apV (PZ.ok _ (List.mem_cons_self ..)) apW (fun x b=>by
  rcases List.mem_cons.1 b with rfl|b
  .exact(Xy d hm).ok _ (List.mem_cons_self ..)
  .exact(Xy d hm).ok x b)
def LO:List (TypeId×List CT):=[(33,[cE,cE,aL,aL,.int .i64,fC,ei,.int .i64,.str,bn,bn,aL]),(25,[cE,cE,aL,aL]),(22,[cE]),(9,[.str]),(23,[aL]),(146,[.int .i64,.int .i64,.str]),(3,[.int .i64]),(26,[fC]),(106,[.int .i64,.int .i64,.int .i64,.int .i64,.int .i64,cX,aL,bQ,.int .i64,.int .i64,bn,.str,.int .i64,ie,bn,bn,.int .i64,aL,bQ,.int .i64,.int .i64,bn,.str,fb,.int .i64,ei]),(103,[.int .i64,.int .i64,.int .i64,.int .i64,cX,aL,bQ,.int .i64,.int .i64,bn,.str]),(95,[.int .i64,.int .i64,cX]),(93,[cX]),(192,[.int .i64,.int .i64,.int .i64,.str]),(111,[.int .i64,.int .i64,.str]),(101,[aL,bQ,.int .i64,.int .i64,bn,.str]),(99,[aL,bQ,.int .i64,.int .i64]),(96,[aL]),(258,[.int .i64,.int .i64,.str]),(97,[bQ]),(261,[.int .i64,.str,.int .i64,.int .i64,.str]),(30,[bn]),(81,[ie]),(4,[.bool]),(104,[fb,.int .i64]),(82,[fb]),(5,[.int .u8]),(27,[ei]),(109,[.int .i64,.int .i64,.int .i64,.int .i64,.int .i64,.int .i64,.int .i64,cX,.bool,.str]),(29,[.int .i64,.str]),(31,[aL])]
theorem aGV:oJ LO prog LO=true:=by kernel_rfl
def xA:List la:=[⟨33,true,[cE,cE,aL,aL,.int .i64,fC,ei,.int .i64,.str,bn,bn,aL]⟩]
theorem aGW:(xA.all fun p=>iB LO p.t p.bA)=true:=by kernel_rfl
theorem aGX (ds:List DV) (b:Typed (xA.flatMap (·.bA)) ds) (j:Ey ds): ∃n,D T tab gZ n yZ ds=some (true:Bool):=by
 obtain⟨k,r0,rfl,b⟩:=b;obtain⟨m,r1,rfl,b⟩:=b;obtain⟨p,r2,rfl,b⟩:=b;obtain⟨q,r3,rfl,b⟩:=b;obtain⟨r,r4,rfl,b⟩:=b;obtain⟨s,r5,rfl,b⟩:=b;obtain⟨t,r6,rfl,b⟩:=b;obtain⟨u,r7,rfl,b⟩:=b;obtain⟨z,r8,rfl,b⟩:=b;obtain⟨x9,r9,rfl,b⟩:=b;obtain⟨d,ae,rfl,b⟩:=b;obtain⟨f,g,rfl,b⟩:=b;have b:g=[]:=b;subst b;obtain⟨o0,o1,o2,o3,o4,o5,o6,o7,o8,o9,h,i,_⟩:=j;exact(aFL k m p q r s t u z x9 d f o0 o1 o2 o3 o4 o5 o6 o7 o8 o9 h i).val
def tN:List (String×DataW Unit):=[("math/bits.deBruijn32tab",Rows.laid_math_bits_deBruijn32tab),("math/bits.deBruijn64tab",Rows.laid_math_bits_deBruijn64tab),("internal/strconv.uint64pow10",Rows.laid_internal_strconv_uint64pow10),("unicode/utf8.acceptRanges",Rows.laid_unicode_utf8_acceptRanges),("strconv.ErrRange",Rows.laid_strconv_ErrRange),("strconv.ErrSyntax",Rows.laid_strconv_ErrSyntax),("unicode/utf8.first",Rows.laid_unicode_utf8_first)]
theorem aGY {w:World} (h:laidMet prog tN w):(bF.mk w.heap.size w).has prog "internal/strconv.uint64pow10" .u64 Á:=
 Zz h (List.mem_iff_getElem?.2 ⟨2,by kernel_rfl⟩) (show prog.globalNamed "internal/strconv.uint64pow10" =some 7 by kernel_rfl) (show (prog.globals[7]?).map (·.type)=some 407 by kernel_rfl) (show prog.underlying 407=some (.array 20 361) by kernel_rfl) (show prog.underlying 361=some (.int .u64) by kernel_rfl) (by kernel_rfl) (by kernel_rfl)
theorem aGZ {b:World} (h:b.ShapedOpen prog):(bF.mk b.heap.size b).some64 0:=
 abC (t:=3) h (of_decide_eq_true (by kernel_rfl)) (by kernel_rfl) (by kernel_rfl) (by kernel_rfl) underlying3
theorem aHa {A:Type} {en:TypeId×Value->A} {sp:Nat->Bool} {held:Bool} {args:Array Value} {d:List (DataW A)} {f:List MemPlace} (b:World) (g:laidMet prog tN b) (i:b.ShapedOpen prog) (j:qD xA args.toList) (k:args.size=1) (h:DataW.TrodAll en prog b 0 sp held (xA.map (·.t)) args.toList d f):
  Calls prog 5 args b fun e m=>e=.returned (.bool true)/\Below b.heap.size b m:=by
 obtain⟨ds,p,q,r⟩:=aaV aGV aGW j h;obtain⟨n,s⟩:=aGX ds p (Of ds q);exact aaW (E:=tab yZ) (NL (aGU (aGY g) (aGZ i)) n yZ ds _ s) rfl rfl rfl rfl k (r (tab yZ) ⟨b.heap.size,b⟩ rfl rfl (Nat.le_refl _) (fun _ _=>rfl))
set_option maxRecDepth 100000 in
theorem lifted (os:Os) (started:os.Started) (A:Type) (enc:TypeId×Value->A):
  ReturnsInHanded {} checked os 5 .any (fun w args=>(Rows.fnExactJudgeDoneSpec.pre enc prog f5 [] false w args/\laidMetH prog tN w)/\sizedMet enc prog f5 (OpenSpec.ofChange Rows.fnExactJudgeDoneSpec) false w args)
   (Rows.fnExactJudgeDoneSpec.post enc prog f5 false true false false):=by
 refine abB (C:=checked) (X:=fun w _=>laidMetH prog tN w) (fun _ _ _ hh h=>h.of_heap hh) own started (by kernel_rfl) func5
  (ChangeSpec.witness_shaped (enc:=enc) (C:=checked) (os:=os) (X:=fun w _=>laidMetH prog tN w) false (World.laidAll prog os tN) #[.agg #[.slice none 0 0,.slice none 0 0,.slice none 0 0,.slice none 0 0,.int .i64 0,.slice none 0 0,.slice none 0 0,.int .i64 0,.string ⟨#[]⟩,.slice none 0 0,.slice none 0 0,.slice none 0 0]] 16 (World.laidAll_os _ _ _)
   (World.shaped_of_ZipB (by kernel_rfl) (by kernel_rfl)) (by kernel_rfl) (by kernel_rfl) (by kernel_rfl)
   (by rw [MakeChecks.laidMetH_plain _ _ _ (by kernel_rfl)];exact laidMet_laidAll _ (by kernel_rfl) (by kernel_rfl))) ?_
 intro b base args ds gs before hS f u _ _ z _;rw [MakeChecks.laidMetH_plain _ _ _ (by kernel_rfl)]at z
 have d: ∀(j:Nat) t v,f5.params[j]? =some t->args[j]? =some v->Value.okWide prog b .any base t v:=f
 have g:=u;obtain⟨p,q,i,hV,rfl,_,_⟩:=u;have k:DataW.TrodAll enc prog b 0 (fun _=>true) true f5.params.toList args.toList ds p:=i
 rw [params5]at k d;have m:=k;obtain⟨v0,d0,rfl,rfl,h0⟩:=trodAll_one k;obtain⟨rfl,rfl⟩:=trodVars_none hV;obtain⟨ae,e0,_⟩:=okWide_struct (show prog.underlying 33=some (.struct (prog.fieldsOf 33)) by kernel_rfl) (d 0 33 v0 rfl rfl)
 simp only [List.append_nil]at g;refine(aHa b z hS (show qD xA [v0]from⟨⟨_,e0⟩,trivial⟩) rfl m).mono fun e W' ⟨he,hb⟩=> ?_
 subst he;obtain⟨r,s⟩:=(show DataW.Trod enc prog b 0 (fun _=>true) true 33 v0 d0 p from h0)
 exact⟨_,rfl,_,_,_,[],_,[],g,trodAll_mk1 (shut_bool (show prog.underlying 4=some .bool by kernel_rfl) _),trodAll_mk1 (Below.trod laidOut (by kernel_rfl) (of_decide_eq_true (by kernel_rfl)) h0 hb (DataW.trod_lt _ _ _ _ s)),rfl,hb.frame _,fun h=>by cases h⟩
theorem holds:Rows.FnExactJudgeDoneSaid:=
 OpenClaim.holds_of_wide 5 f5 rfl rfl rfl rfl rfl rfl rfl ⟨rfl,rfl,rfl,rfl,rfl⟩ rfl rfl rfl rfl rfl (by kernel_rfl) func5 closed
  (of_decide_eq_true (by kernel_rfl)) (by unfold Func.isWrapper;first|(rw [if_pos (by decide +kernel)];kernel_rfl)|(rw [if_neg (by decide +kernel)];exact⟨rfl,rfl⟩))
  (fun os started H enc _=>lifted os started H enc)
theorem fnExactJudgeDone_card:Rows.FnExactJudgeDoneCardSaid:=
 Claim7.holds_tied_plain_at .later [] [.data,.data,.data,.data,.sentinel,.sentinel,.pinned] true (true, "3fe99607c59be2bbce39c442855025a6d1ab626665539488f166c1b8d2187eda") true holds (fun _ h=>by cases h) (by kernel_rfl) (fun _ h=>by cases h) fnExactJudgeDone_row_tie rfl ⟨rfl,rfl⟩ (by kernel_rfl) rfl
  (fun f fn i d=>by
   obtain rfl:f=5:=À ((show prog.funcNamed "loop.example/g00289/laws.FnExactJudgeDone" =some 5 by kernel_rfl).symm.trans i) |>.symm
   obtain rfl:fn=f5:=(À (func5.symm.trans d)).symm;exact⟨by kernel_rfl,fun j t g=>by
    rw [params5]at g;have hm:t∈[33]:=by simpa using Array.mem_of_getElem? g
    have b:([33].all fun u=> !prog.wantsStandIn u)=true:=by kernel_rfl
    exact(show prog.wantsStandIn t=false by simpa using List.all_eq_true.1 b t hm)⟩)
  aFR
#print axioms fnExactJudgeDone_card
end Go.Proofs.YtfpfjmahdneehaaGreatDoor
