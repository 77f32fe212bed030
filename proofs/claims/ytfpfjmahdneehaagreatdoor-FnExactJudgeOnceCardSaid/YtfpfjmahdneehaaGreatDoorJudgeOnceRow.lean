/- FnExactJudgeOnce: for every input the law answers true, and its argument reads as before; the listed tables are tied to the program's text. -/
import Derived.Test.YtfpfjmahdneehaaGreatDoorJudgeOnceLaw
import Derived.Test.YtfpfjmahdneehaaGreatDoorJudgeOnceFacts
import Derived.Test.YtfpfjmahdneehaaGreatDoorEv4
import Derived.Test.YtfpfjmahdneehaaGreatDoorEv5
import Derived.Test.YtfpfjmahdneehaaGreatDoorLib
import Derived.Test.YtfpfjmahdneehaaGreatDoorRows
import Derived.Test.YtfpfjmahdneehaaGreatDoorCards
import Derived.Test.YtfpfjmahdneehaaGreatDoorTie
import Derived.ProofKit
import Derived.Lay
import Derived.MakeChecks
import Derived.SevenTiedAt
import Derived.LaidLaws
import Derived.Handed
import Derived.Carry
open Option.some renaming inj->À
open Go.Lib renaming pow10Tab->Á
namespace Go.Proofs.YtfpfjmahdneehaaGreatDoor
open Go Go.Ev Go.Shelf Go.ChangeShapes Go.WideShapes Go.ChangeAt Go.RowKit Go.Proofs.Tryz
theorem mix:prog.follows .mixedOrders=true:=by kernel_rfl
theorem own:ownKnob prog.godebug=none:=by kernel_rfl
theorem laidOut:laidOutB prog=true:=by kernel_rfl
theorem aEP {gl:bE}: ∀p,EH.bX=some p-> ∀ds r,p ds=some r->cX prog gl EH ds r:=by
 intro p hp ds r h;have e:p=xT:=(À hp).symm;subst e;exact Yo (fun s c w=>Any.strings_IndexByte Tryz.aEm s c w) ds r h
theorem aEQ {gl:bE} (hm:gl.some64 0): ∀p,EI.bX=some p-> ∀ds r,p ds=some r->cX prog gl EI ds r:=by
 intro p hp ds r h;have e:p=xX:=(À hp).symm;subst e;exact Zk hm (fun s c w=>Any.strings_Contains_one Tryz.VZ s c w) (fun s t m w b hm=>Any.strings_Contains Tryz.VZ s t m w b hm) ds r h
theorem aER {gl:bE}: ∀p,EJ.bX=some p-> ∀ds r,p ds=some r->cX prog gl EJ ds r:=by
 intro p hp ds r h;have e:p=xV:=(À hp).symm;subst e;exact Yq (fun s n b d w=>Any.strconv_Atoi Tryz.aEp s n b d w) ds r h
theorem aES {gl:bE}: ∀p,EK.bX=some p-> ∀ds r,p ds=some r->cX prog gl EK ds r:=by
 intro p hp ds r h;have e:p=xU:=(À hp).symm;subst e;exact Yp (fun a b w=>Any.strings_Compare Tryz.aEr a b w) ds r h
theorem aET {gl:bE}: ∀p,EL.bX=some p-> ∀ds r,p ds=some r->cX prog gl EL ds r:=by
 intro p hp ds r h;have e:p=gH aL:=(À hp).symm;subst e;exact clone204 ds r h
theorem aEU {gl:bE}: ∀p,EM.bX=some p-> ∀ds r,p ds=some r->cX prog gl EM ds r:=by
 intro p hp ds r h;have e:p=gH bP:=(À hp).symm;subst e;exact clone205 ds r h
theorem aEV {gl:bE} (d:gl.has prog "internal/strconv.uint64pow10" .u64 Á): ∀p,EN.bX=some p-> ∀ds r,p ds=some r->cX prog gl EN ds r:=by
 intro p hp ds r h;have e:p=xR:=(À hp).symm;subst e;exact Yi d (fun n f g w b=>Any.strconv_Itoa Tryz.aEw n f g w b) ds r h
theorem aEW {gl:bE}: ∀p,EO.bX=some p-> ∀ds r,p ds=some r->cX prog gl EO ds r:=by
 intro p hp ds r h;have e:p=rG bP:=(À hp).symm;subst e;exact Zx (ts:=ak bP) rfl (by decide) rfl (fun _ _ _=>rfl) aEC ds r h
theorem aEX {gl:bE} (_:gl.some64 0): ∀p,EP.bX=some p-> ∀ds r,p ds=some r->cX prog gl EP ds r:=by
 intro p hp ds r h;have e:p=ui bP:=(À hp).symm;subst e;exact Zv (ts:=ak bP) rfl (fun _ _ _=>rfl) (fun aO n cap i j cur ty frz w f g k b hm d hj m=>aED aO n cap i j cur ty frz w f g k b hm d hj m) (fun a n cap i w hi b hm q=>delE283 a n cap i w hi b hm q) ds r h
theorem aEY {gl:bE} (hm:gl.some64 0): ∀p,ER.bX=some p-> ∀ds r,p ds=some r->cX prog gl ER ds r:=by
 intro p hp ds r h;have e:p=uj:=(À hp).symm;subst e;exact Zq hm (fun s m w b hm=>aEH s m w b hm) ds r h
theorem aEZ {gl:bE}: ∀p,ES.bX=some p-> ∀ds r,p ds=some r->cX prog gl ES ds r:=by
 intro p hp ds r h;have e:p=uk:=(À hp).symm;subst e;exact Zp (fun aO cap b w d f g=>AnyM.slices_Sort_int Tryz.Wd aO 0 cap b w d f g) (fun p cap w=>AnyM.slices_Sort_int_none Tryz.Wd p cap w) ds r h
theorem aFa {gl:bE} (hm:gl.some64 0): ∀p,ET.bX=some p-> ∀ds r,p ds=some r->cX prog gl ET ds r:=by
 intro p hp ds r h;have e:p=xW:=(À hp).symm;subst e;exact Zi hm (fun s t m w b hm=>Any.strings_Index Tryz.aEK s t m w b hm) ds r h
theorem aFb {gl:bE}: ∀p,EU.bX=some p-> ∀ds r,p ds=some r->cX prog gl EU ds r:=by
 intro p hp ds r h;have e:p=primMul64:=(À hp).symm;subst e;exact Zh (fun x y w b hy=>Any.bits_Mul64 Tryz.aEM x y b hy w) ds r h
theorem aFc {gl:bE}: ∀p,EV.bX=some p-> ∀ds r,p ds=some r->cX prog gl EV ds r:=by
 intro p hp ds r h;have e:p=gH bh:=(À hp).symm;subst e;exact clone174 ds r h
theorem aFd {gl:bE}:dt prog gl EW:=dt.all (by kernel_rfl)
theorem aFe {gl:bE}:dt prog gl EX:=dt.all (by kernel_rfl)
theorem aFf {gl:bE}:dt prog gl EY:=dt.all (by kernel_rfl)
theorem aFg {gl:bE}:dt prog gl EZ:=dt.all (by kernel_rfl)
theorem aFh {gl:bE} (_:gl.has prog "internal/strconv.uint64pow10" .u64 Á) (_:gl.some64 0):dt prog gl Fa:=.no rfl (.no rfl (.no rfl (.no rfl (.no rfl (.no rfl (.no rfl (.no rfl (.no rfl (.no rfl (.no rfl (.no rfl (.no rfl (.no rfl (.no rfl (.no rfl (.no rfl (.no rfl (.no rfl (.no rfl (.no rfl (.no rfl (.no rfl (.no rfl (.no rfl (.no rfl (.no rfl (.no rfl (.no rfl (.no rfl (.no rfl (.no rfl (.cons aEP (dt.all (by kernel_rfl))))))))))))))))))))))))))))))))))
theorem aFi {gl:bE} (_:gl.has prog "internal/strconv.uint64pow10" .u64 Á) (hm:gl.some64 0):dt prog gl Fb:=.no rfl (.no rfl (.no rfl (.no rfl (.cons (aEQ hm) (.no rfl (.no rfl (.no rfl (.no rfl (.no rfl (.no rfl (.no rfl (.no rfl (.no rfl (.no rfl (.no rfl (.no rfl (.cons aER (.no rfl (.no rfl (.no rfl (.no rfl (.cons aES (dt.all (by kernel_rfl))))))))))))))))))))))))
theorem aFj {gl:bE} (b:gl.has prog "internal/strconv.uint64pow10" .u64 Á) (hm:gl.some64 0):dt prog gl Fe:=.no rfl (.no rfl (.no rfl (.no rfl (.no rfl (.no rfl (.no rfl (.no rfl (.no rfl (.no rfl (.cons aET (.cons aEU (.no rfl (.no rfl (.no rfl (.no rfl (.no rfl (.no rfl (.no rfl (.no rfl (.no rfl (.no rfl (.no rfl (.no rfl (.no rfl (.cons (aEV b) (.no rfl (.no rfl (.no rfl (.no rfl (.no rfl (.no rfl (.no rfl (.no rfl (.no rfl (.cons aEW (.no rfl (.no rfl (.cons (aEX hm) (dt.all (by kernel_rfl))))))))))))))))))))))))))))))))))))))))
theorem aFk {gl:bE} (_:gl.has prog "internal/strconv.uint64pow10" .u64 Á) (hm:gl.some64 0):dt prog gl Ff:=.no rfl (.no rfl (.no rfl (.no rfl (.no rfl (.no rfl (.cons (aEY hm) (.no rfl (.no rfl (.no rfl (.no rfl (.no rfl (.no rfl (.no rfl (.no rfl (.no rfl (.no rfl (.no rfl (.no rfl (.no rfl (.no rfl (.no rfl (.no rfl (.no rfl (.cons aEZ (.no rfl (.no rfl (.no rfl (.no rfl (.no rfl (.no rfl (.cons (aFa hm) (.no rfl (.no rfl (.no rfl (.no rfl (.no rfl (.no rfl (.cons aFb (dt.all (by kernel_rfl))))))))))))))))))))))))))))))))))))))))
theorem aFl {gl:bE} (_:gl.has prog "internal/strconv.uint64pow10" .u64 Á) (_:gl.some64 0):dt prog gl Fg:=.no rfl (.no rfl (.no rfl (.no rfl (.no rfl (.no rfl (.no rfl (.no rfl (.cons aFc (dt.all (by kernel_rfl))))))))))
theorem aFm {gl:bE}:dt prog gl Fh:=dt.all (by kernel_rfl)
theorem Wf {gl:bE} (b:gl.has prog "internal/strconv.uint64pow10" .u64 Á) (hm:gl.some64 0):dt prog gl Fi:=((((((((((aFd).app aFe).app aFf).app aFg).app (aFh b hm)).app (aFi b hm)).app (aFj b hm)).app (aFk b hm)).app (aFl b hm)).app aFm)
theorem aFn {gl:bE} (d:gl.has prog "internal/strconv.uint64pow10" .u64 Á) (hm:gl.some64 0):DA prog gl T tab:=
 Yc mix anF (OQ.ok _ (List.mem_cons_self ..)) anG (fun x b=>by
  rcases List.mem_cons.1 b with rfl|b
  .exact(Wf d hm).ok _ (List.mem_cons_self ..)
  .exact(Wf d hm).ok x b)
def KM:List (TypeId×List CT):=[(33,[cE,cE,aL,aL,.int .i64,fz,ej,.int .i64,.str,bh,bh,aL]),(25,[cE,cE,aL,aL]),(22,[cE]),(9,[.str]),(23,[aL]),(146,[.int .i64,.int .i64,.str]),(3,[.int .i64]),(26,[fz]),(106,[.int .i64,.int .i64,.int .i64,.int .i64,.int .i64,cY,aL,bP,.int .i64,.int .i64,bh,.str,.int .i64,ia,bh,bh,.int .i64,aL,bP,.int .i64,.int .i64,bh,.str,eY,.int .i64,ej]),(103,[.int .i64,.int .i64,.int .i64,.int .i64,cY,aL,bP,.int .i64,.int .i64,bh,.str]),(95,[.int .i64,.int .i64,cY]),(93,[cY]),(192,[.int .i64,.int .i64,.int .i64,.str]),(111,[.int .i64,.int .i64,.str]),(101,[aL,bP,.int .i64,.int .i64,bh,.str]),(99,[aL,bP,.int .i64,.int .i64]),(96,[aL]),(258,[.int .i64,.int .i64,.str]),(97,[bP]),(261,[.int .i64,.str,.int .i64,.int .i64,.str]),(30,[bh]),(81,[ia]),(4,[.bool]),(104,[eY,.int .i64]),(82,[eY]),(5,[.int .u8]),(27,[ej]),(109,[.int .i64,.int .i64,.int .i64,.int .i64,.int .i64,.int .i64,.int .i64,cY,.bool,.str]),(29,[.int .i64,.str]),(31,[aL])]
theorem aFo:om KM prog KM=true:=by kernel_rfl
def wX:List kN:=[⟨33,true,[cE,cE,aL,aL,.int .i64,fz,ej,.int .i64,.str,bh,bh,aL]⟩]
theorem aFp:(wX.all fun p=>iz KM p.t p.bz)=true:=by kernel_rfl
theorem aFq (ds:List DV) (b:Typed (wX.flatMap (·.bz)) ds) (j:DK ds): ∃n,D T tab gV n yv ds=some (true:Bool):=by
 obtain⟨k,r0,rfl,b⟩:=b;obtain⟨m,r1,rfl,b⟩:=b;obtain⟨p,r2,rfl,b⟩:=b;obtain⟨q,r3,rfl,b⟩:=b;obtain⟨r,r4,rfl,b⟩:=b;obtain⟨s,r5,rfl,b⟩:=b;obtain⟨t,r6,rfl,b⟩:=b;obtain⟨u,r7,rfl,b⟩:=b;obtain⟨z,r8,rfl,b⟩:=b;obtain⟨x9,r9,rfl,b⟩:=b;obtain⟨d,ae,rfl,b⟩:=b;obtain⟨f,g,rfl,b⟩:=b;have b:g=[]:=b;subst b;obtain⟨o0,o1,o2,o3,o4,o5,o6,o7,o8,o9,h,i,_⟩:=j;exact(aEe k m p q r s t u z x9 d f o0 o1 o2 o3 o4 o5 o6 o7 o8 o9 h i).val
def tp:List (String×DataW Unit):=[("math/bits.deBruijn32tab",Rows.laid_math_bits_deBruijn32tab),("math/bits.deBruijn64tab",Rows.laid_math_bits_deBruijn64tab),("internal/strconv.uint64pow10",Rows.laid_internal_strconv_uint64pow10),("unicode/utf8.acceptRanges",Rows.laid_unicode_utf8_acceptRanges),("strconv.ErrRange",Rows.laid_strconv_ErrRange),("strconv.ErrSyntax",Rows.laid_strconv_ErrSyntax),("unicode/utf8.first",Rows.laid_unicode_utf8_first)]
theorem aFr {w:World} (h:laidMet prog tp w):(bE.mk w.heap.size w).has prog "internal/strconv.uint64pow10" .u64 Á:=
 Ym h (List.mem_iff_getElem?.2 ⟨2,by kernel_rfl⟩) (show prog.globalNamed "internal/strconv.uint64pow10" =some 7 by kernel_rfl) (show (prog.globals[7]?).map (·.type)=some 407 by kernel_rfl) (show prog.underlying 407=some (.array 20 361) by kernel_rfl) (show prog.underlying 361=some (.int .u64) by kernel_rfl) (by kernel_rfl) (by kernel_rfl)
theorem aFs {b:World} (h:b.ShapedOpen prog):(bE.mk b.heap.size b).some64 0:=
 Zm (t:=3) h (of_decide_eq_true (by kernel_rfl)) (by kernel_rfl) (by kernel_rfl) (by kernel_rfl) underlying3
theorem aFt {A:Type} {en:TypeId×Value->A} {sp:Nat->Bool} {held:Bool} {args:Array Value} {d:List (DataW A)} {f:List MemPlace} (b:World) (g:laidMet prog tp b) (i:b.ShapedOpen prog) (j:qi wX args.toList) (k:args.size=1) (h:DataW.TrodAll en prog b 0 sp held (wX.map (·.t)) args.toList d f):
  Calls prog 4 args b fun e m=>e=.returned (.bool true)/\Below b.heap.size b m:=by
 obtain⟨ds,p,q,r⟩:=Zf aFo aFp j h;obtain⟨n,s⟩:=aFq ds p (Nb ds q);exact Zg (E:=tab yv) (MH (aFn (aFr g) (aFs i)) n yv ds _ s) rfl rfl rfl rfl k (r (tab yv) ⟨b.heap.size,b⟩ rfl rfl (Nat.le_refl _) (fun _ _=>rfl))
set_option maxRecDepth 100000 in
theorem lifted (os:Os) (started:os.Started) (A:Type) (enc:TypeId×Value->A):
  ReturnsInHanded {} checked os 4 .any (fun w args=>(Rows.fnExactJudgeOnceSpec.pre enc prog f4 [] false w args/\laidMetH prog tp w)/\sizedMet enc prog f4 (OpenSpec.ofChange Rows.fnExactJudgeOnceSpec) false w args)
   (Rows.fnExactJudgeOnceSpec.post enc prog f4 false true false false):=by
 refine Zl (C:=checked) (X:=fun w _=>laidMetH prog tp w) (fun _ _ _ hh h=>h.of_heap hh) own started (by kernel_rfl) func4
  (ChangeSpec.witness_shaped (enc:=enc) (C:=checked) (os:=os) (X:=fun w _=>laidMetH prog tp w) false (World.laidAll prog os tp) #[.agg #[.slice none 0 0,.slice none 0 0,.slice none 0 0,.slice none 0 0,.int .i64 0,.slice none 0 0,.slice none 0 0,.int .i64 0,.string ⟨#[]⟩,.slice none 0 0,.slice none 0 0,.slice none 0 0]] 16 (World.laidAll_os _ _ _)
   (World.shaped_of_ZipB (by kernel_rfl) (by kernel_rfl)) (by kernel_rfl) (by kernel_rfl) (by kernel_rfl)
   (by rw [MakeChecks.laidMetH_plain _ _ _ (by kernel_rfl)];exact laidMet_laidAll _ (by kernel_rfl) (by kernel_rfl))) ?_
 intro b base args ds gs before hS f u _ _ z _;rw [MakeChecks.laidMetH_plain _ _ _ (by kernel_rfl)]at z
 have d: ∀(j:Nat) t v,f4.params[j]? =some t->args[j]? =some v->Value.okWide prog b .any base t v:=f
 have g:=u;obtain⟨p,q,i,hV,rfl,_,_⟩:=u;have k:DataW.TrodAll enc prog b 0 (fun _=>true) true f4.params.toList args.toList ds p:=i
 rw [params4]at k d;have m:=k;obtain⟨v0,d0,rfl,rfl,h0⟩:=trodAll_one k;obtain⟨rfl,rfl⟩:=trodVars_none hV;obtain⟨ae,e0,_⟩:=okWide_struct (show prog.underlying 33=some (.struct (prog.fieldsOf 33)) by kernel_rfl) (d 0 33 v0 rfl rfl)
 simp only [List.append_nil]at g;refine(aFt b z hS (show qi wX [v0]from⟨⟨_,e0⟩,trivial⟩) rfl m).mono fun e W' ⟨he,hb⟩=> ?_
 subst he;obtain⟨r,s⟩:=(show DataW.Trod enc prog b 0 (fun _=>true) true 33 v0 d0 p from h0)
 exact⟨_,rfl,_,_,_,[],_,[],g,trodAll_mk1 (shut_bool (show prog.underlying 4=some .bool by kernel_rfl) _),trodAll_mk1 (Below.trod laidOut (by kernel_rfl) (of_decide_eq_true (by kernel_rfl)) h0 hb (DataW.trod_lt _ _ _ _ s)),rfl,hb.frame _,fun h=>by cases h⟩
theorem holds:Rows.FnExactJudgeOnceSaid:=
 OpenClaim.holds_of_wide 4 f4 rfl rfl rfl rfl rfl rfl rfl ⟨rfl,rfl,rfl,rfl,rfl⟩ rfl rfl rfl rfl rfl (by kernel_rfl) func4 closed
  (of_decide_eq_true (by kernel_rfl)) (by unfold Func.isWrapper;first|(rw [if_pos (by decide +kernel)];kernel_rfl)|(rw [if_neg (by decide +kernel)];exact⟨rfl,rfl⟩))
  (fun os started H enc _=>lifted os started H enc)
theorem fnExactJudgeOnce_card:Rows.FnExactJudgeOnceCardSaid:=
 Claim7.holds_tied_plain_at .later [] [.data,.data,.data,.data,.sentinel,.sentinel,.pinned] true (true, "3fe99607c59be2bbce39c442855025a6d1ab626665539488f166c1b8d2187eda") true holds (fun _ h=>by cases h) (by kernel_rfl) (fun _ h=>by cases h) fnExactJudgeOnce_row_tie rfl ⟨rfl,rfl⟩ (by kernel_rfl) rfl
  (fun f fn i d=>by
   obtain rfl:f=4:=À ((show prog.funcNamed "loop.example/g00289/laws.FnExactJudgeOnce" =some 4 by kernel_rfl).symm.trans i) |>.symm
   obtain rfl:fn=f4:=(À (func4.symm.trans d)).symm;exact⟨by kernel_rfl,fun j t g=>by
    rw [params4]at g;have hm:t∈[33]:=by simpa using Array.mem_of_getElem? g
    have b:([33].all fun u=> !prog.wantsStandIn u)=true:=by kernel_rfl
    exact(show prog.wantsStandIn t=false by simpa using List.all_eq_true.1 b t hm)⟩)
  aEk
#print axioms fnExactJudgeOnce_card
end Go.Proofs.YtfpfjmahdneehaaGreatDoor
