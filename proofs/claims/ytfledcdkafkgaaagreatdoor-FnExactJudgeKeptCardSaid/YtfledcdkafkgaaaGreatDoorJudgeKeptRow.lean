/- FnExactJudgeKept: for every input the law answers true, and its argument reads as before; the listed tables are tied to the program's text. -/
import Derived.Test.YtfledcdkafkgaaaGreatDoorJudgeKeptLaw
import Derived.Test.YtfledcdkafkgaaaGreatDoorJudgeKeptFacts
import Derived.Test.YtfledcdkafkgaaaGreatDoorEv4
import Derived.Test.YtfledcdkafkgaaaGreatDoorEv5
import Derived.Test.YtfledcdkafkgaaaGreatDoorLib
import Derived.Test.YtfledcdkafkgaaaGreatDoorRows
import Derived.Test.YtfledcdkafkgaaaGreatDoorCards
import Derived.Test.YtfledcdkafkgaaaGreatDoorJudgeKeptTie
import Derived.ProofKit
import Derived.Lay
import Derived.MakeChecks
import Derived.SevenTiedAt
import Derived.LaidLaws
import Derived.Handed
import Derived.Carry
open Option.some renaming inj->À
open Go.Lib renaming pow10Tab->Á
open Bool renaming true->å
open Option renaming some->ã
open Go.IntKind renaming i64->ß
namespace Go.Proofs.YtfledcdkafkgaaaGreatDoor
open Go Go.Ev Go.Shelf Go.ChangeShapes Go.WideShapes Go.ChangeAt Go.RowKit Go.Proofs.Tryz
theorem mix:prog.follows .mixedOrders=å:=Ž
theorem own:ownKnob prog.godebug=none:=Ž
theorem laidOut:laidOutB prog=å:=Ž
theorem aGC {gl:bA}: ∀p,IG.bT=ã p-> ∀ds r,p ds=ã r->cR prog gl IG ds r:=by
 intro p hp ds r h;have e:p=Ay:=(À hp).symm;subst e;exact ahO (fun s c w=>Any.strings_IndexByte Tryz.aFX s c w) ds r h
theorem aGD {gl:bA} (hm:gl.some64 0): ∀p,IH.bT=ã p-> ∀ds r,p ds=ã r->cR prog gl IH ds r:=by
 intro p hp ds r h;have e:p=AG:=(À hp).symm;subst e;exact ajS hm (fun s c w=>Any.strings_Contains_one Tryz.adB s c w) (fun s t m w b hm=>Any.strings_Contains Tryz.adB s t m w b hm) ds r h
theorem aGE {gl:bA}: ∀p,II.bT=ã p-> ∀ds r,p ds=ã r->cR prog gl II ds r:=by
 intro p hp ds r h;have e:p=AE:=(À hp).symm;subst e;exact ahQ (fun s n b d w=>Any.strconv_Atoi Tryz.aGa s n b d w) ds r h
theorem aGF {gl:bA}: ∀p,IJ.bT=ã p-> ∀ds r,p ds=ã r->cR prog gl IJ ds r:=by
 intro p hp ds r h;have e:p=Az:=(À hp).symm;subst e;exact ahP (fun a b w=>Any.strings_Compare Tryz.aGc a b w) ds r h
theorem aGG {gl:bA}: ∀p,IK.bT=ã p-> ∀ds r,p ds=ã r->cR prog gl IK ds r:=by
 intro p hp ds r h;have e:p=fI aN:=(À hp).symm;subst e;exact clone279 ds r h
theorem aGH {gl:bA}: ∀p,IL.bT=ã p-> ∀ds r,p ds=ã r->cR prog gl IL ds r:=by
 intro p hp ds r h;have e:p=fI bR:=(À hp).symm;subst e;exact clone280 ds r h
theorem aGI {gl:bA} (d:gl.has prog "internal/strconv.uint64pow10" .u64 Á): ∀p,IP.bT=ã p-> ∀ds r,p ds=ã r->cR prog gl IP ds r:=by
 intro p hp ds r h;have e:p=Ax:=(À hp).symm;subst e;exact ahI d (fun n f g w b=>Any.strconv_Itoa Tryz.aGh n f g w b) ds r h
theorem aGJ {gl:bA}: ∀p,IQ.bT=ã p-> ∀ds r,p ds=ã r->cR prog gl IQ ds r:=by
 intro p hp ds r h;have e:p=tA bR:=(À hp).symm;subst e;exact akF (ts:=ay bR) rfl ŷ rfl (fun _ _ _=>rfl) aGn ds r h
theorem aGK {gl:bA} (_:gl.some64 0): ∀p,IU.bT=ã p-> ∀ds r,p ds=ã r->cR prog gl IU ds r:=by
 intro p hp ds r h;have e:p=wF bR:=(À hp).symm;subst e;exact akD (ts:=ay bR) rfl (fun _ _ _=>rfl) (fun aQ n cap i j cur ty frz w f g k b hm d hj m=>aGo aQ n cap i j cur ty frz w f g k b hm d hj m) (fun a n cap i w hi b hm q=>delE363 a n cap i w hi b hm q) ds r h
theorem aGL {gl:bA} (hm:gl.some64 0): ∀p,IW.bT=ã p-> ∀ds r,p ds=ã r->cR prog gl IW ds r:=by
 intro p hp ds r h;have e:p=wG:=(À hp).symm;subst e;exact ajY hm (fun s m w b hm=>aGs s m w b hm) ds r h
theorem aGM {gl:bA}: ∀p,IX.bT=ã p-> ∀ds r,p ds=ã r->cR prog gl IX ds r:=by
 intro p hp ds r h;have e:p=wH:=(À hp).symm;subst e;exact ajX (fun aQ cap b w d f g=>AnyM.slices_Sort_int Tryz.adF aQ 0 cap b w d f g) (fun p cap w=>AnyM.slices_Sort_int_none Tryz.adF p cap w) ds r h
theorem aGN {gl:bA} (hm:gl.some64 0): ∀p,IY.bT=ã p-> ∀ds r,p ds=ã r->cR prog gl IY ds r:=by
 intro p hp ds r h;have e:p=AF:=(À hp).symm;subst e;exact ajQ hm (fun s t m w b hm=>Any.strings_Index Tryz.aGv s t m w b hm) ds r h
theorem aGO {gl:bA}: ∀p,IZ.bT=ã p-> ∀ds r,p ds=ã r->cR prog gl IZ ds r:=by
 intro p hp ds r h;have e:p=primMul64:=(À hp).symm;subst e;exact ajP (fun x y w b hy=>Any.bits_Mul64 Tryz.aGx x y b hy w) ds r h
theorem aGP {gl:bA}: ∀p,Ja.bT=ã p-> ∀ds r,p ds=ã r->cR prog gl Ja ds r:=by
 intro p hp ds r h;have e:p=fI bh:=(À hp).symm;subst e;exact clone248 ds r h
theorem aGQ {gl:bA}: ∀p,Jb.bT=ã p-> ∀ds r,p ds=ã r->cR prog gl Jb ds r:=by
 intro p hp ds r h;have e:p=fI cw:=(À hp).symm;subst e;exact clone273 ds r h
theorem aGR {gl:bA}:df prog gl Jc:=df.all Ž
theorem aGS {gl:bA}:df prog gl Jd:=df.all Ž
theorem aGT {gl:bA}:df prog gl Je:=df.all Ž
theorem aGU {gl:bA}:df prog gl Jf:=df.all Ž
theorem aGV {gl:bA}:df prog gl Jg:=df.all Ž
theorem aGW {gl:bA} (_:gl.has prog "internal/strconv.uint64pow10" .u64 Á) (_:gl.some64 0):df prog gl Jh:=.no rfl (.no rfl (.no rfl (.no rfl (.no rfl (.no rfl (.no rfl (.no rfl (.no rfl (.no rfl (.no rfl (.no rfl (.no rfl (.no rfl (.no rfl (.no rfl (.no rfl (.no rfl (.no rfl (.no rfl (.no rfl (.no rfl (.no rfl (.no rfl (.no rfl (.no rfl (.no rfl (.no rfl (.no rfl (.no rfl (.no rfl (.no rfl (.cons aGC (df.all Ž)))))))))))))))))))))))))))))))))
theorem aGX {gl:bA} (_:gl.has prog "internal/strconv.uint64pow10" .u64 Á) (hm:gl.some64 0):df prog gl Ji:=.no rfl (.no rfl (.no rfl (.no rfl (.cons (aGD hm) (.no rfl (.no rfl (.no rfl (.no rfl (.no rfl (.no rfl (.no rfl (.no rfl (.no rfl (.no rfl (.no rfl (.no rfl (.cons aGE (.no rfl (.no rfl (.no rfl (.no rfl (.cons aGF (df.all Ž)))))))))))))))))))))))
theorem aGY {gl:bA} (b:gl.has prog "internal/strconv.uint64pow10" .u64 Á) (hm:gl.some64 0):df prog gl Jj:=.no rfl (.no rfl (.no rfl (.no rfl (.no rfl (.no rfl (.no rfl (.no rfl (.no rfl (.no rfl (.cons aGG (.cons aGH (.no rfl (.no rfl (.no rfl (.no rfl (.no rfl (.no rfl (.no rfl (.no rfl (.no rfl (.no rfl (.no rfl (.no rfl (.no rfl (.cons (aGI b) (.no rfl (.no rfl (.no rfl (.no rfl (.no rfl (.no rfl (.no rfl (.no rfl (.no rfl (.cons aGJ (.no rfl (.no rfl (.cons (aGK hm) (df.all Ž)))))))))))))))))))))))))))))))))))))))
theorem aGZ {gl:bA} (_:gl.has prog "internal/strconv.uint64pow10" .u64 Á) (hm:gl.some64 0):df prog gl Jk:=.no rfl (.no rfl (.no rfl (.no rfl (.no rfl (.no rfl (.cons (aGL hm) (.no rfl (.no rfl (.no rfl (.no rfl (.no rfl (.no rfl (.no rfl (.no rfl (.no rfl (.no rfl (.no rfl (.no rfl (.no rfl (.no rfl (.no rfl (.no rfl (.no rfl (.cons aGM (.no rfl (.no rfl (.no rfl (.no rfl (.no rfl (.no rfl (.cons (aGN hm) (.no rfl (.no rfl (.no rfl (.no rfl (.no rfl (.no rfl (.cons aGO (df.all Ž)))))))))))))))))))))))))))))))))))))))
theorem aHa {gl:bA} (_:gl.has prog "internal/strconv.uint64pow10" .u64 Á) (_:gl.some64 0):df prog gl Jl:=.no rfl (.no rfl (.no rfl (.no rfl (.no rfl (.no rfl (.no rfl (.no rfl (.cons aGP (.no rfl (.no rfl (.no rfl (.no rfl (.no rfl (.no rfl (.no rfl (.no rfl (.no rfl (.no rfl (.no rfl (.no rfl (.no rfl (.no rfl (.no rfl (.no rfl (.no rfl (.no rfl (.no rfl (.no rfl (.no rfl (.no rfl (.no rfl (.no rfl (.no rfl (.no rfl (.no rfl (.no rfl (.no rfl (.no rfl (.cons aGQ df.nil)))))))))))))))))))))))))))))))))))))))
theorem prims10 {gl:bA}:df prog gl tabL10:=df.all Ž
theorem adI {gl:bA} (b:gl.has prog "internal/strconv.uint64pow10" .u64 Á) (hm:gl.some64 0):df prog gl Jm:=(((((((((((aGR).app aGS).app aGT).app aGU).app aGV).app (aGW b hm)).app (aGX b hm)).app (aGY b hm)).app (aGZ b hm)).app (aHa b hm)).app prims10)
theorem aHb {gl:bA} (d:gl.has prog "internal/strconv.uint64pow10" .u64 Á) (hm:gl.some64 0):Ht prog gl T tab:=
 agZ mix akU (Ua.ok _ (List.mem_cons_self ..)) akV (fun x b=>by
  rcases List.mem_cons.1 b with rfl|b
  .exact(adI d hm).ok _ (List.mem_cons_self ..)
  .exact(adI d hm).ok x b)
def PS:List (TypeId×List CT):=[(33,[cE,cE,aN,aN,.int ß,gb,eD,.int ß,.str,bh,bh,aN]),(25,[cE,cE,aN,aN]),(22,[cE]),(9,[.str]),(23,[aN]),(141,[.int ß,.int ß,.str]),(3,[.int ß]),(26,[gb]),(100,[.int ß,.int ß,.int ß,.int ß,.int ß,cw,aN,bR,.int ß,.int ß,bh,.str,.int ß,iY,bh,bh,.int ß,aN,bR,.int ß,.int ß,bh,.str,eT,.int ß,eD]),(97,[.int ß,.int ß,.int ß,.int ß,cw,aN,bR,.int ß,.int ß,bh,.str]),(89,[.int ß,.int ß,cw]),(87,[cw]),(195,[.int ß,.int ß,.int ß,.str]),(106,[.int ß,.int ß,.str]),(95,[aN,bR,.int ß,.int ß,bh,.str]),(93,[aN,bR,.int ß,.int ß]),(90,[aN]),(279,[.int ß,.int ß,.str]),(91,[bR]),(282,[.int ß,.str,.int ß,.int ß,.str]),(30,[bh]),(66,[iY]),(4,[.bool]),(98,[eT,.int ß]),(67,[eT]),(5,[.int .u8]),(27,[eD]),(103,[.int ß,.int ß,.int ß,.int ß,.int ß,.int ß,.int ß,cw,.bool,.str]),(29,[.int ß,.str]),(31,[aN])]
theorem aHc:pT PS prog PS=å:=Ž
def zB:List mh:=[⟨33,å,[cE,cE,aN,aN,.int ß,gb,eD,.int ß,.str,bh,bh,aN]⟩]
theorem aHd:(zB.all fun p=>jo PS p.t p.bu)=å:=Ž
theorem aHe (ds:List DV) (b:Typed (zB.flatMap (·.bu)) ds) (j:HE ds): ∃n,D T tab iL n Bq ds=ã (å:Bool):=by
 obtain⟨k,r0,rfl,b⟩:=b;obtain⟨m,r1,rfl,b⟩:=b;obtain⟨p,r2,rfl,b⟩:=b;obtain⟨q,r3,rfl,b⟩:=b;obtain⟨r,r4,rfl,b⟩:=b;obtain⟨s,r5,rfl,b⟩:=b;obtain⟨t,r6,rfl,b⟩:=b;obtain⟨u,r7,rfl,b⟩:=b;obtain⟨z,r8,rfl,b⟩:=b;obtain⟨x9,r9,rfl,b⟩:=b;obtain⟨d,ae,rfl,b⟩:=b;obtain⟨f,g,rfl,b⟩:=b;have b:g=[]:=b;subst b;obtain⟨o0,o1,o2,o3,o4,o5,o6,o7,o8,o9,h,i,_⟩:=j;exact(aFP k m p q r s t u z x9 d f o0 o1 o2 o3 o4 o5 o6 o7 o8 o9 h i).val
def vu:List (String×DataW Unit):=[("unicode/utf8.first",Rows.laid_unicode_utf8_first),("unicode/utf8.acceptRanges",Rows.laid_unicode_utf8_acceptRanges),("strconv.ErrSyntax",Rows.laid_strconv_ErrSyntax),("strconv.ErrRange",Rows.laid_strconv_ErrRange),("internal/strconv.uint64pow10",Rows.laid_internal_strconv_uint64pow10),("math/bits.deBruijn32tab",Rows.laid_math_bits_deBruijn32tab),("math/bits.deBruijn64tab",Rows.laid_math_bits_deBruijn64tab)]
theorem aHf {w:World} (h:laidMet prog vu w):(bA.mk w.heap.size w).has prog "internal/strconv.uint64pow10" .u64 Á:=
 ahM h (List.mem_iff_getElem?.2 ⟨4,Ž⟩) (show prog.globalNamed "internal/strconv.uint64pow10" =ã 7 by kernel_rfl) (show (prog.globals[7]?).map (·.type)=ã 453 by kernel_rfl) (show prog.underlying 453=ã (.array 20 406) by kernel_rfl) (show prog.underlying 406=ã (.int .u64) by kernel_rfl) Ž Ž
theorem aHg {W:World} (h:W.ShapedOpen prog):(bA.mk W.heap.size W).some64 0:=
 ajU (t:=3) h (of_decide_eq_true Ž) Ž Ž Ž underlying3
theorem aHh {A:Type} {en:TypeId×Value->A} {sp:Nat->Bool} {held:Bool} {args:Array Value} {d:List (DataW A)} {b:List MemPlace} (W:World) (f:laidMet prog vu W) (g:W.ShapedOpen prog) (i:rL zB args.toList) (j:args.size=1) (h:DataW.TrodAll en prog W 0 sp held (zB.map (·.t)) args.toList d b):
  Calls prog 3 args W fun e k=>e=.returned (.bool å)/\Below W.heap.size W k:=by
 obtain⟨ds,m,p,q⟩:=ajN aHc aHd i h;obtain⟨n,r⟩:=aHe ds m (Sf ds p);exact ajO (E:=tab Bq) (RL (aHb (aHf f) (aHg g)) n Bq ds _ r) rfl rfl rfl rfl j (q (tab Bq) ⟨W.heap.size,W⟩ rfl rfl (Nat.le_refl _) (fun _ _=>rfl))
set_option maxRecDepth 100000 in
theorem lifted (os:Os) (started:os.Started) (A:Type) (enc:TypeId×Value->A):
  ReturnsInHanded {} checked os 3 .any (fun w args=>(Rows.fnExactJudgeKeptSpec.pre enc prog f3 [] false w args/\laidMetH prog vu w)/\sizedMet enc prog f3 (OpenSpec.ofChange Rows.fnExactJudgeKeptSpec) false w args)
   (Rows.fnExactJudgeKeptSpec.post enc prog f3 false å false false):=by
 refine ajT (C:=checked) (X:=fun w _=>laidMetH prog vu w) (fun _ _ _ hh h=>h.of_heap hh) own started Ž func3
  (ChangeSpec.witness_shaped (enc:=enc) (C:=checked) (os:=os) (X:=fun w _=>laidMetH prog vu w) false (World.laidAll prog os vu) #[.agg #[.slice none 0 0,.slice none 0 0,.slice none 0 0,.slice none 0 0,.int ß 0,.slice none 0 0,.slice none 0 0,.int ß 0,.string ⟨#[]⟩,.slice none 0 0,.slice none 0 0,.slice none 0 0]] 16 (World.laidAll_os _ _ _)
   (World.shaped_of_ZipB Ž Ž) Ž Ž Ž
   (by rw [MakeChecks.laidMetH_plain _ _ _ Ž];exact laidMet_laidAll _ Ž Ž)) ?_
 intro W base args ds gs before hS d s _ _ u _;rw [MakeChecks.laidMetH_plain _ _ _ Ž]at u
 have b: ∀(j:Nat) t v,f3.params[j]? =ã t->args[j]? =ã v->Value.okWide prog W .any base t v:=d
 have f:=s;obtain⟨p,q,g,hV,rfl,_,_⟩:=s;have i:DataW.TrodAll enc prog W 0 (fun _=>å) å f3.params.toList args.toList ds p:=g
 rw [params3]at i b;have k:=i;obtain⟨v0,d0,rfl,rfl,z⟩:=trodAll_one i;obtain⟨rfl,rfl⟩:=trodVars_none hV;obtain⟨ad,e0,_⟩:=okWide_struct (show prog.underlying 33=ã (.struct (prog.fieldsOf 33)) by kernel_rfl) (b 0 33 v0 rfl rfl)
 simp only [List.append_nil]at f;refine(aHh W u hS (show rL zB [v0]from⟨⟨_,e0⟩,trivial⟩) rfl k).mono fun e W' ⟨he,hb⟩=> ?_
 subst he;obtain⟨m,r⟩:=(show DataW.Trod enc prog W 0 (fun _=>å) å 33 v0 d0 p from z)
 exact⟨_,rfl,_,_,_,[],_,[],f,trodAll_mk1 (shut_bool (show prog.underlying 4=ã .bool by kernel_rfl) _),trodAll_mk1 (Below.trod laidOut Ž (of_decide_eq_true Ž) z hb (DataW.trod_lt _ _ _ _ r)),rfl,hb.frame _,fun h=>ņ⟩
theorem holds:Rows.FnExactJudgeKeptSaid:=
 OpenClaim.holds_of_wide 3 f3 rfl rfl rfl rfl rfl rfl rfl ⟨rfl,rfl,rfl,rfl,rfl⟩ rfl rfl rfl rfl rfl Ž func3 closed
  (of_decide_eq_true Ž) (by unfold Func.isWrapper;first|(rw [if_pos ų];kernel_rfl)|(rw [if_neg ų];exact⟨rfl,rfl⟩))
  (fun os started H enc _=>lifted os started H enc)
theorem fnExactJudgeKept_card:Rows.FnExactJudgeKeptCardSaid:=
 Claim7.holds_tied_plain_at .later [] [.pinned,.data,.sentinel,.sentinel,.data,.data,.data] å (å, "32adf88b203457e8b700dde047850c245e4f0a130f0573504a5b3a5000ab8074") å holds (fun _ h=>ņ) Ž (fun _ h=>ņ) fnExactJudgeKept_row_tie rfl ⟨rfl,rfl⟩ Ž rfl
  (fun f fn i d=>by
   obtain rfl:f=3:=À ((show prog.funcNamed "loop.example/g00289/laws.FnExactJudgeKept" =ã 3 by kernel_rfl).symm.trans i) |>.symm
   obtain rfl:fn=f3:=(À (func3.symm.trans d)).symm;exact⟨Ž,fun j t g=>by
    rw [params3]at g;have hm:t∈[33]:=by simpa using Array.mem_of_getElem? g
    have b:([33].all fun u=> !prog.wantsStandIn u)=å:=Ž
    exact(show prog.wantsStandIn t=false by simpa using List.all_eq_true.1 b t hm)⟩)
  aFV
#print axioms fnExactJudgeKept_card
end Go.Proofs.YtfledcdkafkgaaaGreatDoor
