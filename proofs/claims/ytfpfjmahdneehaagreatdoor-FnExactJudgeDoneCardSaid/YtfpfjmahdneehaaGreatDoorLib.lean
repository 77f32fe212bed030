/- Contracts of the library, laid for this program. -/
import Derived.KernelRfl
import Derived.Lib.SliceRun
import Derived.Shelf.Bits.Mul64
import Derived.Shelf.SlicesE.Clone
import Derived.Shelf.SlicesE.Delete
import Derived.Shelf.SlicesE.DeleteFunc
import Derived.Shelf.Small.Strs
import Derived.Shelf.SortM.Plain
import Derived.Shelf.SortM.SortNone
import Derived.Shelf.Spec.SlicesInsertGrow
import Derived.Shelf.Strconv.Atoi
import Derived.Shelf.Strconv.Itoa3
import Derived.Shelf.Strings.Search3
import Derived.Shelf.Strings.Split
import Derived.Test.YtfpfjmahdneehaaGreatDoorEv5
import Derived.Test.YtfpfjmahdneehaaGreatDoorProg
import Derived.Test.YtfpfjmahdneehaaGreatDoorTab
open Go.Builtin renaming zeroCells->À,copy_->Í,append_->Ð,firstCells->Ô,clear_->Ú
open Go.Shelf renaming Ren->Á
open Array renaming length_toList->Â
open List renaming length_take->Ã,mem_of_mem_drop->Ê,getElem?_drop->Ì,length_drop->Î,length_eq_zero_iff->Ï,getElem?_take->Õ
open Nat renaming mul_le_mul_left->Ä,zero_add->Ç,le_trans->É,min_def->Ñ,min->Ù
open Go.Addr renaming add_lit->Å
open Go.Lib renaming wpList_append_run->Æ
open Go.Proofs.SlLaysE0 renaming n41->È
open Go.Value renaming string->Ë,cells->Ó,oneCell'->Ø
open Go.Act renaming eval->Ò,put->Ö
namespace Go.Proofs.YtfpfjmahdneehaaGreatDoor
open Go Go.Ev Go.Shelf Go.RowKit Go.Lib Go.Sort Go.Proofs.Tryz
def Tryz.aFS:Á:=⟨fun|137=>399|217=>275|266=>323|n=>n,fun|9=>9|5=>5|3=>3|n=>n,fun|n=>n⟩
theorem Tryz.aFT:Go.Proofs.Lays.n137 prog Tryz.aFS where
 mixed:=by kernel_rfl
 f137:=hZ func399 (by kernel_rfl)
 f217:=hZ func275 (by kernel_rfl)
 f266:=hZ func323 (by kernel_rfl)
 t3:=underlying3
 a3:=isAgg3
 z3:=sizeOf3
 v3:=zeroValue3
 t5:=underlying5
 a5:=isAgg5
 z5:=sizeOf5
 v5:=zeroValue5
 t9:=underlying9
 a9:=isAgg9
 z9:=sizeOf9
 v9:=zeroValue9
def Tryz.aFU:Á:=⟨fun|144=>170|143=>203|219=>231|217=>275|225=>276|224=>277|267=>278|266=>323|314=>324|n=>n,fun|9=>9|4=>4|3=>3|5=>5|46=>308|146=>332|51=>331|n=>n,fun|1=>0|n=>n⟩
theorem Tryz.Xr:Go.Proofs.Lays.n144 prog Tryz.aFU where
 mixed:=by kernel_rfl
 f143:=hZ func203 (by kernel_rfl)
 f144:=hZ func170 (by kernel_rfl)
 f217:=hZ func275 (by kernel_rfl)
 f219:=hZ func231 (by kernel_rfl)
 f224:=hZ func277 (by kernel_rfl)
 f225:=hZ func276 (by kernel_rfl)
 f266:=hZ func323 (by kernel_rfl)
 f267:=hZ func278 (by kernel_rfl)
 f314:=hZ func324 (by kernel_rfl)
 t3:=underlying3
 a3:=isAgg3
 z3:=sizeOf3
 v3:=zeroValue3
 t4:=underlying4
 a4:=isAgg4
 z4:=sizeOf4
 v4:=zeroValue4
 t5:=underlying5
 a5:=isAgg5
 z5:=sizeOf5
 v5:=zeroValue5
 t9:=underlying9
 a9:=isAgg9
 z9:=sizeOf9
 v9:=zeroValue9
 t46:=underlying308
 a46:=isAgg308
 z46:=sizeOf308
 v46:=zeroValue308
 t51:=underlying331
 a51:=isAgg331
 z51:=sizeOf331
 v51:=zeroValue331
 t146:=underlying332
 a146:=isAgg332
 z146:=sizeOf332
 v146:=zeroValue332
 g1:=by kernel_rfl
def Tryz.aFV:Á:=⟨fun|172=>348|244=>372|245=>373|247=>394|279=>395|280=>396|281=>397|282=>398|287=>418|316=>419|171=>329|205=>420|321=>428|322=>429|243=>355|246=>378|283=>402|284=>403|285=>404|286=>405|129=>412|317=>421|318=>422|319=>423|320=>424|337=>430|338=>431|n=>n,fun|9=>9|3=>3|75=>347|76=>348|4=>4|5=>5|167=>380|37=>82|0=>0|85=>381|2=>2|168=>383|53=>361|175=>402|46=>308|210=>405|127=>413|145=>416|143=>414|21=>21|171=>392|173=>394|212=>407|51=>331|20=>20|213=>408|232=>425|233=>426|80=>435|n=>n,fun|15=>5|16=>6|17=>7|18=>8|19=>9|n=>n⟩
theorem Tryz.aFW:Go.Proofs.Lays.n172 prog Tryz.aFV where
 mixed:=by kernel_rfl
 f129:=hZ func412 (by kernel_rfl)
 f171:=hZ func329 (by kernel_rfl)
 f172:=hZ func348 (by kernel_rfl)
 f205:=hZ func420 (by kernel_rfl)
 f243:=hZ func355 (by kernel_rfl)
 f244:=hZ func372 (by kernel_rfl)
 f245:=hZ func373 (by kernel_rfl)
 f246:=hZ func378 (by kernel_rfl)
 f247:=hZ func394 (by kernel_rfl)
 f279:=hZ func395 (by kernel_rfl)
 f280:=hZ func396 (by kernel_rfl)
 f281:=hZ func397 (by kernel_rfl)
 f282:=hZ func398 (by kernel_rfl)
 f283:=hZ func402 (by kernel_rfl)
 f284:=hZ func403 (by kernel_rfl)
 f285:=hZ func404 (by kernel_rfl)
 f286:=hZ func405 (by kernel_rfl)
 f287:=hZ func418 (by kernel_rfl)
 f316:=hZ func419 (by kernel_rfl)
 f317:=hZ func421 (by kernel_rfl)
 f318:=hZ func422 (by kernel_rfl)
 f319:=hZ func423 (by kernel_rfl)
 f320:=hZ func424 (by kernel_rfl)
 f321:=hZ func428 (by kernel_rfl)
 f322:=hZ func429 (by kernel_rfl)
 f337:=hZ func430 (by kernel_rfl)
 f338:=hZ func431 (by kernel_rfl)
 t0:=underlying0
 a0:=isAgg0
 z0:=sizeOf0
 v0:=zeroValue0
 t2:=underlying2
 a2:=isAgg2
 z2:=sizeOf2
 v2:=zeroValue2
 t3:=underlying3
 a3:=isAgg3
 z3:=sizeOf3
 v3:=zeroValue3
 t4:=underlying4
 a4:=isAgg4
 z4:=sizeOf4
 v4:=zeroValue4
 t5:=underlying5
 a5:=isAgg5
 z5:=sizeOf5
 v5:=zeroValue5
 t9:=underlying9
 a9:=isAgg9
 z9:=sizeOf9
 v9:=zeroValue9
 t20:=underlying20
 a20:=isAgg20
 z20:=sizeOf20
 v20:=zeroValue20
 t21:=underlying21
 a21:=isAgg21
 z21:=sizeOf21
 v21:=zeroValue21
 t37:=underlying82
 a37:=isAgg82
 z37:=sizeOf82
 v37:=zeroValue82
 t46:=underlying308
 a46:=isAgg308
 z46:=sizeOf308
 v46:=zeroValue308
 t51:=underlying331
 a51:=isAgg331
 z51:=sizeOf331
 v51:=zeroValue331
 t53:=underlying361
 a53:=isAgg361
 z53:=sizeOf361
 v53:=zeroValue361
 t75:=underlying347
 a75:=isAgg347
 z75:=sizeOf347
 v75:=zeroValue347
 t76:=underlying348
 a76:=isAgg348
 z76:=sizeOf348
 v76:=zeroValue348
 t85:=underlying381
 a85:=isAgg381
 z85:=sizeOf381
 v85:=zeroValue381
 t127:=underlying413
 a127:=isAgg413
 z127:=sizeOf413
 v127:=zeroValue413
 t143:=underlying414
 a143:=isAgg414
 z143:=sizeOf414
 v143:=zeroValue414
 t145:=underlying416
 a145:=isAgg416
 z145:=sizeOf416
 v145:=zeroValue416
 t167:=underlying380
 a167:=isAgg380
 z167:=sizeOf380
 v167:=zeroValue380
 t168:=underlying383
 a168:=isAgg383
 z168:=sizeOf383
 v168:=zeroValue383
 t171:=underlying392
 a171:=isAgg392
 z171:=sizeOf392
 v171:=zeroValue392
 t173:=underlying394
 a173:=isAgg394
 z173:=sizeOf394
 v173:=zeroValue394
 t175:=underlying402
 a175:=isAgg402
 z175:=sizeOf402
 v175:=zeroValue402
 t210:=underlying405
 a210:=isAgg405
 z210:=sizeOf405
 v210:=zeroValue405
 t212:=underlying407
 a212:=isAgg407
 z212:=sizeOf407
 v212:=zeroValue407
 t213:=underlying408
 a213:=isAgg408
 z213:=sizeOf408
 t232:=underlying425
 a232:=isAgg425
 z232:=sizeOf425
 v232:=zeroValue425
 t233:=underlying426
 a233:=isAgg426
 z233:=sizeOf426
 v233:=zeroValue426
 g15:=by kernel_rfl
 g16:=by kernel_rfl
 g17:=by kernel_rfl
 g18:=by kernel_rfl
 g19:=by kernel_rfl
def Tryz.aFX:Á:=⟨fun|106=>230|213=>274|265=>322|n=>n,fun|9=>9|3=>3|n=>n,fun|n=>n⟩
theorem Tryz.aFY:Go.Proofs.Lays.n106 prog Tryz.aFX where
 mixed:=by kernel_rfl
 f106:=hZ func230 (by kernel_rfl)
 f213:=hZ func274 (by kernel_rfl)
 f265:=hZ func322 (by kernel_rfl)
 t3:=underlying3
 a3:=isAgg3
 z3:=sizeOf3
 v3:=zeroValue3
 t9:=underlying9
 a9:=isAgg9
 z9:=sizeOf9
 v9:=zeroValue9
def Tryz.aFZ:Á:=⟨fun|41=>204|n=>n,fun|22=>54|23=>140|4=>4|n=>n,fun|n=>n⟩
theorem Tryz.laysClone204:È prog Tryz.aFZ where
 mixed:=by kernel_rfl
 f41:=⟨"slices.Clone[[]loop.example/g00289/impl.Val,loop.example/g00289/impl.Val]",by decide,hZ func204 (by kernel_rfl)⟩
 t4:=underlying4
 a4:=isAgg4
 z4:=sizeOf4
 v4:=zeroValue4
 t22:=underlying54
 a22:=isAgg54
 z22:=sizeOf54
 v22:=zeroValue54
noncomputable def info140:TypeInfo:=(prog.info? 140).get (by kernel_rfl)
theorem Xt:prog.info? 140=some info140:=by kernel_rfl
theorem aGa:info140.bytes<=1024:=by decide +kernel
theorem clone204 {gl:bF} {fn:Func} (ds:List DV) (r:bO [aL]) (h:gK aL ds=some r):cW prog gl {f:=204,fn:=fn,ins:=[.one (.sh aL)],bx:=[],outs:=.one (.own aL),bP:=[],loops:=[],cQ:=[],bI:=[aL],cg:=some (gK aL)} ds r:=
 Fp (ts:=ak aL) (e:=140) rfl (fun _=>rfl) (fun b off n c news w i g d j=>(AnyE.slices_Clone Tryz.laysClone204 info140 (.agg #[.int .i64 0,.int .i64 0,.string ⟨#[]⟩]) 3 info140.bytes Xt (by kernel_rfl) (by kernel_rfl) rfl rfl (by decide) sizeOf140 b off n c news w i (by unfold maxLen;unfold aC at g;omega) (É (Ä _ aGa) (by unfold aC at g;omega)) d j).mono (fun e w' h=>by obtain⟨k,m,p, -,q⟩:=h;exact⟨k,m,p,q⟩))
  (fun a c w=>Fv Tryz.laysClone204 info140 (.agg #[.int .i64 0,.int .i64 0,.string ⟨#[]⟩]) 3 info140.bytes Xt (by kernel_rfl) (by kernel_rfl) rfl rfl (by decide) sizeOf140 a c w) (fun n c w=>AnyE.slices_Clone_nil Tryz.laysClone204 n c w) ds r h
def Tryz.aGb:Á:=⟨fun|41=>205|n=>n,fun|22=>55|23=>143|4=>4|n=>n,fun|n=>n⟩
theorem Tryz.laysClone205:È prog Tryz.aGb where
 mixed:=by kernel_rfl
 f41:=⟨"slices.Clone[[]loop.example/g00289/impl.Cell,loop.example/g00289/impl.Cell]",by decide,hZ func205 (by kernel_rfl)⟩
 t4:=underlying4
 a4:=isAgg4
 z4:=sizeOf4
 v4:=zeroValue4
 t22:=underlying55
 a22:=isAgg55
 z22:=sizeOf55
 v22:=zeroValue55
noncomputable def info143:TypeInfo:=(prog.info? 143).get (by kernel_rfl)
theorem pP:prog.info? 143=some info143:=by kernel_rfl
theorem LN:info143.bytes<=1024:=by decide +kernel
theorem clone205 {gl:bF} {fn:Func} (ds:List DV) (r:bO [bQ]) (h:gK bQ ds=some r):cW prog gl {f:=205,fn:=fn,ins:=[.one (.sh bQ)],bx:=[],outs:=.one (.own bQ),bP:=[],loops:=[],cQ:=[],bI:=[bQ],cg:=some (gK bQ)} ds r:=
 Fp (ts:=ak bQ) (e:=143) rfl (fun _=>rfl) (fun b off n c news w i g d j=>(AnyE.slices_Clone Tryz.laysClone205 info143 (.agg #[.int .i64 0,.string ⟨#[]⟩,.int .i64 0,.int .i64 0,.string ⟨#[]⟩]) 5 info143.bytes pP (by kernel_rfl) (by kernel_rfl) rfl rfl (by decide) sizeOf143 b off n c news w i (by unfold maxLen;unfold aC at g;omega) (É (Ä _ LN) (by unfold aC at g;omega)) d j).mono (fun e w' h=>by obtain⟨k,m,p, -,q⟩:=h;exact⟨k,m,p,q⟩))
  (fun a c w=>Fv Tryz.laysClone205 info143 (.agg #[.int .i64 0,.string ⟨#[]⟩,.int .i64 0,.int .i64 0,.string ⟨#[]⟩]) 5 info143.bytes pP (by kernel_rfl) (by kernel_rfl) rfl rfl (by decide) sizeOf143 a c w) (fun n c w=>AnyE.slices_Clone_nil Tryz.laysClone205 n c w) ds r h
def Tryz.aGc:Á:=⟨fun|171=>329|243=>355|246=>378|283=>402|284=>403|285=>404|286=>405|129=>412|317=>421|318=>422|319=>423|320=>424|337=>430|338=>431|n=>n,fun|3=>3|9=>9|2=>2|4=>4|171=>392|0=>0|53=>361|37=>82|5=>5|173=>394|212=>407|51=>331|20=>20|213=>408|46=>308|232=>425|233=>426|n=>n,fun|17=>7|18=>8|19=>9|n=>n⟩
theorem Tryz.aGd:Go.Proofs.LaysM.n171 prog Tryz.aGc where
 mixed:=by kernel_rfl
 f129:=hZ func412 (by kernel_rfl)
 f171:=hZ func329 (by kernel_rfl)
 f243:=hZ func355 (by kernel_rfl)
 f246:=hZ func378 (by kernel_rfl)
 f283:=hZ func402 (by kernel_rfl)
 f284:=hZ func403 (by kernel_rfl)
 f285:=hZ func404 (by kernel_rfl)
 f286:=hZ func405 (by kernel_rfl)
 f317:=hZ func421 (by kernel_rfl)
 f318:=hZ func422 (by kernel_rfl)
 f319:=hZ func423 (by kernel_rfl)
 f320:=hZ func424 (by kernel_rfl)
 f337:=hZ func430 (by kernel_rfl)
 f338:=hZ func431 (by kernel_rfl)
 t0:=underlying0
 a0:=isAgg0
 z0:=sizeOf0
 v0:=zeroValue0
 t2:=underlying2
 a2:=isAgg2
 z2:=sizeOf2
 v2:=zeroValue2
 t3:=underlying3
 a3:=isAgg3
 z3:=sizeOf3
 v3:=zeroValue3
 t4:=underlying4
 a4:=isAgg4
 z4:=sizeOf4
 v4:=zeroValue4
 t5:=underlying5
 a5:=isAgg5
 z5:=sizeOf5
 v5:=zeroValue5
 t9:=underlying9
 a9:=isAgg9
 z9:=sizeOf9
 v9:=zeroValue9
 t20:=underlying20
 a20:=isAgg20
 z20:=sizeOf20
 v20:=zeroValue20
 t37:=underlying82
 a37:=isAgg82
 z37:=sizeOf82
 v37:=zeroValue82
 t46:=underlying308
 a46:=isAgg308
 z46:=sizeOf308
 v46:=zeroValue308
 t51:=underlying331
 a51:=isAgg331
 z51:=sizeOf331
 v51:=zeroValue331
 t53:=underlying361
 a53:=isAgg361
 z53:=sizeOf361
 v53:=zeroValue361
 t171:=underlying392
 a171:=isAgg392
 z171:=sizeOf392
 v171:=zeroValue392
 t173:=underlying394
 a173:=isAgg394
 z173:=sizeOf394
 v173:=zeroValue394
 t212:=underlying407
 a212:=isAgg407
 z212:=sizeOf407
 v212:=zeroValue407
 t213:=underlying408
 a213:=isAgg408
 z213:=sizeOf408
 t232:=underlying425
 a232:=isAgg425
 z232:=sizeOf425
 v232:=zeroValue425
 t233:=underlying426
 a233:=isAgg426
 z233:=sizeOf426
 v233:=zeroValue426
 g17:=by kernel_rfl
 g18:=by kernel_rfl
 g19:=by kernel_rfl
 i0:=by kernel_rfl
 i2:=by kernel_rfl
 i3:=by kernel_rfl
 i4:=by kernel_rfl
 i5:=by kernel_rfl
 i9:=by kernel_rfl
 i20:=by kernel_rfl
 i37:=by kernel_rfl
 i46:=by kernel_rfl
 i51:=by kernel_rfl
 i53:=by kernel_rfl
 i171:=by kernel_rfl
 i173:=by kernel_rfl
 i212:=by kernel_rfl
 i232:=by kernel_rfl
 i233:=by kernel_rfl
 m17:=by kernel_rfl
 m18:=by kernel_rfl
 m19:=by kernel_rfl
def zero143:Value:=.agg #[.int .i64 0,.string ⟨#[]⟩,.int .i64 0,.int .i64 0,.string ⟨#[]⟩]
theorem Xu:info143.zero=some zero143:=by kernel_rfl
theorem nW:info143.size=5:=by kernel_rfl
set_option maxHeartbeats 4000000 in
set_option maxRecDepth 1000000 in
theorem aGe (aO n c i vb m vc:Nat) (cur ck:Array Value) (ty dW:TypeId) (w:World) (hg:Go.Ev.hp w aO=some (.cells cur ty (0,0))) (d:Go.Ev.hp w vb=some (.cells ck dW (0,0))) (az:cur.size=c*5) (ar:ck.size=vc*5) (hi:i<n) (hm:0<m) (bh:m<=vc) (a1:n+m<=c) (bg:c<=9223372036854775807) (au:vb≠aO)
  (af: ∀u∈cur.toList.take (n*5),u.oneCell'=true) (ag: ∀u∈ck.toList.take (m*5),u.oneCell'=true):
  Calls prog 328 #[.slice (some ⟨aO,0,none⟩) n c,.int .i64 i,.slice (some ⟨vb,0,none⟩) m vc] w fun e w'=>e=.returned (.slice (some ⟨aO,0,none⟩) (n+m) c)/\w'=(w.drew.setCells aO ((i+m)*5) ((cur.toList.take (n*5)).drop (i*5))).setCells aO (i*5) (ck.toList.take (m*5)):=by
 have ah:=underlying55;have a6:=sizeOf143;have mixed:prog.follows .mixedOrders=true:=by kernel_rfl
 have bj:=run_underlying underlying55;have z:(prog.info? 143).map (·.size)=some 5:=by rw [pP];simp [nW]
 have ai:=Go.Ev.qE hg (n*5);have aj:=Go.Ev.qE d (m*5);obtain⟨cs,f⟩: ∃cs,cs=cur.toList.take (n*5):=⟨_,rfl⟩
 obtain⟨vs,g⟩: ∃vs,vs=ck.toList.take (m*5):=⟨_,rfl⟩
 have av:cs.length=n*5:=by rw [f,Ã,Â];omega
 have ak:vs.length=m*5:=by rw [g,Ã,Â];omega
 rw [<-f]at af ai |-;rw [<-g]at ag aj |-;have bk: ¬((m:Int)=0):=by omega
 have bm: ¬((i:Int)=(n:Int)):=by omega
 have s: ∀j,j<(n+m)*5->(w.cell? ⟨aO,j,none⟩).isSome=true:=fun j hj=>Go.Ev.PB hg (by omega)
 have al: ∀j,w.frozen? ⟨aO,j,none⟩=false:=fun j=>frozen_of_row w aO j cur ty hg
 have a7: ∀lb cb,(callFunc 353 #[.slice (some ⟨vb,0,none⟩) m vc,.slice (some ⟨aO,(i+m)*5,none⟩) lb cb]).run prog w=.ok (.value (.bool false)) w:=fun lb cb=>by
  rw [run_callFunc_extern func353 (by kernel_rfl) (by kernel_rfl) (by kernel_rfl) (e:=Extern.SlicesOverlaps.overlaps #[55,55] #[4]) (by kernel_rfl),
   Lib.run_overlaps_apart w 55 4 143 ah 5 a6 ⟨vb,0,none⟩ ⟨aO,(i+m)*5,none⟩ m vc lb cb au dW ty _ _ (Go.Ev.PD d) (Go.Ev.PD hg) (by omega) (frozen_of_row w vb 0 ck dW d) (frozen_of_row w vb _ ck dW d)]
  rfl
 have t:(cs.drop (i*5)).length=(n-i)*5:=by rw [Î,av];omega
 have bn:IntKind.i64.wrap ((i:Int)+(m:Int))=(i:Int)+(m:Int):=by rw [IntKind.wrap_i64];omega
 have bo:(0:Int)<=(i:Int)+(m:Int):=by omega
 have bp:i<=n:=by omega
 have bq:((i:Int)+(m:Int)).toNat=i+m:=by omega
 have br: ¬(c=i+m):=by omega
 have bt:(i:Int)<=(n:Int)+(m:Int):=by omega
 have bu: ¬(c=i):=by omega
 have p:Ù (n+m-i) (n+m-(i+m))=n-i:=by simp only [Ñ];split<;>omega
 have q:Ù m (n+m-i)=m:=by simp only [Ñ];split<;>omega
 have ad: ∀ty dc sc,(Í #[55,55] ty #[.slice (some ⟨aO,(i+m)*5,none⟩) (n+m-(i+m)) dc,.slice (some ⟨aO,i*5,none⟩) (n+m-i) sc]).run prog w.drew=.ok (goInt ((n-i:Nat):Int)) (w.drew.setCells aO ((i+m)*5) (cs.drop (i*5))):=fun ty dc sc=>by
  have:=Go.Ev.yV w.drew 55 55 ty 143 5 aO ((i+m)*5) (n+m-(i+m)) dc ⟨aO,i*5,none⟩ (n+m-i) sc (cs.drop (i*5)) ah z (by rw [t,p])
   (fun j v hj=>by rw [Å];exact ai (i*5+j) v (by rwa [Ì]at hj))
   (fun j hj=>s _ (by rw [t]at hj;omega)) (fun j hj=>al _) (fun v hv=>af v (Ê hv))
  rw [p]at this;exact this
 obtain⟨W1,r⟩: ∃W1,W1=w.drew.setCells aO ((i+m)*5) (cs.drop (i*5)):=⟨_,rfl⟩
 have ae: ∀k,k<(n+m)*5->(W1.cell? ⟨aO,k,none⟩).isSome=true:=fun k hk=>by
  rw [r];exact Go.Ev.isSome_setCells aO (cs.drop (i*5)) ((i+m)*5) w.drew (fun j hj=>s _ (by rw [t]at hj;omega)) _ (s k hk)
 have ax: ∀(b:World),(∀x,b.cell? x=W1.cell? x)->(∀x,b.frozen? x=W1.frozen? x)-> ∀ty dc,(Í #[55,55] ty #[.slice (some ⟨aO,i*5,none⟩) (n+m-i) dc,.slice (some ⟨vb,0,none⟩) m vc]).run prog b=.ok (goInt m) (b.setCells aO (i*5) vs):=fun b ay bf ty dc=>by
  have:=Go.Ev.yV b 55 55 ty 143 5 aO (i*5) (n+m-i) dc ⟨vb,0,none⟩ m vc vs ah z (by rw [ak,q])
   (fun j v hj=>by
    rw [Å,ay,r,World.cell?_setCells_out aO _ _ _ _ (fun h _=>absurd h au),Ç]
    exact aj j v hj)
   (fun j hj=>by rw [ay];exact ae _ (by rw [ak]at hj;omega)) (fun j hj=>by rw [bf,r,World.frozen?_setCells];exact al _) ag
  rw [q]at this;exact this
 rw [<-r]at ad;clear f g hg d az ar s al ae ai aj af ag t av ak;go_enter func328,ntmps328
 go_wp2_with (simp only [a7])
 go_region_law_o (refine step_copy_runI rfl _ _ 55 55 rfl _ _ (by simp [Ò,Ö]) (by simp [Ò,Ö]) (ad _ _ _) ?_)
 go_wp2_with (at_builtin;refine wpList_copy_runI _ rfl _ _ 55 55 rfl _ _ rfl rfl (ax _ (fun _=>rfl) (fun _=>rfl) _ _) ?_)
 go_ret
 first|exact⟨rfl,rfl⟩|exact⟨rfl,by rw [r]⟩
set_option maxHeartbeats 4000000 in
set_option maxRecDepth 1000000 in
theorem aGf (a:Option Addr) (n c i:Nat) (b:Option Addr) (vc:Nat) (w:World) (hi:i<=n) (m:n<=c) (d:c<=9223372036854775807) (f:a=none->c=0):
  Calls prog 328 #[.slice a n c,.int .i64 i,.slice b 0 vc] w fun e w'=>e=.returned (.slice a n c)/\w'=w:=by
 have g:=underlying55;have h:=sizeOf143;have mixed:prog.follows .mixedOrders=true:=by kernel_rfl
 cases a with
 |none=>
  have j:=f rfl;obtain rfl:c=0:=j;obtain rfl:n=0:=by omega
  obtain rfl:i=0:=by omega
  go_enter func328,ntmps328
  go_wp2
  go_ret
  exact⟨rfl,rfl⟩
 |some a=>
  obtain⟨ab,p,k⟩:=a;go_enter func328,ntmps328
  go_wp2
  all_goals (go_ret;exact⟨rfl,rfl⟩)
set_option maxHeartbeats 4000000 in
set_option maxRecDepth 1000000 in
theorem aGg (aO n c vb m vc:Nat) (cur ck:Array Value) (ty dW:TypeId) (w:World) (q:Go.Ev.hp w aO=some (.cells cur ty (0,0))) (h:Go.Ev.hp w vb=some (.cells ck dW (0,0))) (r:cur.size=c*5) (i:ck.size=vc*5) (hm:0<m) (z:m<=vc) (d:n+m<=c) (_:c<=9223372036854775807)
  (f: ∀u∈ck.toList.take (m*5),u.oneCell'=true):
  Calls prog 328 #[.slice (some ⟨aO,0,none⟩) n c,.int .i64 n,.slice (some ⟨vb,0,none⟩) m vc] w fun e w'=>e=.returned (.slice (some ⟨aO,0,none⟩) (n+m) c)/\w'=w.setCells aO (n*5) (ck.toList.take (m*5)):=by
 have s:=underlying55;have ad:=sizeOf143;have mixed:prog.follows .mixedOrders=true:=by kernel_rfl
 have g:=Go.Ev.qE h (m*5);obtain⟨vs,b⟩: ∃vs,vs=ck.toList.take (m*5):=⟨_,rfl⟩
 have k:vs.length=m*5:=by rw [b,Ã,Â];omega
 rw [<-b]at f g |-;have ae: ¬((m:Int)=0):=by omega
 have p: ∀ty,(Ð #[55,55] ty #[.slice (some ⟨aO,0,none⟩) n c,.slice (some ⟨vb,0,none⟩) m vc]).run prog w=.ok (.slice (some ⟨aO,0,none⟩) (n+m) c) (w.setCells aO (n*5) vs):=fun ty=>by
  have:=run_append_room_cells (P:=prog) w 55 ty 143 info143 s pP aO 0 n c ⟨vb,0,none⟩ m vc vs (by rw [nW,k]) (fun j u hj=>by rw [Å,Ç];exact g j u hj) f d (fun j hj=>by rw [nW];exact Go.Ev.PB q (by omega)) (fun j hj=>frozen_of_row w aO _ cur _ q)
  rw [nW,Ç]at this;exact this
 clear g b q h r i f k;go_enter func328,ntmps328
 go_wp2_with (at_builtin;refine Æ _ rfl _ _ _ _ rfl _ _ rfl rfl _ _ (p _) ?_)
 go_ret
 exact⟨rfl,rfl⟩
set_option maxHeartbeats 4000000 in
set_option maxRecDepth 1000000 in
theorem aGh (base:Option Addr) (n c vb m vc:Nat) (cs:List Value) (ck:Array Value) (dW:TypeId) (w:World) (q:Go.Ev.hp w vb=some (.cells ck dW (0,0))) (r:ck.size=vc*5) (hm:0<m) (af:m<=vc) (ag:n<=c) (b:c<n+m) (s:n+m<=Go.Ev.aC)
  (i:cs.length=n*5) (f:base=none->n=0) (t: ∀a,base=some a-> ∀j v,cs[j]? =some v->w.cell? (a.add j)=some v) (k: ∀u∈ck.toList.take (m*5),u.oneCell'=true):
  Calls prog 328 #[.slice base n c,.int .i64 n,.slice (some ⟨vb,0,none⟩) m vc] w fun e w'=>e=.returned (.slice (some ⟨w.heap.size,0,none⟩) (n+m) (grownCap w (n+m) c 143))/\
   w'=w.drew.alloc (.cells ((cs++ck.toList.take (m*5)).toArray++À zero143.cells (grownCap w (n+m) c 143-(n+m))) 143):=by
 have z:=underlying55;have ah:=sizeOf143;have mixed:prog.follows .mixedOrders=true:=by kernel_rfl
 have p:=Go.Ev.qE q (m*5);obtain⟨vs,d⟩: ∃vs,vs=ck.toList.take (m*5):=⟨_,rfl⟩
 have ad:vs.length=m*5:=by rw [d,Ã,Â];omega
 rw [<-d]at k p |-;have hb:=LN;unfold Go.Ev.aC at s;have aj: ¬((m:Int)=0):=by omega
 have g:Src prog info143.size 55 (.slice (some ⟨vb,0,none⟩) m vc) m vs w:=by
  rw [nW];exact Src.ofSlice w z ⟨vb,0,none⟩ m vc vs (by rw [ad]) (fun j u hj=>by rw [Å,Ç];exact p j u hj) k
 have hold:(Ô info143.size n (.slice base n c)).run prog w.drew=.ok cs.toArray w.drew:=by
  rw [nW];cases base with
  |none=>
   have h0:=f rfl;subst h0;have h1:cs=[]:=Ï.1 (by rw [i])
   rw [h1];exact run_firstCells_none w.drew 5 0 0 c
  |some a=>exact run_firstCells_some w.drew 5 n a n c cs i (fun j v hj=>t a rfl j v hj)
 have h: ∀ty,(Ð #[55,55] ty #[.slice base n c,.slice (some ⟨vb,0,none⟩) m vc]).run prog w=_:=fun ty=>
  run_append_grow_src w 55 55 ty 143 info143 _ z pP Xu base n c cs hold _ m vs g b (by omega) (growslice_fits b (É (Ä _ hb) (by omega)))
 clear hold g t i ad p d q r k;go_enter func328,ntmps328
 cases base with
 |none=>
  have h0:=f rfl;subst h0;go_wp2_with (at_builtin;refine Æ _ rfl _ _ _ _ rfl _ _ rfl rfl _ _ (h _) ?_)
  go_ret
  exact⟨rfl,rfl⟩
 |some a=>
  obtain⟨ab,ao,al⟩:=a;go_wp2_with (at_builtin;refine Æ _ rfl _ _ _ _ rfl _ _ rfl rfl _ _ (h _) ?_)
  all_goals (go_ret;exact⟨rfl,rfl⟩)
set_option maxHeartbeats 4000000 in
set_option maxRecDepth 1000000 in
theorem aGi (aO n c i vb m vc:Nat) (cur ck:Array Value) (ty dW:TypeId) (w:World) (hg:Go.Ev.hp w aO=some (.cells cur ty (0,0))) (ah:Go.Ev.hp w vb=some (.cells ck dW (0,0))) (bh:cur.size=c*5) (ax:ck.size=vc*5) (hi:i<n) (hm:0<m) (bx:m<=vc) (bz:n<=c) (ai:c<n+m) (ay:n+m<=Go.Ev.aC)
  (aj: ∀u∈cur.toList.take (n*5),u.oneCell'=true) (ak: ∀u∈ck.toList.take (m*5),u.oneCell'=true):
  Calls prog 328 #[.slice (some ⟨aO,0,none⟩) n c,.int .i64 i,.slice (some ⟨vb,0,none⟩) m vc] w fun e w'=>e=.returned (.slice (some ⟨w.heap.size,0,none⟩) (n+m) (grownCap w (n+m) c 143))/\
   w'=(((w.alloc (.cells (((cur.toList.take (n*5)).take (i*5)).toArray++À zero143.cells (n+m-i)++À zero143.cells (grownCap w (n+m) c 143-(n+m))) 143)).drew.setCells w.heap.size (i*5) (ck.toList.take (m*5))).drew).setCells w.heap.size ((i+m)*5) ((cur.toList.take (n*5)).drop (i*5)):=by
 have al:=underlying55;have t3:=underlying3;have ca:=sizeOf143;have mixed:prog.follows .mixedOrders=true:=by kernel_rfl
 have cb:=run_underlying underlying55;have af:(prog.info? 143).map (·.size)=some 5:=by rw [pP];simp [nW]
 have z:=Go.Ev.qE hg (n*5);have ao:=Go.Ev.qE ah (m*5);have bj:aO<w.heap.size:=Go.Ev.ox hg;have bk:vb<w.heap.size:=Go.Ev.ox ah;have hb:=LN;unfold Go.Ev.aC at ay;obtain⟨cs,f⟩: ∃cs,cs=cur.toList.take (n*5):=⟨_,rfl⟩
 obtain⟨vs,g⟩: ∃vs,vs=ck.toList.take (m*5):=⟨_,rfl⟩
 have az:cs.length=n*5:=by rw [f,Ã,Â];omega
 have ad:vs.length=m*5:=by rw [g,Ã,Â];omega
 rw [<-f]at aj z |-;rw [<-g]at ak ao |-;have cc: ¬((m:Int)=0):=by omega
 have cf: ¬((i:Int)=(n:Int)):=by omega
 have cg:(c:Int)<(n:Int)+(m:Int):=by omega
 have a1:(n:Int)+(m:Int)-(i:Int)=((n+m-i:Nat):Int):=by omega
 have aq:i+(n+m-i)=n+m:=by omega
 have hold:(Ô info143.size i (.slice (some ⟨aO,0,none⟩) i c)).run prog w.drew=.ok (cs.take (i*5)).toArray w.drew:=by
  rw [nW];exact run_firstCells_some w.drew 5 i ⟨aO,0,none⟩ i c (cs.take (i*5)) (by rw [Ã];omega) (fun j v hj=>by
   rw [Å,Ç];rw [Õ]at hj
   split at hj
   .exact z j v hj
   .cases hj)
 have ae: ∀ty,(Ð #[55,3] ty #[.slice (some ⟨aO,0,none⟩) i c,.int .i64 ((n:Int)+(m:Int)-(i:Int))]).run prog w=
   .ok (.slice (some ⟨w.heap.size,0,none⟩) (n+m) (grownCap w (n+m) c 143)) (w.drew.alloc (.cells ((cs.take (i*5)).toArray++À zero143.cells (n+m-i)++À zero143.cells (grownCap w (n+m) c 143-(n+m))) 143)):=fun ty=>by
  have h:=Lib.run_append_grow_zeros w 55 3 ty 143 info143 _ .i64 .i64 al t3 pP Xu (some ⟨aO,0,none⟩) i c (cs.take (i*5)) hold (n+m-i) (by omega) (by rw [nW];omega) (by omega) (by omega) (É (Ä _ hb) (by omega)) (by rw [aq];exact growslice_fits ai (É (Ä _ hb) (by omega)))
  rw [aq]at h;rw [a1];exact h
 obtain⟨G,hG⟩: ∃G,G=grownCap w (n+m) c 143:=⟨_,rfl⟩
 obtain⟨ROW,k⟩: ∃ROW:Array Value,ROW=(cs.take (i*5)).toArray++À zero143.cells (n+m-i)++À zero143.cells (G-(n+m)):=⟨_,rfl⟩
 rw [<-hG]at ae |-;rw [<-k]at ae |-;have bm:(n+m)*5<=ROW.size:=by
  rw [k];simp [À,zero143,Ó]
  omega
 obtain⟨p,d⟩: ∃p,p=w.drew.alloc (.cells ROW 143):=⟨_,rfl⟩
 rw [<-d]at ae;have hN: ∀j,j<(n+m)*5->(p.cell? ⟨w.heap.size,j,none⟩).isSome=true:=fun j hj=>by
  rw [d,World.cell?_alloc_at (w:=w.drew) ROW _ w.heap.size j rfl,Array.getElem?_eq_getElem (by omega)];rfl
 have ar: ∀j,p.frozen? ⟨w.heap.size,j,none⟩=false:=fun j=>by rw [d];exact World.frozen?_alloc_at (w:=w.drew) ROW _ w.heap.size j rfl
 have a6: ∀j v,w.cell? ⟨aO,j,none⟩=some v->p.cell? ⟨aO,j,none⟩=some v:=fun j v h=>by rw [d,World.cell?_alloc_past (w:=w.drew) _ aO j bj];exact h
 have a7: ∀j v,w.cell? ⟨vb,j,none⟩=some v->p.cell? ⟨vb,j,none⟩=some v:=fun j v h=>by rw [d,World.cell?_alloc_past (w:=w.drew) _ vb j bk];exact h
 have q:Ù m (n+m-i)=m:=by simp only [Ñ];split<;>omega
 have r:Ù (n-i) (n+m-(i+m))=n-i:=by simp only [Ñ];split<;>omega
 have a8: ∀(b:World),(∀x,b.cell? x=p.cell? x)->(∀x,b.frozen? x=p.frozen? x)-> ∀ty dc,(Í #[55,55] ty #[.slice (some ⟨w.heap.size,i*5,none⟩) (n+m-i) dc,.slice (some ⟨vb,0,none⟩) m vc]).run prog b=.ok (goInt m) (b.setCells w.heap.size (i*5) vs):=fun b s av ty dc=>by
  have:=Go.Ev.yV b 55 55 ty 143 5 w.heap.size (i*5) (n+m-i) dc ⟨vb,0,none⟩ m vc vs al af (by rw [ad,q])
   (fun j v hj=>by rw [Å,s,Ç];exact a7 _ v (ao j v hj))
   (fun j hj=>by rw [s];exact hN _ (by rw [ad]at hj;omega)) (fun j hj=>by rw [av];exact ar _) ak
  rw [q]at this;exact this
 have ch:n+m<=G:=by rw [hG];exact grownCap_ge w _ _ _
 have bu:G<=9223372036854775807:=by
  have:=grownCap_le_maxLen w (n+m) c 143 (by unfold maxLen;omega)
  rw [<-hG]at this;unfold maxLen at this;omega
 have cj: ¬(G=i):=by omega
 have bw: ¬(G=i+m):=by omega
 have cl: ¬(c=i):=by omega
 have bn:aO≠w.heap.size:=by omega
 have aw:(cs.drop (i*5)).length=(n-i)*5:=by rw [Î,az];omega
 have ag: ∀(b:World),(∀x,b.cell? x=(p.setCells w.heap.size (i*5) vs).cell? x)->(∀x,b.frozen? x=(p.setCells w.heap.size (i*5) vs).frozen? x)-> ∀ty dc sc,(Í #[55,55] ty #[.slice (some ⟨w.heap.size,(i+m)*5,none⟩) (n+m-(i+m)) dc,.slice (some ⟨aO,i*5,none⟩) (n-i) sc]).run prog b=.ok (goInt ((n-i:Nat):Int)) (b.setCells w.heap.size ((i+m)*5) (cs.drop (i*5))):=fun b s av ty dc sc=>by
  have:=Go.Ev.yV b 55 55 ty 143 5 w.heap.size ((i+m)*5) (n+m-(i+m)) dc ⟨aO,i*5,none⟩ (n-i) sc (cs.drop (i*5)) al af (by rw [aw,r])
   (fun j v hj=>by
    rw [Å,s,World.cell?_setCells_out _ _ _ _ _ (fun h _=>absurd h bn)]
    exact a6 _ v (z (i*5+j) v (by rwa [Ì]at hj)))
   (fun j hj=>by rw [s];exact Go.Ev.isSome_setCells w.heap.size vs (i*5) p (fun t ht=>hN _ (by rw [ad]at ht;omega)) _ (hN _ (by rw [aw]at hj;omega)))
   (fun j hj=>by rw [av,World.frozen?_setCells];exact ar _) (fun v hv=>aj v (Ê hv))
  rw [r]at this;exact this
 subst d;have bo: ∀x,((w.alloc (.cells ROW 143)).drew).cell? x=(w.drew.alloc (.cells ROW 143)).cell? x:=fun x=>rfl
 have bp: ∀x,((w.alloc (.cells ROW 143)).drew).frozen? x=(w.drew.alloc (.cells ROW 143)).frozen? x:=fun x=>rfl
 have bq: ∀x,(((w.alloc (.cells ROW 143)).drew.setCells w.heap.size (i*5) vs).drew).cell? x=((w.drew.alloc (.cells ROW 143)).setCells w.heap.size (i*5) vs).cell? x:=fun x=>rfl
 have br: ∀x,(((w.alloc (.cells ROW 143)).drew.setCells w.heap.size (i*5) vs).drew).frozen? x=((w.drew.alloc (.cells ROW 143)).setCells w.heap.size (i*5) vs).frozen? x:=fun x=>rfl
 have cp:IntKind.i64.wrap ((i:Int)+(m:Int))=(i:Int)+(m:Int):=by rw [IntKind.wrap_i64];omega
 have cq:(0:Int)<=(i:Int)+(m:Int):=by omega
 have cr:i<=n:=by omega
 have ct:((i:Int)+(m:Int)).toNat=i+m:=by omega
 have cu:(i:Int)<=(n:Int):=by omega
 clear a1 aq hold k hG bm hg ah bh ax f g z ao hN ar a6 a7 aj ak aw az ad;go_enter func328,ntmps328
 go_wp2_with (first
  |(at_builtin;refine Æ _ rfl _ _ _ _ rfl _ _ rfl rfl _ _ (ae _) ?_)
  |(at_builtin;refine wpList_copy_runI _ rfl _ _ 55 55 rfl _ _ rfl rfl (a8 _ bo bp _ _) ?_)
  |(at_builtin;refine wpList_copy_runI _ rfl _ _ 55 55 rfl _ _ rfl rfl (ag _ (fun _=>rfl) (fun _=>rfl) _ _ _) ?_))
 go_region_law_o (refine step_copy_runI rfl _ _ 55 55 rfl (.slice (some ⟨w.heap.size,(i+m)*5,none⟩) (n+m-(i+m)) (G-(i+m))) (.slice (some ⟨aO,i*5,none⟩) (n-i) (c-i)) (by simp [Ò,Ö]) (by simp [Ò,Ö]) (ag _ bq br 3 (G-(i+m)) (c-i)) ?_)
 go_wp2
 go_ret
 exact⟨rfl,rfl⟩
theorem aGj:PJ prog 328 5 143 zero143:=
 ⟨fun a n c i b vc w hi hn p ha=>aGf a n c i b vc w hi hn p ha,fun aO n c vb m vc cur ck ty dW w q d r f hm g h p j=>aGg aO n c vb m vc cur ck ty dW w q d r f hm g h p j,
  fun base n c vb m vc cs ck dW w d f hm g k h t u s z j=>aGh base n c vb m vc cs ck dW w d f hm g k h t u s z j,fun aO n c i vb m vc cur ck ty dW w q d r f hi hm g h p ad j h2=>aGe aO n c i vb m vc cur ck ty dW w q d r f hi hm g h p ad j h2,
  fun aO n c i vb m vc cur ck ty dW w q d r f hi hm g k h t j h2=>aGi aO n c i vb m vc cur ck ty dW w q d r f hi hm g k h t j h2⟩
set_option maxHeartbeats 4000000 in
set_option maxRecDepth 1000000 in
theorem aGk (aO n cap i j:Nat) (cur:Array Value) (ty:TypeId) (frz:Nat×Nat) (w:World) (r:Go.Ev.hp w aO=some (.cells cur ty frz)) (ad:cur.size=cap*5) (hz:Go.Ev.ir cur.size frz) (hn:n<=cap) (_:cap<=maxLen) (aj:i<j) (hj:j<=n) (h1: ∀u∈cur.toList.take (n*5),u.oneCell'=true):
  Calls prog 283 #[.slice (some ⟨aO,0,none⟩) n cap,.int .i64 i,.int .i64 j] w fun e w'=>e=.returned (.slice (some ⟨aO,0,none⟩) (n-(j-i)) cap)/\ ∃news f,news=(cur.toList.take (n*5)).drop (j*5)/\w'=(w.drew.setCells aO (i*5) news).setCells aO ((i+(n-j))*5) f/\f.length=(j-i)*5:=by
 have s:=underlying55;have ak:=sizeOf143;have mixed:prog.follows .mixedOrders=true:=by kernel_rfl
 obtain⟨news,b⟩: ∃news,news=(cur.toList.take (n*5)).drop (j*5):=⟨_,rfl⟩
 have hlen:news.length=(n-j)*5:=by rw [b,Î,Ã,Â];omega
 have g: ∀t u,news[t]? =some u->w.drew.cell? ⟨aO,j*5+t,none⟩=some u:=by
  intro t u hu;rw [b,Ì,Õ]at hu
  split at hu
  .rw [Go.Ev.vd (w:=w.drew) r]
   simpa using hu
  .cases hu
 obtain⟨A,hA,z⟩: ∃A:Addr,(if cap=j then some (⟨aO,0,none⟩:Addr)else some ⟨aO,j*5,none⟩)=some A/\Hid (∀t u,news[t]? =some u->w.drew.cell? (A.add t)=some u):=by
  by_cases h:cap=j
  .refine⟨⟨aO,0,none⟩,by simp [h],fun t u hu=> ?_⟩
   have h0:news.length=0:=by rw [hlen];omega
   rw [Ï.1 h0]at hu;simp at hu
  .refine⟨⟨aO,j*5,none⟩,by simp [h],fun t u hu=> ?_⟩
   rw [Å];exact g t u hu
 have s1:Hid (news.length=(n-j)*5):=hlen;have s2:Hid (∀u∈news,u.oneCell'=true):=fun u hu=>h1 u (Ê (by rw [b]at hu;exact hu))
 have s3:Hid (∀t,t<news.length->(w.drew.cell? ⟨aO,0+i*5+t,none⟩).isSome=true/\w.drew.frozen? ⟨aO,0+i*5+t,none⟩=false):=by
  intro t ht;rw [hlen]at ht;refine⟨?_,Go.Ev.xP (w:=w.drew) r hz (by omega)⟩
  rw [Go.Ev.vd (w:=w.drew) r];simp;omega
 obtain⟨k,d⟩: ∃k,k=w.drew.setCells aO (0+i*5) news:=⟨_,rfl⟩
 have m:=Go.Ev.setAt aO ty frz news (i*5) cur w.drew r (by rw [hlen];omega)
 rw [show i*5=0+i*5 by omega,<-d]at m
 obtain⟨ai,k1,k2,k3⟩:=m.row;obtain⟨f,p⟩: ∃f,f=(À (Ó (.agg #[.int .i64 0,.string ⟨#[]⟩,.int .i64 0,.int .i64 0,.string ⟨#[]⟩])) (n-(i+(n-j)))).toList:=⟨_,rfl⟩
 have aq: ∀q,(Ú #[55] q #[.slice (some ⟨aO,(i+(n-j))*5,none⟩) (n-(i+(n-j))) (cap-(i+(n-j)))]).run prog k=.ok (.tuple #[]) (k.setCells aO ((i+(n-j))*5) f):=by
  intro q;rw [p];exact Go.Ev.abK k 55 143 q _ 5 s zeroValue143 rfl (by simp [Ó,Ø]) aO _ _ _ (by omega) (fun t ht=>by rw [Go.Ev.vd k1];simp;omega) (fun t ht=>Go.Ev.xP k1 (by rw [k2];exact hz) (by omega))
 have X:Aside (k=w.drew.setCells aO (0+i*5) news):=d;have hW:Hid (k=w.drew.setCells aO (0+i*5) news):=d;have au:i<=cap:=by omega
 have av:j<=cap:=by omega
 have ag:f.length=(j-i)*5:=by rw [p,(Go.Ev.PA _ _ 5 rfl (by simp [Ó,Ø])).1];omega
 clear d m k1 k2 k3 g hlen p r ad hz h1;go_enter func283,ntmps283
 go_wp2_with fail
 go_region_law_o (refine step_append_room rfl (.tmp 22) (.tmp 25) 55 rfl 143 info143 5 s pP (show info143.size=5 by kernel_rfl) aO 0 i cap (by simp [Ò,Ö]) A (n-j) (cap-j) news (by simp [Ò,Ö]) s1.out z.out s2.out (by omega) s3.out ?_;rw [<-hW.out])
 go_wp2
 go_ret
 refine⟨by rw [show n-(j-i)=i+(n-j) by omega];rfl,news,f,b, ?_,ag⟩
 rw [X.out,Ç]
set_option maxHeartbeats 4000000 in
set_option maxRecDepth 1000000 in
theorem delE283 (a:Option Addr) (n cap i:Nat) (w:World) (hi:i<=n) (j:n<=cap) (hm:cap<=maxLen) (b:a=none->cap=0):
  Calls prog 283 #[.slice a n cap,.int .i64 i,.int .i64 i] w fun e w'=>e=.returned (.slice a n cap)/\w'=w:=by
 have d:=underlying55;have f:=sizeOf143;have mixed:prog.follows .mixedOrders=true:=by kernel_rfl
 unfold maxLen at hm;cases a with
 |none=>
  have g:=b rfl;obtain rfl:cap=0:=g;obtain rfl:n=0:=by omega
  obtain rfl:i=0:=by omega
  go_enter func283,ntmps283
  go_wp2
  go_ret
  exact⟨rfl,rfl⟩
 |some a=>
  obtain⟨ab,k,h⟩:=a;go_enter func283,ntmps283
  go_wp2
  all_goals (go_ret;exact⟨rfl,rfl⟩)
def Tryz.Xv:Á:=⟨fun|146=>287|221=>332|268=>356|138=>357|143=>203|195=>379|197=>350|218=>380|219=>231|260=>374|217=>275|225=>276|224=>277|267=>278|266=>323|314=>324|n=>n,fun|9=>9|31=>22|3=>3|4=>4|0=>0|105=>350|21=>21|5=>5|46=>308|119=>386|139=>389|138=>388|146=>332|51=>331|n=>n,fun|1=>0|3=>3|4=>4|n=>n⟩
theorem Tryz.aGl:Go.Proofs.Lays.n146 prog Tryz.Xv where
 mixed:=by kernel_rfl
 f138:=hZ func357 (by kernel_rfl)
 f143:=hZ func203 (by kernel_rfl)
 f146:=hZ func287 (by kernel_rfl)
 f195:=hZ func379 (by kernel_rfl)
 f197:=hZ func350 (by kernel_rfl)
 f217:=hZ func275 (by kernel_rfl)
 f218:=hZ func380 (by kernel_rfl)
 f219:=hZ func231 (by kernel_rfl)
 f221:=hZ func332 (by kernel_rfl)
 f224:=hZ func277 (by kernel_rfl)
 f225:=hZ func276 (by kernel_rfl)
 f260:=hZ func374 (by kernel_rfl)
 f266:=hZ func323 (by kernel_rfl)
 f267:=hZ func278 (by kernel_rfl)
 f268:=hZ func356 (by kernel_rfl)
 f314:=hZ func324 (by kernel_rfl)
 t0:=underlying0
 a0:=isAgg0
 z0:=sizeOf0
 v0:=zeroValue0
 t3:=underlying3
 a3:=isAgg3
 z3:=sizeOf3
 v3:=zeroValue3
 t4:=underlying4
 a4:=isAgg4
 z4:=sizeOf4
 v4:=zeroValue4
 t5:=underlying5
 a5:=isAgg5
 z5:=sizeOf5
 v5:=zeroValue5
 t9:=underlying9
 a9:=isAgg9
 z9:=sizeOf9
 v9:=zeroValue9
 t21:=underlying21
 a21:=isAgg21
 z21:=sizeOf21
 v21:=zeroValue21
 t31:=underlying22
 a31:=isAgg22
 z31:=sizeOf22
 v31:=zeroValue22
 t46:=underlying308
 a46:=isAgg308
 z46:=sizeOf308
 v46:=zeroValue308
 t51:=underlying331
 a51:=isAgg331
 z51:=sizeOf331
 v51:=zeroValue331
 t105:=underlying350
 a105:=isAgg350
 z105:=sizeOf350
 v105:=zeroValue350
 t119:=underlying386
 a119:=isAgg386
 z119:=sizeOf386
 t138:=underlying388
 a138:=isAgg388
 z138:=sizeOf388
 v138:=zeroValue388
 t139:=underlying389
 a139:=isAgg389
 z139:=sizeOf389
 v139:=zeroValue389
 t146:=underlying332
 a146:=isAgg332
 z146:=sizeOf332
 v146:=zeroValue332
 g1:=by kernel_rfl
 g3:=by kernel_rfl
 g4:=by kernel_rfl
def Tryz.aGm:Á:=⟨fun|10=>286|6=>158|n=>n,fun|22=>22|23=>9|25=>152|3=>3|4=>4|0=>0|n=>n,fun|n=>n⟩
theorem Tryz.aGn:Go.Proofs.SlLaysH.n10 prog Tryz.aGm where
 mixed:=by kernel_rfl
 f6:=⟨"slices.IndexFunc[[]string,string]",by decide,hZ func158 (by kernel_rfl)⟩
 f10:=⟨"slices.DeleteFunc[[]string,string]",by decide,hZ func286 (by kernel_rfl)⟩
 t0:=underlying0
 a0:=isAgg0
 z0:=sizeOf0
 v0:=zeroValue0
 t3:=underlying3
 a3:=isAgg3
 z3:=sizeOf3
 v3:=zeroValue3
 t4:=underlying4
 a4:=isAgg4
 z4:=sizeOf4
 v4:=zeroValue4
 t22:=underlying22
 a22:=isAgg22
 z22:=sizeOf22
 v22:=zeroValue22
 a23:=isAgg9
 z23:=sizeOf9
 t25:=underlying152
 a25:=isAgg152
 z25:=sizeOf152
 v25:=zeroValue152
set_option maxHeartbeats 1000000 in
theorem blank (t:ByteArray) (b:World):Calls prog 288 #[.string t] b fun e w'=>e=.returned (.bool t.data.toList.isEmpty)/\ ∃q,w'=b.drewN q:=by
 go_enter func288,ntmps288
 go_wp2
 go_ret
 exact⟨congrArg (fun l:List UInt8=>Ending.returned (.bool l.isEmpty)) (ByteArray.toList_eq t),0,rfl⟩
set_option maxHeartbeats 1000000 in
set_option maxRecDepth 100000 in
theorem aGo (s:ByteArray) (m:Int) (w:World) (u:s.size<4294967281) (hm:w.cell? ⟨Tryz.Xv.g 1,0,none⟩=some (.int .i64 m)):
  Calls prog 244 #[.string s] w fun r w'=> ∃i,r=.returned i/\w'.ownsRow w.heap.size 9 1 i (Go.Ev.aQ [] s.data.toList).length ((Go.Ev.aQ [] s.data.toList).map fun t=>Ë ⟨t.toArray⟩)/\Below w.heap.size w w':=by
 have c1:=Any.strings_Split Tryz.aGl (by kernel_rfl) s ⟨#[32]⟩ m w u hm (by decide)
 obtain⟨d,hd⟩: ∃d,d=(Lib.splitB ⟨#[32]⟩ 0 (Lib.countB s ⟨#[32]⟩) s):=⟨_,rfl⟩
 have hlen:=Lib.splitB_all ⟨#[32]⟩ (by decide) 0 _ s rfl
 rw [<-hd]at hlen c1;have p:=Lib.countB_le ⟨#[32]⟩ (by decide) s.size s (Nat.le_refl _)
 have z: ∀args w,(callFunc 288 args).run prog w=.ok (.enter 288 args) w:=enters_of func288 (by kernel_rfl) rfl
 have j:=AnyE.slices_DeleteFunc Tryz.aGn Ë (fun _=>rfl) (fun t=>t.data.toList.isEmpty) 288 #[] z ⟨#[]⟩ zeroValue9 w.heap.size 0 d.length d.toArray (w.alloc (.cells (d.map Ë).toArray 9)) (fun b x _=>blank x b) (fun n os dk x _=>blank x _) (Go.Ev.abH w d 9) (by simp only [List.size_toArray];omega) (by simp)
 have f:=fun q=>Go.Ev.abJ w d 9 s q d.length hd rfl (by unfold maxLen;omega)
 obtain⟨k,h⟩: ∃k,k=w.alloc (.cells (d.map Ë).toArray 9):=⟨_,rfl⟩
 rw [<-h]at j;rw [<-h]at f;have c1:Calls prog 287 #[.string s,.string ⟨#[32]⟩] w fun e w'=>e=.returned (.slice (some ⟨w.heap.size,0,none⟩) d.length d.length)/\w'=k:=c1.mono (by rintro e w' ⟨rfl,rfl⟩;exact⟨by rw [hlen],h.symm⟩)
 have j:Calls prog 286 #[.slice (some ⟨w.heap.size,0,none⟩) d.length d.length,.func (.func 288) #[] #[]] k fun e w'=> ∃i,e=.returned i/\w'.ownsRow w.heap.size 9 1 i (Go.Ev.aQ [] s.data.toList).length ((Go.Ev.aQ [] s.data.toList).map fun t=>Ë ⟨t.toArray⟩)/\Below w.heap.size w w':=j.mono (by rintro e w' ⟨rfl,q,rfl⟩;exact⟨_,rfl,f q⟩)
 clear f;clear h hm u hlen p hd;go_enter func244,ntmps244
 go_wp2_with (first|(go_at_call 287;refine c1.mono ?_;rintro e w' ⟨rfl,rfl⟩)|(go_at_call 286;refine j.mono ?_;rintro e w' ⟨i,rfl,hv⟩))
 go_ret
 exact⟨_,rfl,hv⟩
def Tryz.aGp:Á:=⟨fun|5=>407|8=>426|7=>425|19=>441|20=>412|10=>432|11=>433|12=>434|13=>435|14=>436|15=>437|16=>438|17=>439|18=>440|30=>442|31=>443|32=>444|33=>445|34=>446|35=>447|40=>448|n=>n,fun|23=>30|25=>3|3=>3|32=>308|22=>30|0=>0|44=>331|46=>361|4=>4|36=>420|35=>419|41=>240|5=>5|9=>9|53=>427|57=>431|63=>433|64=>156|n=>n,fun|n=>n⟩
theorem Tryz.Xw:Go.Proofs.SlLaysM.n5 prog Tryz.aGp where
 mixed:=by kernel_rfl
 f5:=⟨"slices.Sort[[]int,int]",by decide,hZ func407 (by kernel_rfl)⟩
 f7:=⟨"slices.pdqsortOrdered[int]",by decide,hZ func425 (by kernel_rfl)⟩
 f8:=hZ func426 (by kernel_rfl)
 f10:=⟨"slices.insertionSortOrdered[int]",by decide,hZ func432 (by kernel_rfl)⟩
 f11:=⟨"slices.heapSortOrdered[int]",by decide,hZ func433 (by kernel_rfl)⟩
 f12:=⟨"slices.breakPatternsOrdered[int]",by decide,hZ func434 (by kernel_rfl)⟩
 f13:=⟨"slices.choosePivotOrdered[int]",by decide,hZ func435 (by kernel_rfl)⟩
 f14:=⟨"slices.reverseRangeOrdered[int]",by decide,hZ func436 (by kernel_rfl)⟩
 f15:=⟨"slices.partialInsertionSortOrdered[int]",by decide,hZ func437 (by kernel_rfl)⟩
 f16:=⟨"cmp.Less[int]",by decide,hZ func438 (by kernel_rfl)⟩
 f17:=⟨"slices.partitionEqualOrdered[int]",by decide,hZ func439 (by kernel_rfl)⟩
 f18:=⟨"slices.partitionOrdered[int]",by decide,hZ func440 (by kernel_rfl)⟩
 f19:=hZ func441 (by kernel_rfl)
 f20:=hZ func412 (by kernel_rfl)
 f30:=⟨"slices.siftDownOrdered[int]",by decide,hZ func442 (by kernel_rfl)⟩
 f31:=hZ func443 (by kernel_rfl)
 f32:=hZ func444 (by kernel_rfl)
 f33:=⟨"slices.medianAdjacentOrdered[int]",by decide,hZ func445 (by kernel_rfl)⟩
 f34:=⟨"slices.medianOrdered[int]",by decide,hZ func446 (by kernel_rfl)⟩
 f35:=⟨"cmp.isNaN[int]",by decide,hZ func447 (by kernel_rfl)⟩
 f40:=⟨"slices.order2Ordered[int]",by decide,hZ func448 (by kernel_rfl)⟩
 t0:=underlying0
 a0:=isAgg0
 z0:=sizeOf0
 v0:=zeroValue0
 t3:=underlying3
 a3:=isAgg3
 z3:=sizeOf3
 v3:=zeroValue3
 t4:=underlying4
 a4:=isAgg4
 z4:=sizeOf4
 v4:=zeroValue4
 t5:=underlying5
 a5:=isAgg5
 z5:=sizeOf5
 v5:=zeroValue5
 t9:=underlying9
 a9:=isAgg9
 z9:=sizeOf9
 v9:=zeroValue9
 t22:=underlying30
 a22:=isAgg30
 z22:=sizeOf30
 v22:=zeroValue30
 t23:=underlying30
 a23:=isAgg30
 z23:=sizeOf30
 v23:=zeroValue30
 t25:=underlying3
 a25:=isAgg3
 z25:=sizeOf3
 v25:=zeroValue3
 t32:=underlying308
 a32:=isAgg308
 z32:=sizeOf308
 v32:=zeroValue308
 t35:=underlying419
 a35:=isAgg419
 z35:=sizeOf419
 v35:=zeroValue419
 t36:=underlying420
 a36:=isAgg420
 z36:=sizeOf420
 v36:=zeroValue420
 t41:=underlying240
 a41:=isAgg240
 z41:=sizeOf240
 v41:=zeroValue240
 t44:=underlying331
 a44:=isAgg331
 z44:=sizeOf331
 v44:=zeroValue331
 t46:=underlying361
 a46:=isAgg361
 z46:=sizeOf361
 v46:=zeroValue361
 t53:=underlying427
 a53:=isAgg427
 z53:=sizeOf427
 v53:=zeroValue427
 t57:=underlying431
 a57:=isAgg431
 z57:=sizeOf431
 v57:=zeroValue431
 t63:=underlying433
 a63:=isAgg433
 z63:=sizeOf433
 v63:=zeroValue433
 t64:=underlying156
 a64:=isAgg156
 z64:=sizeOf156
 v64:=zeroValue156
def Tryz.aGq:Á:=⟨fun|143=>203|219=>231|217=>275|225=>276|224=>277|267=>278|266=>323|314=>324|n=>n,fun|9=>9|3=>3|4=>4|5=>5|46=>308|146=>332|51=>331|n=>n,fun|1=>0|n=>n⟩
theorem Tryz.aGr:Go.Proofs.Lays.n143 prog Tryz.aGq where
 mixed:=by kernel_rfl
 f143:=hZ func203 (by kernel_rfl)
 f217:=hZ func275 (by kernel_rfl)
 f219:=hZ func231 (by kernel_rfl)
 f224:=hZ func277 (by kernel_rfl)
 f225:=hZ func276 (by kernel_rfl)
 f266:=hZ func323 (by kernel_rfl)
 f267:=hZ func278 (by kernel_rfl)
 f314:=hZ func324 (by kernel_rfl)
 t3:=underlying3
 a3:=isAgg3
 z3:=sizeOf3
 v3:=zeroValue3
 t4:=underlying4
 a4:=isAgg4
 z4:=sizeOf4
 v4:=zeroValue4
 t5:=underlying5
 a5:=isAgg5
 z5:=sizeOf5
 v5:=zeroValue5
 t9:=underlying9
 a9:=isAgg9
 z9:=sizeOf9
 v9:=zeroValue9
 t46:=underlying308
 a46:=isAgg308
 z46:=sizeOf308
 v46:=zeroValue308
 t51:=underlying331
 a51:=isAgg331
 z51:=sizeOf331
 v51:=zeroValue331
 t146:=underlying332
 a146:=isAgg332
 z146:=sizeOf332
 v146:=zeroValue332
 g1:=by kernel_rfl
def Tryz.aGs:Á:=⟨fun|264=>362|n=>n,fun|53=>361|46=>308|n=>n,fun|n=>n⟩
theorem Tryz.aGt:Go.Proofs.Lays.n264 prog Tryz.aGs where
 mixed:=by kernel_rfl
 f264:=hZ func362 (by kernel_rfl)
 t46:=underlying308
 a46:=isAgg308
 z46:=sizeOf308
 v46:=zeroValue308
 t53:=underlying361
 a53:=isAgg361
 z53:=sizeOf361
 v53:=zeroValue361
def Tryz.aGu:Á:=⟨fun|41=>174|n=>n,fun|22=>30|23=>3|4=>4|n=>n,fun|n=>n⟩
theorem Tryz.laysClone174:È prog Tryz.aGu where
 mixed:=by kernel_rfl
 f41:=⟨"slices.Clone[[]int,int]",by decide,hZ func174 (by kernel_rfl)⟩
 t4:=underlying4
 a4:=isAgg4
 z4:=sizeOf4
 v4:=zeroValue4
 t22:=underlying30
 a22:=isAgg30
 z22:=sizeOf30
 v22:=zeroValue30
noncomputable def tM:TypeInfo:=(prog.info? 3).get (by kernel_rfl)
theorem Xx:prog.info? 3=some tM:=by kernel_rfl
theorem aGv:tM.bytes<=1024:=by decide +kernel
theorem clone174 {gl:bF} {fn:Func} (ds:List DV) (r:bO [bn]) (h:gK bn ds=some r):cW prog gl {f:=174,fn:=fn,ins:=[.one (.sh bn)],bx:=[],outs:=.one (.own bn),bP:=[],loops:=[],cQ:=[],bI:=[bn],cg:=some (gK bn)} ds r:=
 Fp (ts:=ak bn) (e:=3) rfl (fun _=>rfl) (fun b off n c news w i g d j=>(AnyE.slices_Clone Tryz.laysClone174 tM (.int .i64 0) 1 tM.bytes Xx (by kernel_rfl) (by kernel_rfl) rfl rfl (by decide) sizeOf3 b off n c news w i (by unfold maxLen;unfold aC at g;omega) (É (Ä _ aGv) (by unfold aC at g;omega)) d j).mono (fun e w' h=>by obtain⟨k,m,p, -,q⟩:=h;exact⟨k,m,p,q⟩))
  (fun a c w=>Fv Tryz.laysClone174 tM (.int .i64 0) 1 tM.bytes Xx (by kernel_rfl) (by kernel_rfl) rfl rfl (by decide) sizeOf3 a c w) (fun n c w=>AnyE.slices_Clone_nil Tryz.laysClone174 n c w) ds r h
end Go.Proofs.YtfpfjmahdneehaaGreatDoor
