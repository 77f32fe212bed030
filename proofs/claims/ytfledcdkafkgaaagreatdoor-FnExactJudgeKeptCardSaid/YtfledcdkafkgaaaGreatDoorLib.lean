/- Contracts of the library, laid for this program. -/
import Derived.KernelRfl
import Derived.Lib.SliceRun
import Derived.Shelf.Bits.Mul64
import Derived.Shelf.SlicesE.Clone
import Derived.Shelf.SlicesE.Delete
import Derived.Shelf.SlicesE.DeleteFunc
import Derived.Shelf.Small.Strs
import Derived.Shelf.SortM.Plain
import Derived.Shelf.SortM.SortNone
import Derived.Shelf.Spec.SlicesInsertGrow
import Derived.Shelf.Strconv.Atoi
import Derived.Shelf.Strconv.Itoa3
import Derived.Shelf.Strings.Search3
import Derived.Shelf.Strings.Split
import Derived.Test.YtfledcdkafkgaaaGreatDoorEv5
import Derived.Test.YtfledcdkafkgaaaGreatDoorProg
import Derived.Test.YtfledcdkafkgaaaGreatDoorTab
open Go.Shelf renaming Ren->À
open Go.Builtin renaming zeroCells->Á,copy_->Í,append_->Ñ,firstCells->Ô,clear_->Ú
open Nat renaming mul_le_mul_left->Â,le_trans->Æ,zero_add->Ç,min->Ù
open Go.Proofs.SlLaysE0 renaming n41->Ã
open Go.Addr renaming add_lit->Ä
open Go.Lib renaming wpList_append_run->Å
open List renaming mem_of_mem_drop->È,getElem?_drop->Ì,length_drop->Î,length_take->Ï,length_eq_zero_iff->Ð,getElem?_take->Õ
open Array renaming length_toList->É
open Go.Value renaming string->Ê,cells->Ó,oneCell'->Ø
open Go.Ev renaming hp->Ë,isSome_setCells->Ò,big->Ö
open Bool renaming true->å
open Option renaming some->ã,none->â
open Go.IntKind renaming i64->ß
namespace Go.Proofs.YtfledcdkafkgaaaGreatDoor
open Go Go.Ev Go.Shelf Go.RowKit Go.Lib Go.Sort Go.Proofs.Tryz
def Tryz.aFW:À:=⟨fun|137=>443|217=>296|266=>342|n=>n,fun|9=>9|5=>5|3=>3|n=>n,fun|n=>n⟩
theorem Tryz.aFX:Go.Proofs.Lays.n137 prog Tryz.aFW where
 mixed:=Ž
 f137:=hL func443 Ž
 f217:=hL func296 Ž
 f266:=hL func342 Ž
 t3:=underlying3
 a3:=isAgg3
 z3:=sizeOf3
 v3:=zeroValue3
 t5:=underlying5
 a5:=isAgg5
 z5:=sizeOf5
 v5:=zeroValue5
 t9:=underlying9
 a9:=isAgg9
 z9:=sizeOf9
 v9:=zeroValue9
def Tryz.aFY:À:=⟨fun|144=>175|143=>226|219=>267|217=>296|225=>297|224=>298|267=>299|266=>342|314=>343|n=>n,fun|9=>9|4=>4|3=>3|5=>5|46=>291|146=>352|51=>351|n=>n,fun|1=>0|n=>n⟩
theorem Tryz.adB:Go.Proofs.Lays.n144 prog Tryz.aFY where
 mixed:=Ž
 f143:=hL func226 Ž
 f144:=hL func175 Ž
 f217:=hL func296 Ž
 f219:=hL func267 Ž
 f224:=hL func298 Ž
 f225:=hL func297 Ž
 f266:=hL func342 Ž
 f267:=hL func299 Ž
 f314:=hL func343 Ž
 t3:=underlying3
 a3:=isAgg3
 z3:=sizeOf3
 v3:=zeroValue3
 t4:=underlying4
 a4:=isAgg4
 z4:=sizeOf4
 v4:=zeroValue4
 t5:=underlying5
 a5:=isAgg5
 z5:=sizeOf5
 v5:=zeroValue5
 t9:=underlying9
 a9:=isAgg9
 z9:=sizeOf9
 v9:=zeroValue9
 t46:=underlying291
 a46:=isAgg291
 z46:=sizeOf291
 v46:=zeroValue291
 t51:=underlying351
 a51:=isAgg351
 z51:=sizeOf351
 v51:=zeroValue351
 t146:=underlying352
 a146:=isAgg352
 z146:=sizeOf352
 v146:=zeroValue352
 g1:=Ž
def Tryz.aFZ:À:=⟨fun|172=>379|244=>413|245=>414|247=>438|279=>439|280=>440|281=>441|282=>442|287=>460|316=>461|171=>401|205=>462|321=>480|322=>481|243=>427|246=>450|283=>469|284=>470|285=>471|286=>472|129=>479|317=>487|318=>488|319=>489|320=>490|337=>494|338=>495|n=>n,fun|9=>9|3=>3|75=>378|76=>379|4=>4|5=>5|167=>411|37=>67|0=>0|85=>412|2=>2|168=>414|53=>406|175=>432|46=>291|210=>435|127=>445|145=>448|143=>446|21=>21|171=>438|173=>440|212=>453|51=>351|20=>20|213=>454|232=>466|233=>467|80=>299|n=>n,fun|15=>5|16=>6|17=>7|18=>8|19=>9|n=>n⟩
theorem Tryz.aGa:Go.Proofs.Lays.n172 prog Tryz.aFZ where
 mixed:=Ž
 f129:=hL func479 Ž
 f171:=hL func401 Ž
 f172:=hL func379 Ž
 f205:=hL func462 Ž
 f243:=hL func427 Ž
 f244:=hL func413 Ž
 f245:=hL func414 Ž
 f246:=hL func450 Ž
 f247:=hL func438 Ž
 f279:=hL func439 Ž
 f280:=hL func440 Ž
 f281:=hL func441 Ž
 f282:=hL func442 Ž
 f283:=hL func469 Ž
 f284:=hL func470 Ž
 f285:=hL func471 Ž
 f286:=hL func472 Ž
 f287:=hL func460 Ž
 f316:=hL func461 Ž
 f317:=hL func487 Ž
 f318:=hL func488 Ž
 f319:=hL func489 Ž
 f320:=hL func490 Ž
 f321:=hL func480 Ž
 f322:=hL func481 Ž
 f337:=hL func494 Ž
 f338:=hL func495 Ž
 t0:=underlying0
 a0:=isAgg0
 z0:=sizeOf0
 v0:=zeroValue0
 t2:=underlying2
 a2:=isAgg2
 z2:=sizeOf2
 v2:=zeroValue2
 t3:=underlying3
 a3:=isAgg3
 z3:=sizeOf3
 v3:=zeroValue3
 t4:=underlying4
 a4:=isAgg4
 z4:=sizeOf4
 v4:=zeroValue4
 t5:=underlying5
 a5:=isAgg5
 z5:=sizeOf5
 v5:=zeroValue5
 t9:=underlying9
 a9:=isAgg9
 z9:=sizeOf9
 v9:=zeroValue9
 t20:=underlying20
 a20:=isAgg20
 z20:=sizeOf20
 v20:=zeroValue20
 t21:=underlying21
 a21:=isAgg21
 z21:=sizeOf21
 v21:=zeroValue21
 t37:=underlying67
 a37:=isAgg67
 z37:=sizeOf67
 v37:=zeroValue67
 t46:=underlying291
 a46:=isAgg291
 z46:=sizeOf291
 v46:=zeroValue291
 t51:=underlying351
 a51:=isAgg351
 z51:=sizeOf351
 v51:=zeroValue351
 t53:=underlying406
 a53:=isAgg406
 z53:=sizeOf406
 v53:=zeroValue406
 t75:=underlying378
 a75:=isAgg378
 z75:=sizeOf378
 v75:=zeroValue378
 t76:=underlying379
 a76:=isAgg379
 z76:=sizeOf379
 v76:=zeroValue379
 t85:=underlying412
 a85:=isAgg412
 z85:=sizeOf412
 v85:=zeroValue412
 t127:=underlying445
 a127:=isAgg445
 z127:=sizeOf445
 v127:=zeroValue445
 t143:=underlying446
 a143:=isAgg446
 z143:=sizeOf446
 v143:=zeroValue446
 t145:=underlying448
 a145:=isAgg448
 z145:=sizeOf448
 v145:=zeroValue448
 t167:=underlying411
 a167:=isAgg411
 z167:=sizeOf411
 v167:=zeroValue411
 t168:=underlying414
 a168:=isAgg414
 z168:=sizeOf414
 v168:=zeroValue414
 t171:=underlying438
 a171:=isAgg438
 z171:=sizeOf438
 v171:=zeroValue438
 t173:=underlying440
 a173:=isAgg440
 z173:=sizeOf440
 v173:=zeroValue440
 t175:=underlying432
 a175:=isAgg432
 z175:=sizeOf432
 v175:=zeroValue432
 t210:=underlying435
 a210:=isAgg435
 z210:=sizeOf435
 v210:=zeroValue435
 t212:=underlying453
 a212:=isAgg453
 z212:=sizeOf453
 v212:=zeroValue453
 t213:=underlying454
 a213:=isAgg454
 z213:=sizeOf454
 t232:=underlying466
 a232:=isAgg466
 z232:=sizeOf466
 v232:=zeroValue466
 t233:=underlying467
 a233:=isAgg467
 z233:=sizeOf467
 v233:=zeroValue467
 g15:=Ž
 g16:=Ž
 g17:=Ž
 g18:=Ž
 g19:=Ž
def Tryz.aGb:À:=⟨fun|106=>266|213=>295|265=>341|n=>n,fun|9=>9|3=>3|n=>n,fun|n=>n⟩
theorem Tryz.aGc:Go.Proofs.Lays.n106 prog Tryz.aGb where
 mixed:=Ž
 f106:=hL func266 Ž
 f213:=hL func295 Ž
 f265:=hL func341 Ž
 t3:=underlying3
 a3:=isAgg3
 z3:=sizeOf3
 v3:=zeroValue3
 t9:=underlying9
 a9:=isAgg9
 z9:=sizeOf9
 v9:=zeroValue9
def Tryz.aGd:À:=⟨fun|41=>279|n=>n,fun|22=>58|23=>186|4=>4|n=>n,fun|n=>n⟩
theorem Tryz.laysClone279:Ã prog Tryz.aGd where
 mixed:=Ž
 f41:=⟨"slices.Clone[[]loop.example/g00289/impl.Val,loop.example/g00289/impl.Val]",ŷ,hL func279 Ž⟩
 t4:=underlying4
 a4:=isAgg4
 z4:=sizeOf4
 v4:=zeroValue4
 t22:=underlying58
 a22:=isAgg58
 z22:=sizeOf58
 v22:=zeroValue58
noncomputable def info186:TypeInfo:=(prog.info? 186).get Ž
theorem adC:prog.info? 186=ã info186:=Ž
theorem aGe:info186.bytes<=1024:=ų
theorem clone279 {gl:bA} {fn:Func} (ds:List DV) (r:bK [aN]) (h:fI aN ds=ã r):cR prog gl {f:=279,fn:=fn,ins:=[.one (.sh aN)],bx:=[],outs:=.one (.own aN),bH:=[],loops:=[],cH:=[],bz:=[aN],bT:=ã (fI aN)} ds r:=
 Bg (ts:=ay aN) (e:=186) rfl (fun _=>rfl) (fun b off n c news w i g d j=>(AnyE.slices_Clone Tryz.laysClone279 info186 (.agg #[.int ß 0,.int ß 0,.string ⟨#[]⟩]) 3 info186.bytes adC Ž Ž rfl rfl ŷ sizeOf186 b off n c news w i Ŕ (Æ (Â _ aGe) İ) d j).mono (fun e w' h=>Ŝ))
  (fun a c w=>Bm Tryz.laysClone279 info186 (.agg #[.int ß 0,.int ß 0,.string ⟨#[]⟩]) 3 info186.bytes adC Ž Ž rfl rfl ŷ sizeOf186 a c w) (fun n c w=>AnyE.slices_Clone_nil Tryz.laysClone279 n c w) ds r h
def Tryz.aGf:À:=⟨fun|41=>280|n=>n,fun|22=>59|23=>189|4=>4|n=>n,fun|n=>n⟩
theorem Tryz.laysClone280:Ã prog Tryz.aGf where
 mixed:=Ž
 f41:=⟨"slices.Clone[[]loop.example/g00289/impl.Cell,loop.example/g00289/impl.Cell]",ŷ,hL func280 Ž⟩
 t4:=underlying4
 a4:=isAgg4
 z4:=sizeOf4
 v4:=zeroValue4
 t22:=underlying59
 a22:=isAgg59
 z22:=sizeOf59
 v22:=zeroValue59
noncomputable def info189:TypeInfo:=(prog.info? 189).get Ž
theorem qJ:prog.info? 189=ã info189:=Ž
theorem PR:info189.bytes<=1024:=ų
theorem clone280 {gl:bA} {fn:Func} (ds:List DV) (r:bK [bR]) (h:fI bR ds=ã r):cR prog gl {f:=280,fn:=fn,ins:=[.one (.sh bR)],bx:=[],outs:=.one (.own bR),bH:=[],loops:=[],cH:=[],bz:=[bR],bT:=ã (fI bR)} ds r:=
 Bg (ts:=ay bR) (e:=189) rfl (fun _=>rfl) (fun b off n c news w i g d j=>(AnyE.slices_Clone Tryz.laysClone280 info189 (.agg #[.int ß 0,.string ⟨#[]⟩,.int ß 0,.int ß 0,.string ⟨#[]⟩]) 5 info189.bytes qJ Ž Ž rfl rfl ŷ sizeOf189 b off n c news w i Ŕ (Æ (Â _ PR) İ) d j).mono (fun e w' h=>Ŝ))
  (fun a c w=>Bm Tryz.laysClone280 info189 (.agg #[.int ß 0,.string ⟨#[]⟩,.int ß 0,.int ß 0,.string ⟨#[]⟩]) 5 info189.bytes qJ Ž Ž rfl rfl ŷ sizeOf189 a c w) (fun n c w=>AnyE.slices_Clone_nil Tryz.laysClone280 n c w) ds r h
def Tryz.aGg:À:=⟨fun|171=>401|243=>427|246=>450|283=>469|284=>470|285=>471|286=>472|129=>479|317=>487|318=>488|319=>489|320=>490|337=>494|338=>495|n=>n,fun|3=>3|9=>9|2=>2|4=>4|171=>438|0=>0|53=>406|37=>67|5=>5|173=>440|212=>453|51=>351|20=>20|213=>454|46=>291|232=>466|233=>467|n=>n,fun|17=>7|18=>8|19=>9|n=>n⟩
theorem Tryz.aGh:Go.Proofs.LaysM.n171 prog Tryz.aGg where
 mixed:=Ž
 f129:=hL func479 Ž
 f171:=hL func401 Ž
 f243:=hL func427 Ž
 f246:=hL func450 Ž
 f283:=hL func469 Ž
 f284:=hL func470 Ž
 f285:=hL func471 Ž
 f286:=hL func472 Ž
 f317:=hL func487 Ž
 f318:=hL func488 Ž
 f319:=hL func489 Ž
 f320:=hL func490 Ž
 f337:=hL func494 Ž
 f338:=hL func495 Ž
 t0:=underlying0
 a0:=isAgg0
 z0:=sizeOf0
 v0:=zeroValue0
 t2:=underlying2
 a2:=isAgg2
 z2:=sizeOf2
 v2:=zeroValue2
 t3:=underlying3
 a3:=isAgg3
 z3:=sizeOf3
 v3:=zeroValue3
 t4:=underlying4
 a4:=isAgg4
 z4:=sizeOf4
 v4:=zeroValue4
 t5:=underlying5
 a5:=isAgg5
 z5:=sizeOf5
 v5:=zeroValue5
 t9:=underlying9
 a9:=isAgg9
 z9:=sizeOf9
 v9:=zeroValue9
 t20:=underlying20
 a20:=isAgg20
 z20:=sizeOf20
 v20:=zeroValue20
 t37:=underlying67
 a37:=isAgg67
 z37:=sizeOf67
 v37:=zeroValue67
 t46:=underlying291
 a46:=isAgg291
 z46:=sizeOf291
 v46:=zeroValue291
 t51:=underlying351
 a51:=isAgg351
 z51:=sizeOf351
 v51:=zeroValue351
 t53:=underlying406
 a53:=isAgg406
 z53:=sizeOf406
 v53:=zeroValue406
 t171:=underlying438
 a171:=isAgg438
 z171:=sizeOf438
 v171:=zeroValue438
 t173:=underlying440
 a173:=isAgg440
 z173:=sizeOf440
 v173:=zeroValue440
 t212:=underlying453
 a212:=isAgg453
 z212:=sizeOf453
 v212:=zeroValue453
 t213:=underlying454
 a213:=isAgg454
 z213:=sizeOf454
 t232:=underlying466
 a232:=isAgg466
 z232:=sizeOf466
 v232:=zeroValue466
 t233:=underlying467
 a233:=isAgg467
 z233:=sizeOf467
 v233:=zeroValue467
 g17:=Ž
 g18:=Ž
 g19:=Ž
 i0:=Ž
 i2:=Ž
 i3:=Ž
 i4:=Ž
 i5:=Ž
 i9:=Ž
 i20:=Ž
 i37:=Ž
 i46:=Ž
 i51:=Ž
 i53:=Ž
 i171:=Ž
 i173:=Ž
 i212:=Ž
 i232:=Ž
 i233:=Ž
 m17:=Ž
 m18:=Ž
 m19:=Ž
def zero189:Value:=.agg #[.int ß 0,.string ⟨#[]⟩,.int ß 0,.int ß 0,.string ⟨#[]⟩]
theorem adD:info189.zero=ã zero189:=Ž
theorem pf:info189.size=5:=Ž
set_option maxHeartbeats 4000000 in
set_option maxRecDepth 1000000 in
theorem aGi (aQ n c i vb m vc:Nat) (cur cd:Array Value) (ty dU:TypeId) (w:World) (hg:Ë w aQ=ã (.cells cur ty (0,0))) (d:Ë w vb=ã (.cells cd dU (0,0))) (az:cur.size=c*5) (ar:cd.size=vc*5) (hi:i<n) (hm:0<m) (bf:m<=vc) (a1:n+m<=c) (bd:c<=9223372036854775807) (au:vb≠aQ)
  (af: ∀u∈cur.toList.take (n*5),u.oneCell'=å) (ag: ∀u∈cd.toList.take (m*5),u.oneCell'=å):
  Calls prog 400 #[.slice (ã ⟨aQ,0,â⟩) n c,.int ß i,.slice (ã ⟨vb,0,â⟩) m vc] w fun e w'=>e=.returned (.slice (ã ⟨aQ,0,â⟩) (n+m) c)/\w'=(w.drew.setCells aQ ((i+m)*5) ((cur.toList.take (n*5)).drop (i*5))).setCells aQ (i*5) (cd.toList.take (m*5)):=by
 have ah:=underlying59;have a6:=sizeOf189;have mixed:prog.follows .mixedOrders=å:=Ž
 have bg:=run_underlying underlying59;have z:(prog.info? 189).map (·.size)=ã 5:=by rw [qJ];simp [pf]
 have ai:=Go.Ev.rM hg (n*5);have aj:=Go.Ev.rM d (m*5);obtain⟨cs,f⟩: ∃cs,cs=cur.toList.take (n*5):=⟨_,rfl⟩
 obtain⟨vs,g⟩: ∃vs,vs=cd.toList.take (m*5):=⟨_,rfl⟩
 have av:cs.length=n*5:=Ċ
 have ak:vs.length=m*5:=ċ
 rw [<-f]at af ai |-;rw [<-g]at ag aj |-;have bh: ¬((m:Int)=0):=ž
 have bj: ¬((i:Int)=(n:Int)):=ž
 have s: ∀j,j<(n+m)*5->(w.cell? ⟨aQ,j,â⟩).isSome=å:=fun j hj=>Go.Ev.TD hg ž
 have al: ∀j,w.frozen? ⟨aQ,j,â⟩=false:=fun j=>frozen_of_row w aQ j cur ty hg
 have a7: ∀lb cb,(callFunc 425 #[.slice (ã ⟨vb,0,â⟩) m vc,.slice (ã ⟨aQ,(i+m)*5,â⟩) lb cb]).run prog w=.ok (.value (.bool false)) w:=fun lb cb=>by
  rw [run_callFunc_extern func425 Ž Ž Ž (e:=Extern.SlicesOverlaps.overlaps #[59,59] #[4]) Ž,
   Lib.run_overlaps_apart w 59 4 189 ah 5 a6 ⟨vb,0,â⟩ ⟨aQ,(i+m)*5,â⟩ m vc lb cb au dU ty _ _ (Go.Ev.TE d) (Go.Ev.TE hg) ž (frozen_of_row w vb 0 cd dU d) (frozen_of_row w vb _ cd dU d)]
  rfl
 have t:(cs.drop (i*5)).length=(n-i)*5:=by rw [Î,av];omega
 have bk:IntKind.i64.wrap ((i:Int)+(m:Int))=(i:Int)+(m:Int):=ż
 have bm:(0:Int)<=(i:Int)+(m:Int):=ž
 have bn:i<=n:=ž
 have bo:((i:Int)+(m:Int)).toNat=i+m:=ž
 have bp: ¬(c=i+m):=ž
 have bq:(i:Int)<=(n:Int)+(m:Int):=ž
 have br: ¬(c=i):=ž
 have p:Ù (n+m-i) (n+m-(i+m))=n-i:=Œ
 have q:Ù m (n+m-i)=m:=Œ
 have ad: ∀ty dc sc,(Í #[59,59] ty #[.slice (ã ⟨aQ,(i+m)*5,â⟩) (n+m-(i+m)) dc,.slice (ã ⟨aQ,i*5,â⟩) (n+m-i) sc]).run prog w.drew=.ok (goInt ((n-i:Nat):Int)) (w.drew.setCells aQ ((i+m)*5) (cs.drop (i*5))):=fun ty dc sc=>by
  have:=Go.Ev.Bj w.drew 59 59 ty 189 5 aQ ((i+m)*5) (n+m-(i+m)) dc ⟨aQ,i*5,â⟩ (n+m-i) sc (cs.drop (i*5)) ah z (by rw [t,p])
   (fun j v hj=>by rw [Ä];exact ai (i*5+j) v (by rwa [Ì]at hj))
   (fun j hj=>s _ (by rw [t]at hj;omega)) (fun j hj=>al _) (fun v hv=>af v (È hv))
  rw [p]at this;exact this
 obtain⟨W1,r⟩: ∃W1,W1=w.drew.setCells aQ ((i+m)*5) (cs.drop (i*5)):=⟨_,rfl⟩
 have ae: ∀k,k<(n+m)*5->(W1.cell? ⟨aQ,k,â⟩).isSome=å:=fun k hk=>by
  rw [r];exact Ò aQ (cs.drop (i*5)) ((i+m)*5) w.drew (fun j hj=>s _ (by rw [t]at hj;omega)) _ (s k hk)
 have ax: ∀(W:World),(∀x,W.cell? x=W1.cell? x)->(∀x,W.frozen? x=W1.frozen? x)-> ∀ty dc,(Í #[59,59] ty #[.slice (ã ⟨aQ,i*5,â⟩) (n+m-i) dc,.slice (ã ⟨vb,0,â⟩) m vc]).run prog W=.ok (goInt m) (W.setCells aQ (i*5) vs):=fun W ay bc ty dc=>by
  have:=Go.Ev.Bj W 59 59 ty 189 5 aQ (i*5) (n+m-i) dc ⟨vb,0,â⟩ m vc vs ah z (by rw [ak,q])
   (fun j v hj=>by
    rw [Ä,ay,r,World.cell?_setCells_out aQ _ _ _ _ (fun h _=>absurd h au),Ç]
    exact aj j v hj)
   (fun j hj=>by rw [ay];exact ae _ (by rw [ak]at hj;omega)) (fun j hj=>by rw [bc,r,World.frozen?_setCells];exact al _) ag
  rw [q]at this;exact this
 rw [<-r]at ad;clear f g hg d az ar s al ae ai aj af ag t av ak;go_enter func400,ntmps400
 go_wp2_with (simp only [a7])
 go_region_law_o (refine step_copy_runI rfl _ _ 59 59 rfl _ _ ś ś (ad _ _ _) ?_)
 go_wp2_with (at_builtin;refine wpList_copy_runI _ rfl _ _ 59 59 rfl _ _ rfl rfl (ax _ (fun _=>rfl) (fun _=>rfl) _ _) ?_)
 go_ret
 first|exact⟨rfl,rfl⟩|exact⟨rfl,by rw [r]⟩
set_option maxHeartbeats 4000000 in
set_option maxRecDepth 1000000 in
theorem aGj (a:Option Addr) (n c i:Nat) (b:Option Addr) (vc:Nat) (w:World) (hi:i<=n) (m:n<=c) (d:c<=9223372036854775807) (f:a=â->c=0):
  Calls prog 400 #[.slice a n c,.int ß i,.slice b 0 vc] w fun e w'=>e=.returned (.slice a n c)/\w'=w:=by
 have g:=underlying59;have h:=sizeOf189;have mixed:prog.follows .mixedOrders=å:=Ž
 cases a with
 |none=>
  have j:=f rfl;obtain rfl:c=0:=j;obtain rfl:n=0:=ž
  obtain rfl:i=0:=ž
  go_enter func400,ntmps400
  go_wp2
  go_ret
  exact⟨rfl,rfl⟩
 |some a=>
  obtain⟨ab,p,k⟩:=a;go_enter func400,ntmps400
  go_wp2
  all_goals (go_ret;exact⟨rfl,rfl⟩)
set_option maxHeartbeats 4000000 in
set_option maxRecDepth 1000000 in
theorem aGk (aQ n c vb m vc:Nat) (cur cd:Array Value) (ty dU:TypeId) (w:World) (q:Ë w aQ=ã (.cells cur ty (0,0))) (h:Ë w vb=ã (.cells cd dU (0,0))) (r:cur.size=c*5) (i:cd.size=vc*5) (hm:0<m) (z:m<=vc) (d:n+m<=c) (_:c<=9223372036854775807)
  (f: ∀u∈cd.toList.take (m*5),u.oneCell'=å):
  Calls prog 400 #[.slice (ã ⟨aQ,0,â⟩) n c,.int ß n,.slice (ã ⟨vb,0,â⟩) m vc] w fun e w'=>e=.returned (.slice (ã ⟨aQ,0,â⟩) (n+m) c)/\w'=w.setCells aQ (n*5) (cd.toList.take (m*5)):=by
 have s:=underlying59;have ad:=sizeOf189;have mixed:prog.follows .mixedOrders=å:=Ž
 have g:=Go.Ev.rM h (m*5);obtain⟨vs,b⟩: ∃vs,vs=cd.toList.take (m*5):=⟨_,rfl⟩
 have k:vs.length=m*5:=by rw [b,Ï,É];omega
 rw [<-b]at f g |-;have ae: ¬((m:Int)=0):=ž
 have p: ∀ty,(Ñ #[59,59] ty #[.slice (ã ⟨aQ,0,â⟩) n c,.slice (ã ⟨vb,0,â⟩) m vc]).run prog w=.ok (.slice (ã ⟨aQ,0,â⟩) (n+m) c) (w.setCells aQ (n*5) vs):=fun ty=>by
  have:=run_append_room_cells (P:=prog) w 59 ty 189 info189 s qJ aQ 0 n c ⟨vb,0,â⟩ m vc vs (by rw [pf,k]) (fun j u hj=>by rw [Ä,Ç];exact g j u hj) f d (fun j hj=>by rw [pf];exact Go.Ev.TD q ž) (fun j hj=>frozen_of_row w aQ _ cur _ q)
  rw [pf,Ç]at this;exact this
 clear g b q h r i f k;go_enter func400,ntmps400
 go_wp2_with (at_builtin;refine Å _ rfl _ _ _ _ rfl _ _ rfl rfl _ _ (p _) ?_)
 go_ret
 exact⟨rfl,rfl⟩
set_option maxHeartbeats 4000000 in
set_option maxRecDepth 1000000 in
theorem aGl (base:Option Addr) (n c vb m vc:Nat) (cs:List Value) (cd:Array Value) (dU:TypeId) (w:World) (q:Ë w vb=ã (.cells cd dU (0,0))) (r:cd.size=vc*5) (hm:0<m) (af:m<=vc) (ag:n<=c) (b:c<n+m) (s:n+m<=Ö)
  (i:cs.length=n*5) (f:base=â->n=0) (t: ∀a,base=ã a-> ∀j v,cs[j]? =ã v->w.cell? (a.add j)=ã v) (k: ∀u∈cd.toList.take (m*5),u.oneCell'=å):
  Calls prog 400 #[.slice base n c,.int ß n,.slice (ã ⟨vb,0,â⟩) m vc] w fun e w'=>e=.returned (.slice (ã ⟨w.heap.size,0,â⟩) (n+m) (grownCap w (n+m) c 189))/\
   w'=w.drew.alloc (.cells ((cs++cd.toList.take (m*5)).toArray++Á zero189.cells (grownCap w (n+m) c 189-(n+m))) 189):=by
 have z:=underlying59;have ah:=sizeOf189;have mixed:prog.follows .mixedOrders=å:=Ž
 have p:=Go.Ev.rM q (m*5);obtain⟨vs,d⟩: ∃vs,vs=cd.toList.take (m*5):=⟨_,rfl⟩
 have ad:vs.length=m*5:=by rw [d,Ï,É];omega
 rw [<-d]at k p |-;have hb:=PR;unfold Ö at s;have aj: ¬((m:Int)=0):=ž
 have g:Src prog info189.size 59 (.slice (ã ⟨vb,0,â⟩) m vc) m vs w:=by
  rw [pf];exact Src.ofSlice w z ⟨vb,0,â⟩ m vc vs (by rw [ad]) (fun j u hj=>by rw [Ä,Ç];exact p j u hj) k
 have hold:(Ô info189.size n (.slice base n c)).run prog w.drew=.ok cs.toArray w.drew:=by
  rw [pf];cases base with
  |none=>
   have h0:=f rfl;subst h0;have h1:cs=[]:=Ð.1 (by rw [i])
   rw [h1];exact run_firstCells_none w.drew 5 0 0 c
  |some a=>exact run_firstCells_some w.drew 5 n a n c cs i (fun j v hj=>t a rfl j v hj)
 have h: ∀ty,(Ñ #[59,59] ty #[.slice base n c,.slice (ã ⟨vb,0,â⟩) m vc]).run prog w=_:=fun ty=>
  run_append_grow_src w 59 59 ty 189 info189 _ z qJ adD base n c cs hold _ m vs g b ž (growslice_fits b (Æ (Â _ hb) ž))
 clear hold g t i ad p d q r k;go_enter func400,ntmps400
 cases base with
 |none=>
  have h0:=f rfl;subst h0;go_wp2_with (at_builtin;refine Å _ rfl _ _ _ _ rfl _ _ rfl rfl _ _ (h _) ?_)
  go_ret
  exact⟨rfl,rfl⟩
 |some a=>
  obtain⟨ab,ao,al⟩:=a;go_wp2_with (at_builtin;refine Å _ rfl _ _ _ _ rfl _ _ rfl rfl _ _ (h _) ?_)
  all_goals (go_ret;exact⟨rfl,rfl⟩)
set_option maxHeartbeats 4000000 in
set_option maxRecDepth 1000000 in
theorem aGm (aQ n c i vb m vc:Nat) (cur cd:Array Value) (ty dU:TypeId) (w:World) (hg:Ë w aQ=ã (.cells cur ty (0,0))) (ah:Ë w vb=ã (.cells cd dU (0,0))) (bf:cur.size=c*5) (ax:cd.size=vc*5) (hi:i<n) (hm:0<m) (bt:m<=vc) (bu:n<=c) (ai:c<n+m) (ay:n+m<=Ö)
  (aj: ∀u∈cur.toList.take (n*5),u.oneCell'=å) (ak: ∀u∈cd.toList.take (m*5),u.oneCell'=å):
  Calls prog 400 #[.slice (ã ⟨aQ,0,â⟩) n c,.int ß i,.slice (ã ⟨vb,0,â⟩) m vc] w fun e w'=>e=.returned (.slice (ã ⟨w.heap.size,0,â⟩) (n+m) (grownCap w (n+m) c 189))/\
   w'=(((w.alloc (.cells (((cur.toList.take (n*5)).take (i*5)).toArray++Á zero189.cells (n+m-i)++Á zero189.cells (grownCap w (n+m) c 189-(n+m))) 189)).drew.setCells w.heap.size (i*5) (cd.toList.take (m*5))).drew).setCells w.heap.size ((i+m)*5) ((cur.toList.take (n*5)).drop (i*5)):=by
 have al:=underlying59;have t3:=underlying3;have bw:=sizeOf189;have mixed:prog.follows .mixedOrders=å:=Ž
 have bx:=run_underlying underlying59;have af:(prog.info? 189).map (·.size)=ã 5:=by rw [qJ];simp [pf]
 have z:=Go.Ev.rM hg (n*5);have ao:=Go.Ev.rM ah (m*5);have bg:aQ<w.heap.size:=Go.Ev.pF hg;have bh:vb<w.heap.size:=Go.Ev.pF ah;have hb:=PR;unfold Ö at ay;obtain⟨cs,f⟩: ∃cs,cs=cur.toList.take (n*5):=⟨_,rfl⟩
 obtain⟨vs,g⟩: ∃vs,vs=cd.toList.take (m*5):=⟨_,rfl⟩
 have az:cs.length=n*5:=Ċ
 have ad:vs.length=m*5:=ċ
 rw [<-f]at aj z |-;rw [<-g]at ak ao |-;have bz: ¬((m:Int)=0):=ž
 have ca: ¬((i:Int)=(n:Int)):=ž
 have cb:(c:Int)<(n:Int)+(m:Int):=ž
 have a1:(n:Int)+(m:Int)-(i:Int)=((n+m-i:Nat):Int):=ž
 have aq:i+(n+m-i)=n+m:=ž
 have hold:(Ô info189.size i (.slice (ã ⟨aQ,0,â⟩) i c)).run prog w.drew=.ok (cs.take (i*5)).toArray w.drew:=by
  rw [pf];exact run_firstCells_some w.drew 5 i ⟨aQ,0,â⟩ i c (cs.take (i*5)) ŭ (fun j v hj=>by
   rw [Ä,Ç];rw [Õ]at hj
   split at hj
   .exact z j v hj
   .cases hj)
 have ae: ∀ty,(Ñ #[59,3] ty #[.slice (ã ⟨aQ,0,â⟩) i c,.int ß ((n:Int)+(m:Int)-(i:Int))]).run prog w=
   .ok (.slice (ã ⟨w.heap.size,0,â⟩) (n+m) (grownCap w (n+m) c 189)) (w.drew.alloc (.cells ((cs.take (i*5)).toArray++Á zero189.cells (n+m-i)++Á zero189.cells (grownCap w (n+m) c 189-(n+m))) 189)):=fun ty=>by
  have h:=Lib.run_append_grow_zeros w 59 3 ty 189 info189 _ ß ß al t3 qJ adD (ã ⟨aQ,0,â⟩) i c (cs.take (i*5)) hold (n+m-i) ž (by rw [pf];omega) ž ž (Æ (Â _ hb) ž) (by rw [aq];exact growslice_fits ai (Æ (Â _ hb) ž))
  rw [aq]at h;rw [a1];exact h
 obtain⟨G,hG⟩: ∃G,G=grownCap w (n+m) c 189:=⟨_,rfl⟩
 obtain⟨ROW,k⟩: ∃ROW:Array Value,ROW=(cs.take (i*5)).toArray++Á zero189.cells (n+m-i)++Á zero189.cells (G-(n+m)):=⟨_,rfl⟩
 rw [<-hG]at ae |-;rw [<-k]at ae |-;have bj:(n+m)*5<=ROW.size:=by
  rw [k];simp [Á,zero189,Ó]
  omega
 obtain⟨p,b⟩: ∃p,p=w.drew.alloc (.cells ROW 189):=⟨_,rfl⟩
 rw [<-b]at ae;have hN: ∀j,j<(n+m)*5->(p.cell? ⟨w.heap.size,j,â⟩).isSome=å:=fun j hj=>by
  rw [b,World.cell?_alloc_at (w:=w.drew) ROW _ w.heap.size j rfl,Array.getElem?_eq_getElem ž];rfl
 have ar: ∀j,p.frozen? ⟨w.heap.size,j,â⟩=false:=fun j=>by rw [b];exact World.frozen?_alloc_at (w:=w.drew) ROW _ w.heap.size j rfl
 have a6: ∀j v,w.cell? ⟨aQ,j,â⟩=ã v->p.cell? ⟨aQ,j,â⟩=ã v:=fun j v h=>by rw [b,World.cell?_alloc_past (w:=w.drew) _ aQ j bg];exact h
 have a7: ∀j v,w.cell? ⟨vb,j,â⟩=ã v->p.cell? ⟨vb,j,â⟩=ã v:=fun j v h=>by rw [b,World.cell?_alloc_past (w:=w.drew) _ vb j bh];exact h
 have q:Ù m (n+m-i)=m:=Œ
 have r:Ù (n-i) (n+m-(i+m))=n-i:=Œ
 have a8: ∀(W:World),(∀x,W.cell? x=p.cell? x)->(∀x,W.frozen? x=p.frozen? x)-> ∀ty dc,(Í #[59,59] ty #[.slice (ã ⟨w.heap.size,i*5,â⟩) (n+m-i) dc,.slice (ã ⟨vb,0,â⟩) m vc]).run prog W=.ok (goInt m) (W.setCells w.heap.size (i*5) vs):=fun W s av ty dc=>by
  have:=Go.Ev.Bj W 59 59 ty 189 5 w.heap.size (i*5) (n+m-i) dc ⟨vb,0,â⟩ m vc vs al af (by rw [ad,q])
   (fun j v hj=>by rw [Ä,s,Ç];exact a7 _ v (ao j v hj))
   (fun j hj=>by rw [s];exact hN _ (by rw [ad]at hj;omega)) (fun j hj=>by rw [av];exact ar _) ak
  rw [q]at this;exact this
 have cc:n+m<=G:=by rw [hG];exact grownCap_ge w _ _ _
 have br:G<=9223372036854775807:=by
  have:=grownCap_le_maxLen w (n+m) c 189 ñ
  rw [<-hG]at this;unfold maxLen at this;omega
 have cf: ¬(G=i):=ž
 have bs: ¬(G=i+m):=ž
 have cg: ¬(c=i):=ž
 have bk:aQ≠w.heap.size:=ž
 have aw:(cs.drop (i*5)).length=(n-i)*5:=by rw [Î,az];omega
 have ag: ∀(W:World),(∀x,W.cell? x=(p.setCells w.heap.size (i*5) vs).cell? x)->(∀x,W.frozen? x=(p.setCells w.heap.size (i*5) vs).frozen? x)-> ∀ty dc sc,(Í #[59,59] ty #[.slice (ã ⟨w.heap.size,(i+m)*5,â⟩) (n+m-(i+m)) dc,.slice (ã ⟨aQ,i*5,â⟩) (n-i) sc]).run prog W=.ok (goInt ((n-i:Nat):Int)) (W.setCells w.heap.size ((i+m)*5) (cs.drop (i*5))):=fun W s av ty dc sc=>by
  have:=Go.Ev.Bj W 59 59 ty 189 5 w.heap.size ((i+m)*5) (n+m-(i+m)) dc ⟨aQ,i*5,â⟩ (n-i) sc (cs.drop (i*5)) al af (by rw [aw,r])
   (fun j v hj=>by
    rw [Ä,s,World.cell?_setCells_out _ _ _ _ _ (fun h _=>absurd h bk)]
    exact a6 _ v (z (i*5+j) v (by rwa [Ì]at hj)))
   (fun j hj=>by rw [s];exact Ò w.heap.size vs (i*5) p (fun t ht=>hN _ (by rw [ad]at ht;omega)) _ (hN _ (by rw [aw]at hj;omega)))
   (fun j hj=>by rw [av,World.frozen?_setCells];exact ar _) (fun v hv=>aj v (È hv))
  rw [r]at this;exact this
 subst b;have bm: ∀x,((w.alloc (.cells ROW 189)).drew).cell? x=(w.drew.alloc (.cells ROW 189)).cell? x:=fun x=>rfl
 have bn: ∀x,((w.alloc (.cells ROW 189)).drew).frozen? x=(w.drew.alloc (.cells ROW 189)).frozen? x:=fun x=>rfl
 have bo: ∀x,(((w.alloc (.cells ROW 189)).drew.setCells w.heap.size (i*5) vs).drew).cell? x=((w.drew.alloc (.cells ROW 189)).setCells w.heap.size (i*5) vs).cell? x:=fun x=>rfl
 have bp: ∀x,(((w.alloc (.cells ROW 189)).drew.setCells w.heap.size (i*5) vs).drew).frozen? x=((w.drew.alloc (.cells ROW 189)).setCells w.heap.size (i*5) vs).frozen? x:=fun x=>rfl
 have ck:IntKind.i64.wrap ((i:Int)+(m:Int))=(i:Int)+(m:Int):=ż
 have cl:(0:Int)<=(i:Int)+(m:Int):=ž
 have cm:i<=n:=ž
 have cn:((i:Int)+(m:Int)).toNat=i+m:=ž
 have cp:(i:Int)<=(n:Int):=ž
 clear a1 aq hold k hG bj hg ah bf ax f g z ao hN ar a6 a7 aj ak aw az ad;go_enter func400,ntmps400
 go_wp2_with (first
  |(at_builtin;refine Å _ rfl _ _ _ _ rfl _ _ rfl rfl _ _ (ae _) ?_)
  |(at_builtin;refine wpList_copy_runI _ rfl _ _ 59 59 rfl _ _ rfl rfl (a8 _ bm bn _ _) ?_)
  |(at_builtin;refine wpList_copy_runI _ rfl _ _ 59 59 rfl _ _ rfl rfl (ag _ (fun _=>rfl) (fun _=>rfl) _ _ _) ?_))
 go_region_law_o (refine step_copy_runI rfl _ _ 59 59 rfl (.slice (ã ⟨w.heap.size,(i+m)*5,â⟩) (n+m-(i+m)) (G-(i+m))) (.slice (ã ⟨aQ,i*5,â⟩) (n-i) (c-i)) ś ś (ag _ bo bp 3 (G-(i+m)) (c-i)) ?_)
 go_wp2
 go_ret
 exact⟨rfl,rfl⟩
theorem aGn:TK prog 400 5 189 zero189:=
 ⟨fun a n c i b vc w hi hn p ha=>aGj a n c i b vc w hi hn p ha,fun aQ n c vb m vc cur cd ty dU w q d r f hm g h p j=>aGk aQ n c vb m vc cur cd ty dU w q d r f hm g h p j,
  fun base n c vb m vc cs cd dU w d f hm g k h t u s z j=>aGl base n c vb m vc cs cd dU w d f hm g k h t u s z j,fun aQ n c i vb m vc cur cd ty dU w q d r f hi hm g h p ad j h2=>aGi aQ n c i vb m vc cur cd ty dU w q d r f hi hm g h p ad j h2,
  fun aQ n c i vb m vc cur cd ty dU w q d r f hi hm g k h t j h2=>aGm aQ n c i vb m vc cur cd ty dU w q d r f hi hm g k h t j h2⟩
set_option maxHeartbeats 4000000 in
set_option maxRecDepth 1000000 in
theorem aGo (aQ n cap i j:Nat) (cur:Array Value) (ty:TypeId) (frz:Nat×Nat) (w:World) (s:Ë w aQ=ã (.cells cur ty frz)) (ae:cur.size=cap*5) (hz:Go.Ev.gM cur.size frz) (hn:n<=cap) (_:cap<=maxLen) (ak:i<j) (hj:j<=n) (h1: ∀u∈cur.toList.take (n*5),u.oneCell'=å):
  Calls prog 363 #[.slice (ã ⟨aQ,0,â⟩) n cap,.int ß i,.int ß j] w fun e w'=>e=.returned (.slice (ã ⟨aQ,0,â⟩) (n-(j-i)) cap)/\ ∃news g,news=(cur.toList.take (n*5)).drop (j*5)/\w'=(w.drew.setCells aQ (i*5) news).setCells aQ ((i+(n-j))*5) g/\g.length=(j-i)*5:=by
 have z:=underlying59;have al:=sizeOf189;have mixed:prog.follows .mixedOrders=å:=Ž
 obtain⟨news,b⟩: ∃news,news=(cur.toList.take (n*5)).drop (j*5):=⟨_,rfl⟩
 have hlen:news.length=(n-j)*5:=by rw [b,Î,Ï,É];omega
 have k: ∀t u,news[t]? =ã u->w.drew.cell? ⟨aQ,j*5+t,â⟩=ã u:=by
  intro t u hu;rw [b,Ì,Õ]at hu
  split at hu
  .rw [Go.Ev.wY (w:=w.drew) s]
   simpa using hu
  .cases hu
 obtain⟨A,hA,ad⟩: ∃A:Addr,(if cap=j then ã (⟨aQ,0,â⟩:Addr)else ã ⟨aQ,j*5,â⟩)=ã A/\Hid (∀t u,news[t]? =ã u->w.drew.cell? (A.add t)=ã u):=by
  by_cases h:cap=j
  .refine⟨⟨aQ,0,â⟩,ŏ,fun t u hu=> ?_⟩
   have h0:news.length=0:=by rw [hlen];omega
   rw [Ð.1 h0]at hu;simp at hu
  .refine⟨⟨aQ,j*5,â⟩,ŏ,fun t u hu=> ?_⟩
   rw [Ä];exact k t u hu
 have s1:Hid (news.length=(n-j)*5):=hlen;have s2:Hid (∀u∈news,u.oneCell'=å):=fun u hu=>h1 u (È (by rw [b]at hu;exact hu))
 have s3:Hid (∀t,t<news.length->(w.drew.cell? ⟨aQ,0+i*5+t,â⟩).isSome=å/\w.drew.frozen? ⟨aQ,0+i*5+t,â⟩=false):=by
  intro t ht;rw [hlen]at ht;refine⟨?_,Go.Ev.zO (w:=w.drew) s hz ž⟩
  rw [Go.Ev.wY (w:=w.drew) s];simp;omega
 obtain⟨m,f⟩: ∃m,m=w.drew.setCells aQ (0+i*5) news:=⟨_,rfl⟩
 have p:=Go.Ev.setAt aQ ty frz news (i*5) cur w.drew s (by rw [hlen];omega)
 rw [show i*5=0+i*5 by omega,<-f]at p
 obtain⟨aj,k1,k2,k3⟩:=p.row;obtain⟨g,q⟩: ∃g,g=(Á (Ó (.agg #[.int ß 0,.string ⟨#[]⟩,.int ß 0,.int ß 0,.string ⟨#[]⟩])) (n-(i+(n-j)))).toList:=⟨_,rfl⟩
 have ar: ∀r,(Ú #[59] r #[.slice (ã ⟨aQ,(i+(n-j))*5,â⟩) (n-(i+(n-j))) (cap-(i+(n-j)))]).run prog m=.ok (.tuple #[]) (m.setCells aQ ((i+(n-j))*5) g):=by
  intro r;rw [q];exact Go.Ev.akC m 59 189 r _ 5 z zeroValue189 rfl (by simp [Ó,Ø]) aQ _ _ _ ž (fun t ht=>by rw [Go.Ev.wY k1];simp;omega) (fun t ht=>Go.Ev.zO k1 (by rw [k2];exact hz) ž)
 have X:Aside (m=w.drew.setCells aQ (0+i*5) news):=f;have hW:Hid (m=w.drew.setCells aQ (0+i*5) news):=f;have av:i<=cap:=ž
 have aw:j<=cap:=ž
 have ah:g.length=(j-i)*5:=by rw [q,(Go.Ev.TC _ _ 5 rfl (by simp [Ó,Ø])).1];omega
 clear f p k1 k2 k3 k hlen q s ae hz h1;go_enter func363,ntmps363
 go_wp2_with fail
 go_region_law_o (refine step_append_room rfl (.tmp 22) (.tmp 25) 59 rfl 189 info189 5 z qJ (show info189.size=5 by kernel_rfl) aQ 0 i cap ś A (n-j) (cap-j) news ś s1.out ad.out s2.out ž s3.out ?_;rw [<-hW.out])
 go_wp2
 go_ret
 refine⟨by rw [show n-(j-i)=i+(n-j) by omega];rfl,news,g,b, ?_,ah⟩
 rw [X.out,Ç]
set_option maxHeartbeats 4000000 in
set_option maxRecDepth 1000000 in
theorem delE363 (a:Option Addr) (n cap i:Nat) (w:World) (hi:i<=n) (j:n<=cap) (hm:cap<=maxLen) (b:a=â->cap=0):
  Calls prog 363 #[.slice a n cap,.int ß i,.int ß i] w fun e w'=>e=.returned (.slice a n cap)/\w'=w:=by
 have d:=underlying59;have f:=sizeOf189;have mixed:prog.follows .mixedOrders=å:=Ž
 unfold maxLen at hm;cases a with
 |none=>
  have g:=b rfl;obtain rfl:cap=0:=g;obtain rfl:n=0:=ž
  obtain rfl:i=0:=ž
  go_enter func363,ntmps363
  go_wp2
  go_ret
  exact⟨rfl,rfl⟩
 |some a=>
  obtain⟨ab,k,h⟩:=a;go_enter func363,ntmps363
  go_wp2
  all_goals (go_ret;exact⟨rfl,rfl⟩)
def Tryz.adE:À:=⟨fun|146=>367|221=>404|268=>428|138=>429|143=>226|195=>451|197=>382|218=>452|219=>267|260=>415|217=>296|225=>297|224=>298|267=>299|266=>342|314=>343|n=>n,fun|9=>9|31=>22|3=>3|4=>4|0=>0|105=>382|21=>21|5=>5|46=>291|119=>417|139=>420|138=>419|146=>352|51=>351|n=>n,fun|1=>0|3=>1|4=>2|n=>n⟩
theorem Tryz.aGp:Go.Proofs.Lays.n146 prog Tryz.adE where
 mixed:=Ž
 f138:=hL func429 Ž
 f143:=hL func226 Ž
 f146:=hL func367 Ž
 f195:=hL func451 Ž
 f197:=hL func382 Ž
 f217:=hL func296 Ž
 f218:=hL func452 Ž
 f219:=hL func267 Ž
 f221:=hL func404 Ž
 f224:=hL func298 Ž
 f225:=hL func297 Ž
 f260:=hL func415 Ž
 f266:=hL func342 Ž
 f267:=hL func299 Ž
 f268:=hL func428 Ž
 f314:=hL func343 Ž
 t0:=underlying0
 a0:=isAgg0
 z0:=sizeOf0
 v0:=zeroValue0
 t3:=underlying3
 a3:=isAgg3
 z3:=sizeOf3
 v3:=zeroValue3
 t4:=underlying4
 a4:=isAgg4
 z4:=sizeOf4
 v4:=zeroValue4
 t5:=underlying5
 a5:=isAgg5
 z5:=sizeOf5
 v5:=zeroValue5
 t9:=underlying9
 a9:=isAgg9
 z9:=sizeOf9
 v9:=zeroValue9
 t21:=underlying21
 a21:=isAgg21
 z21:=sizeOf21
 v21:=zeroValue21
 t31:=underlying22
 a31:=isAgg22
 z31:=sizeOf22
 v31:=zeroValue22
 t46:=underlying291
 a46:=isAgg291
 z46:=sizeOf291
 v46:=zeroValue291
 t51:=underlying351
 a51:=isAgg351
 z51:=sizeOf351
 v51:=zeroValue351
 t105:=underlying382
 a105:=isAgg382
 z105:=sizeOf382
 v105:=zeroValue382
 t119:=underlying417
 a119:=isAgg417
 z119:=sizeOf417
 t138:=underlying419
 a138:=isAgg419
 z138:=sizeOf419
 v138:=zeroValue419
 t139:=underlying420
 a139:=isAgg420
 z139:=sizeOf420
 v139:=zeroValue420
 t146:=underlying352
 a146:=isAgg352
 z146:=sizeOf352
 v146:=zeroValue352
 g1:=Ž
 g3:=Ž
 g4:=Ž
def Tryz.aGq:À:=⟨fun|10=>366|6=>163|n=>n,fun|22=>22|23=>9|25=>147|3=>3|4=>4|0=>0|n=>n,fun|n=>n⟩
theorem Tryz.aGr:Go.Proofs.SlLaysH.n10 prog Tryz.aGq where
 mixed:=Ž
 f6:=⟨"slices.IndexFunc[[]string,string]",ŷ,hL func163 Ž⟩
 f10:=⟨"slices.DeleteFunc[[]string,string]",ŷ,hL func366 Ž⟩
 t0:=underlying0
 a0:=isAgg0
 z0:=sizeOf0
 v0:=zeroValue0
 t3:=underlying3
 a3:=isAgg3
 z3:=sizeOf3
 v3:=zeroValue3
 t4:=underlying4
 a4:=isAgg4
 z4:=sizeOf4
 v4:=zeroValue4
 t22:=underlying22
 a22:=isAgg22
 z22:=sizeOf22
 v22:=zeroValue22
 a23:=isAgg9
 z23:=sizeOf9
 t25:=underlying147
 a25:=isAgg147
 z25:=sizeOf147
 v25:=zeroValue147
set_option maxHeartbeats 1000000 in
theorem blank (t:ByteArray) (W:World):Calls prog 368 #[.string t] W fun e w'=>e=.returned (.bool t.data.toList.isEmpty)/\ ∃q,w'=W.drewN q:=by
 go_enter func368,ntmps368
 go_wp2
 go_ret
 exact⟨congrArg (fun l:List UInt8=>Ending.returned (.bool l.isEmpty)) (ByteArray.toList_eq t),0,rfl⟩
set_option maxHeartbeats 1000000 in
set_option maxRecDepth 100000 in
theorem aGs (s:ByteArray) (m:Int) (w:World) (p:s.size<4294967281) (hm:w.cell? ⟨Tryz.adE.g 1,0,â⟩=ã (.int ß m)):
  Calls prog 320 #[.string s] w fun r w'=> ∃h,r=.returned h/\w'.ownsRow w.heap.size 9 1 h (Go.Ev.bk [] s.data.toList).length ((Go.Ev.bk [] s.data.toList).map fun t=>Ê ⟨t.toArray⟩)/\Below w.heap.size w w':=by
 have c1:=Any.strings_Split Tryz.aGp Ž s ⟨#[32]⟩ m w p hm ŷ
 obtain⟨d,hd⟩: ∃d,d=(Lib.splitB ⟨#[32]⟩ 0 (Lib.countB s ⟨#[32]⟩) s):=⟨_,rfl⟩
 have hlen:=Lib.splitB_all ⟨#[32]⟩ ŷ 0 _ s rfl
 rw [<-hd]at hlen c1;have k:=Lib.countB_le ⟨#[32]⟩ ŷ s.size s (Nat.le_refl _)
 have u: ∀args w,(callFunc 368 args).run prog w=.ok (.enter 368 args) w:=enters_of func368 Ž rfl
 have i:=AnyE.slices_DeleteFunc Tryz.aGr Ê (fun _=>rfl) (fun t=>t.data.toList.isEmpty) 368 #[] u ⟨#[]⟩ zeroValue9 w.heap.size 0 d.length d.toArray (w.alloc (.cells (d.map Ê).toArray 9)) (fun W x _=>blank x W) (fun n os dk x _=>blank x _) (Go.Ev.ajZ w d 9) (by simp only [List.size_toArray];omega) Ż
 have b:=fun q=>Go.Ev.akB w d 9 s q d.length hd rfl ñ
 obtain⟨j,f⟩: ∃j,j=w.alloc (.cells (d.map Ê).toArray 9):=⟨_,rfl⟩
 rw [<-f]at i;rw [<-f]at b;have c1:Calls prog 367 #[.string s,.string ⟨#[32]⟩] w fun e w'=>e=.returned (.slice (ã ⟨w.heap.size,0,â⟩) d.length d.length)/\w'=j:=c1.mono (by rintro e w' ⟨rfl,rfl⟩;exact⟨by rw [hlen],f.symm⟩)
 have i:Calls prog 366 #[.slice (ã ⟨w.heap.size,0,â⟩) d.length d.length,.func (.func 368) #[] #[]] j fun e w'=> ∃h,e=.returned h/\w'.ownsRow w.heap.size 9 1 h (Go.Ev.bk [] s.data.toList).length ((Go.Ev.bk [] s.data.toList).map fun t=>Ê ⟨t.toArray⟩)/\Below w.heap.size w w':=i.mono (by rintro e w' ⟨rfl,q,rfl⟩;exact⟨_,rfl,b q⟩)
 clear b;clear f hm p hlen k hd;go_enter func320,ntmps320
 go_wp2_with (first|(go_at_call 367;refine c1.mono ?_;rintro e w' ⟨rfl,rfl⟩)|(go_at_call 366;refine i.mono ?_;rintro e w' ⟨h,rfl,z⟩))
 go_ret
 exact⟨_,rfl,z⟩
def Tryz.aGt:À:=⟨fun|5=>474|8=>492|7=>491|19=>505|20=>479|10=>496|11=>497|12=>498|13=>499|14=>500|15=>501|16=>502|17=>503|18=>504|30=>506|31=>507|32=>508|33=>509|34=>510|35=>511|40=>512|n=>n,fun|23=>30|25=>3|3=>3|32=>291|22=>30|0=>0|44=>351|46=>406|4=>4|36=>461|35=>460|41=>288|5=>5|9=>9|53=>468|57=>472|63=>474|64=>150|n=>n,fun|n=>n⟩
theorem Tryz.adF:Go.Proofs.SlLaysM.n5 prog Tryz.aGt where
 mixed:=Ž
 f5:=⟨"slices.Sort[[]int,int]",ŷ,hL func474 Ž⟩
 f7:=⟨"slices.pdqsortOrdered[int]",ŷ,hL func491 Ž⟩
 f8:=hL func492 Ž
 f10:=⟨"slices.insertionSortOrdered[int]",ŷ,hL func496 Ž⟩
 f11:=⟨"slices.heapSortOrdered[int]",ŷ,hL func497 Ž⟩
 f12:=⟨"slices.breakPatternsOrdered[int]",ŷ,hL func498 Ž⟩
 f13:=⟨"slices.choosePivotOrdered[int]",ŷ,hL func499 Ž⟩
 f14:=⟨"slices.reverseRangeOrdered[int]",ŷ,hL func500 Ž⟩
 f15:=⟨"slices.partialInsertionSortOrdered[int]",ŷ,hL func501 Ž⟩
 f16:=⟨"cmp.Less[int]",ŷ,hL func502 Ž⟩
 f17:=⟨"slices.partitionEqualOrdered[int]",ŷ,hL func503 Ž⟩
 f18:=⟨"slices.partitionOrdered[int]",ŷ,hL func504 Ž⟩
 f19:=hL func505 Ž
 f20:=hL func479 Ž
 f30:=⟨"slices.siftDownOrdered[int]",ŷ,hL func506 Ž⟩
 f31:=hL func507 Ž
 f32:=hL func508 Ž
 f33:=⟨"slices.medianAdjacentOrdered[int]",ŷ,hL func509 Ž⟩
 f34:=⟨"slices.medianOrdered[int]",ŷ,hL func510 Ž⟩
 f35:=⟨"cmp.isNaN[int]",ŷ,hL func511 Ž⟩
 f40:=⟨"slices.order2Ordered[int]",ŷ,hL func512 Ž⟩
 t0:=underlying0
 a0:=isAgg0
 z0:=sizeOf0
 v0:=zeroValue0
 t3:=underlying3
 a3:=isAgg3
 z3:=sizeOf3
 v3:=zeroValue3
 t4:=underlying4
 a4:=isAgg4
 z4:=sizeOf4
 v4:=zeroValue4
 t5:=underlying5
 a5:=isAgg5
 z5:=sizeOf5
 v5:=zeroValue5
 t9:=underlying9
 a9:=isAgg9
 z9:=sizeOf9
 v9:=zeroValue9
 t22:=underlying30
 a22:=isAgg30
 z22:=sizeOf30
 v22:=zeroValue30
 t23:=underlying30
 a23:=isAgg30
 z23:=sizeOf30
 v23:=zeroValue30
 t25:=underlying3
 a25:=isAgg3
 z25:=sizeOf3
 v25:=zeroValue3
 t32:=underlying291
 a32:=isAgg291
 z32:=sizeOf291
 v32:=zeroValue291
 t35:=underlying460
 a35:=isAgg460
 z35:=sizeOf460
 v35:=zeroValue460
 t36:=underlying461
 a36:=isAgg461
 z36:=sizeOf461
 v36:=zeroValue461
 t41:=underlying288
 a41:=isAgg288
 z41:=sizeOf288
 v41:=zeroValue288
 t44:=underlying351
 a44:=isAgg351
 z44:=sizeOf351
 v44:=zeroValue351
 t46:=underlying406
 a46:=isAgg406
 z46:=sizeOf406
 v46:=zeroValue406
 t53:=underlying468
 a53:=isAgg468
 z53:=sizeOf468
 v53:=zeroValue468
 t57:=underlying472
 a57:=isAgg472
 z57:=sizeOf472
 v57:=zeroValue472
 t63:=underlying474
 a63:=isAgg474
 z63:=sizeOf474
 v63:=zeroValue474
 t64:=underlying150
 a64:=isAgg150
 z64:=sizeOf150
 v64:=zeroValue150
def Tryz.aGu:À:=⟨fun|143=>226|219=>267|217=>296|225=>297|224=>298|267=>299|266=>342|314=>343|n=>n,fun|9=>9|3=>3|4=>4|5=>5|46=>291|146=>352|51=>351|n=>n,fun|1=>0|n=>n⟩
theorem Tryz.aGv:Go.Proofs.Lays.n143 prog Tryz.aGu where
 mixed:=Ž
 f143:=hL func226 Ž
 f217:=hL func296 Ž
 f219:=hL func267 Ž
 f224:=hL func298 Ž
 f225:=hL func297 Ž
 f266:=hL func342 Ž
 f267:=hL func299 Ž
 f314:=hL func343 Ž
 t3:=underlying3
 a3:=isAgg3
 z3:=sizeOf3
 v3:=zeroValue3
 t4:=underlying4
 a4:=isAgg4
 z4:=sizeOf4
 v4:=zeroValue4
 t5:=underlying5
 a5:=isAgg5
 z5:=sizeOf5
 v5:=zeroValue5
 t9:=underlying9
 a9:=isAgg9
 z9:=sizeOf9
 v9:=zeroValue9
 t46:=underlying291
 a46:=isAgg291
 z46:=sizeOf291
 v46:=zeroValue291
 t51:=underlying351
 a51:=isAgg351
 z51:=sizeOf351
 v51:=zeroValue351
 t146:=underlying352
 a146:=isAgg352
 z146:=sizeOf352
 v146:=zeroValue352
 g1:=Ž
def Tryz.aGw:À:=⟨fun|264=>434|n=>n,fun|53=>406|46=>291|n=>n,fun|n=>n⟩
theorem Tryz.aGx:Go.Proofs.Lays.n264 prog Tryz.aGw where
 mixed:=Ž
 f264:=hL func434 Ž
 t46:=underlying291
 a46:=isAgg291
 z46:=sizeOf291
 v46:=zeroValue291
 t53:=underlying406
 a53:=isAgg406
 z53:=sizeOf406
 v53:=zeroValue406
def Tryz.aGy:À:=⟨fun|41=>248|n=>n,fun|22=>30|23=>3|4=>4|n=>n,fun|n=>n⟩
theorem Tryz.laysClone248:Ã prog Tryz.aGy where
 mixed:=Ž
 f41:=⟨"slices.Clone[[]int,int]",ŷ,hL func248 Ž⟩
 t4:=underlying4
 a4:=isAgg4
 z4:=sizeOf4
 v4:=zeroValue4
 t22:=underlying30
 a22:=isAgg30
 z22:=sizeOf30
 v22:=zeroValue30
noncomputable def vr:TypeInfo:=(prog.info? 3).get Ž
theorem adG:prog.info? 3=ã vr:=Ž
theorem aGz:vr.bytes<=1024:=ų
theorem clone248 {gl:bA} {fn:Func} (ds:List DV) (r:bK [bh]) (h:fI bh ds=ã r):cR prog gl {f:=248,fn:=fn,ins:=[.one (.sh bh)],bx:=[],outs:=.one (.own bh),bH:=[],loops:=[],cH:=[],bz:=[bh],bT:=ã (fI bh)} ds r:=
 Bg (ts:=ay bh) (e:=3) rfl (fun _=>rfl) (fun b off n c news w i g d j=>(AnyE.slices_Clone Tryz.laysClone248 vr (.int ß 0) 1 vr.bytes adG Ž Ž rfl rfl ŷ sizeOf3 b off n c news w i Ŕ (Æ (Â _ aGz) İ) d j).mono (fun e w' h=>Ŝ))
  (fun a c w=>Bm Tryz.laysClone248 vr (.int ß 0) 1 vr.bytes adG Ž Ž rfl rfl ŷ sizeOf3 a c w) (fun n c w=>AnyE.slices_Clone_nil Tryz.laysClone248 n c w) ds r h
def Tryz.aGA:À:=⟨fun|41=>273|n=>n,fun|22=>55|23=>137|4=>4|n=>n,fun|n=>n⟩
theorem Tryz.laysClone273:Ã prog Tryz.aGA where
 mixed:=Ž
 f41:=⟨"slices.Clone[[]loop.example/g00289/impl.Entry,loop.example/g00289/impl.Entry]",ŷ,hL func273 Ž⟩
 t4:=underlying4
 a4:=isAgg4
 z4:=sizeOf4
 v4:=zeroValue4
 t22:=underlying55
 a22:=isAgg55
 z22:=sizeOf55
 v22:=zeroValue55
noncomputable def info137:TypeInfo:=(prog.info? 137).get Ž
theorem adH:prog.info? 137=ã info137:=Ž
theorem aGB:info137.bytes<=1024:=ų
theorem clone273 {gl:bA} {fn:Func} (ds:List DV) (r:bK [cw]) (h:fI cw ds=ã r):cR prog gl {f:=273,fn:=fn,ins:=[.one (.sh cw)],bx:=[],outs:=.one (.own cw),bH:=[],loops:=[],cH:=[],bz:=[cw],bT:=ã (fI cw)} ds r:=
 Bg (ts:=ay cw) (e:=137) rfl (fun _=>rfl) (fun b off n c news w i g d j=>(AnyE.slices_Clone Tryz.laysClone273 info137 (.agg #[.int ß 0,.int ß 0,.int ß 0,.string ⟨#[]⟩]) 4 info137.bytes adH Ž Ž rfl rfl ŷ sizeOf137 b off n c news w i Ŕ (Æ (Â _ aGB) İ) d j).mono (fun e w' h=>Ŝ))
  (fun a c w=>Bm Tryz.laysClone273 info137 (.agg #[.int ß 0,.int ß 0,.int ß 0,.string ⟨#[]⟩]) 4 info137.bytes adH Ž Ž rfl rfl ŷ sizeOf137 a c w) (fun n c w=>AnyE.slices_Clone_nil Tryz.laysClone273 n c w) ds r h
end Go.Proofs.YtfledcdkafkgaaaGreatDoor
