/- A verified evaluator of the machine's code, part 4: no program in sight. -/
import Derived.Test.YtfpfjmahdneehaaGreatDoorEv3
import Derived.ChangeKeysEq
import Derived.ChangeArms
import Derived.WideShapes
import Derived.Carry
import Derived.Below
import Derived.IntWalk
import Derived.Lib.ItoaLen
import Derived.Lib.LaidTab
import Derived.Sort.Grow
import Derived.Deep.Draws
import Derived.Lib.Bytealg
import Derived.Lib.Strings
import Derived.Lib.AtoiErrMem
import Derived.Lib.AtoiBound
import Derived.Lib.Atoi
import GoSem.ClaimGoes
import Derived.KernelRfl
open Bool renaming and_eq_true->À,false_eq_true->Í,not_eq_true'->ð,or_eq_true->Ā,and_true->č,not_true->ě,false_or->Ĝ
open List renaming append_assoc->Á,getElem?_eq_getElem->Ä,length_cons->Å,takeWhile_cons->Æ,mem_append->É,mem_cons->Î,map_cons->Ò,getElem?_take->Ó,replicate->Ô,mem_singleton->Õ,mem_iff_getElem->Ö,length->Ø,take_succ_eq_append_getElem->Ù,take_succ_cons->Ú,map_nil->Û,cons_append->Þ,getElem_mem->ß,getElem?_append_left->à,flatMap_cons->ä,mem_range->å,flatMap_append->ê,getElem?_append_right->ì,getD_eq_getElem?_getD->î,getElem?_set->ñ,foldl_append->ó,getElem?_cons_zero->õ,take_length->ö,getElem?_replicate->ø,append_eq_nil_iff->û,sum_replicate_nat->ü,range->ý,nil_append->þ,append_nil->ÿ,getElem?_eq_none->ā,drop_drop->ă,mem_of_mem_take->ą,drop_succ_cons->ĉ,length_flatMap->Ċ,map_congr_left->ċ,dropWhile_cons->Č,getElem?_drop->Ď,length_append->ď,pairwise_cons->Đ,ext_getElem?->đ,isEmpty_iff->Ē,map_const'->ĕ,isPrefixOf->Ę,take_add->ĝ,contains->ğ,isEmpty->ġ
open Nat renaming eq_of_beq_eq_true->Â,le_refl->Ï,beq->Ñ,mul_le_mul_right->Ý,add_mul->á,ble->ã,pow_succ->æ,le_of_ble_eq_true->ç,add_assoc->è,not_lt_zero->é,zero_le->Ą,testBit->Ć,strongRecOn->ė,mul_assoc->Ğ,zero_mul->Ģ,mul_comm->ģ,zero_add->Ĥ,lt_or_ge->ĥ
open Option renaming bind_eq_some_iff->Ã
open Go.Lib renaming compareBytes->Ç,indexByte->Ê,itoa->í,decDigits->ô,atoi->ú,TabIs->Ĉ,decFrom->Ĕ,pow10Tab->Ġ,decNat->ħ
open UInt8 renaming ofNat->È,lt_iff_toNat_lt->Ă,toNat_inj->ę
open Go.Op renaming bytesLess->Ë,eqFields->ē
open Go.IntKind renaming wrap_i64->Ì,wrap_u8->Ė
open Option.some renaming injEq->Ð,inj->Ü
open Classical renaming propDecidable->â
open Array renaming getElem?_eq_some_iff->ë
open Go.Program renaming closureVia->ï,unfollowed->Ĩ,varsNamed->Ī,plainKey->ī,fieldsOf->Ĭ,recurses->ĭ,inPlace->Į,goes->į
open Sum renaming inl->ò,inr->ĩ
open Int renaming tmod->ù,toNat->ć,tmod_nonneg->Ě,tdiv->Ħ
open Go.IntKind
namespace Go.Ev
def rW (t:TypeId):List (TypeId×TyI)->Option TyI
 | []=>none
 |(a,i)::r=>cond (Ñ a t) (some i) (rW t r)
def rX (P:Program):List Field->List (Nat×TypeId)->Bool
 | [],[]=>true
 |f::fs,(off,t)::r=>Ñ f.offset off&&(Ñ f.type t&&((match P.info? t with|some inf=> !(Ñ inf.size 0)|none=>false)&&rX P fs r))
 |_,_=>false
def En (P:Program) (t:TypeId):U->Bool
 |.bool=>match P.underlying t with|some .bool=>true|_=>false
 |.int k=>match P.underlying t with|some (.int k')=>decide (k'=k)|_=>false
 |.str=>match P.underlying t with|some .string=>true|_=>false
 |.slice e=>match P.underlying t with|some (.slice b)=>Ñ b e|_=>false
 |.struct fs=>match P.underlying t with|some (.struct fields)=>rX P fields.toList fs|_=>false
 |.ptr=>match P.underlying t with|some (.pointer _)=>true|_=>false
 |.func=>match P.underlying t with|some (.func _ _ _)=>true|_=>false
 |.iface=>match P.underlying t with|some (.interface _)=>true|_=>false
 |.other=>false
def NM (u:U) (z:Value):Bool:=match u,z with
 |.struct _,.agg _=>true
 |.struct _,_=>false
 |_,z=>cC z
def NN (P:Program) (t:TypeId) (i:TyI):Bool:=match P.info? t with
 |some inf=>Ñ inf.size i.size&&(Ñ inf.bytes i.bytes&&(match inf.zero with|some z=>oy i.zero z.cells.toList&&NM i.u z|none=>false))
 |none=>false
def NP (P:Program) (e:TypeId) (c:CT):Bool:=match P.info? e with
 |some inf=>Ñ inf.size (ak c).size&&(ã inf.bytes 1024&&((match inf.zero with|some z=>kQ (ak c) z.cells.toList|none=>false)&&
   (match ak c with|.one (.int .u8)=>(match P.underlying e with|some (.int .u8)=>true|_=>false)|_=>true)))
 |none=>false
def NQ (P:Program) (i:TyI):Bool:=match i.bA,i.u with
 |some (.one c),.slice e=> !bN c||NP P e c
 |_,_=>true
def eu:List CT->List Cell->Bool
 | [],[]=>true
 |c::cs,x::xs=>mU c x&&eu cs xs
 |_,_=>false
theorem NR: ∀(ts:aR) (xs:List Cell),kP ts xs=eu ts.list xs
 |.one c,[x]=>by simp [kP,aR.list,eu]
 |.one c,[]=>by simp [kP,aR.list,eu]
 |.one c,_::_::_=>by simp [kP,aR.list,eu]
 |.cons c cs,[]=>by simp [kP,aR.list,eu]
 |.cons c cs,x::xs=>by simp only [kP,aR.list,eu,NR cs xs]
theorem rY: ∀bs:List Bool,jY bs=bs.all id
 | []=>rfl
 | [b]=>by simp [jY]
 |b::c::bs=>by
  rw [jY,rY (c::bs)]
  .rfl
  .simp
def uA (P:Program) (rec:TypeId->List CT->Bool):Nat->List Field->List CT->Bool
 |_,[],cs=>cs.isEmpty
 |off,f::fs,cs=>Ñ f.offset off&&(f.name != "_" &&(match P.info? f.type with
  |some i=>rec f.type (cs.take i.size)&&uA P rec (off+i.size) fs (cs.drop i.size)
  |none=>false))
def nc (P:Program):Nat->TypeId->List CT->Bool
 |0,_,_=>false
 |n+1,t,cs=>match P.underlying t with
  |some .bool=>(match cs with| [.bool]=>true|_=>false)
  |some (.int _)=>(match cs with| [.int _]=>true|_=>false)
  |some .string=>(match cs with| [.str]=>true|_=>false)
  |some (.struct fields)=> !P.stoodInHeld t&&uA P (nc P n) 0 fields.toList cs
  |_=>false
def Eo (P:Program) (t:TypeId) (i:TyI):Bool:=
 !i.eq||(match i.bA,P.underlying t with|some ts,some (.struct _)=> !P.eqGuardType P.depth t&&nc P 20 t ts.list|_,_=>false)
def yo (P:Program) (H:Heap) (R:Nat->Prop) (st:St) (θ:Asg) (t:TypeId) (xs:List Cell) (v:Value):Prop:=
 ((∃fs,P.underlying t=some (.struct fs))/\ ∃arr,v=.agg arr/\aI H R st θ xs arr.toList)\/((∀fs,P.underlying t≠some (.struct fs))/\ ∃x,xs=[x]/\az H R st θ x v)
theorem aI.len {H:Heap} {R:Nat->Prop} {st:St} {θ:Asg}: ∀ {xs:List Cell} {vs:List Value},aI H R st θ xs vs->vs.length=xs.length
 | [],_,h=>by simp only [aI]at h;subst h;rfl
 |x::xs,vs,h=>by
  simp only [aI]at h;obtain⟨v,r,rfl, -,h⟩:=h;simp [aI.len h]
theorem aI.cut {H:Heap} {R:Nat->Prop} {st:St} {θ:Asg}: ∀ {xs:List Cell} {vs:List Value} (k:Nat),aI H R st θ xs vs->aI H R st θ (xs.take k) (vs.take k)/\aI H R st θ (xs.drop k) (vs.drop k)
 |xs,vs,0,h=>by simpa [aI]using h
 | [],vs,k+1,h=>by simp only [aI]at h;subst h;simp [aI]
 |x::xs,vs,k+1,h=>by
  simp only [aI]at h;obtain⟨v,r,rfl,d,b⟩:=h;simp only [Ú,ĉ,aI];exact⟨⟨v,_,rfl,d,(aI.cut k b).1⟩,(aI.cut k b).2⟩
theorem qw: ∀ {cs:List CT} {xs:List Cell} (k:Nat),eu cs xs=true->eu (cs.take k) (xs.take k)=true/\eu (cs.drop k) (xs.drop k)=true
 |cs,xs,0,h=>by simpa [eu]using h
 | [],[],k+1,h=>by simp [eu]
 | [],_::_,k+1,h=>by simp [eu]at h
 |_::_,[],k+1,h=>by simp [eu]at h
 |c::cs,x::xs,k+1,h=>by
  simp only [eu,À]at h;simp only [Ú,ĉ,eu,À];exact⟨⟨h.1,(qw k h.2).1⟩,(qw k h.2).2⟩
theorem NS: ∀ {xs d:List Cell} {bs:List Bool} (k:Nat),eW xs d=some bs-> ∃f g,bs=f++g/\eW (xs.take k) (d.take k)=some f/\eW (xs.drop k) (d.drop k)=some g
 |xs,d,bs,0,h=>⟨[],bs,rfl,by simp [eW],by simpa using h⟩
 | [],[],bs,k+1,h=>by simp only [eW,Ð]at h;subst h;exact⟨[],[],rfl,by simp [eW],by simp [eW]⟩
 | [],_::_,bs,k+1,h=>by simp [eW]at h
 |_::_,[],bs,k+1,h=>by simp [eW]at h
 |x::xs,y::d,bs,k+1,h=>by
  simp only [eW]at h;cases e:tT x y with
  |none=>rw [e]at h;cases h
  |some b=>
   cases i:eW xs d with
   |none=>rw [e,i]at h;cases h
   |some c=>
    rw [e,i]at h;cases h;obtain⟨f,g,j,m,p⟩:=NS k i;exact⟨b::f,g,by rw [j];rfl,by simp [eW,e,m],by simpa using p⟩
theorem NT {P:Program} {t:TypeId} {i:TypeInfo} (hi:P.info? t=some i) {H:Heap} {R:Nat->Prop} {st:St} {θ:Asg} {vs:Array Value} {off:Nat} {xs:List Cell} {n:Nat} {cs:List CT} (f:nc P n t (cs.take i.size)=true)
  (s:eu cs xs=true) (h:aI H R st θ xs (vs.toList.drop off)) (w:World): ∃v,(part t vs off).run P w=.ok v w/\yo P H R st θ t (xs.take i.size) v:=by
 have j:=(h.cut i.size).1;have b:=(qw i.size s).1;cases n with
 |zero=>simp [nc]at f
 |succ n=>
  have basic:(∀fs,P.underlying t≠some (.struct fs))->P.plainKey t=true->(∃c,cs.take i.size=[c])-> ∃v,(part t vs off).run P w=.ok v w/\yo P H R st θ t (xs.take i.size) v:=by
   rintro m hp ⟨c,p⟩
   rw [p]at b;obtain⟨x,q⟩: ∃x,xs.take i.size=[x]:=by
    match hq:xs.take i.size,b with
    | [x],_=>exact⟨x,rfl⟩
    | [],b=>simp [eu]at b
    |_::_::_,b=>simp [eu]at b
   rw [q]at j;simp only [aI]at j;obtain⟨v,r,e,u,rfl⟩:=j;have z:vs[off]? =some v:=by
    rw [<-Array.getElem?_toList]
    have k:=congrArg (·[0]?) e
    simp only [õ,Ó,Ď,Nat.add_zero]at k
    split at k
    .exact k
    .cases k
   exact⟨v,run_part_plain w hp z,.inr ⟨m,x,q,u.1⟩⟩
  have g: ∀d,P.underlying t=some d->(match d with|.bool|.int _|.string=>true|_=>false)=true->P.plainKey t=true:=fun d hd hm=>by
   unfold ī;rw [hd];cases d<;>simp_all
  unfold nc at f;split at f
  .rename_i hu
   split at f
   .rename_i e;exact basic (by rw [hu];simp) (g _ hu rfl) ⟨_,e⟩
   .cases f
  .rename_i hu
   split at f
   .rename_i e;exact basic (by rw [hu];simp) (g _ hu rfl) ⟨_,e⟩
   .cases f
  .rename_i hu
   split at f
   .rename_i e;exact basic (by rw [hu];simp) (g _ hu rfl) ⟨_,e⟩
   .cases f
  .rename_i fields hu
   refine⟨.agg (vs.extract off (off+i.size)), ?_,.inl ⟨⟨fields,hu⟩,_,rfl, ?_⟩⟩
   .simp [part,isAgg,run_underlying hu,sizeOf,run_typeInfo w hi]
   .have e:(vs.extract off (off+i.size)).toList=(vs.toList.drop off).take i.size:=by
     rw [Array.toList_extract];simp [List.extract]
    rw [e];exact j
  .cases f
theorem NU {P:Program} {H:Heap} {R:Nat->Prop} {st:St} {θ:Asg} {w:World}: ∀(n:Nat) (t:TypeId) (cs:List CT),nc P n t cs=true-> ∀(d:Nat),n<=d-> ∀(v u:Value) (xs j:List Cell) (bs:List Bool),
  eu cs xs=true->eu cs j=true->eW xs j=some bs->yo P H R st θ t xs v->yo P H R st θ t j u->(Op.equalIn d t v u).run P w=.ok (bs.all id) w
 |0,_,_,h,_,_,_,_,_,_,_,_,_,_,_,_=>by simp [nc]at h
 |n+1,t,cs,h,d,hd,v,u,xs,j,bs,g,hy,k,rx,b=>by
  obtain⟨d,rfl⟩: ∃d',d=d'+1:=⟨d-1,by omega⟩
  unfold nc at h;split at h
  .rename_i hu
   split at h
   .rcases rx with⟨⟨fs,e⟩, -⟩|⟨-,x,rfl,rx⟩
    .rw [hu]at e;cases e
    rcases b with⟨⟨fs,e⟩, -⟩|⟨-,y,rfl,b⟩
    .rw [hu]at e;cases e
    simp only [eu,č]at g hy;cases x<;>simp only [mU,Í]at g
    cases y<;>simp only [mU,Í]at hy
    simp only [eW,tT,Ð]at k;simp only [az]at rx b;rw [rx,b,<-k,run_equalIn_bool' w d _ _ _ hu];simp
   .cases h
  .rename_i hu
   split at h
   .rcases rx with⟨⟨fs,e⟩, -⟩|⟨-,x,rfl,rx⟩
    .rw [hu]at e;cases e
    rcases b with⟨⟨fs,e⟩, -⟩|⟨-,y,rfl,b⟩
    .rw [hu]at e;cases e
    simp only [eu,č]at g hy;cases x<;>simp only [mU,Í]at g
    cases y<;>simp only [mU,Í]at hy
    have g:=of_decide_eq_true g;have hy:=of_decide_eq_true hy;subst g;subst hy;simp only [eW,tT,decide_true,Y,Ð]at k;simp only [az]at rx b;rw [rx.1,b.1,<-k,run_equalIn_int w d _ _ _ _ _ hu];simp
   .cases h
  .rename_i hu
   split at h
   .rcases rx with⟨⟨fs,e⟩, -⟩|⟨-,x,rfl,rx⟩
    .rw [hu]at e;cases e
    rcases b with⟨⟨fs,e⟩, -⟩|⟨-,y,rfl,b⟩
    .rw [hu]at e;cases e
    simp only [eu,č]at g hy;cases x<;>simp only [mU,Í]at g
    cases y<;>simp only [mU,Í]at hy
    simp only [eW,tT,Ð]at k;simp only [az]at rx b;rw [rx.1,b.1,<-k,run_equalIn_string w d _ _ _ hu,ByteArray.toList_eq,ByteArray.toList_eq];simp
   .cases h
  .rename_i fields hu
   simp only [À,ð]at h;obtain⟨r,s⟩:=h;have z: ∃arr,v=.agg arr/\aI H R st θ xs arr.toList:=by
    rcases rx with⟨-,h⟩|⟨e, -⟩
    .exact h
    .exact absurd hu (e _)
   have ad: ∃arr,u=.agg arr/\aI H R st θ j arr.toList:=by
    rcases b with⟨-,h⟩|⟨e, -⟩
    .exact h
    .exact absurd hu (e _)
   clear rx b;obtain⟨vs,rfl,rx⟩:=z;obtain⟨us,rfl,b⟩:=ad;have p:P.fieldsOf t=fields:=by unfold Ĭ;rw [hu]
   rw [run_equalIn_struct w d t vs us (by rw [p];exact hu) r,p]
   have key: ∀(fs:List Field) (off:Nat) (cs:List CT) (xs j:List Cell) (bs:List Bool),uA P (nc P n) off fs cs=true->eu cs xs=true->eu cs j=true->eW xs j=some bs->
     aI H R st θ xs (vs.toList.drop off)->aI H R st θ j (us.toList.drop off)->(ē d vs us fs).run P w=.ok (bs.all id) w:=by
    intro fs;induction fs with
    |nil=>
     intro off cs xs j bs q g hy k _ _;simp only [uA,Ē]at q;subst q;cases xs with
     |cons _ _=>simp [eu]at g
     |nil=>
      cases j with
      |cons _ _=>simp [eu]at hy
      |nil=>simp only [eW,Ð]at k;subst k;simp [ē]
    |cons f fs ih=>
     intro off cs xs j bs q g hy k rx b;simp only [uA,À,bne_iff_ne,ne_eq]at q;obtain⟨h1,h2,m⟩:=q;split at m
     .rename_i i hi
      simp only [À]at m;have h1:=Â h1;obtain⟨v,pv,rv⟩:=NT hi m.1 g rx w;obtain⟨u,pu,ru⟩:=NT hi m.1 hy b w;obtain⟨b1,b2,rfl,e1,e2⟩:=NS i.size k;have k1:=NU (w:=w) n f.type _ m.1 d (by omega) v u _ _ b1 (qw i.size g).1 (qw i.size hy).1 e1 rv ru
      have dr: ∀zs:Array Value,(zs.toList.drop off).drop i.size=zs.toList.drop (off+i.size):=fun zs=>by rw [ă]
      have k2:=ih (off+i.size) _ _ _ b2 m.2 (qw i.size g).2 (qw i.size hy).2 e2 (by rw [<-dr];exact(rx.cut i.size).2) (by rw [<-dr];exact(b.cut i.size).2)
      rw [<-h1]at pv pu;simp only [ē,if_pos h2,Sem.run_bind,pv,Result.andThen_ok,pu,k1,List.all_append];cases b1.all id
      .simp
      .simp [k2]
     .cases m
   exact key fields.toList 0 cs xs j bs s g hy k (by simpa using rx) (by simpa using b)
  .cases h
theorem Zm {P:Program} {t:TypeId} {i:TyI} (h:Eo P t i=true) (he:i.eq=true) (ts:aR) (b:i.bA=some ts):Mn P t ts:=by
 unfold Eo at h;rw [he,b]at h;simp only [ě,Ĝ]at h;split at h
 .rename_i fields g d
  cases g;simp only [À,ð]at h;obtain⟨j,k⟩:=h;refine⟨j,fun xs m vs us bs w H R st θ f hy p rx q=> ?_⟩
  rw [NR]at f hy;rw [Op.equal,rY];exact NU 20 t _ k _ (by unfold Op.maxDepth;omega) _ _ xs m bs f hy p (.inl ⟨⟨_,d⟩,vs,rfl,rx⟩) (.inl ⟨⟨_,d⟩,us,rfl,q⟩)
 .cases h
def Ep (P:Program) (t:TypeId) (i:TyI):Bool:=
 NN P t i&&(En P t i.u&&(NQ P i&&((match i.u with|.struct _=>true|_=>Ñ i.size 1)&&Eo P t i)))
theorem NV {P:Program}: ∀ {fs:List Field} {r:List (Nat×TypeId)},rX P fs r=true->fs.length=r.length/\ ∀(i off:Nat) (t:TypeId),r[i]? =some (off,t)-> ∃f:Field,fs[i]? =some f/\f.offset=off/\f.type=t/\ ∃inf,P.info? t=some inf/\inf.size≠0
 | [],[],_=>⟨rfl,by simp⟩
 | [],_::_,h=>by simp [rX]at h
 |_::_,[],h=>by simp [rX]at h
 |f::fs,(off,t)::r,h=>by
  simp only [rX,À]at h;obtain⟨g,j,d,k⟩:=h;obtain⟨k1,k2⟩:=NV k;refine⟨by simp [k1],fun i o u hi=> ?_⟩
  cases i with
  |zero=>
   simp only [õ,Ð,Prod.mk.injEq]at hi
   obtain⟨rfl,rfl⟩:=hi;refine⟨f,rfl,Â g,Â j, ?_⟩
   split at d
   .rename_i inf b
    exact⟨inf,b,fun e=>by rw [e]at d;simp at d⟩
   .cases d
  |succ i=>exact k2 i o u (by simpa using hi)
theorem Zn {P:Program} {t:TypeId} {u:U} (h:En P t u=true):lR P t u:=by
 cases u<;>simp only [En]at h<;>simp only [lR]
 case bool=>split at h<;>simp_all
 case int k=>split at h<;>simp_all
 case str=>split at h<;>simp_all
 case slice e=>
  split at h
  .rename_i m he;rw [he,Â h]
  .cases h
 case struct fs=>
  split at h
  .rename_i fields d
   obtain⟨g,j⟩:=NV h;refine⟨fields,d,by simpa using g,fun i off t hi=> ?_⟩
   obtain⟨f,k1,k2⟩:=j i off t hi;exact⟨f,by simpa using k1,k2⟩
  .cases h
 case ptr=>
  split at h
  .rename_i e he;exact⟨e,he⟩
  .cases h
 case func=>
  split at h
  .rename_i a b c he;exact⟨a,b,c,he⟩
  .cases h
 case iface=>
  split at h
  .rename_i e he;exact⟨e,he⟩
  .cases h
 case other=>cases h
theorem Zo {P:Program} {T:TypeId->Option TyI} {t:TypeId} {i:TyI} (h:Ep P t i=true):oz P T t i:=by
 simp only [Ep,À]at h;obtain⟨f,q,d,p,r⟩:=h;refine⟨?_,Zn q,fun c s hs e he=> ?_, ?_,fun he ts j=>Zm r he ts j⟩
 .unfold NN at f
  split at f
  .rename_i inf b
   simp only [À]at f;obtain⟨k1,k2,k3⟩:=f;split at k3
   .rename_i z m
    simp only [À]at k3;refine⟨inf,z,b,Â k1,Â k2,m,k3.1, ?_⟩
    have k:=k3.2;unfold NM at k;cases hu:i.u<;>rw [hu]at k<;>cases z<;>simp_all
   .cases k3
  .cases f
 .unfold NQ at d
  rw [s,he]at d;simp only [hs,ě,Ĝ]at d;unfold NP at d;split at d
  .rename_i inf b
   simp only [À]at d;obtain⟨k1,k2,k3,g⟩:=d;split at k3
   .rename_i z m
    refine⟨inf,z,b,Â k1,ç k2,m,k3, ?_⟩
    split
    .rename_i heq
     rw [heq]at g;simp only at g;split at g
     .assumption
     .cases g
    .trivial
   .cases k3
  .cases d
 .split
  .trivial
  .split at p
   .rename_i h _ _ hh;exact absurd hh (h _)
   .exact Â p
def uC (P:Program):List (TypeId×TyI)->Bool
 | []=>true
 |(t,i)::r=>Ep P t i&&uC P r
theorem NW {P:Program} {T:TypeId->Option TyI} {t:TypeId} {i:TyI}: ∀ {l:List (TypeId×TyI)},uC P l=true->rW t l=some i->oz P T t i
 | [],_,h=>by simp [rW]at h
 |(a,j)::r,h,b=>by
  simp only [uC,À]at h;simp only [rW]at b;cases d:Ñ a t with
  |true=>
   rw [d]at b;simp only [Y,Ð]at b;subst b;rw [<-Â d];exact Zo h.1
  |false=>rw [d]at b;exact NW h.2 b
end Go.Ev
namespace Go.Ev
def uD:List Entry->Entry->Nat->Entry
 | [],d,_=>d
 |x::_,_,0=>x
 |_::r,d,n+1=>uD r d n
theorem Er {p:Entry->Prop} {d:Entry} (hd:p d): ∀(l:List Entry) (_: ∀x∈l,p x) (e:Nat),p (uD l d e)
 | [],_,_=>hd
 |x::_,h,0=>h x (by simp)
 |_::r,h,n+1=>Er hd r (fun x b=>h x (by simp [b])) n
def NY (f:FuncId):List (FuncId×List Nat)->List Nat
 | []=>[]
 |(a,l)::r=>cond (Ñ a f) l (NY f r)
structure yp (P:Program) (E:Entry):Prop where
 entry:ki E=true
 fn:uz E=true
 f:P.funcs[E.f]? =some E.fn
 name:(E.fn.name== "runtime.NumGoroutine")=false
 body:E.fn.body.isNone=false
structure dH (P:Program) (l:List Entry):Prop where
 ok: ∀x∈l,yp P x
theorem dH.nil {P:Program}:dH P []:=⟨by simp⟩
theorem dH.cons {P:Program} {x:Entry} {l:List Entry} (h:yp P x) (b:dH P l):dH P (x::l):=⟨fun y hy=>by
 rcases Î.1 hy with rfl|hy
 .exact h
 .exact b.ok y hy⟩
theorem Zp {P:Program} {gl:bF} {eO:List (TypeId×TyI)} {l:List Entry} {d:Entry} (b:P.follows .mixedOrders=true) (g:uC P eO=true) (hd:yp P d) (i:dH P l)
  (hp: ∀x∈d::l,∀p,x.cg=some p-> ∀ds r,p ds=some r->cW P gl x ds r):Em P gl (fun t=>rW t eO) (uD l d):=
 have all: ∀e,yp P (uD l d e):=Er hd l i.ok
 ⟨⟨fun _ _ h=>NW g h,b⟩,b,fun e=>(all e).entry,fun e=>(all e).fn,fun e=>(all e).f,fun e=>(all e).name,fun e=>(all e).body,
  fun e=>Er (p:=fun x=> ∀p,x.cg=some p-> ∀ds r,p ds=some r->cW P gl x ds r) (hp d (by simp)) l (fun x j=>hp x (by simp [j])) e⟩
noncomputable def qx:Code->Nat->Code
 |.seq a b,id=>match qx a id with|.skip=>qx b id|c=>c
 |.cond _ a b,id=>match qx a id with|.skip=>qx b id|c=>c
 |.block i (.loop c),id=>cond (Ñ i id) c (qx c id)
 |.block _ c,id=>qx c id
 |_,_=>.skip
noncomputable def Zq (T:TypeId->Option TyI) (call:FuncId->List TV->Nat->M TV) (e:Entry) (n id:Nat) (x:cI×cI×List CT) (self:List DV->Option (Sum (bO x.2.2) (bO e.bI))) (ds:List DV):Option (Sum (bO x.2.2) (bO e.bI)):=
 rH x.1 ds fun st=>eD T call e n (qx (e.fn.body.getD .skip) id) st
  ⟨fun st=>qe x.1 st self,fun i st=>cond (Ñ i id) (qe x.2.1 st fun ds=>(eG x.2.2 ds).bind fun x=>some (.inl x)) none,
   fun st=>qi T e ⟨fun _=>none,fun _ _=>none,fun _=>none,fun r=>some (.inr r)⟩ st,fun r=>some (.inr r)⟩
noncomputable def Zr (T:TypeId->Option TyI) (call:FuncId->List TV->Nat->M TV) (e:Entry) (n id:Nat) (x:cI×cI×List CT):Nat->List DV->Option (Sum (bO x.2.2) (bO e.bI)):=
 iter id (Zq T call e n id x)
end Go.Ev
namespace Go.Ev
def Typed:List CT->List DV->Prop
 | [],ds=>ds=[]
 |c::cs,ds=> ∃x b,ds=⟨c,x⟩::b/\Typed cs b
theorem Typed.append: ∀ {cs d:List CT} {ds b:List DV},Typed cs ds->Typed d b->Typed (cs++d) (ds++b)
 | [],_,ds,_,h,f=>by simp only [Typed]at h;subst h;exact f
 |c::cs,d,ds,b,h,f=>by
  simp only [Typed]at h;obtain⟨x,r,rfl,h⟩:=h;exact⟨x,r++b,rfl,Typed.append h f⟩
def bf.fit:bf->Prop
 |.b _=>True
 |.i k n=>k.min<=n/\n<=k.max
 |.s x=>x.length<=maxLen
 |.l sz cs=>0<sz/\cs.length<=maxLen*sz/\fits cs
where fits:List bf->Prop
 | []=>True
 |d::ds=>d.fit/\fits ds
section
variable {H:Heap} {R:Nat→Prop} {own:Bool}
theorem au.Es: ∀ {ds f:List bf} {vs b:List Value},au H R own ds vs []->au H R own f b []->au H R own (ds++f) (vs++b) []
 | [],_,vs,_,h,i=>by simp only [au]at h;rw [h.1];exact i
 |d::ds,f,vs,b,h,i=>by
  simp only [au]at h;obtain⟨v,r,f1,f2,rfl,g,j,k⟩:=h;have g:=(û.1 g.symm);rw [g.2]at k;rw [g.1]at j;simp only [Þ,au];exact⟨v,r++b,[],[],rfl,rfl,j,au.Es k i⟩
mutual
theorem aD.fit: ∀ {d:bf} {v:Value} {fp:List Nat},aD H R false d v fp->d.fit
 |.b _,_,_,_=>by simp [bf.fit]
 |.i _ _,_,_,h=>by simp only [aD]at h;simp only [bf.fit];exact h.2.1
 |.s _,_,_,h=>by simp only [aD]at h;simp only [bf.fit];exact h.2.1
 |.l sz cs,_,_,h=>by
  simp only [aD]at h;obtain⟨a,len,cap, -,m,f,j,p,k⟩:=h;simp only [bf.fit];refine⟨m,by rw [f];exact Ý _ (Nat.le_trans j p), ?_⟩
  rcases k with⟨h, -⟩|⟨-, -,k⟩
  .cases h
  .rcases k with rfl|⟨g,off,cur,ty,frz, -, -, -, -,q⟩
   .simp [bf.fit.fits]
   .exact au.fits q
theorem au.fits: ∀ {ds:List bf} {vs:List Value} {fp:List Nat},au H R false ds vs fp->bf.fit.fits ds
 | [],_,_,_=>by simp [bf.fit.fits]
 |d::ds,_,_,h=>by
  simp only [au]at h;obtain⟨v,r,f1,f2, -, -,f,j⟩:=h;simp only [bf.fit.fits];exact⟨aD.fit f,au.fits j⟩
end
end
theorem NZ: ∀ {ts:aR} {ds:List DV},Typed ts.list ds-> ∃x:bg ts,bH ts x=ds.map fun d=>enc d.c d.x
 |.one c,ds,h=>by
  simp only [aR.list,Typed]at h;obtain⟨x,r,rfl,rfl⟩:=h;exact⟨x,by simp [bH]⟩
 |.cons c cs,ds,h=>by
  simp only [aR.list,Typed]at h;obtain⟨x,r,rfl,h⟩:=h;obtain⟨y,hy⟩:=NZ h;exact⟨(x,y),by simp [bH,hy]⟩
theorem uG: ∀(ts:aR) (x:bg ts),(bH ts x).length=ts.size
 |.one _,_=>rfl
 |.cons _ cs,x=>by simp [bH,aR.size,uG cs x.2]
def iB (S:List (TypeId×List CT)) (t:TypeId) (bA:List CT):Bool:=S.any fun p=>Ñ p.1 t&&nf p.2 bA
where nf:List CT->List CT->Bool
 | [],[]=>true
 |a::as,b::bs=>CT.beq a b&&nf as bs
 |_,_=>false
theorem uH: ∀ {a b:List CT},iB.nf a b=true->a=b
 | [],[],_=>rfl
 | [],_::_,h=>by simp [iB.nf]at h
 |_::_,[],h=>by simp [iB.nf]at h
 |a::as,b::bs,h=>by
  simp only [iB.nf,À]at h;rw [CT.eq_of_beq _ _ h.1,uH h.2]
theorem Et {S:List (TypeId×List CT)} {t:TypeId} {bA:List CT} (h:iB S t bA=true):(t,bA)∈S:=by
 simp only [iB,List.any_eq_true,À]at h;obtain⟨p,hp,b,d⟩:=h;have f:=Â b;have g:=uH d;rw [<-f,<-g];exact hp
def uI (S:List (TypeId×List CT)) (P:Program):Nat->List Field->List CT->Bool
 |_,[],bA=>bA.isEmpty
 |off,f::fs,bA=>Ñ f.offset off&&(ã (P.cellsOf f.type) bA.length&&(iB S f.type (bA.take (P.cellsOf f.type))&&uI S P (off+P.cellsOf f.type) fs (bA.drop (P.cellsOf f.type))))
def yq (S:List (TypeId×List CT)) (P:Program) (t:TypeId) (bA:List CT):Bool:=
 match P.underlying t with
 |some .bool=>iB.nf bA [.bool]
 |some (.int k)=>iB.nf bA [.int k]
 |some .string=>iB.nf bA [.str]
 |some (.slice e)=>match bA with
  | [.sl ts]=>iB S e ts.list&&Ñ (P.cellsOf e) ts.size
  |_=>false
 |some (.struct fs)=>uI S P 0 fs.toList bA&&Ñ (P.cellsOf t) bA.length
 |_=>false
def oJ (S:List (TypeId×List CT)) (P:Program):List (TypeId×List CT)->Bool
 | []=>true
 |(t,bA)::r=>yq S P t bA&&oJ S P r
theorem Oa {S:List (TypeId×List CT)} {P:Program}: ∀ {l:List (TypeId×List CT)},oJ S P l=true-> ∀p∈l,yq S P p.1 p.2=true
 | [],_,p,hp=>by cases hp
 |(t,bA)::r,h,p,hp=>by
  simp only [oJ,À]at h;rcases Î.1 hp with rfl|hp
  .exact h.1
  .exact Oa h.2 p hp
theorem size_pos: ∀(ts:aR),0<ts.size
 |.one _=>Nat.one_pos
 |.cons _ _=>Nat.succ_pos _
section
variable {E:Type} {en:TypeId×Value→E} {P:Program} {w:World} {sp:Nat→Bool} {held:Bool} {S:List (TypeId×List CT)}
def lW (w:World) (b:Nat):Prop:=b<w.heap.size
def Reads (w:World) (bA:List CT) (cs:List Value):Prop:= ∃ds,Typed bA ds/\au (hp w) (lW w) false (ds.map fun d=>enc d.c d.x) cs []
theorem Ob {n:Nat} (g: ∀t bA,(t,bA)∈S-> ∀fuel cs (x:DataW E×List MemPlace),fuel<n->DataW.trod en P w 0 sp held fuel t cs=some x->Reads w bA cs) {fuel:Nat} (k:fuel<n) (all:List Value):
  ∀(fs:List Field) (off:Nat) (bA:List CT) (_:List (DataW E×List MemPlace)),uI S P off fs bA=true->off+bA.length<=all.length->
   (∀f∈fs,∃x,DataW.trod en P w 0 sp held fuel f.type ((all.drop f.offset).take (P.cellsOf f.type))=some x)->Reads w bA ((all.drop off).take bA.length)
 | [],off,bA,xs,h,p,b=>by
  simp only [uI,Ē]at h;subst h;exact⟨[],rfl,by simp [au]⟩
 |f::fs,off,bA,xs,h,p,b=>by
  simp only [uI,À]at h;obtain⟨d,m,q,r⟩:=h;have d:=Â d;have m:=ç m;obtain⟨x,s⟩:=b f (by simp)
  obtain⟨ds,k1,k2⟩:=g _ _ (Et q) fuel _ x k s;obtain⟨i,u,z⟩:=Ob g k all fs (off+P.cellsOf f.type) (bA.drop (P.cellsOf f.type)) xs r (by simp;omega) (fun f' j=>b f' (by simp [j]))
  refine⟨ds++i, ?_, ?_⟩
  .have:=k1.append u
   rwa [List.take_append_drop]at this
  .rw [List.map_append]
   rw [d]at k2;have e:(all.drop off).take bA.length=(all.drop off).take (P.cellsOf f.type)++(all.drop (off+P.cellsOf f.type)).take (bA.drop (P.cellsOf f.type)).length:=by
    rw [<-ă];conv=>lhs;rw [show bA.length=P.cellsOf f.type+(bA.drop (P.cellsOf f.type)).length from by simp;omega]
    rw [ĝ]
   rw [e];exact k2.Es z
theorem Oc {a:Addr} {n:Nat} {cs:List Value} (h:w.cells? 0 a n=some cs):cs.length=n/\ ∀j,j<n->w.cell? (a.add j)=cs[j]? :=by
 unfold World.cells? at h;rw [if_pos (Ą _)]at h;refine⟨by simpa using mapM_some_length h,fun j hj=>mapM_some_get h j j (by simp [hj])⟩
theorem yr {g off:Nat} {cur:Array Value} {ty:TypeId} {frz:Nat×Nat} (d:hp w g=some (.cells cur ty frz)) (j:Nat):w.cell? ((⟨g,off,none⟩:Addr).add j)=cur.toList[off+j]? :=by
 have b:w.heap[g]? =some (.cells cur ty frz):=d;unfold Addr.add;split
 .rename_i h;subst h;simp [World.cell?,b]
 .simp [World.cell?,b]
theorem add_add (g off i j:Nat):((⟨g,off,none⟩:Addr).add i).add j=(⟨g,off,none⟩:Addr).add (i+j):=by
 unfold Addr.add;by_cases hi:i=0<;>by_cases hj:j=0<;>simp [hi,hj,è]
theorem Eu (hS:oJ S P S=true): ∀(n:Nat) (t:TypeId) (bA:List CT),(t,bA)∈S-> ∀fuel cs (x:DataW E×List MemPlace),fuel<n->DataW.trod en P w 0 sp held fuel t cs=some x->Reads w bA cs
 |0,_,_,_,_,_,_,hf,_=>absurd hf (é _)
 |n+1,t,bA,hm,fuel,cs,x,hf,z=>by
  have d:yq S P t bA=true:=Oa hS _ hm;unfold yq at d;split at d
  .rename_i hu
   obtain⟨b,rfl, -⟩:=DataW.trod_bool hu z;rw [uH d];exact⟨[⟨.bool,b⟩],⟨b,[],rfl,rfl⟩,by simp only [Ò,Û,au,aD,enc];exact⟨_,[],[],[],rfl,rfl,⟨rfl,rfl⟩,rfl,rfl⟩⟩
  .rename_i k hu
   obtain⟨m,rfl, -,hw⟩:=DataW.trod_int hu z;rw [uH d];simp only [Lit.wf,À,decide_eq_true_eq]at hw;refine⟨[⟨.int k,tO k m⟩],⟨_,[],rfl,rfl⟩, ?_⟩
   simp only [Ò,Û,au,aD,enc];exact⟨_,[],[],[],rfl,rfl,⟨by rw [uo hw],by rw [uo hw];exact hw,rfl⟩,rfl,rfl⟩
  .rename_i hu
   obtain⟨s,rfl, -,hs⟩:=DataW.trod_string hu z;rw [uH d];refine⟨[⟨.str,s.data.toList⟩],⟨_,[],rfl,rfl⟩, ?_⟩
   simp only [Ò,Û,au,aD,enc];exact⟨_,[],[],[],rfl,rfl,⟨rfl,by simpa using hs,rfl⟩,rfl,rfl⟩
  .rename_i e hu
   split at d
   .rename_i ts
    simp only [À]at d;have he:=Et d.1;have al:=Â d.2;have p:=size_pos ts;rcases DataW.trod_slice hu z with⟨rfl, -⟩|⟨a,len,cap,elems,rest,m,rfl,rfl, -, -,af,ag,hlen,ao, -, -⟩
    .exact⟨[⟨.sl ts,[]⟩],⟨_,[],rfl,rfl⟩,by simp only [Ò,Û,au,aD,enc];exact⟨_,[],[],[],rfl,rfl,⟨none,0,0,rfl,p,by simp,Ï _,Ą _,.inr ⟨trivial,rfl,.inl rfl⟩⟩,rfl,rfl⟩⟩
    .have q: ∀i,i<len-> ∃cs,w.cells? 0 (a.add (i*ts.size)) ts.size=some cs/\Reads w ts.list cs:=fun i hi=>by
      have:=ao i hi;rw [al,Ä (by omega)]at this
      rw [Ã]at this;obtain⟨cs,k1,k2⟩:=this;exact⟨cs,k1,Eu hS n e _ he m cs _ (by omega) k2⟩
     by_cases h0:len=0
     .subst h0
      refine⟨[⟨.sl ts,[]⟩],⟨_,[],rfl,rfl⟩, ?_⟩
      simp only [Ò,Û,au,aD,enc];exact⟨_,[],[],[],rfl,rfl,⟨some a,0,cap,rfl,p,by simp,af,ag,.inr ⟨trivial,rfl,.inl rfl⟩⟩,rfl,rfl⟩
     .obtain⟨cs0,c1, -⟩:=q 0 (by omega)
      obtain⟨l0,g0⟩:=Oc c1;have h:=g0 0 p;rw [Ä (by omega)]at h
      have aq:(a.add (0*ts.size)).add 0=a:=by simp [Addr.add]
      rw [aq]at h;obtain⟨g,cur,ty,frz,hg,ad⟩: ∃g cur ty frz,hp w g=some (.cells cur ty frz)/\a=⟨g,a.off,none⟩:=by
       unfold World.cell? at h;split at h
       .rename_i c ty frz hc
        split at h
        .cases h
        .rename_i ad
         refine⟨a.block,c,ty,frz,hc, ?_⟩
         cases a with
         |mk b o s=>
          simp only [Addr.mk.injEq,true_and];cases s with
          |none=>rfl
          |some _=>simp at ad
       .cases h
      obtain⟨off,ah⟩: ∃off,off=a.off:=⟨_,rfl⟩
      rw [<-ah]at ad;subst ad;have ai: ∀i,i<len-> ∃x:bg ts,off+(i+1)*ts.size<=cur.size/\au (hp w) (lW w) false (bH ts x) ((cur.toList.drop (off+i*ts.size)).take ts.size) []:=fun i hi=>by
       obtain⟨cs,k1,ds,k2,k3⟩:=q i hi;obtain⟨j1,j2⟩:=Oc k1;obtain⟨x,z⟩:=NZ k2;have r: ∀j,j<ts.size->cur.toList[off+i*ts.size+j]? =cs[j]? :=fun j hj=>by
        rw [<-j2 j hj,add_add,yr hg,è]
       have u:=r (ts.size-1) (by omega)
       rw [Ä (i:=ts.size-1) (by omega)]at u
       obtain⟨av, -⟩:=List.getElem?_eq_some_iff.1 u
       simp only [Array.length_toList]at av;refine⟨x,by rw [á];omega, ?_⟩
       have e:(cur.toList.drop (off+i*ts.size)).take ts.size=cs:=by
        apply đ
        intro j;by_cases hj:j<ts.size
        .rw [Ó,if_pos hj,Ď,r j hj]
        .rw [Ó,if_neg hj,ā (by omega)]
       rw [e,z];exact k3
      have aj: ∀k,k<=len-> ∃xs:List (bg ts),xs.length=k/\au (hp w) (lW w) false (xs.flatMap (bH ts)) ((cur.toList.drop off).take (k*ts.size)) []:=by
       intro k;induction k with
       |zero=>intro _;exact⟨[],rfl,by simp [au]⟩
       |succ k ih=>
        intro hk;obtain⟨xs,q1,q2⟩:=ih (by omega)
        obtain⟨x,q3,q4⟩:=ai k (by omega)
        refine⟨xs++[x],by simp [q1], ?_⟩
        rw [ê,á,Nat.one_mul,ĝ,ă];exact q2.Es (by simpa using q4)
      obtain⟨xs,q1,q2⟩:=aj len (Ï _);obtain⟨-,hbound, -⟩:=ai (len-1) (by omega)
      rw [show len-1+1=len from by omega]at hbound
      have hlen:((xs.flatMap (bH ts)).length)=len*ts.size:=by
       rw [Ċ,ċ (g:=fun _=>ts.size) (fun x _=>uG ts x),ĕ,ü,q1]
      have aw:g<w.heap.size:=by
       have:w.heap[g]? =some (.cells cur ty frz):=hg;exact(ë.1 this).1
      refine⟨[⟨.sl ts,xs⟩],⟨_,[],rfl,rfl⟩, ?_⟩
      simp only [Ò,Û,au,aD,enc];exact⟨_,[],[],[],rfl,rfl,⟨_,len,cap,rfl,p,hlen,af,ag,.inr ⟨trivial,rfl,.inr ⟨g,off,cur,ty,frz,rfl,aw,hg,hbound,q2⟩⟩⟩,rfl,rfl⟩
   .cases d
  .rename_i fs hu
   simp only [À]at d;obtain⟨d,h2⟩:=d;have h2:=Â h2;obtain⟨xs,m,rfl, -,hl,a8,hr⟩:=DataW.trod_struct hu z;have:=Ob (n:=n) (fun t bA hm fuel cs x hf z=>Eu hS n t bA hm fuel cs x hf z) (fuel:=m) (by omega) cs fs.toList 0 bA xs d (by omega) (fun f hf=>by
    obtain⟨i,hi,rfl⟩:=Ö.1 hf;have:=hr i fs.toList[i] (by simp)
    rw [Ä (by simp at hi;omega)]at this
    exact⟨_,this⟩)
   rwa [List.drop_zero,<-h2,<-hl,ö]at this
  .cases d
end
end Go.Ev
namespace Go.Ev
open Go.WideShapes Go.RowKit
def lX:CT->CK
 |.bool=>.bool
 |.int k=>.int k
 |.str=>.str
 |c=>.sh c
section
variable {H:Heap} {R:Nat→Prop} {B:Nat→Nat→Prop}
theorem Ew {nm:Nat->Nat}: ∀ {bA:List CT} {ds:List DV} {vs:List Value} {j:Nat},Typed bA ds->au H R false (ds.map fun d=>enc d.c d.x) vs []->bw H R B true [] nm j (bA.map lX) ds vs []
 | [],ds,vs,j,f,h=>by
  simp only [Typed]at f;subst f;simp only [Û,au]at h;simp only [Û,bw];exact⟨trivial,h.1,trivial⟩
 |c::bA,ds,vs,j,f,h=>by
  simp only [Typed]at f;obtain⟨x,r,rfl,f⟩:=f;simp only [Ò,au]at h;obtain⟨v,g,f1,f2,rfl,i,b,m⟩:=h;obtain⟨rfl,rfl⟩:=û.1 i.symm;simp only [Ò,bw];refine⟨v,g,[⟨c,x⟩],r,[],[],rfl,rfl,rfl,b.cC, ?_,Ew f m⟩
  cases c with
  |bool=>simp only [lX,aq];simp only [enc,aD]at b;exact⟨x,rfl,b.1,trivial⟩
  |int k=>simp only [lX,aq];simp only [enc,aD]at b;exact⟨x,rfl,b.1,b.2.1,trivial⟩
  |str=>simp only [lX,aq];simp only [enc,aD]at b;exact⟨x,rfl,b.1,b.2.1,trivial⟩
  |sl ts=>simp only [lX,aq];exact⟨x,rfl,rfl,b,trivial⟩
  |tree fs=>simp only [lX,aq];exact⟨x,rfl,rfl,b,trivial⟩
end
end Go.Ev
namespace Go.Ev
def W (p:Nat->Prop):Prop:= ∃N,∀n,N<=n->p n
theorem W.of {p:Nat->Prop} (h: ∀n,p n):W p:=⟨0,fun n _=>h n⟩
theorem W.and {p q:Nat->Prop} (h:W p) (k:W q):W fun n=>p n/\q n:=by
 obtain⟨N,h⟩:=h;obtain⟨M,k⟩:=k;exact⟨max N M,fun n b=>⟨h n (by omega),k n (by omega)⟩⟩
theorem W.mono {p q:Nat->Prop} (h:W p) (k: ∀n,p n->q n):W q:=by
 obtain⟨N,h⟩:=h;exact⟨N,fun n b=>k n (h n b)⟩
theorem W.succ {p:Nat->Prop} (h:W fun n=>p (n+1)):W p:=by
 obtain⟨N,h⟩:=h;refine⟨N+1,fun n b=> ?_⟩
 obtain⟨m,rfl⟩: ∃m,n=m+1:=⟨n-1,by omega⟩
 exact h m (by omega)
theorem W.ge (k:Nat):W fun n=>k<=n:=⟨k,fun _ h=>h⟩
theorem W.all {α:Type} {p:α->Nat->Prop}: ∀(l:List α),(∀x∈l,W (p x))->W fun n=> ∀x∈l,p x n
 | [],_=>⟨0,by simp⟩
 |a::l,h=>by
  refine((h a (by simp)).and (W.all l fun x b=>h x (by simp [b]))).mono fun n d x b=> ?_
  rcases Î.1 b with rfl|b
  .exact d.1
  .exact d.2 x b
theorem W.val {α:Type} {f:Nat->Option α} {v:α} (h:W fun n=>f n=some v): ∃n,f n=some v:=by
 obtain⟨N,h⟩:=h;exact⟨N,h N (Ï _)⟩
theorem jI {j α:Type} {len:Nat} {L:Nat->Nat->Nat->j->Option α} (inv:Nat->j->Prop) (post:α->Prop)
  (b:W fun n=> ∀m i s,i<len->inv i s->(∃r,L n (m+1) i s=some r/\post r)\/ ∃s',L n (m+1) i s=L n m (i+1) s'/\inv (i+1) s')
  (d:W fun n=> ∀m s,inv len s-> ∃r,L n (m+1) len s=some r/\post r):W fun n=> ∀f,inv 0 f-> ∃r,L n n 0 f=some r/\post r:=by
 refine((b.and d).and (W.ge (len+1))).mono fun n ⟨⟨p,q⟩,u⟩ f t=> ?_
 have key: ∀k i s m,len=i+k->inv i s->k<m-> ∃r,L n m i s=some r/\post r:=by
  intro k;induction k with
  |zero=>
   intro i s m e hi hm;obtain⟨m,rfl⟩: ∃m',m=m'+1:=⟨m-1,by omega⟩
   obtain rfl:len=i:=by omega
   exact q m s hi
  |succ k ih=>
   intro i s m e hi hm;obtain⟨m,rfl⟩: ∃m',m=m'+1:=⟨m-1,by omega⟩
   rcases p m i s (by omega) hi with h|⟨s',h,g⟩
   .exact h
   .rw [h]
    exact ih (i+1) s' m (by omega) g (by omega)
 exact key len 0 f n (by omega) t (by omega)
theorem dq {i len:Nat} (h:i<len) (b:len<=2^40):wrap .i64 ((i:Int)+(1:Int))=((i+1:Nat):Int):=by
 rw [Ì];omega
def ar {α:Type} (l:List α) (i:Int):Option α:=cond (decide (0<=i)) (nth l i.toNat) none
def aN {α:Type} (l:List α) (i:Nat):Option α:=nth l i
theorem aU {α:Type} {l:List α} {i:Nat} (h:i<l.length):ar l (i:Int)=some l[i]:=by
 unfold ar nth;rw [hJ (by omega)]
 simp [h]
theorem fh {α:Type} {l:List α} {i:Nat} (h:i<l.length):aN l (ć (i:Int))=some l[i]:=by
 unfold aN nth;simp [h]
theorem Zs {α:Type} {a:List α} {d:α} {i:Nat} (h:i<a.length):(a.take i++Ô (a.length-i) d).set i a[i]=a.take (i+1)++Ô (a.length-(i+1)) d:=by
 apply đ
 intro j;rw [ñ]
 have k:(a.take i).length=i:=by simp;omega
 by_cases e:i=j
 .subst e
  rw [if_pos rfl,if_pos (by simp;omega),à (by simp;omega),Ó,if_pos (by omega),Ä h]
 .rw [if_neg e]
  by_cases b:j<i
  .rw [à (by simp;omega),à (by simp;omega),Ó,Ó,if_pos b,if_pos (by omega)]
  .rw [ì (by omega),ì (by simp;omega),ø,ø]
   simp only [List.length_take];have f:min i a.length=i:=by omega
   have g:min (i+1) a.length=i+1:=by omega
   rw [f,g];by_cases m:j<a.length
   .rw [if_pos (by omega),if_pos (by omega)]
   .rw [if_neg (by omega),if_neg (by omega)]
theorem Zt {α:Type} (a:List α) (d:α) {i:Nat} (h:i<=a.length):(a.take i++Ô (a.length-i) d).length=a.length:=by simp;omega
def lim:Nat:=1048576
mutual
def dt:(c:CT)->Interp c->Prop
 |.bool,_=>True
 |.int _,_=>True
 |.str,x=>Ø (α:=UInt8) x<=lim
 |.sl ts,xs=>Ø (α:=bg ts) xs<=lim/\ ∀x∈(xs:List (bg ts)),cr ts x
 |.tree _,_=>False
def cr:(ts:aR)->bg ts->Prop
 |.one c,x=>dt c x
 |.cons c cs,x=>dt c x.1/\cr cs x.2
end
mutual
def dM:(c:CT)->Interp c->Prop
 |.bool,_=>True
 |.int k,x=>k.min<=jz k x/\jz k x<=k.max
 |.str,x=>Ø (α:=UInt8) x<=maxLen
 |.sl ts,xs=>Ø (α:=bg ts) xs<=maxLen/\ ∀x∈(xs:List (bg ts)),fy ts x
 |.tree _,_=>True
def fy:(ts:aR)->bg ts->Prop
 |.one c,x=>dM c x
 |.cons c cs,x=>dM c x.1/\fy cs x.2
end
theorem Od: ∀ {a b:List bf},bf.fit.fits (a++b)->bf.fit.fits a/\bf.fit.fits b
 | [],_,h=>⟨by simp [bf.fit.fits],h⟩
 |d::a,b,h=>by
  simp only [Þ,bf.fit.fits]at h;obtain⟨k1,k2⟩:=Od h.2;exact⟨by simp only [bf.fit.fits];exact⟨h.1,k1⟩,k2⟩
mutual
theorem Ex: ∀(c:CT) (x:Interp c),(enc c x).fit->dM c x
 |.bool,_,_=>by simp [dM]
 |.int k,x,h=>by simp only [enc,bf.fit]at h;simp only [dM];exact h
 |.str,x,h=>by simp only [enc,bf.fit]at h;simp only [dM];exact h
 |.sl ts,xs,h=>by
  simp only [enc,bf.fit]at h;simp only [dM];obtain⟨f,d,i⟩:=h;have hlen:((xs:List (bg ts)).flatMap (bH ts)).length=Ø (α:=bg ts) xs*ts.size:=by
   rw [Ċ,ċ (g:=fun _=>ts.size) (fun x _=>uG ts x),ĕ,ü]
  rw [hlen]at d;refine⟨Nat.le_of_mul_le_mul_right d f,fun x b=> ?_⟩
  clear d hlen;have: ∀l:List (bg ts),bf.fit.fits (l.flatMap (bH ts))-> ∀x∈l,fy ts x:=by
   intro l;induction l with
   |nil=>intro _ x b;cases b
   |cons a l ih=>
    intro h x b;rw [ä]at h;obtain⟨k1,k2⟩:=Od h;rcases Î.1 b with rfl|b
    .exact Oe ts _ k1
    .exact ih k2 x b
  exact this xs i x b
 |.tree _,_,_=>by simp [dM]
theorem Oe: ∀(ts:aR) (x:bg ts),bf.fit.fits (bH ts x)->fy ts x
 |.one c,x,h=>by
  simp only [bH,bf.fit.fits]at h;simp only [fy];exact Ex c x h.1
 |.cons c cs,x,h=>by
  simp only [bH,bf.fit.fits]at h;simp only [fy];exact⟨Ex c x.1 h.1,Oe cs x.2 h.2⟩
end
def Ey:List DV->Prop
 | []=>True
 |d::ds=>dM d.c d.x/\Ey ds
theorem Of: ∀(ds:List DV),bf.fit.fits (ds.map fun d=>enc d.c d.x)->Ey ds
 | [],_=>trivial
 |d::ds,h=>by
  simp only [Ò,bf.fit.fits]at h;exact⟨Ex _ _ h.1,Of ds h.2⟩
theorem eE {cur:Int} {k:Nat} (b:0<=cur) (d:cur<=1048576) (hk:k<=maxLen):wrap .i64 (cur-(k:Int))=cur-k:=by
 unfold maxLen at hk;rw [Ì];omega
theorem oK {α:Type} {l:List α} {sm:α->Prop} (q:l.length<=1048576) {L:Nat->Nat->Int->Int->Option (Sum Int Int)}
  (b:W fun n=> ∀m (i:Nat) (x:α) (left:Int),l[i]? =some x->0<=left->left<=1048576-> ∃v,L n (m+1) (i:Int) left=cond (decide (v<(0:Int))) (some (ĩ (-1))) (L n m (wrap .i64 ((i:Int)+(1:Int))) v)/\v<=1048576/\(0<=v->sm x))
  (he: ∀n m left,L n (m+1) (l.length:Int) left=some (ò left)):
  W fun n=> ∀left:Int,0<=left->left<=1048576-> ∃r,L n n 0 left=some r/\(∀v,r=.inl v->0<=v/\v<=1048576/\ ∀x∈l,sm x)/\(∀v,r=.inr v->v= -1):=by
 have:=jI (len:=l.length) (L:=fun n m i (left:Int)=>L n m (i:Int) left) (fun i left=>0<=left/\left<=1048576/\ ∀j x,j<i->l[j]? =some x->sm x)
  (fun r=>(∀v,r=.inl v->0<=v/\v<=1048576/\ ∀x∈l,sm x)/\(∀v,r=.inr v->v= -1)) ?_ ?_
 .exact this.mono fun n h left f g=>h left ⟨f,g,fun j x hj=>absurd hj (é _)⟩
 .refine b.mono fun n h m i left hi hinv=> ?_
  obtain⟨f,g,p⟩:=hinv;obtain⟨v,e,k1,k2⟩:=h m i l[i] left (Ä hi) f g
  simp only [e];by_cases d:v<0
  .left;rw [hJ d];exact⟨_,rfl,⟨fun _ h=>by(cases h),fun _ h=>by(cases h;rfl)⟩⟩
  .right
   rw [hL d,dq hi (by omega)]
   refine⟨v,rfl,by omega,k1,fun j x hj b=> ?_⟩
   by_cases k:j=i
   .subst k
    rw [Ä hi]at b
    cases b;exact k2 (by omega)
   .exact p j x (by omega) b
 .refine W.of fun n m left hinv=>⟨_,he n m left,⟨fun v d=> ?_,fun _ h=>by(cases h)⟩⟩
  cases d;refine⟨hinv.1,hinv.2.1,fun x b=> ?_⟩
  obtain⟨j,hj,rfl⟩:=Ö.1 b;exact hinv.2.2 j _ hj (Ä hj)
theorem kT {α:Type} {a:List α} {d:α} (k:a.length<=1048576) {β:Type} {L:Nat->Nat->Int->List α->Option (Sum (List α) β)}
  (b:W fun n=> ∀m (i:Nat) (out:List α),(h:i<a.length)->out.length=a.length->L n (m+1) (i:Int) out=L n m (wrap .i64 ((i:Int)+(1:Int))) (out.set i a[i]))
  (he: ∀n m out,L n (m+1) (a.length:Int) out=some (ò out)):W fun n=>L n n 0 (Ô a.length d)=some (ò a):=by
 have:=jI (len:=a.length) (L:=fun n m i (out:List α)=>L n m (i:Int) out) (fun i out=>i<=a.length/\out=a.take i++Ô (a.length-i) d) (fun r=>r=.inl a) ?_ ?_
 .exact this.mono fun n h=>by
   obtain⟨r,f,g⟩:=h (Ô a.length d) ⟨Ą _,by simp⟩
   rw [<-g];exact f
 .refine b.mono fun n h m i out hi hinv=> ?_
  obtain⟨j,rfl⟩:=hinv;right
  have:=h m i _ hi (Zt a d j);rw [dq hi (by omega),Zs hi]at this
  exact⟨_,this,hi,rfl⟩
 .refine W.of fun n m out hinv=>⟨_,he n m out, ?_⟩
  rw [hinv.2];simp
theorem kV {β:Type} {len:Nat} (g:len<=1048576) {L:Nat->Nat->Int->Option (Sum Unit β)}
  (b:W fun n=> ∀m (i:Nat),i<len->L n (m+1) (i:Int)=L n m (wrap .i64 ((i:Int)+(1:Int))))
  (he: ∀n m,L n (m+1) (len:Int)=some (ò ())):W fun n=>L n n 0=some (ò ()):=by
 have:=jI (len:=len) (L:=fun n m i (_:Unit)=>L n m (i:Int)) (fun _ _=>True) (fun r=>r=.inl ()) ?_ ?_
 .exact this.mono fun n h=>by
   obtain⟨r,d,f⟩:=h () trivial;rw [<-f];exact d
 .refine b.mono fun n h m i _ hi _=> ?_
  right
  have:=h m i hi;rw [dq hi (by omega)]at this
  exact⟨(),this,trivial⟩
 .exact W.of fun n m _ _=>⟨_,he n m,rfl⟩
abbrev Zu:CT->aR
 |.tree fs=>fs
 |c=>.one c
theorem ng {n:Nat} (h:n<=9223372036854775807):ã n mx=true:=Nat.ble_eq_true_of_le h
end Go.Ev
namespace Go.Ev
def yt (ds:List DV):Option (bO [.str]):=(eG [.int .i64] ds).bind fun n=>some (í n)
def bF.has (gl:bF) (P:Program) (name:String) (k:IntKind) (b:List Int):Prop:=
 (∃g,P.globalNamed name=some g/\g<gl.n)/\Ĉ P gl.w name k b
theorem bF.tab {gl:bF} {P:Program} {name:String} {k:IntKind} {d:List Int} (h:gl.has P name k d) {w:World} {F:Nat->Prop} (hw:oH gl w F):Ĉ P w name k d:=by
 obtain⟨⟨g,f,i⟩,b⟩:=h;have e:w.heap[g]? =gl.w.heap[g]? :=(hw.at_ g i).2;unfold Ĉ World.var? at b |-;rw [f]at b |-;simp only [Z]at b |-;rw [e];exact b
theorem Ez {α:Type} {a:Array α} (h:a.size=1): ∃x,a= #[x]:=by
 obtain⟨l⟩:=a;match l,h with
 | [x],_=>exact⟨x,rfl⟩
theorem Zv {P:Program} {gl:bF} {f:FuncId} {fn:Func} (t:gl.has P "internal/strconv.uint64pow10" .u64 Ġ)
  (u: ∀(n:Int) (_: -9223372036854775808<=n) (_:n<=9223372036854775807) (w:World) (_:Ĉ P w "internal/strconv.uint64pow10" .u64 Ġ),
   Calls P f #[.int .i64 n] w fun e w'=>e=.returned (.string ⟨(í n).toArray⟩)/\ ∃k os,w'=Sort.grow (w.drewN k) os)
  (ds:List DV) (r:bO [.str]) (h:yt ds=some r):
  cW P gl {f:=f,fn:=fn,ins:=[.one (.int .i64)],bx:=[],outs:=.one .str,bP:=[],loops:=[],cQ:=[],bI:=[.str],cg:=some yt} ds r:=by
 intro w F R bl args dB dA AB AA g p d;obtain⟨a,rfl⟩:=Ez p;have i:=d.kb;simp only [bT]at i;obtain⟨rfl,rfl⟩:=i;have j:=d.kt;simp only [gu,dQ,bX,aq]at j;obtain⟨d1,d2,A1,A2,z,e2,⟨-,x0,ex,ev,m,rfl⟩,rfl,rfl⟩:=j;obtain⟨x,hx⟩: ∃x:Int,x=x0:=⟨_,rfl⟩
 subst hx;subst z ex e2;simp only [þ,ÿ]at g;subst g;have hv:a=.int .i64 x:=ev;have hr:r=í x:=by
  have h':some (í x)=some r:=h;exact(Ü h').symm
 subst hv hr;have q: -9223372036854775808<=x:=m.1;have s:x<=9223372036854775807:=m.2;refine(u x q s w (bF.tab t d.gl)).mono ?_
 rintro e w' ⟨rfl,k,os,rfl⟩
 refine⟨by simp [Sort.grow,World.drewN],fun b m _=> ?_,rfl,rfl,rfl,[⟨.str,í x⟩],[],[],[],rfl, ?_, ?_,by simp [Env.fps],by simp [Env.fps]⟩
 .simp only [hp,Sort.grow,World.drewN]
  rw [Array.getElem?_append_left m]
 .simp only [bX,aq]
  exact⟨.inr rfl,í x,rfl,rfl,by have:=Lib.itoa_length_le x q s;unfold maxLen;omega,trivial⟩
 .simp only [dL,bT];exact⟨trivial,trivial⟩
end Go.Ev
namespace Go.Ev
open Go
theorem Zw (k:Nat):È (ć (wrap .u8 (wrap .i64 ((48:Int)+(ù (k:Int) (10:Int))))))=È (48+k%10):=by
 have e:ù (k:Int) (10:Int)=((k%10:Nat):Int):=rfl;rw [e];have b:wrap .i64 ((48:Int)+((k%10:Nat):Int))=((48+k%10:Nat):Int):=by rw [Ì];omega
 rw [b];have d:wrap .u8 ((48+k%10:Nat):Int)=((48+k%10:Nat):Int):=by rw [Ė];omega
 rw [d];rfl
def dd (k:Nat):O:=if k=0 then []else ô k
theorem Zx {k:Nat} (h:0<k) (acc:O):dd (k/10)++([È (48+k%10)]++acc)=dd k++acc:=by
 unfold dd;rw [if_neg (show ¬k=0 by omega)]
 by_cases b:k<10
 .rw [if_pos (by omega),ô,dif_pos b]
  simp [Nat.mod_eq_of_lt b]
 .rw [if_neg (by omega)]
  conv=>rhs;rw [ô,dif_neg b]
  simp
theorem Zy {β:Type} {L:Nat->Int->O->Option (Sum O β)}
  (b: ∀m (k:Nat) acc,0<k->1+acc.length<=mx->L (m+1) (k:Int) acc=L m (wrap .i64 (Ħ (k:Int) (10:Int))) ([È (ć (wrap .u8 (wrap .i64 ((48:Int)+(ù (k:Int) (10:Int))))))]++acc))
  (he: ∀m acc,L (m+1) 0 acc=some (ò acc)): ∀(k m:Nat) (acc:O),k<m->acc.length+k<=mx->L m (k:Int) acc=some (ò (dd k++acc)):=by
 intro k;induction k using ė with
 |_ k ih=>
  intro m acc hm d;obtain⟨m,rfl⟩: ∃m',m=m'+1:=⟨m-1,by omega⟩
  by_cases f:k=0
  .subst f;rw [show ((0:Nat):Int)=0 from rfl,he];simp [dd]
  .rw [b m k acc (by omega) (by omega),Zw]
   have e:Ħ (k:Int) (10:Int)=((k/10:Nat):Int):=rfl;have hw:wrap .i64 ((k/10:Nat):Int)=((k/10:Nat):Int):=by unfold mx at d;rw [Ì];omega
   rw [e,hw,ih (k/10) (by omega) m _ (by omega) (by simp;omega),Zx (by omega)]
theorem EA {k:Nat}:í (k:Int)=ô k:=by unfold í;rw [if_neg (by omega)];simp
theorem yu {α:Type} {l:List α} {i:Nat} (h:i<l.length):l.take (i+1)=l.take i++[l[i]]:=by
 rw [List.take_add_one,Ä h];rfl
end Go.Ev
namespace Go.Ev
open Go
structure du (P:Program) (gl:bF) (l:List Entry):Prop where
 ok: ∀x∈l,∀p,x.cg=some p-> ∀ds r,p ds=some r->cW P gl x ds r
theorem du.nil {P:Program} {gl:bF}:du P gl []:=⟨by simp⟩
theorem du.no {P:Program} {gl:bF} {x:Entry} {l:List Entry} (h:x.cg.isNone=true) (b:du P gl l):du P gl (x::l):=⟨fun y hy p hp=>by
 rcases Î.1 hy with rfl|hy
 .rw [hp]at h;cases h
 .exact b.ok y hy p hp⟩
theorem du.cons {P:Program} {gl:bF} {x:Entry} {l:List Entry} (h: ∀p,x.cg=some p-> ∀ds r,p ds=some r->cW P gl x ds r) (b:du P gl l):du P gl (x::l):=⟨fun y hy=>by
 rcases Î.1 hy with rfl|hy
 .exact h
 .exact b.ok y hy⟩
theorem Og {P:Program} {w:World} {name:String} {d:DataW Unit}: ∀ {l:List (String×DataW Unit)} {b:List MemPlace},DataW.LaidVars P w l b->(name,d)∈l->
  ∃g t cs fuel p,P.globalNamed name=some g/\(P.globals[g]?).map (·.type)=some t/\w.var? P name=some cs/\DataW.trod (fun _=>()) P w 0 (fun _=>true) false fuel t cs.toList=some (d,p)
 | [],_,_,h=>by cases h
 |(n,e)::l,b,f,h=>by
  obtain⟨g,t,cs,fuel,p,q,i,j,k,m,r, -⟩:=f;rcases Î.1 h with s|h
  .cases s
   exact⟨g,t,cs,fuel,p,i,j,k,m⟩
  .exact Og r h
theorem Zz {P:Program} {w:World} {name:String} {k:IntKind} {j:List Int} {l:List (String×DataW Unit)} {g:Nat} {t e:TypeId} {n:Nat} (m:laidMet P l w) (hm:(name,Lib.tabData k j)∈l)
  (d:P.globalNamed name=some g) (f:(P.globals[g]?).map (·.type)=some t) (q:P.underlying t=some (.array n e)) (he:P.underlying e=some (.int k)) (h:P.cellsOf e=1) (i:P.cellsOf t=n):
  (bF.mk w.heap.size w).has P name k j:=by
 obtain⟨ps,r, -⟩:=m;obtain⟨g',t',cs,fuel,p,s,u,b,z⟩:=Og r hm;obtain rfl:=Ü (d.symm.trans s);obtain rfl:=Ü (f.symm.trans u);refine⟨⟨g,d, ?_⟩, ?_⟩
 .unfold World.var? at b
  rw [d]at b;simp only [Z]at b;split at b
  .rename_i c _ _ hc
   exact(ë.1 hc).1
  .cases b
 .unfold Ĉ
  rw [show (bF.mk w.heap.size w).w=w from rfl,b,<-Lib.cells_of_tab q he h i z]
end Go.Ev
namespace Go.Ev
open Go
def yv (ds:List DV):Option (bO [.int .i64]):=(eG [.str,.int .u8] ds).bind fun p=>some (Ê p.1 p.2)
def yw (ds:List DV):Option (bO [.int .i64]):=(eG [.str,.str] ds).bind fun p=>some (Ç p.1 p.2)
theorem ZA {α:Type} {a:Array α} (h:a.size=2): ∃x y,a= #[x,y]:=by
 obtain⟨l⟩:=a;match l,h with
 | [x,y],_=>exact⟨x,y,rfl⟩
theorem uJ {gl:bF} {E:Entry} {w:World} {F R:Nat->Prop} {bl:Nat->Nat} {args:Array Value} {dB dA:List DV} {AB AA:Env} {k1 k2:CK} (d:E.ins=[.one k1,.one k2]) (k:E.bx=[]) (h:args.size=E.ins.length)
  (j:qu gl E w F R bl (fun i=>args.getD i undef) dB dA AB AA): ∃a b d1 d2 A1 A2,args= #[a,b]/\dB++dA=d1++d2/\(∃nm,aq (hp w) R (eQ bl) true AB nm k1 d1 a A1)/\ ∃nm,aq (hp w) R (eQ bl) true (AB++A1) nm k2 d2 b A2:=by
 rw [d]at h;obtain⟨a,b,rfl⟩:=ZA h;have f:=j.kb;rw [k]at f;simp only [bT]at f;obtain⟨rfl,rfl⟩:=f;have g:=j.kt;rw [d]at g;simp only [gu,dQ,bX]at g;obtain⟨d1,m,A1,p,q,r,⟨-,s⟩,d2,d3,A2,A3,t,u,⟨-,z⟩,e5,e6⟩:=g;subst q r t u e5 e6;exact⟨a,b,d1,d2,A1,A2,rfl,by simp,⟨_,s⟩,⟨_,z⟩⟩
theorem rZ {E:Entry} {w:World} {F R:Nat->Prop} {bl:Nat->Nat} {r:bO E.bI} {u:Value} (b:E.bx=[]) (hk:bX (hp w) R rR true [] (fH 9000) E.outs (lO E.bI r) u []):iz E w w F R bl r u:=by
 refine⟨Ï _,fun _ _ _=>rfl,rfl,rfl,rfl,lO E.bI r,[],[],[],by simp,hk, ?_,by rw [b];simp [Env.fps],by simp [Env.fps]⟩
 rw [b];simp [dL,bT]
theorem Oh: ∀(l:List UInt8) (c:UInt8),Ê l c<=l.length
 | [],c=>by unfold Ê;simp
 |b::l,c=>by
  have:=Oh l c;unfold Ê;simp only [Å];split
  .omega
  .split<;>omega
theorem EB: ∀(a b:List UInt8), -1<=Ç a b/\Ç a b<=1
 | [],[]=>by unfold Ç;omega
 | [],_::_=>by unfold Ç;omega
 |_::_,[]=>by unfold Ç;omega
 |a::as,b::bs=>by
  have:=EB as bs;unfold Ç;split
  .omega
  .split<;>omega
theorem ZB {P:Program} {gl:bF} {f:FuncId} {fn:Func}
  (p: ∀(s:ByteArray) (c:Int) (w:World),Calls P f #[.string s,.int .u8 c] w fun e w'=>e=.returned (.int .i64 (Ê s.data.toList c.toNat.toUInt8))/\w'=w)
  (ds:List DV) (r:bO [.int .i64]) (h:yv ds=some r):
  cW P gl {f:=f,fn:=fn,ins:=[.one .str,.one (.int .u8)],bx:=[],outs:=.one (.int .i64),bP:=[],loops:=[],cQ:=[],bI:=[.int .i64],cg:=some yv} ds r:=by
 intro w F R bl args dB dA AB AA d g i;obtain⟨a,b,d1,d2,A1,A2,rfl,q,⟨t,j⟩,u,k⟩:=uJ (k1:=.str) (k2:=.int .u8) rfl rfl g i;rw [q]at d;subst d;simp only [aq]at j k;obtain⟨x,rfl,rfl,z, -⟩:=j;obtain⟨c,rfl,rfl,hb, -⟩:=k;have h':some (Ê (x:O) (c:UInt8))=some r:=h;have hr:r=Ê (x:O) (c:UInt8):=(Ü h').symm;subst hr;refine(p ⟨(x:O).toArray⟩ (jz .u8 c) w).mono ?_
 rintro e w' ⟨rfl,rfl⟩
 refine rZ rfl ?_
 have e1:(jz .u8 c).toNat.toUInt8=(c:UInt8):=by
  show((((c:UInt8).toNat:Int)).toNat).toUInt8=(c:UInt8);rw [Int.toNat_natCast];exact UInt8.ofNat_toNat
 have m: -1<=Ê (x:O) (c:UInt8)/\Ê (x:O) (c:UInt8)<=(x:O).length:=⟨Lib.indexByte_ge _ _,Oh _ _⟩;unfold maxLen at z;simp only [bX,aq];refine⟨.inr rfl,_,rfl, ?_,⟨?_, ?_⟩,trivial⟩
 .simp only [e1];rfl
 .show -9223372036854775808<=Ê (x:O) (c:UInt8);omega
 .show Ê (x:O) (c:UInt8)<=9223372036854775807;omega
theorem ZC {P:Program} {gl:bF} {f:FuncId} {fn:Func}
  (p: ∀(a b:ByteArray) (w:World),Calls P f #[.string a,.string b] w fun e w'=>e=.returned (.int .i64 (Ç a.data.toList b.data.toList))/\w'=w)
  (ds:List DV) (r:bO [.int .i64]) (h:yw ds=some r):
  cW P gl {f:=f,fn:=fn,ins:=[.one .str,.one .str],bx:=[],outs:=.one (.int .i64),bP:=[],loops:=[],cQ:=[],bI:=[.int .i64],cg:=some yw} ds r:=by
 intro w F R bl args dB dA AB AA d g i;obtain⟨a,b,d1,d2,A1,A2,rfl,q,⟨s,j⟩,t,k⟩:=uJ (k1:=.str) (k2:=.str) rfl rfl g i;rw [q]at d;subst d;simp only [aq]at j k;obtain⟨x,rfl,rfl,hx, -⟩:=j;obtain⟨c,rfl,rfl,hb, -⟩:=k;have u:some (Ç (x:O) (c:O))=some r:=h;have z:r=Ç (x:O) (c:O):=(Ü u).symm;subst z;refine(p ⟨(x:O).toArray⟩ ⟨(c:O).toArray⟩ w).mono ?_
 rintro e w' ⟨rfl,rfl⟩
 refine rZ rfl ?_
 have m:=EB (x:O) (c:O);simp only [bX,aq];refine⟨.inr rfl,_,rfl,rfl,⟨?_, ?_⟩,trivial⟩
 .show -9223372036854775808<=Ç (x:O) (c:O);omega
 .show Ç (x:O) (c:O)<=9223372036854775807;omega
def yx (ds:List DV):Option (bO [.int .i64,.bool]):=(eG [.str] ds).bind fun s=>cond (ã (Ø (α:=UInt8) s) 18) ((ú s).map fun n=>(n,false)) none
theorem ZD {P:Program} {gl:bF} {f:FuncId} {fn:Func} {B:TypeId}
  (hc: ∀(s:ByteArray) (n:Int) (_:s.size<=18) (_:ú s.data.toList=some n) (w:World),Calls P f #[.string s] w fun e w'=>e=.returned (.tuple #[.int .i64 n,.nilIface])/\ ∃t,w'=Lib.bytesWorld w B t)
  (ds:List DV) (r:bO [.int .i64,.bool]) (h:yx ds=some r):
  cW P gl {f:=f,fn:=fn,ins:=[.one .str],bx:=[],outs:=.aP [.one (.int .i64),.one .er],bP:=[],loops:=[],cQ:=[],bI:=[.int .i64,.bool],cg:=some yx} ds r:=by
 intro w F R bl args dB dA AB AA j q k;obtain⟨a,rfl⟩:=Ez q;have m:=k.kb;simp only [bT]at m;obtain⟨rfl,rfl⟩:=m;have p:=k.kt;simp only [gu,dQ,bX,aq]at p;obtain⟨d1,d2,A1,A2,e1,e2,⟨-,x0,ex,ev,z,rfl⟩,rfl,rfl⟩:=p;obtain⟨x,hx⟩: ∃x:O,x=x0:=⟨_,rfl⟩
 subst hx;subst e1 ex e2;simp only [þ,ÿ]at j;subst j;have hv:a=.string ⟨x.toArray⟩:=ev;subst hv;have g:cond (ã x.length 18) ((ú x).map fun n=>(n,false)) none=some r:=h
 cases i:ã x.length 18 with
 |false=>rw [i]at g;cases g
 |true=>
  rw [i]at g;simp only [Y]at g;obtain⟨n,u⟩: ∃n,ú x=some n:=by
   cases ha:ú x with
   |none=>rw [ha]at g;cases g
   |some n=>exact⟨n,rfl⟩
  rw [u]at g;have hr:r=((n,false):Int×Bool):=(Ü g).symm;subst hr;have i:=ç i;have ao:=Lib.atoi_bound u i;refine(hc ⟨x.toArray⟩ n (by show x.toArray.size<=18;simpa using i) u w).mono ?_
  rintro e w' ⟨rfl,t,rfl⟩
  have d:=Lib.bytesWorld_below w B t;refine⟨d.size,fun b z _=>d.block b z,d.os,d.tape,d.output,[⟨.int .i64,n⟩,⟨.bool,false⟩],[],[],[],rfl, ?_,by simp [dL,bT],by simp [Env.fps],by simp [Env.fps]⟩
  simp only [bX,cu,aq];refine⟨_,rfl,_,_,[⟨.int .i64,n⟩],[⟨.bool,false⟩],[],[],rfl,rfl,rfl,.inr rfl,⟨n,rfl,rfl,⟨?_, ?_⟩,rfl⟩,_,_,[⟨.bool,false⟩],[],[],[],rfl,rfl,rfl,.inr rfl,⟨false,rfl,.inl ⟨rfl,rfl⟩,rfl⟩,rfl,rfl,rfl⟩
  .show -9223372036854775808<=n;omega
  .show n<=9223372036854775807;omega
end Go.Ev
namespace Go.Ev
open Go
def gK (c:CT) (ds:List DV):Option (bO [c]):=(eG [c] ds).bind fun x=>cond (ã (aE c x) aC) (some x) none
def ZE (c:CT) (x:Interp c) (i j:Int):Option (Interp c):=cond (decide (0<=i/\i<=j/\j<=aE c x)) (some (jA c (fU c i.toNat x) (gp c j.toNat x))) none
def ZF (c:CT) (x:Interp c) (i:Int) (v:Interp c):Option (Interp c):=cond (decide (0<=i/\i<=aE c x)&&ã (aE c x+aE c v) aC) (some (jA c (fU c i.toNat x) (jA c v (gp c i.toNat x)))) none
def uK (c:CT) (ds:List DV):Option (bO [c]):=(eG [c,.int .i64,.int .i64] ds).bind fun p=>ZE c p.1 p.2.1 p.2.2
def sa (c:CT) (ds:List DV):Option (bO [c]):=(eG [c,.int .i64,c] ds).bind fun p=>ZF c p.1 p.2.1 p.2.2
def primMul64 (ds:List DV):Option (bO [.int .u64,.int .u64]):=(eG [.int .u64,.int .u64] ds).bind fun p=>some (((show Int from p.1)*(show Int from p.2))/18446744073709551616,((show Int from p.1)*(show Int from p.2))%18446744073709551616)
def cJ (t:O):O->Int
 | []=>cond (Ę t ([]:O)) 0 (-1)
 |b::s=>cond (Ę t (b::s)) 0 (cond (decide (0<=cJ t s)) (cJ t s+1) (-1))
def yy (ds:List DV):Option (bO [.int .i64]):=(eG [.str,.str] ds).bind fun p=>cond (ã (Ø (α:=UInt8) p.1) 4000000000) (some (cJ p.2 p.1)) none
def EC (s:O):O->Option Bool
 | [c]=>some (decide (0<=Ê s c))
 |t=>cond (ã (Ø (α:=UInt8) s) 4000000000) (some (decide (0<=cJ t s))) none
def yz (ds:List DV):Option (bO [.bool]):=(eG [.str,.str] ds).bind fun p=>EC p.1 p.2
def aQ (cur:O):O->List O
 | []=>cond (ġ cur) [] [cur]
 |b::s=>cond (b==32) (cond (ġ cur) (aQ [] s) (cur::aQ [] s)) (aQ (cur++[b]) s)
def uL (ds:List DV):Option (bO [.sl (.one .str)]):=(eG [.str] ds).bind fun s=>cond (ã (Ø (α:=UInt8) s) 4000000000) (some (aQ [] s)) none
def jJ (l:List Int):List Int:=l.mergeSort fun a b=>decide (a<=b)
def uM (ds:List DV):Option (bO [.sl (.one (.int .i64))]):=(eG [.sl (.one (.int .i64))] ds).bind fun l=>cond (ã (Ø (α:=Int) l) aC) (some (jJ l)) none
end Go.Ev
namespace Go.Ev
abbrev yA:List CT->Type->Type
 | [],α=>α
 |c::cs,α=>Interp c->yA cs α
def cur {α:Type}:(cs:List CT)->(List DV->α)->yA cs α
 | [],f=>f []
 |c::cs,f=>fun x=>cur cs fun ds=>f (⟨c,x⟩::ds)
mutual
def Oi:CK->List CT
 |.bool=>[.bool]
 |.int k=>[.int k]
 |.str=>[.str]
 |.er=>[.bool]
 |.sh c=>[c]
 |.own c=>[c]
 |.gs _ c=>[c]
 |.fn _ a b=>sb a++sb b
 |_=>[]
def sb:List CK->List CT
 | []=>[]
 |k::ks=>Oi k++sb ks
end
mutual
def dV:bq->List CT
 |.one k=>Oi k
 |.agg ks=>sb ks
 |.aP vs=>ED vs
def ED:List bq->List CT
 | []=>[]
 |v::vs=>dV v++ED vs
end
def EE:List (Nat×List CK)->List CT
 | []=>[]
 |(_,ks)::r=>sb ks++EE r
def Oj:List (Nat×bq)->List CT
 | []=>[]
 |(_,v)::r=>dV v++Oj r
def Ol:List (List CK)->List CT
 | []=>[]
 |ks::r=>sb ks++Ol r
def Om (g:cI):List CT:=EE g.boxes++Oj g.tmps
def On (E:Entry):List CT:=EE E.bx++ED E.ins
def lp (g h:cI):cI×cI×List CT:=(g,h,Om h)
def Oo (t:Nat):List Nat->Bool
 | []=>false
 |x::r=>Ñ x t||Oo t r
def yB (l:List Nat):List (Nat×bq)->List (Nat×bq)
 | []=>[]
 |(t,k)::r=>cond (Oo t l) ((t,k)::yB l r) (yB l r)
def lq (ts:List (Nat×bq)) (bx:List (Nat×List CK)) (l:List Nat):cI×cI×List CT:=lp ⟨ts,bx⟩ ⟨yB l ts,bx⟩
def lr (ts:List (Nat×bq)) (bx:List (Nat×List CK)) (l:List Nat):cI×cI×List CT:=lp ⟨ts,bx⟩ ⟨yB l ts,[]⟩
def yC (id:Nat):List (Nat×cI×cI×List CT)->cI×cI×List CT
 | []=>lp ⟨[],[]⟩ ⟨[],[]⟩
 |(i,x)::r=>cond (Ñ i id) x (yC id r)
def bY (f:FuncId) (fn:Func) (ins:List bq) (bx:List (Nat×List CK)) (outs:bq) (bP:List (List CK)) (loops:List (Nat×cI×cI×List CT)) (cQ:List Nat):Entry:=
 {f:=f,fn:=fn,ins:=ins,bx:=bx,outs:=outs,bP:=bP,loops:=loops,cQ:=cQ,bI:=dV outs++Ol bP,cg:=none}
def ZG (f:FuncId) (fn:Func) (ins:List bq) (outs:bq) (loops:List (Nat×cI×cI×List CT)) (cQ:List Nat) (back:Nat):Entry:=
 {f:=f,fn:=fn,ins:=ins,bx:=[],outs:=outs,bP:=[],loops:=loops,cQ:=cQ,bI:=dV outs,cg:=none,back:=some back}
def dw (f:FuncId) (fn:Func) (ins:List bq) (outs:bq) (loops:List (Nat×cI×cI×List CT)) (cQ:List Nat):Entry:=bY f fn ins [] outs [] loops cQ
def bL (f:FuncId) (fn:Func) (ins:List bq) (outs:bq) (loops:List (Nat×cI×cI×List CT)):Entry:=bY f fn ins [] outs [] loops []
def ax (f:FuncId) (fn:Func) (ins:List bq) (outs:bq):Entry:=bY f fn ins [] outs [] [] []
def Oq (E:Entry):Bool:=ki E&&(uz E&&(!(E.fn.name== "runtime.NumGoroutine")&& !E.fn.body.isNone))
theorem dH.of {P:Program} {l:List Entry} (h:l.all Oq=true) (g:l.map (fun E=>P.funcs[E.f]?)=l.map fun E=>some E.fn):dH P l:=⟨fun x d=>by
 have b:=List.all_eq_true.1 h x d;simp only [Oq,À,ð]at b;exact⟨b.1,b.2.1,List.map_inj_left.1 g x d,b.2.2.1,b.2.2.2⟩⟩
theorem dH.app {P:Program} {l m:List Entry} (h:dH P l) (k:dH P m):dH P (l++m):=⟨fun x b=>(É.1 b).elim (h.ok x) (k.ok x)⟩
end Go.Ev
namespace Go.Ev
open Go
noncomputable def bo (P:Prop):Bool:= @decide P (â P)
theorem lY {P:Prop}:(bo P=true)=P:=by
 unfold bo;exact propext (@decide_eq_true_iff P (â P))
theorem aA {P:Prop} (h:P):bo P=true:=by rw [lY];exact h
theorem ay {P:Prop} (h: ¬P):bo P=false:=by
 cases e:bo P
 .rfl
 .exact absurd (lY.mp e) h
theorem nh (b:Bool):b=bo (b=true):=by
 cases b
 .exact(ay (by simp)).symm
 .exact(aA rfl).symm
theorem bU (P:Prop) [inst:Decidable P]:decide P=bo P:=by
 by_cases h:P
 .rw [hJ h,aA h]
 .rw [hL h,ay h]
theorem bB (P:Prop):(!bo P)=bo (¬P):=by
 by_cases h:P
 .rw [aA h,ay (by simp [h])];rfl
 .rw [ay h,aA h];rfl
theorem bj {α:Type} [BEq α] [LawfulBEq α] (a b:α):(a==b)=bo (a=b):=by
 by_cases h:a=b
 .rw [aA h,h];simp
 .rw [ay h];simp [h]
theorem cw {α:Type} [BEq α] [LawfulBEq α] (a b:α):(a !=b)=bo (¬a=b):=by
 unfold bne;rw [bj,bB]
theorem dC {α:Type} (P:Prop) (x y:α):cond (bo P) x y= @ite α P (â P) x y:=by
 by_cases h:P
 .rw [aA h,if_pos h];rfl
 .rw [ay h,if_neg h];rfl
theorem iC (P Q:Prop):cond (bo P) (some (bo Q)) (some false)=some (bo (P/\Q)):=by
 by_cases h:P
 .rw [aA h];simp [h]
 .rw [ay h,ay (fun k:P/\Q=>h k.1)];rfl
theorem kW (P Q:Prop):cond (bo P) (some true) (some (bo Q))=some (bo (P\/Q)):=by
 by_cases h:P
 .rw [aA h,aA (Or.inl h)];rfl
 .rw [ay h];simp [h]
theorem uN (P Q:Prop):cond (bo P) (some false) (some (bo Q))=some (bo (¬P/\Q)):=by
 by_cases h:P
 .rw [aA h,ay (fun k: ¬P/\Q=>k.1 h)];rfl
 .rw [ay h];simp [h]
theorem cG {P Q:Prop} (h:P↔Q):(some (bo P):Option Bool)=some (bo Q):=by rw [propext h]
theorem gL {α:Type} (P Q:Prop) (x y:α):cond (bo P) x (cond (bo Q) x y)=cond (bo (P\/Q)) x y:=by
 by_cases h:P
 .rw [aA h,aA (Or.inl h)];rfl
 .rw [ay h];simp [h]
theorem eF {α:Type} {P Q:Prop} {x y:α} (h: ¬P↔Q):cond (bo P) x y=cond (bo Q) y x:=by
 by_cases k:P
 .rw [aA k,ay (fun q=>h.2 q k)];rfl
 .rw [ay k,aA (h.1 k)];rfl
theorem lZ:bo True=true:=aA trivial
theorem sd:bo False=false:=ay id
theorem yD (P A B:Prop):cond (bo P) (some (bo A)) (some (bo B))=some (bo ((P/\A)\/(¬P/\B))):=by
 by_cases h:P
 .rw [aA h];simp [h]
 .rw [ay h];simp [h]
theorem Ot {α:Type} {P Q:Prop} {x y:α} (h:P↔Q):cond (bo P) x y=cond (bo Q) x y:=by rw [propext h]
theorem cR {α β γ:Type} (a:α) (f:α->Option γ) (g:β->Option γ):aw (ò a) f g=f a:=rfl
theorem uO {α β γ:Type} (a:β) (f:α->Option γ) (g:β->Option γ):aw (ĩ a) f g=g a:=rfl
theorem cv {α β γ:Type} (P:Prop) (a:α) (b:β) (f:α->Option γ) (g:β->Option γ):aw (cond (bo P) (ò a) (ĩ b)) f g=cond (bo P) (f a) (g b):=by
 cases bo P<;>rfl
theorem cH (P:Prop):cond (bo P) (some true) (some false)=some (bo P):=by cases bo P<;>rfl
theorem dx (P:Prop):cond (bo P) (some false) (some true)=some (bo (¬P)):=by rw [<-bB];cases bo P<;>rfl
theorem de {α β:Type} (P:Prop) (x y:Option α) (f:α->Option β):(cond (bo P) x y).bind f=cond (bo P) (x.bind f) (y.bind f):=by cases bo P<;>rfl
theorem iD {β γ:Type} {len:Nat} (s:len<=1048576) {q:Nat->Prop} {r:γ} {b:β} {L:Nat->Nat->Int->Option (Sum β γ)}
  (f:W fun n=> ∀m (i:Nat),i<len->L n (m+1) (i:Int)=cond (bo (q i)) (L n m (wrap .i64 ((i:Int)+(1:Int)))) (some (.inr r)))
  (he: ∀n m,L n (m+1) (len:Int)=some (.inl b)):W fun n=>L n n 0=some (cond (bo (∀i,i<len->q i)) (.inl b) (.inr r)):=by
 have:=jI (len:=len) (L:=fun n m i (_:Unit)=>L n m (i:Int)) (fun i _=> ∀j,j<i->q j) (fun x=>x=cond (bo (∀i,i<len->q i)) (.inl b) (.inr r)) ?_ ?_
 .exact this.mono fun n h=>by
   obtain⟨x,g,p⟩:=h () (fun j hj=>absurd hj (é _))
   rw [<-p];exact g
 .refine f.mono fun n h m i _ hi hinv=> ?_
  have h:=h m i hi;by_cases d:q i
  .right
   rw [aA d]at h;refine⟨(),by rw [<-dq hi (by omega)];exact h,fun j hj=> ?_⟩
   by_cases e:j=i
   .subst e;exact d
   .exact hinv j (by omega)
  .left
   rw [ay d]at h;refine⟨_,h, ?_⟩
   rw [ay (fun k=>d (k i hi))]
   rfl
 .exact W.of fun n m _ hinv=>⟨_,he n m,by rw [aA hinv];rfl⟩
theorem ZH {β γ:Type} {len:Nat} (p:len<=1048576) {q:Nat->Prop} {r:Int->γ} {b:β} {L:Nat->Nat->Int->Option (Sum β γ)}
  (g:W fun n=> ∀m (i:Nat),i<len->L n (m+1) (i:Int)=cond (bo (q i)) (some (.inr (r i))) (L n m (wrap .i64 ((i:Int)+(1:Int)))))
  (he: ∀n m,L n (m+1) (len:Int)=some (.inl b)):W fun n=>(∃i:Nat,i<len/\q i/\L n n 0=some (.inr (r i)))\/((∀i,i<len-> ¬q i)/\L n n 0=some (.inl b)):=by
 have:=jI (len:=len) (L:=fun n m i (_:Unit)=>L n m (i:Int)) (fun i _=> ∀j,j<i-> ¬q j) (fun x=>(∃i:Nat,i<len/\q i/\x=.inr (r i))\/((∀i,i<len-> ¬q i)/\x=.inl b)) ?_ ?_
 .exact this.mono fun n h=>by
   obtain⟨x,f,k⟩:=h () (fun j hj=>absurd hj (é _))
   have f:L n n 0=some x:=f;rw [f];rcases k with⟨i,a,c,rfl⟩|⟨a,rfl⟩
   .exact .inl ⟨i,a,c,rfl⟩
   .exact .inr ⟨a,rfl⟩
 .refine g.mono fun n h m i _ hi hinv=> ?_
  have h:=h m i hi;by_cases d:q i
  .left
   rw [aA d]at h;exact⟨_,h,.inl ⟨i,hi,d,rfl⟩⟩
  .right
   rw [ay d]at h;refine⟨(),by rw [<-dq hi (by omega)];exact h,fun j hj=> ?_⟩
   by_cases e:j=i
   .subst e;exact d
   .exact hinv j (by omega)
 .exact W.of fun n m _ hinv=>⟨_,he n m,.inr ⟨hinv,rfl⟩⟩
theorem uP {α:Type} {l:List α} {i:Nat} (b:0<i) (h:i<l.length) (d:l.length<=1048576):ar l (wrap .i64 ((i:Int)-(1:Int)))=some (l[i-1]'(by omega)):=by
 have e:wrap .i64 ((i:Int)-(1:Int))=((i-1:Nat):Int):=by rw [Ì];omega
 rw [e,aU (by omega)]
theorem yE {α:Type} {l:List α} (b:0<l.length) (d:l.length<=1048576):ar l (wrap .i64 ((l.length:Int)-(1:Int)))=some (l[l.length-1]'(by omega)):=by
 have e:wrap .i64 ((l.length:Int)-(1:Int))=((l.length-1:Nat):Int):=by rw [Ì];omega
 rw [e,aU (by omega)]
theorem ZI {α:Type} (l:List α) (p:α->Prop):(∀i,(h:i<l.length)->p l[i])↔ ∀x∈l,p x:=by
 constructor
 .intro h x b
  obtain⟨i,hi,rfl⟩:=Ö.1 b;exact h i hi
 .exact fun h i hi=>h _ (ß hi)
def At {α:Type} (l:List α) (p:α->Prop) (i:Nat):Prop:= ∀h:i<l.length,p l[i]
theorem qy {α:Type} (l:List α) (p:α->Prop):(∀i,i<l.length->At l p i)↔ ∀x∈l,p x:=by
 rw [<-ZI];exact⟨fun h i hi=>h i hi hi,fun h i hi _=>h i hi⟩
theorem kX {α:Type} {l:List α} {p:α->Prop} {i:Nat} (h:i<l.length):At l p i↔p l[i]:=⟨fun k=>k h,fun k _=>k⟩
theorem km {α β γ:Type} {l:List α} (d:l.length<=1048576) {p:α->Prop} {r:γ} {b:β} {L:Nat->Nat->Int->Option (Sum β γ)}
  (f:W fun n=> ∀m (i:Nat),(h:i<l.length)->L n (m+1) (i:Int)=cond (bo (p l[i])) (L n m (wrap .i64 ((i:Int)+(1:Int)))) (some (.inr r)))
  (he: ∀n m,L n (m+1) (l.length:Int)=some (.inl b)):W fun n=>L n n 0=some (cond (bo (∀x∈l,p x)) (.inl b) (.inr r)):=by
 have:=iD (len:=l.length) d (q:=At l p) (r:=r) (b:=b) (L:=L) (f.mono fun n h m i hi=>by rw [h m i hi,propext (kX (p:=p) hi)]) he
 simpa only [qy]using this
theorem kn {α β γ:Type} {l:List α} (g:l.length<=1048576) {p:α->Prop} {r:Int->γ} {b:β} {L:Nat->Nat->Int->Option (Sum β γ)}
  (d:W fun n=> ∀m (i:Nat),(h:i<l.length)->L n (m+1) (i:Int)=cond (bo (p l[i])) (some (.inr (r i))) (L n m (wrap .i64 ((i:Int)+(1:Int)))))
  (he: ∀n m,L n (m+1) (l.length:Int)=some (.inl b)):W fun n=>((∃x∈l,p x)/\ ∃i:Nat,L n n 0=some (.inr (r i)))\/((∀x∈l,¬p x)/\L n n 0=some (.inl b)):=by
 have:=ZH (len:=l.length) g (q:=At l p) (r:=r) (b:=b) (L:=L) (d.mono fun n h m i hi=>by rw [h m i hi,propext (kX (p:=p) hi)]) he
 refine this.mono fun n h=> ?_
 rcases h with⟨i,hi,f,e⟩|⟨f,e⟩
 .exact .inl ⟨⟨_,ß hi,(kX hi).1 f⟩,i,e⟩
 .refine .inr ⟨fun x d hp=> ?_,e⟩
  obtain⟨i,hi,rfl⟩:=Ö.1 d;exact f i hi ((kX hi).2 hp)
theorem EF (i:Nat):bo ((0:Int)<=(i:Int))=true:=aA (by omega)
theorem EG:bo ((0:Int)<=(-1:Int))=false:=ay (by omega)
theorem se {α β:Type} {l:List α} {p:α->Prop} {o:Option (Int×β)} {c:β}
  (h:((∃x∈l,p x)/\ ∃i:Nat,o=some ((i:Int),c))\/((∀x∈l,¬p x)/\o=some ((-1:Int),c))):o.bind (fun y=>some (decide ((0:Int)<=y.1),y.2))=some (bo (∃x∈l,p x),c):=by
 rcases h with⟨h,i,rfl⟩|⟨h,rfl⟩
 .simp only [Z,bU,EF,aA h]
 .simp only [Z,bU,EG]
  rw [ay (fun ⟨x,b,hp⟩=>h x b hp)]
theorem EH {α:Type} {l:List α} {p:α->Prop} {o:Option Int}
  (h:((∃x∈l,p x)/\ ∃i:Nat,o=some (i:Int))\/((∀x∈l,¬p x)/\o=some (-1:Int))):o.bind (fun y=>some (decide ((0:Int)<=y)))=some (bo (∃x∈l,p x)):=by
 rcases h with⟨h,i,rfl⟩|⟨h,rfl⟩
 .simp only [Z,bU,EF,aA h]
 .simp only [Z,bU,EG]
  rw [ay (fun ⟨x,b,hp⟩=>h x b hp)]
theorem W.lt {len:Nat} {p:(i:Nat)->i<len->Nat->Prop} (h: ∀i (hi:i<len),W (p i hi)):W fun n=> ∀i (hi:i<len),p i hi n:=
 (W.all (p:=fun i n=> ∀hi:i<len,p i hi n) (ý len) fun i hi=>(h i (å.1 hi)).mono fun _ k _=>k).mono fun _ k i hi=>k i (å.2 hi) hi
theorem kY {P Q:Prop} (h:P↔Q):bo P=bo Q:=by rw [propext h]
theorem dD {P:Prop} (h:P):(some true:Option Bool)=some (bo P):=by rw [aA h]
theorem dE {P:Prop} (h: ¬P):(some false:Option Bool)=some (bo P):=by rw [ay h]
theorem df {l:O} {i:Nat} (h:i<l.length):bG l (i:Int)=some l[i]:=by
 unfold bG nth;rw [hJ (by omega)]
 simp [h]
theorem W.nm {p q:Nat->Prop} (h:W p) (k: ∀n,p n->q (n+1)):W q:=W.succ (h.mono k)
theorem dR (b:UInt8):È (ć (b.toNat:Int))=b:=by simp
theorem bk {i len:Nat} (h:i<len):decide ((i:Int)<(len:Int))=true:=hJ (by omega)
theorem ca (len:Nat):decide ((len:Int)<(len:Int))=false:=hL (by omega)
theorem Ou {α:Type} {p:α->Bool}: ∀(l:List α) (i:Nat) (h:i<l.length),i<=(l.takeWhile p).length->p l[i]=true->i+1<=(l.takeWhile p).length
 |a::l,0,_,_,hp=>by
  have hp:p a=true:=hp;simp [hp]
 |a::l,i+1,h,hi,hp=>by
  rw [Æ]at hi |-;by_cases e:p a=true
  .rw [if_pos e]at hi |-
   have:=Ou l i (by simpa using h) (by simpa using hi) hp
   simpa using this
  .rw [if_neg e]at hi
   simp at hi
theorem Ov {α:Type} {p:α->Bool}: ∀(l:List α) (i:Nat) (h:i<l.length),p l[i]=false->(l.takeWhile p).length<=i
 |a::l,0,_,hp=>by
  have hp:p a=false:=hp;simp [hp]
 |a::l,i+1,h,hp=>by
  rw [Æ];by_cases e:p a=true
  .rw [if_pos e]
   have:=Ov l i (by simpa using h) hp
   simpa using this
  .rw [if_neg e]
   simp
theorem ni {α:Type} (p:α->Bool) (l:List α):(l.takeWhile p).length<=l.length:=(List.takeWhile_sublist p).length_le
theorem Ow {α β:Type} {l:List α} (j:l.length<=1048576) {p:α->Bool} {L:Nat->Nat->Int->Option (Sum Int β)}
  (d:W fun n=> ∀m (i:Nat),(h:i<l.length)->L n (m+1) (i:Int)=cond (p l[i]) (L n m (wrap .i64 ((i:Int)+(1:Int)))) (some (.inl i)))
  (he: ∀n m,L n (m+1) (l.length:Int)=some (.inl (l.length:Int))):W fun n=>L n n 0=some (.inl ((l.takeWhile p).length:Int)):=by
 have:=jI (len:=l.length) (L:=fun n m i (_:Unit)=>L n m (i:Int)) (fun i _=>i<=(l.takeWhile p).length) (fun x=>x=.inl ((l.takeWhile p).length:Int)) ?_ ?_
 .exact this.mono fun n h=>by
   obtain⟨x,f,g⟩:=h () (Ą _);rw [<-g];exact f
 .refine d.mono fun n h m i _ hi hinv=> ?_
  have h:=h m i hi;cases b:p l[i]
  .left
   rw [b]at h;refine⟨_,h, ?_⟩
   have:=Ov l i hi b;rw [show i=(l.takeWhile p).length by omega]
  .right
   rw [b]at h;exact⟨(),by rw [<-dq hi (by omega)];exact h,Ou l i hi hinv b⟩
 .refine W.of fun n m _ hinv=>⟨_,he n m, ?_⟩
  have:=ni p l;rw [show l.length=(l.takeWhile p).length by omega]
theorem ZJ {α:Type} (p:α->Bool) (l:List α):(l.takeWhile p).length=l.length↔ ∀x∈l,p x=true:=by
 induction l with
 |nil=>simp
 |cons a l ih=>
  rw [Æ];by_cases e:p a=true
  .simp [e,ih]
  .simp [e]
def In (x lo hi:Int):Prop:=lo<=x/\x<=hi
end Go.Ev
namespace Go.Ev
open Go
abbrev Tr:Type:=RT (Int×Int×O×Bool)
abbrev Nd:Type:=Int×(Int×O×Bool×List Tr)
def cS (x:Nd):Tr:=.mk (x.1,x.2.1,x.2.2.1,x.2.2.2.1) x.2.2.2.2
def aF:Tr->Nd
 |.mk x k=>(x.1,x.2.1,x.2.2.1,x.2.2.2,k)
theorem Ox (x:Nd):aF (cS x)=x:=rfl
def dO (t:Tr):List Tr:=(aF t).2.2.2.2
def gM (c:UInt8):Int:=if c.toNat=42 then 8 else if c.toNat=43 then 9 else if c.toNat=63 then 10 else 0
def hU (ks:List Tr):Nd:=
 match ks with
 | [k]=>aF k
 |_=>(7,0,[],false,ks)
def gy (ks:List Tr):Nd:=
 match ks with
 | []=>(11,0,[],false,[])
 | [k]=>aF k
 |_=>(6,0,[],false,ks)
def eR (s:O) (b:Bool):Option UInt8:=cond b none s.head?
def dI (has:List Bool) (lo:Nat):Nat->List Bool
 |0=>has
 |k+1=>dI (has.set lo true) (lo+1) k
theorem kq: ∀(k:Nat) (has:List Bool) (lo:Nat),(dI has lo k).length=has.length
 |0,_,_=>rfl
 |k+1,has,lo=>by rw [dI,kq k];simp
def setB:O->List Bool->Bool->List Bool×Bool
 | [],has,b=>(has,b)
 | [lo],has,b=>(dI has lo.toNat 1,b)
 | [lo,d],has,b=>setB [d] (dI has lo.toNat 1) b
 |lo::d::hi::r,has,b=>
  if d.toNat=45/\hi.toNat≠93 then setB r (dI has lo.toNat (hi.toNat+1-lo.toNat)) (b||decide (hi.toNat<lo.toNat))
  else setB (d::hi::r) (dI has lo.toNat 1) b
theorem uQ (lo:UInt8) (t:O) (has:List Bool) (b:Bool) (h:t.length<2):setB (lo::t) has b=setB t (dI has lo.toNat 1) b:=by
 match t,h with
 | [],_=>rfl
 | [d],_=>rfl
theorem EI (lo d hi:UInt8) (r:O) (has:List Bool) (b:Bool) (h: ¬(d.toNat=45/\hi.toNat≠93)):setB (lo::d::hi::r) has b=setB (d::hi::r) (dI has lo.toNat 1) b:=by
 rw [setB,if_neg h]
theorem EJ (lo d hi:UInt8) (r:O) (has:List Bool) (b:Bool) (h:d.toNat=45/\hi.toNat≠93):setB (lo::d::hi::r) has b=setB r (dI has lo.toNat (hi.toNat+1-lo.toNat)) (b||decide (hi.toNat<lo.toNat)):=by
 rw [setB,if_pos h]
theorem EK {d β:Type} {hi:Nat} {L:Nat->Int->List Bool->Option (Sum d β)} {out:List Bool->d} (g:hi<256)
  (f: ∀m (j:Nat) (h:List Bool),j<=hi->h.length=256->L (m+1) (j:Int) h=L m (wrap .i64 ((j:Int)+(1:Int))) (h.set j true))
  (he: ∀m (j:Nat) h,hi<j->L (m+1) (j:Int) h=some (.inl (out h))): ∀k m (j:Nat) h,hi+1-j=k->k<m->h.length=256->L m (j:Int) h=some (.inl (out (dI h j k)))
 |0,m,j,h,e,hm,b=>by
  obtain⟨m,rfl⟩: ∃m',m=m'+1:=⟨m-1,by omega⟩
  rw [he m j h (by omega)];rfl
 |k+1,m,j,h,e,hm,b=>by
  obtain⟨m,rfl⟩: ∃m',m=m'+1:=⟨m-1,by omega⟩
  rw [f m j h (by omega) b,show wrap .i64 ((j:Int)+(1:Int))=((j+1:Nat):Int) by rw [Ì];omega,EK g f he k m (j+1) (h.set j true) (by omega) (by omega) (by simp [b]),dI]
def bytesOf (has:List Bool):Nat->O
 |0=>[]
 |k+1=>bytesOf has k++cond (has.getD k false) [È k] []
theorem Oy (has:List Bool): ∀k,(bytesOf has k).length<=k
 |0=>by simp [bytesOf]
 |k+1=>by
  have:=Oy has k;rw [bytesOf,ď];cases has.getD k false<;>simp<;>omega
theorem Oz {b β:Type} {has:List Bool} (_:has.length=256) {L:Nat->Nat->Int->O->Option (Sum b β)} {out:O->b}
  (d: ∀n m (i:Nat) (o:O) (_:i<256),o.length<=i->L n (m+1) (i:Int) o=L n m (wrap .i64 ((i:Int)+(1:Int))) (o++cond (has.getD i false) [È i] []))
  (he: ∀n m o,L n (m+1) (256:Int) o=some (.inl (out o))):W fun n=>L n n 0 []=some (.inl (out (bytesOf has 256))):=by
 have:=jI (len:=256) (L:=fun n m i o=>L n m (i:Int) o) (fun i o=>o=bytesOf has i) (fun x=>x=.inl (out (bytesOf has 256))) ?_ ?_
 .exact this.mono fun n h=>by
   obtain⟨x,f,g⟩:=h [] rfl;rw [<-g];exact f
 .refine W.of fun n m i o hi hinv=>.inr ⟨o++cond (has.getD i false) [È i] [], ?_,by subst hinv;rw [bytesOf]⟩
  have h:=d n m i o hi (by rw [hinv];exact Oy has i)
  rw [<-dq hi (by omega)]
  exact h
 .exact W.of fun n m o hinv=>⟨_,he n m o,by rw [hinv]⟩
theorem OA (i:Nat) (h:i<256):È (ć (wrap .u8 (i:Int)))=È i:=by
 rw [show wrap .u8 (i:Int)=(i:Int) by rw [Ė];omega];rfl
def bJ:O->O×Bool
 |c::r=>if c.toNat=94 then(r,true)else(c::r,false)
 | []=>([],false)
def aK (c:UInt8):Bool:= !(decide (c.toNat=93))
theorem OC: ∀l:O,Ê l 93=if(l.takeWhile aK).length=l.length then -1 else((l.takeWhile aK).length:Int)
 | []=>rfl
 |a::l=>by
  have ih:=OC l;rw [Ê,Æ];by_cases h:a.toNat=93
  .have:a=93:=ę.1 h
   subst this;simp [aK]
  .have b: ¬(a==93)=true:=by
    intro k;exact h (by rw [beq_iff_eq.1 k];rfl)
   rw [if_neg b,show aK a=true by simp [aK,h],if_pos rfl,ih]
   simp only [Å,Nat.add_right_cancel_iff];by_cases e:(l.takeWhile aK).length=l.length
   .simp [e]
   .simp only [e,if_false]
    rw [if_neg (by simp)]
    omega
theorem EL: ∀l:O,∀c∈l.takeWhile aK,c.toNat≠93
 |a::l,c,h=>by
  rw [Æ]at h;by_cases e:aK a=true
  .rw [if_pos e]at h
   rcases Î.1 h with rfl|h
   .simpa [aK]using e
   .exact EL l c h
  .rw [if_neg e]at h;cases h
theorem OD: ∀l:O,l.take (l.takeWhile aK).length=l.takeWhile aK
 | []=>rfl
 |a::l=>by
  rw [Æ];split
  .rw [Å,Ú,OD l]
  .rfl
theorem getD_at {l:List Bool} {i:Nat} (h:i<l.length):l.getD i false=l[i]:=by
 rw [î,Ä h,Option.getD_some]
def dF:List Bool:=Ô 256 false
theorem sf:dF.length=256:=List.length_replicate
def fL (s:O):Nd×(O×Bool):=
 let s1:=(bJ s).1
 let body:=s1.takeWhile aK
 if body.length=s1.length\/body=[]then((0,0,[],false,[]),s1,true)
 else((3,0,bytesOf (setB body dF false).1 256,(bJ s).2,[]),s1.drop (body.length+1),(setB body dF false).2)
def leaf (o c:Int):Nd:=(o,c,[],false,[])
def kr (c:UInt8) (r:O):Nd×(O×Bool):=
 if c.toNat=46 then(leaf 2 0,r,false)else if c.toNat=94 then(leaf 4 0,r,false)else if c.toNat=36 then(leaf 5 0,r,false)
 else if c.toNat=91 then fL r
 else if c.toNat=92 then(match r with| []=>(leaf 0 0,[],true)|d::b=>(leaf 1 d.toNat,b,false))
 else if c.toNat=42\/c.toNat=43\/c.toNat=63 then(leaf 0 0,r,true)else(leaf 1 c.toNat,r,false)
def hY (x:Nd×O×Bool):Nd×(O×Bool):=
 match eR x.2.1 x.2.2 with
 |some d=>if d.toNat=41 then(x.1,x.2.1.tail,x.2.2)else(x.1,x.2.1,true)
 |none=>(x.1,x.2.1,true)
inductive Md where
 |pat|fM (ks:List Tr)|part|fi (ks:List Tr)|piece|iE (t:Nd)|atom
def iP:Nat->Md->O->Bool->Option (Nd×O×Bool)
 |0,_,_,_=>none
 |f+1,.pat,s,b=>(iP f .part s b).bind fun r=>iP f (.fM [cS r.1]) r.2.1 r.2.2
 |f+1,.fM ks,s,b=>
  match eR s b with
  |none=>some (hU ks,s,b)
  |some c=>if c.toNat=124 then(iP f .part s.tail b).bind fun r=>iP f (.fM (ks++[cS r.1])) r.2.1 r.2.2 else some (hU ks,s,b)
 |f+1,.part,s,b=>iP f (.fi []) s b
 |f+1,.fi ks,s,b=>
  match eR s b with
  |none=>some (gy ks,s,b)
  |some c=>if c.toNat=124\/c.toNat=41 then some (gy ks,s,b)else(iP f .piece s b).bind fun r=>iP f (.fi (ks++[cS r.1])) r.2.1 r.2.2
 |f+1,.piece,s,b=>(iP f .atom s b).bind fun r=>iP f (.iE r.1) r.2.1 r.2.2
 |f+1,.iE t,s,b=>
  match eR s b with
  |none=>some (t,s,b)
  |some c=>if gM c=0 then some (t,s,b)else iP f (.iE (gM c,0,[],false,[cS t])) s.tail b
 |_+1,.atom,[],_=>none
 |f+1,.atom,c::r,b=>if c.toNat=40 then(iP f .pat r b).bind fun x=>some (hY x)else some (kr c r)
inductive ia:Tr->Prop
 |mk {t:Tr} (h:(dO t).length<=100) (k: ∀x∈dO t,ia x):ia t
def nj (x:Nd):Prop:=x.2.2.2.2.length<=100/\ ∀k∈x.2.2.2.2,ia k
theorem eZ {x:Nd} (h:nj x):ia (cS x):=.mk h.1 h.2
theorem OE {t:Tr} (h:ia t):nj (aF t):=by
 obtain⟨h,k⟩:=h;exact⟨h,k⟩
theorem ZK (o c:Int):nj (leaf o c):=⟨by simp [leaf],by simp [leaf]⟩
def ku:Md->O->Prop
 |.fM ks,s=>ks.length+s.length<=61/\ ∀k∈ks,ia k
 |.fi ks,s=>ks.length+s.length<=61/\ ∀k∈ks,ia k
 |.iE t,_=>nj t
 |_,_=>True
def dS:Md->Nat->Nat->Prop
 |.atom,a,b=>a<b
 |.piece,a,b=>a<b
 |_,a,b=>a<=b
def mb:Md->O->Bool->Prop
 |.atom,s,b=>s≠ []/\b=false
 |.piece,s,b=>s≠ []/\b=false
 |_,_,_=>True
theorem fN {s:O} {b:Bool} {c:UInt8} (h:eR s b=some c):b=false/\s=c::s.tail:=by
 unfold eR at h;cases b
 .refine⟨rfl, ?_⟩
  cases s with
  |nil=>simp at h
  |cons a r=>simp at h;subst h;rfl
 .simp at h
theorem OG {ks:List Tr} (h:ks.length<=100) (k: ∀x∈ks,ia x):nj (hU ks):=by
 match ks,h,k with
 | [a],_,k=>exact OE (k a (by simp))
 | [],_,_=>exact⟨by simp [hU],by simp [hU]⟩
 |a::b::r,h,k=>exact⟨h,k⟩
theorem OH {ks:List Tr} (h:ks.length<=100) (k: ∀x∈ks,ia x):nj (gy ks):=by
 match ks,h,k with
 | [a],_,k=>exact OE (k a (by simp))
 | [],_,_=>exact⟨by simp [gy],by simp [gy]⟩
 |a::b::r,h,k=>exact⟨h,k⟩
theorem OI (s:O):(bJ s).1.length<=s.length:=by
 cases s with
 |nil=>simp [bJ]
 |cons c r=>
  show(if c.toNat=94 then(r,true)else(c::r,false)).1.length<=_
  split<;>simp
theorem ZL (s:O):nj (fL s).1/\(fL s).2.1.length<=s.length:=by
 have:=OI s;unfold fL;simp only;split
 .exact⟨⟨by simp,by simp⟩,this⟩
 .exact⟨⟨by simp,by simp⟩,by simp;omega⟩
theorem OJ (c:UInt8) (r:O):nj (kr c r).1/\(kr c r).2.1.length<=r.length:=by
 have:=ZL r;unfold kr;repeat' split
 all_goals first
  |exact this
  |exact⟨ZK _ _,by simp⟩
theorem OK (x:Nd×O×Bool):(hY x).1=x.1/\(hY x).2.1.length<=x.2.1.length/\(x.2.2=true->(hY x).2.2=true):=by
 unfold hY;repeat' split
 all_goals refine⟨rfl, ?_, ?_⟩
 all_goals simp
theorem eJ: ∀f md s b r,iP f md s b=some r->s.length<=60->mb md s b->ku md s->nj r.1/\dS md r.2.1.length s.length/\(b=true->r.2.2=true):=by
 intro f;induction f with
 |zero=>intro md s b r h;simp [iP]at h
 |succ f ih=>
  intro md s b r h u p d;cases md with
  |pat=>
   simp only [iP,Ã]at h;obtain⟨x,g,i⟩:=h;obtain⟨j,a2,a3⟩:=ih _ _ _ _ g u trivial trivial;simp only [dS]at a2;obtain⟨c1,m,q⟩:=ih _ _ _ _ i (by omega) trivial ⟨by simp;omega,by simpa using eZ j⟩
   simp only [dS]at m |-;exact⟨c1,by omega,fun k=>q (a3 k)⟩
  |fM ks=>
   simp only [iP]at h;split at h
   .cases h;exact⟨OG (by have:=d.1;omega) d.2,Ï _,id⟩
   .rename_i c z
    obtain⟨rfl,e⟩:=fN z;have hl:s.length=s.tail.length+1:=by rw [e];simp
    split at h
    .simp only [Ã]at h
     obtain⟨x,g,i⟩:=h;obtain⟨j,a2,a3⟩:=ih _ _ _ _ g (by omega) trivial trivial
     simp only [dS]at a2;obtain⟨c1,m,q⟩:=ih _ _ _ _ i (by omega) trivial ⟨by have:=d.1;simp;omega,by
      intro k hk;rcases É.1 hk with hk|hk
      .exact d.2 k hk
      .simp at hk;subst hk;exact eZ j⟩
     simp only [dS]at m |-;exact⟨c1,by omega,fun k=>by cases k⟩
    .cases h;exact⟨OG (by have:=d.1;omega) d.2,Ï _,id⟩
  |part=>
   simp only [iP]at h;have:=ih (.fi []) _ _ _ h u trivial ⟨by simp;omega,by simp⟩
   exact this
  |fi ks=>
   simp only [iP]at h;split at h
   .cases h;exact⟨OH (by have:=d.1;omega) d.2,Ï _,id⟩
   .rename_i c z
    obtain⟨rfl,e⟩:=fN z;split at h
    .cases h;exact⟨OH (by have:=d.1;omega) d.2,Ï _,id⟩
    .simp only [Ã]at h
     obtain⟨x,g,i⟩:=h;obtain⟨j,a2,a3⟩:=ih _ _ _ _ g u ⟨by rw [e];simp,rfl⟩ trivial
     simp only [dS]at a2;obtain⟨c1,m,q⟩:=ih _ _ _ _ i (by omega) trivial ⟨by have:=d.1;simp;omega,by
      intro k hk;rcases É.1 hk with hk|hk
      .exact d.2 k hk
      .simp at hk;subst hk;exact eZ j⟩
     simp only [dS]at m |-;exact⟨c1,by omega,fun k=>by cases k⟩
  |piece=>
   simp only [iP,Ã]at h;obtain⟨x,g,i⟩:=h;obtain⟨j,a2,a3⟩:=ih _ _ _ _ g u p trivial;simp only [dS]at a2;obtain⟨c1,m,q⟩:=ih _ _ _ _ i (by omega) trivial j
   simp only [dS]at m |-;exact⟨c1,by omega,fun k=>q (a3 k)⟩
  |iE t=>
   simp only [iP]at h;split at h
   .cases h;exact⟨d,Ï _,id⟩
   .rename_i c z
    obtain⟨rfl,e⟩:=fN z;have hl:s.length=s.tail.length+1:=by rw [e];simp
    split at h
    .cases h;exact⟨d,Ï _,id⟩
    .obtain⟨c1,m,q⟩:=ih _ _ _ _ h (by omega) trivial ⟨by simp,by simpa using eZ d⟩
     simp only [dS]at m |-;exact⟨c1,by omega,fun k=>by cases k⟩
  |atom=>
   obtain⟨ad,rfl⟩:=p;cases s with
   |nil=>exact absurd rfl ad
   |cons c rr=>
    simp only [Å]at u;simp only [iP]at h;split at h
    .simp only [Ã]at h
     obtain⟨x,g,i⟩:=h;obtain⟨j,a2,a3⟩:=ih _ _ _ _ g (by omega) trivial trivial
     cases i;obtain⟨e1,e2,e3⟩:=OK x;simp only [dS]at a2;rw [e1];exact⟨j,by simp only [dS,Å];omega,fun k=>by cases k⟩
    .cases h
     obtain⟨e1,e2⟩:=OJ c rr;exact⟨e1,by simp only [dS,Å];omega,fun k=>by cases k⟩
def need:Md->Nat->Nat
 |.atom,l=>8*l+1
 |.piece,l=>8*l+2
 |.fi _,l=>8*l+3
 |.part,l=>8*l+4
 |.pat,l=>8*l+5
 |.fM _,l=>8*l+1
 |.iE _,l=>8*l+1
theorem ZM: ∀f md s b,need md s.length<=f->s.length<=60->mb md s b->ku md s-> ∃r,iP f md s b=some r:=by
 intro f;induction f with
 |zero=>intro md s b h;cases md<;>simp [need]at h
 |succ f ih=>
  intro md s b m p g i;cases md with
  |pat=>
   simp only [need]at m;obtain⟨x,d⟩:=ih .part s b (by simp only [need];omega) p trivial trivial
   obtain⟨q,a2,a3⟩:=eJ _ _ _ _ _ d p trivial trivial;simp only [dS]at a2;obtain⟨y,u⟩:=ih (.fM [cS x.1]) x.2.1 x.2.2 (by simp only [need];omega) (by omega) trivial ⟨by simp;omega,by simpa using eZ q⟩
   exact⟨y,by simp only [iP,d,Z,u]⟩
  |fM ks=>
   simp only [need]at m;simp only [iP];split
   .exact⟨_,rfl⟩
   .rename_i c z
    obtain⟨rfl,e⟩:=fN z;have hl:s.length=s.tail.length+1:=by rw [e];simp
    split
    .obtain⟨x,d⟩:=ih .part s.tail false (by simp only [need];omega) (by omega) trivial trivial
     obtain⟨q,a2,a3⟩:=eJ _ _ _ _ _ d (by omega) trivial trivial
     simp only [dS]at a2;obtain⟨y,u⟩:=ih (.fM (ks++[cS x.1])) x.2.1 x.2.2 (by simp only [need];omega) (by omega) trivial ⟨by have:=i.1;simp;omega,by
      intro k hk;rcases É.1 hk with hk|hk
      .exact i.2 k hk
      .simp at hk;subst hk;exact eZ q⟩
     exact⟨y,by rw [d];exact u⟩
    .exact⟨_,rfl⟩
  |part=>
   simp only [need]at m;simp only [iP];exact ih _ _ _ (by simp only [need];omega) p trivial ⟨by simp;omega,by simp⟩
  |fi ks=>
   simp only [need]at m;simp only [iP];split
   .exact⟨_,rfl⟩
   .rename_i c z
    obtain⟨rfl,e⟩:=fN z;split
    .exact⟨_,rfl⟩
    .have j:mb .piece s false:=⟨by rw [e];simp,rfl⟩
     obtain⟨x,d⟩:=ih .piece s false (by simp only [need];omega) p j trivial
     obtain⟨q,a2,a3⟩:=eJ _ _ _ _ _ d (by omega) j trivial
     simp only [dS]at a2;obtain⟨y,u⟩:=ih (.fi (ks++[cS x.1])) x.2.1 x.2.2 (by simp only [need];omega) (by omega) trivial ⟨by have:=i.1;simp;omega,by
      intro k hk;rcases É.1 hk with hk|hk
      .exact i.2 k hk
      .simp at hk;subst hk;exact eZ q⟩
     exact⟨y,by rw [d];exact u⟩
  |piece=>
   simp only [need]at m;obtain⟨x,d⟩:=ih .atom s b (by simp only [need];omega) p g trivial
   obtain⟨q,a2,a3⟩:=eJ _ _ _ _ _ d p g trivial;simp only [dS]at a2;obtain⟨y,u⟩:=ih (.iE x.1) x.2.1 x.2.2 (by simp only [need];omega) (by omega) trivial q
   exact⟨y,by simp only [iP,d,Z,u]⟩
  |iE t=>
   simp only [need]at m;simp only [iP];split
   .exact⟨_,rfl⟩
   .rename_i c z
    obtain⟨rfl,e⟩:=fN z;have hl:s.length=s.tail.length+1:=by rw [e];simp
    split
    .exact⟨_,rfl⟩
    .exact ih _ _ _ (by simp only [need];omega) (by omega) trivial ⟨by simp,by simpa using eZ i⟩
  |atom=>
   obtain⟨ad,rfl⟩:=g;cases s with
   |nil=>exact absurd rfl ad
   |cons c rr=>
    simp only [need,Å]at m p;simp only [iP];split
    .obtain⟨x,d⟩:=ih .pat rr false (by simp only [need];omega) (by omega) trivial trivial
     exact⟨hY x,by rw [d];rfl⟩
    .exact⟨_,rfl⟩
mutual
def dh:Tr->Int
 |.mk _ ks=>wrap .i64 (fX 0 ks+1)
def fX:Int->List Tr->Int
 |a,[]=>a
 |a,t::r=>fX (cond (decide (a<dh t)) (dh t) a) r
end
def gN (s:O):Int×(Int×O×Bool×List Tr×Bool):=
 if s.length<=60 then
  match iP 1000 .pat s false with
  |some r=>if r.2.2=false/\r.2.1=[]/\dh (cS r.1)<=12 then(r.1.1,r.1.2.1,r.1.2.2.1,r.1.2.2.2.1,r.1.2.2.2.2,true)else(0,0,[],false,[],false)
  |none=>(0,0,[],false,[],false)
 else(0,0,[],false,[],false)
end Go.Ev
namespace Go.Ev
open Go
def bz (c:UInt8):Bool:=decide (48<=c.toNat/\c.toNat<=57)
def fz (c:UInt8):Bool:=decide (c.toNat=32)
def iF (c:UInt8):Bool:=decide (c.toNat=48)
def cV (l:O):Nat:=l.foldl (fun a c=>a*10+(c.toNat-48)) 0
def dJ:Nat->O->Nat
 |_,[]=>0
 |u,c::l=>(c.toNat-48)*u+dJ (u/10) l
theorem ZN (l:O) (c:UInt8):cV (l++[c])=cV l*10+(c.toNat-48):=by
 unfold cV;rw [ó];rfl
theorem EM: ∀(l:O) (a:Nat),l.foldl (fun a c=>a*10+(c.toNat-48)) a=a*10^l.length+cV l
 | [],a=>by simp [cV]
 |c::l,a=>by
  have b:=EM l (a*10+(c.toNat-48));have d:=EM l (0*10+(c.toNat-48));have f:cV (c::l)=(0*10+(c.toNat-48))*10^l.length+cV l:=d;rw [List.foldl_cons,b,f,Å,æ,á,á,Ģ,ģ (10^l.length) 10,Ğ];simp only [Ĥ,è]
theorem EN (a b:O):cV (a++b)=cV a*10^b.length+cV b:=by
 show(a++b).foldl _ 0=_;rw [ó,EM];rfl
theorem sg (c:UInt8) (l:O):cV (c::l)=(c.toNat-48)*10^l.length+cV l:=by
 have:=EN [c] l;rw [List.singleton_append]at this;rw [this];simp [cV]
theorem OL: ∀(l:O) (a:Nat),(∀c∈l,bz c=true)->Ĕ a l=some (a*10^l.length+cV l)
 | [],a,_=>by simp [Ĕ,cV]
 |c::l,a,h=>by
  have b:=h c (by simp)
  simp only [bz,decide_eq_true_eq]at b;have d:=OL l (a*10+(c.toNat-48)) fun x f=>h x (by simp [f])
  rw [Ĕ,Lib.digitVal,if_pos b];simp only;rw [d,sg,Å,æ,á,ģ (10^l.length) 10,<-Ğ];congr 1
  omega
theorem EO: ∀l:O,dJ 0 l=0
 | []=>rfl
 |c::l=>by rw [dJ];simp [EO l]
theorem EP: ∀(l:O) (k:Nat),(∀c∈l,bz c=true)->dJ (10^k) l<10^(k+1)
 | [],k,_=>by rw [dJ];exact Nat.pow_pos (by omega)
 |c::l,k,h=>by
  have b:=h c (by simp)
  simp only [bz,decide_eq_true_eq]at b;rw [dJ];cases k with
  |zero=>
   simp [EO]
   omega
  |succ k=>
   have f:=EP l k fun x d=>h x (by simp [d])
   have e:10^(k+1)/10=10^k:=by rw [æ];omega
   have:(c.toNat-48)*10^(k+1)<=9*10^(k+1):=Ý _ (by omega)
   rw [e,æ 10 (k+1)];omega
def fj (k:Nat):O:=Ô k 48
theorem OM: ∀k,cV (fj k)=0
 |0=>rfl
 |k+1=>by
  show cV (48::fj k)=0;rw [sg,OM k];simp
theorem OO: ∀(k:Nat) (l:O),cV ((l++fj (k+1)).take (k+1))=dJ (10^k) l
 |k,[]=>by
  rw [þ,List.take_of_length_le (by simp [fj]),OM]
  rfl
 |0,c::l=>by
  rw [Þ,Ú,dJ];simp [cV,EO]
 |k+1,c::l=>by
  have e:(l++fj (k+2)).take (k+1)=(l++fj (k+1)).take (k+1):=by
   have:fj (k+2)=fj (k+1)++[48]:=List.replicate_succ';rw [this,<-Á,List.take_append_of_le_length (by simp [fj])]
  rw [Þ,Ú,sg,e,OO k l,dJ];have b:((l++fj (k+1)).take (k+1)).length=k+1:=by simp [fj]
  have d:10^(k+1)/10=10^k:=by rw [æ];omega
  rw [b,d]
def jK (s:O) (k:Nat) (neg:Bool):Int×Int:=
 let w:=(s.drop k).takeWhile bz
 let q:=match s.drop (k+w.length)with
  |c::t=>if c.toNat=46 then t.takeWhile bz else []
  | []=>[]
 let x:=cV w*1000000+dJ 100000 q
 if w=[]/\q=[]then(0,0)else if 9000000000000<x then(0,0)else(cond neg (-(x:Int)) x,((k+w.length+(if q=[]then 0 else 1+q.length):Nat):Int))
def mc (s:O):Int×Int:=
 let p:=(s.takeWhile fz).length
 match s.drop p with
 |c::_=>if c.toNat=45 then jK s (p+1) true else if c.toNat=43 then jK s (p+1) false else jK s p false
 | []=>jK s p false
noncomputable def fA (s:O):Int×Bool:=
 if(mc s).2=0 then(0,false)else cond (bo (∀c∈s.drop (mc s).2.toNat,c.toNat=32)) ((mc s).1,true) (0,false)
def PW (l:O) (x:Int):Prop:=0<=x/\x<=90009000000000/\(cV l*1000000<=9000000000000->x=cV l*1000000)/\(9000000000000<cV l*1000000->9000000000000<x)
theorem ZO:PW [] 0:=by simp [PW,cV]
theorem ZP {l:O} {x:Int} (h:PW l x) {c:UInt8} (f:bz c=true):PW (l++[c]) (if x<=9000000000000 then 10*x+((c.toNat:Int)-48)*1000000 else x):=by
 simp only [bz,decide_eq_true_eq]at f;obtain⟨g,i,b,j⟩:=h;unfold PW;rw [ZN];by_cases d:x<=9000000000000
 .rw [if_pos d]
  have:cV l*1000000<=9000000000000:=by
   rcases ĥ 9000000000000 (cV l*1000000)with q|q
   .have:=j q;omega
   .exact q
  have:=b this;refine⟨by omega,by omega,fun _=>by omega,fun _=>by omega⟩
 .rw [if_neg d]
  have:9000000000000<cV l*1000000:=by
   rcases ĥ 9000000000000 (cV l*1000000)with q|q
   .exact q
   .have:=b q;omega
  refine⟨g,i,fun _=>by omega,fun _=>by omega⟩
theorem ER (l:O): ∀c∈l.takeWhile bz,bz c=true:=by
 intro c b;induction l with
 |nil=>cases b
 |cons a l ih=>
  rw [Æ]at b;by_cases e:bz a=true
  .rw [if_pos e]at b
   rcases Î.1 b with rfl|b
   .exact e
   .exact ih b
  .rw [if_neg e]at b;cases b
theorem OP: ∀l:O,cV (l.dropWhile iF)=cV l
 | []=>rfl
 |c::l=>by
  rw [Č];by_cases h:iF c=true
  .rw [if_pos h,OP l,sg]
   simp only [iF,decide_eq_true_eq]at h;rw [h];simp
  .rw [if_neg h]
theorem OQ: ∀l:O,(∀c∈l,bz c=true)->7<(l.dropWhile iF).length->10000000<=cV l
 | [],_,h=>by simp at h
 |c::l,hd,h=>by
  rw [Č]at h;by_cases e:iF c=true
  .rw [if_pos e]at h
   have:=OQ l (fun x b=>hd x (by simp [b])) h
   rw [sg];omega
  .rw [if_neg e]at h
   have d:=hd c (by simp)
   simp only [iF,decide_eq_true_eq]at e;simp only [bz,decide_eq_true_eq]at d;simp only [Å]at h;have f:10^7<=10^l.length:=Nat.pow_le_pow_right (by omega) (by omega)
   have g:1*10^l.length<=(c.toNat-48)*10^l.length:=Ý _ (by omega)
   rw [sg];omega
theorem ZQ (l:O) (h: ∀c∈l,bz c=true): ∀c∈l.dropWhile iF,bz c=true:=fun c b=>h c ((List.dropWhile_sublist _).subset b)
theorem ZR (l:O) (h: ∀c∈l,bz c=true) (k:Nat): ∀c∈(l++fj k).take k,bz c=true:=by
 intro c b;have:=ą b;rcases É.1 this with q|q
 .exact h c q
 .unfold fj at q
  rw [List.eq_of_mem_replicate q];rfl
theorem ZS (w q:O) (hw: ∀c∈w,bz c=true) (d: ∀c∈q,bz c=true):
  ú (([48]++w.dropWhile iF)++(q++fj 6).take 6)=some ((cV w*1000000+dJ 100000 q:Nat):Int):=by
 have f: ∀c∈(([48]++w.dropWhile iF)++(q++fj 6).take 6:O),bz c=true:=by
  intro c g;rcases É.1 g with k|k
  .rcases É.1 k with k|k
   .rw [Õ.1 k];rfl
   .exact ZQ w hw c k
  .exact ZR q d 6 c k
 have b:=OL _ 0 f;have h:cV (([48]++w.dropWhile iF)++(q++fj 6).take 6:O)=cV w*1000000+dJ 100000 q:=by
  rw [EN,EN,OP,OO 5 q];have:((q++fj 6).take 6).length=6:=by simp [fj]
  rw [this];simp [cV]
 rw [h,Ģ,Ĥ]at b;have i:ú (([48]++w.dropWhile iF)++(q++fj 6).take 6)=(ħ (([48]++w.dropWhile iF)++(q++fj 6).take 6)).map fun(m:Nat)=>(m:Int):=rfl
 rw [i];unfold ħ;rw [if_neg (by simp),b]
 rfl
end Go.Ev
namespace Go.Ev
open Go
def Letter (b:UInt8):Prop:=(97<=b.toNat/\b.toNat<=122)\/(65<=b.toNat/\b.toNat<=90)
def yF:List O:=[[66,69,71,73,78],[112,114,105,110,116],[105,102],[101,108,115,101],[119,104,105,108,101],[110,101,120,116],[100,101,108,101,116,101],[78,82],[78,70]]
def iG:List O:=[[108,101,110,103,116,104],[115,117,98,115,116,114],[105,110,100,101,120],[105,110,116],[117,112,112,101,114],[108,111,119,101,114]]
def Key (s:O):Prop:=s∈yF\/s∈iG
def je (s:O):Prop:=(∀b∈s,Letter b)/\1<=s.length/\s.length<=8/\ ¬Key s
def kx (l:List O) (i:Nat):Prop:= ∀h:i<l.length,0<i->Ë (l[i-1]'(by omega)) l[i]=true
def aX (x:Int):Prop:=In x (-9000000000000) 9000000000000
def iH (c k:Int) (s:O) (n vars cells:Int):Prop:=
 (c=1/\aX k/\s=[])\/(c=2/\k=0)\/((c=3\/c=4\/c=5)/\0<=k/\k<vars/\s=[])\/((c=6\/c=7\/c=8\/c=35)/\0<=k/\k<cells/\s=[])\/
 ((c=24\/c=25)/\k=0/\(gN s).2.2.2.2.2=true)\/(c=29/\1<=k/\k<=3/\s∈iG)\/((c=30\/c=31)/\0<=k/\k<=n-1/\s=[])\/(c=33/\0<=k/\k<=1/\s=[])\/
 (1<=c/\c<=36/\c≠1/\c≠2/\c≠3/\c≠4/\c≠5/\c≠6/\c≠7/\c≠8/\c≠35/\c≠24/\c≠25/\c≠29/\c≠30/\c≠31/\c≠33/\k=0/\s=[])
def fB (l:List (Int×Int×O)) (vars cells:Int):Prop:=
 1<=l.length/\l.length<=1500/\(∀h:0<l.length,(l[l.length-1]'(by omega)).1=36)/\ ∀o∈l,iH o.1 o.2.1 o.2.2 l.length vars cells
def jf (vars cells:List O) (start main:List (Int×Int×O)):Prop:=
 (∀s∈vars,je s)/\(∀s∈vars,s∉cells)/\(∀i,i<vars.length->kx vars i)/\(∀s∈cells,je s)/\(∀i,i<cells.length->kx cells i)/\vars.length<=8/\cells.length<=8/\fB start vars.length cells.length/\fB main vars.length cells.length
def gz (k x:Int) (s:O):Prop:=aX x/\s.length<=300/\((k=0/\x=0/\s=[])\/(k=1/\s=[])\/(k=2/\x=0)\/(k=3/\fA s=(x,true)))
def dY (a:Int) (s:O) (b:Int) (t:O):Prop:=a<b\/(a=b/\Ë s t=true)
def oL (l:List (Int×O×Int×Int×O)) (cells:Int) (i:Nat):Prop:=
 ∀h:i<l.length,0<=l[i].1/\l[i].1<cells/\l[i].2.1.length<=300/\gz l[i].2.2.1 l[i].2.2.2.1 l[i].2.2.2.2/\(0<i->dY (l[i-1]'(by omega)).1 (l[i-1]'(by omega)).2.1 l[i].1 l[i].2.1)
def ky (vs:List (Int×Int×O)) (cs:List (Int×O×Int×Int×O)) (nr err vars cells:Int):Prop:=
 (∀v∈vs,gz v.1 v.2.1 v.2.2)/\(∀i,i<cs.length->oL cs cells i)/\(vs.length:Int)=vars/\cs.length<=40/\In nr 0 1000000/\In err 0 7
def nk (vars cells:List O) (start main:List (Int×Int×O)) (vs:List (Int×Int×O)) (cs:List (Int×O×Int×Int×O)) (nr err:Int) (done:List Int) (out:O):Prop:=
 (∀x∈done,In x 0 100000)/\jf vars cells start main/\ky vs cs nr err vars.length cells.length/\done.length=3/\out.length<=1500
def ew (d seq:Int) (s:O):Prop:=(d= -1/\seq=0/\s=[])\/(0<=d/\d<=2/\1<=seq/\seq<=100000/\s.length<=60/\ ∀b∈s,b.toNat≠10)
def me (base term:Int) (l:List (Int×Int×Int×O)):Int×Int:=match l.getLast? with|none=>(base,term)|some e=>(wrap .i64 (base+l.length),e.1)
def oM:Int->List (Int×Int×Int×O)->Prop
 |_,[]=>True
 |t,e::r=>In e.1 t 300/\ew e.2.1 e.2.2.1 e.2.2.2/\oM e.1 r
def oN (base term:Int) (l:List (Int×Int×Int×O)):Prop:=In base 0 300/\In term 0 300/\base+l.length<=300/\oM term l
def uR (vars cells:List O) (start main:List (Int×Int×O)) (tm b base d:Int) (l:List (Int×Int×Int×O)) (vs:List (Int×Int×O)) (cs:List (Int×O×Int×Int×O)) (nr err:Int) (done:List Int) (out:O):Prop:=
 In tm 0 300/\In b (-1) 4/\oN base d l/\(me base d l).2<=tm/\nk vars cells start main vs cs nr err done out
def mf (most:Int) (e:Int×Int×Int×O):Prop:=In e.1 0 most/\ew e.2.1 e.2.2.1 e.2.2.2
def ES (k f t tm b it d:Int) (l:List (Int×Int×Int×O)) (snap:O) (size:Int):Prop:=
 In k 1 5/\In size 1 5/\In f 0 (wrap .i64 (size-1))/\In t 0 (wrap .i64 (size-1))/\f≠t/\In tm 0 300/\In b 0 300/\In it 0 300/\In d 0 300/\(∀e∈l,mf tm e)/\l.length<=40/\snap.length<=30000
end Go.Ev
namespace Go.Ev
open Go
abbrev V:=Int×(Int×O)
abbrev VC:=Int×(O×V)
def bM (v:V):Prop:=gz v.1 v.2.1 v.2.2
def v0:V:=(0,0,[])
def nV (x:Int):V:=(1,x,[])
def tV (s:O):V:=(2,0,s)
def bV (b:Bool):V:=nV (cond b 1000000 0)
noncomputable def aJ (v:V):Int:=cond (v.1==1) v.2.1 (cond (v.1==3) v.2.1 (cond (v.1==2) (mc v.2.2).1 0))
def gO (v:V):Bool:=cond (v.1==1) (v.2.1 !=0) (cond (v.1==3) (v.2.1 !=0) (cond (v.1==2) (!(v.2.2==([]:O))) false))
noncomputable def nn (s:O):V:=cond (fA (s.take 300)).2 (3,(fA (s.take 300)).1,s.take 300) (2,0,s.take 300)
theorem ee {a:Int} (h:aX a): -9000000000000<=a/\a<=9000000000000:=h
theorem fY {a:Int} (h: -9000000000000<=a/\a<=9000000000000):aX a:=h
noncomputable def mg (x:Int):Int×Bool:=cond (bo (aX x)) (x,true) (0,false)
noncomputable def fZ (a b:Int):Int×Bool:=cond (bo (aX a/\aX b)) (mg (a+b)) (0,false)
noncomputable def jg (a b:Int):Int×Bool:=cond (bo (aX a/\aX b)) (mg (a-b)) (0,false)
noncomputable def ib (a b:Int):Int×Bool:=cond (bo (aX a/\aX b/\b≠0)) (mg (Ħ (a*1000000) b)) (0,false)
def ga (a b:Int):Nat:=a.natAbs*b.natAbs/1000000
noncomputable def fO (a b:Int):Int×Bool:=cond (bo (aX a/\aX b/\ga a b<=9000000000000)) (if (a<0↔b<0)then(ga a b:Int)else -(ga a b:Int),true) (0,false)
def jh (a:Int):Int:=a-ù a 1000000
theorem qz:aX 0:=fY (by omega)
theorem sj:bM v0:=⟨qz,by simp [v0],.inl ⟨rfl,rfl,rfl⟩⟩
theorem mh {x:Int} (h:aX x):bM (nV x):=⟨h,by simp [nV],.inr (.inl ⟨rfl,rfl⟩)⟩
theorem sk {s:O} (h:s.length<=300):bM (tV s):=⟨qz,h,.inr (.inr (.inl ⟨rfl,rfl⟩))⟩
theorem uT (b:Bool):bM (bV b):=by
 refine mh (fY ?_)
 cases b<;>simp
theorem uU {x:Int} (h:aX x):mg x=(x,true):=by rw [mg,aA h];rfl
theorem uV {x:Int} (h: ¬aX x):mg x=(0,false):=by rw [mg,ay h];rfl
theorem ET (x:Int):aX (mg x).1:=by
 by_cases h:aX x
 .rw [uU h];exact h
 .rw [uV h];exact fY (by omega)
theorem ZT (a b:Int):aX (fZ a b).1:=by
 unfold fZ;cases bo _
 .exact fY (show _/\_ by simp)
 .exact ET _
theorem ZU (a b:Int):aX (jg a b).1:=by
 unfold jg;cases bo _
 .exact fY (show _/\_ by simp)
 .exact ET _
theorem ZV (a b:Int):aX (ib a b).1:=by
 unfold ib;cases bo _
 .exact fY (show _/\_ by simp)
 .exact ET _
theorem ZW (a b:Int):aX (fO a b).1:=by
 by_cases h:aX a/\aX b/\ga a b<=9000000000000
 .rw [fO,aA h]
  simp only [Y];split
  .exact fY (by omega)
  .exact fY (by omega)
 .rw [fO,ay h];exact fY (by simp)
theorem yG (a:Int): -1000000<ù a 1000000/\ù a 1000000<1000000:=⟨by have:=Int.lt_tmod_of_pos a (show (0:Int)<1000000 by omega);omega,Int.tmod_lt_of_pos a (by omega)⟩
theorem ZX {a:Int} (h:aX a):aX (jh a):=by
 have d:=ee h;have f:=Int.mul_tdiv_add_tmod a 1000000;have g:=yG a;refine fY ?_
 unfold jh;by_cases b:0<=a
 .have:=Ě 1000000 b;omega
 .have:ù a 1000000<=0:=by
   have:=Ě 1000000 (show 0<= -a by omega)
   rw [Int.neg_tmod]at this;omega
  omega
theorem ZY (q w:O) (x:Nat) (e:Int) (neg:Bool):aX (if w=[]/\q=[]then((0:Int),(0:Int))else if 9000000000000<x then(0,0)else(cond neg (-(x:Int)) x,e)).1:=by
 split
 .exact qz
 split
 .exact qz
 .refine fY ?_
  cases neg
  .simp only [ez];omega
  .simp only [Y];omega
theorem yH (s:O) (k:Nat) (neg:Bool):aX (jK s k neg).1:=ZY _ _ _ _ _
theorem OS (s:O):aX (mc s).1:=by
 unfold mc;simp only;split
 .split
  .exact yH _ _ _
  split
  .exact yH _ _ _
  .exact yH _ _ _
 .exact yH _ _ _
theorem ZZ (s:O):aX (fA s).1:=by
 unfold fA;split
 .exact qz
 .cases bo _
  .exact qz
  .exact OS s
theorem jL {v:V} (h:bM v):aX (aJ v):=by
 unfold aJ;cases v.1==1
 .cases v.1==3
  .cases v.1==2
   .exact qz
   .exact OS _
  .exact h.1
 .exact h.1
theorem EU (s:O):bM (nn s):=by
 unfold nn;cases e:(fA (s.take 300)).2
 .exact sk (by simp;omega)
 .refine⟨ZZ _,by simp;omega,.inr (.inr (.inr ⟨rfl, ?_⟩))⟩
  simp only [Y];rw [<-e]
end Go.Ev
namespace Go.Ev
open Go
def jM (s:O):Prop:=s.Pairwise fun a b=>a.toNat<b.toNat
def yI (s:O) (neg:Bool):Prop:=s≠ []/\jM s/\((93:UInt8)∈s-> ∃p q,s=p++([92,93,94]++q))/\(neg=true\/s≠ [94])
def EV (o c:Int) (s:O) (neg:Bool) (k:Nat):Prop:=
 (o=1/\0<=c/\c<=255/\s=[]/\neg=false/\k=0)\/(o=3/\c=0/\yI s neg/\k=0)\/((o=6\/o=7)/\c=0/\s=[]/\neg=false/\2<=k)\/
 ((o=8\/o=9\/o=10)/\c=0/\s=[]/\neg=false/\k=1)\/((o=2\/o=4\/o=5\/o=11)/\c=0/\s=[]/\neg=false/\k=0)
inductive fP:Tr->Prop
 |mk {t:Tr} (h:EV (aF t).1 (aF t).2.1 (aF t).2.2.1 (aF t).2.2.2.1 (dO t).length) (k: ∀x∈dO t,fP x):fP t
def kz (x:Nd):Prop:=EV x.1 x.2.1 x.2.2.1 x.2.2.2.1 x.2.2.2.2.length/\ ∀k∈x.2.2.2.2,fP k
theorem yJ {x:Nd} (h:kz x):fP (cS x):=.mk h.1 h.2
theorem OT {t:Tr} (h:fP t):kz (aF t):=by
 obtain⟨h,k⟩:=h;exact⟨h,k⟩
mutual
def ef:Tr->Nat
 |.mk _ ks=>1+cA ks
def cA:List Tr->Nat
 | []=>0
 |k::r=>ef k+cA r
end
def ji (x:Nd):Nat:=1+cA x.2.2.2.2
theorem uW (x:Nd):ef (cS x)=ji x:=by rw [cS,ef,ji]
theorem OU (t:Tr):ji (aF t)=ef t:=by cases t;rw [ef];rfl
theorem EW (t:Tr):ef t=1+cA (dO t):=by cases t;rw [ef];rfl
theorem OV (l:List Tr) (k:Tr):cA (l++[k])=cA l+ef k:=by
 induction l with
 |nil=>simp [cA]
 |cons a l ih=>rw [Þ,cA,ih,cA];omega
theorem qA (k:Tr):cA [k]=ef k:=by simp [cA]
theorem qB: ∀(k:Nat) (has:List Bool) (lo i:Nat),has.length=256->i<256->(dI has lo k).getD i false=(has.getD i false||(decide (lo<=i)&&decide (i<lo+k)))
 |0,has,lo,i,b,hi=>by
  rw [dI];by_cases h:lo<=i
  .rw [hL (show ¬i<lo+0 by omega)];simp
  .rw [hL h];simp
 |k+1,has,lo,i,b,hi=>by
  rw [dI,qB k _ _ i (by simp [b]) hi]
  by_cases e:lo=i
  .subst e
   simp [b,hi]
  .have d:(has.set lo true).getD i false=has.getD i false:=by
    simp [e]
   rw [d];congr 1
   by_cases h:lo+1<=i
   .rw [hJ h,hJ (show lo<=i by omega)]
    congr 1
    simp only [è,Nat.add_comm 1 k]
   .rw [hL h,hL (show ¬lo<=i by omega)];rfl
def np (has:List Bool):Prop:=has.length=256/\(has.getD 93 false=true->has.getD 92 false=true/\has.getD 94 false=true)
theorem EX {has:List Bool} {lo k:Nat} (h:np has) (d:lo<=93->93<lo+k->lo<=92/\94<lo+k):np (dI has lo k):=by
 refine⟨by rw [kq];exact h.1,fun e=> ?_⟩
 rw [qB k has lo 93 h.1 (by omega)]at e
 rw [qB k has lo 92 h.1 (by omega),qB k has lo 94 h.1 (by omega)]
 rcases Bool.or_eq_true_iff.1 e with e|e
 .obtain⟨a,b⟩:=h.2 e
  rw [a,b];exact⟨rfl,rfl⟩
 .simp only [À,decide_eq_true_eq]at e
  obtain⟨a,b⟩:=d e.1 e.2;rw [hJ a,hJ (show 92<lo+k by omega),hJ (show lo<=94 by omega),hJ b]
  simp
theorem OW {has:List Bool} (lo k i:Nat) (b:has.length=256) (h:has.getD i false=true):(dI has lo k).getD i false=true:=by
 by_cases hi:i<256
 .rw [qB k has lo i b hi,h];rfl
 .rw [î,ā (by omega)]at h;cases h
theorem yK: ∀(n:Nat) (s:O) (has:List Bool) (b:Bool),s.length<=n->(∀c∈s,c.toNat≠93)->np has->(setB s has b).2=false->
  b=false/\np (setB s has b).1/\(∀i,has.getD i false=true->(setB s has b).1.getD i false=true)/\(∀c r,s=c::r->(setB s has b).1.getD c.toNat false=true)
 |n,[],has,b,j,g,m,f=>by
  rw [setB]at f |-;exact⟨f,m,fun i h=>h,fun c r h=>by cases h⟩
 |0,c::r,has,b,j,g,m,f=>by simp at j
 |n+1,lo::t,has,b,j,g,m,f=>by
  have ad:=g lo (by simp)
  have p:lo.toNat<256:=lo.toNat_lt;have h1:np (dI has lo.toNat 1):=EX m (fun a b=>by omega)
  have one:setB (lo::t) has b=setB t (dI has lo.toNat 1) b->b=false/\np (setB (lo::t) has b).1/\(∀i,has.getD i false=true->(setB (lo::t) has b).1.getD i false=true)/\(∀c r,lo::t=c::r->(setB (lo::t) has b).1.getD c.toNat false=true):=fun e=>by
   rw [e]at f |-;obtain⟨q,a2,a3,a4⟩:=yK n t (dI has lo.toNat 1) b (by simpa using j) (fun c h=>g c (by simp [h])) h1 f
   refine⟨q,a2,fun i h=>a3 i (OW _ _ _ m.1 h),fun c r e=> ?_⟩
   obtain⟨rfl, -⟩:=List.cons.inj e;refine a3 _ ?_
   rw [qB 1 has _ _ m.1 p];simp
  match t,j,g,f,one with
  | [],j,g,f,one=>exact one (uQ _ _ _ _ (by simp))
  | [d],j,g,f,one=>exact one (uQ _ _ _ _ (by simp))
  |d::hi::r,j,g,f,one=>
   by_cases hd:d.toNat=45/\hi.toNat≠93
   .rw [EJ _ _ _ _ _ _ hd]at f |-
    have af:=g hi (by simp)
    by_cases u:hi.toNat<lo.toNat
    .have k: ¬(setB r (dI has lo.toNat (hi.toNat+1-lo.toNat)) (b||decide (hi.toNat<lo.toNat))).2=false:=fun f=>by
      have z:np (dI has lo.toNat (hi.toNat+1-lo.toNat)):=EX m (fun a b=>by omega)
      have:=(yK n r _ _ (by simp at j;omega) (fun c h=>g c (by simp [h])) z f).1
      rw [hJ u,Bool.or_true]at this;cases this
     exact absurd f k
    .have z:np (dI has lo.toNat (hi.toNat+1-lo.toNat)):=EX m (fun a b=>by omega)
     obtain⟨q,a2,a3,a4⟩:=yK n r _ _ (by simp at j;omega) (fun c h=>g c (by simp [h])) z f
     refine⟨(Bool.or_eq_false_iff.1 q).1,a2,fun i h=>a3 i (OW _ _ _ m.1 h),fun c r e=> ?_⟩
     obtain⟨rfl, -⟩:=List.cons.inj e;refine a3 _ ?_
     rw [qB _ has _ _ m.1 p,hJ (Ï _),hJ (show lo.toNat<lo.toNat+(hi.toNat+1-lo.toNat) by omega)];simp
   .exact one (EI _ _ _ _ _ _ hd)
theorem yL (has:List Bool): ∀(k:Nat),k<=256-> ∀c:UInt8,c∈bytesOf has k↔c.toNat<k/\has.getD c.toNat false=true
 |0,_,c=>by simp [bytesOf]
 |k+1,hk,c=>by
  rw [bytesOf,É,yL has k (by omega) c]
  have hu:(È k).toNat=k:=by simp;omega
  constructor
  .rintro(⟨f,b⟩|h)
   .exact⟨by omega,b⟩
   .cases e:has.getD k false
    .rw [e]at h;cases h
    .rw [e,Y,Õ]at h
     subst h;rw [hu];exact⟨by omega,e⟩
  .rintro⟨f,b⟩
   by_cases e:c.toNat<k
   .exact .inl ⟨e,b⟩
   .have d:c.toNat=k:=by omega
    rw [d]at b;right
    rw [b,Y,Õ,<-d];simp
theorem OX (has:List Bool): ∀(k:Nat),k<=256->jM (bytesOf has k)
 |0,_=>by simp [bytesOf,jM]
 |k+1,hk=>by
  rw [bytesOf,jM,List.pairwise_append];refine⟨OX has k (by omega), ?_,fun a f b d=> ?_⟩
  .cases has.getD k false<;>simp
  .have:=((yL has k (by omega) a).1 f).1
   cases e:has.getD k false
   .rw [e]at d;cases d
   .rw [e,Y,Õ]at d
    subst d;simp;omega
theorem OY (has:List Bool) (k:Nat): ∀m,∃q,bytesOf has (k+m)=bytesOf has k++q
 |0=>⟨[],by simp⟩
 |m+1=>by
  obtain⟨q,h⟩:=OY has k m;exact⟨q++cond (has.getD (k+m) false) [È (k+m)] [],by rw [<-è,bytesOf,h,Á]⟩
theorem aaA:np dF:=⟨sf,fun h=>absurd h (by decide +kernel)⟩
theorem aaB (s:O):(bJ s).2=false-> ∀c r,(bJ s).1=c::r->c.toNat≠94:=by
 cases s with
 |nil=>intro _ c r h;cases h
 |cons a l=>
  intro h c r e;by_cases k:a.toNat=94
  .rw [bJ,if_pos k]at h;cases h
  .rw [bJ,if_neg k]at e
   cases e;exact k
theorem aaC (s:O) (h:(fL s).2.2=false):kz (fL s).1/\ji (fL s).1=1:=by
 unfold fL at h |-;simp only at h |-;by_cases e:((bJ s).1.takeWhile aK).length=(bJ s).1.length\/(bJ s).1.takeWhile aK=[]
 .rw [if_pos e]at h;cases h
 .rw [if_neg e]at h |-
  refine⟨⟨.inr (.inl ⟨rfl,rfl, ?_,rfl⟩),fun k hk=>by cases hk⟩,rfl⟩
  obtain⟨a1,a2,a3,a4⟩:=yK _ ((bJ s).1.takeWhile aK) dF false (Ï _) (fun c d=>EL _ c d) aaA h
  obtain⟨c,r,b⟩: ∃c r,(bJ s).1.takeWhile aK=c::r:=by
   cases k:(bJ s).1.takeWhile aK with
   |nil=>exact absurd (.inr k) e
   |cons c r=>exact⟨c,r,rfl⟩
  have hm:=(yL _ 256 (by omega) c).2 ⟨c.toNat_lt,a4 c r b⟩
  refine⟨fun k=> ?_,OX _ 256 (by omega),fun f=> ?_, ?_⟩
  .dsimp only at k
   rw [k]at hm;cases hm
  .have j:=((yL _ 256 (by omega) (93:UInt8)).1 f).2
   obtain⟨t,u⟩:=a2.2 j;obtain⟨q,z⟩:=OY (setB ((bJ s).1.takeWhile aK) dF false).1 95 161;refine⟨bytesOf (setB ((bJ s).1.takeWhile aK) dF false).1 92,q, ?_⟩
   rw [z,bytesOf,bytesOf,bytesOf,u,t,show((setB ((bJ s).1.takeWhile aK) dF false).1.getD 93 false)=true from j];simp
  .by_cases m:(bJ s).2=true
   .exact .inl m
   .right
    intro k;dsimp only at k
    rw [k,Õ]at hm;have d:=aaB s (by simpa using m) c
    have: ∃g,(bJ s).1=c::g:=by
     cases p:(bJ s).1 with
     |nil=>rw [p]at b;cases b
     |cons a l=>
      rw [p,Æ]at b;split at b
      .cases b;exact⟨l,rfl⟩
      .cases b
    obtain⟨g,i⟩:=this;exact d g i (by rw [hm];rfl)
theorem yM {o:Int} (h:o=2\/o=4\/o=5\/o=11):kz (leaf o 0):=⟨.inr (.inr (.inr (.inr ⟨h,rfl,rfl,rfl,rfl⟩))),fun k hk=>by cases hk⟩
theorem OZ (d:UInt8):kz (leaf 1 d.toNat):=⟨.inl ⟨rfl,by show(0:Int)<=(d.toNat:Int);omega,by have:=d.toNat_lt;show(d.toNat:Int)<=255;omega,rfl,rfl,rfl⟩,fun k hk=>by cases hk⟩
theorem aaD (c:UInt8) (r:O) (h:(kr c r).2.2=false):kz (kr c r).1/\ji (kr c r).1=1:=by
 unfold kr at h |-;split
 .exact⟨yM (by simp),rfl⟩
 split
 .exact⟨yM (by simp),rfl⟩
 split
 .exact⟨yM (by simp),rfl⟩
 split
 .rename_i b f g i
  rw [if_neg b,if_neg f,if_neg g,if_pos i]at h;exact aaC r h
 split
 .rename_i b f g i j
  rw [if_neg b,if_neg f,if_neg g,if_neg i,if_pos j]at h;cases r with
  |nil=>cases h
  |cons d r=>exact⟨OZ d,rfl⟩
 split
 .rename_i b f g i j k
  rw [if_neg b,if_neg f,if_neg g,if_neg i,if_neg j,if_pos k]at h;cases h
 .exact⟨OZ c,rfl⟩
theorem aaE (x:Nd×O×Bool) (h:(hY x).2.2=false):x.2.2=false/\(hY x).2.1.length+1<=x.2.1.length:=by
 unfold hY at h |-;cases e:eR x.2.1 x.2.2 with
 |none=>rw [e]at h;cases h
 |some d=>
  rw [e]at h;obtain⟨k1,k2⟩:=fN e;simp only at h |-;by_cases hd:d.toNat=41
  .rw [if_pos hd]
   refine⟨k1, ?_⟩
   rw [k2];simp
  .rw [if_neg hd]at h;cases h
theorem Pb {ks:List Tr} (d:ks≠ []) (h: ∀k∈ks,fP k):kz (hU ks)/\ji (hU ks)<=cA ks+1:=by
 match ks,d,h with
 | [k],_,h=>exact⟨OT (h k (by simp)),by rw [hU,OU,qA];omega⟩
 |a::b::r,_,h=>exact⟨⟨.inr (.inr (.inl ⟨.inr rfl,rfl,rfl,rfl,by simp [hU]⟩)),h⟩,by simp only [hU,ji];omega⟩
theorem aaF {ks:List Tr} (h: ∀k∈ks,fP k):kz (gy ks)/\ji (gy ks)<=cA ks+1:=by
 match ks,h with
 | [],_=>exact⟨yM (o:=11) (by simp),by simp [gy,ji,cA]⟩
 | [k],h=>exact⟨OT (h k (by simp)),by rw [gy,OU,qA];omega⟩
 |a::b::r,h=>exact⟨⟨.inr (.inr (.inl ⟨.inl rfl,rfl,rfl,rfl,by simp [gy]⟩)),h⟩,by simp only [gy,ji];omega⟩
def MdR:Md->Prop
 |.fM ks=>ks≠ []/\ ∀k∈ks,fP k
 |.fi ks=> ∀k∈ks,fP k
 |.iE t=>kz t
 |_=>True
def ic:Md->Nat
 |.pat=>10
 |.fM ks=>cA ks+9
 |.part=>9
 |.fi ks=>cA ks+9
 |.piece=>5
 |.iE t=>ji t+8
 |.atom=>5
theorem Pc {ks:List Tr} {x:Nd} (h: ∀k∈ks,fP k) (b:kz x): ∀k∈ks++[cS x],fP k:=fun k hk=>by
 rcases É.1 hk with hk|hk
 .exact h k hk
 .rw [Õ.1 hk];exact yJ b
theorem aaH {c:UInt8} (h:gM c≠0):gM c=8\/gM c=9\/gM c=10:=by
 unfold gM at h |-;repeat' split
 all_goals simp_all
theorem aaI: ∀f md s b r,iP f md s b=some r->s.length<=60->mb md s b->ku md s->MdR md->r.2.2=false->kz r.1/\ji r.1+4*r.2.1.length+8<=4*s.length+ic md:=by
 intro f;induction f with
 |zero=>intro md s b r h;simp [iP]at h
 |succ f ih=>
  intro md s b r h hs m u hR d;cases md with
  |pat=>
   simp only [iP,Ã]at h;obtain⟨x,i,j⟩:=h;obtain⟨a1,a2,a3⟩:=eJ _ _ _ _ _ i hs trivial trivial;simp only [dS]at a2;have g:ku (.fM [cS x.1]) x.2.1:=⟨by simp;omega,by simpa using eZ a1⟩
   have c3:=(eJ _ _ _ _ _ j (by omega) trivial g).2.2
   have hx:x.2.2=false:=by
    cases e:x.2.2
    .rfl
    .rw [c3 e]at d;cases d
   obtain⟨p1,p2⟩:=ih _ _ _ _ i hs trivial trivial trivial hx;obtain⟨q1,q2⟩:=ih _ _ _ _ j (by omega) trivial g ⟨by simp,by simpa using yJ p1⟩ d
   simp only [ic,qA,uW]at p2 q2 |-;exact⟨q1,by omega⟩
  |fM ks=>
   simp only [iP]at h;split at h
   .cases h
    obtain⟨p,q⟩:=Pb hR.1 hR.2;exact⟨p,by simp only [ic];omega⟩
   .rename_i c hn
    obtain⟨rfl,e⟩:=fN hn;have hl:s.length=s.tail.length+1:=by rw [e];simp
    split at h
    .simp only [Ã]at h
     obtain⟨x,i,j⟩:=h;obtain⟨a1,a2,a3⟩:=eJ _ _ _ _ _ i (by omega) trivial trivial
     simp only [dS]at a2;have g:ku (.fM (ks++[cS x.1])) x.2.1:=⟨by have:=u.1;simp;omega,by
      intro k hk;rcases É.1 hk with hk|hk
      .exact u.2 k hk
      .simp at hk;subst hk;exact eZ a1⟩
     have c3:=(eJ _ _ _ _ _ j (by omega) trivial g).2.2
     have hx:x.2.2=false:=by
      cases e:x.2.2
      .rfl
      .rw [c3 e]at d;cases d
     obtain⟨p1,p2⟩:=ih _ _ _ _ i (by omega) trivial trivial trivial hx
     obtain⟨q1,q2⟩:=ih _ _ _ _ j (by omega) trivial g ⟨by simp,Pc hR.2 p1⟩ d
     simp only [ic,OV,uW]at p2 q2 |-;exact⟨q1,by omega⟩
    .cases h
     obtain⟨p,q⟩:=Pb hR.1 hR.2;exact⟨p,by simp only [ic];omega⟩
  |part=>
   simp only [iP]at h;obtain⟨p,q⟩:=ih (.fi []) _ _ _ h hs trivial ⟨by simp;omega,by simp⟩ (fun k hk=>by cases hk) d
   exact⟨p,by simp only [ic,cA]at q |-;omega⟩
  |fi ks=>
   simp only [iP]at h;have stop:kz (gy ks)/\ji (gy ks)+4*s.length+8<=4*s.length+ic (.fi ks):=by
    obtain⟨p,q⟩:=aaF (ks:=ks) hR;exact⟨p,by simp only [ic];omega⟩
   split at h
   .cases h;exact stop
   .rename_i c hn
    obtain⟨rfl,e⟩:=fN hn;split at h
    .cases h;exact stop
    .simp only [Ã]at h
     obtain⟨x,i,j⟩:=h;have z:mb .piece s false:=⟨by rw [e];simp,rfl⟩
     obtain⟨a1,a2,a3⟩:=eJ _ _ _ _ _ i hs z trivial;simp only [dS]at a2;have g:ku (.fi (ks++[cS x.1])) x.2.1:=⟨by have:=u.1;simp;omega,by
      intro k hk;rcases É.1 hk with hk|hk
      .exact u.2 k hk
      .simp at hk;subst hk;exact eZ a1⟩
     have c3:=(eJ _ _ _ _ _ j (by omega) trivial g).2.2
     have hx:x.2.2=false:=by
      cases e:x.2.2
      .rfl
      .rw [c3 e]at d;cases d
     obtain⟨p1,p2⟩:=ih _ _ _ _ i hs z trivial trivial hx;obtain⟨q1,q2⟩:=ih _ _ _ _ j (by omega) trivial g (Pc hR p1) d
     simp only [ic,OV,uW]at p2 q2 |-;exact⟨q1,by omega⟩
  |piece=>
   simp only [iP,Ã]at h;obtain⟨x,i,j⟩:=h;obtain⟨a1,a2,a3⟩:=eJ _ _ _ _ _ i hs m trivial;simp only [dS]at a2;have c3:=(eJ _ _ _ _ _ j (by omega) trivial a1).2.2
   have hx:x.2.2=false:=by
    cases e:x.2.2
    .rfl
    .rw [c3 e]at d;cases d
   obtain⟨p1,p2⟩:=ih _ _ _ _ i hs m trivial trivial hx;obtain⟨q1,q2⟩:=ih _ _ _ _ j (by omega) trivial a1 p1 d
   simp only [ic]at p2 q2 |-;exact⟨q1,by omega⟩
  |iE t=>
   simp only [iP]at h;split at h
   .cases h;exact⟨hR,by simp only [ic];omega⟩
   .rename_i c hn
    obtain⟨rfl,e⟩:=fN hn;have hl:s.length=s.tail.length+1:=by rw [e];simp
    split at h
    .cases h;exact⟨hR,by simp only [ic];omega⟩
    .rename_i al
     obtain⟨q1,q2⟩:=ih _ _ _ _ h (by omega) trivial ⟨by simp,by simpa using eZ u⟩ ⟨.inr (.inr (.inr (.inl ⟨aaH al,rfl,rfl,rfl,rfl⟩))),by simpa using yJ hR⟩ d
     simp only [ic,ji,qA,uW]at q2 |-;exact⟨q1,by omega⟩
  |atom=>
   obtain⟨ao,rfl⟩:=m;cases s with
   |nil=>exact absurd rfl ao
   |cons c rr=>
    simp only [Å]at hs;simp only [iP]at h;split at h
    .simp only [Ã]at h
     obtain⟨x,i,j⟩:=h;cases j;obtain⟨e1,e2⟩:=aaE x d;obtain⟨p1,p2⟩:=ih _ _ _ _ i (by omega) trivial trivial trivial e1
     rw [(OK x).1];simp only [ic,Å]at p2 |-;exact⟨p1,by omega⟩
    .cases h
     obtain⟨e1,e2⟩:=aaD c rr d;have e3:=(OJ c rr).2;rw [e2];simp only [ic,Å];exact⟨e1,by omega⟩
end Go.Ev
namespace Go.Ev
open Go
abbrev Pl:=Int×(Int×O×Bool×Int×Int)
def eh (p:Pl) (k:Int) (b e:Bool):List Int:=
 if p.1=6 then [p.2.2.2.2.1]else if p.1=7 then [p.2.2.2.2.1,p.2.2.2.2.2]else if p.1=4 then cond b [k+1] []else if p.1=5 then cond e [k+1] []else []
theorem aaJ (p:Pl) (k:Int) (b e:Bool):(eh p k b e).length<=2:=by
 unfold eh;repeat' split
 .simp
 .simp
 .cases b<;>simp
 .cases e<;>simp
 .simp
inductive kZ (l:List Pl) (at0:List Int) (b e:Bool):Nat->Prop
 |base {i:Nat} (h:(i:Int)∈at0) (hi:i<l.length):kZ l at0 b e i
 |step {k j:Nat} (hk:kZ l at0 b e k) (h:k<l.length) (hj:(j:Int)∈eh l[k] k b e) (cj:j<l.length):kZ l at0 b e j
noncomputable def fQ (l:List Pl) (at0:List Int) (b e:Bool):List Int:=((ý l.length).filter fun i=>bo (kZ l at0 b e i)).map Int.ofNat
theorem Pd {l:List Pl} {at0:List Int} {b e:Bool} {x:Int}:x∈fQ l at0 b e↔ ∃i:Nat,x=(i:Int)/\i<l.length/\kZ l at0 b e i:=by
 unfold fQ;simp only [List.mem_map,List.mem_filter,å,lY];constructor
 .rintro⟨i,⟨d,f⟩,rfl⟩;exact⟨i,rfl,d,f⟩
 .rintro⟨i,rfl,d,f⟩;exact⟨i,⟨d,f⟩,rfl⟩
theorem EY (l:List Pl) (at0:List Int) (b e:Bool):(fQ l at0 b e).Pairwise fun x y=>x<y:=by
 unfold fQ;rw [List.pairwise_map];refine List.Pairwise.filter _ (List.pairwise_lt_range.imp fun h=> ?_)
 exact Int.ofNat_lt.2 h
theorem aaK (l:List Pl) (at0:List Int) (b e:Bool):(fQ l at0 b e).length<=l.length:=by
 unfold fQ;rw [List.length_map];have:=List.length_filter_le (fun i=>bo (kZ l at0 b e i)) (ý l.length)
 rwa [List.length_range]at this
theorem aaL {l:List Pl} {at0:List Int} {b e:Bool} {out:List Int} (g:out.Nodup) (hm: ∀x,x∈out↔x∈fQ l at0 b e):jJ out=fQ l at0 b e:=by
 unfold jJ;have hp:(out.mergeSort fun a b=>decide (a<=b)).Perm (fQ l at0 b e):=(List.mergeSort_perm _ _).trans ((List.perm_ext_iff_of_nodup g ((EY l at0 b e).imp fun h=>by omega)).2 hm)
 refine List.Perm.eq_of_pairwise (le:=fun x y:Int=>x<=y) (fun a b _ _ d f=>Int.le_antisymm d f) ?_ ((EY l at0 b e).imp fun h=>by omega) hp
 refine(List.pairwise_mergeSort (le:=fun a b:Int=>decide (a<=b)) (fun a b c d f=> ?_) (fun a b=> ?_) out).imp fun h=> ?_
 .simp only [decide_eq_true_eq]at d f |-;omega
 .simp only [Ā,decide_eq_true_eq];omega
 .simpa using h
theorem Pe {l:List Pl} {at0:List Int} {b e:Bool} {M:Nat->Prop} (d: ∀i,i<l.length->M i->kZ l at0 b e i) (f: ∀i:Nat,(i:Int)∈at0->i<l.length->M i)
  (g: ∀k,(h:k<l.length)->M k-> ∀j:Nat,(j:Int)∈eh l[k] k b e->j<l.length->M j) {i:Nat} (hi:i<l.length):M i↔kZ l at0 b e i:=by
 refine⟨d i hi,fun h=> ?_⟩
 clear hi;induction h with
 |base h hi=>exact f _ h hi
 |step hk h hj cj ih=>exact g _ h ih _ hj cj
end Go.Ev
namespace Go.Ev
open Go
theorem Pf: ∀s t u:O,Ë s t=true->Ë t u=true->Ë s u=true
 |_,t,[],_,h=>by
  rw [show Ë t []=false by cases t<;>rfl]at h
  cases h
 | [],_,c::u,_,_=>by simp [Ë]
 |a::s,[],c::u,h,_=>by simp [Ë]at h
 |a::s,b::t,c::u,h,k=>by
  rw [Ë]at h k |-;simp only [Ā,À,decide_eq_true_eq,beq_iff_eq,Ă]at h k |-;rcases h with h|⟨rfl,h⟩<;>rcases k with k|⟨rfl,k⟩
  .left;omega
  .left;exact h
  .left;exact k
  .right;exact⟨rfl,Pf s t u h k⟩
theorem Pg: ∀s t:O,Ë s t=true\/s=t\/Ë t s=true
 | [],[]=>.inr (.inl rfl)
 | [],b::t=>.inl (by simp [Ë])
 |a::s,[]=>.inr (.inr (by simp [Ë]))
 |a::s,b::t=>by
  rw [Ë,Ë];simp only [Ā,À,decide_eq_true_eq,beq_iff_eq,Ă,List.cons.injEq];by_cases e:a=b
  .subst e
   rcases Pg s t with h|rfl|h
   .exact .inl (.inr ⟨rfl,h⟩)
   .exact .inr (.inl ⟨rfl,rfl⟩)
   .exact .inr (.inr (.inr ⟨rfl,h⟩))
  .have:a.toNat≠b.toNat:=fun k=>e (ę.1 k)
   by_cases l:a.toNat<b.toNat
   .exact .inl (.inl l)
   .exact .inr (.inr (.inl (by omega)))
theorem EZ {a:Int} {s:O} {b:Int} {t:O} {c:Int} {u:O} (h:dY a s b t) (k:dY b t c u):dY a s c u:=by
 rcases h with h|⟨f,d⟩<;>rcases k with k|⟨k1,k2⟩
 .exact .inl (by omega)
 .exact .inl (by omega)
 .exact .inl (by omega)
 .exact .inr ⟨by omega,Pf s t u d k2⟩
theorem aaM (a:Int) (s:O) (b:Int) (t:O):dY a s b t\/(a=b/\s=t)\/dY b t a s:=by
 by_cases h:a<b
 .exact .inl (.inl h)
 by_cases k:b<a
 .exact .inr (.inr (.inl k))
 rcases Pg s t with q|q|q
 .exact .inl (.inr ⟨by omega,q⟩)
 .exact .inr (.inl ⟨by omega,q⟩)
 .exact .inr (.inr (.inr ⟨by omega,q⟩))
def CW (cells:Int) (c:VC):Prop:=0<=c.1/\c.1<cells/\c.2.1.length<=300/\bM c.2.2
def CL (a b:VC):Prop:=dY a.1 a.2.1 b.1 b.2.1
theorem Ph {α:Type} {R:α->α->Prop} (g: ∀a b c,R a b->R b c->R a c): ∀ {l:List α},(∀i (h:i<l.length),(k:0<i)->R (l[i-1]'(by omega)) l[i])->l.Pairwise R
 | [],_=>List.Pairwise.nil
 | [a],_=>List.pairwise_singleton R a
 |a::b::l,h=>by
  have ih:(b::l).Pairwise R:=Ph g fun i hi k=>by
   have:=h (i+1) (by simp at hi |-;omega) (by omega)
   obtain⟨j,rfl⟩: ∃j,i=j+1:=⟨i-1,by omega⟩
   simpa using this
  have d:R a b:=h 1 (by simp) (by omega)
  rw [Đ];refine⟨fun c f=> ?_,ih⟩
  rcases Î.1 f with rfl|f
  .exact d
  .exact g _ _ _ d ((Đ.1 ih).1 c f)
theorem yN {cs:List VC} {cells:Int}:(∀i,i<cs.length->oL cs cells i)↔(∀c∈cs,CW cells c)/\cs.Pairwise CL:=by
 constructor
 .intro h
  refine⟨fun c g=> ?_,Ph (R:=CL) (fun a b c h k=>EZ h k) fun i hi f=>(h i hi hi).2.2.2.2 f⟩
  obtain⟨j,hj,rfl⟩:=Ö.1 g;obtain⟨a,b,c,d, -⟩:=h j hj hj;exact⟨a,b,c,d⟩
 .rintro⟨m,p⟩ i hi q
  obtain⟨a,b,c,d⟩:=m _ (ß hi);exact⟨a,b,c,d,fun f=>List.pairwise_iff_getElem.1 p (i-1) i (by omega) hi (by omega)⟩
end Go.Ev
namespace Go.Ev
theorem Fa {α b:Type} {P:b->Prop} {f:b->α->b}: ∀(l:List α) (s:b),P s->(∀s,∀x∈l,P s->P (f s x))->P (l.foldl f s)
 | [],_,h,_=>h
 |x::l,s,h,k=>Fa l (f s x) (k s x (by simp) h) fun s y hy=>k s y (by simp [hy])
theorem Pj {α d t:Type} {l:List α} (hl:l.length<=1048576) (f:d->α->d) (P:d->Prop) {b:d} (u:P b) (z: ∀s,∀x∈l,P s->P (f s x)) {r:d->t} {L:Nat->Nat->Int->d->Option t}
  (k: ∀s,P s-> ∀(i:Nat) (hi:i<l.length),W fun n=> ∀m,L n (m+1) (i:Int) s=L n m (wrap .i64 ((i:Int)+(1:Int))) (f s l[i]))
  (he: ∀n m s,L n (m+1) (l.length:Int) s=some (r s)):W fun n=>L n n 0 b=some (r (l.foldl f b)):=by
 have q: ∀i,P ((l.take i).foldl f b):=fun i=>Fa (l.take i) b u fun s x k=>z s x (ą k)
 have g:W fun n=> ∀i∈ý l.length,∀(hi:i<l.length) m,L n (m+1) (i:Int) ((l.take i).foldl f b)=L n m (wrap .i64 ((i:Int)+(1:Int))) (f ((l.take i).foldl f b) l[i]):=
  W.all (p:=fun i n=> ∀(hi:i<l.length) m,L n (m+1) (i:Int) ((l.take i).foldl f b)=L n m (wrap .i64 ((i:Int)+(1:Int))) (f ((l.take i).foldl f b) l[i])) (ý l.length) fun i hi=>(k _ (q i) i (å.1 hi)).mono fun n h _ m=>h m
 have:=jI (len:=l.length) (L:=fun n m i s=>L n m (i:Int) s) (fun i s=>s=(l.take i).foldl f b) (fun x=>x=r (l.foldl f b)) ?_ ?_
 .exact this.mono fun n h=>by
   obtain⟨x,h1,h2⟩:=h b rfl;rw [<-h2];exact h1
 .refine g.mono fun n h m i s hi j=>.inr ⟨f s l[i], ?_, ?_⟩
  .subst j
   rw [<-dq hi (by omega)]
   exact h i (å.2 hi) hi m
  .subst j
   rw [Ù hi,ó];rfl
 .exact W.of fun n m s j=>⟨_,he n m s,by rw [j,ö]⟩
theorem Fb {α k:Type} {l:List α} (u:l.length<=1048576) {f:α->List UInt8} {B:Nat} (p: ∀x∈l,(f x).length<=B) {init:List UInt8} (hi:init.length+l.length*B<=4000000) {r:List UInt8->k} {L:Nat->Nat->Int->List UInt8->Option k}
  (q:W fun n=> ∀(i:Nat) (hi:i<l.length) acc m,acc.length+(f l[i]).length<=4000000->L n (m+1) (i:Int) acc=L n m (wrap .i64 ((i:Int)+(1:Int))) (acc++f l[i]))
  (he: ∀n m acc,L n (m+1) (l.length:Int) acc=some (r acc)):W fun n=>L n n 0 init=some (r (init++l.flatMap f)):=by
 have hlen: ∀i,i<=l.length->(init++(l.take i).flatMap f).length<=init.length+i*B:=by
  intro i;induction i with
  |zero=>simp
  |succ i ih=>
   intro b;have:=ih (by omega)
   rw [Ù (by omega),ê,<-Á,ď,á]
   simp only [ä,List.flatMap_nil,ÿ];have:=p l[i] (ß (by omega))
   omega
 have:=jI (len:=l.length) (L:=fun n m i s=>L n m (i:Int) s) (fun i s=>i<=l.length/\s=init++(l.take i).flatMap f) (fun x=>x=r (init++l.flatMap f)) ?_ ?_
 .exact this.mono fun n h=>by
   obtain⟨x,g,j⟩:=h init ⟨by omega,by simp⟩
   rw [<-j];exact g
 .refine q.mono fun n h m i s b ⟨g,d⟩=>.inr ⟨s++f l[i], ?_,b, ?_⟩
  .rw [<-dq b (by omega)]
   refine h i b s m ?_
   have j:=hlen i g;rw [<-d]at j;have z:=p l[i] (ß b);have t:(i+1)*B<=l.length*B:=Ý B (by omega)
   rw [á]at t;omega
  .subst d
   rw [Ù b,ê,<-Á];simp
 .refine W.of fun n m s ⟨_,d⟩=>⟨_,he n m s, ?_⟩
  rw [d,ö]
theorem Pk {β γ:Type} {a b:Nat} (j:a<=500000) (p:b<=1048576) {q:Nat->Prop} {r:γ} {bb:β} {L:Nat->Nat->Int->Option (Sum β γ)}
  (d:W fun n=> ∀m (i:Nat),a<=i->i<b->L n (m+1) (i:Int)=cond (bo (q i)) (L n m (wrap .i64 ((i:Int)+(1:Int)))) (some (.inr r)))
  (he: ∀n m (i:Nat),a<=i->b<=i->L n (m+1) (i:Int)=some (.inl bb)):W fun n=>L n n (a:Int)=some (cond (bo (∀i,a<=i->i<b->q i)) (.inl bb) (.inr r)):=by
 have k:=iD (len:=b-a) (by omega) (q:=fun i=>q (a+i)) (r:=r) (b:=bb) (L:=fun n m i=>L n m ((a:Int)+i)) (d.mono fun n h m i hi=>by
  have:=h m (a+i) (by omega) (by omega)
  have f:((a+i:Nat):Int)=(a:Int)+(i:Int):=by omega
  have g:wrap .i64 (((a+i:Nat):Int)+1)=(a:Int)+wrap .i64 ((i:Int)+1):=by rw [Ì,Ì];omega
  rw [g,f]at this;exact this) (fun n m=>by
  have:=he n m (a+(b-a)) (by omega) (by omega)
  rw [<-this];have e:(a:Int)+((b-a:Nat):Int)=((a+(b-a):Nat):Int):=by omega
  show L n (m+1) ((a:Int)+((b-a:Nat):Int))=_;rw [e])
 refine k.mono fun n e=> ?_
 have e:L n n ((a:Int)+0)=_:=e;rw [Int.add_zero]at e;rw [e,show(∀i,i<b-a->q (a+i))=(∀i,a<=i->i<b->q i)from propext ⟨fun h i s t=>by have:=h (i-a) (by omega);rwa [show a+(i-a)=i by omega]at this,fun h i hi=>h (a+i) (by omega) (by omega)⟩]
end Go.Ev
namespace Go.Ev
open Go
def fa (n:Nat):O:=if n<=127 then [È n]else È (n%128+128)::fa (n/128)
termination_by n
decreasing_by omega
theorem oO {n:Nat} (h:n<=127):fa n=[È n]:=by rw [fa,if_pos h]
theorem sn {n:Nat} (h: ¬n<=127):fa n=È (n%128+128)::fa (n/128):=by rw [fa,if_neg h]
theorem yO {a b:Nat} (d:a<256) (f:b<256) (h:È a=È b):a=b:=by
 have:=congrArg UInt8.toNat h;simp only [UInt8.toNat_ofNat']at this;omega
theorem yP: ∀(a b:Nat) (s t:O),fa a++s=fa b++t->a=b/\s=t:=by
 intro a;induction a using ė with
 |ind a ih=>
  intro b s t h;by_cases g:a<=127<;>by_cases i:b<=127
  .rw [oO g,oO i]at h
   injection h with d f
   exact⟨yO (by omega) (by omega) d,f⟩
  .rw [oO g,sn i]at h
   injection h with d f
   have:=yO (by omega) (by omega) d
   omega
  .rw [sn g,oO i]at h
   injection h with d f
   have:=yO (by omega) (by omega) d
   omega
  .rw [sn g,sn i]at h
   injection h with d f
   have:=yO (by omega) (by omega) d
   obtain⟨k1,k2⟩:=ih (a/128) (by omega) (b/128) s t f
   exact⟨by omega,k2⟩
theorem Pm: ∀(k n:Nat),n<128^(k+1)->(fa n).length<=k+1
 |0,n,h=>by
  rw [oO (by omega)];simp
 |k+1,n,h=>by
  by_cases b:n<=127
  .rw [oO b];simp
  .rw [sn b]
   have:n/128<128^(k+1):=by
    rw [Nat.div_lt_iff_lt_mul (by omega)]
    rw [æ]at h;exact h
   have:=Pm k (n/128) this;simp only [Å];omega
theorem so {n:Nat} (h:n<=4611686018427387903):(fa n).length<=9:=Pm 8 n (by
 have:(128:Nat)^(8+1)=9223372036854775808:=by decide +kernel
 omega)
def oP {α:Type} (P:α->Prop) (f:α->O):Prop:= ∀a b,P a->P b-> ∀s t,f a++s=f b++t->a=b/\s=t
def gA (x:Int):O:=fa x.toNat
def oQ (x:Int):O:=if x<0 then fa (-2*x-1).toNat else fa (2*x).toNat
def kA (s:O):O:=fa s.length++s
def jN (v:V):O:=(gA v.1++oQ v.2.1)++kA v.2.2
def kC (c:VC):O:=(gA c.1++kA c.2.1)++jN c.2.2
theorem uX:oP (fun x:Int=>0<=x) gA:=fun a b d f s t h=>by
 obtain⟨k1,k2⟩:=yP _ _ s t h;exact⟨by omega,k2⟩
theorem aaN:oP (fun _:Int=>True) oQ:=fun a b _ _ s t h=>by
 unfold oQ at h;split at h<;>split at h
 all_goals
  obtain⟨k1,k2⟩:=yP _ _ s t h;exact⟨by omega,k2⟩
theorem Fe:oP (fun _:O=>True) kA:=fun a b _ _ s t h=>by
 unfold kA at h;rw [Á,Á]at h;obtain⟨k1,k2⟩:=yP _ _ _ _ h;exact List.append_inj k2 k1
theorem Pn:oP (fun v:V=>0<=v.1) jN:=fun a b d f s t h=>by
 obtain⟨g,a2,a3⟩:=a;obtain⟨i,j,m⟩:=b;unfold jN at h;rw [Á,Á,Á,Á]at h;have k:=uX _ _ d f _ _ h;clear h;obtain⟨rfl,h⟩:=k;have k:=aaN _ _ trivial trivial _ _ h;clear h;obtain⟨rfl,h⟩:=k;have k:=Fe _ _ trivial trivial _ _ h;clear h;obtain⟨rfl,h⟩:=k;exact⟨rfl,h⟩
theorem aaO:oP (fun c:VC=>0<=c.1/\0<=c.2.2.1) kC:=fun a b d f s t h=>by
 obtain⟨g,a2,a3⟩:=a;obtain⟨i,j,m⟩:=b;unfold kC at h;rw [Á,Á,Á,Á]at h;have k:=uX _ _ d.1 f.1 _ _ h;clear h;obtain⟨rfl,h⟩:=k;have k:=Fe _ _ trivial trivial _ _ h;clear h;obtain⟨rfl,h⟩:=k;have k:=Pn _ _ d.2 f.2 _ _ h;clear h;obtain⟨rfl,h⟩:=k;exact⟨rfl,h⟩
theorem Ff {α:Type} {P:α->Prop} {f:α->O} (g:oP P f): ∀(l m:List α),(∀x∈l,P x)->(∀x∈m,P x)->l.length=m.length-> ∀s t,l.flatMap f++s=m.flatMap f++t->l=m/\s=t
 | [],[],_,_,_,s,t,h=>⟨rfl,h⟩
 | [],_::_,_,_,e,_,_,_=>by simp at e
 |_::_,[],_,_,e,_,_,_=>by simp at e
 |a::l,b::m,i,hm,e,s,t,h=>by
  rw [ä,ä,Á,Á]at h;have k:=g _ _ (i a (by simp)) (hm b (by simp)) _ _ h
  clear h;obtain⟨rfl,h⟩:=k;have k:=Ff g l m (fun x d=>i x (by simp [d])) (fun x d=>hm x (by simp [d])) (by simpa using e) _ _ h
  clear h;obtain⟨rfl,h⟩:=k;exact⟨rfl,h⟩
def nq {α:Type} (f:α->O) (l:List α):O:=fa l.length++l.flatMap f
theorem Po {α:Type} {P:α->Prop} {f:α->O} (b:oP P f):oP (fun l=> ∀x∈l,P x) (nq f):=fun l m d hm s t h=>by
 unfold nq at h;rw [Á,Á]at h;obtain⟨k1,k2⟩:=yP _ _ _ _ h;exact Ff b l m d hm k1 s t k2
def Fg (vs:List V) (cs:List VC) (nr er:Int):O:=((nq jN vs++nq kC cs)++gA nr)++gA er
def qC (vs:List V) (cs:List VC) (nr er:Int) (dn:List Int) (out:O):O:=(Fg vs cs nr er++dn.flatMap gA)++kA out
theorem aaP {vs f:List V} {cs g:List VC} {nr er i j:Int} {dn b:List Int} {out d:O} (t: ∀v∈vs,0<=v.1) (m: ∀v∈f,0<=v.1) (u: ∀c∈cs,0<=c.1/\0<=c.2.2.1) (p: ∀c∈g,0<=c.1/\0<=c.2.2.1) (z:0<=nr) (q:0<=i) (h4:0<=er) (r:0<=j) (h5: ∀x∈dn,0<=x) (s: ∀x∈b,0<=x) (hl:dn.length=b.length)
  (h:qC vs cs nr er dn out=qC f g i j b d):vs=f/\cs=g/\nr=i/\er=j/\dn=b/\out=d:=by
 unfold qC Fg at h;simp only [Á]at h;have k:=Po Pn _ _ t m _ _ h;clear h;obtain⟨rfl,h⟩:=k;have k:=Po aaO _ _ u p _ _ h;clear h;obtain⟨rfl,h⟩:=k;have k:=uX _ _ z q _ _ h;clear h;obtain⟨rfl,h⟩:=k;have k:=uX _ _ h4 r _ _ h;clear h;obtain⟨rfl,h⟩:=k;have k:=Ff uX dn b h5 s hl _ _ h;clear h;obtain⟨rfl,h⟩:=k;have h:kA out++[]=kA d++[]:=by rw [h]
 have k:=Fe _ _ trivial trivial _ _ h;clear h;obtain⟨rfl, -⟩:=k;exact⟨rfl,rfl,rfl,rfl,rfl,rfl⟩
end Go.Ev
namespace Go.Ev
open Go
def oR (P:Program):Nat->List FuncId->Nat->List FuncId->List FuncId
 |0,_,_,seen=>seen.reverse
 |_+1,[],_,seen=>seen.reverse
 |n+1,f::todo,m,seen=>cond (Ć m f) (oR P n todo m seen)
  (match m |||1 <<<f with
   |0=>oR P n ((P.funcs[f]?).elim [] P.leadsTo++todo) 0 (f::seen)
   |k+1=>oR P n ((P.funcs[f]?).elim [] P.leadsTo++todo) (k+1) (f::seen))
theorem yQ {P:Program}: ∀(n:Nat) (todo:List FuncId) (m:Nat) (seen:List FuncId),(∀g:Nat,ğ seen g=Ć m g)->P.closureVia n todo seen=oR P n todo m seen
 |0,_,_,_,_=>by simp [ï,oR]
 |n+1,[],_,_,_=>by simp [ï,oR]
 |n+1,f::todo,m,seen,h=>by
  simp only [ï,oR];rw [h f];cases d:Ć m f with
  |true=>simp only [if_true,Y];exact yQ n todo m seen h
  |false=>
   simp only [Í,if_false,ez];have k: ∀g:Nat,ğ (f::seen) g=Ć (m |||1 <<<f) g:=by
    intro g;rw [List.contains_cons,h g,Nat.testBit_or,Nat.one_shiftLeft,Nat.testBit_two_pow];by_cases e:g=f
    .subst e;simp
    .have b: ¬f=g:=fun x=>e x.symm
     simp [e,b]
   generalize m |||1 <<<f=q at k
   cases q with
   |zero=>exact yQ n _ 0 _ k
   |succ q=>exact yQ n _ (q+1) _ k
def ns (P:Program) (f:FuncId):List FuncId:=oR P (1+(P.funcs.toList.map fun g=>(P.leadsTo g).length+1).sum) [f] 0 []
theorem sr (P:Program) (f:FuncId):P.closure f=ns P f:=yQ _ _ _ _ fun g=>by simp
def uY (P:Program) (f:FuncId):Bool:=(ns P f).any fun g=>(P.funcs[g]?).any fun fn=>match fn.body with|some c=>c.unfollowed|none=>entryCalls fn
theorem yR (P:Program) (f:FuncId):P.unfollowed f=uY P f:=by
 unfold Ĩ uY;rw [sr];rfl
def Fh (P:Program) (f:FuncId):Bool:=((ns P f).any fun g=>(P.funcs[g]?).any Func.goes)||(uY P f&&P.funcs.any Func.goes)
theorem aaQ (P:Program) (f:FuncId):P.goes f=Fh P f:=by
 unfold į Fh;rw [sr,yR]
def Fi (P:Program) (f:FuncId):Bool:=uY P f||(ns P f).any fun g=>((P.funcs[g]?).elim [] P.leadsTo).any fun h=>(ns P h).contains g
theorem aaR (P:Program) (f:FuncId):P.recurses f=Fi P f:=by
 unfold ĭ Fi;rw [yR,sr];simp only [sr]
def Fj (P:Program) (f:FuncId):List String:=(ns P f).filterMap fun g=>(P.funcs[g]?).bind fun fn=>if fn.ours||fn.body.isNone||fn.name== "runtime.NumGoroutine" then some fn.name else none
theorem aaS (P:Program) (f:FuncId):P.inPlace f=Fj P f:=by
 unfold Į Fj;rw [sr]
def Fk (P:Program) (f:FuncId):List String:=
 ((((ns P f).flatMap fun g=>((P.funcs[g]?).bind (·.body)).elim [] Code.globalsNamed).eraseDups).filterMap (fun g=>(P.globals[g]?).map (·.name))++
  (ns P f).filterMap fun g=>(P.funcs[g]?).bind fun fn=>if fn.body.isNone then entryReads.lookup fn.name else none).eraseDups
theorem aaT (P:Program) (f:FuncId):P.varsNamed f=Fk P f:=by
 unfold Ī Fk;rw [sr]
end Go.Ev
