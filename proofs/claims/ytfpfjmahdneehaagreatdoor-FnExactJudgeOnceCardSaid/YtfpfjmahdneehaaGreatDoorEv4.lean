/- A verified evaluator of the machine's code, part 4: no program in sight. -/
import Derived.Test.YtfpfjmahdneehaaGreatDoorEv3
import Derived.ChangeKeysEq
import Derived.ChangeArms
import Derived.WideShapes
import Derived.Carry
import Derived.Below
import Derived.IntWalk
import Derived.Lib.ItoaLen
import Derived.Lib.LaidTab
import Derived.Sort.Grow
import Derived.Deep.Draws
import Derived.Lib.Bytealg
import Derived.Lib.Strings
import Derived.Lib.AtoiErrMem
import Derived.Lib.AtoiBound
import Derived.Lib.Atoi
import GoSem.ClaimGoes
import Derived.KernelRfl
open Bool renaming and_eq_true->À,false_eq_true->Ê,not_eq_true'->ê,or_eq_true->ú,and_true->ć,not_true->Ė,false_or->ė
open Nat renaming eq_of_beq_eq_true->Á,le_refl->Ì,beq->Ï,ble->Þ,le_of_ble_eq_true->à,add_assoc->á,mul_le_mul_right->â,not_lt_zero->ã,pow_succ->ä,add_mul->ë,zero_le->þ,testBit->Ā,mul_assoc->ę,zero_mul->ĝ,mul_comm->Ğ,zero_add->ğ,lt_or_ge->Ġ
open Option renaming bind_eq_some_iff->Â
open List renaming getElem?_eq_getElem->Ã,length_cons->Ä,takeWhile_cons->Å,mem_append->Ç,mem_cons->Ë,map_cons->Ð,getElem?_take->Ò,replicate->Ó,mem_singleton->Ô,mem_iff_getElem->Õ,length->Ö,take_succ_cons->Ø,map_nil->Ù,cons_append->Û,getElem?_append_left->Ü,mem_range->ß,getElem?_append_right->æ,getD_eq_getElem?_getD->è,getElem?_set->ì,foldl_append->î,getElem?_cons_zero->ð,getElem?_replicate->ñ,getElem_mem->ô,append_eq_nil_iff->õ,sum_replicate_nat->ö,range->ø,nil_append->ù,getElem?_eq_none->û,drop_drop->ý,mem_of_mem_take->ÿ,drop_succ_cons->ă,length_flatMap->Ą,map_congr_left->ą,dropWhile_cons->Ć,getElem?_drop->Ĉ,pairwise_cons->ĉ,ext_getElem?->Ċ,append_assoc->ċ,isEmpty_iff->Č,take_length->č,map_const'->Đ,append_nil->đ,isPrefixOf->ē,take_add->Ę,contains->Ě,isEmpty->Ĝ
open Go.Lib renaming compareBytes->Æ,indexByte->È,itoa->ç,decDigits->ï,atoi->ó,TabIs->Ă,decFrom->ď,pow10Tab->ě,decNat->Ģ
open Go.Op renaming bytesLess->É,eqFields->Ď
open UInt8 renaming ofNat->Í,lt_iff_toNat_lt->ü,toNat_inj->Ĕ
open Option.some renaming injEq->Î,inj->Ú
open Go.IntKind renaming wrap_i64->Ñ,wrap_u8->Ē
open Classical renaming propDecidable->Ý
open Array renaming getElem?_eq_some_iff->å
open Go.Program renaming closureVia->é,unfollowed->ģ,varsNamed->ĥ,plainKey->Ħ,fieldsOf->ħ,recurses->Ĩ,inPlace->ĩ,goes->Ī
open Sum renaming inl->í,inr->Ĥ
open Int renaming tmod->ò,toNat->ā,tmod_nonneg->ĕ,tdiv->ġ
open Go.IntKind
namespace Go.Ev
def rD (t:TypeId):List (TypeId×TyI)->Option TyI
 | []=>none
 |(a,i)::r=>cond (Ï a t) (some i) (rD t r)
def rE (P:Program):List Field->List (Nat×TypeId)->Bool
 | [],[]=>true
 |f::fs,(off,t)::r=>Ï f.offset off&&(Ï f.type t&&((match P.info? t with|some inf=> !(Ï inf.size 0)|none=>false)&&rE P fs r))
 |_,_=>false
def DB (P:Program) (t:TypeId):U->Bool
 |.bool=>match P.underlying t with|some .bool=>true|_=>false
 |.int k=>match P.underlying t with|some (.int k')=>decide (k'=k)|_=>false
 |.str=>match P.underlying t with|some .string=>true|_=>false
 |.slice e=>match P.underlying t with|some (.slice b)=>Ï b e|_=>false
 |.struct fs=>match P.underlying t with|some (.struct fields)=>rE P fields.toList fs|_=>false
 |.ptr=>match P.underlying t with|some (.pointer _)=>true|_=>false
 |.func=>match P.underlying t with|some (.func _ _ _)=>true|_=>false
 |.iface=>match P.underlying t with|some (.interface _)=>true|_=>false
 |.other=>false
def MI (u:U) (z:Value):Bool:=match u,z with
 |.struct _,.agg _=>true
 |.struct _,_=>false
 |_,z=>cC z
def MJ (P:Program) (t:TypeId) (i:TyI):Bool:=match P.info? t with
 |some inf=>Ï inf.size i.size&&(Ï inf.bytes i.bytes&&(match inf.zero with|some z=>nW i.zero z.cells.toList&&MI i.u z|none=>false))
 |none=>false
def MK (P:Program) (e:TypeId) (c:CT):Bool:=match P.info? e with
 |some inf=>Ï inf.size (ak c).size&&(Þ inf.bytes 1024&&((match inf.zero with|some z=>kF (ak c) z.cells.toList|none=>false)&&
   (match ak c with|.one (.int .u8)=>(match P.underlying e with|some (.int .u8)=>true|_=>false)|_=>true)))
 |none=>false
def ML (P:Program) (i:TyI):Bool:=match i.bz,i.u with
 |some (.one c),.slice e=> !bM c||MK P e c
 |_,_=>true
def ew:List CT->List Cell->Bool
 | [],[]=>true
 |c::cs,x::xs=>mG c x&&ew cs xs
 |_,_=>false
theorem MM: ∀(ts:aR) (xs:List Cell),kE ts xs=ew ts.list xs
 |.one c,[x]=>by simp [kE,aR.list,ew]
 |.one c,[]=>by simp [kE,aR.list,ew]
 |.one c,_::_::_=>by simp [kE,aR.list,ew]
 |.cons c cs,[]=>by simp [kE,aR.list,ew]
 |.cons c cs,x::xs=>by simp only [kE,aR.list,ew,MM cs xs]
theorem MN: ∀bs:List Bool,nL bs=bs.all id
 | []=>rfl
 | [b]=>by simp [nL]
 |b::c::bs=>by
  rw [nL,MN (c::bs)]
  .rfl
  .simp
def ub (P:Program) (rec:TypeId->List CT->Bool):Nat->List Field->List CT->Bool
 |_,[],cs=>cs.isEmpty
 |off,f::fs,cs=>Ï f.offset off&&(f.name != "_" &&(match P.info? f.type with
  |some i=>rec f.type (cs.take i.size)&&ub P rec (off+i.size) fs (cs.drop i.size)
  |none=>false))
def mN (P:Program):Nat->TypeId->List CT->Bool
 |0,_,_=>false
 |n+1,t,cs=>match P.underlying t with
  |some .bool=>(match cs with| [.bool]=>true|_=>false)
  |some (.int _)=>(match cs with| [.int _]=>true|_=>false)
  |some .string=>(match cs with| [.str]=>true|_=>false)
  |some (.struct fields)=> !P.stoodInHeld t&&ub P (mN P n) 0 fields.toList cs
  |_=>false
def DC (P:Program) (t:TypeId) (i:TyI):Bool:=
 !i.eq||(match i.bz,P.underlying t with|some ts,some (.struct _)=> !P.eqGuardType P.depth t&&mN P 20 t ts.list|_,_=>false)
def xN (P:Program) (H:Heap) (R:Nat->Prop) (st:St) (θ:Asg) (t:TypeId) (xs:List Cell) (v:Value):Prop:=
 ((∃fs,P.underlying t=some (.struct fs))/\ ∃arr,v=.agg arr/\aI H R st θ xs arr.toList)\/((∀fs,P.underlying t≠some (.struct fs))/\ ∃x,xs=[x]/\ax H R st θ x v)
theorem aI.len {H:Heap} {R:Nat->Prop} {st:St} {θ:Asg}: ∀ {xs:List Cell} {vs:List Value},aI H R st θ xs vs->vs.length=xs.length
 | [],_,h=>by simp only [aI]at h;subst h;rfl
 |x::xs,vs,h=>by
  simp only [aI]at h;obtain⟨v,r,rfl, -,h⟩:=h;simp [aI.len h]
theorem aI.cut {H:Heap} {R:Nat->Prop} {st:St} {θ:Asg}: ∀ {xs:List Cell} {vs:List Value} (k:Nat),aI H R st θ xs vs->aI H R st θ (xs.take k) (vs.take k)/\aI H R st θ (xs.drop k) (vs.drop k)
 |xs,vs,0,h=>by simpa [aI]using h
 | [],vs,k+1,h=>by simp only [aI]at h;subst h;simp [aI]
 |x::xs,vs,k+1,h=>by
  simp only [aI]at h;obtain⟨v,r,rfl,d,b⟩:=h;simp only [Ø,ă,aI];exact⟨⟨v,_,rfl,d,(aI.cut k b).1⟩,(aI.cut k b).2⟩
theorem qb: ∀ {cs:List CT} {xs:List Cell} (k:Nat),ew cs xs=true->ew (cs.take k) (xs.take k)=true/\ew (cs.drop k) (xs.drop k)=true
 |cs,xs,0,h=>by simpa [ew]using h
 | [],[],k+1,h=>by simp [ew]
 | [],_::_,k+1,h=>by simp [ew]at h
 |_::_,[],k+1,h=>by simp [ew]at h
 |c::cs,x::xs,k+1,h=>by
  simp only [ew,À]at h;simp only [Ø,ă,ew,À];exact⟨⟨h.1,(qb k h.2).1⟩,(qb k h.2).2⟩
theorem MO: ∀ {xs d:List Cell} {bs:List Bool} (k:Nat),eU xs d=some bs-> ∃f g,bs=f++g/\eU (xs.take k) (d.take k)=some f/\eU (xs.drop k) (d.drop k)=some g
 |xs,d,bs,0,h=>⟨[],bs,rfl,by simp [eU],by simpa using h⟩
 | [],[],bs,k+1,h=>by simp only [eU,Î]at h;subst h;exact⟨[],[],rfl,by simp [eU],by simp [eU]⟩
 | [],_::_,bs,k+1,h=>by simp [eU]at h
 |_::_,[],bs,k+1,h=>by simp [eU]at h
 |x::xs,y::d,bs,k+1,h=>by
  simp only [eU]at h;cases e:tA x y with
  |none=>rw [e]at h;cases h
  |some b=>
   cases i:eU xs d with
   |none=>rw [e,i]at h;cases h
   |some c=>
    rw [e,i]at h;cases h;obtain⟨f,g,j,m,p⟩:=MO k i;exact⟨b::f,g,by rw [j];rfl,by simp [eU,e,m],by simpa using p⟩
theorem MP {P:Program} {t:TypeId} {i:TypeInfo} (hi:P.info? t=some i) {H:Heap} {R:Nat->Prop} {st:St} {θ:Asg} {vs:Array Value} {off:Nat} {xs:List Cell} {n:Nat} {cs:List CT} (f:mN P n t (cs.take i.size)=true)
  (s:ew cs xs=true) (h:aI H R st θ xs (vs.toList.drop off)) (w:World): ∃v,(part t vs off).run P w=.ok v w/\xN P H R st θ t (xs.take i.size) v:=by
 have j:=(h.cut i.size).1;have b:=(qb i.size s).1;cases n with
 |zero=>simp [mN]at f
 |succ n=>
  have basic:(∀fs,P.underlying t≠some (.struct fs))->P.plainKey t=true->(∃c,cs.take i.size=[c])-> ∃v,(part t vs off).run P w=.ok v w/\xN P H R st θ t (xs.take i.size) v:=by
   rintro m hp ⟨c,p⟩
   rw [p]at b;obtain⟨x,q⟩: ∃x,xs.take i.size=[x]:=by
    match hq:xs.take i.size,b with
    | [x],_=>exact⟨x,rfl⟩
    | [],b=>simp [ew]at b
    |_::_::_,b=>simp [ew]at b
   rw [q]at j;simp only [aI]at j;obtain⟨v,r,e,u,rfl⟩:=j;have z:vs[off]? =some v:=by
    rw [<-Array.getElem?_toList]
    have k:=congrArg (·[0]?) e
    simp only [ð,Ò,Ĉ,Nat.add_zero]at k
    split at k
    .exact k
    .cases k
   exact⟨v,run_part_plain w hp z,.inr ⟨m,x,q,u.1⟩⟩
  have g: ∀d,P.underlying t=some d->(match d with|.bool|.int _|.string=>true|_=>false)=true->P.plainKey t=true:=fun d hd hm=>by
   unfold Ħ;rw [hd];cases d<;>simp_all
  unfold mN at f;split at f
  .rename_i hu
   split at f
   .rename_i e;exact basic (by rw [hu];simp) (g _ hu rfl) ⟨_,e⟩
   .cases f
  .rename_i hu
   split at f
   .rename_i e;exact basic (by rw [hu];simp) (g _ hu rfl) ⟨_,e⟩
   .cases f
  .rename_i hu
   split at f
   .rename_i e;exact basic (by rw [hu];simp) (g _ hu rfl) ⟨_,e⟩
   .cases f
  .rename_i fields hu
   refine⟨.agg (vs.extract off (off+i.size)), ?_,.inl ⟨⟨fields,hu⟩,_,rfl, ?_⟩⟩
   .simp [part,isAgg,run_underlying hu,sizeOf,run_typeInfo w hi]
   .have e:(vs.extract off (off+i.size)).toList=(vs.toList.drop off).take i.size:=by
     rw [Array.toList_extract];simp [List.extract]
    rw [e];exact j
  .cases f
theorem MQ {P:Program} {H:Heap} {R:Nat->Prop} {st:St} {θ:Asg} {w:World}: ∀(n:Nat) (t:TypeId) (cs:List CT),mN P n t cs=true-> ∀(d:Nat),n<=d-> ∀(v u:Value) (xs j:List Cell) (bs:List Bool),
  ew cs xs=true->ew cs j=true->eU xs j=some bs->xN P H R st θ t xs v->xN P H R st θ t j u->(Op.equalIn d t v u).run P w=.ok (bs.all id) w
 |0,_,_,h,_,_,_,_,_,_,_,_,_,_,_,_=>by simp [mN]at h
 |n+1,t,cs,h,d,hd,v,u,xs,j,bs,g,hy,k,rx,b=>by
  obtain⟨d,rfl⟩: ∃d',d=d'+1:=⟨d-1,by omega⟩
  unfold mN at h;split at h
  .rename_i hu
   split at h
   .rcases rx with⟨⟨fs,e⟩, -⟩|⟨-,x,rfl,rx⟩
    .rw [hu]at e;cases e
    rcases b with⟨⟨fs,e⟩, -⟩|⟨-,y,rfl,b⟩
    .rw [hu]at e;cases e
    simp only [ew,ć]at g hy;cases x<;>simp only [mG,Ê]at g
    cases y<;>simp only [mG,Ê]at hy
    simp only [eU,tA,Î]at k;simp only [ax]at rx b;rw [rx,b,<-k,run_equalIn_bool' w d _ _ _ hu];simp
   .cases h
  .rename_i hu
   split at h
   .rcases rx with⟨⟨fs,e⟩, -⟩|⟨-,x,rfl,rx⟩
    .rw [hu]at e;cases e
    rcases b with⟨⟨fs,e⟩, -⟩|⟨-,y,rfl,b⟩
    .rw [hu]at e;cases e
    simp only [ew,ć]at g hy;cases x<;>simp only [mG,Ê]at g
    cases y<;>simp only [mG,Ê]at hy
    have g:=of_decide_eq_true g;have hy:=of_decide_eq_true hy;subst g;subst hy;simp only [eU,tA,decide_true,Y,Î]at k;simp only [ax]at rx b;rw [rx.1,b.1,<-k,run_equalIn_int w d _ _ _ _ _ hu];simp
   .cases h
  .rename_i hu
   split at h
   .rcases rx with⟨⟨fs,e⟩, -⟩|⟨-,x,rfl,rx⟩
    .rw [hu]at e;cases e
    rcases b with⟨⟨fs,e⟩, -⟩|⟨-,y,rfl,b⟩
    .rw [hu]at e;cases e
    simp only [ew,ć]at g hy;cases x<;>simp only [mG,Ê]at g
    cases y<;>simp only [mG,Ê]at hy
    simp only [eU,tA,Î]at k;simp only [ax]at rx b;rw [rx.1,b.1,<-k,run_equalIn_string w d _ _ _ hu,ByteArray.toList_eq,ByteArray.toList_eq];simp
   .cases h
  .rename_i fields hu
   simp only [À,ê]at h;obtain⟨r,s⟩:=h;have z: ∃arr,v=.agg arr/\aI H R st θ xs arr.toList:=by
    rcases rx with⟨-,h⟩|⟨e, -⟩
    .exact h
    .exact absurd hu (e _)
   have ad: ∃arr,u=.agg arr/\aI H R st θ j arr.toList:=by
    rcases b with⟨-,h⟩|⟨e, -⟩
    .exact h
    .exact absurd hu (e _)
   clear rx b;obtain⟨vs,rfl,rx⟩:=z;obtain⟨us,rfl,b⟩:=ad;have p:P.fieldsOf t=fields:=by unfold ħ;rw [hu]
   rw [run_equalIn_struct w d t vs us (by rw [p];exact hu) r,p]
   have key: ∀(fs:List Field) (off:Nat) (cs:List CT) (xs j:List Cell) (bs:List Bool),ub P (mN P n) off fs cs=true->ew cs xs=true->ew cs j=true->eU xs j=some bs->
     aI H R st θ xs (vs.toList.drop off)->aI H R st θ j (us.toList.drop off)->(Ď d vs us fs).run P w=.ok (bs.all id) w:=by
    intro fs;induction fs with
    |nil=>
     intro off cs xs j bs q g hy k _ _;simp only [ub,Č]at q;subst q;cases xs with
     |cons _ _=>simp [ew]at g
     |nil=>
      cases j with
      |cons _ _=>simp [ew]at hy
      |nil=>simp only [eU,Î]at k;subst k;simp [Ď]
    |cons f fs ih=>
     intro off cs xs j bs q g hy k rx b;simp only [ub,À,bne_iff_ne,ne_eq]at q;obtain⟨h1,h2,m⟩:=q;split at m
     .rename_i i hi
      simp only [À]at m;have h1:=Á h1;obtain⟨v,pv,rv⟩:=MP hi m.1 g rx w;obtain⟨u,pu,ru⟩:=MP hi m.1 hy b w;obtain⟨b1,b2,rfl,e1,e2⟩:=MO i.size k;have k1:=MQ (w:=w) n f.type _ m.1 d (by omega) v u _ _ b1 (qb i.size g).1 (qb i.size hy).1 e1 rv ru
      have dr: ∀zs:Array Value,(zs.toList.drop off).drop i.size=zs.toList.drop (off+i.size):=fun zs=>by rw [ý]
      have k2:=ih (off+i.size) _ _ _ b2 m.2 (qb i.size g).2 (qb i.size hy).2 e2 (by rw [<-dr];exact(rx.cut i.size).2) (by rw [<-dr];exact(b.cut i.size).2)
      rw [<-h1]at pv pu;simp only [Ď,if_pos h2,Sem.run_bind,pv,Result.andThen_ok,pu,k1,List.all_append];cases b1.all id
      .simp
      .simp [k2]
     .cases m
   exact key fields.toList 0 cs xs j bs s g hy k (by simpa using rx) (by simpa using b)
  .cases h
theorem XZ {P:Program} {t:TypeId} {i:TyI} (h:DC P t i=true) (he:i.eq=true) (ts:aR) (b:i.bz=some ts):Li P t ts:=by
 unfold DC at h;rw [he,b]at h;simp only [Ė,ė]at h;split at h
 .rename_i fields g d
  cases g;simp only [À,ê]at h;obtain⟨j,k⟩:=h;refine⟨j,fun xs m vs us bs w H R st θ f hy p rx q=> ?_⟩
  rw [MM]at f hy;rw [Op.equal,MN];exact MQ 20 t _ k _ (by unfold Op.maxDepth;omega) _ _ xs m bs f hy p (.inl ⟨⟨_,d⟩,vs,rfl,rx⟩) (.inl ⟨⟨_,d⟩,us,rfl,q⟩)
 .cases h
def DD (P:Program) (t:TypeId) (i:TyI):Bool:=
 MJ P t i&&(DB P t i.u&&(ML P i&&((match i.u with|.struct _=>true|_=>Ï i.size 1)&&DC P t i)))
theorem MR {P:Program}: ∀ {fs:List Field} {r:List (Nat×TypeId)},rE P fs r=true->fs.length=r.length/\ ∀(i off:Nat) (t:TypeId),r[i]? =some (off,t)-> ∃f:Field,fs[i]? =some f/\f.offset=off/\f.type=t/\ ∃inf,P.info? t=some inf/\inf.size≠0
 | [],[],_=>⟨rfl,by simp⟩
 | [],_::_,h=>by simp [rE]at h
 |_::_,[],h=>by simp [rE]at h
 |f::fs,(off,t)::r,h=>by
  simp only [rE,À]at h;obtain⟨g,j,d,k⟩:=h;obtain⟨k1,k2⟩:=MR k;refine⟨by simp [k1],fun i o u hi=> ?_⟩
  cases i with
  |zero=>
   simp only [ð,Î,Prod.mk.injEq]at hi
   obtain⟨rfl,rfl⟩:=hi;refine⟨f,rfl,Á g,Á j, ?_⟩
   split at d
   .rename_i inf b
    exact⟨inf,b,fun e=>by rw [e]at d;simp at d⟩
   .cases d
  |succ i=>exact k2 i o u (by simpa using hi)
theorem Ya {P:Program} {t:TypeId} {u:U} (h:DB P t u=true):lG P t u:=by
 cases u<;>simp only [DB]at h<;>simp only [lG]
 case bool=>split at h<;>simp_all
 case int k=>split at h<;>simp_all
 case str=>split at h<;>simp_all
 case slice e=>
  split at h
  .rename_i m he;rw [he,Á h]
  .cases h
 case struct fs=>
  split at h
  .rename_i fields d
   obtain⟨g,j⟩:=MR h;refine⟨fields,d,by simpa using g,fun i off t hi=> ?_⟩
   obtain⟨f,k1,k2⟩:=j i off t hi;exact⟨f,by simpa using k1,k2⟩
  .cases h
 case ptr=>
  split at h
  .rename_i e he;exact⟨e,he⟩
  .cases h
 case func=>
  split at h
  .rename_i a b c he;exact⟨a,b,c,he⟩
  .cases h
 case iface=>
  split at h
  .rename_i e he;exact⟨e,he⟩
  .cases h
 case other=>cases h
theorem Yb {P:Program} {T:TypeId->Option TyI} {t:TypeId} {i:TyI} (h:DD P t i=true):nX P T t i:=by
 simp only [DD,À]at h;obtain⟨f,q,d,p,r⟩:=h;refine⟨?_,Ya q,fun c s hs e he=> ?_, ?_,fun he ts j=>XZ r he ts j⟩
 .unfold MJ at f
  split at f
  .rename_i inf b
   simp only [À]at f;obtain⟨k1,k2,k3⟩:=f;split at k3
   .rename_i z m
    simp only [À]at k3;refine⟨inf,z,b,Á k1,Á k2,m,k3.1, ?_⟩
    have k:=k3.2;unfold MI at k;cases hu:i.u<;>rw [hu]at k<;>cases z<;>simp_all
   .cases k3
  .cases f
 .unfold ML at d
  rw [s,he]at d;simp only [hs,Ė,ė]at d;unfold MK at d;split at d
  .rename_i inf b
   simp only [À]at d;obtain⟨k1,k2,k3,g⟩:=d;split at k3
   .rename_i z m
    refine⟨inf,z,b,Á k1,à k2,m,k3, ?_⟩
    split
    .rename_i heq
     rw [heq]at g;simp only at g;split at g
     .assumption
     .cases g
    .trivial
   .cases k3
  .cases d
 .split
  .trivial
  .split at p
   .rename_i h _ _ hh;exact absurd hh (h _)
   .exact Á p
def uc (P:Program):List (TypeId×TyI)->Bool
 | []=>true
 |(t,i)::r=>DD P t i&&uc P r
theorem MS {P:Program} {T:TypeId->Option TyI} {t:TypeId} {i:TyI}: ∀ {l:List (TypeId×TyI)},uc P l=true->rD t l=some i->nX P T t i
 | [],_,h=>by simp [rD]at h
 |(a,j)::r,h,b=>by
  simp only [uc,À]at h;simp only [rD]at b;cases d:Ï a t with
  |true=>
   rw [d]at b;simp only [Y,Î]at b;subst b;rw [<-Á d];exact Yb h.1
  |false=>rw [d]at b;exact MS h.2 b
end Go.Ev
namespace Go.Ev
def ud:List Entry->Entry->Nat->Entry
 | [],d,_=>d
 |x::_,_,0=>x
 |_::r,d,n+1=>ud r d n
theorem DE {p:Entry->Prop} {d:Entry} (hd:p d): ∀(l:List Entry) (_: ∀x∈l,p x) (e:Nat),p (ud l d e)
 | [],_,_=>hd
 |x::_,h,0=>h x (by simp)
 |_::r,h,n+1=>DE hd r (fun x b=>h x (by simp [b])) n
def MU (f:FuncId):List (FuncId×List Nat)->List Nat
 | []=>[]
 |(a,l)::r=>cond (Ï a f) l (MU f r)
structure xO (P:Program) (E:Entry):Prop where
 entry:jX E=true
 fn:ua E=true
 f:P.funcs[E.f]? =some E.fn
 name:(E.fn.name== "runtime.NumGoroutine")=false
 body:E.fn.body.isNone=false
structure dH (P:Program) (l:List Entry):Prop where
 ok: ∀x∈l,xO P x
theorem dH.nil {P:Program}:dH P []:=⟨by simp⟩
theorem dH.cons {P:Program} {x:Entry} {l:List Entry} (h:xO P x) (b:dH P l):dH P (x::l):=⟨fun y hy=>by
 rcases Ë.1 hy with rfl|hy
 .exact h
 .exact b.ok y hy⟩
theorem Yc {P:Program} {gl:bE} {eM:List (TypeId×TyI)} {l:List Entry} {d:Entry} (b:P.follows .mixedOrders=true) (g:uc P eM=true) (hd:xO P d) (i:dH P l)
  (hp: ∀x∈d::l,∀p,x.bX=some p-> ∀ds r,p ds=some r->cX P gl x ds r):DA P gl (fun t=>rD t eM) (ud l d):=
 have all: ∀e,xO P (ud l d e):=DE hd l i.ok
 ⟨⟨fun _ _ h=>MS g h,b⟩,b,fun e=>(all e).entry,fun e=>(all e).fn,fun e=>(all e).f,fun e=>(all e).name,fun e=>(all e).body,
  fun e=>DE (p:=fun x=> ∀p,x.bX=some p-> ∀ds r,p ds=some r->cX P gl x ds r) (hp d (by simp)) l (fun x j=>hp x (by simp [j])) e⟩
noncomputable def qc:Code->Nat->Code
 |.seq a b,id=>match qc a id with|.skip=>qc b id|c=>c
 |.cond _ a b,id=>match qc a id with|.skip=>qc b id|c=>c
 |.block i (.loop c),id=>cond (Ï i id) c (qc c id)
 |.block _ c,id=>qc c id
 |_,_=>.skip
noncomputable def Yd (T:TypeId->Option TyI) (call:FuncId->List TV->Nat->M TV) (e:Entry) (n id:Nat) (x:cH×cH×List CT) (self:List DV->Option (Sum (bN x.2.2) (bN e.bH))) (ds:List DV):Option (Sum (bN x.2.2) (bN e.bH)):=
 qZ x.1 ds fun st=>eD T call e n (qc (e.fn.body.getD .skip) id) st
  ⟨fun st=>pK x.1 st self,fun i st=>cond (Ï i id) (pK x.2.1 st fun ds=>(eG x.2.2 ds).bind fun x=>some (.inl x)) none,
   fun st=>pO T e ⟨fun _=>none,fun _ _=>none,fun _=>none,fun r=>some (.inr r)⟩ st,fun r=>some (.inr r)⟩
noncomputable def Ye (T:TypeId->Option TyI) (call:FuncId->List TV->Nat->M TV) (e:Entry) (n id:Nat) (x:cH×cH×List CT):Nat->List DV->Option (Sum (bN x.2.2) (bN e.bH)):=
 iter id (Yd T call e n id x)
end Go.Ev
namespace Go.Ev
def Typed:List CT->List DV->Prop
 | [],ds=>ds=[]
 |c::cs,ds=> ∃x b,ds=⟨c,x⟩::b/\Typed cs b
theorem Typed.append: ∀ {cs d:List CT} {ds b:List DV},Typed cs ds->Typed d b->Typed (cs++d) (ds++b)
 | [],_,ds,_,h,f=>by simp only [Typed]at h;subst h;exact f
 |c::cs,d,ds,b,h,f=>by
  simp only [Typed]at h;obtain⟨x,r,rfl,h⟩:=h;exact⟨x,r++b,rfl,Typed.append h f⟩
def aY.fit:aY->Prop
 |.b _=>True
 |.i k n=>k.min<=n/\n<=k.max
 |.s x=>x.length<=maxLen
 |.l sz cs=>0<sz/\cs.length<=maxLen*sz/\fits cs
where fits:List aY->Prop
 | []=>True
 |d::ds=>d.fit/\fits ds
section
variable {H:Heap} {R:Nat→Prop} {own:Bool}
theorem ar.DF: ∀ {ds f:List aY} {vs b:List Value},ar H R own ds vs []->ar H R own f b []->ar H R own (ds++f) (vs++b) []
 | [],_,vs,_,h,i=>by simp only [ar]at h;rw [h.1];exact i
 |d::ds,f,vs,b,h,i=>by
  simp only [ar]at h;obtain⟨v,r,f1,f2,rfl,g,j,k⟩:=h;have g:=(õ.1 g.symm);rw [g.2]at k;rw [g.1]at j;simp only [Û,ar];exact⟨v,r++b,[],[],rfl,rfl,j,ar.DF k i⟩
mutual
theorem aC.fit: ∀ {d:aY} {v:Value} {fp:List Nat},aC H R false d v fp->d.fit
 |.b _,_,_,_=>by simp [aY.fit]
 |.i _ _,_,_,h=>by simp only [aC]at h;simp only [aY.fit];exact h.2.1
 |.s _,_,_,h=>by simp only [aC]at h;simp only [aY.fit];exact h.2.1
 |.l sz cs,_,_,h=>by
  simp only [aC]at h;obtain⟨a,len,cap, -,m,f,j,p,k⟩:=h;simp only [aY.fit];refine⟨m,by rw [f];exact â _ (Nat.le_trans j p), ?_⟩
  rcases k with⟨h, -⟩|⟨-, -,k⟩
  .cases h
  .rcases k with rfl|⟨g,off,cur,ty,frz, -, -, -, -,q⟩
   .simp [aY.fit.fits]
   .exact ar.fits q
theorem ar.fits: ∀ {ds:List aY} {vs:List Value} {fp:List Nat},ar H R false ds vs fp->aY.fit.fits ds
 | [],_,_,_=>by simp [aY.fit.fits]
 |d::ds,_,_,h=>by
  simp only [ar]at h;obtain⟨v,r,f1,f2, -, -,f,j⟩:=h;simp only [aY.fit.fits];exact⟨aC.fit f,ar.fits j⟩
end
end
theorem MV: ∀ {ts:aR} {ds:List DV},Typed ts.list ds-> ∃x:bf ts,bG ts x=ds.map fun d=>enc d.c d.x
 |.one c,ds,h=>by
  simp only [aR.list,Typed]at h;obtain⟨x,r,rfl,rfl⟩:=h;exact⟨x,by simp [bG]⟩
 |.cons c cs,ds,h=>by
  simp only [aR.list,Typed]at h;obtain⟨x,r,rfl,h⟩:=h;obtain⟨y,hy⟩:=MV h;exact⟨(x,y),by simp [bG,hy]⟩
theorem ue: ∀(ts:aR) (x:bf ts),(bG ts x).length=ts.size
 |.one _,_=>rfl
 |.cons _ cs,x=>by simp [bG,aR.size,ue cs x.2]
def iz (S:List (TypeId×List CT)) (t:TypeId) (bz:List CT):Bool:=S.any fun p=>Ï p.1 t&&mO p.2 bz
where mO:List CT->List CT->Bool
 | [],[]=>true
 |a::as,b::bs=>CT.beq a b&&mO as bs
 |_,_=>false
theorem uf: ∀ {a b:List CT},iz.mO a b=true->a=b
 | [],[],_=>rfl
 | [],_::_,h=>by simp [iz.mO]at h
 |_::_,[],h=>by simp [iz.mO]at h
 |a::as,b::bs,h=>by
  simp only [iz.mO,À]at h;rw [CT.eq_of_beq _ _ h.1,uf h.2]
theorem DG {S:List (TypeId×List CT)} {t:TypeId} {bz:List CT} (h:iz S t bz=true):(t,bz)∈S:=by
 simp only [iz,List.any_eq_true,À]at h;obtain⟨p,hp,b,d⟩:=h;have f:=Á b;have g:=uf d;rw [<-f,<-g];exact hp
def ug (S:List (TypeId×List CT)) (P:Program):Nat->List Field->List CT->Bool
 |_,[],bz=>bz.isEmpty
 |off,f::fs,bz=>Ï f.offset off&&(Þ (P.cellsOf f.type) bz.length&&(iz S f.type (bz.take (P.cellsOf f.type))&&ug S P (off+P.cellsOf f.type) fs (bz.drop (P.cellsOf f.type))))
def xP (S:List (TypeId×List CT)) (P:Program) (t:TypeId) (bz:List CT):Bool:=
 match P.underlying t with
 |some .bool=>iz.mO bz [.bool]
 |some (.int k)=>iz.mO bz [.int k]
 |some .string=>iz.mO bz [.str]
 |some (.slice e)=>match bz with
  | [.sl ts]=>iz S e ts.list&&Ï (P.cellsOf e) ts.size
  |_=>false
 |some (.struct fs)=>ug S P 0 fs.toList bz&&Ï (P.cellsOf t) bz.length
 |_=>false
def om (S:List (TypeId×List CT)) (P:Program):List (TypeId×List CT)->Bool
 | []=>true
 |(t,bz)::r=>xP S P t bz&&om S P r
theorem MW {S:List (TypeId×List CT)} {P:Program}: ∀ {l:List (TypeId×List CT)},om S P l=true-> ∀p∈l,xP S P p.1 p.2=true
 | [],_,p,hp=>by cases hp
 |(t,bz)::r,h,p,hp=>by
  simp only [om,À]at h;rcases Ë.1 hp with rfl|hp
  .exact h.1
  .exact MW h.2 p hp
theorem size_pos: ∀(ts:aR),0<ts.size
 |.one _=>Nat.one_pos
 |.cons _ _=>Nat.succ_pos _
section
variable {E:Type} {en:TypeId×Value→E} {P:Program} {w:World} {sp:Nat→Bool} {held:Bool} {S:List (TypeId×List CT)}
def lL (w:World) (b:Nat):Prop:=b<w.heap.size
def Reads (w:World) (bz:List CT) (cs:List Value):Prop:= ∃ds,Typed bz ds/\ar (hp w) (lL w) false (ds.map fun d=>enc d.c d.x) cs []
theorem MX {n:Nat} (g: ∀t bz,(t,bz)∈S-> ∀fuel cs (x:DataW E×List MemPlace),fuel<n->DataW.trod en P w 0 sp held fuel t cs=some x->Reads w bz cs) {fuel:Nat} (k:fuel<n) (all:List Value):
  ∀(fs:List Field) (off:Nat) (bz:List CT) (_:List (DataW E×List MemPlace)),ug S P off fs bz=true->off+bz.length<=all.length->
   (∀f∈fs,∃x,DataW.trod en P w 0 sp held fuel f.type ((all.drop f.offset).take (P.cellsOf f.type))=some x)->Reads w bz ((all.drop off).take bz.length)
 | [],off,bz,xs,h,p,b=>by
  simp only [ug,Č]at h;subst h;exact⟨[],rfl,by simp [ar]⟩
 |f::fs,off,bz,xs,h,p,b=>by
  simp only [ug,À]at h;obtain⟨d,m,q,r⟩:=h;have d:=Á d;have m:=à m;obtain⟨x,s⟩:=b f (by simp)
  obtain⟨ds,k1,k2⟩:=g _ _ (DG q) fuel _ x k s;obtain⟨i,u,z⟩:=MX g k all fs (off+P.cellsOf f.type) (bz.drop (P.cellsOf f.type)) xs r (by simp;omega) (fun f' j=>b f' (by simp [j]))
  refine⟨ds++i, ?_, ?_⟩
  .have:=k1.append u
   rwa [List.take_append_drop]at this
  .rw [List.map_append]
   rw [d]at k2;have e:(all.drop off).take bz.length=(all.drop off).take (P.cellsOf f.type)++(all.drop (off+P.cellsOf f.type)).take (bz.drop (P.cellsOf f.type)).length:=by
    rw [<-ý];conv=>lhs;rw [show bz.length=P.cellsOf f.type+(bz.drop (P.cellsOf f.type)).length from by simp;omega]
    rw [Ę]
   rw [e];exact k2.DF z
theorem MY {a:Addr} {n:Nat} {cs:List Value} (h:w.cells? 0 a n=some cs):cs.length=n/\ ∀j,j<n->w.cell? (a.add j)=cs[j]? :=by
 unfold World.cells? at h;rw [if_pos (þ _)]at h;refine⟨by simpa using mapM_some_length h,fun j hj=>mapM_some_get h j j (by simp [hj])⟩
theorem xQ {g off:Nat} {cur:Array Value} {ty:TypeId} {frz:Nat×Nat} (d:hp w g=some (.cells cur ty frz)) (j:Nat):w.cell? ((⟨g,off,none⟩:Addr).add j)=cur.toList[off+j]? :=by
 have b:w.heap[g]? =some (.cells cur ty frz):=d;unfold Addr.add;split
 .rename_i h;subst h;simp [World.cell?,b]
 .simp [World.cell?,b]
theorem add_add (g off i j:Nat):((⟨g,off,none⟩:Addr).add i).add j=(⟨g,off,none⟩:Addr).add (i+j):=by
 unfold Addr.add;by_cases hi:i=0<;>by_cases hj:j=0<;>simp [hi,hj,á]
theorem DH (hS:om S P S=true): ∀(n:Nat) (t:TypeId) (bz:List CT),(t,bz)∈S-> ∀fuel cs (x:DataW E×List MemPlace),fuel<n->DataW.trod en P w 0 sp held fuel t cs=some x->Reads w bz cs
 |0,_,_,_,_,_,_,hf,_=>absurd hf (ã _)
 |n+1,t,bz,hm,fuel,cs,x,hf,z=>by
  have d:xP S P t bz=true:=MW hS _ hm;unfold xP at d;split at d
  .rename_i hu
   obtain⟨b,rfl, -⟩:=DataW.trod_bool hu z;rw [uf d];exact⟨[⟨.bool,b⟩],⟨b,[],rfl,rfl⟩,by simp only [Ð,Ù,ar,aC,enc];exact⟨_,[],[],[],rfl,rfl,⟨rfl,rfl⟩,rfl,rfl⟩⟩
  .rename_i k hu
   obtain⟨m,rfl, -,hw⟩:=DataW.trod_int hu z;rw [uf d];simp only [Lit.wf,À,decide_eq_true_eq]at hw;refine⟨[⟨.int k,tq k m⟩],⟨_,[],rfl,rfl⟩, ?_⟩
   simp only [Ð,Ù,ar,aC,enc];exact⟨_,[],[],[],rfl,rfl,⟨by rw [tS hw],by rw [tS hw];exact hw,rfl⟩,rfl,rfl⟩
  .rename_i hu
   obtain⟨s,rfl, -,hs⟩:=DataW.trod_string hu z;rw [uf d];refine⟨[⟨.str,s.data.toList⟩],⟨_,[],rfl,rfl⟩, ?_⟩
   simp only [Ð,Ù,ar,aC,enc];exact⟨_,[],[],[],rfl,rfl,⟨rfl,by simpa using hs,rfl⟩,rfl,rfl⟩
  .rename_i e hu
   split at d
   .rename_i ts
    simp only [À]at d;have he:=DG d.1;have al:=Á d.2;have p:=size_pos ts;rcases DataW.trod_slice hu z with⟨rfl, -⟩|⟨a,len,cap,elems,rest,m,rfl,rfl, -, -,af,ag,hlen,ao, -, -⟩
    .exact⟨[⟨.sl ts,[]⟩],⟨_,[],rfl,rfl⟩,by simp only [Ð,Ù,ar,aC,enc];exact⟨_,[],[],[],rfl,rfl,⟨none,0,0,rfl,p,by simp,Ì _,þ _,.inr ⟨trivial,rfl,.inl rfl⟩⟩,rfl,rfl⟩⟩
    .have q: ∀i,i<len-> ∃cs,w.cells? 0 (a.add (i*ts.size)) ts.size=some cs/\Reads w ts.list cs:=fun i hi=>by
      have:=ao i hi;rw [al,Ã (by omega)]at this
      rw [Â]at this;obtain⟨cs,k1,k2⟩:=this;exact⟨cs,k1,DH hS n e _ he m cs _ (by omega) k2⟩
     by_cases h0:len=0
     .subst h0
      refine⟨[⟨.sl ts,[]⟩],⟨_,[],rfl,rfl⟩, ?_⟩
      simp only [Ð,Ù,ar,aC,enc];exact⟨_,[],[],[],rfl,rfl,⟨some a,0,cap,rfl,p,by simp,af,ag,.inr ⟨trivial,rfl,.inl rfl⟩⟩,rfl,rfl⟩
     .obtain⟨cs0,c1, -⟩:=q 0 (by omega)
      obtain⟨l0,g0⟩:=MY c1;have h:=g0 0 p;rw [Ã (by omega)]at h
      have aq:(a.add (0*ts.size)).add 0=a:=by simp [Addr.add]
      rw [aq]at h;obtain⟨g,cur,ty,frz,hg,ad⟩: ∃g cur ty frz,hp w g=some (.cells cur ty frz)/\a=⟨g,a.off,none⟩:=by
       unfold World.cell? at h;split at h
       .rename_i c ty frz hc
        split at h
        .cases h
        .rename_i ad
         refine⟨a.block,c,ty,frz,hc, ?_⟩
         cases a with
         |mk b o s=>
          simp only [Addr.mk.injEq,true_and];cases s with
          |none=>rfl
          |some _=>simp at ad
       .cases h
      obtain⟨off,ah⟩: ∃off,off=a.off:=⟨_,rfl⟩
      rw [<-ah]at ad;subst ad;have ai: ∀i,i<len-> ∃x:bf ts,off+(i+1)*ts.size<=cur.size/\ar (hp w) (lL w) false (bG ts x) ((cur.toList.drop (off+i*ts.size)).take ts.size) []:=fun i hi=>by
       obtain⟨cs,k1,ds,k2,k3⟩:=q i hi;obtain⟨j1,j2⟩:=MY k1;obtain⟨x,z⟩:=MV k2;have r: ∀j,j<ts.size->cur.toList[off+i*ts.size+j]? =cs[j]? :=fun j hj=>by
        rw [<-j2 j hj,add_add,xQ hg,á]
       have u:=r (ts.size-1) (by omega)
       rw [Ã (i:=ts.size-1) (by omega)]at u
       obtain⟨av, -⟩:=List.getElem?_eq_some_iff.1 u
       simp only [Array.length_toList]at av;refine⟨x,by rw [ë];omega, ?_⟩
       have e:(cur.toList.drop (off+i*ts.size)).take ts.size=cs:=by
        apply Ċ
        intro j;by_cases hj:j<ts.size
        .rw [Ò,if_pos hj,Ĉ,r j hj]
        .rw [Ò,if_neg hj,û (by omega)]
       rw [e,z];exact k3
      have aj: ∀k,k<=len-> ∃xs:List (bf ts),xs.length=k/\ar (hp w) (lL w) false (xs.flatMap (bG ts)) ((cur.toList.drop off).take (k*ts.size)) []:=by
       intro k;induction k with
       |zero=>intro _;exact⟨[],rfl,by simp [ar]⟩
       |succ k ih=>
        intro hk;obtain⟨xs,q1,q2⟩:=ih (by omega)
        obtain⟨x,q3,q4⟩:=ai k (by omega)
        refine⟨xs++[x],by simp [q1], ?_⟩
        rw [List.flatMap_append,ë,Nat.one_mul,Ę,ý];exact q2.DF (by simpa using q4)
      obtain⟨xs,q1,q2⟩:=aj len (Ì _);obtain⟨-,hbound, -⟩:=ai (len-1) (by omega)
      rw [show len-1+1=len from by omega]at hbound
      have hlen:((xs.flatMap (bG ts)).length)=len*ts.size:=by
       rw [Ą,ą (g:=fun _=>ts.size) (fun x _=>ue ts x),Đ,ö,q1]
      have aw:g<w.heap.size:=by
       have:w.heap[g]? =some (.cells cur ty frz):=hg;exact(å.1 this).1
      refine⟨[⟨.sl ts,xs⟩],⟨_,[],rfl,rfl⟩, ?_⟩
      simp only [Ð,Ù,ar,aC,enc];exact⟨_,[],[],[],rfl,rfl,⟨_,len,cap,rfl,p,hlen,af,ag,.inr ⟨trivial,rfl,.inr ⟨g,off,cur,ty,frz,rfl,aw,hg,hbound,q2⟩⟩⟩,rfl,rfl⟩
   .cases d
  .rename_i fs hu
   simp only [À]at d;obtain⟨d,h2⟩:=d;have h2:=Á h2;obtain⟨xs,m,rfl, -,hl,a8,hr⟩:=DataW.trod_struct hu z;have:=MX (n:=n) (fun t bz hm fuel cs x hf z=>DH hS n t bz hm fuel cs x hf z) (fuel:=m) (by omega) cs fs.toList 0 bz xs d (by omega) (fun f hf=>by
    obtain⟨i,hi,rfl⟩:=Õ.1 hf;have:=hr i fs.toList[i] (by simp)
    rw [Ã (by simp at hi;omega)]at this
    exact⟨_,this⟩)
   rwa [List.drop_zero,<-h2,<-hl,č]at this
  .cases d
end
end Go.Ev
namespace Go.Ev
open Go.WideShapes Go.RowKit
def lM:CT->CK
 |.bool=>.bool
 |.int k=>.int k
 |.str=>.str
 |c=>.sh c
section
variable {H:Heap} {R:Nat→Prop} {B:Nat→Nat→Prop}
theorem DI {nm:Nat->Nat}: ∀ {bz:List CT} {ds:List DV} {vs:List Value} {j:Nat},Typed bz ds->ar H R false (ds.map fun d=>enc d.c d.x) vs []->bq H R B true [] nm j (bz.map lM) ds vs []
 | [],ds,vs,j,f,h=>by
  simp only [Typed]at f;subst f;simp only [Ù,ar]at h;simp only [Ù,bq];exact⟨trivial,h.1,trivial⟩
 |c::bz,ds,vs,j,f,h=>by
  simp only [Typed]at f;obtain⟨x,r,rfl,f⟩:=f;simp only [Ð,ar]at h;obtain⟨v,g,f1,f2,rfl,i,b,m⟩:=h;obtain⟨rfl,rfl⟩:=õ.1 i.symm;simp only [Ð,bq];refine⟨v,g,[⟨c,x⟩],r,[],[],rfl,rfl,rfl,b.cC, ?_,DI f m⟩
  cases c with
  |bool=>simp only [lM,aq];simp only [enc,aC]at b;exact⟨x,rfl,b.1,trivial⟩
  |int k=>simp only [lM,aq];simp only [enc,aC]at b;exact⟨x,rfl,b.1,b.2.1,trivial⟩
  |str=>simp only [lM,aq];simp only [enc,aC]at b;exact⟨x,rfl,b.1,b.2.1,trivial⟩
  |sl ts=>simp only [lM,aq];exact⟨x,rfl,rfl,b,trivial⟩
  |tree fs=>simp only [lM,aq];exact⟨x,rfl,rfl,b,trivial⟩
end
end Go.Ev
namespace Go.Ev
def W (p:Nat->Prop):Prop:= ∃N,∀n,N<=n->p n
theorem W.of {p:Nat->Prop} (h: ∀n,p n):W p:=⟨0,fun n _=>h n⟩
theorem W.and {p q:Nat->Prop} (h:W p) (k:W q):W fun n=>p n/\q n:=by
 obtain⟨N,h⟩:=h;obtain⟨M,k⟩:=k;exact⟨max N M,fun n b=>⟨h n (by omega),k n (by omega)⟩⟩
theorem W.mono {p q:Nat->Prop} (h:W p) (k: ∀n,p n->q n):W q:=by
 obtain⟨N,h⟩:=h;exact⟨N,fun n b=>k n (h n b)⟩
theorem W.succ {p:Nat->Prop} (h:W fun n=>p (n+1)):W p:=by
 obtain⟨N,h⟩:=h;refine⟨N+1,fun n b=> ?_⟩
 obtain⟨m,rfl⟩: ∃m,n=m+1:=⟨n-1,by omega⟩
 exact h m (by omega)
theorem W.ge (k:Nat):W fun n=>k<=n:=⟨k,fun _ h=>h⟩
theorem W.all {α:Type} {p:α->Nat->Prop}: ∀(l:List α),(∀x∈l,W (p x))->W fun n=> ∀x∈l,p x n
 | [],_=>⟨0,by simp⟩
 |a::l,h=>by
  refine((h a (by simp)).and (W.all l fun x b=>h x (by simp [b]))).mono fun n d x b=> ?_
  rcases Ë.1 b with rfl|b
  .exact d.1
  .exact d.2 x b
theorem W.val {α:Type} {f:Nat->Option α} {v:α} (h:W fun n=>f n=some v): ∃n,f n=some v:=by
 obtain⟨N,h⟩:=h;exact⟨N,h N (Ì _)⟩
theorem jZ {j α:Type} {len:Nat} {L:Nat->Nat->Nat->j->Option α} (inv:Nat->j->Prop) (post:α->Prop)
  (b:W fun n=> ∀m i s,i<len->inv i s->(∃r,L n (m+1) i s=some r/\post r)\/ ∃s',L n (m+1) i s=L n m (i+1) s'/\inv (i+1) s')
  (d:W fun n=> ∀m s,inv len s-> ∃r,L n (m+1) len s=some r/\post r):W fun n=> ∀f,inv 0 f-> ∃r,L n n 0 f=some r/\post r:=by
 refine((b.and d).and (W.ge (len+1))).mono fun n ⟨⟨p,q⟩,u⟩ f t=> ?_
 have key: ∀k i s m,len=i+k->inv i s->k<m-> ∃r,L n m i s=some r/\post r:=by
  intro k;induction k with
  |zero=>
   intro i s m e hi hm;obtain⟨m,rfl⟩: ∃m',m=m'+1:=⟨m-1,by omega⟩
   obtain rfl:len=i:=by omega
   exact q m s hi
  |succ k ih=>
   intro i s m e hi hm;obtain⟨m,rfl⟩: ∃m',m=m'+1:=⟨m-1,by omega⟩
   rcases p m i s (by omega) hi with h|⟨s',h,g⟩
   .exact h
   .rw [h]
    exact ih (i+1) s' m (by omega) g (by omega)
 exact key len 0 f n (by omega) t (by omega)
theorem dy {i len:Nat} (h:i<len) (b:len<=2^40):wrap .i64 ((i:Int)+(1:Int))=((i+1:Nat):Int):=by
 rw [Ñ];omega
def au {α:Type} (l:List α) (i:Int):Option α:=cond (decide (0<=i)) (nth l i.toNat) none
def aM {α:Type} (l:List α) (i:Nat):Option α:=nth l i
theorem bg {α:Type} {l:List α} {i:Nat} (h:i<l.length):au l (i:Int)=some l[i]:=by
 unfold au nth;rw [hJ (by omega)]
 simp [h]
theorem ff {α:Type} {l:List α} {i:Nat} (h:i<l.length):aM l (ā (i:Int))=some l[i]:=by
 unfold aM nth;simp [h]
theorem Yf {α:Type} {a:List α} {d:α} {i:Nat} (h:i<a.length):(a.take i++Ó (a.length-i) d).set i a[i]=a.take (i+1)++Ó (a.length-(i+1)) d:=by
 apply Ċ
 intro j;rw [ì]
 have k:(a.take i).length=i:=by simp;omega
 by_cases e:i=j
 .subst e
  rw [if_pos rfl,if_pos (by simp;omega),Ü (by simp;omega),Ò,if_pos (by omega),Ã h]
 .rw [if_neg e]
  by_cases b:j<i
  .rw [Ü (by simp;omega),Ü (by simp;omega),Ò,Ò,if_pos b,if_pos (by omega)]
  .rw [æ (by omega),æ (by simp;omega),ñ,ñ]
   simp only [List.length_take];have f:min i a.length=i:=by omega
   have g:min (i+1) a.length=i+1:=by omega
   rw [f,g];by_cases m:j<a.length
   .rw [if_pos (by omega),if_pos (by omega)]
   .rw [if_neg (by omega),if_neg (by omega)]
theorem Yg {α:Type} (a:List α) (d:α) {i:Nat} (h:i<=a.length):(a.take i++Ó (a.length-i) d).length=a.length:=by simp;omega
def lim:Nat:=1048576
mutual
def dq:(c:CT)->Interp c->Prop
 |.bool,_=>True
 |.int _,_=>True
 |.str,x=>Ö (α:=UInt8) x<=lim
 |.sl ts,xs=>Ö (α:=bf ts) xs<=lim/\ ∀x∈(xs:List (bf ts)),cp ts x
 |.tree _,_=>False
def cp:(ts:aR)->bf ts->Prop
 |.one c,x=>dq c x
 |.cons c cs,x=>dq c x.1/\cp cs x.2
end
mutual
def dM:(c:CT)->Interp c->Prop
 |.bool,_=>True
 |.int k,x=>k.min<=jt k x/\jt k x<=k.max
 |.str,x=>Ö (α:=UInt8) x<=maxLen
 |.sl ts,xs=>Ö (α:=bf ts) xs<=maxLen/\ ∀x∈(xs:List (bf ts)),fv ts x
 |.tree _,_=>True
def fv:(ts:aR)->bf ts->Prop
 |.one c,x=>dM c x
 |.cons c cs,x=>dM c x.1/\fv cs x.2
end
theorem MZ: ∀ {a b:List aY},aY.fit.fits (a++b)->aY.fit.fits a/\aY.fit.fits b
 | [],_,h=>⟨by simp [aY.fit.fits],h⟩
 |d::a,b,h=>by
  simp only [Û,aY.fit.fits]at h;obtain⟨k1,k2⟩:=MZ h.2;exact⟨by simp only [aY.fit.fits];exact⟨h.1,k1⟩,k2⟩
mutual
theorem DJ: ∀(c:CT) (x:Interp c),(enc c x).fit->dM c x
 |.bool,_,_=>by simp [dM]
 |.int k,x,h=>by simp only [enc,aY.fit]at h;simp only [dM];exact h
 |.str,x,h=>by simp only [enc,aY.fit]at h;simp only [dM];exact h
 |.sl ts,xs,h=>by
  simp only [enc,aY.fit]at h;simp only [dM];obtain⟨f,d,i⟩:=h;have hlen:((xs:List (bf ts)).flatMap (bG ts)).length=Ö (α:=bf ts) xs*ts.size:=by
   rw [Ą,ą (g:=fun _=>ts.size) (fun x _=>ue ts x),Đ,ö]
  rw [hlen]at d;refine⟨Nat.le_of_mul_le_mul_right d f,fun x b=> ?_⟩
  clear d hlen;have: ∀l:List (bf ts),aY.fit.fits (l.flatMap (bG ts))-> ∀x∈l,fv ts x:=by
   intro l;induction l with
   |nil=>intro _ x b;cases b
   |cons a l ih=>
    intro h x b;rw [List.flatMap_cons]at h;obtain⟨k1,k2⟩:=MZ h;rcases Ë.1 b with rfl|b
    .exact Na ts _ k1
    .exact ih k2 x b
  exact this xs i x b
 |.tree _,_,_=>by simp [dM]
theorem Na: ∀(ts:aR) (x:bf ts),aY.fit.fits (bG ts x)->fv ts x
 |.one c,x,h=>by
  simp only [bG,aY.fit.fits]at h;simp only [fv];exact DJ c x h.1
 |.cons c cs,x,h=>by
  simp only [bG,aY.fit.fits]at h;simp only [fv];exact⟨DJ c x.1 h.1,Na cs x.2 h.2⟩
end
def DK:List DV->Prop
 | []=>True
 |d::ds=>dM d.c d.x/\DK ds
theorem Nb: ∀(ds:List DV),aY.fit.fits (ds.map fun d=>enc d.c d.x)->DK ds
 | [],_=>trivial
 |d::ds,h=>by
  simp only [Ð,aY.fit.fits]at h;exact⟨DJ _ _ h.1,Nb ds h.2⟩
theorem eE {cur:Int} {k:Nat} (b:0<=cur) (d:cur<=1048576) (hk:k<=maxLen):wrap .i64 (cur-(k:Int))=cur-k:=by
 unfold maxLen at hk;rw [Ñ];omega
theorem oq {α:Type} {l:List α} {sm:α->Prop} (q:l.length<=1048576) {L:Nat->Nat->Int->Int->Option (Sum Int Int)}
  (b:W fun n=> ∀m (i:Nat) (x:α) (left:Int),l[i]? =some x->0<=left->left<=1048576-> ∃v,L n (m+1) (i:Int) left=cond (decide (v<(0:Int))) (some (Ĥ (-1))) (L n m (wrap .i64 ((i:Int)+(1:Int))) v)/\v<=1048576/\(0<=v->sm x))
  (he: ∀n m left,L n (m+1) (l.length:Int) left=some (í left)):
  W fun n=> ∀left:Int,0<=left->left<=1048576-> ∃r,L n n 0 left=some r/\(∀v,r=.inl v->0<=v/\v<=1048576/\ ∀x∈l,sm x)/\(∀v,r=.inr v->v= -1):=by
 have:=jZ (len:=l.length) (L:=fun n m i (left:Int)=>L n m (i:Int) left) (fun i left=>0<=left/\left<=1048576/\ ∀j x,j<i->l[j]? =some x->sm x)
  (fun r=>(∀v,r=.inl v->0<=v/\v<=1048576/\ ∀x∈l,sm x)/\(∀v,r=.inr v->v= -1)) ?_ ?_
 .exact this.mono fun n h left f g=>h left ⟨f,g,fun j x hj=>absurd hj (ã _)⟩
 .refine b.mono fun n h m i left hi hinv=> ?_
  obtain⟨f,g,p⟩:=hinv;obtain⟨v,e,k1,k2⟩:=h m i l[i] left (Ã hi) f g
  simp only [e];by_cases d:v<0
  .left;rw [hJ d];exact⟨_,rfl,⟨fun _ h=>by(cases h),fun _ h=>by(cases h;rfl)⟩⟩
  .right
   rw [hL d,dy hi (by omega)]
   refine⟨v,rfl,by omega,k1,fun j x hj b=> ?_⟩
   by_cases k:j=i
   .subst k
    rw [Ã hi]at b
    cases b;exact k2 (by omega)
   .exact p j x (by omega) b
 .refine W.of fun n m left hinv=>⟨_,he n m left,⟨fun v d=> ?_,fun _ h=>by(cases h)⟩⟩
  cases d;refine⟨hinv.1,hinv.2.1,fun x b=> ?_⟩
  obtain⟨j,hj,rfl⟩:=Õ.1 b;exact hinv.2.2 j _ hj (Ã hj)
theorem kH {α:Type} {a:List α} {d:α} (k:a.length<=1048576) {β:Type} {L:Nat->Nat->Int->List α->Option (Sum (List α) β)}
  (b:W fun n=> ∀m (i:Nat) (out:List α),(h:i<a.length)->out.length=a.length->L n (m+1) (i:Int) out=L n m (wrap .i64 ((i:Int)+(1:Int))) (out.set i a[i]))
  (he: ∀n m out,L n (m+1) (a.length:Int) out=some (í out)):W fun n=>L n n 0 (Ó a.length d)=some (í a):=by
 have:=jZ (len:=a.length) (L:=fun n m i (out:List α)=>L n m (i:Int) out) (fun i out=>i<=a.length/\out=a.take i++Ó (a.length-i) d) (fun r=>r=.inl a) ?_ ?_
 .exact this.mono fun n h=>by
   obtain⟨r,f,g⟩:=h (Ó a.length d) ⟨þ _,by simp⟩
   rw [<-g];exact f
 .refine b.mono fun n h m i out hi hinv=> ?_
  obtain⟨j,rfl⟩:=hinv;right
  have:=h m i _ hi (Yg a d j);rw [dy hi (by omega),Yf hi]at this
  exact⟨_,this,hi,rfl⟩
 .refine W.of fun n m out hinv=>⟨_,he n m out, ?_⟩
  rw [hinv.2];simp
theorem kJ {β:Type} {len:Nat} (g:len<=1048576) {L:Nat->Nat->Int->Option (Sum Unit β)}
  (b:W fun n=> ∀m (i:Nat),i<len->L n (m+1) (i:Int)=L n m (wrap .i64 ((i:Int)+(1:Int))))
  (he: ∀n m,L n (m+1) (len:Int)=some (í ())):W fun n=>L n n 0=some (í ()):=by
 have:=jZ (len:=len) (L:=fun n m i (_:Unit)=>L n m (i:Int)) (fun _ _=>True) (fun r=>r=.inl ()) ?_ ?_
 .exact this.mono fun n h=>by
   obtain⟨r,d,f⟩:=h () trivial;rw [<-f];exact d
 .refine b.mono fun n h m i _ hi _=> ?_
  right
  have:=h m i hi;rw [dy hi (by omega)]at this
  exact⟨(),this,trivial⟩
 .exact W.of fun n m _ _=>⟨_,he n m,rfl⟩
abbrev Yh:CT->aR
 |.tree fs=>fs
 |c=>.one c
theorem mP {n:Nat} (h:n<=9223372036854775807):Þ n mx=true:=Nat.ble_eq_true_of_le h
end Go.Ev
namespace Go.Ev
def xR (ds:List DV):Option (bN [.str]):=(eG [.int .i64] ds).bind fun n=>some (ç n)
def bE.has (gl:bE) (P:Program) (name:String) (k:IntKind) (b:List Int):Prop:=
 (∃g,P.globalNamed name=some g/\g<gl.n)/\Ă P gl.w name k b
theorem bE.tab {gl:bE} {P:Program} {name:String} {k:IntKind} {d:List Int} (h:gl.has P name k d) {w:World} {F:Nat->Prop} (hw:oi gl w F):Ă P w name k d:=by
 obtain⟨⟨g,f,i⟩,b⟩:=h;have e:w.heap[g]? =gl.w.heap[g]? :=(hw.at_ g i).2;unfold Ă World.var? at b |-;rw [f]at b |-;simp only [Z]at b |-;rw [e];exact b
theorem DL {α:Type} {a:Array α} (h:a.size=1): ∃x,a= #[x]:=by
 obtain⟨l⟩:=a;match l,h with
 | [x],_=>exact⟨x,rfl⟩
theorem Yi {P:Program} {gl:bE} {f:FuncId} {fn:Func} (t:gl.has P "internal/strconv.uint64pow10" .u64 ě)
  (u: ∀(n:Int) (_: -9223372036854775808<=n) (_:n<=9223372036854775807) (w:World) (_:Ă P w "internal/strconv.uint64pow10" .u64 ě),
   Calls P f #[.int .i64 n] w fun e w'=>e=.returned (.string ⟨(ç n).toArray⟩)/\ ∃k os,w'=Sort.grow (w.drewN k) os)
  (ds:List DV) (r:bN [.str]) (h:xR ds=some r):
  cX P gl {f:=f,fn:=fn,ins:=[.one (.int .i64)],bx:=[],outs:=.one .str,bO:=[],loops:=[],cO:=[],bH:=[.str],bX:=some xR} ds r:=by
 intro w F R bl args dB dA AB AA g p d;obtain⟨a,rfl⟩:=DL p;have i:=d.kb;simp only [bS]at i;obtain⟨rfl,rfl⟩:=i;have j:=d.kt;simp only [gp,dR,bU,aq]at j;obtain⟨d1,d2,A1,A2,z,e2,⟨-,x0,ex,ev,m,rfl⟩,rfl,rfl⟩:=j;obtain⟨x,hx⟩: ∃x:Int,x=x0:=⟨_,rfl⟩
 subst hx;subst z ex e2;simp only [ù,đ]at g;subst g;have hv:a=.int .i64 x:=ev;have hr:r=ç x:=by
  have h':some (ç x)=some r:=h;exact(Ú h').symm
 subst hv hr;have q: -9223372036854775808<=x:=m.1;have s:x<=9223372036854775807:=m.2;refine(u x q s w (bE.tab t d.gl)).mono ?_
 rintro e w' ⟨rfl,k,os,rfl⟩
 refine⟨by simp [Sort.grow,World.drewN],fun b m _=> ?_,rfl,rfl,rfl,[⟨.str,ç x⟩],[],[],[],rfl, ?_, ?_,by simp [Env.fps],by simp [Env.fps]⟩
 .simp only [hp,Sort.grow,World.drewN]
  rw [Array.getElem?_append_left m]
 .simp only [bU,aq]
  exact⟨.inr rfl,ç x,rfl,rfl,by have:=Lib.itoa_length_le x q s;unfold maxLen;omega,trivial⟩
 .simp only [dL,bS];exact⟨trivial,trivial⟩
end Go.Ev
namespace Go.Ev
open Go
theorem Yj (k:Nat):Í (ā (wrap .u8 (wrap .i64 ((48:Int)+(ò (k:Int) (10:Int))))))=Í (48+k%10):=by
 have e:ò (k:Int) (10:Int)=((k%10:Nat):Int):=rfl;rw [e];have b:wrap .i64 ((48:Int)+((k%10:Nat):Int))=((48+k%10:Nat):Int):=by rw [Ñ];omega
 rw [b];have d:wrap .u8 ((48+k%10:Nat):Int)=((48+k%10:Nat):Int):=by rw [Ē];omega
 rw [d];rfl
def dd (k:Nat):O:=if k=0 then []else ï k
theorem Yk {k:Nat} (h:0<k) (acc:O):dd (k/10)++([Í (48+k%10)]++acc)=dd k++acc:=by
 unfold dd;rw [if_neg (show ¬k=0 by omega)]
 by_cases b:k<10
 .rw [if_pos (by omega),ï,dif_pos b]
  simp [Nat.mod_eq_of_lt b]
 .rw [if_neg (by omega)]
  conv=>rhs;rw [ï,dif_neg b]
  simp
theorem Yl {β:Type} {L:Nat->Int->O->Option (Sum O β)}
  (b: ∀m (k:Nat) acc,0<k->1+acc.length<=mx->L (m+1) (k:Int) acc=L m (wrap .i64 (ġ (k:Int) (10:Int))) ([Í (ā (wrap .u8 (wrap .i64 ((48:Int)+(ò (k:Int) (10:Int))))))]++acc))
  (he: ∀m acc,L (m+1) 0 acc=some (í acc)): ∀(k m:Nat) (acc:O),k<m->acc.length+k<=mx->L m (k:Int) acc=some (í (dd k++acc)):=by
 intro k;induction k using Nat.strongRecOn with
 |_ k ih=>
  intro m acc hm d;obtain⟨m,rfl⟩: ∃m',m=m'+1:=⟨m-1,by omega⟩
  by_cases f:k=0
  .subst f;rw [show ((0:Nat):Int)=0 from rfl,he];simp [dd]
  .rw [b m k acc (by omega) (by omega),Yj]
   have e:ġ (k:Int) (10:Int)=((k/10:Nat):Int):=rfl;have hw:wrap .i64 ((k/10:Nat):Int)=((k/10:Nat):Int):=by unfold mx at d;rw [Ñ];omega
   rw [e,hw,ih (k/10) (by omega) m _ (by omega) (by simp;omega),Yk (by omega)]
theorem DM {k:Nat}:ç (k:Int)=ï k:=by unfold ç;rw [if_neg (by omega)];simp
theorem xS {α:Type} {l:List α} {i:Nat} (h:i<l.length):l.take (i+1)=l.take i++[l[i]]:=by
 rw [List.take_add_one,Ã h];rfl
end Go.Ev
namespace Go.Ev
open Go
structure dt (P:Program) (gl:bE) (l:List Entry):Prop where
 ok: ∀x∈l,∀p,x.bX=some p-> ∀ds r,p ds=some r->cX P gl x ds r
theorem dt.nil {P:Program} {gl:bE}:dt P gl []:=⟨by simp⟩
theorem dt.no {P:Program} {gl:bE} {x:Entry} {l:List Entry} (h:x.bX.isNone=true) (b:dt P gl l):dt P gl (x::l):=⟨fun y hy p hp=>by
 rcases Ë.1 hy with rfl|hy
 .rw [hp]at h;cases h
 .exact b.ok y hy p hp⟩
theorem dt.cons {P:Program} {gl:bE} {x:Entry} {l:List Entry} (h: ∀p,x.bX=some p-> ∀ds r,p ds=some r->cX P gl x ds r) (b:dt P gl l):dt P gl (x::l):=⟨fun y hy=>by
 rcases Ë.1 hy with rfl|hy
 .exact h
 .exact b.ok y hy⟩
theorem Nc {P:Program} {w:World} {name:String} {d:DataW Unit}: ∀ {l:List (String×DataW Unit)} {b:List MemPlace},DataW.LaidVars P w l b->(name,d)∈l->
  ∃g t cs fuel p,P.globalNamed name=some g/\(P.globals[g]?).map (·.type)=some t/\w.var? P name=some cs/\DataW.trod (fun _=>()) P w 0 (fun _=>true) false fuel t cs.toList=some (d,p)
 | [],_,_,h=>by cases h
 |(n,e)::l,b,f,h=>by
  obtain⟨g,t,cs,fuel,p,q,i,j,k,m,r, -⟩:=f;rcases Ë.1 h with s|h
  .cases s
   exact⟨g,t,cs,fuel,p,i,j,k,m⟩
  .exact Nc r h
theorem Ym {P:Program} {w:World} {name:String} {k:IntKind} {j:List Int} {l:List (String×DataW Unit)} {g:Nat} {t e:TypeId} {n:Nat} (m:laidMet P l w) (hm:(name,Lib.tabData k j)∈l)
  (d:P.globalNamed name=some g) (f:(P.globals[g]?).map (·.type)=some t) (q:P.underlying t=some (.array n e)) (he:P.underlying e=some (.int k)) (h:P.cellsOf e=1) (i:P.cellsOf t=n):
  (bE.mk w.heap.size w).has P name k j:=by
 obtain⟨ps,r, -⟩:=m;obtain⟨g',t',cs,fuel,p,s,u,b,z⟩:=Nc r hm;obtain rfl:=Ú (d.symm.trans s);obtain rfl:=Ú (f.symm.trans u);refine⟨⟨g,d, ?_⟩, ?_⟩
 .unfold World.var? at b
  rw [d]at b;simp only [Z]at b;split at b
  .rename_i c _ _ hc
   exact(å.1 hc).1
  .cases b
 .unfold Ă
  rw [show (bE.mk w.heap.size w).w=w from rfl,b,<-Lib.cells_of_tab q he h i z]
end Go.Ev
namespace Go.Ev
open Go
def xT (ds:List DV):Option (bN [.int .i64]):=(eG [.str,.int .u8] ds).bind fun p=>some (È p.1 p.2)
def xU (ds:List DV):Option (bN [.int .i64]):=(eG [.str,.str] ds).bind fun p=>some (Æ p.1 p.2)
theorem Yn {α:Type} {a:Array α} (h:a.size=2): ∃x y,a= #[x,y]:=by
 obtain⟨l⟩:=a;match l,h with
 | [x,y],_=>exact⟨x,y,rfl⟩
theorem uh {gl:bE} {E:Entry} {w:World} {F R:Nat->Prop} {bl:Nat->Nat} {args:Array Value} {dB dA:List DV} {AB AA:Env} {k1 k2:CK} (d:E.ins=[.one k1,.one k2]) (k:E.bx=[]) (h:args.size=E.ins.length)
  (j:pZ gl E w F R bl (fun i=>args.getD i undef) dB dA AB AA): ∃a b d1 d2 A1 A2,args= #[a,b]/\dB++dA=d1++d2/\(∃nm,aq (hp w) R (eO bl) true AB nm k1 d1 a A1)/\ ∃nm,aq (hp w) R (eO bl) true (AB++A1) nm k2 d2 b A2:=by
 rw [d]at h;obtain⟨a,b,rfl⟩:=Yn h;have f:=j.kb;rw [k]at f;simp only [bS]at f;obtain⟨rfl,rfl⟩:=f;have g:=j.kt;rw [d]at g;simp only [gp,dR,bU]at g;obtain⟨d1,m,A1,p,q,r,⟨-,s⟩,d2,d3,A2,A3,t,u,⟨-,z⟩,e5,e6⟩:=g;subst q r t u e5 e6;exact⟨a,b,d1,d2,A1,A2,rfl,by simp,⟨_,s⟩,⟨_,z⟩⟩
theorem rF {E:Entry} {w:World} {F R:Nat->Prop} {bl:Nat->Nat} {r:bN E.bH} {u:Value} (b:E.bx=[]) (hk:bU (hp w) R rq true [] (fE 9000) E.outs (lD E.bH r) u []):iw E w w F R bl r u:=by
 refine⟨Ì _,fun _ _ _=>rfl,rfl,rfl,rfl,lD E.bH r,[],[],[],by simp,hk, ?_,by rw [b];simp [Env.fps],by simp [Env.fps]⟩
 rw [b];simp [dL,bS]
theorem Nf: ∀(l:List UInt8) (c:UInt8),È l c<=l.length
 | [],c=>by unfold È;simp
 |b::l,c=>by
  have:=Nf l c;unfold È;simp only [Ä];split
  .omega
  .split<;>omega
theorem DN: ∀(a b:List UInt8), -1<=Æ a b/\Æ a b<=1
 | [],[]=>by unfold Æ;omega
 | [],_::_=>by unfold Æ;omega
 |_::_,[]=>by unfold Æ;omega
 |a::as,b::bs=>by
  have:=DN as bs;unfold Æ;split
  .omega
  .split<;>omega
theorem Yo {P:Program} {gl:bE} {f:FuncId} {fn:Func}
  (p: ∀(s:ByteArray) (c:Int) (w:World),Calls P f #[.string s,.int .u8 c] w fun e w'=>e=.returned (.int .i64 (È s.data.toList c.toNat.toUInt8))/\w'=w)
  (ds:List DV) (r:bN [.int .i64]) (h:xT ds=some r):
  cX P gl {f:=f,fn:=fn,ins:=[.one .str,.one (.int .u8)],bx:=[],outs:=.one (.int .i64),bO:=[],loops:=[],cO:=[],bH:=[.int .i64],bX:=some xT} ds r:=by
 intro w F R bl args dB dA AB AA d g i;obtain⟨a,b,d1,d2,A1,A2,rfl,q,⟨t,j⟩,u,k⟩:=uh (k1:=.str) (k2:=.int .u8) rfl rfl g i;rw [q]at d;subst d;simp only [aq]at j k;obtain⟨x,rfl,rfl,z, -⟩:=j;obtain⟨c,rfl,rfl,hb, -⟩:=k;have h':some (È (x:O) (c:UInt8))=some r:=h;have hr:r=È (x:O) (c:UInt8):=(Ú h').symm;subst hr;refine(p ⟨(x:O).toArray⟩ (jt .u8 c) w).mono ?_
 rintro e w' ⟨rfl,rfl⟩
 refine rF rfl ?_
 have e1:(jt .u8 c).toNat.toUInt8=(c:UInt8):=by
  show((((c:UInt8).toNat:Int)).toNat).toUInt8=(c:UInt8);rw [Int.toNat_natCast];exact UInt8.ofNat_toNat
 have m: -1<=È (x:O) (c:UInt8)/\È (x:O) (c:UInt8)<=(x:O).length:=⟨Lib.indexByte_ge _ _,Nf _ _⟩;unfold maxLen at z;simp only [bU,aq];refine⟨.inr rfl,_,rfl, ?_,⟨?_, ?_⟩,trivial⟩
 .simp only [e1];rfl
 .show -9223372036854775808<=È (x:O) (c:UInt8);omega
 .show È (x:O) (c:UInt8)<=9223372036854775807;omega
theorem Yp {P:Program} {gl:bE} {f:FuncId} {fn:Func}
  (p: ∀(a b:ByteArray) (w:World),Calls P f #[.string a,.string b] w fun e w'=>e=.returned (.int .i64 (Æ a.data.toList b.data.toList))/\w'=w)
  (ds:List DV) (r:bN [.int .i64]) (h:xU ds=some r):
  cX P gl {f:=f,fn:=fn,ins:=[.one .str,.one .str],bx:=[],outs:=.one (.int .i64),bO:=[],loops:=[],cO:=[],bH:=[.int .i64],bX:=some xU} ds r:=by
 intro w F R bl args dB dA AB AA d g i;obtain⟨a,b,d1,d2,A1,A2,rfl,q,⟨s,j⟩,t,k⟩:=uh (k1:=.str) (k2:=.str) rfl rfl g i;rw [q]at d;subst d;simp only [aq]at j k;obtain⟨x,rfl,rfl,hx, -⟩:=j;obtain⟨c,rfl,rfl,hb, -⟩:=k;have u:some (Æ (x:O) (c:O))=some r:=h;have z:r=Æ (x:O) (c:O):=(Ú u).symm;subst z;refine(p ⟨(x:O).toArray⟩ ⟨(c:O).toArray⟩ w).mono ?_
 rintro e w' ⟨rfl,rfl⟩
 refine rF rfl ?_
 have m:=DN (x:O) (c:O);simp only [bU,aq];refine⟨.inr rfl,_,rfl,rfl,⟨?_, ?_⟩,trivial⟩
 .show -9223372036854775808<=Æ (x:O) (c:O);omega
 .show Æ (x:O) (c:O)<=9223372036854775807;omega
def xV (ds:List DV):Option (bN [.int .i64,.bool]):=(eG [.str] ds).bind fun s=>cond (Þ (Ö (α:=UInt8) s) 18) ((ó s).map fun n=>(n,false)) none
theorem Yq {P:Program} {gl:bE} {f:FuncId} {fn:Func} {B:TypeId}
  (hc: ∀(s:ByteArray) (n:Int) (_:s.size<=18) (_:ó s.data.toList=some n) (w:World),Calls P f #[.string s] w fun e w'=>e=.returned (.tuple #[.int .i64 n,.nilIface])/\ ∃t,w'=Lib.bytesWorld w B t)
  (ds:List DV) (r:bN [.int .i64,.bool]) (h:xV ds=some r):
  cX P gl {f:=f,fn:=fn,ins:=[.one .str],bx:=[],outs:=.aP [.one (.int .i64),.one .er],bO:=[],loops:=[],cO:=[],bH:=[.int .i64,.bool],bX:=some xV} ds r:=by
 intro w F R bl args dB dA AB AA j q k;obtain⟨a,rfl⟩:=DL q;have m:=k.kb;simp only [bS]at m;obtain⟨rfl,rfl⟩:=m;have p:=k.kt;simp only [gp,dR,bU,aq]at p;obtain⟨d1,d2,A1,A2,e1,e2,⟨-,x0,ex,ev,z,rfl⟩,rfl,rfl⟩:=p;obtain⟨x,hx⟩: ∃x:O,x=x0:=⟨_,rfl⟩
 subst hx;subst e1 ex e2;simp only [ù,đ]at j;subst j;have hv:a=.string ⟨x.toArray⟩:=ev;subst hv;have g:cond (Þ x.length 18) ((ó x).map fun n=>(n,false)) none=some r:=h
 cases i:Þ x.length 18 with
 |false=>rw [i]at g;cases g
 |true=>
  rw [i]at g;simp only [Y]at g;obtain⟨n,u⟩: ∃n,ó x=some n:=by
   cases ha:ó x with
   |none=>rw [ha]at g;cases g
   |some n=>exact⟨n,rfl⟩
  rw [u]at g;have hr:r=((n,false):Int×Bool):=(Ú g).symm;subst hr;have i:=à i;have ao:=Lib.atoi_bound u i;refine(hc ⟨x.toArray⟩ n (by show x.toArray.size<=18;simpa using i) u w).mono ?_
  rintro e w' ⟨rfl,t,rfl⟩
  have d:=Lib.bytesWorld_below w B t;refine⟨d.size,fun b z _=>d.block b z,d.os,d.tape,d.output,[⟨.int .i64,n⟩,⟨.bool,false⟩],[],[],[],rfl, ?_,by simp [dL,bS],by simp [Env.fps],by simp [Env.fps]⟩
  simp only [bU,cr,aq];refine⟨_,rfl,_,_,[⟨.int .i64,n⟩],[⟨.bool,false⟩],[],[],rfl,rfl,rfl,.inr rfl,⟨n,rfl,rfl,⟨?_, ?_⟩,rfl⟩,_,_,[⟨.bool,false⟩],[],[],[],rfl,rfl,rfl,.inr rfl,⟨false,rfl,.inl ⟨rfl,rfl⟩,rfl⟩,rfl,rfl,rfl⟩
  .show -9223372036854775808<=n;omega
  .show n<=9223372036854775807;omega
end Go.Ev
namespace Go.Ev
open Go
def gH (c:CT) (ds:List DV):Option (bN [c]):=(eG [c] ds).bind fun x=>cond (Þ (aE c x) aD) (some x) none
def Yr (c:CT) (x:Interp c) (i j:Int):Option (Interp c):=cond (decide (0<=i/\i<=j/\j<=aE c x)) (some (ju c (fR c i.toNat x) (gm c j.toNat x))) none
def Ys (c:CT) (x:Interp c) (i:Int) (v:Interp c):Option (Interp c):=cond (decide (0<=i/\i<=aE c x)&&Þ (aE c x+aE c v) aD) (some (ju c (fR c i.toNat x) (ju c v (gm c i.toNat x)))) none
def ui (c:CT) (ds:List DV):Option (bN [c]):=(eG [c,.int .i64,.int .i64] ds).bind fun p=>Yr c p.1 p.2.1 p.2.2
def rG (c:CT) (ds:List DV):Option (bN [c]):=(eG [c,.int .i64,c] ds).bind fun p=>Ys c p.1 p.2.1 p.2.2
def primMul64 (ds:List DV):Option (bN [.int .u64,.int .u64]):=(eG [.int .u64,.int .u64] ds).bind fun p=>some (((show Int from p.1)*(show Int from p.2))/18446744073709551616,((show Int from p.1)*(show Int from p.2))%18446744073709551616)
def cI (t:O):O->Int
 | []=>cond (ē t ([]:O)) 0 (-1)
 |b::s=>cond (ē t (b::s)) 0 (cond (decide (0<=cI t s)) (cI t s+1) (-1))
def xW (ds:List DV):Option (bN [.int .i64]):=(eG [.str,.str] ds).bind fun p=>cond (Þ (Ö (α:=UInt8) p.1) 4000000000) (some (cI p.2 p.1)) none
def DO (s:O):O->Option Bool
 | [c]=>some (decide (0<=È s c))
 |t=>cond (Þ (Ö (α:=UInt8) s) 4000000000) (some (decide (0<=cI t s))) none
def xX (ds:List DV):Option (bN [.bool]):=(eG [.str,.str] ds).bind fun p=>DO p.1 p.2
def aQ (cur:O):O->List O
 | []=>cond (Ĝ cur) [] [cur]
 |b::s=>cond (b==32) (cond (Ĝ cur) (aQ [] s) (cur::aQ [] s)) (aQ (cur++[b]) s)
def uj (ds:List DV):Option (bN [.sl (.one .str)]):=(eG [.str] ds).bind fun s=>cond (Þ (Ö (α:=UInt8) s) 4000000000) (some (aQ [] s)) none
def jC (l:List Int):List Int:=l.mergeSort fun a b=>decide (a<=b)
def uk (ds:List DV):Option (bN [.sl (.one (.int .i64))]):=(eG [.sl (.one (.int .i64))] ds).bind fun l=>cond (Þ (Ö (α:=Int) l) aD) (some (jC l)) none
end Go.Ev
namespace Go.Ev
abbrev xY:List CT->Type->Type
 | [],α=>α
 |c::cs,α=>Interp c->xY cs α
def cur {α:Type}:(cs:List CT)->(List DV->α)->xY cs α
 | [],f=>f []
 |c::cs,f=>fun x=>cur cs fun ds=>f (⟨c,x⟩::ds)
mutual
def Ng:CK->List CT
 |.bool=>[.bool]
 |.int k=>[.int k]
 |.str=>[.str]
 |.er=>[.bool]
 |.sh c=>[c]
 |.own c=>[c]
 |.gs _ c=>[c]
 |.fn _ a b=>rH a++rH b
 |_=>[]
def rH:List CK->List CT
 | []=>[]
 |k::ks=>Ng k++rH ks
end
mutual
def dV:bk->List CT
 |.one k=>Ng k
 |.agg ks=>rH ks
 |.aP vs=>DP vs
def DP:List bk->List CT
 | []=>[]
 |v::vs=>dV v++DP vs
end
def DQ:List (Nat×List CK)->List CT
 | []=>[]
 |(_,ks)::r=>rH ks++DQ r
def Nh:List (Nat×bk)->List CT
 | []=>[]
 |(_,v)::r=>dV v++Nh r
def Ni:List (List CK)->List CT
 | []=>[]
 |ks::r=>rH ks++Ni r
def Nj (g:cH):List CT:=DQ g.boxes++Nh g.tmps
def Nk (E:Entry):List CT:=DQ E.bx++DP E.ins
def lp (g h:cH):cH×cH×List CT:=(g,h,Nj h)
def Nl (t:Nat):List Nat->Bool
 | []=>false
 |x::r=>Ï x t||Nl t r
def xZ (l:List Nat):List (Nat×bk)->List (Nat×bk)
 | []=>[]
 |(t,k)::r=>cond (Nl t l) ((t,k)::xZ l r) (xZ l r)
def lq (ts:List (Nat×bk)) (bx:List (Nat×List CK)) (l:List Nat):cH×cH×List CT:=lp ⟨ts,bx⟩ ⟨xZ l ts,bx⟩
def lr (ts:List (Nat×bk)) (bx:List (Nat×List CK)) (l:List Nat):cH×cH×List CT:=lp ⟨ts,bx⟩ ⟨xZ l ts,[]⟩
def ya (id:Nat):List (Nat×cH×cH×List CT)->cH×cH×List CT
 | []=>lp ⟨[],[]⟩ ⟨[],[]⟩
 |(i,x)::r=>cond (Ï i id) x (ya id r)
def bW (f:FuncId) (fn:Func) (ins:List bk) (bx:List (Nat×List CK)) (outs:bk) (bO:List (List CK)) (loops:List (Nat×cH×cH×List CT)) (cO:List Nat):Entry:=
 {f:=f,fn:=fn,ins:=ins,bx:=bx,outs:=outs,bO:=bO,loops:=loops,cO:=cO,bH:=dV outs++Ni bO,bX:=none}
def Yt (f:FuncId) (fn:Func) (ins:List bk) (outs:bk) (loops:List (Nat×cH×cH×List CT)) (cO:List Nat) (back:Nat):Entry:=
 {f:=f,fn:=fn,ins:=ins,bx:=[],outs:=outs,bO:=[],loops:=loops,cO:=cO,bH:=dV outs,bX:=none,back:=some back}
def du (f:FuncId) (fn:Func) (ins:List bk) (outs:bk) (loops:List (Nat×cH×cH×List CT)) (cO:List Nat):Entry:=bW f fn ins [] outs [] loops cO
def bK (f:FuncId) (fn:Func) (ins:List bk) (outs:bk) (loops:List (Nat×cH×cH×List CT)):Entry:=bW f fn ins [] outs [] loops []
def aw (f:FuncId) (fn:Func) (ins:List bk) (outs:bk):Entry:=bW f fn ins [] outs [] [] []
def Nn (E:Entry):Bool:=jX E&&(ua E&&(!(E.fn.name== "runtime.NumGoroutine")&& !E.fn.body.isNone))
theorem dH.of {P:Program} {l:List Entry} (h:l.all Nn=true) (g:l.map (fun E=>P.funcs[E.f]?)=l.map fun E=>some E.fn):dH P l:=⟨fun x d=>by
 have b:=List.all_eq_true.1 h x d;simp only [Nn,À,ê]at b;exact⟨b.1,b.2.1,List.map_inj_left.1 g x d,b.2.2.1,b.2.2.2⟩⟩
theorem dH.app {P:Program} {l m:List Entry} (h:dH P l) (k:dH P m):dH P (l++m):=⟨fun x b=>(Ç.1 b).elim (h.ok x) (k.ok x)⟩
end Go.Ev
namespace Go.Ev
open Go
noncomputable def bo (P:Prop):Bool:= @decide P (Ý P)
theorem rI {P:Prop}:(bo P=true)=P:=by
 unfold bo;exact propext (@decide_eq_true_iff P (Ý P))
theorem aB {P:Prop} (h:P):bo P=true:=by rw [rI];exact h
theorem az {P:Prop} (h: ¬P):bo P=false:=by
 cases e:bo P
 .rfl
 .exact absurd (rI.mp e) h
theorem mQ (b:Bool):b=bo (b=true):=by
 cases b
 .exact(az (by simp)).symm
 .exact(aB rfl).symm
theorem bL (P:Prop) [inst:Decidable P]:decide P=bo P:=by
 by_cases h:P
 .rw [hJ h,aB h]
 .rw [hL h,az h]
theorem bA (P:Prop):(!bo P)=bo (¬P):=by
 by_cases h:P
 .rw [aB h,az (by simp [h])];rfl
 .rw [az h,aB h];rfl
theorem bp {α:Type} [BEq α] [LawfulBEq α] (a b:α):(a==b)=bo (a=b):=by
 by_cases h:a=b
 .rw [aB h,h];simp
 .rw [az h];simp [h]
theorem cu {α:Type} [BEq α] [LawfulBEq α] (a b:α):(a !=b)=bo (¬a=b):=by
 unfold bne;rw [bp,bA]
theorem dC {α:Type} (P:Prop) (x y:α):cond (bo P) x y= @ite α P (Ý P) x y:=by
 by_cases h:P
 .rw [aB h,if_pos h];rfl
 .rw [az h,if_neg h];rfl
theorem gX (P Q:Prop):cond (bo P) (some (bo Q)) (some false)=some (bo (P/\Q)):=by
 by_cases h:P
 .rw [aB h];simp [h]
 .rw [az h,az (fun k:P/\Q=>h k.1)];rfl
theorem kK (P Q:Prop):cond (bo P) (some true) (some (bo Q))=some (bo (P\/Q)):=by
 by_cases h:P
 .rw [aB h,aB (Or.inl h)];rfl
 .rw [az h];simp [h]
theorem um (P Q:Prop):cond (bo P) (some false) (some (bo Q))=some (bo (¬P/\Q)):=by
 by_cases h:P
 .rw [aB h,az (fun k: ¬P/\Q=>k.1 h)];rfl
 .rw [az h];simp [h]
theorem cG {P Q:Prop} (h:P↔Q):(some (bo P):Option Bool)=some (bo Q):=by rw [propext h]
theorem fU {α:Type} (P Q:Prop) (x y:α):cond (bo P) x (cond (bo Q) x y)=cond (bo (P\/Q)) x y:=by
 by_cases h:P
 .rw [aB h,aB (Or.inl h)];rfl
 .rw [az h];simp [h]
theorem dZ {α:Type} {P Q:Prop} {x y:α} (h: ¬P↔Q):cond (bo P) x y=cond (bo Q) y x:=by
 by_cases k:P
 .rw [aB k,az (fun q=>h.2 q k)];rfl
 .rw [az k,aB (h.1 k)];rfl
theorem rJ:bo True=true:=aB trivial
theorem rK:bo False=false:=az id
theorem yb (P A B:Prop):cond (bo P) (some (bo A)) (some (bo B))=some (bo ((P/\A)\/(¬P/\B))):=by
 by_cases h:P
 .rw [aB h];simp [h]
 .rw [az h];simp [h]
theorem cP {α β γ:Type} (a:α) (f:α->Option γ) (g:β->Option γ):ay (í a) f g=f a:=rfl
theorem uo {α β γ:Type} (a:β) (f:α->Option γ) (g:β->Option γ):ay (Ĥ a) f g=g a:=rfl
theorem cz {α β γ:Type} (P:Prop) (a:α) (b:β) (f:α->Option γ) (g:β->Option γ):ay (cond (bo P) (í a) (Ĥ b)) f g=cond (bo P) (f a) (g b):=by
 cases bo P<;>rfl
theorem cT (P:Prop):cond (bo P) (some true) (some false)=some (bo P):=by cases bo P<;>rfl
theorem dw (P:Prop):cond (bo P) (some false) (some true)=some (bo (¬P)):=by rw [<-bA];cases bo P<;>rfl
theorem cV {α β:Type} (P:Prop) (x y:Option α) (f:α->Option β):(cond (bo P) x y).bind f=cond (bo P) (x.bind f) (y.bind f):=by cases bo P<;>rfl
theorem jD {β γ:Type} {len:Nat} (s:len<=1048576) {q:Nat->Prop} {r:γ} {b:β} {L:Nat->Nat->Int->Option (Sum β γ)}
  (f:W fun n=> ∀m (i:Nat),i<len->L n (m+1) (i:Int)=cond (bo (q i)) (L n m (wrap .i64 ((i:Int)+(1:Int)))) (some (.inr r)))
  (he: ∀n m,L n (m+1) (len:Int)=some (.inl b)):W fun n=>L n n 0=some (cond (bo (∀i,i<len->q i)) (.inl b) (.inr r)):=by
 have:=jZ (len:=len) (L:=fun n m i (_:Unit)=>L n m (i:Int)) (fun i _=> ∀j,j<i->q j) (fun x=>x=cond (bo (∀i,i<len->q i)) (.inl b) (.inr r)) ?_ ?_
 .exact this.mono fun n h=>by
   obtain⟨x,g,p⟩:=h () (fun j hj=>absurd hj (ã _))
   rw [<-p];exact g
 .refine f.mono fun n h m i _ hi hinv=> ?_
  have h:=h m i hi;by_cases d:q i
  .right
   rw [aB d]at h;refine⟨(),by rw [<-dy hi (by omega)];exact h,fun j hj=> ?_⟩
   by_cases e:j=i
   .subst e;exact d
   .exact hinv j (by omega)
  .left
   rw [az d]at h;refine⟨_,h, ?_⟩
   rw [az (fun k=>d (k i hi))]
   rfl
 .exact W.of fun n m _ hinv=>⟨_,he n m,by rw [aB hinv];rfl⟩
theorem Yu {β γ:Type} {len:Nat} (p:len<=1048576) {q:Nat->Prop} {r:Int->γ} {b:β} {L:Nat->Nat->Int->Option (Sum β γ)}
  (g:W fun n=> ∀m (i:Nat),i<len->L n (m+1) (i:Int)=cond (bo (q i)) (some (.inr (r i))) (L n m (wrap .i64 ((i:Int)+(1:Int)))))
  (he: ∀n m,L n (m+1) (len:Int)=some (.inl b)):W fun n=>(∃i:Nat,i<len/\q i/\L n n 0=some (.inr (r i)))\/((∀i,i<len-> ¬q i)/\L n n 0=some (.inl b)):=by
 have:=jZ (len:=len) (L:=fun n m i (_:Unit)=>L n m (i:Int)) (fun i _=> ∀j,j<i-> ¬q j) (fun x=>(∃i:Nat,i<len/\q i/\x=.inr (r i))\/((∀i,i<len-> ¬q i)/\x=.inl b)) ?_ ?_
 .exact this.mono fun n h=>by
   obtain⟨x,f,k⟩:=h () (fun j hj=>absurd hj (ã _))
   have f:L n n 0=some x:=f;rw [f];rcases k with⟨i,a,c,rfl⟩|⟨a,rfl⟩
   .exact .inl ⟨i,a,c,rfl⟩
   .exact .inr ⟨a,rfl⟩
 .refine g.mono fun n h m i _ hi hinv=> ?_
  have h:=h m i hi;by_cases d:q i
  .left
   rw [aB d]at h;exact⟨_,h,.inl ⟨i,hi,d,rfl⟩⟩
  .right
   rw [az d]at h;refine⟨(),by rw [<-dy hi (by omega)];exact h,fun j hj=> ?_⟩
   by_cases e:j=i
   .subst e;exact d
   .exact hinv j (by omega)
 .exact W.of fun n m _ hinv=>⟨_,he n m,.inr ⟨hinv,rfl⟩⟩
theorem uq {α:Type} {l:List α} {i:Nat} (b:0<i) (h:i<l.length) (d:l.length<=1048576):au l (wrap .i64 ((i:Int)-(1:Int)))=some (l[i-1]'(by omega)):=by
 have e:wrap .i64 ((i:Int)-(1:Int))=((i-1:Nat):Int):=by rw [Ñ];omega
 rw [e,bg (by omega)]
theorem yc {α:Type} {l:List α} (b:0<l.length) (d:l.length<=1048576):au l (wrap .i64 ((l.length:Int)-(1:Int)))=some (l[l.length-1]'(by omega)):=by
 have e:wrap .i64 ((l.length:Int)-(1:Int))=((l.length-1:Nat):Int):=by rw [Ñ];omega
 rw [e,bg (by omega)]
theorem Yv {α:Type} (l:List α) (p:α->Prop):(∀i,(h:i<l.length)->p l[i])↔ ∀x∈l,p x:=by
 constructor
 .intro h x b
  obtain⟨i,hi,rfl⟩:=Õ.1 b;exact h i hi
 .exact fun h i hi=>h _ (ô hi)
def At {α:Type} (l:List α) (p:α->Prop) (i:Nat):Prop:= ∀h:i<l.length,p l[i]
theorem qd {α:Type} (l:List α) (p:α->Prop):(∀i,i<l.length->At l p i)↔ ∀x∈l,p x:=by
 rw [<-Yv];exact⟨fun h i hi=>h i hi hi,fun h i hi _=>h i hi⟩
theorem kL {α:Type} {l:List α} {p:α->Prop} {i:Nat} (h:i<l.length):At l p i↔p l[i]:=⟨fun k=>k h,fun k _=>k⟩
theorem kc {α β γ:Type} {l:List α} (d:l.length<=1048576) {p:α->Prop} {r:γ} {b:β} {L:Nat->Nat->Int->Option (Sum β γ)}
  (f:W fun n=> ∀m (i:Nat),(h:i<l.length)->L n (m+1) (i:Int)=cond (bo (p l[i])) (L n m (wrap .i64 ((i:Int)+(1:Int)))) (some (.inr r)))
  (he: ∀n m,L n (m+1) (l.length:Int)=some (.inl b)):W fun n=>L n n 0=some (cond (bo (∀x∈l,p x)) (.inl b) (.inr r)):=by
 have:=jD (len:=l.length) d (q:=At l p) (r:=r) (b:=b) (L:=L) (f.mono fun n h m i hi=>by rw [h m i hi,propext (kL (p:=p) hi)]) he
 simpa only [qd]using this
theorem kd {α β γ:Type} {l:List α} (g:l.length<=1048576) {p:α->Prop} {r:Int->γ} {b:β} {L:Nat->Nat->Int->Option (Sum β γ)}
  (d:W fun n=> ∀m (i:Nat),(h:i<l.length)->L n (m+1) (i:Int)=cond (bo (p l[i])) (some (.inr (r i))) (L n m (wrap .i64 ((i:Int)+(1:Int)))))
  (he: ∀n m,L n (m+1) (l.length:Int)=some (.inl b)):W fun n=>((∃x∈l,p x)/\ ∃i:Nat,L n n 0=some (.inr (r i)))\/((∀x∈l,¬p x)/\L n n 0=some (.inl b)):=by
 have:=Yu (len:=l.length) g (q:=At l p) (r:=r) (b:=b) (L:=L) (d.mono fun n h m i hi=>by rw [h m i hi,propext (kL (p:=p) hi)]) he
 refine this.mono fun n h=> ?_
 rcases h with⟨i,hi,f,e⟩|⟨f,e⟩
 .exact .inl ⟨⟨_,ô hi,(kL hi).1 f⟩,i,e⟩
 .refine .inr ⟨fun x d hp=> ?_,e⟩
  obtain⟨i,hi,rfl⟩:=Õ.1 d;exact f i hi ((kL hi).2 hp)
theorem DR (i:Nat):bo ((0:Int)<=(i:Int))=true:=aB (by omega)
theorem DS:bo ((0:Int)<=(-1:Int))=false:=az (by omega)
theorem rL {α β:Type} {l:List α} {p:α->Prop} {o:Option (Int×β)} {c:β}
  (h:((∃x∈l,p x)/\ ∃i:Nat,o=some ((i:Int),c))\/((∀x∈l,¬p x)/\o=some ((-1:Int),c))):o.bind (fun y=>some (decide ((0:Int)<=y.1),y.2))=some (bo (∃x∈l,p x),c):=by
 rcases h with⟨h,i,rfl⟩|⟨h,rfl⟩
 .simp only [Z,bL,DR,aB h]
 .simp only [Z,bL,DS]
  rw [az (fun ⟨x,b,hp⟩=>h x b hp)]
theorem DT {α:Type} {l:List α} {p:α->Prop} {o:Option Int}
  (h:((∃x∈l,p x)/\ ∃i:Nat,o=some (i:Int))\/((∀x∈l,¬p x)/\o=some (-1:Int))):o.bind (fun y=>some (decide ((0:Int)<=y)))=some (bo (∃x∈l,p x)):=by
 rcases h with⟨h,i,rfl⟩|⟨h,rfl⟩
 .simp only [Z,bL,DR,aB h]
 .simp only [Z,bL,DS]
  rw [az (fun ⟨x,b,hp⟩=>h x b hp)]
theorem W.lt {len:Nat} {p:(i:Nat)->i<len->Nat->Prop} (h: ∀i (hi:i<len),W (p i hi)):W fun n=> ∀i (hi:i<len),p i hi n:=
 (W.all (p:=fun i n=> ∀hi:i<len,p i hi n) (ø len) fun i hi=>(h i (ß.1 hi)).mono fun _ k _=>k).mono fun _ k i hi=>k i (ß.2 hi) hi
theorem mR {P Q:Prop} (h:P↔Q):bo P=bo Q:=by rw [propext h]
theorem dD {P:Prop} (h:P):(some true:Option Bool)=some (bo P):=by rw [aB h]
theorem dE {P:Prop} (h: ¬P):(some false:Option Bool)=some (bo P):=by rw [az h]
theorem df {l:O} {i:Nat} (h:i<l.length):bF l (i:Int)=some l[i]:=by
 unfold bF nth;rw [hJ (by omega)]
 simp [h]
theorem W.nm {p q:Nat->Prop} (h:W p) (k: ∀n,p n->q (n+1)):W q:=W.succ (h.mono k)
theorem dS (b:UInt8):Í (ā (b.toNat:Int))=b:=by simp
theorem bu {i len:Nat} (h:i<len):decide ((i:Int)<(len:Int))=true:=hJ (by omega)
theorem ck (len:Nat):decide ((len:Int)<(len:Int))=false:=hL (by omega)
theorem No {α:Type} {p:α->Bool}: ∀(l:List α) (i:Nat) (h:i<l.length),i<=(l.takeWhile p).length->p l[i]=true->i+1<=(l.takeWhile p).length
 |a::l,0,_,_,hp=>by
  have hp:p a=true:=hp;simp [hp]
 |a::l,i+1,h,hi,hp=>by
  rw [Å]at hi |-;by_cases e:p a=true
  .rw [if_pos e]at hi |-
   have:=No l i (by simpa using h) (by simpa using hi) hp
   simpa using this
  .rw [if_neg e]at hi
   simp at hi
theorem Np {α:Type} {p:α->Bool}: ∀(l:List α) (i:Nat) (h:i<l.length),p l[i]=false->(l.takeWhile p).length<=i
 |a::l,0,_,hp=>by
  have hp:p a=false:=hp;simp [hp]
 |a::l,i+1,h,hp=>by
  rw [Å];by_cases e:p a=true
  .rw [if_pos e]
   have:=Np l i (by simpa using h) hp
   simpa using this
  .rw [if_neg e]
   simp
theorem mS {α:Type} (p:α->Bool) (l:List α):(l.takeWhile p).length<=l.length:=(List.takeWhile_sublist p).length_le
theorem Nq {α β:Type} {l:List α} (j:l.length<=1048576) {p:α->Bool} {L:Nat->Nat->Int->Option (Sum Int β)}
  (d:W fun n=> ∀m (i:Nat),(h:i<l.length)->L n (m+1) (i:Int)=cond (p l[i]) (L n m (wrap .i64 ((i:Int)+(1:Int)))) (some (.inl i)))
  (he: ∀n m,L n (m+1) (l.length:Int)=some (.inl (l.length:Int))):W fun n=>L n n 0=some (.inl ((l.takeWhile p).length:Int)):=by
 have:=jZ (len:=l.length) (L:=fun n m i (_:Unit)=>L n m (i:Int)) (fun i _=>i<=(l.takeWhile p).length) (fun x=>x=.inl ((l.takeWhile p).length:Int)) ?_ ?_
 .exact this.mono fun n h=>by
   obtain⟨x,f,g⟩:=h () (þ _);rw [<-g];exact f
 .refine d.mono fun n h m i _ hi hinv=> ?_
  have h:=h m i hi;cases b:p l[i]
  .left
   rw [b]at h;refine⟨_,h, ?_⟩
   have:=Np l i hi b;rw [show i=(l.takeWhile p).length by omega]
  .right
   rw [b]at h;exact⟨(),by rw [<-dy hi (by omega)];exact h,No l i hi hinv b⟩
 .refine W.of fun n m _ hinv=>⟨_,he n m, ?_⟩
  have:=mS p l;rw [show l.length=(l.takeWhile p).length by omega]
theorem Yw {α:Type} (p:α->Bool) (l:List α):(l.takeWhile p).length=l.length↔ ∀x∈l,p x=true:=by
 induction l with
 |nil=>simp
 |cons a l ih=>
  rw [Å];by_cases e:p a=true
  .simp [e,ih]
  .simp [e]
def In (x lo hi:Int):Prop:=lo<=x/\x<=hi
end Go.Ev
namespace Go.Ev
open Go
abbrev Tr:Type:=RT (Int×Int×O×Bool)
abbrev Nd:Type:=Int×(Int×O×Bool×List Tr)
def cQ (x:Nd):Tr:=.mk (x.1,x.2.1,x.2.2.1,x.2.2.2.1) x.2.2.2.2
def aF:Tr->Nd
 |.mk x k=>(x.1,x.2.1,x.2.2.1,x.2.2.2,k)
theorem Nr (x:Nd):aF (cQ x)=x:=rfl
def dO (t:Tr):List Tr:=(aF t).2.2.2.2
def gI (c:UInt8):Int:=if c.toNat=42 then 8 else if c.toNat=43 then 9 else if c.toNat=63 then 10 else 0
def gY (ks:List Tr):Nd:=
 match ks with
 | [k]=>aF k
 |_=>(7,0,[],false,ks)
def gw (ks:List Tr):Nd:=
 match ks with
 | []=>(11,0,[],false,[])
 | [k]=>aF k
 |_=>(6,0,[],false,ks)
def eP (s:O) (b:Bool):Option UInt8:=cond b none s.head?
def dI (has:List Bool) (lo:Nat):Nat->List Bool
 |0=>has
 |k+1=>dI (has.set lo true) (lo+1) k
theorem ke: ∀(k:Nat) (has:List Bool) (lo:Nat),(dI has lo k).length=has.length
 |0,_,_=>rfl
 |k+1,has,lo=>by rw [dI,ke k];simp
def setB:O->List Bool->Bool->List Bool×Bool
 | [],has,b=>(has,b)
 | [lo],has,b=>(dI has lo.toNat 1,b)
 | [lo,d],has,b=>setB [d] (dI has lo.toNat 1) b
 |lo::d::hi::r,has,b=>
  if d.toNat=45/\hi.toNat≠93 then setB r (dI has lo.toNat (hi.toNat+1-lo.toNat)) (b||decide (hi.toNat<lo.toNat))
  else setB (d::hi::r) (dI has lo.toNat 1) b
theorem ur (lo:UInt8) (t:O) (has:List Bool) (b:Bool) (h:t.length<2):setB (lo::t) has b=setB t (dI has lo.toNat 1) b:=by
 match t,h with
 | [],_=>rfl
 | [d],_=>rfl
theorem DU (lo d hi:UInt8) (r:O) (has:List Bool) (b:Bool) (h: ¬(d.toNat=45/\hi.toNat≠93)):setB (lo::d::hi::r) has b=setB (d::hi::r) (dI has lo.toNat 1) b:=by
 rw [setB,if_neg h]
theorem DW (lo d hi:UInt8) (r:O) (has:List Bool) (b:Bool) (h:d.toNat=45/\hi.toNat≠93):setB (lo::d::hi::r) has b=setB r (dI has lo.toNat (hi.toNat+1-lo.toNat)) (b||decide (hi.toNat<lo.toNat)):=by
 rw [setB,if_pos h]
theorem DX {d β:Type} {hi:Nat} {L:Nat->Int->List Bool->Option (Sum d β)} {out:List Bool->d} (g:hi<256)
  (f: ∀m (j:Nat) (h:List Bool),j<=hi->h.length=256->L (m+1) (j:Int) h=L m (wrap .i64 ((j:Int)+(1:Int))) (h.set j true))
  (he: ∀m (j:Nat) h,hi<j->L (m+1) (j:Int) h=some (.inl (out h))): ∀k m (j:Nat) h,hi+1-j=k->k<m->h.length=256->L m (j:Int) h=some (.inl (out (dI h j k)))
 |0,m,j,h,e,hm,b=>by
  obtain⟨m,rfl⟩: ∃m',m=m'+1:=⟨m-1,by omega⟩
  rw [he m j h (by omega)];rfl
 |k+1,m,j,h,e,hm,b=>by
  obtain⟨m,rfl⟩: ∃m',m=m'+1:=⟨m-1,by omega⟩
  rw [f m j h (by omega) b,show wrap .i64 ((j:Int)+(1:Int))=((j+1:Nat):Int) by rw [Ñ];omega,DX g f he k m (j+1) (h.set j true) (by omega) (by omega) (by simp [b]),dI]
def bytesOf (has:List Bool):Nat->O
 |0=>[]
 |k+1=>bytesOf has k++cond (has.getD k false) [Í k] []
theorem Ns (has:List Bool): ∀k,(bytesOf has k).length<=k
 |0=>by simp [bytesOf]
 |k+1=>by
  have:=Ns has k;rw [bytesOf,List.length_append];cases has.getD k false<;>simp<;>omega
theorem Nu {b β:Type} {has:List Bool} (_:has.length=256) {L:Nat->Nat->Int->O->Option (Sum b β)} {out:O->b}
  (d: ∀n m (i:Nat) (o:O) (_:i<256),o.length<=i->L n (m+1) (i:Int) o=L n m (wrap .i64 ((i:Int)+(1:Int))) (o++cond (has.getD i false) [Í i] []))
  (he: ∀n m o,L n (m+1) (256:Int) o=some (.inl (out o))):W fun n=>L n n 0 []=some (.inl (out (bytesOf has 256))):=by
 have:=jZ (len:=256) (L:=fun n m i o=>L n m (i:Int) o) (fun i o=>o=bytesOf has i) (fun x=>x=.inl (out (bytesOf has 256))) ?_ ?_
 .exact this.mono fun n h=>by
   obtain⟨x,f,g⟩:=h [] rfl;rw [<-g];exact f
 .refine W.of fun n m i o hi hinv=>.inr ⟨o++cond (has.getD i false) [Í i] [], ?_,by subst hinv;rw [bytesOf]⟩
  have h:=d n m i o hi (by rw [hinv];exact Ns has i)
  rw [<-dy hi (by omega)]
  exact h
 .exact W.of fun n m o hinv=>⟨_,he n m o,by rw [hinv]⟩
theorem Nv (i:Nat) (h:i<256):Í (ā (wrap .u8 (i:Int)))=Í i:=by
 rw [show wrap .u8 (i:Int)=(i:Int) by rw [Ē];omega];rfl
def bI:O->O×Bool
 |c::r=>if c.toNat=94 then(r,true)else(c::r,false)
 | []=>([],false)
def aK (c:UInt8):Bool:= !(decide (c.toNat=93))
theorem Nw: ∀l:O,È l 93=if(l.takeWhile aK).length=l.length then -1 else((l.takeWhile aK).length:Int)
 | []=>rfl
 |a::l=>by
  have ih:=Nw l;rw [È,Å];by_cases h:a.toNat=93
  .have:a=93:=Ĕ.1 h
   subst this;simp [aK]
  .have b: ¬(a==93)=true:=by
    intro k;exact h (by rw [beq_iff_eq.1 k];rfl)
   rw [if_neg b,show aK a=true by simp [aK,h],if_pos rfl,ih]
   simp only [Ä,Nat.add_right_cancel_iff];by_cases e:(l.takeWhile aK).length=l.length
   .simp [e]
   .simp only [e,if_false]
    rw [if_neg (by simp)]
    omega
theorem DY: ∀l:O,∀c∈l.takeWhile aK,c.toNat≠93
 |a::l,c,h=>by
  rw [Å]at h;by_cases e:aK a=true
  .rw [if_pos e]at h
   rcases Ë.1 h with rfl|h
   .simpa [aK]using e
   .exact DY l c h
  .rw [if_neg e]at h;cases h
theorem Nx: ∀l:O,l.take (l.takeWhile aK).length=l.takeWhile aK
 | []=>rfl
 |a::l=>by
  rw [Å];split
  .rw [Ä,Ø,Nx l]
  .rfl
theorem getD_at {l:List Bool} {i:Nat} (h:i<l.length):l.getD i false=l[i]:=by
 rw [è,Ã h,Option.getD_some]
def dF:List Bool:=Ó 256 false
theorem rM:dF.length=256:=List.length_replicate
def fI (s:O):Nd×(O×Bool):=
 let s1:=(bI s).1
 let body:=s1.takeWhile aK
 if body.length=s1.length\/body=[]then((0,0,[],false,[]),s1,true)
 else((3,0,bytesOf (setB body dF false).1 256,(bI s).2,[]),s1.drop (body.length+1),(setB body dF false).2)
def leaf (o c:Int):Nd:=(o,c,[],false,[])
def kf (c:UInt8) (r:O):Nd×(O×Bool):=
 if c.toNat=46 then(leaf 2 0,r,false)else if c.toNat=94 then(leaf 4 0,r,false)else if c.toNat=36 then(leaf 5 0,r,false)
 else if c.toNat=91 then fI r
 else if c.toNat=92 then(match r with| []=>(leaf 0 0,[],true)|d::b=>(leaf 1 d.toNat,b,false))
 else if c.toNat=42\/c.toNat=43\/c.toNat=63 then(leaf 0 0,r,true)else(leaf 1 c.toNat,r,false)
def gZ (x:Nd×O×Bool):Nd×(O×Bool):=
 match eP x.2.1 x.2.2 with
 |some d=>if d.toNat=41 then(x.1,x.2.1.tail,x.2.2)else(x.1,x.2.1,true)
 |none=>(x.1,x.2.1,true)
inductive Md where
 |pat|fJ (ks:List Tr)|part|fg (ks:List Tr)|piece|iA (t:Nd)|atom
def iP:Nat->Md->O->Bool->Option (Nd×O×Bool)
 |0,_,_,_=>none
 |f+1,.pat,s,b=>(iP f .part s b).bind fun r=>iP f (.fJ [cQ r.1]) r.2.1 r.2.2
 |f+1,.fJ ks,s,b=>
  match eP s b with
  |none=>some (gY ks,s,b)
  |some c=>if c.toNat=124 then(iP f .part s.tail b).bind fun r=>iP f (.fJ (ks++[cQ r.1])) r.2.1 r.2.2 else some (gY ks,s,b)
 |f+1,.part,s,b=>iP f (.fg []) s b
 |f+1,.fg ks,s,b=>
  match eP s b with
  |none=>some (gw ks,s,b)
  |some c=>if c.toNat=124\/c.toNat=41 then some (gw ks,s,b)else(iP f .piece s b).bind fun r=>iP f (.fg (ks++[cQ r.1])) r.2.1 r.2.2
 |f+1,.piece,s,b=>(iP f .atom s b).bind fun r=>iP f (.iA r.1) r.2.1 r.2.2
 |f+1,.iA t,s,b=>
  match eP s b with
  |none=>some (t,s,b)
  |some c=>if gI c=0 then some (t,s,b)else iP f (.iA (gI c,0,[],false,[cQ t])) s.tail b
 |_+1,.atom,[],_=>none
 |f+1,.atom,c::r,b=>if c.toNat=40 then(iP f .pat r b).bind fun x=>some (gZ x)else some (kf c r)
inductive hC:Tr->Prop
 |mk {t:Tr} (h:(dO t).length<=100) (k: ∀x∈dO t,hC x):hC t
def mT (x:Nd):Prop:=x.2.2.2.2.length<=100/\ ∀k∈x.2.2.2.2,hC k
theorem eX {x:Nd} (h:mT x):hC (cQ x):=.mk h.1 h.2
theorem Ny {t:Tr} (h:hC t):mT (aF t):=by
 obtain⟨h,k⟩:=h;exact⟨h,k⟩
theorem Yx (o c:Int):mT (leaf o c):=⟨by simp [leaf],by simp [leaf]⟩
def kh:Md->O->Prop
 |.fJ ks,s=>ks.length+s.length<=61/\ ∀k∈ks,hC k
 |.fg ks,s=>ks.length+s.length<=61/\ ∀k∈ks,hC k
 |.iA t,_=>mT t
 |_,_=>True
def dU:Md->Nat->Nat->Prop
 |.atom,a,b=>a<b
 |.piece,a,b=>a<b
 |_,a,b=>a<=b
def lN:Md->O->Bool->Prop
 |.atom,s,b=>s≠ []/\b=false
 |.piece,s,b=>s≠ []/\b=false
 |_,_,_=>True
theorem fK {s:O} {b:Bool} {c:UInt8} (h:eP s b=some c):b=false/\s=c::s.tail:=by
 unfold eP at h;cases b
 .refine⟨rfl, ?_⟩
  cases s with
  |nil=>simp at h
  |cons a r=>simp at h;subst h;rfl
 .simp at h
theorem Nz {ks:List Tr} (h:ks.length<=100) (k: ∀x∈ks,hC x):mT (gY ks):=by
 match ks,h,k with
 | [a],_,k=>exact Ny (k a (by simp))
 | [],_,_=>exact⟨by simp [gY],by simp [gY]⟩
 |a::b::r,h,k=>exact⟨h,k⟩
theorem NA {ks:List Tr} (h:ks.length<=100) (k: ∀x∈ks,hC x):mT (gw ks):=by
 match ks,h,k with
 | [a],_,k=>exact Ny (k a (by simp))
 | [],_,_=>exact⟨by simp [gw],by simp [gw]⟩
 |a::b::r,h,k=>exact⟨h,k⟩
theorem NB (s:O):(bI s).1.length<=s.length:=by
 cases s with
 |nil=>simp [bI]
 |cons c r=>
  show(if c.toNat=94 then(r,true)else(c::r,false)).1.length<=_
  split<;>simp
theorem Yy (s:O):mT (fI s).1/\(fI s).2.1.length<=s.length:=by
 have:=NB s;unfold fI;simp only;split
 .exact⟨⟨by simp,by simp⟩,this⟩
 .exact⟨⟨by simp,by simp⟩,by simp;omega⟩
theorem NC (c:UInt8) (r:O):mT (kf c r).1/\(kf c r).2.1.length<=r.length:=by
 have:=Yy r;unfold kf;repeat' split
 all_goals first
  |exact this
  |exact⟨Yx _ _,by simp⟩
theorem ND (x:Nd×O×Bool):(gZ x).1=x.1/\(gZ x).2.1.length<=x.2.1.length/\(x.2.2=true->(gZ x).2.2=true):=by
 unfold gZ;repeat' split
 all_goals refine⟨rfl, ?_, ?_⟩
 all_goals simp
theorem eJ: ∀f md s b r,iP f md s b=some r->s.length<=60->lN md s b->kh md s->mT r.1/\dU md r.2.1.length s.length/\(b=true->r.2.2=true):=by
 intro f;induction f with
 |zero=>intro md s b r h;simp [iP]at h
 |succ f ih=>
  intro md s b r h u p d;cases md with
  |pat=>
   simp only [iP,Â]at h;obtain⟨x,g,i⟩:=h;obtain⟨j,a2,a3⟩:=ih _ _ _ _ g u trivial trivial;simp only [dU]at a2;obtain⟨c1,m,q⟩:=ih _ _ _ _ i (by omega) trivial ⟨by simp;omega,by simpa using eX j⟩
   simp only [dU]at m |-;exact⟨c1,by omega,fun k=>q (a3 k)⟩
  |fJ ks=>
   simp only [iP]at h;split at h
   .cases h;exact⟨Nz (by have:=d.1;omega) d.2,Ì _,id⟩
   .rename_i c z
    obtain⟨rfl,e⟩:=fK z;have hl:s.length=s.tail.length+1:=by rw [e];simp
    split at h
    .simp only [Â]at h
     obtain⟨x,g,i⟩:=h;obtain⟨j,a2,a3⟩:=ih _ _ _ _ g (by omega) trivial trivial
     simp only [dU]at a2;obtain⟨c1,m,q⟩:=ih _ _ _ _ i (by omega) trivial ⟨by have:=d.1;simp;omega,by
      intro k hk;rcases Ç.1 hk with hk|hk
      .exact d.2 k hk
      .simp at hk;subst hk;exact eX j⟩
     simp only [dU]at m |-;exact⟨c1,by omega,fun k=>by cases k⟩
    .cases h;exact⟨Nz (by have:=d.1;omega) d.2,Ì _,id⟩
  |part=>
   simp only [iP]at h;have:=ih (.fg []) _ _ _ h u trivial ⟨by simp;omega,by simp⟩
   exact this
  |fg ks=>
   simp only [iP]at h;split at h
   .cases h;exact⟨NA (by have:=d.1;omega) d.2,Ì _,id⟩
   .rename_i c z
    obtain⟨rfl,e⟩:=fK z;split at h
    .cases h;exact⟨NA (by have:=d.1;omega) d.2,Ì _,id⟩
    .simp only [Â]at h
     obtain⟨x,g,i⟩:=h;obtain⟨j,a2,a3⟩:=ih _ _ _ _ g u ⟨by rw [e];simp,rfl⟩ trivial
     simp only [dU]at a2;obtain⟨c1,m,q⟩:=ih _ _ _ _ i (by omega) trivial ⟨by have:=d.1;simp;omega,by
      intro k hk;rcases Ç.1 hk with hk|hk
      .exact d.2 k hk
      .simp at hk;subst hk;exact eX j⟩
     simp only [dU]at m |-;exact⟨c1,by omega,fun k=>by cases k⟩
  |piece=>
   simp only [iP,Â]at h;obtain⟨x,g,i⟩:=h;obtain⟨j,a2,a3⟩:=ih _ _ _ _ g u p trivial;simp only [dU]at a2;obtain⟨c1,m,q⟩:=ih _ _ _ _ i (by omega) trivial j
   simp only [dU]at m |-;exact⟨c1,by omega,fun k=>q (a3 k)⟩
  |iA t=>
   simp only [iP]at h;split at h
   .cases h;exact⟨d,Ì _,id⟩
   .rename_i c z
    obtain⟨rfl,e⟩:=fK z;have hl:s.length=s.tail.length+1:=by rw [e];simp
    split at h
    .cases h;exact⟨d,Ì _,id⟩
    .obtain⟨c1,m,q⟩:=ih _ _ _ _ h (by omega) trivial ⟨by simp,by simpa using eX d⟩
     simp only [dU]at m |-;exact⟨c1,by omega,fun k=>by cases k⟩
  |atom=>
   obtain⟨ad,rfl⟩:=p;cases s with
   |nil=>exact absurd rfl ad
   |cons c rr=>
    simp only [Ä]at u;simp only [iP]at h;split at h
    .simp only [Â]at h
     obtain⟨x,g,i⟩:=h;obtain⟨j,a2,a3⟩:=ih _ _ _ _ g (by omega) trivial trivial
     cases i;obtain⟨e1,e2,e3⟩:=ND x;simp only [dU]at a2;rw [e1];exact⟨j,by simp only [dU,Ä];omega,fun k=>by cases k⟩
    .cases h
     obtain⟨e1,e2⟩:=NC c rr;exact⟨e1,by simp only [dU,Ä];omega,fun k=>by cases k⟩
def need:Md->Nat->Nat
 |.atom,l=>8*l+1
 |.piece,l=>8*l+2
 |.fg _,l=>8*l+3
 |.part,l=>8*l+4
 |.pat,l=>8*l+5
 |.fJ _,l=>8*l+1
 |.iA _,l=>8*l+1
theorem Yz: ∀f md s b,need md s.length<=f->s.length<=60->lN md s b->kh md s-> ∃r,iP f md s b=some r:=by
 intro f;induction f with
 |zero=>intro md s b h;cases md<;>simp [need]at h
 |succ f ih=>
  intro md s b m p g i;cases md with
  |pat=>
   simp only [need]at m;obtain⟨x,d⟩:=ih .part s b (by simp only [need];omega) p trivial trivial
   obtain⟨q,a2,a3⟩:=eJ _ _ _ _ _ d p trivial trivial;simp only [dU]at a2;obtain⟨y,u⟩:=ih (.fJ [cQ x.1]) x.2.1 x.2.2 (by simp only [need];omega) (by omega) trivial ⟨by simp;omega,by simpa using eX q⟩
   exact⟨y,by simp only [iP,d,Z,u]⟩
  |fJ ks=>
   simp only [need]at m;simp only [iP];split
   .exact⟨_,rfl⟩
   .rename_i c z
    obtain⟨rfl,e⟩:=fK z;have hl:s.length=s.tail.length+1:=by rw [e];simp
    split
    .obtain⟨x,d⟩:=ih .part s.tail false (by simp only [need];omega) (by omega) trivial trivial
     obtain⟨q,a2,a3⟩:=eJ _ _ _ _ _ d (by omega) trivial trivial
     simp only [dU]at a2;obtain⟨y,u⟩:=ih (.fJ (ks++[cQ x.1])) x.2.1 x.2.2 (by simp only [need];omega) (by omega) trivial ⟨by have:=i.1;simp;omega,by
      intro k hk;rcases Ç.1 hk with hk|hk
      .exact i.2 k hk
      .simp at hk;subst hk;exact eX q⟩
     exact⟨y,by rw [d];exact u⟩
    .exact⟨_,rfl⟩
  |part=>
   simp only [need]at m;simp only [iP];exact ih _ _ _ (by simp only [need];omega) p trivial ⟨by simp;omega,by simp⟩
  |fg ks=>
   simp only [need]at m;simp only [iP];split
   .exact⟨_,rfl⟩
   .rename_i c z
    obtain⟨rfl,e⟩:=fK z;split
    .exact⟨_,rfl⟩
    .have j:lN .piece s false:=⟨by rw [e];simp,rfl⟩
     obtain⟨x,d⟩:=ih .piece s false (by simp only [need];omega) p j trivial
     obtain⟨q,a2,a3⟩:=eJ _ _ _ _ _ d (by omega) j trivial
     simp only [dU]at a2;obtain⟨y,u⟩:=ih (.fg (ks++[cQ x.1])) x.2.1 x.2.2 (by simp only [need];omega) (by omega) trivial ⟨by have:=i.1;simp;omega,by
      intro k hk;rcases Ç.1 hk with hk|hk
      .exact i.2 k hk
      .simp at hk;subst hk;exact eX q⟩
     exact⟨y,by rw [d];exact u⟩
  |piece=>
   simp only [need]at m;obtain⟨x,d⟩:=ih .atom s b (by simp only [need];omega) p g trivial
   obtain⟨q,a2,a3⟩:=eJ _ _ _ _ _ d p g trivial;simp only [dU]at a2;obtain⟨y,u⟩:=ih (.iA x.1) x.2.1 x.2.2 (by simp only [need];omega) (by omega) trivial q
   exact⟨y,by simp only [iP,d,Z,u]⟩
  |iA t=>
   simp only [need]at m;simp only [iP];split
   .exact⟨_,rfl⟩
   .rename_i c z
    obtain⟨rfl,e⟩:=fK z;have hl:s.length=s.tail.length+1:=by rw [e];simp
    split
    .exact⟨_,rfl⟩
    .exact ih _ _ _ (by simp only [need];omega) (by omega) trivial ⟨by simp,by simpa using eX i⟩
  |atom=>
   obtain⟨ad,rfl⟩:=g;cases s with
   |nil=>exact absurd rfl ad
   |cons c rr=>
    simp only [need,Ä]at m p;simp only [iP];split
    .obtain⟨x,d⟩:=ih .pat rr false (by simp only [need];omega) (by omega) trivial trivial
     exact⟨gZ x,by rw [d];rfl⟩
    .exact⟨_,rfl⟩
mutual
def dh:Tr->Int
 |.mk _ ks=>wrap .i64 (fV 0 ks+1)
def fV:Int->List Tr->Int
 |a,[]=>a
 |a,t::r=>fV (cond (decide (a<dh t)) (dh t) a) r
end
def gJ (s:O):Int×(Int×O×Bool×List Tr×Bool):=
 if s.length<=60 then
  match iP 1000 .pat s false with
  |some r=>if r.2.2=false/\r.2.1=[]/\dh (cQ r.1)<=12 then(r.1.1,r.1.2.1,r.1.2.2.1,r.1.2.2.2.1,r.1.2.2.2.2,true)else(0,0,[],false,[],false)
  |none=>(0,0,[],false,[],false)
 else(0,0,[],false,[],false)
end Go.Ev
namespace Go.Ev
open Go
def bw (c:UInt8):Bool:=decide (48<=c.toNat/\c.toNat<=57)
def fw (c:UInt8):Bool:=decide (c.toNat=32)
def iB (c:UInt8):Bool:=decide (c.toNat=48)
def cW (l:O):Nat:=l.foldl (fun a c=>a*10+(c.toNat-48)) 0
def dJ:Nat->O->Nat
 |_,[]=>0
 |u,c::l=>(c.toNat-48)*u+dJ (u/10) l
theorem YA (l:O) (c:UInt8):cW (l++[c])=cW l*10+(c.toNat-48):=by
 unfold cW;rw [î];rfl
theorem DZ: ∀(l:O) (a:Nat),l.foldl (fun a c=>a*10+(c.toNat-48)) a=a*10^l.length+cW l
 | [],a=>by simp [cW]
 |c::l,a=>by
  have b:=DZ l (a*10+(c.toNat-48));have d:=DZ l (0*10+(c.toNat-48));have f:cW (c::l)=(0*10+(c.toNat-48))*10^l.length+cW l:=d;rw [List.foldl_cons,b,f,Ä,ä,ë,ë,ĝ,Ğ (10^l.length) 10,ę];simp only [ğ,á]
theorem Ea (a b:O):cW (a++b)=cW a*10^b.length+cW b:=by
 show(a++b).foldl _ 0=_;rw [î,DZ];rfl
theorem rN (c:UInt8) (l:O):cW (c::l)=(c.toNat-48)*10^l.length+cW l:=by
 have:=Ea [c] l;rw [List.singleton_append]at this;rw [this];simp [cW]
theorem NF: ∀(l:O) (a:Nat),(∀c∈l,bw c=true)->ď a l=some (a*10^l.length+cW l)
 | [],a,_=>by simp [ď,cW]
 |c::l,a,h=>by
  have b:=h c (by simp)
  simp only [bw,decide_eq_true_eq]at b;have d:=NF l (a*10+(c.toNat-48)) fun x f=>h x (by simp [f])
  rw [ď,Lib.digitVal,if_pos b];simp only;rw [d,rN,Ä,ä,ë,Ğ (10^l.length) 10,<-ę];congr 1
  omega
theorem Eb: ∀l:O,dJ 0 l=0
 | []=>rfl
 |c::l=>by rw [dJ];simp [Eb l]
theorem Ec: ∀(l:O) (k:Nat),(∀c∈l,bw c=true)->dJ (10^k) l<10^(k+1)
 | [],k,_=>by rw [dJ];exact Nat.pow_pos (by omega)
 |c::l,k,h=>by
  have b:=h c (by simp)
  simp only [bw,decide_eq_true_eq]at b;rw [dJ];cases k with
  |zero=>
   simp [Eb]
   omega
  |succ k=>
   have f:=Ec l k fun x d=>h x (by simp [d])
   have e:10^(k+1)/10=10^k:=by rw [ä];omega
   have:(c.toNat-48)*10^(k+1)<=9*10^(k+1):=â _ (by omega)
   rw [e,ä 10 (k+1)];omega
def fh (k:Nat):O:=Ó k 48
theorem NG: ∀k,cW (fh k)=0
 |0=>rfl
 |k+1=>by
  show cW (48::fh k)=0;rw [rN,NG k];simp
theorem NH: ∀(k:Nat) (l:O),cW ((l++fh (k+1)).take (k+1))=dJ (10^k) l
 |k,[]=>by
  rw [ù,List.take_of_length_le (by simp [fh]),NG]
  rfl
 |0,c::l=>by
  rw [Û,Ø,dJ];simp [cW,Eb]
 |k+1,c::l=>by
  have e:(l++fh (k+2)).take (k+1)=(l++fh (k+1)).take (k+1):=by
   have:fh (k+2)=fh (k+1)++[48]:=List.replicate_succ';rw [this,<-ċ,List.take_append_of_le_length (by simp [fh])]
  rw [Û,Ø,rN,e,NH k l,dJ];have b:((l++fh (k+1)).take (k+1)).length=k+1:=by simp [fh]
  have d:10^(k+1)/10=10^k:=by rw [ä];omega
  rw [b,d]
def jE (s:O) (k:Nat) (neg:Bool):Int×Int:=
 let w:=(s.drop k).takeWhile bw
 let q:=match s.drop (k+w.length)with
  |c::t=>if c.toNat=46 then t.takeWhile bw else []
  | []=>[]
 let x:=cW w*1000000+dJ 100000 q
 if w=[]/\q=[]then(0,0)else if 9000000000000<x then(0,0)else(cond neg (-(x:Int)) x,((k+w.length+(if q=[]then 0 else 1+q.length):Nat):Int))
def lO (s:O):Int×Int:=
 let p:=(s.takeWhile fw).length
 match s.drop p with
 |c::_=>if c.toNat=45 then jE s (p+1) true else if c.toNat=43 then jE s (p+1) false else jE s p false
 | []=>jE s p false
noncomputable def fx (s:O):Int×Bool:=
 if(lO s).2=0 then(0,false)else cond (bo (∀c∈s.drop (lO s).2.toNat,c.toNat=32)) ((lO s).1,true) (0,false)
def PW (l:O) (x:Int):Prop:=0<=x/\x<=90009000000000/\(cW l*1000000<=9000000000000->x=cW l*1000000)/\(9000000000000<cW l*1000000->9000000000000<x)
theorem YB:PW [] 0:=by simp [PW,cW]
theorem YC {l:O} {x:Int} (h:PW l x) {c:UInt8} (f:bw c=true):PW (l++[c]) (if x<=9000000000000 then 10*x+((c.toNat:Int)-48)*1000000 else x):=by
 simp only [bw,decide_eq_true_eq]at f;obtain⟨g,i,b,j⟩:=h;unfold PW;rw [YA];by_cases d:x<=9000000000000
 .rw [if_pos d]
  have:cW l*1000000<=9000000000000:=by
   rcases Ġ 9000000000000 (cW l*1000000)with q|q
   .have:=j q;omega
   .exact q
  have:=b this;refine⟨by omega,by omega,fun _=>by omega,fun _=>by omega⟩
 .rw [if_neg d]
  have:9000000000000<cW l*1000000:=by
   rcases Ġ 9000000000000 (cW l*1000000)with q|q
   .exact q
   .have:=b q;omega
  refine⟨g,i,fun _=>by omega,fun _=>by omega⟩
theorem Ed (l:O): ∀c∈l.takeWhile bw,bw c=true:=by
 intro c b;induction l with
 |nil=>cases b
 |cons a l ih=>
  rw [Å]at b;by_cases e:bw a=true
  .rw [if_pos e]at b
   rcases Ë.1 b with rfl|b
   .exact e
   .exact ih b
  .rw [if_neg e]at b;cases b
theorem NI: ∀l:O,cW (l.dropWhile iB)=cW l
 | []=>rfl
 |c::l=>by
  rw [Ć];by_cases h:iB c=true
  .rw [if_pos h,NI l,rN]
   simp only [iB,decide_eq_true_eq]at h;rw [h];simp
  .rw [if_neg h]
theorem NJ: ∀l:O,(∀c∈l,bw c=true)->7<(l.dropWhile iB).length->10000000<=cW l
 | [],_,h=>by simp at h
 |c::l,hd,h=>by
  rw [Ć]at h;by_cases e:iB c=true
  .rw [if_pos e]at h
   have:=NJ l (fun x b=>hd x (by simp [b])) h
   rw [rN];omega
  .rw [if_neg e]at h
   have d:=hd c (by simp)
   simp only [iB,decide_eq_true_eq]at e;simp only [bw,decide_eq_true_eq]at d;simp only [Ä]at h;have f:10^7<=10^l.length:=Nat.pow_le_pow_right (by omega) (by omega)
   have g:1*10^l.length<=(c.toNat-48)*10^l.length:=â _ (by omega)
   rw [rN];omega
theorem YD (l:O) (h: ∀c∈l,bw c=true): ∀c∈l.dropWhile iB,bw c=true:=fun c b=>h c ((List.dropWhile_sublist _).subset b)
theorem YE (l:O) (h: ∀c∈l,bw c=true) (k:Nat): ∀c∈(l++fh k).take k,bw c=true:=by
 intro c b;have:=ÿ b;rcases Ç.1 this with q|q
 .exact h c q
 .unfold fh at q
  rw [List.eq_of_mem_replicate q];rfl
theorem YF (w q:O) (hw: ∀c∈w,bw c=true) (d: ∀c∈q,bw c=true):
  ó (([48]++w.dropWhile iB)++(q++fh 6).take 6)=some ((cW w*1000000+dJ 100000 q:Nat):Int):=by
 have f: ∀c∈(([48]++w.dropWhile iB)++(q++fh 6).take 6:O),bw c=true:=by
  intro c g;rcases Ç.1 g with k|k
  .rcases Ç.1 k with k|k
   .rw [Ô.1 k];rfl
   .exact YD w hw c k
  .exact YE q d 6 c k
 have b:=NF _ 0 f;have h:cW (([48]++w.dropWhile iB)++(q++fh 6).take 6:O)=cW w*1000000+dJ 100000 q:=by
  rw [Ea,Ea,NI,NH 5 q];have:((q++fh 6).take 6).length=6:=by simp [fh]
  rw [this];simp [cW]
 rw [h,ĝ,ğ]at b;have i:ó (([48]++w.dropWhile iB)++(q++fh 6).take 6)=(Ģ (([48]++w.dropWhile iB)++(q++fh 6).take 6)).map fun(m:Nat)=>(m:Int):=rfl
 rw [i];unfold Ģ;rw [if_neg (by simp),b]
 rfl
end Go.Ev
namespace Go.Ev
open Go
def Letter (b:UInt8):Prop:=(97<=b.toNat/\b.toNat<=122)\/(65<=b.toNat/\b.toNat<=90)
def yd:List O:=[[66,69,71,73,78],[112,114,105,110,116],[105,102],[101,108,115,101],[119,104,105,108,101],[110,101,120,116],[100,101,108,101,116,101],[78,82],[78,70]]
def iC:List O:=[[108,101,110,103,116,104],[115,117,98,115,116,114],[105,110,100,101,120],[105,110,116],[117,112,112,101,114],[108,111,119,101,114]]
def Key (s:O):Prop:=s∈yd\/s∈iC
def iZ (s:O):Prop:=(∀b∈s,Letter b)/\1<=s.length/\s.length<=8/\ ¬Key s
def ki (l:List O) (i:Nat):Prop:= ∀h:i<l.length,0<i->É (l[i-1]'(by omega)) l[i]=true
def aW (x:Int):Prop:=In x (-9000000000000) 9000000000000
def iD (c k:Int) (s:O) (n vars cells:Int):Prop:=
 (c=1/\aW k/\s=[])\/(c=2/\k=0)\/((c=3\/c=4\/c=5)/\0<=k/\k<vars/\s=[])\/((c=6\/c=7\/c=8\/c=35)/\0<=k/\k<cells/\s=[])\/
 ((c=24\/c=25)/\k=0/\(gJ s).2.2.2.2.2=true)\/(c=29/\1<=k/\k<=3/\s∈iC)\/((c=30\/c=31)/\0<=k/\k<=n-1/\s=[])\/(c=33/\0<=k/\k<=1/\s=[])\/
 (1<=c/\c<=36/\c≠1/\c≠2/\c≠3/\c≠4/\c≠5/\c≠6/\c≠7/\c≠8/\c≠35/\c≠24/\c≠25/\c≠29/\c≠30/\c≠31/\c≠33/\k=0/\s=[])
def fy (l:List (Int×Int×O)) (vars cells:Int):Prop:=
 1<=l.length/\l.length<=1500/\(∀h:0<l.length,(l[l.length-1]'(by omega)).1=36)/\ ∀o∈l,iD o.1 o.2.1 o.2.2 l.length vars cells
def ja (vars cells:List O) (start main:List (Int×Int×O)):Prop:=
 (∀s∈vars,iZ s)/\(∀s∈vars,s∉cells)/\(∀i,i<vars.length->ki vars i)/\(∀s∈cells,iZ s)/\(∀i,i<cells.length->ki cells i)/\vars.length<=8/\cells.length<=8/\fy start vars.length cells.length/\fy main vars.length cells.length
def gx (k x:Int) (s:O):Prop:=aW x/\s.length<=300/\((k=0/\x=0/\s=[])\/(k=1/\s=[])\/(k=2/\x=0)\/(k=3/\fx s=(x,true)))
def ea (a:Int) (s:O) (b:Int) (t:O):Prop:=a<b\/(a=b/\É s t=true)
def ot (l:List (Int×O×Int×Int×O)) (cells:Int) (i:Nat):Prop:=
 ∀h:i<l.length,0<=l[i].1/\l[i].1<cells/\l[i].2.1.length<=300/\gx l[i].2.2.1 l[i].2.2.2.1 l[i].2.2.2.2/\(0<i->ea (l[i-1]'(by omega)).1 (l[i-1]'(by omega)).2.1 l[i].1 l[i].2.1)
def kj (vs:List (Int×Int×O)) (cs:List (Int×O×Int×Int×O)) (nr err vars cells:Int):Prop:=
 (∀v∈vs,gx v.1 v.2.1 v.2.2)/\(∀i,i<cs.length->ot cs cells i)/\(vs.length:Int)=vars/\cs.length<=40/\In nr 0 1000000/\In err 0 7
def ou (vars cells:List O) (start main:List (Int×Int×O)) (vs:List (Int×Int×O)) (cs:List (Int×O×Int×Int×O)) (nr err:Int) (done:List Int) (out:O):Prop:=
 (∀x∈done,In x 0 100000)/\ja vars cells start main/\kj vs cs nr err vars.length cells.length/\done.length=3/\out.length<=1500
def dP (d seq:Int) (s:O):Prop:=(d= -1/\seq=0/\s=[])\/(0<=d/\d<=2/\1<=seq/\seq<=100000/\s.length<=60/\ ∀b∈s,b.toNat≠10)
def ox (base term:Int) (l:List (Int×Int×Int×O)):Int×Int:=match l.getLast? with|none=>(base,term)|some e=>(wrap .i64 (base+l.length),e.1)
def oy:Int->List (Int×Int×Int×O)->Prop
 |_,[]=>True
 |t,e::r=>In e.1 t 300/\dP e.2.1 e.2.2.1 e.2.2.2/\oy e.1 r
def qe (base term:Int) (l:List (Int×Int×Int×O)):Prop:=In base 0 300/\In term 0 300/\base+l.length<=300/\oy term l
def uu (vars cells:List O) (start main:List (Int×Int×O)) (tm b base d:Int) (l:List (Int×Int×Int×O)) (vs:List (Int×Int×O)) (cs:List (Int×O×Int×Int×O)) (nr err:Int) (done:List Int) (out:O):Prop:=
 In tm 0 300/\In b (-1) 4/\qe base d l/\(ox base d l).2<=tm/\ou vars cells start main vs cs nr err done out
def lP (most:Int) (e:Int×Int×Int×O):Prop:=In e.1 0 most/\dP e.2.1 e.2.2.1 e.2.2.2
def Ee (k f t tm b it d:Int) (l:List (Int×Int×Int×O)) (snap:O) (size:Int):Prop:=
 In k 1 5/\In size 1 5/\In f 0 (wrap .i64 (size-1))/\In t 0 (wrap .i64 (size-1))/\f≠t/\In tm 0 300/\In b 0 300/\In it 0 300/\In d 0 300/\(∀e∈l,lP tm e)/\l.length<=40/\snap.length<=30000
end Go.Ev
namespace Go.Ev
open Go
abbrev V:=Int×(Int×O)
abbrev VC:=Int×(O×V)
def bR (v:V):Prop:=gx v.1 v.2.1 v.2.2
def v0:V:=(0,0,[])
def nV (x:Int):V:=(1,x,[])
def tV (s:O):V:=(2,0,s)
def bV (b:Bool):V:=nV (cond b 1000000 0)
noncomputable def aJ (v:V):Int:=cond (v.1==1) v.2.1 (cond (v.1==3) v.2.1 (cond (v.1==2) (lO v.2.2).1 0))
def gK (v:V):Bool:=cond (v.1==1) (v.2.1 !=0) (cond (v.1==3) (v.2.1 !=0) (cond (v.1==2) (!(v.2.2==([]:O))) false))
noncomputable def mU (s:O):V:=cond (fx (s.take 300)).2 (3,(fx (s.take 300)).1,s.take 300) (2,0,s.take 300)
theorem eF {a:Int} (h:aW a): -9000000000000<=a/\a<=9000000000000:=h
theorem fW {a:Int} (h: -9000000000000<=a/\a<=9000000000000):aW a:=h
noncomputable def lQ (x:Int):Int×Bool:=cond (bo (aW x)) (x,true) (0,false)
noncomputable def fX (a b:Int):Int×Bool:=cond (bo (aW a/\aW b)) (lQ (a+b)) (0,false)
noncomputable def jb (a b:Int):Int×Bool:=cond (bo (aW a/\aW b)) (lQ (a-b)) (0,false)
noncomputable def hU (a b:Int):Int×Bool:=cond (bo (aW a/\aW b/\b≠0)) (lQ (ġ (a*1000000) b)) (0,false)
def fY (a b:Int):Nat:=a.natAbs*b.natAbs/1000000
noncomputable def fL (a b:Int):Int×Bool:=cond (bo (aW a/\aW b/\fY a b<=9000000000000)) (if (a<0↔b<0)then(fY a b:Int)else -(fY a b:Int),true) (0,false)
def jc (a:Int):Int:=a-ò a 1000000
theorem qf:aW 0:=fW (by omega)
theorem rO:bR v0:=⟨qf,by simp [v0],.inl ⟨rfl,rfl,rfl⟩⟩
theorem lR {x:Int} (h:aW x):bR (nV x):=⟨h,by simp [nV],.inr (.inl ⟨rfl,rfl⟩)⟩
theorem rP {s:O} (h:s.length<=300):bR (tV s):=⟨qf,h,.inr (.inr (.inl ⟨rfl,rfl⟩))⟩
theorem uw (b:Bool):bR (bV b):=by
 refine lR (fW ?_)
 cases b<;>simp
theorem ux {x:Int} (h:aW x):lQ x=(x,true):=by rw [lQ,aB h];rfl
theorem uy {x:Int} (h: ¬aW x):lQ x=(0,false):=by rw [lQ,az h];rfl
theorem Ef (x:Int):aW (lQ x).1:=by
 by_cases h:aW x
 .rw [ux h];exact h
 .rw [uy h];exact fW (by omega)
theorem YG (a b:Int):aW (fX a b).1:=by
 unfold fX;cases bo _
 .exact fW (show _/\_ by simp)
 .exact Ef _
theorem YH (a b:Int):aW (jb a b).1:=by
 unfold jb;cases bo _
 .exact fW (show _/\_ by simp)
 .exact Ef _
theorem YI (a b:Int):aW (hU a b).1:=by
 unfold hU;cases bo _
 .exact fW (show _/\_ by simp)
 .exact Ef _
theorem YJ (a b:Int):aW (fL a b).1:=by
 by_cases h:aW a/\aW b/\fY a b<=9000000000000
 .rw [fL,aB h]
  simp only [Y];split
  .exact fW (by omega)
  .exact fW (by omega)
 .rw [fL,az h];exact fW (by simp)
theorem ye (a:Int): -1000000<ò a 1000000/\ò a 1000000<1000000:=⟨by have:=Int.lt_tmod_of_pos a (show (0:Int)<1000000 by omega);omega,Int.tmod_lt_of_pos a (by omega)⟩
theorem YK {a:Int} (h:aW a):aW (jc a):=by
 have d:=eF h;have f:=Int.mul_tdiv_add_tmod a 1000000;have g:=ye a;refine fW ?_
 unfold jc;by_cases b:0<=a
 .have:=ĕ 1000000 b;omega
 .have:ò a 1000000<=0:=by
   have:=ĕ 1000000 (show 0<= -a by omega)
   rw [Int.neg_tmod]at this;omega
  omega
theorem YL (q w:O) (x:Nat) (e:Int) (neg:Bool):aW (if w=[]/\q=[]then((0:Int),(0:Int))else if 9000000000000<x then(0,0)else(cond neg (-(x:Int)) x,e)).1:=by
 split
 .exact qf
 split
 .exact qf
 .refine fW ?_
  cases neg
  .simp only [ez];omega
  .simp only [Y];omega
theorem yf (s:O) (k:Nat) (neg:Bool):aW (jE s k neg).1:=YL _ _ _ _ _
theorem NK (s:O):aW (lO s).1:=by
 unfold lO;simp only;split
 .split
  .exact yf _ _ _
  split
  .exact yf _ _ _
  .exact yf _ _ _
 .exact yf _ _ _
theorem YM (s:O):aW (fx s).1:=by
 unfold fx;split
 .exact qf
 .cases bo _
  .exact qf
  .exact NK s
theorem jF {v:V} (h:bR v):aW (aJ v):=by
 unfold aJ;cases v.1==1
 .cases v.1==3
  .cases v.1==2
   .exact qf
   .exact NK _
  .exact h.1
 .exact h.1
theorem Eg (s:O):bR (mU s):=by
 unfold mU;cases e:(fx (s.take 300)).2
 .exact rP (by simp;omega)
 .refine⟨YM _,by simp;omega,.inr (.inr (.inr ⟨rfl, ?_⟩))⟩
  simp only [Y];rw [<-e]
end Go.Ev
namespace Go.Ev
open Go
def jG (s:O):Prop:=s.Pairwise fun a b=>a.toNat<b.toNat
def yg (s:O) (neg:Bool):Prop:=s≠ []/\jG s/\((93:UInt8)∈s-> ∃p q,s=p++([92,93,94]++q))/\(neg=true\/s≠ [94])
def Eh (o c:Int) (s:O) (neg:Bool) (k:Nat):Prop:=
 (o=1/\0<=c/\c<=255/\s=[]/\neg=false/\k=0)\/(o=3/\c=0/\yg s neg/\k=0)\/((o=6\/o=7)/\c=0/\s=[]/\neg=false/\2<=k)\/
 ((o=8\/o=9\/o=10)/\c=0/\s=[]/\neg=false/\k=1)\/((o=2\/o=4\/o=5\/o=11)/\c=0/\s=[]/\neg=false/\k=0)
inductive fM:Tr->Prop
 |mk {t:Tr} (h:Eh (aF t).1 (aF t).2.1 (aF t).2.2.1 (aF t).2.2.2.1 (dO t).length) (k: ∀x∈dO t,fM x):fM t
def km (x:Nd):Prop:=Eh x.1 x.2.1 x.2.2.1 x.2.2.2.1 x.2.2.2.2.length/\ ∀k∈x.2.2.2.2,fM k
theorem yh {x:Nd} (h:km x):fM (cQ x):=.mk h.1 h.2
theorem NL {t:Tr} (h:fM t):km (aF t):=by
 obtain⟨h,k⟩:=h;exact⟨h,k⟩
mutual
def eh:Tr->Nat
 |.mk _ ks=>1+cx ks
def cx:List Tr->Nat
 | []=>0
 |k::r=>eh k+cx r
end
def jd (x:Nd):Nat:=1+cx x.2.2.2.2
theorem uz (x:Nd):eh (cQ x)=jd x:=by rw [cQ,eh,jd]
theorem NM (t:Tr):jd (aF t)=eh t:=by cases t;rw [eh];rfl
theorem Ei (t:Tr):eh t=1+cx (dO t):=by cases t;rw [eh];rfl
theorem NN (l:List Tr) (k:Tr):cx (l++[k])=cx l+eh k:=by
 induction l with
 |nil=>simp [cx]
 |cons a l ih=>rw [Û,cx,ih,cx];omega
theorem qg (k:Tr):cx [k]=eh k:=by simp [cx]
theorem qh: ∀(k:Nat) (has:List Bool) (lo i:Nat),has.length=256->i<256->(dI has lo k).getD i false=(has.getD i false||(decide (lo<=i)&&decide (i<lo+k)))
 |0,has,lo,i,b,hi=>by
  rw [dI];by_cases h:lo<=i
  .rw [hL (show ¬i<lo+0 by omega)];simp
  .rw [hL h];simp
 |k+1,has,lo,i,b,hi=>by
  rw [dI,qh k _ _ i (by simp [b]) hi]
  by_cases e:lo=i
  .subst e
   simp [b,hi]
  .have d:(has.set lo true).getD i false=has.getD i false:=by
    simp [e]
   rw [d];congr 1
   by_cases h:lo+1<=i
   .rw [hJ h,hJ (show lo<=i by omega)]
    congr 1
    simp only [á,Nat.add_comm 1 k]
   .rw [hL h,hL (show ¬lo<=i by omega)];rfl
def mV (has:List Bool):Prop:=has.length=256/\(has.getD 93 false=true->has.getD 92 false=true/\has.getD 94 false=true)
theorem Ej {has:List Bool} {lo k:Nat} (h:mV has) (d:lo<=93->93<lo+k->lo<=92/\94<lo+k):mV (dI has lo k):=by
 refine⟨by rw [ke];exact h.1,fun e=> ?_⟩
 rw [qh k has lo 93 h.1 (by omega)]at e
 rw [qh k has lo 92 h.1 (by omega),qh k has lo 94 h.1 (by omega)]
 rcases Bool.or_eq_true_iff.1 e with e|e
 .obtain⟨a,b⟩:=h.2 e
  rw [a,b];exact⟨rfl,rfl⟩
 .simp only [À,decide_eq_true_eq]at e
  obtain⟨a,b⟩:=d e.1 e.2;rw [hJ a,hJ (show 92<lo+k by omega),hJ (show lo<=94 by omega),hJ b]
  simp
theorem NP {has:List Bool} (lo k i:Nat) (b:has.length=256) (h:has.getD i false=true):(dI has lo k).getD i false=true:=by
 by_cases hi:i<256
 .rw [qh k has lo i b hi,h];rfl
 .rw [è,û (by omega)]at h;cases h
theorem yi: ∀(n:Nat) (s:O) (has:List Bool) (b:Bool),s.length<=n->(∀c∈s,c.toNat≠93)->mV has->(setB s has b).2=false->
  b=false/\mV (setB s has b).1/\(∀i,has.getD i false=true->(setB s has b).1.getD i false=true)/\(∀c r,s=c::r->(setB s has b).1.getD c.toNat false=true)
 |n,[],has,b,j,g,m,f=>by
  rw [setB]at f |-;exact⟨f,m,fun i h=>h,fun c r h=>by cases h⟩
 |0,c::r,has,b,j,g,m,f=>by simp at j
 |n+1,lo::t,has,b,j,g,m,f=>by
  have ad:=g lo (by simp)
  have p:lo.toNat<256:=lo.toNat_lt;have h1:mV (dI has lo.toNat 1):=Ej m (fun a b=>by omega)
  have one:setB (lo::t) has b=setB t (dI has lo.toNat 1) b->b=false/\mV (setB (lo::t) has b).1/\(∀i,has.getD i false=true->(setB (lo::t) has b).1.getD i false=true)/\(∀c r,lo::t=c::r->(setB (lo::t) has b).1.getD c.toNat false=true):=fun e=>by
   rw [e]at f |-;obtain⟨q,a2,a3,a4⟩:=yi n t (dI has lo.toNat 1) b (by simpa using j) (fun c h=>g c (by simp [h])) h1 f
   refine⟨q,a2,fun i h=>a3 i (NP _ _ _ m.1 h),fun c r e=> ?_⟩
   obtain⟨rfl, -⟩:=List.cons.inj e;refine a3 _ ?_
   rw [qh 1 has _ _ m.1 p];simp
  match t,j,g,f,one with
  | [],j,g,f,one=>exact one (ur _ _ _ _ (by simp))
  | [d],j,g,f,one=>exact one (ur _ _ _ _ (by simp))
  |d::hi::r,j,g,f,one=>
   by_cases hd:d.toNat=45/\hi.toNat≠93
   .rw [DW _ _ _ _ _ _ hd]at f |-
    have af:=g hi (by simp)
    by_cases u:hi.toNat<lo.toNat
    .have k: ¬(setB r (dI has lo.toNat (hi.toNat+1-lo.toNat)) (b||decide (hi.toNat<lo.toNat))).2=false:=fun f=>by
      have z:mV (dI has lo.toNat (hi.toNat+1-lo.toNat)):=Ej m (fun a b=>by omega)
      have:=(yi n r _ _ (by simp at j;omega) (fun c h=>g c (by simp [h])) z f).1
      rw [hJ u,Bool.or_true]at this;cases this
     exact absurd f k
    .have z:mV (dI has lo.toNat (hi.toNat+1-lo.toNat)):=Ej m (fun a b=>by omega)
     obtain⟨q,a2,a3,a4⟩:=yi n r _ _ (by simp at j;omega) (fun c h=>g c (by simp [h])) z f
     refine⟨(Bool.or_eq_false_iff.1 q).1,a2,fun i h=>a3 i (NP _ _ _ m.1 h),fun c r e=> ?_⟩
     obtain⟨rfl, -⟩:=List.cons.inj e;refine a3 _ ?_
     rw [qh _ has _ _ m.1 p,hJ (Ì _),hJ (show lo.toNat<lo.toNat+(hi.toNat+1-lo.toNat) by omega)];simp
   .exact one (DU _ _ _ _ _ _ hd)
theorem yj (has:List Bool): ∀(k:Nat),k<=256-> ∀c:UInt8,c∈bytesOf has k↔c.toNat<k/\has.getD c.toNat false=true
 |0,_,c=>by simp [bytesOf]
 |k+1,hk,c=>by
  rw [bytesOf,Ç,yj has k (by omega) c]
  have hu:(Í k).toNat=k:=by simp;omega
  constructor
  .rintro(⟨f,b⟩|h)
   .exact⟨by omega,b⟩
   .cases e:has.getD k false
    .rw [e]at h;cases h
    .rw [e,Y,Ô]at h
     subst h;rw [hu];exact⟨by omega,e⟩
  .rintro⟨f,b⟩
   by_cases e:c.toNat<k
   .exact .inl ⟨e,b⟩
   .have d:c.toNat=k:=by omega
    rw [d]at b;right
    rw [b,Y,Ô,<-d];simp
theorem NQ (has:List Bool): ∀(k:Nat),k<=256->jG (bytesOf has k)
 |0,_=>by simp [bytesOf,jG]
 |k+1,hk=>by
  rw [bytesOf,jG,List.pairwise_append];refine⟨NQ has k (by omega), ?_,fun a f b d=> ?_⟩
  .cases has.getD k false<;>simp
  .have:=((yj has k (by omega) a).1 f).1
   cases e:has.getD k false
   .rw [e]at d;cases d
   .rw [e,Y,Ô]at d
    subst d;simp;omega
theorem NR (has:List Bool) (k:Nat): ∀m,∃q,bytesOf has (k+m)=bytesOf has k++q
 |0=>⟨[],by simp⟩
 |m+1=>by
  obtain⟨q,h⟩:=NR has k m;exact⟨q++cond (has.getD (k+m) false) [Í (k+m)] [],by rw [<-á,bytesOf,h,ċ]⟩
theorem YN:mV dF:=⟨rM,fun h=>absurd h (by decide +kernel)⟩
theorem YO (s:O):(bI s).2=false-> ∀c r,(bI s).1=c::r->c.toNat≠94:=by
 cases s with
 |nil=>intro _ c r h;cases h
 |cons a l=>
  intro h c r e;by_cases k:a.toNat=94
  .rw [bI,if_pos k]at h;cases h
  .rw [bI,if_neg k]at e
   cases e;exact k
theorem YP (s:O) (h:(fI s).2.2=false):km (fI s).1/\jd (fI s).1=1:=by
 unfold fI at h |-;simp only at h |-;by_cases e:((bI s).1.takeWhile aK).length=(bI s).1.length\/(bI s).1.takeWhile aK=[]
 .rw [if_pos e]at h;cases h
 .rw [if_neg e]at h |-
  refine⟨⟨.inr (.inl ⟨rfl,rfl, ?_,rfl⟩),fun k hk=>by cases hk⟩,rfl⟩
  obtain⟨a1,a2,a3,a4⟩:=yi _ ((bI s).1.takeWhile aK) dF false (Ì _) (fun c d=>DY _ c d) YN h
  obtain⟨c,r,b⟩: ∃c r,(bI s).1.takeWhile aK=c::r:=by
   cases k:(bI s).1.takeWhile aK with
   |nil=>exact absurd (.inr k) e
   |cons c r=>exact⟨c,r,rfl⟩
  have hm:=(yj _ 256 (by omega) c).2 ⟨c.toNat_lt,a4 c r b⟩
  refine⟨fun k=> ?_,NQ _ 256 (by omega),fun f=> ?_, ?_⟩
  .dsimp only at k
   rw [k]at hm;cases hm
  .have j:=((yj _ 256 (by omega) (93:UInt8)).1 f).2
   obtain⟨t,u⟩:=a2.2 j;obtain⟨q,z⟩:=NR (setB ((bI s).1.takeWhile aK) dF false).1 95 161;refine⟨bytesOf (setB ((bI s).1.takeWhile aK) dF false).1 92,q, ?_⟩
   rw [z,bytesOf,bytesOf,bytesOf,u,t,show((setB ((bI s).1.takeWhile aK) dF false).1.getD 93 false)=true from j];simp
  .by_cases m:(bI s).2=true
   .exact .inl m
   .right
    intro k;dsimp only at k
    rw [k,Ô]at hm;have d:=YO s (by simpa using m) c
    have: ∃g,(bI s).1=c::g:=by
     cases p:(bI s).1 with
     |nil=>rw [p]at b;cases b
     |cons a l=>
      rw [p,Å]at b;split at b
      .cases b;exact⟨l,rfl⟩
      .cases b
    obtain⟨g,i⟩:=this;exact d g i (by rw [hm];rfl)
theorem yk {o:Int} (h:o=2\/o=4\/o=5\/o=11):km (leaf o 0):=⟨.inr (.inr (.inr (.inr ⟨h,rfl,rfl,rfl,rfl⟩))),fun k hk=>by cases hk⟩
theorem NS (d:UInt8):km (leaf 1 d.toNat):=⟨.inl ⟨rfl,by show(0:Int)<=(d.toNat:Int);omega,by have:=d.toNat_lt;show(d.toNat:Int)<=255;omega,rfl,rfl,rfl⟩,fun k hk=>by cases hk⟩
theorem YQ (c:UInt8) (r:O) (h:(kf c r).2.2=false):km (kf c r).1/\jd (kf c r).1=1:=by
 unfold kf at h |-;split
 .exact⟨yk (by simp),rfl⟩
 split
 .exact⟨yk (by simp),rfl⟩
 split
 .exact⟨yk (by simp),rfl⟩
 split
 .rename_i b f g i
  rw [if_neg b,if_neg f,if_neg g,if_pos i]at h;exact YP r h
 split
 .rename_i b f g i j
  rw [if_neg b,if_neg f,if_neg g,if_neg i,if_pos j]at h;cases r with
  |nil=>cases h
  |cons d r=>exact⟨NS d,rfl⟩
 split
 .rename_i b f g i j k
  rw [if_neg b,if_neg f,if_neg g,if_neg i,if_neg j,if_pos k]at h;cases h
 .exact⟨NS c,rfl⟩
theorem YR (x:Nd×O×Bool) (h:(gZ x).2.2=false):x.2.2=false/\(gZ x).2.1.length+1<=x.2.1.length:=by
 unfold gZ at h |-;cases e:eP x.2.1 x.2.2 with
 |none=>rw [e]at h;cases h
 |some d=>
  rw [e]at h;obtain⟨k1,k2⟩:=fK e;simp only at h |-;by_cases hd:d.toNat=41
  .rw [if_pos hd]
   refine⟨k1, ?_⟩
   rw [k2];simp
  .rw [if_neg hd]at h;cases h
theorem NT {ks:List Tr} (d:ks≠ []) (h: ∀k∈ks,fM k):km (gY ks)/\jd (gY ks)<=cx ks+1:=by
 match ks,d,h with
 | [k],_,h=>exact⟨NL (h k (by simp)),by rw [gY,NM,qg];omega⟩
 |a::b::r,_,h=>exact⟨⟨.inr (.inr (.inl ⟨.inr rfl,rfl,rfl,rfl,by simp [gY]⟩)),h⟩,by simp only [gY,jd];omega⟩
theorem YS {ks:List Tr} (h: ∀k∈ks,fM k):km (gw ks)/\jd (gw ks)<=cx ks+1:=by
 match ks,h with
 | [],_=>exact⟨yk (o:=11) (by simp),by simp [gw,jd,cx]⟩
 | [k],h=>exact⟨NL (h k (by simp)),by rw [gw,NM,qg];omega⟩
 |a::b::r,h=>exact⟨⟨.inr (.inr (.inl ⟨.inl rfl,rfl,rfl,rfl,by simp [gw]⟩)),h⟩,by simp only [gw,jd];omega⟩
def YT:Md->Prop
 |.fJ ks=>ks≠ []/\ ∀k∈ks,fM k
 |.fg ks=> ∀k∈ks,fM k
 |.iA t=>km t
 |_=>True
def hY:Md->Nat
 |.pat=>10
 |.fJ ks=>cx ks+9
 |.part=>9
 |.fg ks=>cx ks+9
 |.piece=>5
 |.iA t=>jd t+8
 |.atom=>5
theorem NU {ks:List Tr} {x:Nd} (h: ∀k∈ks,fM k) (b:km x): ∀k∈ks++[cQ x],fM k:=fun k hk=>by
 rcases Ç.1 hk with hk|hk
 .exact h k hk
 .rw [Ô.1 hk];exact yh b
theorem YU {c:UInt8} (h:gI c≠0):gI c=8\/gI c=9\/gI c=10:=by
 unfold gI at h |-;repeat' split
 all_goals simp_all
theorem YV: ∀f md s b r,iP f md s b=some r->s.length<=60->lN md s b->kh md s->YT md->r.2.2=false->km r.1/\jd r.1+4*r.2.1.length+8<=4*s.length+hY md:=by
 intro f;induction f with
 |zero=>intro md s b r h;simp [iP]at h
 |succ f ih=>
  intro md s b r h hs m u hR d;cases md with
  |pat=>
   simp only [iP,Â]at h;obtain⟨x,i,j⟩:=h;obtain⟨a1,a2,a3⟩:=eJ _ _ _ _ _ i hs trivial trivial;simp only [dU]at a2;have g:kh (.fJ [cQ x.1]) x.2.1:=⟨by simp;omega,by simpa using eX a1⟩
   have c3:=(eJ _ _ _ _ _ j (by omega) trivial g).2.2
   have hx:x.2.2=false:=by
    cases e:x.2.2
    .rfl
    .rw [c3 e]at d;cases d
   obtain⟨p1,p2⟩:=ih _ _ _ _ i hs trivial trivial trivial hx;obtain⟨q1,q2⟩:=ih _ _ _ _ j (by omega) trivial g ⟨by simp,by simpa using yh p1⟩ d
   simp only [hY,qg,uz]at p2 q2 |-;exact⟨q1,by omega⟩
  |fJ ks=>
   simp only [iP]at h;split at h
   .cases h
    obtain⟨p,q⟩:=NT hR.1 hR.2;exact⟨p,by simp only [hY];omega⟩
   .rename_i c hn
    obtain⟨rfl,e⟩:=fK hn;have hl:s.length=s.tail.length+1:=by rw [e];simp
    split at h
    .simp only [Â]at h
     obtain⟨x,i,j⟩:=h;obtain⟨a1,a2,a3⟩:=eJ _ _ _ _ _ i (by omega) trivial trivial
     simp only [dU]at a2;have g:kh (.fJ (ks++[cQ x.1])) x.2.1:=⟨by have:=u.1;simp;omega,by
      intro k hk;rcases Ç.1 hk with hk|hk
      .exact u.2 k hk
      .simp at hk;subst hk;exact eX a1⟩
     have c3:=(eJ _ _ _ _ _ j (by omega) trivial g).2.2
     have hx:x.2.2=false:=by
      cases e:x.2.2
      .rfl
      .rw [c3 e]at d;cases d
     obtain⟨p1,p2⟩:=ih _ _ _ _ i (by omega) trivial trivial trivial hx
     obtain⟨q1,q2⟩:=ih _ _ _ _ j (by omega) trivial g ⟨by simp,NU hR.2 p1⟩ d
     simp only [hY,NN,uz]at p2 q2 |-;exact⟨q1,by omega⟩
    .cases h
     obtain⟨p,q⟩:=NT hR.1 hR.2;exact⟨p,by simp only [hY];omega⟩
  |part=>
   simp only [iP]at h;obtain⟨p,q⟩:=ih (.fg []) _ _ _ h hs trivial ⟨by simp;omega,by simp⟩ (fun k hk=>by cases hk) d
   exact⟨p,by simp only [hY,cx]at q |-;omega⟩
  |fg ks=>
   simp only [iP]at h;have stop:km (gw ks)/\jd (gw ks)+4*s.length+8<=4*s.length+hY (.fg ks):=by
    obtain⟨p,q⟩:=YS (ks:=ks) hR;exact⟨p,by simp only [hY];omega⟩
   split at h
   .cases h;exact stop
   .rename_i c hn
    obtain⟨rfl,e⟩:=fK hn;split at h
    .cases h;exact stop
    .simp only [Â]at h
     obtain⟨x,i,j⟩:=h;have z:lN .piece s false:=⟨by rw [e];simp,rfl⟩
     obtain⟨a1,a2,a3⟩:=eJ _ _ _ _ _ i hs z trivial;simp only [dU]at a2;have g:kh (.fg (ks++[cQ x.1])) x.2.1:=⟨by have:=u.1;simp;omega,by
      intro k hk;rcases Ç.1 hk with hk|hk
      .exact u.2 k hk
      .simp at hk;subst hk;exact eX a1⟩
     have c3:=(eJ _ _ _ _ _ j (by omega) trivial g).2.2
     have hx:x.2.2=false:=by
      cases e:x.2.2
      .rfl
      .rw [c3 e]at d;cases d
     obtain⟨p1,p2⟩:=ih _ _ _ _ i hs z trivial trivial hx;obtain⟨q1,q2⟩:=ih _ _ _ _ j (by omega) trivial g (NU hR p1) d
     simp only [hY,NN,uz]at p2 q2 |-;exact⟨q1,by omega⟩
  |piece=>
   simp only [iP,Â]at h;obtain⟨x,i,j⟩:=h;obtain⟨a1,a2,a3⟩:=eJ _ _ _ _ _ i hs m trivial;simp only [dU]at a2;have c3:=(eJ _ _ _ _ _ j (by omega) trivial a1).2.2
   have hx:x.2.2=false:=by
    cases e:x.2.2
    .rfl
    .rw [c3 e]at d;cases d
   obtain⟨p1,p2⟩:=ih _ _ _ _ i hs m trivial trivial hx;obtain⟨q1,q2⟩:=ih _ _ _ _ j (by omega) trivial a1 p1 d
   simp only [hY]at p2 q2 |-;exact⟨q1,by omega⟩
  |iA t=>
   simp only [iP]at h;split at h
   .cases h;exact⟨hR,by simp only [hY];omega⟩
   .rename_i c hn
    obtain⟨rfl,e⟩:=fK hn;have hl:s.length=s.tail.length+1:=by rw [e];simp
    split at h
    .cases h;exact⟨hR,by simp only [hY];omega⟩
    .rename_i al
     obtain⟨q1,q2⟩:=ih _ _ _ _ h (by omega) trivial ⟨by simp,by simpa using eX u⟩ ⟨.inr (.inr (.inr (.inl ⟨YU al,rfl,rfl,rfl,rfl⟩))),by simpa using yh hR⟩ d
     simp only [hY,jd,qg,uz]at q2 |-;exact⟨q1,by omega⟩
  |atom=>
   obtain⟨ao,rfl⟩:=m;cases s with
   |nil=>exact absurd rfl ao
   |cons c rr=>
    simp only [Ä]at hs;simp only [iP]at h;split at h
    .simp only [Â]at h
     obtain⟨x,i,j⟩:=h;cases j;obtain⟨e1,e2⟩:=YR x d;obtain⟨p1,p2⟩:=ih _ _ _ _ i (by omega) trivial trivial trivial e1
     rw [(ND x).1];simp only [hY,Ä]at p2 |-;exact⟨p1,by omega⟩
    .cases h
     obtain⟨e1,e2⟩:=YQ c rr d;have e3:=(NC c rr).2;rw [e2];simp only [hY,Ä];exact⟨e1,by omega⟩
end Go.Ev
namespace Go.Ev
open Go
abbrev Pl:=Int×(Int×O×Bool×Int×Int)
def ei (p:Pl) (k:Int) (b e:Bool):List Int:=
 if p.1=6 then [p.2.2.2.2.1]else if p.1=7 then [p.2.2.2.2.1,p.2.2.2.2.2]else if p.1=4 then cond b [k+1] []else if p.1=5 then cond e [k+1] []else []
theorem YW (p:Pl) (k:Int) (b e:Bool):(ei p k b e).length<=2:=by
 unfold ei;repeat' split
 .simp
 .simp
 .cases b<;>simp
 .cases e<;>simp
 .simp
inductive kM (l:List Pl) (at0:List Int) (b e:Bool):Nat->Prop
 |base {i:Nat} (h:(i:Int)∈at0) (hi:i<l.length):kM l at0 b e i
 |step {k j:Nat} (hk:kM l at0 b e k) (h:k<l.length) (hj:(j:Int)∈ei l[k] k b e) (ca:j<l.length):kM l at0 b e j
noncomputable def fN (l:List Pl) (at0:List Int) (b e:Bool):List Int:=((ø l.length).filter fun i=>bo (kM l at0 b e i)).map Int.ofNat
theorem NV {l:List Pl} {at0:List Int} {b e:Bool} {x:Int}:x∈fN l at0 b e↔ ∃i:Nat,x=(i:Int)/\i<l.length/\kM l at0 b e i:=by
 unfold fN;simp only [List.mem_map,List.mem_filter,ß,rI];constructor
 .rintro⟨i,⟨d,f⟩,rfl⟩;exact⟨i,rfl,d,f⟩
 .rintro⟨i,rfl,d,f⟩;exact⟨i,⟨d,f⟩,rfl⟩
theorem Ek (l:List Pl) (at0:List Int) (b e:Bool):(fN l at0 b e).Pairwise fun x y=>x<y:=by
 unfold fN;rw [List.pairwise_map];refine List.Pairwise.filter _ (List.pairwise_lt_range.imp fun h=> ?_)
 exact Int.ofNat_lt.2 h
theorem YX (l:List Pl) (at0:List Int) (b e:Bool):(fN l at0 b e).length<=l.length:=by
 unfold fN;rw [List.length_map];have:=List.length_filter_le (fun i=>bo (kM l at0 b e i)) (ø l.length)
 rwa [List.length_range]at this
theorem YY {l:List Pl} {at0:List Int} {b e:Bool} {out:List Int} (g:out.Nodup) (hm: ∀x,x∈out↔x∈fN l at0 b e):jC out=fN l at0 b e:=by
 unfold jC;have hp:(out.mergeSort fun a b=>decide (a<=b)).Perm (fN l at0 b e):=(List.mergeSort_perm _ _).trans ((List.perm_ext_iff_of_nodup g ((Ek l at0 b e).imp fun h=>by omega)).2 hm)
 refine List.Perm.eq_of_pairwise (le:=fun x y:Int=>x<=y) (fun a b _ _ d f=>Int.le_antisymm d f) ?_ ((Ek l at0 b e).imp fun h=>by omega) hp
 refine(List.pairwise_mergeSort (le:=fun a b:Int=>decide (a<=b)) (fun a b c d f=> ?_) (fun a b=> ?_) out).imp fun h=> ?_
 .simp only [decide_eq_true_eq]at d f |-;omega
 .simp only [ú,decide_eq_true_eq];omega
 .simpa using h
theorem NW {l:List Pl} {at0:List Int} {b e:Bool} {M:Nat->Prop} (d: ∀i,i<l.length->M i->kM l at0 b e i) (f: ∀i:Nat,(i:Int)∈at0->i<l.length->M i)
  (g: ∀k,(h:k<l.length)->M k-> ∀j:Nat,(j:Int)∈ei l[k] k b e->j<l.length->M j) {i:Nat} (hi:i<l.length):M i↔kM l at0 b e i:=by
 refine⟨d i hi,fun h=> ?_⟩
 clear hi;induction h with
 |base h hi=>exact f _ h hi
 |step hk h hj ca ih=>exact g _ h ih _ hj ca
end Go.Ev
namespace Go.Ev
open Go
theorem NY: ∀s t u:O,É s t=true->É t u=true->É s u=true
 |_,t,[],_,h=>by
  rw [show É t []=false by cases t<;>rfl]at h
  cases h
 | [],_,c::u,_,_=>by simp [É]
 |a::s,[],c::u,h,_=>by simp [É]at h
 |a::s,b::t,c::u,h,k=>by
  rw [É]at h k |-;simp only [ú,À,decide_eq_true_eq,beq_iff_eq,ü]at h k |-;rcases h with h|⟨rfl,h⟩<;>rcases k with k|⟨rfl,k⟩
  .left;omega
  .left;exact h
  .left;exact k
  .right;exact⟨rfl,NY s t u h k⟩
theorem NZ: ∀s t:O,É s t=true\/s=t\/É t s=true
 | [],[]=>.inr (.inl rfl)
 | [],b::t=>.inl (by simp [É])
 |a::s,[]=>.inr (.inr (by simp [É]))
 |a::s,b::t=>by
  rw [É,É];simp only [ú,À,decide_eq_true_eq,beq_iff_eq,ü,List.cons.injEq];by_cases e:a=b
  .subst e
   rcases NZ s t with h|rfl|h
   .exact .inl (.inr ⟨rfl,h⟩)
   .exact .inr (.inl ⟨rfl,rfl⟩)
   .exact .inr (.inr (.inr ⟨rfl,h⟩))
  .have:a.toNat≠b.toNat:=fun k=>e (Ĕ.1 k)
   by_cases l:a.toNat<b.toNat
   .exact .inl (.inl l)
   .exact .inr (.inr (.inl (by omega)))
theorem El {a:Int} {s:O} {b:Int} {t:O} {c:Int} {u:O} (h:ea a s b t) (k:ea b t c u):ea a s c u:=by
 rcases h with h|⟨f,d⟩<;>rcases k with k|⟨k1,k2⟩
 .exact .inl (by omega)
 .exact .inl (by omega)
 .exact .inl (by omega)
 .exact .inr ⟨by omega,NY s t u d k2⟩
theorem YZ (a:Int) (s:O) (b:Int) (t:O):ea a s b t\/(a=b/\s=t)\/ea b t a s:=by
 by_cases h:a<b
 .exact .inl (.inl h)
 by_cases k:b<a
 .exact .inr (.inr (.inl k))
 rcases NZ s t with q|q|q
 .exact .inl (.inr ⟨by omega,q⟩)
 .exact .inr (.inl ⟨by omega,q⟩)
 .exact .inr (.inr (.inr ⟨by omega,q⟩))
def CW (cells:Int) (c:VC):Prop:=0<=c.1/\c.1<cells/\c.2.1.length<=300/\bR c.2.2
def CL (a b:VC):Prop:=ea a.1 a.2.1 b.1 b.2.1
theorem Oa {α:Type} {R:α->α->Prop} (g: ∀a b c,R a b->R b c->R a c): ∀ {l:List α},(∀i (h:i<l.length),(k:0<i)->R (l[i-1]'(by omega)) l[i])->l.Pairwise R
 | [],_=>List.Pairwise.nil
 | [a],_=>List.pairwise_singleton R a
 |a::b::l,h=>by
  have ih:(b::l).Pairwise R:=Oa g fun i hi k=>by
   have:=h (i+1) (by simp at hi |-;omega) (by omega)
   obtain⟨j,rfl⟩: ∃j,i=j+1:=⟨i-1,by omega⟩
   simpa using this
  have d:R a b:=h 1 (by simp) (by omega)
  rw [ĉ];refine⟨fun c f=> ?_,ih⟩
  rcases Ë.1 f with rfl|f
  .exact d
  .exact g _ _ _ d ((ĉ.1 ih).1 c f)
theorem Ob {cs:List VC} {cells:Int}:(∀i,i<cs.length->ot cs cells i)↔(∀c∈cs,CW cells c)/\cs.Pairwise CL:=by
 constructor
 .intro h
  refine⟨fun c g=> ?_,Oa (R:=CL) (fun a b c h k=>El h k) fun i hi f=>(h i hi hi).2.2.2.2 f⟩
  obtain⟨j,hj,rfl⟩:=Õ.1 g;obtain⟨a,b,c,d, -⟩:=h j hj hj;exact⟨a,b,c,d⟩
 .rintro⟨m,p⟩ i hi q
  obtain⟨a,b,c,d⟩:=m _ (ô hi);exact⟨a,b,c,d,fun f=>List.pairwise_iff_getElem.1 p (i-1) i (by omega) hi (by omega)⟩
end Go.Ev
namespace Go.Ev
theorem Em {α b:Type} {P:b->Prop} {f:b->α->b}: ∀(l:List α) (s:b),P s->(∀s,∀x∈l,P s->P (f s x))->P (l.foldl f s)
 | [],_,h,_=>h
 |x::l,s,h,k=>Em l (f s x) (k s x (by simp) h) fun s y hy=>k s y (by simp [hy])
theorem Oc {α d t:Type} {l:List α} (hl:l.length<=1048576) (f:d->α->d) (P:d->Prop) {b:d} (u:P b) (z: ∀s,∀x∈l,P s->P (f s x)) {r:d->t} {L:Nat->Nat->Int->d->Option t}
  (k: ∀s,P s-> ∀(i:Nat) (hi:i<l.length),W fun n=> ∀m,L n (m+1) (i:Int) s=L n m (wrap .i64 ((i:Int)+(1:Int))) (f s l[i]))
  (he: ∀n m s,L n (m+1) (l.length:Int) s=some (r s)):W fun n=>L n n 0 b=some (r (l.foldl f b)):=by
 have q: ∀i,P ((l.take i).foldl f b):=fun i=>Em (l.take i) b u fun s x k=>z s x (ÿ k)
 have g:W fun n=> ∀i∈ø l.length,∀(hi:i<l.length) m,L n (m+1) (i:Int) ((l.take i).foldl f b)=L n m (wrap .i64 ((i:Int)+(1:Int))) (f ((l.take i).foldl f b) l[i]):=
  W.all (p:=fun i n=> ∀(hi:i<l.length) m,L n (m+1) (i:Int) ((l.take i).foldl f b)=L n m (wrap .i64 ((i:Int)+(1:Int))) (f ((l.take i).foldl f b) l[i])) (ø l.length) fun i hi=>(k _ (q i) i (ß.1 hi)).mono fun n h _ m=>h m
 have:=jZ (len:=l.length) (L:=fun n m i s=>L n m (i:Int) s) (fun i s=>s=(l.take i).foldl f b) (fun x=>x=r (l.foldl f b)) ?_ ?_
 .exact this.mono fun n h=>by
   obtain⟨x,h1,h2⟩:=h b rfl;rw [<-h2];exact h1
 .refine g.mono fun n h m i s hi j=>.inr ⟨f s l[i], ?_, ?_⟩
  .subst j
   rw [<-dy hi (by omega)]
   exact h i (ß.2 hi) hi m
  .subst j
   rw [List.take_succ_eq_append_getElem hi,î];rfl
 .exact W.of fun n m s j=>⟨_,he n m s,by rw [j,č]⟩
end Go.Ev
namespace Go.Ev
open Go
end Go.Ev
namespace Go.Ev
open Go
def oz (P:Program):Nat->List FuncId->Nat->List FuncId->List FuncId
 |0,_,_,seen=>seen.reverse
 |_+1,[],_,seen=>seen.reverse
 |n+1,f::todo,m,seen=>cond (Ā m f) (oz P n todo m seen)
  (match m |||1 <<<f with
   |0=>oz P n ((P.funcs[f]?).elim [] P.leadsTo++todo) 0 (f::seen)
   |k+1=>oz P n ((P.funcs[f]?).elim [] P.leadsTo++todo) (k+1) (f::seen))
theorem yl {P:Program}: ∀(n:Nat) (todo:List FuncId) (m:Nat) (seen:List FuncId),(∀g:Nat,Ě seen g=Ā m g)->P.closureVia n todo seen=oz P n todo m seen
 |0,_,_,_,_=>by simp [é,oz]
 |n+1,[],_,_,_=>by simp [é,oz]
 |n+1,f::todo,m,seen,h=>by
  simp only [é,oz];rw [h f];cases d:Ā m f with
  |true=>simp only [if_true,Y];exact yl n todo m seen h
  |false=>
   simp only [Ê,if_false,ez];have k: ∀g:Nat,Ě (f::seen) g=Ā (m |||1 <<<f) g:=by
    intro g;rw [List.contains_cons,h g,Nat.testBit_or,Nat.one_shiftLeft,Nat.testBit_two_pow];by_cases e:g=f
    .subst e;simp
    .have b: ¬f=g:=fun x=>e x.symm
     simp [e,b]
   generalize m |||1 <<<f=q at k
   cases q with
   |zero=>exact yl n _ 0 _ k
   |succ q=>exact yl n _ (q+1) _ k
def mW (P:Program) (f:FuncId):List FuncId:=oz P (1+(P.funcs.toList.map fun g=>(P.leadsTo g).length+1).sum) [f] 0 []
theorem rQ (P:Program) (f:FuncId):P.closure f=mW P f:=yl _ _ _ _ fun g=>by simp
def uA (P:Program) (f:FuncId):Bool:=(mW P f).any fun g=>(P.funcs[g]?).any fun fn=>match fn.body with|some c=>c.unfollowed|none=>entryCalls fn
theorem ym (P:Program) (f:FuncId):P.unfollowed f=uA P f:=by
 unfold ģ uA;rw [rQ];rfl
def En (P:Program) (f:FuncId):Bool:=((mW P f).any fun g=>(P.funcs[g]?).any Func.goes)||(uA P f&&P.funcs.any Func.goes)
theorem Za (P:Program) (f:FuncId):P.goes f=En P f:=by
 unfold Ī En;rw [rQ,ym]
def Eo (P:Program) (f:FuncId):Bool:=uA P f||(mW P f).any fun g=>((P.funcs[g]?).elim [] P.leadsTo).any fun h=>(mW P h).contains g
theorem Zb (P:Program) (f:FuncId):P.recurses f=Eo P f:=by
 unfold Ĩ Eo;rw [ym,rQ];simp only [rQ]
def Ep (P:Program) (f:FuncId):List String:=(mW P f).filterMap fun g=>(P.funcs[g]?).bind fun fn=>if fn.ours||fn.body.isNone||fn.name== "runtime.NumGoroutine" then some fn.name else none
theorem Zc (P:Program) (f:FuncId):P.inPlace f=Ep P f:=by
 unfold ĩ Ep;rw [rQ]
def Er (P:Program) (f:FuncId):List String:=
 ((((mW P f).flatMap fun g=>((P.funcs[g]?).bind (·.body)).elim [] Code.globalsNamed).eraseDups).filterMap (fun g=>(P.globals[g]?).map (·.name))++
  (mW P f).filterMap fun g=>(P.funcs[g]?).bind fun fn=>if fn.body.isNone then entryReads.lookup fn.name else none).eraseDups
theorem Zd (P:Program) (f:FuncId):P.varsNamed f=Er P f:=by
 unfold ĥ Er;rw [rQ]
end Go.Ev
