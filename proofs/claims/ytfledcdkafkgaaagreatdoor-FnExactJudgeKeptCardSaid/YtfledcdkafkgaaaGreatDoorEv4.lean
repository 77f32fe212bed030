/- A verified evaluator of the machine's code, part 4: no program in sight. -/
import Derived.Test.YtfledcdkafkgaaaGreatDoorEv3
import Derived.ChangeKeysEq
import Derived.ChangeArms
import Derived.WideShapes
import Derived.Carry
import Derived.Below
import Derived.IntWalk
import Derived.Lib.ItoaLen
import Derived.Lib.LaidTab
import Derived.Sort.Grow
import Derived.Deep.Draws
import Derived.Lib.Bytealg
import Derived.Lib.Strings
import Derived.Lib.AtoiErrMem
import Derived.Lib.AtoiBound
import Derived.Lib.Atoi
open List renaming append_assoc->À,length_cons->Å,takeWhile_cons->Ç,mem_append->È,getElem?_eq_getElem->Ë,mem_cons->Ñ,mem_singleton->Ó,mem_iff_getElem->Ô,length->Õ,flatMap_cons->Ö,take_succ_eq_append_getElem->Ø,map_cons->Ù,getElem?_cons_zero->Ú,cons_append->Û,replicate->Ü,map_nil->Ý,getElem_mem->Γ,take_succ_cons->Δ,getElem?_cons_succ->Η,mem_range->Ι,drop_succ_cons->Μ,flatMap_append->Ν,getElem?_take->Ξ,take_length->Ψ,append_eq_nil_iff->ζ,sum_replicate_nat->η,range->ι,take_append_drop->π,getElem?_eq_none->σ,drop_drop->υ,mem_of_mem_take->χ,length_flatMap->ϊ,map_congr_left->ϋ,dropWhile_cons->ό,getElem?_drop->Ϗ,pairwise_cons->ϗ,ext_getElem?->Ϙ,getElem?_set->Ϛ,isEmpty_iff->Ϝ,map_const'->Ϡ,nil_append->ϡ,append_nil->Ϣ,isPrefixOf->ϣ,take_add->ϧ,isEmpty->ϩ
open Option renaming bind_eq_some_iff->Á,map_eq_some_iff->Î
open Bool renaming and_eq_true->Â,false_eq_true->Ò,not_eq_true'->Τ,or_eq_true->ο,and_true->ύ,not_true->ώ,false_or->Ϧ
open Nat renaming eq_of_beq_eq_true->Ã,le_refl->Ï,beq->Ð,mul_le_mul_right->Β,ble->Θ,le_of_ble_eq_true->Κ,add_assoc->Φ,not_lt_zero->κ,strongRecOn->ν,add_mul->φ,pow_succ->ϙ,zero_le->Ϟ,sub_self->Ϫ
open Option.some renaming injEq->Ä,inj->Α
open UInt8 renaming ofNat->Æ,toNat_ofNat'->Ε,toNat_inj->ξ,lt_iff_toNat_lt->τ,toNat->Ϭ
open Prod.mk renaming injEq->É
open Go.Lib renaming indexByte->Ê,compareBytes->Ì,itoa->Ρ,decDigits->Χ,atoi->ε,TabIs->ω,decFrom->ϟ,pow10Tab->Ϩ,decNat->ϭ
open Go.Op renaming bytesLess->Í,eqFields->ϝ
open Classical renaming propDecidable->Ζ,byContradiction->ϥ
open Go.IntKind renaming wrap_i64->Λ,wrap_u8->ϯ
open Array renaming getElem?_eq_some_iff->Ο
open Sum renaming inl->Υ,inr->Ϯ
open Int renaming tmod->Ω,toNat->ψ,toNat_natCast->ϛ,tmod_nonneg->Ϥ,tdiv->ϫ
open Bool renaming true->å,false->ä
open Option renaming some->ã,none->â
open Decidable renaming decide->á
open Go.IntKind renaming i64->ß,wrap->Þ
open Go.IntKind
namespace Go.Ev
def tu (t:TypeId):List (TypeId×TyI)->Option TyI
 | []=>â
 |(a,i)::r=>cond (Ð a t) (ã i) (tu t r)
def tw (P:Program):List Field->List (Nat×TypeId)->Bool
 | [],[]=>å
 |f::fs,(off,t)::r=>Ð f.offset off&&(Ð f.type t&&((match P.info? t with|some inf=> !(Ð inf.size 0)|none=>ä)&&tw P fs r))
 |_,_=>ä
def Hu (P:Program) (t:TypeId):U->Bool
 |.bool=>match P.underlying t with|some .bool=>å|_=>ä
 |.int k=>match P.underlying t with|some (.int k')=>á (k'=k)|_=>ä
 |.str=>match P.underlying t with|some .string=>å|_=>ä
 |.slice e=>match P.underlying t with|some (.slice b)=>Ð b e|_=>ä
 |.struct fs=>match P.underlying t with|some (.struct fields)=>tw P fields.toList fs|_=>ä
 |.ptr=>match P.underlying t with|some (.pointer _)=>å|_=>ä
 |.func=>match P.underlying t with|some (.func _ _ _)=>å|_=>ä
 |.iface=>match P.underlying t with|some (.interface _)=>å|_=>ä
 |.other=>ä
def RM (u:U) (z:Value):Bool:=match u,z with
 |.struct _,.agg _=>å
 |.struct _,_=>ä
 |_,z=>cx z
def RN (P:Program) (t:TypeId) (i:TyI):Bool:=match P.info? t with
 |some inf=>Ð inf.size i.size&&(Ð inf.bytes i.bytes&&(match inf.zero with|some z=>pG i.zero z.cells.toList&&RM i.u z|none=>ä))
 |none=>ä
def RO (P:Program) (e:TypeId) (c:CT):Bool:=match P.info? e with
 |some inf=>Ð inf.size (ay c).size&&(Θ inf.bytes 1024&&((match inf.zero with|some z=>mY (ay c) z.cells.toList|none=>ä)&&
   (match ay c with|.one (.int .u8)=>(match P.underlying e with|some (.int .u8)=>å|_=>ä)|_=>å)))
 |none=>ä
def RP (P:Program) (i:TyI):Bool:=match i.bu,i.u with
 |some (.one c),.slice e=> !bP c||RO P e c
 |_,_=>å
def eB:List CT->List Cell->Bool
 | [],[]=>å
 |c::cs,x::xs=>nU c x&&eB cs xs
 |_,_=>ä
theorem RQ: ∀(ts:aR) (xs:List Cell),lW ts xs=eB ts.list xs
 |.one c,[x]=>Ġ
 |.one c,[]=>Ġ
 |.one c,_::_::_=>Ġ
 |.cons c cs,[]=>Ġ
 |.cons c cs,x::xs=>by simp only [lW,aR.list,eB,RQ cs xs]
theorem wq: ∀d:List Bool,jj d=d.all id
 | []=>rfl
 | [b]=>by simp [jj]
 |b::c::d=>by
  rw [jj,wq (c::d)]
  .rfl
  .simp
def wt (P:Program) (rec:TypeId->List CT->Bool):Nat->List Field->List CT->Bool
 |_,[],cs=>cs.isEmpty
 |off,f::fs,cs=>Ð f.offset off&&(f.name != "_" &&(match P.info? f.type with
  |some i=>rec f.type (cs.take i.size)&&wt P rec (off+i.size) fs (cs.drop i.size)
  |none=>ä))
def od (P:Program):Nat->TypeId->List CT->Bool
 |0,_,_=>ä
 |n+1,t,cs=>match P.underlying t with
  |some .bool=>(match cs with| [.bool]=>å|_=>ä)
  |some (.int _)=>(match cs with| [.int _]=>å|_=>ä)
  |some .string=>(match cs with| [.str]=>å|_=>ä)
  |some (.struct fields)=> !P.stoodInHeld t&&wt P (od P n) 0 fields.toList cs
  |_=>ä
def Hv (P:Program) (t:TypeId) (i:TyI):Bool:=
 !i.eq||(match i.bu,P.underlying t with|some ts,ã (.struct _)=> !P.eqGuardType P.depth t&&od P 20 t ts.list|_,_=>ä)
def As (P:Program) (H:Heap) (R:Nat->Prop) (st:St) (θ:Asg) (t:TypeId) (xs:List Cell) (v:Value):Prop:=
 ((∃fs,P.underlying t=ã (.struct fs))/\ ∃arr,v=.agg arr/\aJ H R st θ xs arr.toList)\/((∀fs,P.underlying t≠ã (.struct fs))/\ ∃x,xs=[x]/\aB H R st θ x v)
theorem aJ.len {H:Heap} {R:Nat->Prop} {st:St} {θ:Asg}: ∀ {xs:List Cell} {vs:List Value},aJ H R st θ xs vs->vs.length=xs.length
 | [],_,h=>by simp only [aJ]at h;subst h;rfl
 |x::xs,vs,h=>by
  simp only [aJ]at h;obtain⟨v,r,rfl, -,h⟩:=h;simp [aJ.len h]
theorem aJ.cut {H:Heap} {R:Nat->Prop} {st:St} {θ:Asg}: ∀ {xs:List Cell} {vs:List Value} (k:Nat),aJ H R st θ xs vs->aJ H R st θ (xs.take k) (vs.take k)/\aJ H R st θ (xs.drop k) (vs.drop k)
 |xs,vs,0,h=>by simpa [aJ]using h
 | [],vs,k+1,h=>į
 |x::xs,vs,k+1,h=>by
  simp only [aJ]at h;obtain⟨v,r,rfl,d,b⟩:=h;simp only [Δ,Μ,aJ];exact⟨⟨v,_,rfl,d,(aJ.cut k b).1⟩,(aJ.cut k b).2⟩
theorem rD: ∀ {cs:List CT} {xs:List Cell} (k:Nat),eB cs xs=å->eB (cs.take k) (xs.take k)=å/\eB (cs.drop k) (xs.drop k)=å
 |cs,xs,0,h=>by simpa [eB]using h
 | [],[],k+1,h=>by simp [eB]
 | [],_::_,k+1,h=>by simp [eB]at h
 |_::_,[],k+1,h=>by simp [eB]at h
 |c::cs,x::xs,k+1,h=>by
  simp only [eB,Â]at h;simp only [Δ,Μ,eB,Â];exact⟨⟨h.1,(rD k h.2).1⟩,(rD k h.2).2⟩
theorem RR: ∀ {xs f:List Cell} {d:List Bool} (k:Nat),fg xs f=ã d-> ∃g i,d=g++i/\fg (xs.take k) (f.take k)=ã g/\fg (xs.drop k) (f.drop k)=ã i
 |xs,f,d,0,h=>⟨[],d,rfl,by simp [fg],Ű⟩
 | [],[],d,k+1,h=>by simp only [fg,Ä]at h;subst h;exact⟨[],[],rfl,by simp [fg],by simp [fg]⟩
 | [],_::_,d,k+1,h=>by simp [fg]at h
 |_::_,[],d,k+1,h=>by simp [fg]at h
 |x::xs,y::f,d,k+1,h=>by
  simp only [fg]at h;cases e:vC x y with
  |none=>rw [e]at h;cases h
  |some b=>
   cases j:fg xs f with
   |none=>rw [e,j]at h;cases h
   |some c=>
    rw [e,j]at h;cases h;obtain⟨g,i,m,p,q⟩:=RR k j;exact⟨b::g,i,by rw [m];rfl,by simp [fg,e,p],by simpa using q⟩
theorem RS {P:Program} {t:TypeId} {i:TypeInfo} (hi:P.info? t=ã i) {H:Heap} {R:Nat->Prop} {st:St} {θ:Asg} {vs:Array Value} {off:Nat} {xs:List Cell} {n:Nat} {cs:List CT} (f:od P n t (cs.take i.size)=å)
  (s:eB cs xs=å) (h:aJ H R st θ xs (vs.toList.drop off)) (w:World): ∃v,(part t vs off).run P w=.ok v w/\As P H R st θ t (xs.take i.size) v:=by
 have j:=(h.cut i.size).1;have b:=(rD i.size s).1;cases n with
 |zero=>simp [od]at f
 |succ n=>
  have basic:(∀fs,P.underlying t≠ã (.struct fs))->P.plainKey t=å->(∃c,cs.take i.size=[c])-> ∃v,(part t vs off).run P w=.ok v w/\As P H R st θ t (xs.take i.size) v:=by
   rintro m hp ⟨c,p⟩
   rw [p]at b;obtain⟨x,q⟩: ∃x,xs.take i.size=[x]:=by
    match hq:xs.take i.size,b with
    | [x],_=>exact⟨x,rfl⟩
    | [],b=>simp [eB]at b
    |_::_::_,b=>simp [eB]at b
   rw [q]at j;simp only [aJ]at j;obtain⟨v,r,e,u,rfl⟩:=j;have z:vs[off]? =ã v:=by
    rw [<-Array.getElem?_toList]
    have k:=congrArg (·[0]?) e
    simp only [Ú,Ξ,Ϗ,Nat.add_zero]at k
    split at k
    .exact k
    .cases k
   exact⟨v,run_part_plain w hp z,.inr ⟨m,x,q,u.1⟩⟩
  have g: ∀d,P.underlying t=ã d->(match d with|.bool|.int _|.string=>å|_=>ä)=å->P.plainKey t=å:=fun d hd hm=>by
   unfold Program.plainKey;rw [hd];cases d<;>simp_all
  unfold od at f;split at f
  .rename_i hu
   split at f
   .rename_i e;exact basic (by rw [hu];simp) (g _ hu rfl) ⟨_,e⟩
   .cases f
  .rename_i hu
   split at f
   .rename_i e;exact basic (by rw [hu];simp) (g _ hu rfl) ⟨_,e⟩
   .cases f
  .rename_i hu
   split at f
   .rename_i e;exact basic (by rw [hu];simp) (g _ hu rfl) ⟨_,e⟩
   .cases f
  .rename_i fields hu
   refine⟨.agg (vs.extract off (off+i.size)), ?_,.inl ⟨⟨fields,hu⟩,_,rfl, ?_⟩⟩
   .simp [part,isAgg,run_underlying hu,sizeOf,run_typeInfo w hi]
   .have e:(vs.extract off (off+i.size)).toList=(vs.toList.drop off).take i.size:=by
     rw [Array.toList_extract];simp [List.extract]
    rw [e];exact j
  .cases f
theorem RU {P:Program} {H:Heap} {R:Nat->Prop} {st:St} {θ:Asg} {w:World}: ∀(n:Nat) (t:TypeId) (cs:List CT),od P n t cs=å-> ∀(d:Nat),n<=d-> ∀(v u:Value) (xs j:List Cell) (m:List Bool),
  eB cs xs=å->eB cs j=å->fg xs j=ã m->As P H R st θ t xs v->As P H R st θ t j u->(Op.equalIn d t v u).run P w=.ok (m.all id) w
 |0,_,_,h,_,_,_,_,_,_,_,_,_,_,_,_=>by simp [od]at h
 |n+1,t,cs,h,d,hd,v,u,xs,j,m,g,hy,k,rx,b=>by
  obtain⟨d,rfl⟩: ∃d',d=d'+1:=⟨d-1,ž⟩
  unfold od at h;split at h
  .rename_i hu
   split at h
   .rcases rx with⟨⟨fs,e⟩, -⟩|⟨-,x,rfl,rx⟩
    .rw [hu]at e;cases e
    rcases b with⟨⟨fs,e⟩, -⟩|⟨-,y,rfl,b⟩
    .rw [hu]at e;cases e
    simp only [eB,ύ]at g hy;cases x<;>simp only [nU,Ò]at g
    cases y<;>simp only [nU,Ò]at hy
    simp only [fg,vC,Ä]at k;simp only [aB]at rx b;rw [rx,b,<-k,run_equalIn_bool' w d _ _ _ hu];simp
   .cases h
  .rename_i hu
   split at h
   .rcases rx with⟨⟨fs,e⟩, -⟩|⟨-,x,rfl,rx⟩
    .rw [hu]at e;cases e
    rcases b with⟨⟨fs,e⟩, -⟩|⟨-,y,rfl,b⟩
    .rw [hu]at e;cases e
    simp only [eB,ύ]at g hy;cases x<;>simp only [nU,Ò]at g
    cases y<;>simp only [nU,Ò]at hy
    have g:=of_decide_eq_true g;have hy:=of_decide_eq_true hy;subst g;subst hy;simp only [fg,vC,decide_true,Y,Ä]at k;simp only [aB]at rx b;rw [rx.1,b.1,<-k,run_equalIn_int w d _ _ _ _ _ hu];simp
   .cases h
  .rename_i hu
   split at h
   .rcases rx with⟨⟨fs,e⟩, -⟩|⟨-,x,rfl,rx⟩
    .rw [hu]at e;cases e
    rcases b with⟨⟨fs,e⟩, -⟩|⟨-,y,rfl,b⟩
    .rw [hu]at e;cases e
    simp only [eB,ύ]at g hy;cases x<;>simp only [nU,Ò]at g
    cases y<;>simp only [nU,Ò]at hy
    simp only [fg,vC,Ä]at k;simp only [aB]at rx b;rw [rx.1,b.1,<-k,run_equalIn_string w d _ _ _ hu,ByteArray.toList_eq,ByteArray.toList_eq];simp
   .cases h
  .rename_i fields hu
   simp only [Â,Τ]at h;obtain⟨s,z⟩:=h;have ad: ∃arr,v=.agg arr/\aJ H R st θ xs arr.toList:=by
    rcases rx with⟨-,h⟩|⟨e, -⟩
    .exact h
    .exact absurd hu (e _)
   have ae: ∃arr,u=.agg arr/\aJ H R st θ j arr.toList:=by
    rcases b with⟨-,h⟩|⟨e, -⟩
    .exact h
    .exact absurd hu (e _)
   clear rx b;obtain⟨vs,rfl,rx⟩:=ad;obtain⟨us,rfl,b⟩:=ae;have q:P.fieldsOf t=fields:=by unfold Program.fieldsOf;rw [hu]
   rw [run_equalIn_struct w d t vs us (by rw [q];exact hu) s,q]
   have key: ∀(fs:List Field) (off:Nat) (cs:List CT) (xs j:List Cell) (m:List Bool),wt P (od P n) off fs cs=å->eB cs xs=å->eB cs j=å->fg xs j=ã m->
     aJ H R st θ xs (vs.toList.drop off)->aJ H R st θ j (us.toList.drop off)->(ϝ d vs us fs).run P w=.ok (m.all id) w:=by
    intro fs;induction fs with
    |nil=>
     intro off cs xs j m r g hy k _ _;simp only [wt,Ϝ]at r;subst r;cases xs with
     |cons _ _=>simp [eB]at g
     |nil=>
      cases j with
      |cons _ _=>simp [eB]at hy
      |nil=>simp only [fg,Ä]at k;subst k;simp [ϝ]
    |cons f fs ih=>
     intro off cs xs j m r g hy k rx b;simp only [wt,Â,bne_iff_ne,ne_eq]at r;obtain⟨h1,h2,p⟩:=r;split at p
     .rename_i i hi
      simp only [Â]at p;have h1:=Ã h1;obtain⟨v,pv,rv⟩:=RS hi p.1 g rx w;obtain⟨u,pu,ru⟩:=RS hi p.1 hy b w;obtain⟨b1,b2,rfl,e1,e2⟩:=RR i.size k;have k1:=RU (w:=w) n f.type _ p.1 d ž v u _ _ b1 (rD i.size g).1 (rD i.size hy).1 e1 rv ru
      have dr: ∀zs:Array Value,(zs.toList.drop off).drop i.size=zs.toList.drop (off+i.size):=fun zs=>by rw [υ]
      have k2:=ih (off+i.size) _ _ _ b2 p.2 (rD i.size g).2 (rD i.size hy).2 e2 (by rw [<-dr];exact(rx.cut i.size).2) (by rw [<-dr];exact(b.cut i.size).2)
      rw [<-h1]at pv pu;simp only [ϝ,if_pos h2,Sem.run_bind,pv,Result.andThen_ok,pu,k1,List.all_append];cases b1.all id
      .simp
      .simp [k2]
     .cases p
   exact key fields.toList 0 cs xs j m z g hy k (by simpa using rx) ł
  .cases h
theorem agW {P:Program} {t:TypeId} {i:TyI} (h:Hv P t i=å) (he:i.eq=å) (ts:aR) (b:i.bu=ã ts):Qr P t ts:=by
 unfold Hv at h;rw [he,b]at h;simp only [ώ,Ϧ]at h;split at h
 .rename_i fields g d
  cases g;simp only [Â,Τ]at h;obtain⟨j,k⟩:=h;refine⟨j,fun xs m vs us p w H R st θ f hy q rx r=> ?_⟩
  rw [RQ]at f hy;rw [Op.equal,wq];exact RU 20 t _ k _ (by unfold Op.maxDepth;omega) _ _ xs m p f hy q (.inl ⟨⟨_,d⟩,vs,rfl,rx⟩) (.inl ⟨⟨_,d⟩,us,rfl,r⟩)
 .cases h
def Hw (P:Program) (t:TypeId) (i:TyI):Bool:=
 RN P t i&&(Hu P t i.u&&(RP P i&&((match i.u with|.struct _=>å|_=>Ð i.size 1)&&Hv P t i)))
theorem RV {P:Program}: ∀ {fs:List Field} {r:List (Nat×TypeId)},tw P fs r=å->fs.length=r.length/\ ∀(i off:Nat) (t:TypeId),r[i]? =ã (off,t)-> ∃f:Field,fs[i]? =ã f/\f.offset=off/\f.type=t/\ ∃inf,P.info? t=ã inf/\inf.size≠0
 | [],[],_=>⟨rfl,Ż⟩
 | [],_::_,h=>by simp [tw]at h
 |_::_,[],h=>by simp [tw]at h
 |f::fs,(off,t)::r,h=>by
  simp only [tw,Â]at h;obtain⟨g,j,d,k⟩:=h;obtain⟨k1,k2⟩:=RV k;refine⟨by simp [k1],fun i o u hi=> ?_⟩
  cases i with
  |zero=>
   simp only [Ú,Ä,É]at hi
   obtain⟨rfl,rfl⟩:=hi;refine⟨f,rfl,Ã g,Ã j, ?_⟩
   split at d
   .rename_i inf b
    exact⟨inf,b,fun e=>by rw [e]at d;simp at d⟩
   .cases d
  |succ i=>exact k2 i o u ķ
theorem agX {P:Program} {t:TypeId} {u:U} (h:Hu P t u=å):nX P t u:=by
 cases u<;>simp only [Hu]at h<;>simp only [nX]
 case bool=>split at h<;>simp_all
 case int k=>split at h<;>simp_all
 case str=>split at h<;>simp_all
 case slice e=>
  split at h
  .rename_i m he;rw [he,Ã h]
  .cases h
 case struct fs=>
  split at h
  .rename_i fields d
   obtain⟨g,j⟩:=RV h;refine⟨fields,d,ŋ,fun i off t hi=> ?_⟩
   obtain⟨f,k1,k2⟩:=j i off t hi;exact⟨f,ġ,k2⟩
  .cases h
 case ptr=>
  split at h
  .rename_i e he;exact⟨e,he⟩
  .cases h
 case func=>
  split at h
  .rename_i a b c he;exact⟨a,b,c,he⟩
  .cases h
 case iface=>
  split at h
  .rename_i e he;exact⟨e,he⟩
  .cases h
 case other=>cases h
theorem agY {P:Program} {T:TypeId->Option TyI} {t:TypeId} {i:TyI} (h:Hw P t i=å):pH P T t i:=by
 simp only [Hw,Â]at h;obtain⟨f,q,d,p,r⟩:=h;refine⟨?_,agX q,fun c s hs e he=> ?_, ?_,fun he ts j=>agW r he ts j⟩
 .unfold RN at f
  split at f
  .rename_i inf b
   simp only [Â]at f;obtain⟨k1,k2,k3⟩:=f;split at k3
   .rename_i z m
    simp only [Â]at k3;refine⟨inf,z,b,Ã k1,Ã k2,m,k3.1, ?_⟩
    have k:=k3.2;unfold RM at k;cases hu:i.u<;>rw [hu]at k<;>cases z<;>simp_all
   .cases k3
  .cases f
 .unfold RP at d
  rw [s,he]at d;simp only [hs,ώ,Ϧ]at d;unfold RO at d;split at d
  .rename_i inf b
   simp only [Â]at d;obtain⟨k1,k2,k3,g⟩:=d;split at k3
   .rename_i z m
    refine⟨inf,z,b,Ã k1,Κ k2,m,k3, ?_⟩
    split
    .rename_i heq
     rw [heq]at g;simp only at g;split at g
     .assumption
     .cases g
    .trivial
   .cases k3
  .cases d
 .split
  .trivial
  .split at p
   .rename_i h _ _ hh;exact absurd hh (h _)
   .exact Ã p
def wx (P:Program):List (TypeId×TyI)->Bool
 | []=>å
 |(t,i)::r=>Hw P t i&&wx P r
theorem RW {P:Program} {T:TypeId->Option TyI} {t:TypeId} {i:TyI}: ∀ {l:List (TypeId×TyI)},wx P l=å->tu t l=ã i->pH P T t i
 | [],_,h=>by simp [tu]at h
 |(a,j)::r,h,b=>by
  simp only [wx,Â]at h;simp only [tu]at b;cases d:Ð a t with
  |true=>
   rw [d]at b;simp only [Y,Ä]at b;subst b;rw [<-Ã d];exact agY h.1
  |false=>rw [d]at b;exact RW h.2 b
end Go.Ev
namespace Go.Ev
def wz:List Entry->Entry->Nat->Entry
 | [],d,_=>d
 |x::_,_,0=>x
 |_::r,d,n+1=>wz r d n
theorem Hy {p:Entry->Prop} {d:Entry} (hd:p d): ∀(l:List Entry) (_: ∀x∈l,p x) (e:Nat),p (wz l d e)
 | [],_,_=>hd
 |x::_,h,0=>h x Ż
 |_::r,h,n+1=>Hy hd r (fun x b=>h x ũ) n
def RX (f:FuncId):List (FuncId×List Nat)->List Nat
 | []=>[]
 |(a,l)::r=>cond (Ð a f) l (RX f r)
structure Au (P:Program) (E:Entry):Prop where
 entry:kE E=å
 fn:wj E=å
 f:P.funcs[E.f]? =ã E.fn
 name:(E.fn.name== "runtime.NumGoroutine")=ä
 body:E.fn.body.isNone=ä
structure dt (P:Program) (l:List Entry):Prop where
 ok: ∀x∈l,Au P x
theorem dt.nil {P:Program}:dt P []:=⟨Ż⟩
theorem dt.cons {P:Program} {x:Entry} {l:List Entry} (h:Au P x) (b:dt P l):dt P (x::l):=⟨fun y hy=>by
 rcases Ñ.1 hy with rfl|hy
 .exact h
 .exact b.ok y hy⟩
theorem agZ {P:Program} {gl:bA} {eY:List (TypeId×TyI)} {l:List Entry} {d:Entry} (b:P.follows .mixedOrders=å) (g:wx P eY=å) (hd:Au P d) (i:dt P l)
  (hp: ∀x∈d::l,∀p,x.bT=ã p-> ∀ds r,p ds=ã r->cR P gl x ds r):Ht P gl (fun t=>tu t eY) (wz l d):=
 have all: ∀e,Au P (wz l d e):=Hy hd l i.ok
 ⟨⟨fun _ _ h=>RW g h,b⟩,b,fun e=>(all e).entry,fun e=>(all e).fn,fun e=>(all e).f,fun e=>(all e).name,fun e=>(all e).body,
  fun e=>Hy (p:=fun x=> ∀p,x.bT=ã p-> ∀ds r,p ds=ã r->cR P gl x ds r) (hp d Ż) l (fun x j=>hp x ĥ) e⟩
noncomputable def rE:Code->Nat->Code
 |.seq a b,id=>match rE a id with|.skip=>rE b id|c=>c
 |.cond _ a b,id=>match rE a id with|.skip=>rE b id|c=>c
 |.block i (.loop c),id=>cond (Ð i id) c (rE c id)
 |.block _ c,id=>rE c id
 |_,_=>.skip
noncomputable def ahA (T:TypeId->Option TyI) (call:FuncId->List TV->Nat->M TV) (e:Entry) (n id:Nat) (x:cG×cG×List CT) (self:List DV->Option (Sum (bK x.2.2) (bK e.bz))) (ds:List DV):Option (Sum (bK x.2.2) (bK e.bz)):=
 sW x.1 ds fun st=>eH T call e n (rE (e.fn.body.getD .skip) id) st
  ⟨fun st=>re x.1 st self,fun i st=>cond (Ð i id) (re x.2.1 st fun ds=>(eI x.2.2 ds).bind fun x=>ã (.inl x)) â,
   fun st=>ri T e ⟨fun _=>â,fun _ _=>â,fun _=>â,fun r=>ã (.inr r)⟩ st,fun r=>ã (.inr r)⟩
noncomputable def ahB (T:TypeId->Option TyI) (call:FuncId->List TV->Nat->M TV) (e:Entry) (n id:Nat) (x:cG×cG×List CT):Nat->List DV->Option (Sum (bK x.2.2) (bK e.bz)):=
 iter id (ahA T call e n id x)
end Go.Ev
namespace Go.Ev
def Typed:List CT->List DV->Prop
 | [],ds=>ds=[]
 |c::cs,ds=> ∃x b,ds=⟨c,x⟩::b/\Typed cs b
theorem Typed.append: ∀ {cs d:List CT} {ds b:List DV},Typed cs ds->Typed d b->Typed (cs++d) (ds++b)
 | [],_,ds,_,h,f=>by simp only [Typed]at h;subst h;exact f
 |c::cs,d,ds,b,h,f=>by
  simp only [Typed]at h;obtain⟨x,r,rfl,h⟩:=h;exact⟨x,r++b,rfl,Typed.append h f⟩
def bf.fit:bf->Prop
 |.b _=>True
 |.i k n=>k.min<=n/\n<=k.max
 |.s x=>x.length<=maxLen
 |.l sz cs=>0<sz/\cs.length<=maxLen*sz/\fits cs
where fits:List bf->Prop
 | []=>True
 |d::ds=>d.fit/\fits ds
section
variable {H:Heap} {R:Nat→Prop} {own:Bool}
theorem az.Hz: ∀ {ds f:List bf} {vs b:List Value},az H R own ds vs []->az H R own f b []->az H R own (ds++f) (vs++b) []
 | [],_,vs,_,h,i=>by simp only [az]at h;rw [h.1];exact i
 |d::ds,f,vs,b,h,i=>by
  simp only [az]at h;obtain⟨v,r,f1,f2,rfl,g,j,k⟩:=h;have g:=(ζ.1 g.symm);rw [g.2]at k;rw [g.1]at j;simp only [Û,az];exact⟨v,r++b,[],[],rfl,rfl,j,az.Hz k i⟩
mutual
theorem aE.fit: ∀ {d:bf} {v:Value} {fp:List Nat},aE H R ä d v fp->d.fit
 |.b _,_,_,_=>by simp [bf.fit]
 |.i _ _,_,_,h=>Ď
 |.s _,_,_,h=>Ď
 |.l sz cs,_,_,h=>by
  simp only [aE]at h;obtain⟨a,len,cap, -,m,f,j,p,k⟩:=h;simp only [bf.fit];refine⟨m,by rw [f];exact Β _ (Nat.le_trans j p), ?_⟩
  rcases k with⟨h, -⟩|⟨-, -,k⟩
  .cases h
  .rcases k with rfl|⟨g,off,cur,ty,frz, -, -, -, -,q⟩
   .simp [bf.fit.fits]
   .exact az.fits q
theorem az.fits: ∀ {ds:List bf} {vs:List Value} {fp:List Nat},az H R ä ds vs fp->bf.fit.fits ds
 | [],_,_,_=>by simp [bf.fit.fits]
 |d::ds,_,_,h=>by
  simp only [az]at h;obtain⟨v,r,f1,f2, -, -,f,j⟩:=h;simp only [bf.fit.fits];exact⟨aE.fit f,az.fits j⟩
end
end
theorem RY: ∀ {ts:aR} {ds:List DV},Typed ts.list ds-> ∃x:bc ts,bI ts x=ds.map fun d=>enc d.c d.x
 |.one c,ds,h=>by
  simp only [aR.list,Typed]at h;obtain⟨x,r,rfl,rfl⟩:=h;exact⟨x,ă⟩
 |.cons c cs,ds,h=>by
  simp only [aR.list,Typed]at h;obtain⟨x,r,rfl,h⟩:=h;obtain⟨y,hy⟩:=RY h;exact⟨(x,y),by simp [bI,hy]⟩
theorem wA: ∀(ts:aR) (x:bc ts),(bI ts x).length=ts.size
 |.one _,_=>rfl
 |.cons _ cs,x=>by simp [bI,aR.size,wA cs x.2]
def jo (S:List (TypeId×List CT)) (t:TypeId) (bu:List CT):Bool:=S.any fun p=>Ð p.1 t&&oe p.2 bu
where oe:List CT->List CT->Bool
 | [],[]=>å
 |a::as,b::d=>CT.beq a b&&oe as d
 |_,_=>ä
theorem wB: ∀ {a b:List CT},jo.oe a b=å->a=b
 | [],[],_=>rfl
 | [],_::_,h=>by simp [jo.oe]at h
 |_::_,[],h=>by simp [jo.oe]at h
 |a::as,b::d,h=>by
  simp only [jo.oe,Â]at h;rw [CT.eq_of_beq _ _ h.1,wB h.2]
theorem HA {S:List (TypeId×List CT)} {t:TypeId} {bu:List CT} (h:jo S t bu=å):(t,bu)∈S:=by
 simp only [jo,List.any_eq_true,Â]at h;obtain⟨p,hp,b,d⟩:=h;have f:=Ã b;have g:=wB d;rw [<-f,<-g];exact hp
def wC (S:List (TypeId×List CT)) (P:Program):Nat->List Field->List CT->Bool
 |_,[],bu=>bu.isEmpty
 |off,f::fs,bu=>Ð f.offset off&&(Θ (P.cellsOf f.type) bu.length&&(jo S f.type (bu.take (P.cellsOf f.type))&&wC S P (off+P.cellsOf f.type) fs (bu.drop (P.cellsOf f.type))))
def Av (S:List (TypeId×List CT)) (P:Program) (t:TypeId) (bu:List CT):Bool:=
 match P.underlying t with
 |some .bool=>jo.oe bu [.bool]
 |some (.int k)=>jo.oe bu [.int k]
 |some .string=>jo.oe bu [.str]
 |some (.slice e)=>match bu with
  | [.sl ts]=>jo S e ts.list&&Ð (P.cellsOf e) ts.size
  |_=>ä
 |some (.struct fs)=>wC S P 0 fs.toList bu&&Ð (P.cellsOf t) bu.length
 |_=>ä
def pT (S:List (TypeId×List CT)) (P:Program):List (TypeId×List CT)->Bool
 | []=>å
 |(t,bu)::r=>Av S P t bu&&pT S P r
theorem RZ {S:List (TypeId×List CT)} {P:Program}: ∀ {l:List (TypeId×List CT)},pT S P l=å-> ∀p∈l,Av S P p.1 p.2=å
 | [],_,p,hp=>by cases hp
 |(t,bu)::r,h,p,hp=>by
  simp only [pT,Â]at h;rcases Ñ.1 hp with rfl|hp
  .exact h.1
  .exact RZ h.2 p hp
theorem size_pos: ∀(ts:aR),0<ts.size
 |.one _=>Nat.one_pos
 |.cons _ _=>Nat.succ_pos _
section
variable {E:Type} {en:TypeId×Value→E} {P:Program} {w:World} {sp:Nat→Bool} {held:Bool} {S:List (TypeId×List CT)}
def ng (w:World) (b:Nat):Prop:=b<w.heap.size
def Reads (w:World) (bu:List CT) (cs:List Value):Prop:= ∃ds,Typed bu ds/\az (hp w) (ng w) ä (ds.map fun d=>enc d.c d.x) cs []
theorem Sb {n:Nat} (g: ∀t bu,(t,bu)∈S-> ∀fuel cs (x:DataW E×List MemPlace),fuel<n->DataW.trod en P w 0 sp held fuel t cs=ã x->Reads w bu cs) {fuel:Nat} (k:fuel<n) (all:List Value):
  ∀(fs:List Field) (off:Nat) (bu:List CT) (_:List (DataW E×List MemPlace)),wC S P off fs bu=å->off+bu.length<=all.length->
   (∀f∈fs,∃x,DataW.trod en P w 0 sp held fuel f.type ((all.drop f.offset).take (P.cellsOf f.type))=ã x)->Reads w bu ((all.drop off).take bu.length)
 | [],off,bu,xs,h,p,b=>by
  simp only [wC,Ϝ]at h;subst h;exact⟨[],rfl,Č⟩
 |f::fs,off,bu,xs,h,p,b=>by
  simp only [wC,Â]at h;obtain⟨d,m,q,r⟩:=h;have d:=Ã d;have m:=Κ m;obtain⟨x,s⟩:=b f Ż
  obtain⟨ds,k1,k2⟩:=g _ _ (HA q) fuel _ x k s;obtain⟨i,u,z⟩:=Sb g k all fs (off+P.cellsOf f.type) (bu.drop (P.cellsOf f.type)) xs r ź (fun f' j=>b f' ĥ)
  refine⟨ds++i, ?_, ?_⟩
  .have:=k1.append u
   rwa [π]at this
  .rw [List.map_append]
   rw [d]at k2;have e:(all.drop off).take bu.length=(all.drop off).take (P.cellsOf f.type)++(all.drop (off+P.cellsOf f.type)).take (bu.drop (P.cellsOf f.type)).length:=by
    rw [<-υ];conv=>lhs;rw [show bu.length=P.cellsOf f.type+(bu.drop (P.cellsOf f.type)).length from ź]
    rw [ϧ]
   rw [e];exact k2.Hz z
theorem Sc {a:Addr} {n:Nat} {cs:List Value} (h:w.cells? 0 a n=ã cs):cs.length=n/\ ∀j,j<n->w.cell? (a.add j)=cs[j]? :=by
 unfold World.cells? at h;rw [if_pos (Ϟ _)]at h;refine⟨by simpa using mapM_some_length h,fun j hj=>mapM_some_get h j j (by simp [hj])⟩
theorem Aw {g off:Nat} {cur:Array Value} {ty:TypeId} {frz:Nat×Nat} (d:hp w g=ã (.cells cur ty frz)) (j:Nat):w.cell? ((⟨g,off,â⟩:Addr).add j)=cur.toList[off+j]? :=by
 have b:w.heap[g]? =ã (.cells cur ty frz):=d;unfold Addr.add;split
 .rename_i h;subst h;simp [World.cell?,b]
 .simp [World.cell?,b]
theorem add_add (g off i j:Nat):((⟨g,off,â⟩:Addr).add i).add j=(⟨g,off,â⟩:Addr).add (i+j):=by
 unfold Addr.add;by_cases hi:i=0<;>by_cases hj:j=0<;>simp [hi,hj,Φ]
theorem HB (hS:pT S P S=å): ∀(n:Nat) (t:TypeId) (bu:List CT),(t,bu)∈S-> ∀fuel cs (x:DataW E×List MemPlace),fuel<n->DataW.trod en P w 0 sp held fuel t cs=ã x->Reads w bu cs
 |0,_,_,_,_,_,_,hf,_=>absurd hf (κ _)
 |n+1,t,bu,hm,fuel,cs,x,hf,z=>by
  have d:Av S P t bu=å:=RZ hS _ hm;unfold Av at d;split at d
  .rename_i hu
   obtain⟨b,rfl, -⟩:=DataW.trod_bool hu z;rw [wB d];exact⟨[⟨.bool,b⟩],⟨b,[],rfl,rfl⟩,by simp only [Ù,Ý,az,aE,enc];exact⟨_,[],[],[],rfl,rfl,⟨rfl,rfl⟩,rfl,rfl⟩⟩
  .rename_i k hu
   obtain⟨m,rfl, -,hw⟩:=DataW.trod_int hu z;rw [wB d];simp only [Lit.wf,Â,decide_eq_true_eq]at hw;refine⟨[⟨.int k,vv k m⟩],⟨_,[],rfl,rfl⟩, ?_⟩
   simp only [Ù,Ý,az,aE,enc];exact⟨_,[],[],[],rfl,rfl,⟨by rw [vY hw],by rw [vY hw];exact hw,rfl⟩,rfl,rfl⟩
  .rename_i hu
   obtain⟨s,rfl, -,hs⟩:=DataW.trod_string hu z;rw [wB d];refine⟨[⟨.str,s.data.toList⟩],⟨_,[],rfl,rfl⟩, ?_⟩
   simp only [Ù,Ý,az,aE,enc];exact⟨_,[],[],[],rfl,rfl,⟨rfl,by simpa using hs,rfl⟩,rfl,rfl⟩
  .rename_i e hu
   split at d
   .rename_i ts
    simp only [Â]at d;have he:=HA d.1;have al:=Ã d.2;have p:=size_pos ts;rcases DataW.trod_slice hu z with⟨rfl, -⟩|⟨a,len,cap,elems,rest,m,rfl,rfl, -, -,af,ag,hlen,ao, -, -⟩
    .exact⟨[⟨.sl ts,[]⟩],⟨_,[],rfl,rfl⟩,by simp only [Ù,Ý,az,aE,enc];exact⟨_,[],[],[],rfl,rfl,⟨â,0,0,rfl,p,Ż,Ï _,Ϟ _,.inr ⟨trivial,rfl,.inl rfl⟩⟩,rfl,rfl⟩⟩
    .have q: ∀i,i<len-> ∃cs,w.cells? 0 (a.add (i*ts.size)) ts.size=ã cs/\Reads w ts.list cs:=fun i hi=>by
      have:=ao i hi;rw [al,Ë ž]at this
      rw [Á]at this;obtain⟨cs,k1,k2⟩:=this;exact⟨cs,k1,HB hS n e _ he m cs _ ž k2⟩
     by_cases h0:len=0
     .subst h0
      refine⟨[⟨.sl ts,[]⟩],⟨_,[],rfl,rfl⟩, ?_⟩
      simp only [Ù,Ý,az,aE,enc];exact⟨_,[],[],[],rfl,rfl,⟨ã a,0,cap,rfl,p,Ż,af,ag,.inr ⟨trivial,rfl,.inl rfl⟩⟩,rfl,rfl⟩
     .obtain⟨cs0,c1, -⟩:=q 0 ž
      obtain⟨l0,g0⟩:=Sc c1;have h:=g0 0 p;rw [Ë ž]at h
      have aq:(a.add (0*ts.size)).add 0=a:=by simp [Addr.add]
      rw [aq]at h;obtain⟨g,cur,ty,frz,hg,ad⟩: ∃g cur ty frz,hp w g=ã (.cells cur ty frz)/\a=⟨g,a.off,â⟩:=by
       unfold World.cell? at h;split at h
       .rename_i c ty frz hc
        split at h
        .cases h
        .rename_i ad
         refine⟨a.block,c,ty,frz,hc, ?_⟩
         cases a with
         |mk b o s=>
          simp only [Addr.mk.injEq,true_and];cases s with
          |none=>rfl
          |some _=>simp at ad
       .cases h
      obtain⟨off,ah⟩: ∃off,off=a.off:=⟨_,rfl⟩
      rw [<-ah]at ad;subst ad;have ai: ∀i,i<len-> ∃x:bc ts,off+(i+1)*ts.size<=cur.size/\az (hp w) (ng w) ä (bI ts x) ((cur.toList.drop (off+i*ts.size)).take ts.size) []:=fun i hi=>by
       obtain⟨cs,k1,ds,k2,k3⟩:=q i hi;obtain⟨j1,j2⟩:=Sc k1;obtain⟨x,z⟩:=RY k2;have r: ∀j,j<ts.size->cur.toList[off+i*ts.size+j]? =cs[j]? :=fun j hj=>by
        rw [<-j2 j hj,add_add,Aw hg,Φ]
       have u:=r (ts.size-1) ž
       rw [Ë (i:=ts.size-1) ž]at u
       obtain⟨au, -⟩:=List.getElem?_eq_some_iff.1 u
       simp only [Array.length_toList]at au;refine⟨x,by rw [φ];omega, ?_⟩
       have e:(cur.toList.drop (off+i*ts.size)).take ts.size=cs:=by
        apply Ϙ
        intro j;by_cases hj:j<ts.size
        .rw [Ξ,if_pos hj,Ϗ,r j hj]
        .rw [Ξ,if_neg hj,σ ž]
       rw [e,z];exact k3
      have aj: ∀k,k<=len-> ∃xs:List (bc ts),xs.length=k/\az (hp w) (ng w) ä (xs.flatMap (bI ts)) ((cur.toList.drop off).take (k*ts.size)) []:=by
       intro k;induction k with
       |zero=>intro _;exact⟨[],rfl,Č⟩
       |succ k ih=>
        intro hk;obtain⟨xs,q1,q2⟩:=ih ž
        obtain⟨x,q3,q4⟩:=ai k ž
        refine⟨xs++[x],by simp [q1], ?_⟩
        rw [Ν,φ,Nat.one_mul,ϧ,υ];exact q2.Hz (by simpa using q4)
      obtain⟨xs,q1,q2⟩:=aj len (Ï _);obtain⟨-,hbound, -⟩:=ai (len-1) ž
      rw [show len-1+1=len from ž]at hbound
      have hlen:((xs.flatMap (bI ts)).length)=len*ts.size:=by
       rw [ϊ,ϋ (g:=fun _=>ts.size) (fun x _=>wA ts x),Ϡ,η,q1]
      have av:g<w.heap.size:=by
       have:w.heap[g]? =ã (.cells cur ty frz):=hg;exact(Ο.1 this).1
      refine⟨[⟨.sl ts,xs⟩],⟨_,[],rfl,rfl⟩, ?_⟩
      simp only [Ù,Ý,az,aE,enc];exact⟨_,[],[],[],rfl,rfl,⟨_,len,cap,rfl,p,hlen,af,ag,.inr ⟨trivial,rfl,.inr ⟨g,off,cur,ty,frz,rfl,av,hg,hbound,q2⟩⟩⟩,rfl,rfl⟩
   .cases d
  .rename_i fs hu
   simp only [Â]at d;obtain⟨d,h2⟩:=d;have h2:=Ã h2;obtain⟨xs,m,rfl, -,hl,a8,hr⟩:=DataW.trod_struct hu z;have:=Sb (n:=n) (fun t bu hm fuel cs x hf z=>HB hS n t bu hm fuel cs x hf z) (fuel:=m) ž cs fs.toList 0 bu xs d ž (fun f hf=>by
    obtain⟨i,hi,rfl⟩:=Ô.1 hf;have:=hr i fs.toList[i] Ż
    rw [Ë (by simp at hi;omega)]at this
    exact⟨_,this⟩)
   rwa [List.drop_zero,<-h2,<-hl,Ψ]at this
  .cases d
end
end Go.Ev
namespace Go.Ev
open Go.WideShapes Go.RowKit
def nh:CT->CK
 |.bool=>.bool
 |.int k=>.int k
 |.str=>.str
 |c=>.sh c
section
variable {H:Heap} {R:Nat→Prop} {B:Nat→Nat→Prop}
theorem HC {nm:Nat->Nat}: ∀ {bu:List CT} {ds:List DV} {vs:List Value} {j:Nat},Typed bu ds->az H R ä (ds.map fun d=>enc d.c d.x) vs []->bq H R B å [] nm j (bu.map nh) ds vs []
 | [],ds,vs,j,f,h=>by
  simp only [Typed]at f;subst f;simp only [Ý,az]at h;simp only [Ý,bq];exact⟨trivial,h.1,trivial⟩
 |c::bu,ds,vs,j,f,h=>by
  simp only [Typed]at f;obtain⟨x,r,rfl,f⟩:=f;simp only [Ù,az]at h;obtain⟨v,g,f1,f2,rfl,i,b,m⟩:=h;obtain⟨rfl,rfl⟩:=ζ.1 i.symm;simp only [Ù,bq];refine⟨v,g,[⟨c,x⟩],r,[],[],rfl,rfl,rfl,b.cx, ?_,HC f m⟩
  cases c with
  |bool=>simp only [nh,ax];simp only [enc,aE]at b;exact⟨x,rfl,b.1,trivial⟩
  |int k=>simp only [nh,ax];simp only [enc,aE]at b;exact⟨x,rfl,b.1,b.2.1,trivial⟩
  |str=>simp only [nh,ax];simp only [enc,aE]at b;exact⟨x,rfl,b.1,b.2.1,trivial⟩
  |sl ts=>simp only [nh,ax];exact⟨x,rfl,rfl,b,trivial⟩
  |tree fs=>simp only [nh,ax];exact⟨x,rfl,rfl,b,trivial⟩
end
end Go.Ev
namespace Go.Ev
def W (p:Nat->Prop):Prop:= ∃N,∀n,N<=n->p n
theorem W.of {p:Nat->Prop} (h: ∀n,p n):W p:=⟨0,fun n _=>h n⟩
theorem W.and {p q:Nat->Prop} (h:W p) (k:W q):W fun n=>p n/\q n:=by
 obtain⟨N,h⟩:=h;obtain⟨M,k⟩:=k;exact⟨max N M,fun n b=>⟨h n ž,k n ž⟩⟩
theorem W.mono {p q:Nat->Prop} (h:W p) (k: ∀n,p n->q n):W q:=by
 obtain⟨N,h⟩:=h;exact⟨N,fun n b=>k n (h n b)⟩
theorem W.succ {p:Nat->Prop} (h:W fun n=>p (n+1)):W p:=by
 obtain⟨N,h⟩:=h;refine⟨N+1,fun n b=> ?_⟩
 obtain⟨m,rfl⟩: ∃m,n=m+1:=⟨n-1,ž⟩
 simp_all
theorem W.ge (k:Nat):W fun n=>k<=n:=⟨k,fun _ h=>h⟩
theorem W.all {α:Type} {p:α->Nat->Prop}: ∀(l:List α),(∀x∈l,W (p x))->W fun n=> ∀x∈l,p x n
 | [],_=>⟨0,Ż⟩
 |a::l,h=>by
  refine((h a Ż).and (W.all l fun x b=>h x Ŵ)).mono fun n d x b=> ?_
  grind
theorem W.val {α:Type} {f:Nat->Option α} {v:α} (h:W fun n=>f n=ã v): ∃n,f n=ã v:=by
 obtain⟨N,h⟩:=h;exact⟨N,h N (Ï _)⟩
theorem lv {g α:Type} {len:Nat} {L:Nat->Nat->Nat->g->Option α} (inv:Nat->g->Prop) (post:α->Prop)
  (b:W fun n=> ∀m i s,i<len->inv i s->(∃r,L n (m+1) i s=ã r/\post r)\/ ∃s',L n (m+1) i s=L n m (i+1) s'/\inv (i+1) s')
  (d:W fun n=> ∀m s,inv len s-> ∃r,L n (m+1) len s=ã r/\post r):W fun n=> ∀f,inv 0 f-> ∃r,L n n 0 f=ã r/\post r:=by
 refine((b.and d).and (W.ge (len+1))).mono fun n ⟨⟨j,q⟩,t⟩ f u=> ?_
 have key: ∀k i s m,len=i+k->inv i s->k<m-> ∃r,L n m i s=ã r/\post r:=by
  intro k;induction k with
  |zero=>
   intro i s m e hi hm;obtain⟨m,rfl⟩: ∃m',m=m'+1:=⟨m-1,ž⟩
   simp_all
  |succ k ih=>
   intro i s m e hi hm;obtain⟨m,rfl⟩: ∃m',m=m'+1:=⟨m-1,ž⟩
   rcases j m i s ž hi with h|⟨s',h,p⟩
   all_goals grind
 grind
theorem du {i len:Nat} (h:i<len) (b:len<=2^40):Þ ß ((i:Int)+(1:Int))=((i+1:Nat):Int):=by
 grind [Λ]
def au {α:Type} (l:List α) (i:Int):Option α:=cond (á (0<=i)) (nth l i.toNat) â
def aO {α:Type} (l:List α) (i:Nat):Option α:=nth l i
theorem bB {α:Type} {l:List α} {i:Nat} (h:i<l.length):au l (i:Int)=ã l[i]:=by
 simp [au,nth]
theorem ie {α:Type} {l:List α} {i:Nat} (h:i<l.length):aO l (ψ (i:Int))=ã l[i]:=by
 simp [aO,nth]
theorem ahC {α:Type} {a:List α} {d:α} {i:Nat} (h:i<a.length):(a.take i++Ü (a.length-i) d).set i a[i]=a.take (i+1)++Ü (a.length-(i+1)) d:=by
 apply Ϙ
 grind
theorem ahD {α:Type} (a:List α) (d:α) {i:Nat} (h:i<=a.length):(a.take i++Ü (a.length-i) d).length=a.length:=ť
def lim:Nat:=1048576
mutual
def dw:(c:CT)->Interp c->Prop
 |.bool,_=>True
 |.int _,_=>True
 |.str,x=>Õ (α:=UInt8) x<=lim
 |.sl ts,xs=>Õ (α:=bc ts) xs<=lim/\ ∀x∈(xs:List (bc ts)),cA ts x
 |.tree _,_=>False
def cA:(ts:aR)->bc ts->Prop
 |.one c,x=>dw c x
 |.cons c cs,x=>dw c x.1/\cA cs x.2
end
mutual
def dG:(c:CT)->Interp c->Prop
 |.bool,_=>True
 |.int k,x=>k.min<=kr k x/\kr k x<=k.max
 |.str,x=>Õ (α:=UInt8) x<=maxLen
 |.sl ts,xs=>Õ (α:=bc ts) xs<=maxLen/\ ∀x∈(xs:List (bc ts)),fH ts x
 |.tree _,_=>True
def fH:(ts:aR)->bc ts->Prop
 |.one c,x=>dG c x
 |.cons c cs,x=>dG c x.1/\fH cs x.2
end
theorem Sd: ∀ {a b:List bf},bf.fit.fits (a++b)->bf.fit.fits a/\bf.fit.fits b
 | [],_,h=>⟨by simp [bf.fit.fits],h⟩
 |d::a,b,h=>by
  obtain⟨k1,k2⟩:=Sd h.2;simp_all [bf.fit.fits]
mutual
theorem HD: ∀(c:CT) (x:Interp c),(enc c x).fit->dG c x
 |.bool,_,_=>by simp [dG]
 |.int k,x,h=>ď
 |.str,x,h=>ď
 |.sl ts,xs,h=>by
  simp only [enc,bf.fit]at h;simp only [dG];obtain⟨f,d,i⟩:=h;have hlen:((xs:List (bc ts)).flatMap (bI ts)).length=Õ (α:=bc ts) xs*ts.size:=by
   rw [ϊ,ϋ (g:=fun _=>ts.size) (fun x _=>wA ts x),Ϡ,η]
  rw [hlen]at d;refine⟨Nat.le_of_mul_le_mul_right d f,fun x b=> ?_⟩
  clear d hlen;have: ∀l:List (bc ts),bf.fit.fits (l.flatMap (bI ts))-> ∀x∈l,fH ts x:=by
   intro l;induction l with
   |nil=>intro _ x b;cases b
   |cons a l ih=>
    intro h x b;rw [Ö]at h;obtain⟨k1,k2⟩:=Sd h;rcases Ñ.1 b with rfl|b
    .exact Se ts _ k1
    .exact ih k2 x b
  exact this xs i x b
 |.tree _,_,_=>by simp [dG]
theorem Se: ∀(ts:aR) (x:bc ts),bf.fit.fits (bI ts x)->fH ts x
 |.one c,x,h=>by
  simp only [bI,bf.fit.fits]at h;simp only [fH];exact HD c x h.1
 |.cons c cs,x,h=>by
  simp only [bI,bf.fit.fits]at h;simp only [fH];exact⟨HD c x.1 h.1,Se cs x.2 h.2⟩
end
def HE:List DV->Prop
 | []=>True
 |d::ds=>dG d.c d.x/\HE ds
theorem Sf: ∀(ds:List DV),bf.fit.fits (ds.map fun d=>enc d.c d.x)->HE ds
 | [],_=>trivial
 |d::ds,h=>by
  exact⟨HD _ _ h.1,Sf ds h.2⟩
theorem wD {cur:Int} {k:Nat} (b:0<=cur) (d:cur<=1048576) (hk:k<=maxLen):Þ ß (cur-(k:Int))=cur-k:=by
 grind [maxLen,Λ]
theorem ahE {α:Type} {l:List α} {sm:α->Prop} (k:l.length<=1048576) {L:Nat->Nat->Int->Int->Option (Sum Int Int)}
  (b:W fun n=> ∀m (i:Nat) (x:α) (left:Int),l[i]? =ã x->0<=left->left<=1048576-> ∃v,L n (m+1) (i:Int) left=cond (á (v<(0:Int))) (ã (Ϯ (-1))) (L n m (Þ ß ((i:Int)+(1:Int))) v)/\v<=1048576/\(0<=v->sm x))
  (he: ∀n m left,L n (m+1) (l.length:Int) left=ã (Υ left)):
  W fun n=> ∀left:Int,0<=left->left<=1048576-> ∃r,L n n 0 left=ã r/\(∀v,r=.inl v->0<=v/\v<=1048576/\ ∀x∈l,sm x)/\(∀v,r=.inr v->v= -1):=by
 have:=lv (len:=l.length) (L:=fun n m i (left:Int)=>L n m (i:Int) left) (fun i left=>0<=left/\left<=1048576/\ ∀j x,j<i->l[j]? =ã x->sm x)
  (fun r=>(∀v,r=.inl v->0<=v/\v<=1048576/\ ∀x∈l,sm x)/\(∀v,r=.inr v->v= -1)) ?_ ?_
 .simp_all
 .refine b.mono fun n h m i left hi hinv=> ?_
  obtain⟨f,g,p⟩:=hinv;obtain⟨v,e,k1,k2⟩:=h m i l[i] left (Ë hi) f g
  simp [e]
  by_cases d:v<0
  .simp_all
  .rw [du hi ž]
   grind
 .refine W.of fun n m left hinv=>⟨_,he n m left,⟨fun v d=> ?_,fun _ h=>Ŵ⟩⟩
  cases d;refine⟨hinv.1,hinv.2.1,fun x b=> ?_⟩
  obtain⟨j,hj,rfl⟩:=Ô.1 b;simp_all
theorem ahF {α:Type} {a:List α} {d:α} (g:a.length<=1048576) {β:Type} {L:Nat->Nat->Int->List α->Option (Sum (List α) β)}
  (b:W fun n=> ∀m (i:Nat) (out:List α),(h:i<a.length)->out.length=a.length->L n (m+1) (i:Int) out=L n m (Þ ß ((i:Int)+(1:Int))) (out.set i a[i]))
  (he: ∀n m out,L n (m+1) (a.length:Int) out=ã (Υ out)):W fun n=>L n n 0 (Ü a.length d)=ã (Υ a):=by
 have:=lv (len:=a.length) (L:=fun n m i (out:List α)=>L n m (i:Int) out) (fun i out=>i<=a.length/\out=a.take i++Ü (a.length-i) d) (fun r=>r=.inl a) ?_ ?_
 .simp_all
 .refine b.mono fun n h m i out hi hinv=> ?_
  obtain⟨f,rfl⟩:=hinv;have:=h m i _ hi (ahD a d f);rw [du hi ž,ahC hi]at this
  grind
 simp_all [W.of]
theorem ahG {β:Type} {len:Nat} (d:len<=1048576) {L:Nat->Nat->Int->Option (Sum Unit β)}
  (b:W fun n=> ∀m (i:Nat),i<len->L n (m+1) (i:Int)=L n m (Þ ß ((i:Int)+(1:Int))))
  (he: ∀n m,L n (m+1) (len:Int)=ã (Υ ())):W fun n=>L n n 0=ã (Υ ()):=by
 have:=lv (len:=len) (L:=fun n m i (_:Unit)=>L n m (i:Int)) (fun _ _=>True) (fun r=>r=.inl ()) ?_ ?_
 .simp_all
 .refine b.mono fun n h m i _ hi _=> ?_
  have:=h m i hi;rw [du hi ž]at this
  simp_all
 .exact W.of fun n m _ _=>⟨_,he n m,rfl⟩
abbrev ahH:CT->aR
 |.tree fs=>fs
 |c=>.one c
theorem tx {n:Nat} (h:n<=9223372036854775807):Θ n mx=å:=Nat.ble_eq_true_of_le h
end Go.Ev
namespace Go.Ev
def Ax (ds:List DV):Option (bK [.str]):=(eI [.int ß] ds).bind fun n=>ã (Ρ n)
def bA.has (gl:bA) (P:Program) (name:String) (k:IntKind) (b:List Int):Prop:=
 (∃g,P.globalNamed name=ã g/\g<gl.n)/\ω P gl.w name k b
theorem bA.tab {gl:bA} {P:Program} {name:String} {k:IntKind} {d:List Int} (h:gl.has P name k d) {w:World} {F:Nat->Prop} (hw:pR gl w F):ω P w name k d:=by
 obtain⟨⟨g,f,i⟩,b⟩:=h;have e:w.heap[g]? =gl.w.heap[g]? :=(hw.at_ g i).2;unfold ω World.var? at b |-;rw [f]at b |-;simp only [Z]at b |-;rw [e];exact b
theorem HF {α:Type} {a:Array α} (h:a.size=1): ∃x,a= #[x]:=by
 obtain⟨l⟩:=a;match l,h with
 | [x],_=>exact⟨x,rfl⟩
theorem ahI {P:Program} {gl:bA} {f:FuncId} {fn:Func} (t:gl.has P "internal/strconv.uint64pow10" .u64 Ϩ)
  (u: ∀(n:Int) (_: -9223372036854775808<=n) (_:n<=9223372036854775807) (w:World) (_:ω P w "internal/strconv.uint64pow10" .u64 Ϩ),
   Calls P f #[.int ß n] w fun e w'=>e=.returned (.string ⟨(Ρ n).toArray⟩)/\ ∃k os,w'=Sort.grow (w.drewN k) os)
  (ds:List DV) (r:bK [.str]) (h:Ax ds=ã r):
  cR P gl {f:=f,fn:=fn,ins:=[.one (.int ß)],bx:=[],outs:=.one .str,bH:=[],loops:=[],cH:=[],bz:=[.str],bT:=ã Ax} ds r:=by
 intro w F R bl args dB dA AB AA g p d;obtain⟨a,rfl⟩:=HF p;have i:=d.kb;simp only [bY]at i;obtain⟨rfl,rfl⟩:=i;have j:=d.kt;simp only [jk,eJ,bU,ax]at j;obtain⟨d1,d2,A1,A2,z,e2,⟨-,x0,ex,ev,m,rfl⟩,rfl,rfl⟩:=j;obtain⟨x,hx⟩: ∃x:Int,x=x0:=⟨_,rfl⟩
 subst hx;subst z ex e2;simp only [ϡ,Ϣ]at g;subst g;have hv:a=.int ß x:=ev;have hr:r=Ρ x:=by
  have h':ã (Ρ x)=ã r:=h;exact(Α h').symm
 subst hv hr;have q: -9223372036854775808<=x:=m.1;have s:x<=9223372036854775807:=m.2;refine(u x q s w (bA.tab t d.gl)).mono ?_
 rintro e w' ⟨rfl,k,os,rfl⟩
 refine⟨by simp [Sort.grow,World.drewN],fun b m _=> ?_,rfl,rfl,rfl,[⟨.str,Ρ x⟩],[],[],[],rfl, ?_, ?_,Ĵ,Ĵ⟩
 .simp only [hp,Sort.grow,World.drewN]
  rw [Array.getElem?_append_left m]
 .simp only [bU,ax]
  exact⟨.inr rfl,Ρ x,rfl,rfl,by have:=Lib.itoa_length_le x q s;unfold maxLen;omega,trivial⟩
 .simp only [dF,bY];exact⟨trivial,trivial⟩
end Go.Ev
namespace Go.Ev
open Go
theorem ahJ (k:Nat):Æ (ψ (Þ .u8 (Þ ß ((48:Int)+(Ω (k:Int) (10:Int))))))=Æ (48+k%10):=by
 have e:Ω (k:Int) (10:Int)=((k%10:Nat):Int):=rfl;rw [e];have b:Þ ß ((48:Int)+((k%10:Nat):Int))=((48+k%10:Nat):Int):=ż
 rw [b];have d:Þ .u8 ((48+k%10:Nat):Int)=((48+k%10:Nat):Int):=ŝ
 rw [d];rfl
def dd (k:Nat):O:=if k=0 then []else Χ k
theorem ahK {k:Nat} (h:0<k) (acc:O):dd (k/10)++([Æ (48+k%10)]++acc)=dd k++acc:=by
 unfold dd;rw [if_neg (show ¬k=0 by omega)]
 by_cases b:k<10
 .rw [if_pos ž,Χ,dif_pos b]
  simp [Nat.mod_eq_of_lt b]
 .rw [if_neg ž]
  conv=>rhs;rw [Χ,dif_neg b]
  simp
theorem ahL {β:Type} {L:Nat->Int->O->Option (Sum O β)}
  (b: ∀m (k:Nat) acc,0<k->1+acc.length<=mx->L (m+1) (k:Int) acc=L m (Þ ß (ϫ (k:Int) (10:Int))) ([Æ (ψ (Þ .u8 (Þ ß ((48:Int)+(Ω (k:Int) (10:Int))))))]++acc))
  (he: ∀m acc,L (m+1) 0 acc=ã (Υ acc)): ∀(k m:Nat) (acc:O),k<m->acc.length+k<=mx->L m (k:Int) acc=ã (Υ (dd k++acc)):=by
 intro k;induction k using ν with
 |_ k ih=>
  intro m acc hm d;obtain⟨m,rfl⟩: ∃m',m=m'+1:=⟨m-1,ž⟩
  by_cases f:k=0
  .subst f;rw [show ((0:Nat):Int)=0 from rfl,he];simp [dd]
  .rw [b m k acc ž ž,ahJ]
   have e:ϫ (k:Int) (10:Int)=((k/10:Nat):Int):=rfl;have hw:Þ ß ((k/10:Nat):Int)=((k/10:Nat):Int):=by unfold mx at d;rw [Λ];omega
   rw [e,hw,ih (k/10) ž m _ ž ź,ahK ž]
theorem HG {k:Nat}:Ρ (k:Int)=Χ k:=by unfold Ρ;rw [if_neg ž];simp
theorem HH {α:Type} {l:List α} {i:Nat} (h:i<l.length):l.take (i+1)=l.take i++[l[i]]:=by
 rw [List.take_add_one,Ë h];rfl
end Go.Ev
namespace Go.Ev
open Go
structure df (P:Program) (gl:bA) (l:List Entry):Prop where
 ok: ∀x∈l,∀p,x.bT=ã p-> ∀ds r,p ds=ã r->cR P gl x ds r
theorem df.nil {P:Program} {gl:bA}:df P gl []:=⟨Ż⟩
theorem df.no {P:Program} {gl:bA} {x:Entry} {l:List Entry} (h:x.bT.isNone=å) (b:df P gl l):df P gl (x::l):=⟨fun y hy p hp=>by
 rcases Ñ.1 hy with rfl|hy
 .rw [hp]at h;cases h
 .exact b.ok y hy p hp⟩
theorem df.cons {P:Program} {gl:bA} {x:Entry} {l:List Entry} (h: ∀p,x.bT=ã p-> ∀ds r,p ds=ã r->cR P gl x ds r) (b:df P gl l):df P gl (x::l):=⟨fun y hy=>by
 rcases Ñ.1 hy with rfl|hy
 .exact h
 .exact b.ok y hy⟩
theorem Sg {P:Program} {w:World} {name:String} {d:DataW Unit}: ∀ {l:List (String×DataW Unit)} {b:List MemPlace},DataW.LaidVars P w l b->(name,d)∈l->
  ∃g t cs fuel p,P.globalNamed name=ã g/\(P.globals[g]?).map (·.type)=ã t/\w.var? P name=ã cs/\DataW.trod (fun _=>()) P w 0 (fun _=>å) ä fuel t cs.toList=ã (d,p)
 | [],_,_,h=>ņ
 |(n,e)::l,b,f,h=>by
  obtain⟨g,t,cs,fuel,p,q,i,j,k,m,r, -⟩:=f;rcases Ñ.1 h with s|h
  .cases s
   exact⟨g,t,cs,fuel,p,i,j,k,m⟩
  .exact Sg r h
theorem ahM {P:Program} {w:World} {name:String} {k:IntKind} {j:List Int} {l:List (String×DataW Unit)} {g:Nat} {t e:TypeId} {n:Nat} (m:laidMet P l w) (hm:(name,Lib.tabData k j)∈l)
  (d:P.globalNamed name=ã g) (f:(P.globals[g]?).map (·.type)=ã t) (q:P.underlying t=ã (.array n e)) (he:P.underlying e=ã (.int k)) (h:P.cellsOf e=1) (i:P.cellsOf t=n):
  (bA.mk w.heap.size w).has P name k j:=by
 obtain⟨ps,r, -⟩:=m;obtain⟨g',t',cs,fuel,p,s,u,b,z⟩:=Sg r hm;obtain rfl:=Α (d.symm.trans s);obtain rfl:=Α (f.symm.trans u);refine⟨⟨g,d, ?_⟩, ?_⟩
 .unfold World.var? at b
  rw [d]at b;simp only [Z]at b;split at b
  .rename_i c _ _ hc
   exact(Ο.1 hc).1
  .cases b
 .unfold ω
  rw [show (bA.mk w.heap.size w).w=w from rfl,b,<-Lib.cells_of_tab q he h i z]
end Go.Ev
namespace Go.Ev
open Go
def Ay (ds:List DV):Option (bK [.int ß]):=(eI [.str,.int .u8] ds).bind fun p=>ã (Ê p.1 p.2)
def Az (ds:List DV):Option (bK [.int ß]):=(eI [.str,.str] ds).bind fun p=>ã (Ì p.1 p.2)
theorem ahN {α:Type} {a:Array α} (h:a.size=2): ∃x y,a= #[x,y]:=by
 obtain⟨l⟩:=a;match l,h with
 | [x,y],_=>simp
theorem wE {gl:bA} {E:Entry} {w:World} {F R:Nat->Prop} {bl:Nat->Nat} {args:Array Value} {dB dA:List DV} {AB AA:Env} {k1 k2:CK} (d:E.ins=[.one k1,.one k2]) (k:E.bx=[]) (f:args.size=E.ins.length)
  (g:rB gl E w F R bl (fun i=>args.getD i undef) dB dA AB AA): ∃a b d1 d2 A1 A2,args= #[a,b]/\dB++dA=d1++d2/\(∃nm,ax (hp w) R (eP bl) å AB nm k1 d1 a A1)/\ ∃nm,ax (hp w) R (eP bl) å (AB++A1) nm k2 d2 b A2:=by
 rw [d]at f;obtain⟨a,b,rfl⟩:=ahN f;have h:=g.kb;rw [k]at h;obtain⟨rfl,rfl⟩:=h;have j:=g.kt;rw [d]at j;obtain⟨d1,m,A1,p,q,r,⟨-,s⟩,d2,d3,A2,A3,t,u,⟨-,z⟩,e5,e6⟩:=j;subst q r t u e5 e6;exact⟨a,b,d1,d2,A1,A2,rfl,Ż,⟨_,s⟩,⟨_,z⟩⟩
theorem tz {E:Entry} {w:World} {F R:Nat->Prop} {bl:Nat->Nat} {r:bK E.bz} {u:Value} (b:E.bx=[]) (hk:bU (hp w) R pQ å [] (ft 9000) E.outs (lg E.bz r) u []):jP E w w F R bl r u:=by
 refine⟨Ï _,fun _ _ _=>rfl,rfl,rfl,rfl,lg E.bz r,[],[],[],Ż,hk, ?_,by simp_all [Env.fps],Ĵ⟩
 simp_all [dF,bY]
theorem Si: ∀(l:List UInt8) (c:UInt8),Ê l c<=l.length
 | [],c=>by simp [Ê]
 |b::l,c=>by
  have:=Si l c;grind [Ê]
theorem HI: ∀(a b:List UInt8), -1<=Ì a b/\Ì a b<=1
 | [],[]=>ŗ
 | [],_::_=>ŗ
 |_::_,[]=>ŗ
 |a::as,b::d=>by
  have:=HI as d;grind [Ì]
theorem ahO {P:Program} {gl:bA} {f:FuncId} {fn:Func}
  (k: ∀(s:ByteArray) (c:Int) (w:World),Calls P f #[.string s,.int .u8 c] w fun e w'=>e=.returned (.int ß (Ê s.data.toList c.toNat.toUInt8))/\w'=w)
  (ds:List DV) (r:bK [.int ß]) (h:Ay ds=ã r):
  cR P gl {f:=f,fn:=fn,ins:=[.one .str,.one (.int .u8)],bx:=[],outs:=.one (.int ß),bH:=[],loops:=[],cH:=[],bz:=[.int ß],bT:=ã Ay} ds r:=by
 intro w F R bl args dB dA AB AA d g i;obtain⟨a,b,d1,d2,A1,A2,rfl,m,⟨p,q⟩,t,u⟩:=wE (k1:=.str) (k2:=.int .u8) rfl rfl g i;rw [m]at d;subst d;obtain⟨x,rfl,rfl,z, -⟩:=q;obtain⟨c,rfl,rfl,hb, -⟩:=u;have h':ã (Ê (x:O) (c:UInt8))=ã r:=h;have hr:r=Ê (x:O) (c:UInt8):=(Α h').symm;subst hr;refine(k ⟨(x:O).toArray⟩ (kr .u8 c) w).mono ?_
 rintro e w' ⟨rfl,rfl⟩
 refine tz rfl ?_
 have e1:(kr .u8 c).toNat.toUInt8=(c:UInt8):=by
  show((((c:UInt8).toNat:Int)).toNat).toUInt8=(c:UInt8);grind [UInt8.ofNat_toNat]
 have j: -1<=Ê (x:O) (c:UInt8)/\Ê (x:O) (c:UInt8)<=(x:O).length:=⟨Lib.indexByte_ge _ _,Si _ _⟩;unfold maxLen at z;simp only [bU,ax];refine⟨.inr rfl,_,rfl, ?_,⟨?_, ?_⟩,trivial⟩
 .simp [e1];rfl
 .show -9223372036854775808<=Ê (x:O) (c:UInt8);omega
 .show Ê (x:O) (c:UInt8)<=9223372036854775807;omega
theorem ahP {P:Program} {gl:bA} {f:FuncId} {fn:Func}
  (k: ∀(a b:ByteArray) (w:World),Calls P f #[.string a,.string b] w fun e w'=>e=.returned (.int ß (Ì a.data.toList b.data.toList))/\w'=w)
  (ds:List DV) (r:bK [.int ß]) (h:Az ds=ã r):
  cR P gl {f:=f,fn:=fn,ins:=[.one .str,.one .str],bx:=[],outs:=.one (.int ß),bH:=[],loops:=[],cH:=[],bz:=[.int ß],bT:=ã Az} ds r:=by
 intro w F R bl args dB dA AB AA d g i;obtain⟨a,b,d1,d2,A1,A2,rfl,m,⟨p,q⟩,s,t⟩:=wE (k1:=.str) (k2:=.str) rfl rfl g i;rw [m]at d;subst d;obtain⟨x,rfl,rfl,hx, -⟩:=q;obtain⟨c,rfl,rfl,hb, -⟩:=t;have u:ã (Ì (x:O) (c:O))=ã r:=h;have z:r=Ì (x:O) (c:O):=(Α u).symm;subst z;refine(k ⟨(x:O).toArray⟩ ⟨(c:O).toArray⟩ w).mono ?_
 rintro e w' ⟨rfl,rfl⟩
 refine tz rfl ?_
 have j:=HI (x:O) (c:O);simp only [bU,ax];refine⟨.inr rfl,_,rfl,rfl,⟨?_, ?_⟩,trivial⟩
 .show -9223372036854775808<=Ì (x:O) (c:O);omega
 .show Ì (x:O) (c:O)<=9223372036854775807;omega
def AE (ds:List DV):Option (bK [.int ß,.bool]):=(eI [.str] ds).bind fun s=>cond (Θ (Õ (α:=UInt8) s) 18) ((ε s).map fun n=>(n,ä)) â
theorem ahQ {P:Program} {gl:bA} {f:FuncId} {fn:Func} {B:TypeId}
  (hc: ∀(s:ByteArray) (n:Int) (_:s.size<=18) (_:ε s.data.toList=ã n) (w:World),Calls P f #[.string s] w fun e w'=>e=.returned (.tuple #[.int ß n,.nilIface])/\ ∃t,w'=Lib.bytesWorld w B t)
  (ds:List DV) (r:bK [.int ß,.bool]) (h:AE ds=ã r):
  cR P gl {f:=f,fn:=fn,ins:=[.one .str],bx:=[],outs:=.aM [.one (.int ß),.one .er],bH:=[],loops:=[],cH:=[],bz:=[.int ß,.bool],bT:=ã AE} ds r:=by
 intro w F R bl args dB dA AB AA j k g;obtain⟨a,rfl⟩:=HF k;have m:=g.kb;obtain⟨rfl,rfl⟩:=m;have p:=g.kt;obtain⟨d1,d2,A1,A2,e1,e2,⟨-,x0,ex,ev,z,rfl⟩,rfl,rfl⟩:=p;obtain⟨x,hx⟩: ∃x:O,x=x0:=⟨_,rfl⟩
 subst hx;subst e1 ex e2;subst j;have hv:a=.string ⟨x.toArray⟩:=ev;subst hv;have q:cond (Θ x.length 18) ((ε x).map fun n=>(n,ä)) â=ã r:=h
 cases i:Θ x.length 18 with
 |false=>simp_all
 |true=>
  rw [i]at q;obtain⟨n,u⟩: ∃n,ε x=ã n:=by
   cases ha:ε x with
   |none=>simp_all
   |some n=>simp
  rw [u]at q;have hr:r=((n,ä):Int×Bool):=(Α q).symm;subst hr;have i:=Κ i;have al:=Lib.atoi_bound u i;refine(hc ⟨x.toArray⟩ n (by assumption) u w).mono ?_
  rintro e w' ⟨rfl,t,rfl⟩
  have d:=Lib.bytesWorld_below w B t;refine⟨d.size,fun b z _=>d.block b z,d.os,d.tape,d.output,[⟨.int ß,n⟩,⟨.bool,ä⟩],[],[],[],rfl, ?_,Ē,Ĵ,Ĵ⟩
  refine⟨_,rfl,_,_,[⟨.int ß,n⟩],[⟨.bool,ä⟩],[],[],rfl,rfl,rfl,.inr rfl,⟨n,rfl,rfl,⟨?_, ?_⟩,rfl⟩,_,_,[⟨.bool,ä⟩],[],[],[],rfl,rfl,rfl,.inr rfl,⟨ä,rfl,.inl ⟨rfl,rfl⟩,rfl⟩,rfl,rfl,rfl⟩
  .show -9223372036854775808<=n;omega
  .show n<=9223372036854775807;omega
end Go.Ev
namespace Go.Ev
open Go
def fI (c:CT) (ds:List DV):Option (bK [c]):=(eI [c] ds).bind fun x=>cond (Θ (aF c x) big) (ã x) â
def ahR (c:CT) (x:Interp c) (i j:Int):Option (Interp c):=cond (á (0<=i/\i<=j/\j<=aF c x)) (ã (ku c (gk c i.toNat x) (gL c j.toNat x))) â
def ahS (c:CT) (x:Interp c) (i:Int) (v:Interp c):Option (Interp c):=cond (á (0<=i/\i<=aF c x)&&Θ (aF c x+aF c v) big) (ã (ku c (gk c i.toNat x) (ku c v (gL c i.toNat x)))) â
def wF (c:CT) (ds:List DV):Option (bK [c]):=(eI [c,.int ß,.int ß] ds).bind fun p=>ahR c p.1 p.2.1 p.2.2
def tA (c:CT) (ds:List DV):Option (bK [c]):=(eI [c,.int ß,c] ds).bind fun p=>ahS c p.1 p.2.1 p.2.2
def primMul64 (ds:List DV):Option (bK [.int .u64,.int .u64]):=(eI [.int .u64,.int .u64] ds).bind fun p=>ã (((show Int from p.1)*(show Int from p.2))/18446744073709551616,((show Int from p.1)*(show Int from p.2))%18446744073709551616)
def cI (t:O):O->Int
 | []=>cond (ϣ t ([]:O)) 0 (-1)
 |b::s=>cond (ϣ t (b::s)) 0 (cond (á (0<=cI t s)) (cI t s+1) (-1))
def AF (ds:List DV):Option (bK [.int ß]):=(eI [.str,.str] ds).bind fun p=>cond (Θ (Õ (α:=UInt8) p.1) 4000000000) (ã (cI p.2 p.1)) â
def HJ (s:O):O->Option Bool
 | [c]=>ã (á (0<=Ê s c))
 |t=>cond (Θ (Õ (α:=UInt8) s) 4000000000) (ã (á (0<=cI t s))) â
def AG (ds:List DV):Option (bK [.bool]):=(eI [.str,.str] ds).bind fun p=>HJ p.1 p.2
def bk (cur:O):O->List O
 | []=>cond (ϩ cur) [] [cur]
 |b::s=>cond (b==32) (cond (ϩ cur) (bk [] s) (cur::bk [] s)) (bk (cur++[b]) s)
def wG (ds:List DV):Option (bK [.sl (.one .str)]):=(eI [.str] ds).bind fun s=>cond (Θ (Õ (α:=UInt8) s) 4000000000) (ã (bk [] s)) â
def kH (l:List Int):List Int:=l.mergeSort fun a b=>á (a<=b)
def wH (ds:List DV):Option (bK [.sl (.one (.int ß))]):=(eI [.sl (.one (.int ß))] ds).bind fun l=>cond (Θ (Õ (α:=Int) l) big) (ã (kH l)) â
end Go.Ev
namespace Go.Ev
abbrev AH:List CT->Type->Type
 | [],α=>α
 |c::cs,α=>Interp c->AH cs α
def cur {α:Type}:(cs:List CT)->(List DV->α)->AH cs α
 | [],f=>f []
 |c::cs,f=>fun x=>cur cs fun ds=>f (⟨c,x⟩::ds)
mutual
def Sj:CK->List CT
 |.bool=>[.bool]
 |.int k=>[.int k]
 |.str=>[.str]
 |.er=>[.bool]
 |.sh c=>[c]
 |.own c=>[c]
 |.gs _ c=>[c]
 |.fn _ a b=>tB a++tB b
 |_=>[]
def tB:List CK->List CT
 | []=>[]
 |k::ks=>Sj k++tB ks
end
mutual
def dV:bg->List CT
 |.one k=>Sj k
 |.agg ks=>tB ks
 |.aM vs=>HK vs
def HK:List bg->List CT
 | []=>[]
 |v::vs=>dV v++HK vs
end
def HL:List (Nat×List CK)->List CT
 | []=>[]
 |(_,ks)::r=>tB ks++HL r
def Sk:List (Nat×bg)->List CT
 | []=>[]
 |(_,v)::r=>dV v++Sk r
def Sl:List (List CK)->List CT
 | []=>[]
 |ks::r=>tB ks++Sl r
def Sm (g:cG):List CT:=HL g.boxes++Sk g.tmps
def Sn (E:Entry):List CT:=HL E.bx++HK E.ins
def lp (g h:cG):cG×cG×List CT:=(g,h,Sm h)
def Sp (t:Nat):List Nat->Bool
 | []=>ä
 |x::r=>Ð x t||Sp t r
def AI (l:List Nat):List (Nat×bg)->List (Nat×bg)
 | []=>[]
 |(t,k)::r=>cond (Sp t l) ((t,k)::AI l r) (AI l r)
def lq (ts:List (Nat×bg)) (bx:List (Nat×List CK)) (l:List Nat):cG×cG×List CT:=lp ⟨ts,bx⟩ ⟨AI l ts,bx⟩
def lr (ts:List (Nat×bg)) (bx:List (Nat×List CK)) (l:List Nat):cG×cG×List CT:=lp ⟨ts,bx⟩ ⟨AI l ts,[]⟩
def AJ (id:Nat):List (Nat×cG×cG×List CT)->cG×cG×List CT
 | []=>lp ⟨[],[]⟩ ⟨[],[]⟩
 |(i,x)::r=>cond (Ð i id) x (AJ id r)
def bG (f:FuncId) (fn:Func) (ins:List bg) (bx:List (Nat×List CK)) (outs:bg) (bH:List (List CK)) (loops:List (Nat×cG×cG×List CT)) (cH:List Nat):Entry:=
 {f:=f,fn:=fn,ins:=ins,bx:=bx,outs:=outs,bH:=bH,loops:=loops,cH:=cH,bz:=dV outs++Sl bH,bT:=â}
def mkB (f:FuncId) (fn:Func) (ins:List bg) (outs:bg) (loops:List (Nat×cG×cG×List CT)) (cH:List Nat) (back:Nat):Entry:=
 {f:=f,fn:=fn,ins:=ins,bx:=[],outs:=outs,bH:=[],loops:=loops,cH:=cH,bz:=dV outs,bT:=â,back:=ã back}
def cT (f:FuncId) (fn:Func) (ins:List bg) (outs:bg) (loops:List (Nat×cG×cG×List CT)) (cH:List Nat):Entry:=bG f fn ins [] outs [] loops cH
def bn (f:FuncId) (fn:Func) (ins:List bg) (outs:bg) (loops:List (Nat×cG×cG×List CT)):Entry:=bG f fn ins [] outs [] loops []
def ak (f:FuncId) (fn:Func) (ins:List bg) (outs:bg):Entry:=bG f fn ins [] outs [] [] []
def fS (E:Entry):Bool:=kE E&&(wj E&&(!(E.fn.name== "runtime.NumGoroutine")&& !E.fn.body.isNone))
theorem dt.of {P:Program} {l:List Entry} (h:l.all fS=å) (g:l.map (fun E=>P.funcs[E.f]?)=l.map fun E=>ã E.fn):dt P l:=⟨fun x d=>by
 have b:=List.all_eq_true.1 h x d;simp only [fS,Â,Τ]at b;exact⟨b.1,b.2.1,List.map_inj_left.1 g x d,b.2.2.1,b.2.2.2⟩⟩
theorem dt.app {P:Program} {l m:List Entry} (h:dt P l) (k:dt P m):dt P (l++m):=⟨fun x b=>(È.1 b).elim (h.ok x) (k.ok x)⟩
end Go.Ev
namespace Go.Ev
open Go
noncomputable def bo (P:Prop):Bool:= @decide P (Ζ P)
theorem oh {P:Prop}:(bo P=å)=P:=by
 unfold bo;exact propext (@decide_eq_true_iff P (Ζ P))
theorem aA {P:Prop} (h:P):bo P=å:=by rw [oh];exact h
theorem aw {P:Prop} (h: ¬P):bo P=ä:=by
 cases e:bo P
 .rfl
 .exact absurd (oh.mp e) h
theorem oi (b:Bool):b=bo (b=å):=by
 cases b
 .exact(aw Ż).symm
 .exact(aA rfl).symm
theorem dH (P:Prop) [inst:Decidable P]:decide P=bo P:=by
 by_cases h:P
 .rw [hC h,aA h]
 .rw [hJ h,aw h]
theorem cC (P:Prop):(!bo P)=bo (¬P):=by
 by_cases h:P
 .rw [aA h,aw ŏ];rfl
 .rw [aw h,aA h];rfl
theorem bW {α:Type} [BEq α] [LawfulBEq α] (a b:α):(a==b)=bo (a=b):=by
 by_cases h:a=b
 .rw [aA h,h];simp
 .rw [aw h];simp [h]
theorem eQ {α:Type} [BEq α] [LawfulBEq α] (a b:α):(a !=b)=bo (¬a=b):=by
 unfold bne;rw [bW,cC]
theorem ahU {α:Type} (P:Prop) (x y:α):cond (bo P) x y= @ite α P (Ζ P) x y:=by
 by_cases h:P
 .rw [aA h,if_pos h];rfl
 .rw [aw h,if_neg h];rfl
theorem gQ (P Q:Prop):cond (bo P) (ã (bo Q)) (ã ä)=ã (bo (P/\Q)):=by
 by_cases h:P
 .rw [aA h];simp [h]
 .rw [aw h,aw (fun k:P/\Q=>h k.1)];rfl
theorem lZ (P Q:Prop):cond (bo P) (ã å) (ã (bo Q))=ã (bo (P\/Q)):=by
 by_cases h:P
 .rw [aA h,aA (Or.inl h)];rfl
 .rw [aw h];simp [h]
theorem wI (P Q:Prop):cond (bo P) (ã ä) (ã (bo Q))=ã (bo (¬P/\Q)):=by
 by_cases h:P
 .rw [aA h,aw (fun k: ¬P/\Q=>k.1 h)];rfl
 .rw [aw h];simp [h]
theorem ig {P Q:Prop} (h:P↔Q):(ã (bo P):Option Bool)=ã (bo Q):=by rw [propext h]
theorem ij {α:Type} (P Q:Prop) (x y:α):cond (bo P) x (cond (bo Q) x y)=cond (bo (P\/Q)) x y:=by
 by_cases h:P
 .rw [aA h,aA (Or.inl h)];rfl
 .rw [aw h];simp [h]
theorem dL {α:Type} {P Q:Prop} {x y:α} (h: ¬P↔Q):cond (bo P) x y=cond (bo Q) y x:=by
 by_cases k:P
 .rw [aA k,aw (fun q=>h.2 q k)];rfl
 .rw [aw k,aA (h.1 k)];rfl
theorem tC:bo True=å:=aA trivial
theorem tD:bo False=ä:=aw id
theorem AK (P A B:Prop):cond (bo P) (ã (bo A)) (ã (bo B))=ã (bo ((P/\A)\/(¬P/\B))):=by
 by_cases h:P
 .rw [aA h];simp [h]
 .rw [aw h];simp [h]
theorem cO {α β γ:Type} (a:α) (f:α->Option γ) (g:β->Option γ):aq (Υ a) f g=f a:=rfl
theorem wJ {α β γ:Type} (a:β) (f:α->Option γ) (g:β->Option γ):aq (Ϯ a) f g=g a:=rfl
theorem fT {α β γ:Type} (P:Prop) (a:α) (b:β) (f:α->Option γ) (g:β->Option γ):aq (cond (bo P) (Υ a) (Ϯ b)) f g=cond (bo P) (f a) (g b):=by
 cases bo P<;>rfl
theorem kJ (P:Prop):cond (bo P) (ã å) (ã ä)=ã (bo P):=by cases bo P<;>rfl
theorem Sq (P:Prop):cond (bo P) (ã ä) (ã å)=ã (bo (¬P)):=by rw [<-cC];cases bo P<;>rfl
theorem tE {α β:Type} (P:Prop) (x y:Option α) (f:α->Option β):(cond (bo P) x y).bind f=cond (bo P) (x.bind f) (y.bind f):=by cases bo P<;>rfl
theorem kK {β γ:Type} {len:Nat} (s:len<=1048576) {q:Nat->Prop} {r:γ} {b:β} {L:Nat->Nat->Int->Option (Sum β γ)}
  (f:W fun n=> ∀m (i:Nat),i<len->L n (m+1) (i:Int)=cond (bo (q i)) (L n m (Þ ß ((i:Int)+(1:Int)))) (ã (.inr r)))
  (he: ∀n m,L n (m+1) (len:Int)=ã (.inl b)):W fun n=>L n n 0=ã (cond (bo (∀i,i<len->q i)) (.inl b) (.inr r)):=by
 have:=lv (len:=len) (L:=fun n m i (_:Unit)=>L n m (i:Int)) (fun i _=> ∀j,j<i->q j) (fun x=>x=cond (bo (∀i,i<len->q i)) (.inl b) (.inr r)) ?_ ?_
 .exact this.mono fun n h=>by
   obtain⟨x,g,p⟩:=h () (fun j hj=>absurd hj (κ _))
   rw [<-p];exact g
 .refine f.mono fun n h m i _ hi hinv=> ?_
  have h:=h m i hi;by_cases d:q i
  .right
   rw [aA d]at h;refine⟨(),Ŋ,fun j hj=> ?_⟩
   by_cases e:j=i
   .subst e;exact d
   .exact hinv j ž
  .left
   rw [aw d]at h;refine⟨_,h, ?_⟩
   rw [aw (fun k=>d (k i hi))]
   rfl
 .exact W.of fun n m _ hinv=>⟨_,he n m,by rw [aA hinv];rfl⟩
theorem ahV {β γ:Type} {len:Nat} (p:len<=1048576) {q:Nat->Prop} {r:Int->γ} {b:β} {L:Nat->Nat->Int->Option (Sum β γ)}
  (g:W fun n=> ∀m (i:Nat),i<len->L n (m+1) (i:Int)=cond (bo (q i)) (ã (.inr (r i))) (L n m (Þ ß ((i:Int)+(1:Int)))))
  (he: ∀n m,L n (m+1) (len:Int)=ã (.inl b)):W fun n=>(∃i:Nat,i<len/\q i/\L n n 0=ã (.inr (r i)))\/((∀i,i<len-> ¬q i)/\L n n 0=ã (.inl b)):=by
 have:=lv (len:=len) (L:=fun n m i (_:Unit)=>L n m (i:Int)) (fun i _=> ∀j,j<i-> ¬q j) (fun x=>(∃i:Nat,i<len/\q i/\x=.inr (r i))\/((∀i,i<len-> ¬q i)/\x=.inl b)) ?_ ?_
 .exact this.mono fun n h=>by
   obtain⟨x,f,k⟩:=h () (fun j hj=>absurd hj (κ _))
   have f:L n n 0=ã x:=f;rw [f];rcases k with⟨i,a,c,rfl⟩|⟨a,rfl⟩
   .exact .inl ⟨i,a,c,rfl⟩
   .exact .inr ⟨a,rfl⟩
 .refine g.mono fun n h m i _ hi hinv=> ?_
  have h:=h m i hi;by_cases d:q i
  .left
   rw [aA d]at h;exact⟨_,h,.inl ⟨i,hi,d,rfl⟩⟩
  .right
   rw [aw d]at h;refine⟨(),Ŋ,fun j hj=> ?_⟩
   by_cases e:j=i
   .subst e;exact d
   .exact hinv j ž
 .exact W.of fun n m _ hinv=>⟨_,he n m,.inr ⟨hinv,rfl⟩⟩
theorem wK {α:Type} {l:List α} {i:Nat} (b:0<i) (h:i<l.length) (d:l.length<=1048576):au l (Þ ß ((i:Int)-(1:Int)))=ã (l[i-1]'(by omega)):=by
 have e:Þ ß ((i:Int)-(1:Int))=((i-1:Nat):Int):=ż
 rw [e,bB ž]
theorem AL {α:Type} {l:List α} (b:0<l.length) (d:l.length<=1048576):au l (Þ ß ((l.length:Int)-(1:Int)))=ã (l[l.length-1]'(by omega)):=by
 have e:Þ ß ((l.length:Int)-(1:Int))=((l.length-1:Nat):Int):=ż
 rw [e,bB ž]
theorem ahW {α:Type} (l:List α) (p:α->Prop):(∀i,(h:i<l.length)->p l[i])↔ ∀x∈l,p x:=by
 constructor
 .intro h x b
  obtain⟨i,hi,rfl⟩:=Ô.1 b;exact h i hi
 .exact fun h i hi=>h _ (Γ hi)
def At {α:Type} (l:List α) (p:α->Prop) (i:Nat):Prop:= ∀h:i<l.length,p l[i]
theorem rF {α:Type} (l:List α) (p:α->Prop):(∀i,i<l.length->At l p i)↔ ∀x∈l,p x:=by
 rw [<-ahW];exact⟨fun h i hi=>h i hi hi,fun h i hi _=>h i hi⟩
theorem mb {α:Type} {l:List α} {p:α->Prop} {i:Nat} (h:i<l.length):At l p i↔p l[i]:=⟨fun k=>k h,fun k _=>k⟩
theorem lA {α β γ:Type} {l:List α} (d:l.length<=1048576) {p:α->Prop} {r:γ} {b:β} {L:Nat->Nat->Int->Option (Sum β γ)}
  (f:W fun n=> ∀m (i:Nat),(h:i<l.length)->L n (m+1) (i:Int)=cond (bo (p l[i])) (L n m (Þ ß ((i:Int)+(1:Int)))) (ã (.inr r)))
  (he: ∀n m,L n (m+1) (l.length:Int)=ã (.inl b)):W fun n=>L n n 0=ã (cond (bo (∀x∈l,p x)) (.inl b) (.inr r)):=by
 have:=kK (len:=l.length) d (q:=At l p) (r:=r) (b:=b) (L:=L) (f.mono fun n h m i hi=>by rw [h m i hi,propext (mb (p:=p) hi)]) he
 simpa only [rF]using this
theorem lB {α β γ:Type} {l:List α} (g:l.length<=1048576) {p:α->Prop} {r:Int->γ} {b:β} {L:Nat->Nat->Int->Option (Sum β γ)}
  (d:W fun n=> ∀m (i:Nat),(h:i<l.length)->L n (m+1) (i:Int)=cond (bo (p l[i])) (ã (.inr (r i))) (L n m (Þ ß ((i:Int)+(1:Int)))))
  (he: ∀n m,L n (m+1) (l.length:Int)=ã (.inl b)):W fun n=>((∃x∈l,p x)/\ ∃i:Nat,L n n 0=ã (.inr (r i)))\/((∀x∈l,¬p x)/\L n n 0=ã (.inl b)):=by
 have:=ahV (len:=l.length) g (q:=At l p) (r:=r) (b:=b) (L:=L) (d.mono fun n h m i hi=>by rw [h m i hi,propext (mb (p:=p) hi)]) he
 refine this.mono fun n h=> ?_
 rcases h with⟨i,hi,f,e⟩|⟨f,e⟩
 .exact .inl ⟨⟨_,Γ hi,(mb hi).1 f⟩,i,e⟩
 .refine .inr ⟨fun x d hp=> ?_,e⟩
  obtain⟨i,hi,rfl⟩:=Ô.1 d;exact f i hi ((mb hi).2 hp)
theorem HM (i:Nat):bo ((0:Int)<=(i:Int))=å:=aA ž
theorem HN:bo ((0:Int)<=(-1:Int))=ä:=aw ž
theorem tF {α β:Type} {l:List α} {p:α->Prop} {o:Option (Int×β)} {c:β}
  (h:((∃x∈l,p x)/\ ∃i:Nat,o=ã ((i:Int),c))\/((∀x∈l,¬p x)/\o=ã ((-1:Int),c))):o.bind (fun y=>ã (á ((0:Int)<=y.1),y.2))=ã (bo (∃x∈l,p x),c):=by
 rcases h with⟨h,i,rfl⟩|⟨h,rfl⟩
 .simp only [Z,dH,HM,aA h]
 .simp only [Z,dH,HN]
  rw [aw (fun ⟨x,b,hp⟩=>h x b hp)]
theorem HO {α:Type} {l:List α} {p:α->Prop} {o:Option Int}
  (h:((∃x∈l,p x)/\ ∃i:Nat,o=ã (i:Int))\/((∀x∈l,¬p x)/\o=ã (-1:Int))):o.bind (fun y=>ã (á ((0:Int)<=y)))=ã (bo (∃x∈l,p x)):=by
 rcases h with⟨h,i,rfl⟩|⟨h,rfl⟩
 .simp only [Z,dH,HM,aA h]
 .simp only [Z,dH,HN]
  rw [aw (fun ⟨x,b,hp⟩=>h x b hp)]
theorem W.lt {len:Nat} {p:(i:Nat)->i<len->Nat->Prop} (h: ∀i (hi:i<len),W (p i hi)):W fun n=> ∀i (hi:i<len),p i hi n:=
 (W.all (p:=fun i n=> ∀hi:i<len,p i hi n) (ι len) fun i hi=>(h i (Ι.1 hi)).mono fun _ k _=>k).mono fun _ k i hi=>k i (Ι.2 hi) hi
theorem oj {P Q:Prop} (h:P↔Q):bo P=bo Q:=by rw [propext h]
theorem ahX {P:Prop} (h:P):(ã å:Option Bool)=ã (bo P):=by rw [aA h]
theorem ahY {P:Prop} (h: ¬P):(ã ä:Option Bool)=ã (bo P):=by rw [aw h]
theorem dx {p:Prop} (h:p:=by((try simp only [dH,bW,eQ,cC,Z,Option.bind_none,tE,fT,Y,ez,kJ,Sq,ώ,Bool.not_false]);(try simp only [ahU]);(repeat' split);all_goals first|rfl|(refine ig ?_;grind)|(refine ahX ?_;grind)|(refine ahY ?_;grind)|(exfalso;grind))):p:=h
theorem dy {l:O} {i:Nat} (h:i<l.length):bF l (i:Int)=ã l[i]:=by
 unfold bF nth;rw [hC ž]
 simp [h]
theorem W.nm {p q:Nat->Prop} (h:W p) (k: ∀n,p n->q (n+1)):W q:=W.succ (h.mono k)
theorem dR (b:UInt8):Æ (ψ (b.toNat:Int))=b:=Ż
theorem aU {i len:Nat} (h:i<len):á ((i:Int)<(len:Int))=å:=hC ž
theorem bM (len:Nat):á ((len:Int)<(len:Int))=ä:=hJ ž
theorem Sr {α:Type} {p:α->Bool}: ∀(l:List α) (i:Nat) (h:i<l.length),i<=(l.takeWhile p).length->p l[i]=å->i+1<=(l.takeWhile p).length
 |a::l,0,_,_,hp=>by
  have hp:p a=å:=hp;simp [hp]
 |a::l,i+1,h,hi,hp=>by
  rw [Ç]at hi |-;by_cases e:p a=å
  .rw [if_pos e]at hi |-
   have:=Sr l i Ű ķ hp
   simpa using this
  .rw [if_neg e]at hi
   simp at hi
theorem Ss {α:Type} {p:α->Bool}: ∀(l:List α) (i:Nat) (h:i<l.length),p l[i]=ä->(l.takeWhile p).length<=i
 |a::l,0,_,hp=>by
  have hp:p a=ä:=hp;simp [hp]
 |a::l,i+1,h,hp=>by
  rw [Ç];by_cases e:p a=å
  .rw [if_pos e]
   have:=Ss l i Ű hp
   simpa using this
  .rw [if_neg e]
   simp
theorem om {α:Type} (p:α->Bool) (l:List α):(l.takeWhile p).length<=l.length:=(List.takeWhile_sublist p).length_le
theorem Sv {α β:Type} {l:List α} (j:l.length<=1048576) {p:α->Bool} {L:Nat->Nat->Int->Option (Sum Int β)}
  (d:W fun n=> ∀m (i:Nat),(h:i<l.length)->L n (m+1) (i:Int)=cond (p l[i]) (L n m (Þ ß ((i:Int)+(1:Int)))) (ã (.inl i)))
  (he: ∀n m,L n (m+1) (l.length:Int)=ã (.inl (l.length:Int))):W fun n=>L n n 0=ã (.inl ((l.takeWhile p).length:Int)):=by
 have:=lv (len:=l.length) (L:=fun n m i (_:Unit)=>L n m (i:Int)) (fun i _=>i<=(l.takeWhile p).length) (fun x=>x=.inl ((l.takeWhile p).length:Int)) ?_ ?_
 .exact this.mono fun n h=>by
   obtain⟨x,f,g⟩:=h () (Ϟ _);rw [<-g];exact f
 .refine d.mono fun n h m i _ hi hinv=> ?_
  have h:=h m i hi;cases b:p l[i]
  .left
   rw [b]at h;refine⟨_,h, ?_⟩
   have:=Ss l i hi b;rw [show i=(l.takeWhile p).length by omega]
  .right
   rw [b]at h;exact⟨(),Ŋ,Sr l i hi hinv b⟩
 .refine W.of fun n m _ hinv=>⟨_,he n m, ?_⟩
  have:=om p l;rw [show l.length=(l.takeWhile p).length by omega]
theorem ahZ {α:Type} (p:α->Bool) (l:List α):(l.takeWhile p).length=l.length↔ ∀x∈l,p x=å:=by
 induction l with
 |nil=>simp
 |cons a l ih=>
  rw [Ç];by_cases e:p a=å
  .simp [e,ih]
  .simp [e]
def In (x lo hi:Int):Prop:=lo<=x/\x<=hi
end Go.Ev
namespace Go.Ev
open Go
abbrev Tr:Type:=RT (Int×Int×O×Bool)
abbrev Nd:Type:=Int×(Int×O×Bool×List Tr)
def cP (x:Nd):Tr:=.mk (x.1,x.2.1,x.2.2.1,x.2.2.2.1) x.2.2.2.2
def aG:Tr->Nd
 |.mk x k=>(x.1,x.2.1,x.2.2.1,x.2.2.2,k)
theorem Sw (x:Nd):aG (cP x)=x:=rfl
def dM (t:Tr):List Tr:=(aG t).2.2.2.2
def il (c:UInt8):Int:=if c.toNat=42 then 8 else if c.toNat=43 then 9 else if c.toNat=63 then 10 else 0
def iQ (ks:List Tr):Nd:=
 match ks with
 | [k]=>aG k
 |_=>(7,0,[],ä,ks)
def iR (ks:List Tr):Nd:=
 match ks with
 | []=>(11,0,[],ä,[])
 | [k]=>aG k
 |_=>(6,0,[],ä,ks)
def fa (s:O) (b:Bool):Option UInt8:=cond b â s.head?
def dI (has:List Bool) (lo:Nat):Nat->List Bool
 |0=>has
 |k+1=>dI (has.set lo å) (lo+1) k
theorem lC: ∀(k:Nat) (has:List Bool) (lo:Nat),(dI has lo k).length=has.length
 |0,_,_=>rfl
 |k+1,has,lo=>by rw [dI,lC k];simp
def bX:O->List Bool->Bool->List Bool×Bool
 | [],has,b=>(has,b)
 | [lo],has,b=>(dI has lo.toNat 1,b)
 | [lo,d],has,b=>bX [d] (dI has lo.toNat 1) b
 |lo::d::hi::r,has,b=>
  if d.toNat=45/\hi.toNat≠93 then bX r (dI has lo.toNat (hi.toNat+1-lo.toNat)) (b||decide (hi.toNat<lo.toNat))
  else bX (d::hi::r) (dI has lo.toNat 1) b
theorem wL (lo:UInt8) (t:O) (has:List Bool) (b:Bool) (h:t.length<2):bX (lo::t) has b=bX t (dI has lo.toNat 1) b:=by
 match t,h with
 | [],_=>rfl
 | [d],_=>rfl
theorem HP (lo d hi:UInt8) (r:O) (has:List Bool) (b:Bool) (h: ¬(d.toNat=45/\hi.toNat≠93)):bX (lo::d::hi::r) has b=bX (d::hi::r) (dI has lo.toNat 1) b:=by
 rw [bX,if_neg h]
theorem HQ (lo d hi:UInt8) (r:O) (has:List Bool) (b:Bool) (h:d.toNat=45/\hi.toNat≠93):bX (lo::d::hi::r) has b=bX r (dI has lo.toNat (hi.toNat+1-lo.toNat)) (b||decide (hi.toNat<lo.toNat)):=by
 rw [bX,if_pos h]
theorem HR {b β:Type} {hi:Nat} {L:Nat->Int->List Bool->Option (Sum b β)} {out:List Bool->b} (g:hi<256)
  (d: ∀m (j:Nat) (h:List Bool),j<=hi->h.length=256->L (m+1) (j:Int) h=L m (Þ ß ((j:Int)+(1:Int))) (h.set j å))
  (he: ∀m (j:Nat) h,hi<j->L (m+1) (j:Int) h=ã (.inl (out h))): ∀k m (j:Nat) h,hi+1-j=k->k<m->h.length=256->L m (j:Int) h=ã (.inl (out (dI h j k)))
 |0,m,j,h,e,hm,f=>by
  obtain⟨m,rfl⟩: ∃m',m=m'+1:=⟨m-1,ž⟩
  rw [he m j h ž];rfl
 |k+1,m,j,h,e,hm,f=>by
  obtain⟨m,rfl⟩: ∃m',m=m'+1:=⟨m-1,ž⟩
  rw [d m j h ž f,show Þ ß ((j:Int)+(1:Int))=((j+1:Nat):Int) by grind [Λ],HR g d he k m (j+1) (h.set j å) ž ž Ŵ,dI]
def bytesOf (has:List Bool):Nat->O
 |0=>[]
 |k+1=>bytesOf has k++cond (has.getD k ä) [Æ k] []
theorem Sx (has:List Bool): ∀k,(bytesOf has k).length<=k
 |0=>by simp [bytesOf]
 |k+1=>by
  have:=Sx has k;grind [bytesOf]
theorem Sy {b β:Type} {has:List Bool} (d:has.length=256) {L:Nat->Nat->Int->O->Option (Sum b β)} {out:O->b}
  (f: ∀n m (i:Nat) (o:O) (_:i<256),o.length<=i->L n (m+1) (i:Int) o=L n m (Þ ß ((i:Int)+(1:Int))) (o++cond (has.getD i ä) [Æ i] []))
  (he: ∀n m o,L n (m+1) (256:Int) o=ã (.inl (out o))):W fun n=>L n n 0 []=ã (.inl (out (bytesOf has 256))):=by
 have:=lv (len:=256) (L:=fun n m i o=>L n m (i:Int) o) (fun i o=>o=bytesOf has i) (fun x=>x=.inl (out (bytesOf has 256))) ?_ ?_
 .exact this.mono fun n h=>by
   obtain⟨x,g,j⟩:=h [] rfl;simp_all
 .refine W.of fun n m i o hi hinv=>.inr ⟨o++cond (has.getD i ä) [Æ i] [], ?_,by simp_all [bytesOf]⟩
  grind [Sx,du]
 simp_all [W.of]
theorem SA (i:Nat) (h:i<256):Æ (ψ (Þ .u8 (i:Int)))=Æ i:=by
 grind [ϯ]
def bN:O->O×Bool
 |c::r=>if c.toNat=94 then(r,å)else(c::r,ä)
 | []=>([],ä)
def aL (c:UInt8):Bool:= !(á (c.toNat=93))
theorem SB: ∀l:O,Ê l 93=if(l.takeWhile aL).length=l.length then -1 else((l.takeWhile aL).length:Int)
 | []=>rfl
 |a::l=>by
  have ih:=SB l;rw [Ê,Ç];by_cases h:a.toNat=93
  .have:a=93:=ξ.1 h
   simp_all [aL]
  .have b: ¬(a==93)=å:=by
    intro k;simp_all
   rw [show aL a=å by simp [aL,h],if_pos rfl]
   simp_all
theorem HS: ∀l:O,∀c∈l.takeWhile aL,c.toNat≠93
 |a::l,c,h=>by
  rw [Ç]at h;by_cases e:aL a=å
  .rw [if_pos e]at h
   rcases Ñ.1 h with rfl|h
   .simp_all [aL]
   .exact HS l c h
  simp_all
theorem SC: ∀l:O,l.take (l.takeWhile aL).length=l.takeWhile aL
 | []=>rfl
 |a::l=>by
  rw [Ç];split
  .rw [Å,Δ,SC l]
  .rfl
theorem getD_at {l:List Bool} {i:Nat} (h:i<l.length):l.getD i ä=l[i]:=by
 simp_all
def dz:List Bool:=Ü 256 ä
theorem tG:dz.length=256:=List.length_replicate
def fU (s:O):Nd×(O×Bool):=
 let s1:=(bN s).1
 let body:=s1.takeWhile aL
 if body.length=s1.length\/body=[]then((0,0,[],ä,[]),s1,å)
 else((3,0,bytesOf (bX body dz ä).1 256,(bN s).2,[]),s1.drop (body.length+1),(bX body dz ä).2)
def leaf (o c:Int):Nd:=(o,c,[],ä,[])
def lD (c:UInt8) (r:O):Nd×(O×Bool):=
 if c.toNat=46 then(leaf 2 0,r,ä)else if c.toNat=94 then(leaf 4 0,r,ä)else if c.toNat=36 then(leaf 5 0,r,ä)
 else if c.toNat=91 then fU r
 else if c.toNat=92 then(match r with| []=>(leaf 0 0,[],å)|d::b=>(leaf 1 d.toNat,b,ä))
 else if c.toNat=42\/c.toNat=43\/c.toNat=63 then(leaf 0 0,r,å)else(leaf 1 c.toNat,r,ä)
def jq (x:Nd×O×Bool):Nd×(O×Bool):=
 match fa x.2.1 x.2.2 with
 |some d=>if d.toNat=41 then(x.1,x.2.1.tail,x.2.2)else(x.1,x.2.1,å)
 |none=>(x.1,x.2.1,å)
inductive Md where
 |pat|fV (ks:List Tr)|part|fz (ks:List Tr)|piece|jr (t:Nd)|atom
def iP:Nat->Md->O->Bool->Option (Nd×O×Bool)
 |0,_,_,_=>â
 |f+1,.pat,s,b=>(iP f .part s b).bind fun r=>iP f (.fV [cP r.1]) r.2.1 r.2.2
 |f+1,.fV ks,s,b=>
  match fa s b with
  |none=>ã (iQ ks,s,b)
  |some c=>if c.toNat=124 then(iP f .part s.tail b).bind fun r=>iP f (.fV (ks++[cP r.1])) r.2.1 r.2.2 else ã (iQ ks,s,b)
 |f+1,.part,s,b=>iP f (.fz []) s b
 |f+1,.fz ks,s,b=>
  match fa s b with
  |none=>ã (iR ks,s,b)
  |some c=>if c.toNat=124\/c.toNat=41 then ã (iR ks,s,b)else(iP f .piece s b).bind fun r=>iP f (.fz (ks++[cP r.1])) r.2.1 r.2.2
 |f+1,.piece,s,b=>(iP f .atom s b).bind fun r=>iP f (.jr r.1) r.2.1 r.2.2
 |f+1,.jr t,s,b=>
  match fa s b with
  |none=>ã (t,s,b)
  |some c=>if il c=0 then ã (t,s,b)else iP f (.jr (il c,0,[],ä,[cP t])) s.tail b
 |_+1,.atom,[],_=>â
 |f+1,.atom,c::r,b=>if c.toNat=40 then(iP f .pat r b).bind fun x=>ã (jq x)else ã (lD c r)
inductive iS:Tr->Prop
 |mk {t:Tr} (h:(dM t).length<=100) (k: ∀x∈dM t,iS x):iS t
def oq (x:Nd):Prop:=x.2.2.2.2.length<=100/\ ∀k∈x.2.2.2.2,iS k
theorem fj {x:Nd} (h:oq x):iS (cP x):=.mk h.1 h.2
theorem SD {t:Tr} (h:iS t):oq (aG t):=by
 obtain⟨h,k⟩:=h;exact⟨h,k⟩
theorem aiA (o c:Int):oq (leaf o c):=⟨by simp [leaf],by simp [leaf]⟩
def lE:Md->O->Prop
 |.fV ks,s=>ks.length+s.length<=61/\ ∀k∈ks,iS k
 |.fz ks,s=>ks.length+s.length<=61/\ ∀k∈ks,iS k
 |.jr t,_=>oq t
 |_,_=>True
def dX:Md->Nat->Nat->Prop
 |.atom,a,b=>a<b
 |.piece,a,b=>a<b
 |_,a,b=>a<=b
def ni:Md->O->Bool->Prop
 |.atom,s,b=>s≠ []/\b=ä
 |.piece,s,b=>s≠ []/\b=ä
 |_,_,_=>True
theorem fW {s:O} {b:Bool} {c:UInt8} (h:fa s b=ã c):b=ä/\s=c::s.tail:=by
 unfold fa at h;cases b
 .cases s with
  |nil=>grind
  |cons a r=>simp_all
 simp_all
theorem SE {ks:List Tr} (h:ks.length<=100) (k: ∀x∈ks,iS x):oq (iQ ks):=by
 match ks,h,k with
 | [a],_,k=>exact SD (k a Ż)
 | [],_,_=>exact⟨by simp [iQ],by simp [iQ]⟩
 |a::b::r,h,k=>exact⟨h,k⟩
theorem SF {ks:List Tr} (h:ks.length<=100) (k: ∀x∈ks,iS x):oq (iR ks):=by
 match ks,h,k with
 | [a],_,k=>exact SD (k a Ż)
 | [],_,_=>exact⟨by assumption,by assumption⟩
 |a::b::r,h,k=>exact⟨h,k⟩
theorem SG (s:O):(bN s).1.length<=s.length:=by
 cases s with
 |nil=>simp [bN]
 |cons c r=>
  show(if c.toNat=94 then(r,å)else(c::r,ä)).1.length<=_
  grind
theorem aiB (s:O):oq (fU s).1/\(fU s).2.1.length<=s.length:=by
 have:=SG s;unfold fU;simp
 split
 .exact⟨⟨Ż,Ż⟩,this⟩
 .exact⟨⟨Ż,Ż⟩,Ŵ⟩
theorem SH (c:UInt8) (r:O):oq (lD c r).1/\(lD c r).2.1.length<=r.length:=by
 have:=aiB r;unfold lD;grind [aiA]
theorem SI (x:Nd×O×Bool):(jq x).1=x.1/\(jq x).2.1.length<=x.2.1.length/\(x.2.2=å->(jq x).2.2=å):=by
 unfold jq;grind
theorem eR: ∀f md s b r,iP f md s b=ã r->s.length<=60->ni md s b->lE md s->oq r.1/\dX md r.2.1.length s.length/\(b=å->r.2.2=å):=by
 intro f;induction f with
 |zero=>simp [iP]
 |succ f ih=>
  intro md s b r h m i d;cases md with
  |pat=>
   simp only [iP,Á]at h;obtain⟨x,g,j⟩:=h;obtain⟨p,a2,a3⟩:=ih _ _ _ _ g m trivial trivial;simp only [dX]at a2;obtain⟨c1,u,z⟩:=ih _ _ _ _ j ž trivial ⟨Ŵ,by simp_all [fj]⟩
   grind [dX]
  |fV ks=>
   simp only [iP]at h;split at h
   .cases h;exact⟨SE ī d.2,Ï _,id⟩
   .rename_i c q
    obtain⟨rfl,e⟩:=fW q;have hl:s.length=s.tail.length+1:=Ŵ
    split at h
    .simp only [Á]at h
     obtain⟨x,g,j⟩:=h;obtain⟨p,a2,a3⟩:=ih _ _ _ _ g ž trivial trivial
     simp only [dX]at a2;obtain⟨c1,u,z⟩:=ih _ _ _ _ j ž trivial ⟨by have:=d.1;grind,by
      intro k hk;rcases È.1 hk with hk|hk
      .exact d.2 k hk
      grind [fj]⟩
     grind [dX]
    .cases h;exact⟨SE ī d.2,Ï _,id⟩
  |part=>
   simp only [iP]at h;have:=ih (.fz []) _ _ _ h m trivial ⟨Ŵ,Ż⟩
   exact this
  |fz ks=>
   simp only [iP]at h;split at h
   .cases h;exact⟨SF ī d.2,Ï _,id⟩
   .rename_i c q
    obtain⟨rfl,e⟩:=fW q;split at h
    .cases h;exact⟨SF ī d.2,Ï _,id⟩
    .simp only [Á]at h
     obtain⟨x,g,j⟩:=h;obtain⟨p,a2,a3⟩:=ih _ _ _ _ g m ⟨Ŵ,rfl⟩ trivial
     simp only [dX]at a2;obtain⟨c1,u,z⟩:=ih _ _ _ _ j ž trivial ⟨by have:=d.1;grind,by
      intro k hk;rcases È.1 hk with hk|hk
      .exact d.2 k hk
      grind [fj]⟩
     grind [dX]
  |piece=>
   simp only [iP,Á]at h;obtain⟨x,g,j⟩:=h;obtain⟨p,a2,a3⟩:=ih _ _ _ _ g m i trivial;simp only [dX]at a2;obtain⟨c1,u,z⟩:=ih _ _ _ _ j ž trivial p
   grind [dX]
  |jr t=>
   simp only [iP]at h;split at h
   .cases h;exact⟨d,Ï _,id⟩
   .rename_i c q
    obtain⟨rfl,e⟩:=fW q;have hl:s.length=s.tail.length+1:=Ŵ
    split at h
    .cases h;exact⟨d,Ï _,id⟩
    .obtain⟨c1,u,z⟩:=ih _ _ _ _ h ž trivial ⟨Ż,by simpa using fj d⟩
     grind [dX]
  |atom=>
   obtain⟨ae,rfl⟩:=i;cases s with
   |nil=>simp_all
   |cons c rr=>
    simp only [Å]at m;simp only [iP]at h;split at h
    .simp only [Á]at h
     obtain⟨x,g,j⟩:=h;obtain⟨p,a2,a3⟩:=ih _ _ _ _ g ž trivial trivial
     grind [SI,dX,Å]
    grind [SH,dX,Å]
def need:Md->Nat->Nat
 |.atom,l=>8*l+1
 |.piece,l=>8*l+2
 |.fz _,l=>8*l+3
 |.part,l=>8*l+4
 |.pat,l=>8*l+5
 |.fV _,l=>8*l+1
 |.jr _,l=>8*l+1
theorem aiC: ∀f md s b,need md s.length<=f->s.length<=60->ni md s b->lE md s-> ∃r,iP f md s b=ã r:=by
 intro f;induction f with
 |zero=>intro md s b h;cases md<;>simp [need]at h
 |succ f ih=>
  intro md s b m p d g;cases md with
  |pat=>
   simp only [need]at m;obtain⟨x,j⟩:=ih .part s b (by simp_all [need]) p trivial trivial
   obtain⟨u,a2,a3⟩:=eR _ _ _ _ _ j p trivial trivial;simp [dX]at a2
   obtain⟨y,z⟩:=ih (.fV [cP x.1]) x.2.1 x.2.2 Ō ž trivial ⟨Ŵ,by simp_all [fj]⟩
   simp_all [iP]
  |fV ks=>
   simp only [need]at m;simp only [iP];split
   .simp
   .rename_i c q
    obtain⟨rfl,e⟩:=fW q;have hl:s.length=s.tail.length+1:=Ŵ
    split
    .obtain⟨x,j⟩:=ih .part s.tail ä Ō ž trivial trivial
     obtain⟨u,a2,a3⟩:=eR _ _ _ _ _ j ž trivial trivial
     simp only [dX]at a2;obtain⟨y,z⟩:=ih (.fV (ks++[cP x.1])) x.2.1 x.2.2 Ō ž trivial ⟨by have:=g.1;grind,by
      intro k hk;rcases È.1 hk with hk|hk
      .exact g.2 k hk
      grind [fj]⟩
     grind
    simp
  |part=>
   simp only [need]at m;simp only [iP];exact ih _ _ _ (by simp_all [need]) p trivial ⟨Ŵ,Ż⟩
  |fz ks=>
   simp only [need]at m;simp only [iP];split
   .simp
   .rename_i c q
    obtain⟨rfl,e⟩:=fW q;split
    .simp
    .have i:ni .piece s ä:=⟨Ŵ,rfl⟩
     obtain⟨x,j⟩:=ih .piece s ä Ō p i trivial
     obtain⟨u,a2,a3⟩:=eR _ _ _ _ _ j ž i trivial
     simp only [dX]at a2;obtain⟨y,z⟩:=ih (.fz (ks++[cP x.1])) x.2.1 x.2.2 Ō ž trivial ⟨by have:=g.1;grind,by
      intro k hk;rcases È.1 hk with hk|hk
      .exact g.2 k hk
      grind [fj]⟩
     grind
  |piece=>
   simp only [need]at m;obtain⟨x,j⟩:=ih .atom s b (by simp_all [need]) p d trivial
   obtain⟨u,a2,a3⟩:=eR _ _ _ _ _ j p d trivial;simp only [dX]at a2;obtain⟨y,z⟩:=ih (.jr x.1) x.2.1 x.2.2 Ō ž trivial u
   simp_all [iP]
  |jr t=>
   simp only [need]at m;simp only [iP];split
   .simp
   .rename_i c q
    obtain⟨rfl,e⟩:=fW q;have hl:s.length=s.tail.length+1:=Ŵ
    split
    .simp
    .exact ih _ _ _ Ō ž trivial ⟨Ż,by simpa using fj g⟩
  |atom=>
   obtain⟨ae,rfl⟩:=d;cases s with
   |nil=>simp_all
   |cons c rr=>
    simp only [need,Å]at m p;simp only [iP];split
    .obtain⟨x,j⟩:=ih .pat rr ä Ō ž trivial trivial
     simp_all
    simp
mutual
def dh:Tr->Int
 |.mk _ ks=>Þ ß (gq 0 ks+1)
def gq:Int->List Tr->Int
 |a,[]=>a
 |a,t::r=>gq (cond (á (a<dh t)) (dh t) a) r
end
def im (s:O):Int×(Int×O×Bool×List Tr×Bool):=
 if s.length<=60 then
  match iP 1000 .pat s ä with
  |some r=>if r.2.2=ä/\r.2.1=[]/\dh (cP r.1)<=12 then(r.1.1,r.1.2.1,r.1.2.2.1,r.1.2.2.2.1,r.1.2.2.2.2,å)else(0,0,[],ä,[],ä)
  |none=>(0,0,[],ä,[],ä)
 else(0,0,[],ä,[],ä)
end Go.Ev
namespace Go.Ev
open Go
def bw (c:UInt8):Bool:=á (48<=c.toNat/\c.toNat<=57)
def fJ (c:UInt8):Bool:=á (c.toNat=32)
def js (c:UInt8):Bool:=á (c.toNat=48)
def di (l:O):Nat:=l.foldl (fun a c=>a*10+(c.toNat-48)) 0
def dJ:Nat->O->Nat
 |_,[]=>0
 |u,c::l=>(c.toNat-48)*u+dJ (u/10) l
theorem aiD (l:O) (c:UInt8):di (l++[c])=di l*10+(c.toNat-48):=by
 simp [di]
theorem HU: ∀(l:O) (a:Nat),l.foldl (fun a c=>a*10+(c.toNat-48)) a=a*10^l.length+di l
 | [],a=>by simp [di]
 |c::l,a=>by
  have d:=HU l (a*10+(c.toNat-48));have b:=HU l (0*10+(c.toNat-48));have f:di (c::l)=(0*10+(c.toNat-48))*10^l.length+di l:=b;grind
theorem SJ (a b:O):di (a++b)=di a*10^b.length+di b:=by
 show(a++b).foldl _ 0=_;simp [HU]
theorem tH (c:UInt8) (l:O):di (c::l)=(c.toNat-48)*10^l.length+di l:=by
 have:=SJ [c] l;simp_all [di]
theorem SK: ∀(l:O) (a:Nat),(∀c∈l,bw c=å)->ϟ a l=ã (a*10^l.length+di l)
 | [],a,_=>by simp [ϟ,di]
 |c::l,a,h=>by
  have b:=h c Ż
  simp [bw]at b
  have d:=SK l (a*10+(c.toNat-48)) fun x f=>h x Ŵ
  rw [ϟ,Lib.digitVal];grind [tH,Nat.mul_comm]
theorem HV: ∀l:O,dJ 0 l=0
 | []=>rfl
 |c::l=>by rw [dJ];simp [HV l]
theorem HW: ∀(l:O) (k:Nat),(∀c∈l,bw c=å)->dJ (10^k) l<10^(k+1)
 | [],k,_=>by simp [dJ,Nat.pow_pos]
 |c::l,k,h=>by
  have b:=h c Ż
  simp [bw]at b
  rw [dJ];cases k with
  |zero=>
   grind [HV]
  |succ k=>
   have d:=HW l k fun x f=>h x Ŵ
   have:(c.toNat-48)*10^(k+1)<=9*10^(k+1):=Β _ ž
   grind
def iq (k:Nat):O:=Ü k 48
theorem SL: ∀k,di (iq k)=0
 |0=>rfl
 |k+1=>by
  show di (48::iq k)=0;rw [tH,SL k];simp
theorem SM: ∀(k:Nat) (l:O),di ((l++iq (k+1)).take (k+1))=dJ (10^k) l
 |k,[]=>by
  rw [ϡ,List.take_of_length_le (by simp [iq]),SL]
  rfl
 |0,c::l=>by
  simp [dJ,di,HV]
 |k+1,c::l=>by
  have e:(l++iq (k+2)).take (k+1)=(l++iq (k+1)).take (k+1):=by
   grind [iq,List.replicate_succ',À]
  rw [Û,Δ,tH,e,SM k l,dJ];simp [iq,ϙ]
def kL (s:O) (k:Nat) (neg:Bool):Int×Int:=
 let w:=(s.drop k).takeWhile bw
 let q:=match s.drop (k+w.length)with
  |c::t=>if c.toNat=46 then t.takeWhile bw else []
  | []=>[]
 let x:=di w*1000000+dJ 100000 q
 if w=[]/\q=[]then(0,0)else if 9000000000000<x then(0,0)else(cond neg (-(x:Int)) x,((k+w.length+(if q=[]then 0 else 1+q.length):Nat):Int))
def nj (s:O):Int×Int:=
 let p:=(s.takeWhile fJ).length
 match s.drop p with
 |c::_=>if c.toNat=45 then kL s (p+1) å else if c.toNat=43 then kL s (p+1) ä else kL s p ä
 | []=>kL s p ä
noncomputable def fK (s:O):Int×Bool:=
 if(nj s).2=0 then(0,ä)else cond (bo (∀c∈s.drop (nj s).2.toNat,c.toNat=32)) ((nj s).1,å) (0,ä)
def PW (l:O) (x:Int):Prop:=0<=x/\x<=90009000000000/\(di l*1000000<=9000000000000->x=di l*1000000)/\(9000000000000<di l*1000000->9000000000000<x)
theorem aiE:PW [] 0:=by simp [PW,di]
theorem aiF {l:O} {x:Int} (h:PW l x) {c:UInt8} (b:bw c=å):PW (l++[c]) (if x<=9000000000000 then 10*x+((c.toNat:Int)-48)*1000000 else x):=by
 simp [bw]at b
 obtain⟨d,f,g,i⟩:=h;unfold PW;rw [aiD];omega
theorem HX (l:O): ∀c∈l.takeWhile bw,bw c=å:=by
 intro c b;induction l with
 |nil=>cases b
 |cons a l ih=>
  rw [Ç]at b;grind
theorem SN: ∀l:O,di (l.dropWhile js)=di l
 | []=>rfl
 |c::l=>by
  rw [ό];by_cases h:js c=å
  .rw [if_pos h,SN l,tH]
   simp_all [js]
  simp_all
theorem SO: ∀l:O,(∀c∈l,bw c=å)->7<(l.dropWhile js).length->10000000<=di l
 | [],_,h=>by simp at h
 |c::l,hd,h=>by
  rw [ό]at h;by_cases e:js c=å
  .rw [if_pos e]at h
   have:=SO l (fun x d=>hd x Ŵ) h
   grind [tH]
  .rw [if_neg e]at h
   have b:=hd c Ż
   simp [js]at e
   simp [bw]at b
   simp [Å]at h
   have f:10^7<=10^l.length:=Nat.pow_le_pow_right ž ž
   have g:1*10^l.length<=(c.toNat-48)*10^l.length:=Β _ ž
   grind [tH]
theorem aiG (l:O) (h: ∀c∈l,bw c=å): ∀c∈l.dropWhile js,bw c=å:=fun c b=>h c ((List.dropWhile_sublist _).subset b)
theorem aiH (l:O) (h: ∀c∈l,bw c=å) (k:Nat): ∀c∈(l++iq k).take k,bw c=å:=by
 intro c b;have:=χ b;rcases È.1 this with q|q
 .simp_all
 .rw [List.eq_of_mem_replicate q]
  rfl
theorem aiI (w q:O) (hw: ∀c∈w,bw c=å) (h: ∀c∈q,bw c=å):
  ε (([48]++w.dropWhile js)++(q++iq 6).take 6)=ã ((di w*1000000+dJ 100000 q:Nat):Int):=by
 have b: ∀c∈(([48]++w.dropWhile js)++(q++iq 6).take 6:O),bw c=å:=by
  intro c d;rcases È.1 d with k|k
  .rcases È.1 k with k|k
   .rw [Ó.1 k];rfl
   grind [aiG]
  grind [aiH]
 have f:=SK _ 0 b;have g:di (([48]++w.dropWhile js)++(q++iq 6).take 6:O)=di w*1000000+dJ 100000 q:=by
  grind [SJ,SN,SM,iq,di]
 rw [g,Nat.zero_mul,Nat.zero_add]at f;have i:ε (([48]++w.dropWhile js)++(q++iq 6).take 6)=(ϭ (([48]++w.dropWhile js)++(q++iq 6).take 6)).map fun(m:Nat)=>(m:Int):=rfl
 simp_all [ϭ]
end Go.Ev
namespace Go.Ev
open Go
def mc (b:UInt8):Prop:=(97<=b.toNat/\b.toNat<=122)\/(65<=b.toNat/\b.toNat<=90)
def AO:List O:=[[66,69,71,73,78],[112,114,105,110,116],[105,102],[101,108,115,101],[119,104,105,108,101],[110,101,120,116],[100,101,108,101,116,101],[78,82],[78,70]]
def jt:List O:=[[108,101,110,103,116,104],[115,117,98,115,116,114],[105,110,100,101,120],[105,110,116],[117,112,112,101,114],[108,111,119,101,114]]
def Key (s:O):Prop:=s∈AO\/s∈jt
def jQ (s:O):Prop:=(∀b∈s,mc b)/\1<=s.length/\s.length<=8/\ ¬Key s
def lF (l:List O) (i:Nat):Prop:= ∀h:i<l.length,0<i->Í (l[i-1]'(by omega)) l[i]=å
def aW (x:Int):Prop:=In x (-9000000000000) 9000000000000
def ju (c k:Int) (s:O) (n vars cells:Int):Prop:=
 (c=1/\aW k/\s=[])\/(c=2/\k=0)\/((c=3\/c=4\/c=5)/\0<=k/\k<vars/\s=[])\/((c=6\/c=7\/c=8\/c=35)/\0<=k/\k<cells/\s=[])\/
 ((c=24\/c=25)/\k=0/\(im s).2.2.2.2.2=å)\/(c=29/\1<=k/\k<=3/\s∈jt)\/((c=30\/c=31)/\0<=k/\k<=n-1/\s=[])\/(c=33/\0<=k/\k<=1/\s=[])\/
 (1<=c/\c<=36/\c≠1/\c≠2/\c≠3/\c≠4/\c≠5/\c≠6/\c≠7/\c≠8/\c≠35/\c≠24/\c≠25/\c≠29/\c≠30/\c≠31/\c≠33/\k=0/\s=[])
def gu (l:List (Int×Int×O)) (vars cells:Int):Prop:=
 1<=l.length/\l.length<=1500/\(∀h:0<l.length,(l[l.length-1]'(by omega)).1=36)/\ ∀o∈l,ju o.1 o.2.1 o.2.2 l.length vars cells
def iT (vars cells:List O) (start main:List (Int×Int×O)):Prop:=
 (∀s∈vars,jQ s)/\(∀s∈vars,s∉cells)/\(∀i,i<vars.length->lF vars i)/\(∀s∈cells,jQ s)/\(∀i,i<cells.length->lF cells i)/\vars.length<=8/\cells.length<=8/\gu start vars.length cells.length/\gu main vars.length cells.length
def gR (k x:Int) (s:O):Prop:=aW x/\s.length<=300/\((k=0/\x=0/\s=[])\/(k=1/\s=[])\/(k=2/\x=0)\/(k=3/\fK s=(x,å)))
def dY (a:Int) (s:O) (b:Int) (t:O):Prop:=a<b\/(a=b/\Í s t=å)
def pU (l:List (Int×O×Int×Int×O)) (cells:Int) (i:Nat):Prop:=
 ∀h:i<l.length,0<=l[i].1/\l[i].1<cells/\l[i].2.1.length<=300/\gR l[i].2.2.1 l[i].2.2.2.1 l[i].2.2.2.2/\(0<i->dY (l[i-1]'(by omega)).1 (l[i-1]'(by omega)).2.1 l[i].1 l[i].2.1)
def ot (vs:List (Int×Int×O)) (cs:List (Int×O×Int×Int×O)) (nr err vars cells:Int):Prop:=
 (∀v∈vs,gR v.1 v.2.1 v.2.2)/\(∀i,i<cs.length->pU cs cells i)/\(vs.length:Int)=vars/\cs.length<=40/\In nr 0 1000000/\In err 0 7
def pV (vars cells:List O) (start main:List (Int×Int×O)) (vs:List (Int×Int×O)) (cs:List (Int×O×Int×Int×O)) (nr err:Int) (done:List Int) (out:O):Prop:=
 (∀x∈done,In x 0 100000)/\iT vars cells start main/\ot vs cs nr err vars.length cells.length/\done.length=3/\out.length<=1500
def iU (d seq:Int) (s:O):Prop:=(d= -1/\seq=0/\s=[])\/(0<=d/\d<=2/\1<=seq/\seq<=100000/\s.length<=60/\ ∀b∈s,b.toNat≠10)
def pW (base term:Int) (l:List (Int×Int×Int×O)):Int×Int:=match l.getLast? with|none=>(base,term)|some e=>(Þ ß (base+l.length),e.1)
def ou:Int->List (Int×Int×Int×O)->Prop
 |_,[]=>True
 |t,e::r=>In e.1 t 300/\iU e.2.1 e.2.2.1 e.2.2.2/\ou e.1 r
def jv (base term:Int) (l:List (Int×Int×Int×O)):Prop:=In base 0 300/\In term 0 300/\base+l.length<=300/\ou term l
def tI (vars cells:List O) (start main:List (Int×Int×O)) (tm b base d:Int) (l:List (Int×Int×Int×O)) (vs:List (Int×Int×O)) (cs:List (Int×O×Int×Int×O)) (nr err:Int) (done:List Int) (out:O):Prop:=
 In tm 0 300/\In b (-1) 4/\jv base d l/\(pW base d l).2<=tm/\pV vars cells start main vs cs nr err done out
def iu (most:Int) (e:Int×Int×Int×O):Prop:=In e.1 0 most/\iU e.2.1 e.2.2.1 e.2.2.2
def HY (k f t tm b it d:Int) (l:List (Int×Int×Int×O)) (snap:O) (size:Int):Prop:=
 In k 1 5/\In size 1 5/\In f 0 (Þ ß (size-1))/\In t 0 (Þ ß (size-1))/\f≠t/\In tm 0 300/\In b 0 300/\In it 0 300/\In d 0 300/\(∀e∈l,iu tm e)/\l.length<=40/\snap.length<=30000
end Go.Ev
namespace Go.Ev
open Go
abbrev V:=Int×(Int×O)
abbrev VC:=Int×(O×V)
def bO (v:V):Prop:=gR v.1 v.2.1 v.2.2
def v0:V:=(0,0,[])
def nV (x:Int):V:=(1,x,[])
def tV (s:O):V:=(2,0,s)
def bV (b:Bool):V:=nV (cond b 1000000 0)
noncomputable def aK (v:V):Int:=cond (v.1==1) v.2.1 (cond (v.1==3) v.2.1 (cond (v.1==2) (nj v.2.2).1 0))
def iv (v:V):Bool:=cond (v.1==1) (v.2.1 !=0) (cond (v.1==3) (v.2.1 !=0) (cond (v.1==2) (!(v.2.2==([]:O))) ä))
noncomputable def ow (s:O):V:=cond (fK (s.take 300)).2 (3,(fK (s.take 300)).1,s.take 300) (2,0,s.take 300)
theorem dZ {a:Int} (h:aW a): -9000000000000<=a/\a<=9000000000000:=h
theorem gw {a:Int} (h: -9000000000000<=a/\a<=9000000000000):aW a:=h
noncomputable def nk (x:Int):Int×Bool:=cond (bo (aW x)) (x,å) (0,ä)
noncomputable def gx (a b:Int):Int×Bool:=cond (bo (aW a/\aW b)) (nk (a+b)) (0,ä)
noncomputable def jR (a b:Int):Int×Bool:=cond (bo (aW a/\aW b)) (nk (a-b)) (0,ä)
noncomputable def iV (a b:Int):Int×Bool:=cond (bo (aW a/\aW b/\b≠0)) (nk (ϫ (a*1000000) b)) (0,ä)
def gy (a b:Int):Nat:=a.natAbs*b.natAbs/1000000
noncomputable def fX (a b:Int):Int×Bool:=cond (bo (aW a/\aW b/\gy a b<=9000000000000)) (if (a<0↔b<0)then(gy a b:Int)else -(gy a b:Int),å) (0,ä)
def jS (a:Int):Int:=a-Ω a 1000000
theorem rG:aW 0:=gw ž
theorem tJ:bO v0:=⟨rG,by simp [v0],.inl ⟨rfl,rfl,rfl⟩⟩
theorem nn {x:Int} (h:aW x):bO (nV x):=⟨h,by simp [nV],.inr (.inl ⟨rfl,rfl⟩)⟩
theorem tK {s:O} (h:s.length<=300):bO (tV s):=⟨rG,h,.inr (.inr (.inl ⟨rfl,rfl⟩))⟩
theorem wM (b:Bool):bO (bV b):=by
 refine nn (gw ?_)
 cases b<;>simp
theorem wN {x:Int} (h:aW x):nk x=(x,å):=by rw [nk,aA h];rfl
theorem wO {x:Int} (h: ¬aW x):nk x=(0,ä):=by rw [nk,aw h];rfl
theorem HZ (x:Int):aW (nk x).1:=by
 by_cases h:aW x
 .rw [wN h];exact h
 .rw [wO h];exact gw ž
theorem aiJ (a b:Int):aW (gx a b).1:=by
 unfold gx;cases bo _
 .exact gw (show _/\_ by simp)
 .exact HZ _
theorem aiK (a b:Int):aW (jR a b).1:=by
 unfold jR;cases bo _
 .exact gw (show _/\_ by simp)
 .exact HZ _
theorem aiL (a b:Int):aW (iV a b).1:=by
 unfold iV;cases bo _
 .exact gw (show _/\_ by simp)
 .exact HZ _
theorem aiM (a b:Int):aW (fX a b).1:=by
 by_cases h:aW a/\aW b/\gy a b<=9000000000000
 .rw [fX,aA h]
  simp only [Y];split
  .exact gw ž
  .exact gw ž
 .rw [fX,aw h];exact gw Ż
theorem AP (a:Int): -1000000<Ω a 1000000/\Ω a 1000000<1000000:=⟨by have:=Int.lt_tmod_of_pos a (show (0:Int)<1000000 by omega);omega,Int.tmod_lt_of_pos a ž⟩
theorem aiN {a:Int} (h:aW a):aW (jS a):=by
 have d:=dZ h;have f:=Int.mul_tdiv_add_tmod a 1000000;have g:=AP a;refine gw ?_
 unfold jS;by_cases b:0<=a
 .have:=Ϥ 1000000 b;omega
 .have:Ω a 1000000<=0:=by
   have:=Ϥ 1000000 (show 0<= -a by omega)
   rw [Int.neg_tmod]at this;omega
  omega
theorem aiO (q w:O) (x:Nat) (e:Int) (neg:Bool):aW (if w=[]/\q=[]then((0:Int),(0:Int))else if 9000000000000<x then(0,0)else(cond neg (-(x:Int)) x,e)).1:=by
 split
 .exact rG
 split
 .exact rG
 .refine gw ?_
  cases neg
  .simp only [ez];omega
  .simp only [Y];omega
theorem AQ (s:O) (k:Nat) (neg:Bool):aW (kL s k neg).1:=aiO _ _ _ _ _
theorem SP (s:O):aW (nj s).1:=by
 unfold nj;simp only;split
 .split
  .exact AQ _ _ _
  split
  .exact AQ _ _ _
  .exact AQ _ _ _
 .exact AQ _ _ _
theorem aiP (s:O):aW (fK s).1:=by
 unfold fK;split
 .exact rG
 .cases bo _
  .exact rG
  .exact SP s
theorem kM {v:V} (h:bO v):aW (aK v):=by
 unfold aK;cases v.1==1
 .cases v.1==3
  .cases v.1==2
   .exact rG
   .exact SP _
  .exact h.1
 .exact h.1
theorem Ia (s:O):bO (ow s):=by
 unfold ow;cases e:(fK (s.take 300)).2
 .exact tK ź
 .refine⟨aiP _,ź,.inr (.inr (.inr ⟨rfl, ?_⟩))⟩
  simp only [Y];rw [<-e]
end Go.Ev
namespace Go.Ev
open Go
def kN (s:O):Prop:=s.Pairwise fun a b=>a.toNat<b.toNat
def AR (s:O) (neg:Bool):Prop:=s≠ []/\kN s/\((93:UInt8)∈s-> ∃p q,s=p++([92,93,94]++q))/\(neg=å\/s≠ [94])
def Ib (o c:Int) (s:O) (neg:Bool) (k:Nat):Prop:=
 (o=1/\0<=c/\c<=255/\s=[]/\neg=ä/\k=0)\/(o=3/\c=0/\AR s neg/\k=0)\/((o=6\/o=7)/\c=0/\s=[]/\neg=ä/\2<=k)\/
 ((o=8\/o=9\/o=10)/\c=0/\s=[]/\neg=ä/\k=1)\/((o=2\/o=4\/o=5\/o=11)/\c=0/\s=[]/\neg=ä/\k=0)
inductive fY:Tr->Prop
 |mk {t:Tr} (h:Ib (aG t).1 (aG t).2.1 (aG t).2.2.1 (aG t).2.2.2.1 (dM t).length) (k: ∀x∈dM t,fY x):fY t
def lG (x:Nd):Prop:=Ib x.1 x.2.1 x.2.2.1 x.2.2.2.1 x.2.2.2.2.length/\ ∀k∈x.2.2.2.2,fY k
theorem AS {x:Nd} (h:lG x):fY (cP x):=.mk h.1 h.2
theorem SQ {t:Tr} (h:fY t):lG (aG t):=by
 obtain⟨h,k⟩:=h;exact⟨h,k⟩
mutual
def ej:Tr->Nat
 |.mk _ ks=>1+cq ks
def cq:List Tr->Nat
 | []=>0
 |k::r=>ej k+cq r
end
def jT (x:Nd):Nat:=1+cq x.2.2.2.2
theorem wP (x:Nd):ej (cP x)=jT x:=by rw [cP,ej,jT]
theorem SR (t:Tr):jT (aG t)=ej t:=by cases t;rw [ej];rfl
theorem Ic (t:Tr):ej t=1+cq (dM t):=by cases t;rw [ej];rfl
theorem SS (l:List Tr) (k:Tr):cq (l++[k])=cq l+ej k:=by
 induction l with
 |nil=>simp [cq]
 |cons a l ih=>rw [Û,cq,ih,cq];omega
theorem rH (k:Tr):cq [k]=ej k:=by simp [cq]
theorem rI: ∀(k:Nat) (has:List Bool) (lo i:Nat),has.length=256->i<256->(dI has lo k).getD i ä=(has.getD i ä||(á (lo<=i)&&á (i<lo+k)))
 |0,has,lo,i,b,hi=>by
  rw [dI];by_cases h:lo<=i
  .rw [hJ (show ¬i<lo+0 by omega)];simp
  .rw [hJ h];simp
 |k+1,has,lo,i,b,hi=>by
  rw [dI,rI k _ _ i ũ hi]
  by_cases e:lo=i
  .subst e
   simp [b,hi]
  .have d:(has.set lo å).getD i ä=has.getD i ä:=by
    simp [e]
   rw [d];congr 1
   by_cases h:lo+1<=i
   .rw [hC h,hC (show lo<=i by omega)]
    congr 1
    simp only [Φ,Nat.add_comm 1 k]
   .rw [hJ h,hJ (show ¬lo<=i by omega)];rfl
def ox (has:List Bool):Prop:=has.length=256/\(has.getD 93 ä=å->has.getD 92 ä=å/\has.getD 94 ä=å)
theorem Ie {has:List Bool} {lo k:Nat} (h:ox has) (d:lo<=93->93<lo+k->lo<=92/\94<lo+k):ox (dI has lo k):=by
 refine⟨by rw [lC];exact h.1,fun e=> ?_⟩
 rw [rI k has lo 93 h.1 ž]at e
 rw [rI k has lo 92 h.1 ž,rI k has lo 94 h.1 ž]
 rcases Bool.or_eq_true_iff.1 e with e|e
 .obtain⟨a,b⟩:=h.2 e
  rw [a,b];exact⟨rfl,rfl⟩
 .simp only [Â,decide_eq_true_eq]at e
  obtain⟨a,b⟩:=d e.1 e.2;rw [hC a,hC (show 92<lo+k by omega),hC (show lo<=94 by omega),hC b]
  simp
theorem SU {has:List Bool} (lo k i:Nat) (b:has.length=256) (h:has.getD i ä=å):(dI has lo k).getD i ä=å:=by
 by_cases hi:i<256
 .rw [rI k has lo i b hi,h];rfl
 .rw [List.getD_eq_getElem?_getD,σ ž]at h;cases h
theorem AU: ∀(n:Nat) (s:O) (has:List Bool) (b:Bool),s.length<=n->(∀c∈s,c.toNat≠93)->ox has->(bX s has b).2=ä->
  b=ä/\ox (bX s has b).1/\(∀i,has.getD i ä=å->(bX s has b).1.getD i ä=å)/\(∀c r,s=c::r->(bX s has b).1.getD c.toNat ä=å)
 |n,[],has,b,j,g,m,f=>by
  rw [bX]at f |-;exact⟨f,m,fun i h=>h,fun c r h=>ņ⟩
 |0,c::r,has,b,j,g,m,f=>by simp at j
 |n+1,lo::t,has,b,j,g,m,f=>by
  have ad:=g lo Ż
  have p:lo.toNat<256:=lo.toNat_lt;have h1:ox (dI has lo.toNat 1):=Ie m (fun a b=>ž)
  have one:bX (lo::t) has b=bX t (dI has lo.toNat 1) b->b=ä/\ox (bX (lo::t) has b).1/\(∀i,has.getD i ä=å->(bX (lo::t) has b).1.getD i ä=å)/\(∀c r,lo::t=c::r->(bX (lo::t) has b).1.getD c.toNat ä=å):=fun e=>by
   rw [e]at f |-;obtain⟨q,a2,a3,a4⟩:=AU n t (dI has lo.toNat 1) b ð (fun c h=>g c ŏ) h1 f
   refine⟨q,a2,fun i h=>a3 i (SU _ _ _ m.1 h),fun c r e=> ?_⟩
   obtain⟨rfl, -⟩:=List.cons.inj e;refine a3 _ ?_
   rw [rI 1 has _ _ m.1 p];simp
  match t,j,g,f,one with
  | [],j,g,f,one=>exact one (wL _ _ _ _ Ż)
  | [d],j,g,f,one=>exact one (wL _ _ _ _ Ż)
  |d::hi::r,j,g,f,one=>
   by_cases hd:d.toNat=45/\hi.toNat≠93
   .rw [HQ _ _ _ _ _ _ hd]at f |-
    have af:=g hi Ż
    by_cases u:hi.toNat<lo.toNat
    .have k: ¬(bX r (dI has lo.toNat (hi.toNat+1-lo.toNat)) (b||decide (hi.toNat<lo.toNat))).2=ä:=fun f=>by
      have z:ox (dI has lo.toNat (hi.toNat+1-lo.toNat)):=Ie m (fun a b=>ž)
      have:=(AU n r _ _ (by simp at j;omega) (fun c h=>g c ŏ) z f).1
      rw [hC u,Bool.or_true]at this;cases this
     exact absurd f k
    .have z:ox (dI has lo.toNat (hi.toNat+1-lo.toNat)):=Ie m (fun a b=>ž)
     obtain⟨q,a2,a3,a4⟩:=AU n r _ _ (by simp at j;omega) (fun c h=>g c ŏ) z f
     refine⟨(Bool.or_eq_false_iff.1 q).1,a2,fun i h=>a3 i (SU _ _ _ m.1 h),fun c r e=> ?_⟩
     obtain⟨rfl, -⟩:=List.cons.inj e;refine a3 _ ?_
     rw [rI _ has _ _ m.1 p,hC (Ï _),hC (show lo.toNat<lo.toNat+(hi.toNat+1-lo.toNat) by omega)];simp
   .exact one (HP _ _ _ _ _ _ hd)
theorem AV (has:List Bool): ∀(k:Nat),k<=256-> ∀c:UInt8,c∈bytesOf has k↔c.toNat<k/\has.getD c.toNat ä=å
 |0,_,c=>by simp [bytesOf]
 |k+1,hk,c=>by
  rw [bytesOf,È,AV has k ž c]
  have hu:(Æ k).toNat=k:=ź
  constructor
  .rintro(⟨f,b⟩|h)
   .exact⟨ž,b⟩
   .cases e:has.getD k ä
    .rw [e]at h;cases h
    .rw [e,Y,Ó]at h
     subst h;rw [hu];exact⟨ž,e⟩
  .rintro⟨f,b⟩
   by_cases e:c.toNat<k
   .exact .inl ⟨e,b⟩
   .have d:c.toNat=k:=by omega
    rw [d]at b;right
    rw [b,Y,Ó,<-d];simp
theorem SV (has:List Bool): ∀(k:Nat),k<=256->kN (bytesOf has k)
 |0,_=>by simp [bytesOf,kN]
 |k+1,hk=>by
  rw [bytesOf,kN,List.pairwise_append];refine⟨SV has k ž, ?_,fun a f b d=> ?_⟩
  .cases has.getD k ä<;>simp
  .have:=((AV has k ž a).1 f).1
   cases e:has.getD k ä
   .rw [e]at d;cases d
   .rw [e,Y,Ó]at d
    subst d;simp;omega
theorem SW (has:List Bool) (k:Nat): ∀m,∃q,bytesOf has (k+m)=bytesOf has k++q
 |0=>⟨[],Ż⟩
 |m+1=>by
  obtain⟨q,h⟩:=SW has k m;exact⟨q++cond (has.getD (k+m) ä) [Æ (k+m)] [],by rw [<-Φ,bytesOf,h,À]⟩
theorem aiQ:ox dz:=⟨tG,fun h=>absurd h ų⟩
theorem aiR (s:O):(bN s).2=ä-> ∀c r,(bN s).1=c::r->c.toNat≠94:=by
 cases s with
 |nil=>intro _ c r h;cases h
 |cons a l=>
  intro h c r e;by_cases k:a.toNat=94
  .rw [bN,if_pos k]at h;cases h
  .rw [bN,if_neg k]at e
   cases e;exact k
theorem aiS (s:O) (h:(fU s).2.2=ä):lG (fU s).1/\jT (fU s).1=1:=by
 unfold fU at h |-;simp only at h |-;by_cases e:((bN s).1.takeWhile aL).length=(bN s).1.length\/(bN s).1.takeWhile aL=[]
 .rw [if_pos e]at h;cases h
 .rw [if_neg e]at h |-
  refine⟨⟨.inr (.inl ⟨rfl,rfl, ?_,rfl⟩),fun k hk=>by cases hk⟩,rfl⟩
  obtain⟨a1,a2,a3,a4⟩:=AU _ ((bN s).1.takeWhile aL) dz ä (Ï _) (fun c d=>HS _ c d) aiQ h
  obtain⟨c,r,b⟩: ∃c r,(bN s).1.takeWhile aL=c::r:=by
   cases k:(bN s).1.takeWhile aL with
   |nil=>exact absurd (.inr k) e
   |cons c r=>exact⟨c,r,rfl⟩
  have hm:=(AV _ 256 ž c).2 ⟨c.toNat_lt,a4 c r b⟩
  refine⟨fun k=> ?_,SV _ 256 ž,fun f=> ?_, ?_⟩
  .dsimp only at k
   rw [k]at hm;cases hm
  .have j:=((AV _ 256 ž (93:UInt8)).1 f).2
   obtain⟨t,u⟩:=a2.2 j;obtain⟨q,z⟩:=SW (bX ((bN s).1.takeWhile aL) dz ä).1 95 161;refine⟨bytesOf (bX ((bN s).1.takeWhile aL) dz ä).1 92,q, ?_⟩
   rw [z,bytesOf,bytesOf,bytesOf,u,t,show((bX ((bN s).1.takeWhile aL) dz ä).1.getD 93 ä)=å from j];simp
  .by_cases m:(bN s).2=å
   .exact .inl m
   .right
    intro k;dsimp only at k
    rw [k,Ó]at hm;have d:=aiR s ą c
    have: ∃g,(bN s).1=c::g:=by
     cases p:(bN s).1 with
     |nil=>rw [p]at b;cases b
     |cons a l=>
      rw [p,Ç]at b;split at b
      .cases b;exact⟨l,rfl⟩
      .cases b
    obtain⟨g,i⟩:=this;exact d g i (by rw [hm];rfl)
theorem AW {o:Int} (h:o=2\/o=4\/o=5\/o=11):lG (leaf o 0):=⟨.inr (.inr (.inr (.inr ⟨h,rfl,rfl,rfl,rfl⟩))),fun k hk=>by cases hk⟩
theorem SX (d:UInt8):lG (leaf 1 d.toNat):=⟨.inl ⟨rfl,by show(0:Int)<=(d.toNat:Int);omega,by have:=d.toNat_lt;show(d.toNat:Int)<=255;omega,rfl,rfl,rfl⟩,fun k hk=>by cases hk⟩
theorem aiT (c:UInt8) (r:O) (h:(lD c r).2.2=ä):lG (lD c r).1/\jT (lD c r).1=1:=by
 unfold lD at h |-;split
 .exact⟨AW Ż,rfl⟩
 split
 .exact⟨AW Ż,rfl⟩
 split
 .exact⟨AW Ż,rfl⟩
 split
 .rename_i b f g i
  rw [if_neg b,if_neg f,if_neg g,if_pos i]at h;exact aiS r h
 split
 .rename_i b f g i j
  rw [if_neg b,if_neg f,if_neg g,if_neg i,if_pos j]at h;cases r with
  |nil=>cases h
  |cons d r=>exact⟨SX d,rfl⟩
 split
 .rename_i b f g i j k
  rw [if_neg b,if_neg f,if_neg g,if_neg i,if_neg j,if_pos k]at h;cases h
 .exact⟨SX c,rfl⟩
theorem aiU (x:Nd×O×Bool) (h:(jq x).2.2=ä):x.2.2=ä/\(jq x).2.1.length+1<=x.2.1.length:=by
 unfold jq at h |-;cases e:fa x.2.1 x.2.2 with
 |none=>rw [e]at h;cases h
 |some d=>
  rw [e]at h;obtain⟨k1,k2⟩:=fW e;simp only at h |-;by_cases hd:d.toNat=41
  .rw [if_pos hd]
   refine⟨k1, ?_⟩
   rw [k2];simp
  .rw [if_neg hd]at h;cases h
theorem SY {ks:List Tr} (d:ks≠ []) (h: ∀k∈ks,fY k):lG (iQ ks)/\jT (iQ ks)<=cq ks+1:=by
 match ks,d,h with
 | [k],_,h=>exact⟨SQ (h k Ż),by rw [iQ,SR,rH];omega⟩
 |a::b::r,_,h=>exact⟨⟨.inr (.inr (.inl ⟨.inr rfl,rfl,rfl,rfl,by simp [iQ]⟩)),h⟩,by simp only [iQ,jT];omega⟩
theorem aiV {ks:List Tr} (h: ∀k∈ks,fY k):lG (iR ks)/\jT (iR ks)<=cq ks+1:=by
 match ks,h with
 | [],_=>exact⟨AW (o:=11) Ż,by simp [iR,jT,cq]⟩
 | [k],h=>exact⟨SQ (h k Ż),by rw [iR,SR,rH];omega⟩
 |a::b::r,h=>exact⟨⟨.inr (.inr (.inl ⟨.inl rfl,rfl,rfl,rfl,by simp [iR]⟩)),h⟩,by simp only [iR,jT];omega⟩
def MdR:Md->Prop
 |.fV ks=>ks≠ []/\ ∀k∈ks,fY k
 |.fz ks=> ∀k∈ks,fY k
 |.jr t=>lG t
 |_=>True
def iW:Md->Nat
 |.pat=>10
 |.fV ks=>cq ks+9
 |.part=>9
 |.fz ks=>cq ks+9
 |.piece=>5
 |.jr t=>jT t+8
 |.atom=>5
theorem SZ {ks:List Tr} {x:Nd} (h: ∀k∈ks,fY k) (b:lG x): ∀k∈ks++[cP x],fY k:=fun k hk=>by
 rcases È.1 hk with hk|hk
 .exact h k hk
 .rw [Ó.1 hk];exact AS b
theorem aiX {c:UInt8} (h:il c≠0):il c=8\/il c=9\/il c=10:=by
 unfold il at h |-;repeat' split
 all_goals simp_all
theorem aiY: ∀f md s b r,iP f md s b=ã r->s.length<=60->ni md s b->lE md s->MdR md->r.2.2=ä->lG r.1/\jT r.1+4*r.2.1.length+8<=4*s.length+iW md:=by
 intro f;induction f with
 |zero=>intro md s b r h;simp [iP]at h
 |succ f ih=>
  intro md s b r h hs m u hR d;cases md with
  |pat=>
   simp only [iP,Á]at h;obtain⟨x,i,j⟩:=h;obtain⟨a1,a2,a3⟩:=eR _ _ _ _ _ i hs trivial trivial;simp only [dX]at a2;have g:lE (.fV [cP x.1]) x.2.1:=⟨ź,by simpa using fj a1⟩
   have c3:=(eR _ _ _ _ _ j ž trivial g).2.2
   have hx:x.2.2=ä:=by
    cases e:x.2.2
    .rfl
    .rw [c3 e]at d;cases d
   obtain⟨p1,p2⟩:=ih _ _ _ _ i hs trivial trivial trivial hx;obtain⟨q1,q2⟩:=ih _ _ _ _ j ž trivial g ⟨Ż,by simpa using AS p1⟩ d
   simp only [iW,rH,wP]at p2 q2 |-;exact⟨q1,ž⟩
  |fV ks=>
   simp only [iP]at h;split at h
   .cases h
    obtain⟨p,q⟩:=SY hR.1 hR.2;exact⟨p,ĺ⟩
   .rename_i c hn
    obtain⟨rfl,e⟩:=fW hn;have hl:s.length=s.tail.length+1:=Ţ
    split at h
    .simp only [Á]at h
     obtain⟨x,i,j⟩:=h;obtain⟨a1,a2,a3⟩:=eR _ _ _ _ _ i ž trivial trivial
     simp only [dX]at a2;have g:lE (.fV (ks++[cP x.1])) x.2.1:=⟨by have:=u.1;simp;omega,by
      intro k hk;rcases È.1 hk with hk|hk
      .exact u.2 k hk
      .simp at hk;subst hk;exact fj a1⟩
     have c3:=(eR _ _ _ _ _ j ž trivial g).2.2
     have hx:x.2.2=ä:=by
      cases e:x.2.2
      .rfl
      .rw [c3 e]at d;cases d
     obtain⟨p1,p2⟩:=ih _ _ _ _ i ž trivial trivial trivial hx
     obtain⟨q1,q2⟩:=ih _ _ _ _ j ž trivial g ⟨Ż,SZ hR.2 p1⟩ d
     simp only [iW,SS,wP]at p2 q2 |-;exact⟨q1,ž⟩
    .cases h
     obtain⟨p,q⟩:=SY hR.1 hR.2;exact⟨p,ĺ⟩
  |part=>
   simp only [iP]at h;obtain⟨p,q⟩:=ih (.fz []) _ _ _ h hs trivial ⟨ź,Ż⟩ (fun k hk=>by cases hk) d
   exact⟨p,by simp only [iW,cq]at q |-;omega⟩
  |fz ks=>
   simp only [iP]at h;have stop:lG (iR ks)/\jT (iR ks)+4*s.length+8<=4*s.length+iW (.fz ks):=by
    obtain⟨p,q⟩:=aiV (ks:=ks) hR;exact⟨p,ĺ⟩
   split at h
   .cases h;exact stop
   .rename_i c hn
    obtain⟨rfl,e⟩:=fW hn;split at h
    .cases h;exact stop
    .simp only [Á]at h
     obtain⟨x,i,j⟩:=h;have z:ni .piece s ä:=⟨Ţ,rfl⟩
     obtain⟨a1,a2,a3⟩:=eR _ _ _ _ _ i hs z trivial;simp only [dX]at a2;have g:lE (.fz (ks++[cP x.1])) x.2.1:=⟨by have:=u.1;simp;omega,by
      intro k hk;rcases È.1 hk with hk|hk
      .exact u.2 k hk
      .simp at hk;subst hk;exact fj a1⟩
     have c3:=(eR _ _ _ _ _ j ž trivial g).2.2
     have hx:x.2.2=ä:=by
      cases e:x.2.2
      .rfl
      .rw [c3 e]at d;cases d
     obtain⟨p1,p2⟩:=ih _ _ _ _ i hs z trivial trivial hx;obtain⟨q1,q2⟩:=ih _ _ _ _ j ž trivial g (SZ hR p1) d
     simp only [iW,SS,wP]at p2 q2 |-;exact⟨q1,ž⟩
  |piece=>
   simp only [iP,Á]at h;obtain⟨x,i,j⟩:=h;obtain⟨a1,a2,a3⟩:=eR _ _ _ _ _ i hs m trivial;simp only [dX]at a2;have c3:=(eR _ _ _ _ _ j ž trivial a1).2.2
   have hx:x.2.2=ä:=by
    cases e:x.2.2
    .rfl
    .rw [c3 e]at d;cases d
   obtain⟨p1,p2⟩:=ih _ _ _ _ i hs m trivial trivial hx;obtain⟨q1,q2⟩:=ih _ _ _ _ j ž trivial a1 p1 d
   simp only [iW]at p2 q2 |-;exact⟨q1,ž⟩
  |jr t=>
   simp only [iP]at h;split at h
   .cases h;exact⟨hR,ĺ⟩
   .rename_i c hn
    obtain⟨rfl,e⟩:=fW hn;have hl:s.length=s.tail.length+1:=Ţ
    split at h
    .cases h;exact⟨hR,ĺ⟩
    .rename_i al
     obtain⟨q1,q2⟩:=ih _ _ _ _ h ž trivial ⟨Ż,by simpa using fj u⟩ ⟨.inr (.inr (.inr (.inl ⟨aiX al,rfl,rfl,rfl,rfl⟩))),by simpa using AS hR⟩ d
     simp only [iW,jT,rH,wP]at q2 |-;exact⟨q1,ž⟩
  |atom=>
   obtain⟨ao,rfl⟩:=m;cases s with
   |nil=>exact absurd rfl ao
   |cons c rr=>
    simp only [Å]at hs;simp only [iP]at h;split at h
    .simp only [Á]at h
     obtain⟨x,i,j⟩:=h;cases j;obtain⟨e1,e2⟩:=aiU x d;obtain⟨p1,p2⟩:=ih _ _ _ _ i ž trivial trivial trivial e1
     rw [(SI x).1];simp only [iW,Å]at p2 |-;exact⟨p1,ž⟩
    .cases h
     obtain⟨e1,e2⟩:=aiT c rr d;have e3:=(SH c rr).2;rw [e2];simp only [iW,Å];exact⟨e1,ž⟩
end Go.Ev
namespace Go.Ev
open Go
abbrev Pl:=Int×(Int×O×Bool×Int×Int)
def ek (p:Pl) (k:Int) (b e:Bool):List Int:=
 if p.1=6 then [p.2.2.2.2.1]else if p.1=7 then [p.2.2.2.2.1,p.2.2.2.2.2]else if p.1=4 then cond b [k+1] []else if p.1=5 then cond e [k+1] []else []
theorem aiZ (p:Pl) (k:Int) (b e:Bool):(ek p k b e).length<=2:=by
 unfold ek;repeat' split
 .simp
 .simp
 .cases b<;>simp
 .cases e<;>simp
 .simp
inductive me (l:List Pl) (at0:List Int) (b e:Bool):Nat->Prop
 |base {i:Nat} (h:(i:Int)∈at0) (hi:i<l.length):me l at0 b e i
 |step {k j:Nat} (hk:me l at0 b e k) (h:k<l.length) (hj:(j:Int)∈ek l[k] k b e) (ca:j<l.length):me l at0 b e j
noncomputable def fZ (l:List Pl) (at0:List Int) (b e:Bool):List Int:=((ι l.length).filter fun i=>bo (me l at0 b e i)).map Int.ofNat
theorem Ta {l:List Pl} {at0:List Int} {b e:Bool} {x:Int}:x∈fZ l at0 b e↔ ∃i:Nat,x=(i:Int)/\i<l.length/\me l at0 b e i:=by
 unfold fZ;simp only [List.mem_map,List.mem_filter,Ι,oh];constructor
 .rintro⟨i,⟨d,f⟩,rfl⟩;exact⟨i,rfl,d,f⟩
 .rintro⟨i,rfl,d,f⟩;exact⟨i,⟨d,f⟩,rfl⟩
theorem Ig (l:List Pl) (at0:List Int) (b e:Bool):(fZ l at0 b e).Pairwise fun x y=>x<y:=by
 unfold fZ;rw [List.pairwise_map];refine List.Pairwise.filter _ (List.pairwise_lt_range.imp fun h=> ?_)
 exact Int.ofNat_lt.2 h
theorem ajA (l:List Pl) (at0:List Int) (b e:Bool):(fZ l at0 b e).length<=l.length:=by
 unfold fZ;rw [List.length_map];have:=List.length_filter_le (fun i=>bo (me l at0 b e i)) (ι l.length)
 rwa [List.length_range]at this
theorem ajB {l:List Pl} {at0:List Int} {b e:Bool} {out:List Int} (g:out.Nodup) (hm: ∀x,x∈out↔x∈fZ l at0 b e):kH out=fZ l at0 b e:=by
 unfold kH;have hp:(out.mergeSort fun a b=>á (a<=b)).Perm (fZ l at0 b e):=(List.mergeSort_perm _ _).trans ((List.perm_ext_iff_of_nodup g ((Ig l at0 b e).imp fun h=>ž)).2 hm)
 refine List.Perm.eq_of_pairwise (le:=fun x y:Int=>x<=y) (fun a b _ _ d f=>Int.le_antisymm d f) ?_ ((Ig l at0 b e).imp fun h=>ž) hp
 refine(List.pairwise_mergeSort (le:=fun a b:Int=>á (a<=b)) (fun a b c d f=> ?_) (fun a b=> ?_) out).imp fun h=> ?_
 .simp only [decide_eq_true_eq]at d f |-;omega
 .simp only [ο,decide_eq_true_eq];omega
 .simpa using h
theorem Tb {l:List Pl} {at0:List Int} {b e:Bool} {M:Nat->Prop} (d: ∀i,i<l.length->M i->me l at0 b e i) (f: ∀i:Nat,(i:Int)∈at0->i<l.length->M i)
  (g: ∀k,(h:k<l.length)->M k-> ∀j:Nat,(j:Int)∈ek l[k] k b e->j<l.length->M j) {i:Nat} (hi:i<l.length):M i↔me l at0 b e i:=by
 refine⟨d i hi,fun h=> ?_⟩
 clear hi;induction h with
 |base h hi=>exact f _ h hi
 |step hk h hj ca ih=>exact g _ h ih _ hj ca
end Go.Ev
namespace Go.Ev
open Go
theorem Tc: ∀s t u:O,Í s t=å->Í t u=å->Í s u=å
 |_,t,[],_,h=>by
  rw [show Í t []=ä by cases t<;>rfl]at h
  cases h
 | [],_,c::u,_,_=>î
 |a::s,[],c::u,h,_=>by simp [Í]at h
 |a::s,b::t,c::u,h,k=>by
  rw [Í]at h k |-;simp only [ο,Â,decide_eq_true_eq,beq_iff_eq,τ]at h k |-;rcases h with h|⟨rfl,h⟩<;>rcases k with k|⟨rfl,k⟩
  .left;omega
  .left;exact h
  .left;exact k
  .right;exact⟨rfl,Tc s t u h k⟩
theorem Td: ∀s t:O,Í s t=å\/s=t\/Í t s=å
 | [],[]=>.inr (.inl rfl)
 | [],b::t=>.inl î
 |a::s,[]=>.inr (.inr î)
 |a::s,b::t=>by
  rw [Í,Í];simp only [ο,Â,decide_eq_true_eq,beq_iff_eq,τ,List.cons.injEq];by_cases e:a=b
  .subst e
   rcases Td s t with h|rfl|h
   .exact .inl (.inr ⟨rfl,h⟩)
   .exact .inr (.inl ⟨rfl,rfl⟩)
   .exact .inr (.inr (.inr ⟨rfl,h⟩))
  .have:a.toNat≠b.toNat:=fun k=>e (ξ.1 k)
   by_cases l:a.toNat<b.toNat
   .exact .inl (.inl l)
   .exact .inr (.inr (.inl ž))
theorem Ih {a:Int} {s:O} {b:Int} {t:O} {c:Int} {u:O} (h:dY a s b t) (k:dY b t c u):dY a s c u:=by
 rcases h with h|⟨f,d⟩<;>rcases k with k|⟨k1,k2⟩
 .exact .inl ž
 .exact .inl ž
 .exact .inl ž
 .exact .inr ⟨ž,Tc s t u d k2⟩
theorem ajC (a:Int) (s:O) (b:Int) (t:O):dY a s b t\/(a=b/\s=t)\/dY b t a s:=by
 by_cases h:a<b
 .exact .inl (.inl h)
 by_cases k:b<a
 .exact .inr (.inr (.inl k))
 rcases Td s t with q|q|q
 .exact .inl (.inr ⟨ž,q⟩)
 .exact .inr (.inl ⟨ž,q⟩)
 .exact .inr (.inr (.inr ⟨ž,q⟩))
def CW (cells:Int) (c:VC):Prop:=0<=c.1/\c.1<cells/\c.2.1.length<=300/\bO c.2.2
def CL (a b:VC):Prop:=dY a.1 a.2.1 b.1 b.2.1
theorem Te {α:Type} {R:α->α->Prop} (g: ∀a b c,R a b->R b c->R a c): ∀ {l:List α},(∀i (h:i<l.length),(k:0<i)->R (l[i-1]'(by omega)) l[i])->l.Pairwise R
 | [],_=>List.Pairwise.nil
 | [a],_=>List.pairwise_singleton R a
 |a::b::l,h=>by
  have ih:(b::l).Pairwise R:=Te g fun i hi k=>by
   have:=h (i+1) (by simp at hi |-;omega) ž
   obtain⟨j,rfl⟩: ∃j,i=j+1:=⟨i-1,ž⟩
   simpa using this
  have d:R a b:=h 1 Ż ž
  rw [ϗ];refine⟨fun c f=> ?_,ih⟩
  rcases Ñ.1 f with rfl|f
  .exact d
  .exact g _ _ _ d ((ϗ.1 ih).1 c f)
theorem wQ {cs:List VC} {cells:Int}:(∀i,i<cs.length->pU cs cells i)↔(∀c∈cs,CW cells c)/\cs.Pairwise CL:=by
 constructor
 .intro h
  refine⟨fun c g=> ?_,Te (R:=CL) (fun a b c h k=>Ih h k) fun i hi f=>(h i hi hi).2.2.2.2 f⟩
  obtain⟨j,hj,rfl⟩:=Ô.1 g;obtain⟨a,b,c,d, -⟩:=h j hj hj;exact⟨a,b,c,d⟩
 .rintro⟨m,p⟩ i hi q
  obtain⟨a,b,c,d⟩:=m _ (Γ hi);exact⟨a,b,c,d,fun f=>List.pairwise_iff_getElem.1 p (i-1) i ž hi ž⟩
end Go.Ev
namespace Go.Ev
theorem AX {α b:Type} {P:b->Prop} {f:b->α->b}: ∀(l:List α) (s:b),P s->(∀s,∀x∈l,P s->P (f s x))->P (l.foldl f s)
 | [],_,h,_=>h
 |x::l,s,h,k=>AX l (f s x) (k s x Ż h) fun s y hy=>k s y (by simp [hy])
theorem AY {α d t:Type} {l:List α} (hl:l.length<=1048576) (f:d->α->d) (P:d->Prop) {b:d} (u:P b) (z: ∀s,∀x∈l,P s->P (f s x)) {r:d->t} {L:Nat->Nat->Int->d->Option t}
  (k: ∀s,P s-> ∀(i:Nat) (hi:i<l.length),W fun n=> ∀m,L n (m+1) (i:Int) s=L n m (Þ ß ((i:Int)+(1:Int))) (f s l[i]))
  (he: ∀n m s,L n (m+1) (l.length:Int) s=ã (r s)):W fun n=>L n n 0 b=ã (r (l.foldl f b)):=by
 have q: ∀i,P ((l.take i).foldl f b):=fun i=>AX (l.take i) b u fun s x k=>z s x (χ k)
 have g:W fun n=> ∀i∈ι l.length,∀(hi:i<l.length) m,L n (m+1) (i:Int) ((l.take i).foldl f b)=L n m (Þ ß ((i:Int)+(1:Int))) (f ((l.take i).foldl f b) l[i]):=
  W.all (p:=fun i n=> ∀(hi:i<l.length) m,L n (m+1) (i:Int) ((l.take i).foldl f b)=L n m (Þ ß ((i:Int)+(1:Int))) (f ((l.take i).foldl f b) l[i])) (ι l.length) fun i hi=>(k _ (q i) i (Ι.1 hi)).mono fun n h _ m=>h m
 have:=lv (len:=l.length) (L:=fun n m i s=>L n m (i:Int) s) (fun i s=>s=(l.take i).foldl f b) (fun x=>x=r (l.foldl f b)) ?_ ?_
 .exact this.mono fun n h=>by
   obtain⟨x,h1,h2⟩:=h b rfl;rw [<-h2];exact h1
 .refine g.mono fun n h m i s hi j=>.inr ⟨f s l[i], ?_, ?_⟩
  .subst j
   rw [<-du hi ž]
   exact h i (Ι.2 hi) hi m
  .subst j
   rw [Ø hi,List.foldl_append];rfl
 .exact W.of fun n m s j=>⟨_,he n m s,by rw [j,Ψ]⟩
theorem AZ {α k:Type} {l:List α} (u:l.length<=1048576) {f:α->List UInt8} {B:Nat} (p: ∀x∈l,(f x).length<=B) {init:List UInt8} (hi:init.length+l.length*B<=4000000) {r:List UInt8->k} {L:Nat->Nat->Int->List UInt8->Option k}
  (q:W fun n=> ∀(i:Nat) (hi:i<l.length) acc m,acc.length+(f l[i]).length<=4000000->L n (m+1) (i:Int) acc=L n m (Þ ß ((i:Int)+(1:Int))) (acc++f l[i]))
  (he: ∀n m acc,L n (m+1) (l.length:Int) acc=ã (r acc)):W fun n=>L n n 0 init=ã (r (init++l.flatMap f)):=by
 have hlen: ∀i,i<=l.length->(init++(l.take i).flatMap f).length<=init.length+i*B:=by
  intro i;induction i with
  |zero=>simp
  |succ i ih=>
   intro b;have:=ih ž
   rw [Ø ž,Ν,<-À,List.length_append,φ]
   simp only [Ö,List.flatMap_nil,Ϣ];have:=p l[i] (Γ ž)
   omega
 have:=lv (len:=l.length) (L:=fun n m i s=>L n m (i:Int) s) (fun i s=>i<=l.length/\s=init++(l.take i).flatMap f) (fun x=>x=r (init++l.flatMap f)) ?_ ?_
 .exact this.mono fun n h=>by
   obtain⟨x,g,j⟩:=h init ⟨ž,Ż⟩
   rw [<-j];exact g
 .refine q.mono fun n h m i s b ⟨g,d⟩=>.inr ⟨s++f l[i], ?_,b, ?_⟩
  .rw [<-du b ž]
   refine h i b s m ?_
   have j:=hlen i g;rw [<-d]at j;have z:=p l[i] (Γ b);have t:(i+1)*B<=l.length*B:=Β B ž
   rw [φ]at t;omega
  .subst d
   rw [Ø b,Ν,<-À];simp
 .refine W.of fun n m s ⟨_,d⟩=>⟨_,he n m s, ?_⟩
  rw [d,Ψ]
end Go.Ev
namespace Go.Ev
open Go
def dj (n:Nat):O:=if n<=127 then [Æ n]else Æ (n%128+128)::dj (n/128)
termination_by n
decreasing_by omega
theorem iw {n:Nat} (h:n<=127):dj n=[Æ n]:=by rw [dj,if_pos h]
theorem jU {n:Nat} (h: ¬n<=127):dj n=Æ (n%128+128)::dj (n/128):=by rw [dj,if_neg h]
theorem Ba {a b:Nat} (d:a<256) (f:b<256) (h:Æ a=Æ b):a=b:=by
 have:=congrArg Ϭ h;simp only [Ε]at this;omega
theorem Bc: ∀(a b:Nat) (s t:O),dj a++s=dj b++t->a=b/\s=t:=by
 intro a;induction a using ν with
 |ind a ih=>
  intro b s t h;by_cases g:a<=127<;>by_cases i:b<=127
  .rw [iw g,iw i]at h
   injection h with d f
   exact⟨Ba ž ž d,f⟩
  .rw [iw g,jU i]at h
   injection h with d f
   have:=Ba ž ž d
   omega
  .rw [jU g,iw i]at h
   injection h with d f
   have:=Ba ž ž d
   omega
  .rw [jU g,jU i]at h
   injection h with d f
   have:=Ba ž ž d
   obtain⟨k1,k2⟩:=ih (a/128) ž (b/128) s t f
   exact⟨ž,k2⟩
theorem Tf: ∀(k n:Nat),n<128^(k+1)->(dj n).length<=k+1
 |0,n,h=>by
  rw [iw ž];simp
 |k+1,n,h=>by
  by_cases b:n<=127
  .rw [iw b];simp
  .rw [jU b]
   have:n/128<128^(k+1):=by
    rw [Nat.div_lt_iff_lt_mul ž]
    rw [ϙ]at h;exact h
   have:=Tf k (n/128) this;simp only [Å];omega
theorem pX {n:Nat} (h:n<=4611686018427387903):(dj n).length<=9:=Tf 8 n (by
 have:(128:Nat)^(8+1)=9223372036854775808:=ų
 omega)
def pY {α:Type} (P:α->Prop) (f:α->O):Prop:= ∀a b,P a->P b-> ∀s t,f a++s=f b++t->a=b/\s=t
def bJ (x:Int):O:=dj x.toNat
def np (x:Int):O:=if x<0 then dj (-2*x-1).toNat else dj (2*x).toNat
def eS (s:O):O:=dj s.length++s
def gS (v:V):O:=(bJ v.1++np v.2.1)++eS v.2.2
def iy (c:VC):O:=(bJ c.1++eS c.2.1)++gS c.2.2
theorem wR:pY (fun x:Int=>0<=x) bJ:=fun a b d f s t h=>by
 obtain⟨k1,k2⟩:=Bc _ _ s t h;exact⟨ž,k2⟩
theorem ajD:pY (fun _:Int=>True) np:=fun a b _ _ s t h=>by
 unfold np at h;split at h<;>split at h
 all_goals
  obtain⟨k1,k2⟩:=Bc _ _ s t h;exact⟨ž,k2⟩
theorem Ii:pY (fun _:O=>True) eS:=fun a b _ _ s t h=>by
 unfold eS at h;rw [À,À]at h;obtain⟨k1,k2⟩:=Bc _ _ _ _ h;exact List.append_inj k2 k1
theorem Tg:pY (fun v:V=>0<=v.1) gS:=fun a b d f s t h=>by
 obtain⟨g,a2,a3⟩:=a;obtain⟨i,j,m⟩:=b;unfold gS at h;rw [À,À,À,À]at h;have k:=wR _ _ d f _ _ h;clear h;obtain⟨rfl,h⟩:=k;have k:=ajD _ _ trivial trivial _ _ h;clear h;obtain⟨rfl,h⟩:=k;have k:=Ii _ _ trivial trivial _ _ h;clear h;obtain⟨rfl,h⟩:=k;exact⟨rfl,h⟩
theorem ajE:pY (fun c:VC=>0<=c.1/\0<=c.2.2.1) iy:=fun a b d f s t h=>by
 obtain⟨g,a2,a3⟩:=a;obtain⟨i,j,m⟩:=b;unfold iy at h;rw [À,À,À,À]at h;have k:=wR _ _ d.1 f.1 _ _ h;clear h;obtain⟨rfl,h⟩:=k;have k:=Ii _ _ trivial trivial _ _ h;clear h;obtain⟨rfl,h⟩:=k;have k:=Tg _ _ d.2 f.2 _ _ h;clear h;obtain⟨rfl,h⟩:=k;exact⟨rfl,h⟩
theorem Ij {α:Type} {P:α->Prop} {f:α->O} (g:pY P f): ∀(l m:List α),(∀x∈l,P x)->(∀x∈m,P x)->l.length=m.length-> ∀s t,l.flatMap f++s=m.flatMap f++t->l=m/\s=t
 | [],[],_,_,_,s,t,h=>⟨rfl,h⟩
 | [],_::_,_,_,e,_,_,_=>by simp at e
 |_::_,[],_,_,e,_,_,_=>by simp at e
 |a::l,b::m,i,hm,e,s,t,h=>by
  rw [Ö,Ö,À,À]at h;have k:=g _ _ (i a Ż) (hm b Ż) _ _ h
  clear h;obtain⟨rfl,h⟩:=k;have k:=Ij g l m (fun x d=>i x ç) (fun x d=>hm x ç) Ņ _ _ h
  clear h;obtain⟨rfl,h⟩:=k;exact⟨rfl,h⟩
def iX {α:Type} (f:α->O) (l:List α):O:=dj l.length++l.flatMap f
theorem Ti {α:Type} {P:α->Prop} {f:α->O} (b:pY P f):pY (fun l=> ∀x∈l,P x) (iX f):=fun l m d hm s t h=>by
 unfold iX at h;rw [À,À]at h;obtain⟨k1,k2⟩:=Bc _ _ _ _ h;exact Ij b l m d hm k1 s t k2
def wS (vs:List V) (cs:List VC) (nr er:Int):O:=((iX gS vs++iX iy cs)++bJ nr)++bJ er
def nq (vs:List V) (cs:List VC) (nr er:Int) (dn:List Int) (out:O):O:=(wS vs cs nr er++dn.flatMap bJ)++eS out
theorem ajF {vs f:List V} {cs g:List VC} {nr er i j:Int} {dn b:List Int} {out d:O} (t: ∀v∈vs,0<=v.1) (m: ∀v∈f,0<=v.1) (u: ∀c∈cs,0<=c.1/\0<=c.2.2.1) (p: ∀c∈g,0<=c.1/\0<=c.2.2.1) (z:0<=nr) (q:0<=i) (h4:0<=er) (r:0<=j) (h5: ∀x∈dn,0<=x) (s: ∀x∈b,0<=x) (hl:dn.length=b.length)
  (h:nq vs cs nr er dn out=nq f g i j b d):vs=f/\cs=g/\nr=i/\er=j/\dn=b/\out=d:=by
 unfold nq wS at h;simp only [À]at h;have k:=Ti Tg _ _ t m _ _ h;clear h;obtain⟨rfl,h⟩:=k;have k:=Ti ajE _ _ u p _ _ h;clear h;obtain⟨rfl,h⟩:=k;have k:=wR _ _ z q _ _ h;clear h;obtain⟨rfl,h⟩:=k;have k:=wR _ _ h4 r _ _ h;clear h;obtain⟨rfl,h⟩:=k;have k:=Ij wR dn b h5 s hl _ _ h;clear h;obtain⟨rfl,h⟩:=k;have h:eS out++[]=eS d++[]:=by rw [h]
 have k:=Ii _ _ trivial trivial _ _ h;clear h;obtain⟨rfl, -⟩:=k;exact⟨rfl,rfl,rfl,rfl,rfl,rfl⟩
end Go.Ev
namespace Go.Ev
open Go
def fk:Nat->O->Option (Nat×Nat)
 |0,_=>â
 |_+1,[]=>â
 |f+1,d::s=>if d.toNat<128 then ã (d.toNat,1)else(fk f s).map fun p=>(d.toNat%128+128*p.1,p.2+1)
theorem tL: ∀ {f:Nat} {s:O} {x l:Nat},fk f s=ã (x,l)->0<l/\l<=f/\l<=s.length/\x<128^l
 |0,s,x,l,h=>ĩ
 |f+1,[],x,l,h=>ĩ
 |f+1,d::s,x,l,h=>by
  rw [fk]at h;split at h
  .rename_i hd
   simp only [Ä,É]at h;obtain⟨rfl,rfl⟩:=h;simp;omega
  .rw [Î]at h
   obtain⟨⟨y,k⟩,g,b⟩:=h;simp only [É]at b;obtain⟨rfl,rfl⟩:=b;obtain⟨k1,k2,k3,i⟩:=tL g;refine⟨ž,ž,ź, ?_⟩
   rw [ϙ];omega
theorem Tj: ∀ {f:Nat} {s:O} {x l:Nat},fk f s=ã (x,l)->s[l-1]? ≠ã 0->x≠0
 |0,s,x,l,h,_=>ĩ
 |f+1,[],x,l,h,_=>ĩ
 |f+1,d::s,x,l,h,b=>by
  rw [fk]at h;split at h
  .simp only [Ä,É]at h
   obtain⟨rfl,rfl⟩:=h;intro e;apply b
   simp only [Ϫ,Ú,Ä]
   exact ξ.1 Ņ
  .rw [Î]at h
   obtain⟨⟨y,k⟩,g,i⟩:=h;simp only [É]at i;obtain⟨rfl,rfl⟩:=i;obtain⟨k1, -⟩:=tL g;have:=Tj g (by
    rw [show k+1-1=(k-1)+1 by omega,Η]at b;exact b)
   omega
theorem Tk: ∀ {f:Nat} {s:O} {x l:Nat},fk f s=ã (x,l)-> ¬(1<l/\s[l-1]? =ã 0)->s=dj x++s.drop l/\(dj x).length=l
 |0,s,x,l,h,_=>ĩ
 |f+1,[],x,l,h,_=>ĩ
 |f+1,d::s,x,l,h,j=>by
  rw [fk]at h;split at h
  .rename_i hd
   simp only [Ä,É]at h;obtain⟨rfl,rfl⟩:=h;rw [iw ž];simp
  .rename_i hd
   rw [Î]at h;obtain⟨⟨y,k⟩,g,i⟩:=h;simp only [É]at i;obtain⟨rfl,rfl⟩:=i;obtain⟨k1, -⟩:=tL g;have b:s[k-1]? ≠ã 0:=fun e=>j ⟨ž,by rw [show k+1-1=(k-1)+1 by omega,Η];exact e⟩
   have hy:=Tj g b;obtain⟨m,p⟩:=Tk g fun e=>b e.2
   have q:d.toNat<256:=d.toNat_lt;rw [jU ž,show(d.toNat%128+128*y)%128+128=d.toNat by omega,show(d.toNat%128+128*y)/128=y by omega]
   refine⟨?_,by simp [p]⟩
   rw [Μ,Û,<-m];simp
theorem ajG: ∀(x f:Nat) (r:O),(dj x).length<=f->fk f (dj x++r)=ã (x,(dj x).length)/\ ¬(1<(dj x).length/\(dj x++r)[(dj x).length-1]? =ã 0):=by
 intro x;induction x using ν with
 |ind x ih=>
  intro f r b;by_cases d:x<=127
  .rw [iw d]at b |-
   obtain⟨f,rfl⟩: ∃g,f=g+1:=⟨f-1,by simp at b;omega⟩
   have:(Æ x).toNat=x:=by rw [Ε];omega
   rw [List.singleton_append,fk,this,if_pos ž]
   simp
  .rw [jU d]at b |-
   obtain⟨f,rfl⟩: ∃g,f=g+1:=⟨f-1,by simp at b;omega⟩
   have j:(Æ (x%128+128)).toNat=x%128+128:=by rw [Ε];omega
   obtain⟨k1,k2⟩:=ih (x/128) ž f r ł
   have p:0<(dj (x/128)).length:=by
    by_cases h:x/128<=127
    .rw [iw h];simp
    .rw [jU h];simp
   rw [Û,fk,j,if_neg ž,k1]
   refine⟨?_,fun⟨_,h⟩=> ?_⟩
   .simp only [Option.map_some,Å];congr 2;omega
   .rw [Å,show(dj (x/128)).length+1-1=((dj (x/128)).length-1)+1 by omega,Η]at h
    by_cases i:1<(dj (x/128)).length
    .exact k2 ⟨i,h⟩
    .have k:x/128<=127:=by
      apply ϥ
      intro m;apply i
      rw [jU m,Å];have:0<(dj (x/128/128)).length:=by
       by_cases h:x/128/128<=127
       .rw [iw h];simp
       .rw [jU h];simp
      omega
     rw [iw k]at h;simp only [List.length_singleton,Ϫ,Û,Ú,Ä]at h
     have h:=congrArg Ϭ h;rw [Ε]at h;simp at h;omega
def dN {α:Type} (P:α->Prop) (f:α->O) (p:O->Option (α×O)):Prop:= ∀s x r,p s=ã (x,r)↔P x/\s=f x++r
def Cons {α:Type} (p:O->Option (α×O)):Prop:= ∀s x r,p s=ã (x,r)-> ∃m,r=s.drop m/\m<=s.length
theorem dN.cons {α:Type} {P:α->Prop} {f:α->O} {p:O->Option (α×O)} (h:dN P f p):Cons p:=fun s x r e=>by
 obtain⟨-,rfl⟩:=(h _ _ _).1 e;exact⟨(f x).length,Ż,Ż⟩
def cr (s:O):Option (Int×O):=match fk 9 s with
 |some (x,l)=>if(1<l/\s[l-1]? =ã 0)\/4611686018427387903<x then â else ã ((x:Int),s.drop l)
 |none=>â
def gA (x:Int):Prop:=0<=x/\x<=4611686018427387903
theorem eC:dN gA bJ cr:=by
 intro s x r;unfold cr;constructor
 .intro h
  split at h
  .rename_i y l hd
   split at h
   .cases h
   .rename_i b
    simp only [Ä,É]at h;obtain⟨rfl,rfl⟩:=h;obtain⟨d,f⟩:=Tk hd fun h=>b (.inl h)
    exact⟨⟨ž,ž⟩,by rw [bJ,ϛ];exact d⟩
  .cases h
 .rintro⟨⟨g,i⟩,rfl⟩
  obtain⟨y,rfl⟩: ∃y:Nat,x=y:=⟨x.toNat,ž⟩
  rw [bJ,ϛ];obtain⟨k1,k2⟩:=ajG y 9 r (pX ž)
  rw [k1];simp only;rw [if_neg (by rintro(h|h);exact k2 h;omega)]
  simp
def fm {α β:Type} (p:O->Option (α×O)) (q:O->Option (β×O)) (s:O):Option ((α×β)×O):=(p s).bind fun y=>(q y.2).map fun z=>((y.1,z.1),z.2)
theorem dN.seq {α β:Type} {P:α->Prop} {Q:β->Prop} {f:α->O} {g:β->O} {p:O->Option (α×O)} {q:O->Option (β×O)} (h:dN P f p) (k:dN Q g q):dN (fun z:α×β=>P z.1/\Q z.2) (fun z=>f z.1++g z.2) (fm p q):=by
 intro s ⟨x,y⟩ r;unfold fm;simp only [Á,Î,É,Prod.exists];constructor
 .rintro⟨a,s1,j,b,s2,m,⟨rfl,rfl⟩,rfl⟩
  obtain⟨d,rfl⟩:=(h _ _ _).1 j;obtain⟨i,rfl⟩:=(k _ _ _).1 m;exact⟨⟨d,i⟩,by rw [À]⟩
 .rintro⟨⟨d,i⟩,rfl⟩
  exact⟨x,g y++r,(h _ _ _).2 ⟨d,by rw [À]⟩,y,r,(k _ _ _).2 ⟨i,rfl⟩,⟨rfl,rfl⟩,rfl⟩
def pZ {α:Type} (c:α->Bool) (p:O->Option (α×O)) (s:O):Option (α×O):=(p s).bind fun y=>cond (c y.1) (ã y) â
theorem dN.Tl {α:Type} {P:α->Prop} {f:α->O} {p:O->Option (α×O)} (h:dN P f p) (c:α->Bool):dN (fun x=>P x/\c x=å) f (pZ c p):=by
 intro s x r;unfold pZ;simp only [Á,Prod.exists];constructor
 .rintro⟨a,s1,i,b⟩
  cases d:c a with
  |true=>
   rw [d]at b;simp only [Y,Ä,É]at b;obtain⟨rfl,rfl⟩:=b;obtain⟨g,e⟩:=(h _ _ _).1 i;exact⟨⟨g,d⟩,e⟩
  |false=>rw [d]at b;cases b
 .rintro⟨⟨g,d⟩,e⟩
  exact⟨x,r,(h _ _ _).2 ⟨g,e⟩,by rw [d];rfl⟩
def rJ {α β:Type} (t:α->β) (p:O->Option (α×O)) (s:O):Option (β×O):=(p s).map fun y=>(t y.1,y.2)
theorem dN.map {α β:Type} {P:α->Prop} {f:α->O} {p:O->Option (α×O)} (h:dN P f p) (t:α->β) (u:β->α) {Q:β->Prop} {g:β->O} (i: ∀x,P x->Q (t x)/\u (t x)=x) (j: ∀y,Q y->P (u y)/\t (u y)=y) (d: ∀y,Q y->g y=f (u y)):dN Q g (rJ t p):=by
 intro s y r;unfold rJ;simp only [Î,É,Prod.exists];constructor
 .rintro⟨a,s1,k,rfl,rfl⟩
  obtain⟨b,rfl⟩:=(h _ _ _).1 k;obtain⟨q1,q2⟩:=i a b;exact⟨q1,by rw [d _ q1,q2]⟩
 .rintro⟨q1,rfl⟩
  obtain⟨b,m⟩:=j y q1;exact⟨u y,r,(h _ _ _).2 ⟨b,by rw [d _ q1]⟩,m,rfl⟩
def ga {α:Type} (p:O->Option (α×O)):Nat->O->Option (List α×O)
 |0,s=>ã ([],s)
 |n+1,s=>(p s).bind fun y=>(ga p n y.2).map fun z=>(y.1::z.1,z.2)
theorem dN.rep {α:Type} {P:α->Prop} {f:α->O} {p:O->Option (α×O)} (h:dN P f p): ∀n,dN (fun l=>l.length=n/\ ∀x∈l,P x) (fun l=>l.flatMap f) (ga p n)
 |0=>by
  intro s l r;simp only [ga,Ä,É];constructor
  .rintro⟨rfl,rfl⟩;simp
  .rintro⟨⟨b, -⟩,rfl⟩
   have:=List.eq_nil_of_length_eq_zero b;subst this;simp
 |n+1=>by
  intro s l r;simp only [ga,Á,Î,É,Prod.exists];constructor
  .rintro⟨a,s1,i,m,s2,j,rfl,rfl⟩
   obtain⟨k,rfl⟩:=(h _ _ _).1 i;obtain⟨⟨q,t⟩,rfl⟩:=(dN.rep h n _ _ _).1 j;exact⟨⟨Ě,fun x d=>(Ñ.1 d).elim (fun e=>e▸k) (t x)⟩,by rw [Ö,À]⟩
  .rintro⟨⟨b,g⟩,rfl⟩
   cases l with
   |nil=>simp at b
   |cons a m=>
    exact⟨a,m.flatMap f++r,(h _ _ _).2 ⟨g a Ż,by rw [Ö,À]⟩,m,r,(dN.rep h n _ _ _).2 ⟨⟨ł,fun x d=>g x ç⟩,rfl⟩,rfl,rfl⟩
def mf {α:Type} (p:O->Option (α×O)) (most:Int) (s:O):Option (List α×O):=(cr s).bind fun y=>cond (á (y.1<=most)) (ga p y.1.toNat y.2) â
theorem dN.Ik {α:Type} {P:α->Prop} {f:α->O} {p:O->Option (α×O)} (h:dN P f p) {most:Int} (hm:most<=4611686018427387903):dN (fun l=>(l.length:Int)<=most/\ ∀x∈l,P x) (iX f) (mf p most):=by
 intro s l r;unfold mf iX;simp only [Á,Prod.exists];constructor
 .rintro⟨a,s1,j,b⟩
  obtain⟨⟨d,g⟩,rfl⟩:=(eC _ _ _).1 j;by_cases i:a<=most
  .rw [hC i,Y]at b
   obtain⟨⟨k,m⟩,rfl⟩:=(h.rep _ _ _ _).1 b;exact⟨⟨ž,m⟩,by rw [À,bJ,k]⟩
  .rw [hJ i]at b;cases b
 .rintro⟨⟨d,g⟩,rfl⟩
  refine⟨l.length,l.flatMap f++r,(eC _ _ _).2 ⟨⟨ž,ž⟩,í⟩, ?_⟩
  rw [hC d,Y];exact(h.rep _ _ _ _).2 ⟨⟨ž,g⟩,rfl⟩
def iz (s:O):Option (O×O):=(cr s).bind fun y=>cond (á (y.1<=(y.2.length:Int))) (ã (y.2.take y.1.toNat,y.2.drop y.1.toNat)) â
theorem rK:dN (fun t=>(t.length:Int)<=4611686018427387903) eS iz:=by
 intro s t r;unfold iz eS;simp only [Á,Prod.exists];constructor
 .rintro⟨a,s1,f,b⟩
  obtain⟨⟨g,i⟩,rfl⟩:=(eC _ _ _).1 f;by_cases d:a<=(s1.length:Int)
  .rw [hC d]at b
   simp only [Y,Ä,É]at b;obtain⟨rfl,rfl⟩:=b;have h:(s1.take a.toNat).length=a.toNat:=ŭ
   exact⟨ž,by rw [h,bJ,À,π]⟩
  .rw [hJ d]at b;cases b
 .rintro⟨g,rfl⟩
  refine⟨t.length,t++r,(eC _ _ _).2 ⟨⟨ž,ž⟩,í⟩, ?_⟩
  rw [hC ź]
  simp
def wT (x:Int):Prop:= -2305843009213693951<=x/\x<=2305843009213693951
instance (x:Int):Decidable (wT x):=inferInstanceAs (Decidable (_/\_))
def jw (n:Int):Int:=if n%2=1 then -1-n/2 else n/2
def mg (s:O):Option (Int×O):=rJ jw (pZ (fun n=>á (wT (jw n))) cr) s
theorem Il:dN wT np mg:=by
 refine dN.map (eC.Tl _) jw (fun x=>if x<0 then -2*x-1 else 2*x) (fun n ⟨⟨b,d⟩,g⟩=> ?_) (fun x ⟨b,d⟩=> ?_) fun x h=> ?_
 .refine⟨of_decide_eq_true g, ?_⟩
  unfold jw;split<;>split<;>omega
 .have f:jw (if x<0 then -2*x-1 else 2*x)=x:=by unfold jw;split<;>split<;>omega
  refine⟨⟨⟨by split<;>omega,by split<;>omega⟩, ?_⟩,f⟩
  rw [f];exact hC ⟨b,d⟩
 .unfold np bJ
  split<;>rfl
def wU (v:V):Prop:=gA v.1/\wT v.2.1/\(v.2.2.length:Int)<=4611686018427387903
def ns:O->Option (V×O):=fm cr (fm mg iz)
theorem Im:dN wU gS ns:=fun s x r=>by
 rw [ns,eC.seq (Il.seq rK) s x r];simp only [wU,gS,À]
def Io (c:VC):Prop:=gA c.1/\(c.2.1.length:Int)<=4611686018427387903/\wU c.2.2
def wV:O->Option (VC×O):=fm cr (fm iz ns)
theorem Tn:dN Io iy wV:=fun s x r=>by
 rw [wV,eC.seq (rK.seq Im) s x r];simp only [Io,iy,À]
end Go.Ev
