/- Texts of the law, part 2. -/
import Derived.Test.YtfledcdkafkgaaaGreatDoorTxt1
import Derived.Test.YtfledcdkafkgaaaGreatDoorEv4
open List renaming length_append->À,append_assoc->Å,getElem_mem->Æ,length_drop->È,mem_singleton->É,getElem?_eq_getElem->Ê,getD_eq_getElem?_getD->Ë,drop_eq_getElem_cons->Ì,replicate->Í,length_cons->Î,mem_append->Ï,append_nil->Ð,length_nil->Ñ,drop_of_length_le->Ó,mem_append_left->Õ,drop_zero->Ø,take_of_length_le->Ú,mem_cons->Û,mem_of_mem_drop->Ý,mem_of_mem_take->Α,flatMap_cons->Γ,length->Ζ,length_set->Η,length_singleton->Θ,drop_eq_nil_iff->Ι,drop_drop->Λ,mem_cons_of_mem->Μ,pairwise_iff_getElem->Ξ,nil_append->Ρ,append_cancel_left->Τ,findIdx?_eq_some_iff_getElem->Υ,drop_eq_nil_of_le->Ψ,length_take->Ω,eq_nil_of_length_eq_zero->ζ,mem_iff_getElem->η,mem_cons_self->π,mem_or_eq_of_mem_set->τ,eq_of_mem_replicate->ψ,getElem?_replicate->ω,range->ϋ,eq_nil_or_concat->ό,concat_eq_append->ύ,length_replicate->ώ,getElem?_eq_none->Ϙ,take_append_drop->ϙ,pairwise_append->Ϛ,filter_cons->Ϡ,drop_length->Ϣ,not_mem_nil->ϣ,filter_nil->ϥ,mem_range->ϧ
open Go.IntKind renaming wrap_i64->Á,bits->Χ
open Int renaming toNat_natCast->Â,reduceBEq->Ã,toNat->Ç,tmod_eq_emod_of_nonneg->Ù,tdiv_eq_ediv_of_nonneg->ο,tmod->ϊ,toNat_of_nonneg->ϛ,fdiv->Ϟ,ofNat->ϟ,tdiv->Ϩ,le_trans->Ϭ
open Bool renaming not_true->Ä,not_not->Ò,not_false->Ü,or_eq_true_iff->ν,not_eq_true'->ϝ,and_true->Ϫ
open Nat renaming ble_eq_true_of_le->Ô,pow_le_pow_right->Κ,pow_succ->Φ,and_two_pow_sub_one_eq_mod->ε,mul_le_mul_right->ι,mul_le_mul_left->ξ,ble->υ,div_lt_iff_lt_mul->ϗ,add_zero->Ϝ,le_max_left->Ϥ,not_lt_zero->Ϧ,mul_le_mul->ϩ,beq_refl->ϫ,add_mul->ϭ,pow_mul->Ϯ
open Sum renaming inl->Ö
open UInt8 renaming ofNat->Β,toNat_inj->κ
open Option.some renaming injEq->Δ,inj->ϳ
open Classical renaming propDecidable->Ε,byContradiction->σ,not_not->φ,choose_spec->Ϗ,choose->ϯ
open BitVec renaming ofInt->Ν,toNat_and->ϡ
open Prod.mk renaming injEq->Ο
open List.cons renaming inj->χ
open Bool renaming true->å,false->ä
open Option renaming some->ã,none->â
open Decidable renaming decide->á
open Go.IntKind renaming i64->ß,wrap->Þ
open List renaming length->à
open Go.IntKind
namespace Go.Proofs.YtfledcdkafkgaaaGreatDoor
open Go Go.Ev
def jI (p:Pl) (n:Int) (last:Prop):Prop:=
 (last↔p.1=8)/\(p.1≠1->p.2.1=0)/\(p.1≠3->p.2.2.1=[]/\p.2.2.2.1=ä)/\
 ((p.1=6/\In p.2.2.2.2.1 0 (n-1)/\p.2.2.2.2.2=0)\/(p.1=7/\In p.2.2.2.2.1 0 (n-1)/\In p.2.2.2.2.2 0 (n-1))\/(p.1=1/\In p.2.1 0 255/\p.2.2.2.2.1=0/\p.2.2.2.2.2=0)\/
  ((p.1=2\/p.1=3\/p.1=4\/p.1=5\/p.1=8)/\p.2.2.2.2.1=0/\p.2.2.2.2.2=0))
theorem aDz:W fun n=> ∀x lo hi:Int,cu n x lo hi=ã (bo (In x lo hi)):=W.succ (W.of fun n x lo hi=>by
 obtain⟨N,h⟩:=cZ x lo hi;rw [<-h (max N (n+1)) (Ϥ _ _)];obtain⟨q,b⟩: ∃q,max N (n+1)=q+1:=⟨max N (n+1)-1,ž⟩
 rw [b,oL,oL])
def qB (p:Pl) (n:Int):Prop:=
 In p.1 1 8/\((In p.2.1 0 255/\p.1=1)\/p.2.1=0)/\(p.1=3\/(p.2.2.1=[]/\p.2.2.2.1=ä))/\
 (((p.1=6\/p.1=7)/\In p.2.2.2.2.1 0 (n-1))\/(p.2.2.2.2.1=0/\p.1≠6/\p.1≠7))/\((p.1=7/\In p.2.2.2.2.2 0 (n-1))\/(p.2.2.2.2.2=0/\p.1≠7))
theorem aDA (p:Pl) (n:Int) (last:Prop):(qB p n/\(p.1=8↔last))↔jI p n last:=by
 obtain⟨o,c,s,neg,a,b⟩:=p;unfold qB jI;dsimp only
 by_cases h:In o 1 8
 .have d:o=1\/o=2\/o=3\/o=4\/o=5\/o=6\/o=7\/o=8:=by unfold In at h;omega
  have f:c=0->In c 0 255:=fun e=>by unfold In;omega
  rcases d with rfl|rfl|rfl|rfl|rfl|rfl|rfl|rfl
  all_goals simp [h]
  all_goals grind
 .have d:o≠1/\o≠2/\o≠3/\o≠4/\o≠5/\o≠6/\o≠7/\o≠8:=by unfold In at h;omega
  simp [h,d]
theorem aDB (p:Pl) (n0:Int) (f:1<=n0/\n0<=1048576):W fun n=>CN n p.1 p.2.1 p.2.2.1 p.2.2.2.1 p.2.2.2.2.1 p.2.2.2.2.2 n0=ã (bo (qB p n0)):=by
 obtain⟨o,c,s,neg,a,b⟩:=p;refine Zy.nm fun n e=> ?_
 have hw:Þ ß (n0-1)=n0-1:=ż
 rw [apZ,hw];simp only [e,Z];rw [show (!neg)=bo (neg=ä) by cases neg<;>simp [tC,tD]]
 simp only [bW,eQ,gQ,lZ,AK,Z];refine ig ?_
 unfold qB;dsimp only
 by_cases h:In o 1 8
 .have d:o=1\/o=2\/o=3\/o=4\/o=5\/o=6\/o=7\/o=8:=by unfold In at h;omega
  rcases d with rfl|rfl|rfl|rfl|rfl|rfl|rfl|rfl
  all_goals simp [h]
  all_goals grind
 .simp [h]
theorem aDC (p:Pl) (n0:Int) (last:Bool) (g:1<=n0/\n0<=1048576):W fun n=>Ef n p.1 p.2.1 p.2.2.1 p.2.2.2.1 p.2.2.2.2.1 p.2.2.2.2.2 n0 last=ã (bo (jI p n0 (last=å))):=by
 obtain⟨o,c,s,neg,a,b⟩:=p;refine aDz.nm fun n e=> ?_
 have hw:Þ ß (n0-1)=n0-1:=ż
 rw [awH,hw];simp only [e,Z];rw [show (!(last==(o==(8:Int))))=bo (¬((last=å)↔o=8)) by
  by_cases h:o=8
  .subst h;cases last<;>simp [tC,tD]
  .have z:(o==(8:Int))=ä:=by simpa using h
   rw [z];cases last<;>simp [h,tC,tD]]
 cases neg;all_goals (
  have key:(ã ä:Option Bool)=ã (bo False):=by rw [tD]
  have d:(ã å:Option Bool)=ã (bo True):=by rw [tC]
  simp only [bW,eQ,cC,gQ,lZ,AK,kJ,Z];simp only [key,d,AK,Z];refine ig ?_
  unfold jI;dsimp only
  by_cases h:In o 1 8
  .have f:o=1\/o=2\/o=3\/o=4\/o=5\/o=6\/o=7\/o=8:=by unfold In at h;omega
   rcases f with rfl|rfl|rfl|rfl|rfl|rfl|rfl|rfl
   all_goals simp
   all_goals grind
  .have f:o≠1/\o≠2/\o≠3/\o≠4/\o≠5/\o≠6/\o≠7/\o≠8:=by unfold In at h;omega
   simp [f])
def oV (l:List Pl):Prop:=In (à l) 1 400/\ ∀i,i<à l-> ∀h:i<à l,jI l[i] (à l) (i=à l-1)
theorem ZJ {l:List Pl} {i:Nat} (h:i<à l) (b:à l<=1048576):((i:Int)==Þ ß ((à l:Int)-1))=á (i=à l-1):=by
 rw [show Þ ß ((à l:Int)-1)=((à l-1:Nat):Int) by rw [Á];omega]
 by_cases e:i=à l-1
 .rw [hC e,<-e];simp
 .rw [hJ e];simp;omega
theorem ZK (l:List Pl) (f:à l<=1048576):W fun n=>Kn n l=ã (bo (oV l)):=by
 have g:W fun n=> ∀p∈l,CN n p.1 p.2.1 p.2.2.1 p.2.2.2.1 p.2.2.2.2.1 p.2.2.2.2.2 (à l:Int)=ã (bo (qB p (à l))):=W.all l fun p hp=>aDB p (à l) (by have:=List.length_pos_of_mem hp;omega)
 have h:=kK (len:=à l) f (q:=fun i=> ∀h:i<à l,jI l[i] (à l) (i=à l-1)) (r:=false) (b:=(à l:Int)) (L:=fun n m i=>CM n m i (à l:Int) l) (g.mono fun n h m i hi=>by
  have d:(∀h:i<à l,jI l[i] (à l) (i=à l-1))↔jI l[i] (à l) (i=à l-1):=⟨fun k=>k hi,fun k _=>k⟩
  rw [Vr,aU hi,Y,bB hi,Z,h _ (Æ hi),Z,ZJ hi f,propext d,<-propext (aDA l[i] (à l) (i=à l-1)),cC];by_cases a:qB l[i] (à l)
  .rw [aw (P:= ¬qB l[i] (à l)) (fun k=>k a),ez,Z]
   by_cases b:l[i].1=8
   .by_cases c:i=à l-1
    .rw [aA ⟨a,⟨fun _=>c,fun _=>b⟩⟩,hC c,b];rfl
    .rw [aw (fun k=>c (k.2.1 b)),hJ c,b];rfl
   .have z:(l[i].1==(8:Int))=ä:=by simpa using b
    by_cases c:i=à l-1
    .rw [aw (fun k=>b (k.2.2 c)),hC c,z];rfl
    .rw [aA ⟨a,⟨fun k=>absurd k b,fun k=>absurd k c⟩⟩,hJ c,z];rfl
  .rw [aA (P:= ¬qB l[i] (à l)) a,Y,aw (fun k=>a k.1)];rfl) (fun n m=>by rw [Vr,bM];rfl)
 refine(h.and (cD (à l) 1 400)).nm fun n ⟨d,j⟩=> ?_
 rw [apY,d,Z];unfold oV;by_cases a: ∀i,i<à l-> ∀h:i<à l,jI l[i] (à l) (i=à l-1)
 .rw [aA a,Y,cO,j,Z]
  refine ig ⟨fun k=>⟨k,a⟩,fun k=>k.1⟩
 .rw [aw a,ez,wJ,aw (fun k=>a k.2)]
theorem OG (l:List Pl) (f:à l<=1048576):W fun n=>Ed n l=ã (bo (oV l)):=by
 have g:W fun n=> ∀i (hi:i<à l),Ef n l[i].1 l[i].2.1 l[i].2.2.1 l[i].2.2.2.1 l[i].2.2.2.2.1 l[i].2.2.2.2.2 (à l:Int) (á (i=à l-1))=ã (bo (jI l[i] (à l) (i=à l-1))):=W.lt fun i hi=>by
  have:=aDC l[i] (à l) (á (i=à l-1)) ž
  rw [show ((á (i=à l-1))=å)=(i=à l-1) by simp]at this
  exact this
 have h:=kK (len:=à l) f (q:=fun i=> ∀h:i<à l,jI l[i] (à l) (i=à l-1)) (r:=false) (b:=()) (L:=fun n m i=>Ee n m i l l (à l:Int)) (g.mono fun n h m i hi=>by
  have d:(∀h:i<à l,jI l[i] (à l) (i=à l-1))↔jI l[i] (à l) (i=à l-1):=⟨fun k=>k hi,fun k _=>k⟩
  rw [Wy,aU hi,Y,bB hi,Z,ZJ hi f,h i hi,Z,propext d];cases bo (jI l[i] (à l) (i=à l-1))<;>rfl) (fun n m=>by rw [Wy,bM];rfl)
 refine(h.and (cZ (à l) 1 400)).nm fun n ⟨d,j⟩=> ?_
 rw [awG,j,Z];unfold oV;by_cases c:In (à l) 1 400
 .rw [aA c]
  simp only [Ä,ez];rw [d,Z];by_cases a: ∀i,i<à l-> ∀h:i<à l,jI l[i] (à l) (i=à l-1)
  .rw [aA a,Y,cO,aA ⟨c,a⟩]
  .rw [aw a,ez,wJ,aw (fun k=>a k.2)]
 .rw [aw c,aw (fun k=>c k.1)];rfl
theorem OH (n:Nat) (x lo hi:Int):cu (n+1) x lo hi=ã (bo (In x lo hi)):=by
 obtain⟨N,h⟩:=cZ x lo hi;rw [<-h (max N (n+1)) (Ϥ _ _)];obtain⟨q,b⟩: ∃q,max N (n+1)=q+1:=⟨max N (n+1)-1,ž⟩
 rw [b,oL,oL]
theorem uV (M:List Bool) (k i:Nat) (hk:k<M.length):(M.set k å).getD i ä=(á (i=k)||M.getD i ä):=by
 simp only [Ë,List.getElem?_set]
 by_cases h:k=i
 .subst h;simp [hk]
 .rw [if_neg h,hJ (fun e=>h e.symm),Bool.false_or]
theorem aDD {M:List Bool} {k:Nat} (hk:k<M.length) (h:M.getD k ä=ä):(M.set k å).count ä+1=M.count ä:=by
 have e:M[k]=ä:=by rw [<-h,Ë,Ê hk];rfl
 rw [List.count_set hk,e];have:0<M.count ä:=List.count_pos_iff.2 (by rw [<-e];exact Æ hk)
 simp;omega
theorem FK {M:List Bool} {k:Nat} (h:k<M.length):aO M k=ã (M.getD k ä):=by
 show M[k]? =_;rw [Ë,Ê h];rfl
theorem aDE (n m:Nat) (b e:Bool) (l:List Pl) (M:List Bool) (t:List Int) (k:Nat) (z:M.length=à l) (hl:à l<=400) (ht:à t<=3900000) (hk:k<à l) (r:M.getD k ä=ä):
  gG n (m+1) b e l M (t++[(k:Int)])=gG n m b e l (M.set k å) (t++ek l[k] k b e):=by
 have hlen:((t++[(k:Int)]).length:Int)=((à t+1:Nat):Int):=Ż
 have hw:Þ ß (((t++[(k:Int)]).length:Int)-1)=(à t:Int):=by rw [hlen,Á];omega
 have f:aO (t++[(k:Int)]) (Ç (à t:Int))=ã (k:Int):=by rw [Â];exact kW t _ []
 have g:(t++[(k:Int)]).take (Ç (à t:Int))=t:=Ż
 have d:υ (Ç (à t:Int)) (t++[(k:Int)]).length=å:=Ô Ż
 rw [Na,hw,f,g,d,hlen,hC (show (0:Int)<((à t+1:Nat):Int) by omega),hC (show (0:Int)<=(à t:Int)/\(à t:Int)<((à t+1:Nat):Int) by omega),hC (show (0:Int)<=(à t:Int)/\(à t:Int)<=((à t+1:Nat):Int) by omega),aX (show à t+1<=4000000 by omega),aX (show à t+2<=4000000 by omega),Y,Y,Z]
 simp only [Y];rw [hJ (show ¬(à l:Int)<=(k:Int) by omega),hJ (show ¬(k:Int)<0 by omega),hC (show (0:Int)<=(k:Int)/\(k:Int)<(M.length:Int) by omega),Â,FK (show k<M.length by omega),r,bB hk,du hk ž]
 simp only [Y,ez,Z];generalize l[k]=p
 unfold ek;by_cases h:p.1=6
 .rw [h,if_pos rfl];rfl
 have s:(p.1==(6:Int))=ä:=Ű
 rw [s,ez,if_neg h];by_cases i:p.1=7
 .rw [i,if_pos rfl];rfl
 have u:(p.1==(7:Int))=ä:=ü
 rw [u,ez,if_neg i];by_cases j:p.1=4
 .rw [j,if_pos rfl]
  cases b
  .rw [show t++cond ä [(k:Int)+1] []=t from Ð t];rfl
  .rfl
 have z4:(p.1==(4:Int))=ä:=ð
 rw [z4,ez,if_neg j];by_cases q:p.1=5
 .rw [q,if_pos rfl]
  cases e
  .rw [show t++cond ä [(k:Int)+1] []=t from Ð t];rfl
  .rfl
 have z5:(p.1==(5:Int))=ä:=by simpa using q
 rw [z5,ez,if_neg q,Ð]
theorem aDF (n m:Nat) (b e:Bool) (l:List Pl) (M:List Bool) (t:List Int) (x:Int) (p:M.length=à l) (_:à l<=400) (r:à t<=3900000) (j: ∀k:Nat,x=(k:Int)->k<à l->M.getD k ä=å):
  gG n (m+1) b e l M (t++[x])=gG n m b e l M t:=by
 have hlen:((t++[x]).length:Int)=((à t+1:Nat):Int):=Ż
 have hw:Þ ß (((t++[x]).length:Int)-1)=(à t:Int):=by rw [hlen,Á];omega
 have f:aO (t++[x]) (Ç (à t:Int))=ã x:=by rw [Â];exact kW t x []
 have g:(t++[x]).take (Ç (à t:Int))=t:=Ż
 have d:υ (Ç (à t:Int)) (t++[x]).length=å:=Ô Ż
 rw [Na,hw,f,g,d,hlen,hC (show (0:Int)<((à t+1:Nat):Int) by omega),hC (show (0:Int)<=(à t:Int)/\(à t:Int)<((à t+1:Nat):Int) by omega),hC (show (0:Int)<=(à t:Int)/\(à t:Int)<=((à t+1:Nat):Int) by omega),Y,Y,Z]
 simp only [Y];by_cases h:(à l:Int)<=x
 .rw [hC h,Y]
 rw [hJ h,ez];by_cases i:x<0
 .rw [hC i,Y]
 rw [hJ i,ez];obtain⟨k,rfl⟩: ∃k:Nat,x=(k:Int):=⟨x.toNat,ž⟩
 have hk:k<à l:=ž
 rw [hC (show (0:Int)<=(k:Int)/\(k:Int)<(M.length:Int) by omega),Â,FK (show k<M.length by omega),j k rfl hk]
 rfl
theorem aDG (n m:Nat) (b e:Bool) (l:List Pl) (M:List Bool):gG n (m+1) b e l M []=ã (.inl M):=by
 rw [Na];rfl
theorem aDH {l:List Pl} {b e:Bool} (hl:à l<=400) {R:Nat->Prop} (hR: ∀k,(h:k<à l)->R k-> ∀j:Nat,(j:Int)∈ek l[k] k b e->j<à l->R j):
  ∀(f:Nat) (M:List Bool) (t:List Int),M.length=à l->à t+3*M.count ä<=f->f<=1000000->
  (∀i,i<à l->M.getD i ä=å->R i)->(∀j:Nat,(j:Int)∈t->j<à l->R j)->
  (∀k,(h:k<à l)->M.getD k ä=å-> ∀j:Nat,(j:Int)∈ek l[k] k b e->j<à l->M.getD j ä=å\/(j:Int)∈t)->
  ∃d,(∀n m,f<m->gG n m b e l M t=ã (.inl d))/\à d=à l/\(∀i,i<à l->M.getD i ä=å->d.getD i ä=å)/\(∀j:Nat,(j:Int)∈t->j<à l->d.getD j ä=å)/\
   (∀i,i<à l->d.getD i ä=å->R i)/\(∀k,(h:k<à l)->d.getD k ä=å-> ∀j:Nat,(j:Int)∈ek l[k] k b e->j<à l->d.getD j ä=å):=by
 intro f;have stop: ∀(f:Nat) (M:List Bool),M.length=à l->(∀i,i<à l->M.getD i ä=å->R i)->(∀k,(h:k<à l)->M.getD k ä=å-> ∀j:Nat,(j:Int)∈ek l[k] k b e->j<à l->M.getD j ä=å\/(j:Int)∈([]:List Int))->
  ∃d,(∀n m,f<m->gG n m b e l M []=ã (.inl d))/\à d=à l/\(∀i,i<à l->M.getD i ä=å->d.getD i ä=å)/\(∀j:Nat,(j:Int)∈([]:List Int)->j<à l->d.getD j ä=å)/\
   (∀i,i<à l->d.getD i ä=å->R i)/\(∀k,(h:k<à l)->d.getD k ä=å-> ∀j:Nat,(j:Int)∈ek l[k] k b e->j<à l->d.getD j ä=å):=fun f M g p r=>by
  refine⟨M,fun n m hm=> ?_,g,fun i _ h=>h,fun j h=>ņ,p,fun k h hk j hj ca=> ?_⟩
  .obtain⟨m,rfl⟩: ∃q,m=q+1:=⟨m-1,ž⟩
   exact aDG _ _ _ _ _ _
  .rcases r k h hk j hj ca with h|h
   .exact h
   .cases h
 induction f with
 |zero=>
  intro M t g hf _ p z r;have:t=[]:=ζ ž
  subst this;exact stop 0 M g p r
 |succ f ih=>
  intro M t g hf ar p z r;rcases ό t with rfl|⟨t,x,rfl⟩
  .exact stop (f+1) M g p r
  rw [ύ]at*;simp only [À,Θ]at hf;by_cases h: ∃k:Nat,x=(k:Int)/\k<à l/\M.getD k ä=ä
  .obtain⟨k,rfl,hk,hg⟩:=h
   have hu:=aDD (M:=M) (k:=k) ž hg
   have hn:=aiZ l[k] k b e;have s:R k:=z k Ż hk
   obtain⟨d,e1,e2,u,e4,e5,e6⟩:=ih (M.set k å) (t++ek l[k] k b e) (by simp [g]) ű ž
    (fun i hi hm=>by
     rw [uV M k i ž]at hm
     rcases ν.1 hm with h|h
     .rw [of_decide_eq_true h];exact s
     .exact p i hi h)
    (fun j hj ca=>by
     rcases Ï.1 hj with hj|hj
     .exact z j (by simp [hj]) ca
     .exact hR k hk s j hj ca)
    (fun q hq hm j hj ca=>by
     rw [uV M k q ž]at hm
     rw [uV M k j ž]
     rcases ν.1 hm with h|h
     .have:=of_decide_eq_true h
      subst this;exact .inr (List.mem_append_right _ hj)
     .rcases r q hq h j hj ca with h|h
      .rw [h];simp
      .rcases Ï.1 h with h|h
       .exact .inr (Õ _ h)
       .left
        have:j=k:=by have:=É.1 h;omega
        rw [hC this];rfl)
   refine⟨d,fun n m hm=> ?_,e2,fun i hi hm=>u i hi (by rw [uV M k i ž,hm];simp),fun j hj ca=> ?_,e5,e6⟩
   .obtain⟨m,rfl⟩: ∃q,m=q+1:=⟨m-1,ž⟩
    rw [aDE n m b e l M t k g hl ž hk hg]
    exact e1 n m ž
   rcases Ï.1 hj with hj|hj
   .exact e4 j (Õ _ hj) ca
   .have:j=k:=by have:=É.1 hj;omega
    subst this;exact u j ca (by rw [uV M j j ž];simp)
  .have hx: ∀j:Nat,x=(j:Int)->j<à l->M.getD j ä=å:=fun j hj ca=>by
    cases e:M.getD j ä
    .exact absurd ⟨j,hj,ca,e⟩ h
    .rfl
   obtain⟨d,e1,e2,u,e4,e5,e6⟩:=ih M t g ž ž p (fun j hj ca=>z j (Õ _ hj) ca) (fun q hq hm j hj ca=>by
    rcases r q hq hm j hj ca with h|h
    .exact .inl h
    .rcases Ï.1 h with h|h
     .exact .inr h
     .exact .inl (hx j (É.1 h).symm ca))
   refine⟨d,fun n m hm=> ?_,e2,u,fun j hj ca=> ?_,e5,e6⟩
   .obtain⟨m,rfl⟩: ∃q,m=q+1:=⟨m-1,ž⟩
    rw [aDF n m b e l M t x g hl ž hx]
    exact e1 n m ž
   rcases Ï.1 hj with hj|hj
   .exact e4 j hj ca
   .exact u j ca (hx j (É.1 hj).symm ca)
def Mk (l:List Pl) (b e:Bool) (at0:List Int) (M:List Bool):Prop:=
 M.length=à l/\(∀i,i<à l->M.getD i ä=å->me l at0 b e i)/\(∀k,(h:k<à l)->M.getD k ä=å-> ∀j:Nat,(j:Int)∈ek l[k] k b e->j<à l->M.getD j ä=å)
theorem aDI {l:List Pl} {b e:Bool} {at0:List Int} (g:à l<=400) {M:List Bool} (f:Mk l b e at0 M) {x:Int} (m:x∈at0): ∃d,Mk l b e at0 d/\(∀i,i<à l->M.getD i ä=å->d.getD i ä=å)/\(∀j:Nat,x=(j:Int)->j<à l->d.getD j ä=å)/\
  ∀n,2000<=n->Ko n l M x b e=ã d:=by
 have p:M.count ä<=M.length:=List.count_le_length;have r:=f.1;obtain⟨d,s,t,u,z,e5,e6⟩:=aDH (l:=l) (b:=b) (e:=e) g (R:=me l at0 b e) (fun k h hk j hj ca=>.step hk h hj ca) 1201 M [x] f.1 (by simp only [Θ];omega) ž f.2.1
  (fun j hj ca=>.base (by rw [É.1 hj];exact m) ca) (fun k h hk j hj ca=>.inl (f.2.2 k h hk j hj ca))
 refine⟨d,⟨t,e5,e6⟩,u,fun j hj ca=>z j (by rw [hj];simp) ca,fun n hn=> ?_⟩
 obtain⟨n,rfl⟩: ∃q,n=q+1:=⟨n-1,ž⟩
 rw [aqB,s n n ž];rfl
theorem ZL {l:List Pl} {b e:Bool} {at0:List Int} (k:à l<=400) (s:à at0<=1048576): ∀(r:List Int) (i:Nat) (M:List Bool),at0.drop i=r->Mk l b e at0 M->(∀j:Nat,(j:Int)∈at0.take i->j<à l->M.getD j ä=å)->
  ∃d,Mk l b e at0 d/\(∀j:Nat,(j:Int)∈at0->j<à l->d.getD j ä=å)/\ ∀n m,2000<=n->à r<m->CO n m (i:Int) e b at0 M l=ã (.inl d)
 | [],i,M,hd,f,g=>by
  have t:à at0<=i:=Ι.1 hd;rw [Ú t]at g;refine⟨M,f,g,fun n m _ hm=> ?_⟩
  obtain⟨m,rfl⟩: ∃q,m=q+1:=⟨m-1,Ų⟩
  rw [Vs,hJ ž,ez]
 |x::r,i,M,hd,f,g=>by
  have hi:i<à at0:=by
   by_cases c:i<à at0
   .exact c
   .rw [Ó ž]at hd;cases hd
  rw [Ì hi]at hd;obtain⟨h,u⟩:=χ hd;obtain⟨z,c1,c2,c3,c4⟩:=aDI k f (x:=x) (by rw [<-h];exact Æ hi)
  obtain⟨d,d1,d2,d3⟩:=ZL k s r (i+1) z u c1 (fun j hj ca=>by
   rw [HH hi,Ï]at hj;rcases hj with hj|hj
   .exact c2 j ca (g j hj ca)
   .exact c3 j (by rw [É.1 hj,h]) ca)
  refine⟨d,d1,d2,fun n m p hm=> ?_⟩
  obtain⟨m,rfl⟩: ∃q,m=q+1:=⟨m-1,Ų⟩
  rw [Vs,aU hi,Y,bB hi,Z,h,c4 n p,Z,c1.1,f.1,ϫ,Y,du hi ž]
  exact d3 n m p Ş
theorem OI (n:Nat) (M:List Bool) (g:M.length<=1048576): ∀k m (i:Nat) (out:List Int),M.length-i=k->k<m->i<=M.length->out=((ϋ i).filter fun j=>M.getD j ä).map ϟ->
  xS n m (i:Int) out M=ã (.inl (((ϋ M.length).filter fun j=>M.getD j ä).map ϟ))
 |k,0,i,out,e,hm,hi,d=>ž
 |k,m+1,i,out,e,hm,hi,d=>by
  rw [aqD];by_cases h:i<M.length
  .have p:à out<=i:=by
    rw [d,List.length_map];have:=List.length_filter_le (fun j=>M.getD j ä) (ϋ i)
    rwa [List.length_range]at this
   have q:M[i]=M.getD i ä:=ř
   rw [aU h,Y,bB h,Z,q,du h ž,aX ž]
   have f:((ϋ (i+1)).filter fun j=>M.getD j ä).map ϟ=out++cond (M.getD i ä) [(i:Int)] []:=by
    rw [List.range_succ,List.filter_append,List.map_append,<-d];cases b:M.getD i ä
    .simp only [Ϡ,ϥ,b];simp
    .simp only [Ϡ,ϥ,b];simp
   cases b:M.getD i ä
   .rw [b,ez,Ð]at f
    rw [ez];exact OI n M g _ m (i+1) out rfl ž ž f.symm
   .rw [b,Y]at f
    rw [Y,Y];exact OI n M g _ m (i+1) _ rfl ž ž f.symm
  .have:i=M.length:=by omega
   rw [hJ ž,ez,d,this]
theorem ZM (l:List Pl) (at0:List Int) (b e:Bool) (g:à l<=400) (m:à at0<=1048576):W fun n=>uc n l at0 b e=ã (fZ l at0 b e):=by
 have p:Mk l b e at0 (Í (à l) ä):=by
  have f: ∀i,(Í (à l) ä).getD i ä=ä:=fun i=>by
   rw [Ë,ω];split<;>rfl
  refine⟨ώ,fun i hi h=> ?_,fun k h hk=> ?_⟩
  .rw [f]at h;cases h
  .rw [f]at hk;cases hk
 obtain⟨M,d1,d2,d3⟩:=ZL (b:=b) (e:=e) g m at0 0 (Í (à l) ä) ţ p (fun j hj=>by simp at hj)
 have d:=d1.1;refine(W.ge (à at0+3000)).nm fun n r=> ?_
 obtain⟨n,rfl⟩: ∃q,n=q+1:=⟨n-1,ž⟩
 rw [aqA,Â,hC (show (0:Int)<=(à l:Int)/\(à l:Int)<=(à l:Int)/\(à l:Int)<=(big:Int) by unfold big;omega),Y,show(0:Int)=((0:Nat):Int)from rfl,d3 (n+1) (n+1) ž ž,Z,cO]
 rw [aqC,show(0:Int)=((0:Nat):Int)from rfl,OI n M ž _ n 0 [] rfl ž ž Ż,Z,cO,Z]
 congr 1
 unfold fZ;congr 1
 rw [d];refine List.filter_congr fun i hi=> ?_
 have hi:=ϧ.1 hi;have hm:=Tb (l:=l) (at0:=at0) (b:=b) (e:=e) (M:=fun i=>M.getD i ä=å) d1.2.1 d2 d1.2.2 hi
 rw [<-propext hm,<-oi]
def IV (l:List Pl) (R:Nat->Prop) (M:List Bool) (out:List Int):Prop:=
 M.length=à l/\(∀k,k<à l->(M.getD k ä=å↔(k:Int)∈out))/\out.Nodup/\ ∀x∈out,∃k:Nat,x=(k:Int)/\k<à l/\R k
theorem FL {l:List Pl} {R:Nat->Prop} {M:List Bool} {out:List Int} (h:IV l R M out):à out<=à l:=by
 have:=List.Nodup.length_le_of_subset (l₂:=(ϋ (à l)).map ϟ) h.2.2.1 (fun x b=>by
  obtain⟨k,rfl,hk, -⟩:=h.2.2.2 x b;exact List.mem_map.2 ⟨k,ϧ.2 hk,rfl⟩)
 simpa using this
theorem FM {l:List Pl} (b:à l<=400) (d:0<à l):Þ ß ((à l:Int)-1)=((à l-1:Nat):Int):=ż
theorem FN {l:List Pl} {R:Nat->Prop} (u:à l<=400) {M:List Bool} {out:List Int} (h:IV l R M out) (x:Int) (hx: ∀k:Nat,x=(k:Int)->k<à l->R k):
  ∃z d,IV l R z d/\(∃s,d=out++s)/\(∀k:Nat,x=(k:Int)->k<à l->(k:Int)∈d)/\ ∀n,jZ (n+2) l M out x=ã (l,z,d):=by
 have hlen:=FL h;obtain⟨p,g,q,r⟩:=h;by_cases c: ∃k:Nat,x=(k:Int)/\k<à l
 .obtain⟨k,rfl,hk⟩:=c
  have f:In (k:Int) 0 (Þ ß ((à l:Int)-1)):=by rw [FM u ž];unfold In;omega
  have hd:á ((0:Int)<=(k:Int)/\(k:Int)<(M.length:Int))=å:=hC ž
  cases m:M.getD k ä
  .have t:(k:Int)∉out:=fun hm=>by
    have:=(g k hk).2 hm;rw [m]at this;cases this
   refine⟨M.set k å,out++[(k:Int)],⟨by simp [p],fun i hi=> ?_, ?_,fun y hy=> ?_⟩,⟨[(k:Int)],rfl⟩,fun j hj _=>by rw [<-hj];simp,fun n=> ?_⟩
   .rw [uV M k i ž,Ï,É,ν,g i hi,decide_eq_true_eq]
    constructor
    .rintro(h|h)
     .exact .inr ž
     .exact .inl h
    .rintro(h|h)
     .exact .inr h
     .exact .inl ž
   .rw [List.nodup_append]
    exact⟨q,Ż,fun a ha b hb=>by rw [É.1 hb];rintro rfl;exact t ha⟩
   .rcases Ï.1 hy with hy|hy
    .exact r y hy
    .exact⟨k,É.1 hy,hk,hx k rfl hk⟩
   .rw [Nq,OH,aA f,Z,Y,hd,Y,Â,FK ž,m]
    simp only [Z,Ü,Y];rw [aX ž];rfl
  .refine⟨M,out,⟨p,g,q,r⟩,⟨[],Ż⟩,fun j hj ca=>(g j ca).1 (by rw [show j=k by omega];exact m),fun n=> ?_⟩
   rw [Nq,OH,aA f,Z,Y,hd,Y,Â,FK ž,m];rfl
 .have f: ¬In x 0 (Þ ß ((à l:Int)-1)):=fun k=>by
   have k1:=k.1;have k2:=k.2;by_cases h0:0<à l
   .rw [FM u h0]at k2
    exact c ⟨x.toNat,ž,ž⟩
   .have e0:à l=0:=by omega
    rw [e0,Á]at k2;omega
  refine⟨M,out,⟨p,g,q,r⟩,⟨[],Ż⟩,fun j hj ca=>absurd ⟨j,hj,ca⟩ c,fun n=> ?_⟩
  rw [Nq,OH,aw f];rfl
theorem ZN {l:List Pl} {R:Nat->Prop} {b e:Bool} {at0:List Int} (z:à l<=400) (ha:à at0<=1048576) (hR: ∀k:Nat,(k:Int)∈at0->k<à l->R k): ∀(r:List Int) (i:Nat) (M:List Bool) (out:List Int),at0.drop i=r->IV l R M out->(∀j:Nat,(j:Int)∈at0.take i->j<à l->(j:Int)∈out)->
  ∃g d,IV l R g d/\(∀j:Nat,(j:Int)∈at0->j<à l->(j:Int)∈d)/\ ∀n m,2<=n->à r<m->Ei n m l M out (i:Int) at0 b e (à at0:Int)=ã (.inl (l,g,d,b,e))
 | [],i,M,out,hd,p,h=>by
  have h1:à at0<=i:=Ι.1 hd;rw [Ú h1]at h;refine⟨M,out,p,h,fun n m _ hm=> ?_⟩
  obtain⟨m,rfl⟩: ∃q,m=q+1:=⟨m-1,Ų⟩
  rw [WB,hJ ž,ez]
 |x::r,i,M,out,hd,p,h=>by
  have hi:i<à at0:=by
   by_cases c:i<à at0
   .exact c
   .rw [Ó ž]at hd;cases hd
  rw [Ì hi]at hd;obtain⟨t,hr⟩:=χ hd;obtain⟨M1,f,c1,⟨s,c2⟩,c3,c4⟩:=FN z p x (fun k hk u=>hR k (by rw [<-hk,<-t];exact Æ hi) u)
  obtain⟨g,d,d1,d2,d3⟩:=ZN (b:=b) (e:=e) z ha hR r (i+1) M1 f hr c1 (fun j hj ca=>by
   rw [HH hi,Ï]at hj;rcases hj with hj|hj
   .rw [c2];exact Õ _ (h j hj ca)
   .exact c3 j (by rw [É.1 hj,t]) ca)
  refine⟨g,d,d1,d2,fun n m hn hm=> ?_⟩
  obtain⟨m,rfl⟩: ∃q,m=q+1:=⟨m-1,Ų⟩
  obtain⟨n,rfl⟩: ∃q,n=q+2:=⟨n-2,ž⟩
  rw [WB,aU hi,Y,bB hi,Z,t,c4 n,Z,du hi ž]
  exact d3 (n+2) m hn Ş
theorem aDJ {l:List Pl} {R:Nat->Prop} {b e:Bool} (hl:à l<=400) (hR: ∀k,(h:k<à l)->R k-> ∀j:Nat,(j:Int)∈ek l[k] k b e->j<à l->R j) {M:List Bool} {out:List Int} (h:IV l R M out) {i q:Nat} (hi:i<à out) (hq:out[i]=(q:Int)) (ad:q<à l):
  ∃p d,IV l R p d/\(∃s,d=out++s)/\(∀j:Nat,(j:Int)∈ek l[q] q b e->j<à l->(j:Int)∈d)/\ ∀n m,2<=n->eu n (m+1) l M out (i:Int) b e=eu n m l p d ((i+1:Nat):Int) b e:=by
 have hlen:=FL h;have ai:R q:=by
  obtain⟨k,e1,e2,e3⟩:=h.2.2.2 out[i] (Æ hi);have:k=q:=ž
  rw [<-this];exact e3
 have hn:=hR q ad ai;have head: ∀n m,eu n (m+1) l M out (i:Int) b e=cond (l[q].1==(6:Int)) ((jZ n l M out l[q].2.2.2.2.1).bind fun f=>eu n m f.1 f.2.1 f.2.2 ((i+1:Nat):Int) b e) (cond (l[q].1==(7:Int)) ((jZ n l M out l[q].2.2.2.2.1).bind fun f=>(jZ n f.1 f.2.1 f.2.2 l[q].2.2.2.2.2).bind fun y3=>eu n m y3.1 y3.2.1 y3.2.2 ((i+1:Nat):Int) b e) (cond (l[q].1==(4:Int)) (cond b ((jZ n l M out ((q+1:Nat):Int)).bind fun f=>eu n m f.1 f.2.1 f.2.2 ((i+1:Nat):Int) b e) (eu n m l M out ((i+1:Nat):Int) b e)) (cond (l[q].1==(5:Int)) (cond e ((jZ n l M out ((q+1:Nat):Int)).bind fun f=>eu n m f.1 f.2.1 f.2.2 ((i+1:Nat):Int) b e) (eu n m l M out ((i+1:Nat):Int) b e)) (eu n m l M out ((i+1:Nat):Int) b e)))):=fun n m=>by
  rw [WC,aU hi,Y,hC (show (0:Int)<=(i:Int)/\(i:Int)<(à out:Int) by omega),Y,ie hi,Z,hq,bB ad,Z,du ad ž,du hi ž]
 have â:ek l[q] q b e=[]->(∀n m,2<=n->eu n (m+1) l M out (i:Int) b e=eu n m l M out ((i+1:Nat):Int) b e)-> ∃p d,IV l R p d/\(∃s,d=out++s)/\(∀j:Nat,(j:Int)∈ek l[q] q b e->j<à l->(j:Int)∈d)/\ ∀n m,2<=n->eu n (m+1) l M out (i:Int) b e=eu n m l p d ((i+1:Nat):Int) b e:=
  fun r k=>⟨M,out,h,⟨[],Ż⟩,fun j hj=>(by rw [r]at hj;cases hj),k⟩
 have one: ∀x:Int,ek l[q] q b e=[x]->(∀n m,2<=n->eu n (m+1) l M out (i:Int) b e=(jZ n l M out x).bind fun f=>eu n m f.1 f.2.1 f.2.2 ((i+1:Nat):Int) b e)-> ∃p d,IV l R p d/\(∃s,d=out++s)/\(∀j:Nat,(j:Int)∈ek l[q] q b e->j<à l->(j:Int)∈d)/\ ∀n m,2<=n->eu n (m+1) l M out (i:Int) b e=eu n m l p d ((i+1:Nat):Int) b e:=fun x r k=>by
  obtain⟨M1,t,c1,c2,c3,c4⟩:=FN hl h x (fun j hj ca=>hn j (by rw [r,hj];simp) ca)
  refine⟨M1,t,c1,c2,fun j hj ca=>c3 j (by rw [r]at hj;exact(É.1 hj).symm) ca,fun n m hn=> ?_⟩
  obtain⟨n,rfl⟩: ∃q,n=q+2:=⟨n-2,ž⟩
  rw [k (n+2) m hn,c4 n];rfl
 by_cases g:l[q].1=6
 .refine one l[q].2.2.2.2.1 (by rw [ek,if_pos g]) fun n m _=> ?_
  rw [head,g];rfl
 have z6:(l[q].1==(6:Int))=ä:=ŋ
 by_cases u:l[q].1=7
 .have r:ek l[q] q b e=[l[q].2.2.2.2.1,l[q].2.2.2.2.2]:=by rw [ek,if_neg g,if_pos u]
  obtain⟨M1,t,c1,⟨s1,c2⟩,c3,c4⟩:=FN hl h l[q].2.2.2.2.1 (fun j hj ca=>hn j (by rw [r,hj];simp) ca)
  obtain⟨M2,ag,d1,⟨s2,d2⟩,d3,d4⟩:=FN hl c1 l[q].2.2.2.2.2 (fun j hj ca=>hn j (by rw [r,hj];simp) ca)
  refine⟨M2,ag,d1,⟨s1++s2,by rw [d2,c2,Å]⟩,fun j hj ca=> ?_,fun n m hn=> ?_⟩
  .rw [r]at hj
   rcases Û.1 hj with hj|hj
   .rw [d2];exact Õ _ (c3 j hj.symm ca)
   .exact d3 j (É.1 hj).symm ca
  .obtain⟨n,rfl⟩: ∃q,n=q+2:=⟨n-2,ž⟩
   rw [head,u,c4 n];simp only [Z];rw [d4 n];rfl
 have z7:(l[q].1==(7:Int))=ä:=by simpa using u
 by_cases z:l[q].1=4
 .cases b
  .refine â ë fun n m _=> ?_
   rw [head,z];rfl
  .refine one _ ë fun n m _=> ?_
   rw [head,z];rfl
 have z4:(l[q].1==(4:Int))=ä:=by simpa using z
 by_cases o5:l[q].1=5
 .cases e
  .refine â Ĕ fun n m _=> ?_
   rw [head,o5];rfl
  .refine one _ Ĕ fun n m _=> ?_
   rw [head,o5];rfl
 have z5:(l[q].1==(5:Int))=ä:=by simpa using o5
 refine â (by rw [ek,if_neg g,if_neg u,if_neg z,if_neg o5]) fun n m _=> ?_
 rw [head,z6,z7,z4,z5];rfl
def FO (l:List Pl) (b e:Bool) (out:List Int) (k:Nat):Prop:= ∀i,i<k->(h:i<à out)-> ∀q:Nat,out[i]=(q:Int)->(d:q<à l)-> ∀j:Nat,(j:Int)∈ek l[q] q b e->j<à l->(j:Int)∈out
theorem aDK {l:List Pl} {R:Nat->Prop} {b e:Bool} (hl:à l<=400) (hR: ∀k,(h:k<à l)->R k-> ∀j:Nat,(j:Int)∈ek l[k] k b e->j<à l->R j): ∀(f k:Nat) (M:List Bool) (out:List Int),IV l R M out->FO l b e out k->à l-k<=f->
  ∃t d,IV l R t d/\(∃s,d=out++s)/\FO l b e d (à d)/\ ∀n m,2<=n->f<m->eu n m l M out (k:Int) b e=ã (.inl d):=by
 intro f;have stop: ∀(f k:Nat) (M:List Bool) (out:List Int),IV l R M out->FO l b e out k->à out<=k-> ∃t d,IV l R t d/\(∃s,d=out++s)/\FO l b e d (à d)/\ ∀n m,2<=n->f<m->eu n m l M out (k:Int) b e=ã (.inl d):=fun f k M out h hd hk=>by
  refine⟨M,out,h,⟨[],Ż⟩,fun i hi=>hd i ž,fun n m _ hm=> ?_⟩
  obtain⟨m,rfl⟩: ∃q,m=q+1:=⟨m-1,ž⟩
  rw [WC,hJ ž,ez]
 induction f with
 |zero=>
  intro k M out h hd hf;exact stop 0 k M out h hd (by have:=FL h;omega)
 |succ f ih=>
  intro k M out h hd hf;by_cases hk:k<à out
  .obtain⟨q,hq,ae, -⟩:=h.2.2.2 out[k] (Æ hk)
   obtain⟨M1,g,c1,⟨s,c2⟩,c3,c4⟩:=aDJ (b:=b) (e:=e) hl hR h hk hq ae;have av:à out<=à g:=by rw [c2];simp
   have p: ∀i,(h1:i<à out)->g[i]'(by omega)=out[i]:=fun i h1=>by subst c2;exact List.getElem_append_left h1
   obtain⟨t,d,d1,⟨s',d2⟩,d3,d4⟩:=ih (k+1) M1 g c1 (fun i hi h1 q' r u j hj ca=>by
    by_cases ag:i=k
    .subst ag
     rw [p i hk]at r;have:q'=q:=ž
     subst this;exact c3 j hj ca
    .have z:i<à out:=by omega
     rw [p i z]at r;rw [c2];exact Õ _ (hd i ž z q' r u j hj ca)) ž
   refine⟨t,d,d1,⟨s++s',by rw [d2,c2,Å]⟩,d3,fun n m hn hm=> ?_⟩
   obtain⟨m,rfl⟩: ∃q,m=q+1:=⟨m-1,ž⟩
   rw [c4 n m hn];exact d4 n m hn ž
  .exact stop (f+1) k M out h hd ž
theorem aDL (n:Nat) (x:ag):Ur (n+1) x=cond (υ (Ζ (α:=Int) x) big) (ã (kH x)) â:=Ž
theorem aDM (l:List Pl) (at0:List Int) (b e:Bool) (z:à l<=400) (ha:à at0<=1048576):W fun n=>Eh n l at0 b e=ã (fZ l at0 b e):=by
 have h0:IV l (me l at0 b e) (Í (à l) ä) []:=by
  have hg: ∀i,(Í (à l) ä).getD i ä=ä:=fun i=>by
   rw [Ë,ω];split<;>rfl
  refine⟨ώ,fun i hi=> ?_,List.nodup_nil,fun x h=>ņ⟩
  rw [hg];simp
 obtain⟨M1,g,c1,c2,c3⟩:=ZN (b:=b) (e:=e) z ha (fun k hk r=>.base hk r) at0 0 (Í (à l) ä) [] ţ h0 (fun j hj=>by simp at hj)
 obtain⟨M2,d,d1,⟨s,d2⟩,d3,d4⟩:=aDK (b:=b) (e:=e) z (fun k h hk j hj ca=>.step hk h hj ca) (à l) 0 M1 g c1 (fun i hi=>absurd hi (Ϧ _)) ž
 have f:kH d=fZ l at0 b e:=by
  refine ajB d1.2.2.1 fun x=> ?_
  rw [Ta];have hm:=fun(i:Nat) (hi:i<à l)=>Tb (l:=l) (at0:=at0) (b:=b) (e:=e) (M:=fun i=>(i:Int)∈d) (fun i hi hm=>by
   obtain⟨k,e1,p,m⟩:=d1.2.2.2 _ hm;have:i=k:=ž
   rw [this];exact m) (fun i hi t=>by rw [d2];exact Õ _ (c2 i hi t)) (fun k h hk j hj ca=>by
    obtain⟨i,hi,u⟩:=η.1 hk;exact d3 i hi hi k u h j hj ca) hi
  constructor
  .intro hx
   obtain⟨k,rfl,p,m⟩:=d1.2.2.2 x hx;exact⟨k,rfl,p,m⟩
  .rintro⟨i,rfl,p,m⟩
   exact(hm i p).2 m
 have ak:=FL d1;refine(W.ge (à at0+à l+10)).nm fun n hn=> ?_
 obtain⟨n,rfl⟩: ∃q,n=q+2:=⟨n-2,ž⟩
 rw [awJ,Â,hC (show (0:Int)<=(à l:Int)/\(à l:Int)<=(à l:Int)/\(à l:Int)<=(big:Int) by unfold big;omega),Y,show(0:Int)=((0:Nat):Int)from rfl,c3 (n+2) (n+2) ž ž,Z,cO]
 dsimp only
 rw [d4 (n+2) (n+2) ž ž,Z,cO,aDL,Ô Ũ,Y,Z]
 have hlen:(kH d).length=à d:=List.length_mergeSort _;rw [hlen,ϫ,Y,f]
def qC (p:Pl) (c:UInt8):Bool:=cond (p.1==1) ((c.toNat:Int)==p.2.1) (cond (p.1==2) å (cond (p.1==3) (!(á (c∈p.2.2.1)==p.2.2.2.1)) ä))
theorem aDN (a c:UInt8):((a.toNat:Int)==(c.toNat:Int))=á (a=c):=by
 by_cases h:a=c
 .subst h;simp
 .rw [hJ h]
  have: ¬(a.toNat:Int)=(c.toNat:Int):=fun e=>h (κ.1 ž)
  simpa using this
theorem ZO (c:UInt8) (s:O) (d:à s<=1048576) (n:Nat): ∀k m (i:Nat),à s-i=k->k<m->i<=à s->CP n m (i:Int) c s=ã (cond (á (c∈s.drop i)) (.inr å) (.inl ()))
 |k,0,i,e,hm,hi=>ž
 |k,m+1,i,e,hm,hi=>by
  rw [aqG,dR];by_cases h:i<à s
  .rw [aU h,Y,dy h,Z,aDN,du h ž,Ì h]
   by_cases b:s[i]=c
   .rw [hC b,Y,hC (show c∈s[i]::s.drop (i+1) by rw [b];simp)];rfl
   .rw [hJ b,ez,ZO c s d n _ m (i+1) rfl ž ž]
    congr 2
    have:(c∈s[i]::s.drop (i+1))↔c∈s.drop (i+1):=by
     rw [Û];exact⟨fun k=>k.resolve_left (fun k=>b k.symm),.inr⟩
    simp only [this]
  .rw [hJ ž,ez,Ó ž];rfl
theorem aDO (s:O) (b:à s<=256) (n:Nat) (d:300<=n) (c:UInt8):Kq n s c=ã (á (c∈s)):=by
 obtain⟨n,rfl⟩: ∃q,n=q+1:=⟨n-1,ž⟩
 rw [aqF,dR,show(0:Int)=((0:Nat):Int)from rfl,ZO c s ž n _ n 0 rfl ž ž,Ø]
 by_cases h:c∈s
 .rw [hC h];rfl
 .rw [hJ h];rfl
theorem ZP (c:UInt8):Þ ß (c.toNat:Int)=(c.toNat:Int):=ò
theorem aDP (p:Pl) (hp:à p.2.2.1<=256) (n:Nat) (b:301<=n) (c:UInt8):Kp n p.1 p.2.1 p.2.2.1 p.2.2.2.1 p.2.2.2.2.1 p.2.2.2.2.2 c=ã (qC p c):=by
 obtain⟨n,rfl⟩: ∃q,n=q+1:=⟨n-1,ž⟩
 rw [aqE,dR,aDO _ hp n ž,ZP,qC]
 cases p.1==(1:Int)
 .cases p.1==(2:Int)
  .cases p.1==(3:Int)<;>rfl
  .rfl
 .rfl
theorem aDQ (n:Nat) (s:O) (c:UInt8):um (n+1) s c=ã (Lib.indexByte s c):=Ž
theorem aDR (p:Pl) (n:Nat) (b:301<=n) (c:UInt8):LR n p.1 p.2.1 p.2.2.1 p.2.2.2.1 p.2.2.2.2.1 p.2.2.2.2.2 c=ã (qC p c):=by
 obtain⟨n,rfl⟩: ∃q,n=q+2:=⟨n-2,ž⟩
 have e:á ((0:Int)<=Lib.indexByte p.2.2.1 c)=á (c∈p.2.2.1):=by
  by_cases h:c∈p.2.2.1
  .rw [hC h,hC ((uM _ _).2.2 h)]
  .rw [hJ h,hJ (fun k=>h ((uM _ _).2.1 k))]
 rw [awM,dR,aDQ,ZP,qC];simp only [Z,e];cases p.1==(1:Int)
 .cases p.1==(2:Int)
  .cases p.1==(3:Int)<;>rfl
  .rfl
 .simp only [Y]
  rw [Bool.beq_comm]
def qD (l:List Pl) (x:Int):Pl:=l.getD x.toNat (0,0,[],ä,0,0)
def jJ (l:List Pl) (c:UInt8):List Int->List Int
 | []=>[]
 |x::r=>cond (qC (qD l x) c) ((x+1)::jJ l c r) (jJ l c r)
theorem OJ (l:List Pl) (c:UInt8): ∀r,(jJ l c r).length<=à r
 | []=>by simp [jJ]
 |x::r=>by
  have:=OJ l c r;rw [jJ];cases qC (qD l x) c
  .rw [ez,Î];omega
  .rw [Y,Î,Î];omega
def uW (l:List Pl) (now:List Int):Prop:=(∀x∈now,∃q:Nat,x=(q:Int)/\q<à l)/\now.Pairwise (fun x y=>x<y)/\à now<=à l
theorem OL (l:List Pl) (at0:List Int) (b e:Bool):uW l (fZ l at0 b e):=⟨fun x d=>by
 obtain⟨i,f,g, -⟩:=Ta.1 d;exact⟨i,f,g⟩,Ig _ _ _ _,ajA _ _ _ _⟩
theorem ZQ {l:List Pl} {q:Nat} (h:q<à l):au l (q:Int)=ã (qD l (q:Int)):=by
 rw [bB h,qD,Â,Ë,Ê h];rfl
theorem aDS {l:List Pl} {q:Nat} (h:q<à l):qD l (q:Int)∈l:=by
 rw [qD,Â,Ë,Ê h];exact Æ h
theorem OM {l:List Pl} (h:à l<=400) (b: ∀p∈l,à p.2.2.1<=256) {s:O} {i:Nat} (hi:i<à s) {now:List Int} (f:uW l now) (best:Int) (n:Nat) (g:301<=n): ∀(r:List Int) (j m:Nat) (out:List Int),now.drop j=r->à r<m->à out+à r<=1000000->
  sa n m (j:Int) now out (i:Int) s l best=ã (.inl (s,l,best,(i:Int),out++jJ l s[i] r))
 | [],j,m,out,hd,hm,k=>by
  obtain⟨m,rfl⟩: ∃q,m=q+1:=⟨m-1,Ų⟩
  have h1:à now<=j:=Ι.1 hd;rw [Vq,hJ ž,ez,jJ,Ð]
 |x::r,j,m,out,hd,hm,k=>by
  obtain⟨m,rfl⟩: ∃q,m=q+1:=⟨m-1,Ų⟩
  have hj:j<à now:=by
   by_cases c:j<à now
   .exact c
   .rw [Ó ž]at hd;cases hd
  have ad:=f.2.2;rw [Ì hj]at hd;obtain⟨t,u⟩:=χ hd;obtain⟨q,z,d⟩:=f.1 now[j] (Æ hj);rw [t]at z;simp only [Î]at k hm;have hw:Þ ß ((q:Int)+1)=(q:Int)+1:=ż
  rw [Vq,aU hj,Y,hC (show (0:Int)<=(j:Int)/\(j:Int)<(à now:Int) by omega),Y,ie hj,Z,t,z,ZQ d,Z,dy hi,Z,dR,aDP _ (b _ (aDS d)) n g,Z,du hj ž]
  rw [jJ];cases ht:qC (qD l (q:Int)) s[i]
  .rw [ez,ez]
   exact OM h b hi f best n g r (j+1) m out u ž ž
  .rw [Y,Y,Y,Z,aX ž,Y,hw,OM h b hi f best n g r (j+1) m (out++[(q:Int)+1]) u ž ź,Å];rfl
theorem OO {l:List Pl} (p:à l<=400) {s:O} {i:Nat} (hi:i<à s) {now:List Int} (b:uW l now) (d:Bool) (f g:Int) (n:Nat) (h:301<=n): ∀(r:List Int) (j m:Nat) (out:List Int),now.drop j=r->à r<m->à out+à r<=1000000->
  sr n m (j:Int) out (i:Int) s l now d f g (à now:Int)=ã (.inl (s,l,d,f,now,g,(i:Int),out++jJ l s[i] r))
 | [],j,m,out,hd,hm,t=>by
  obtain⟨m,rfl⟩: ∃q,m=q+1:=⟨m-1,Ų⟩
  have h1:à now<=j:=Ι.1 hd;rw [WA,hJ ž,ez,jJ,Ð]
 |x::r,j,m,out,hd,hm,t=>by
  obtain⟨m,rfl⟩: ∃q,m=q+1:=⟨m-1,Ų⟩
  have hj:j<à now:=by
   by_cases c:j<à now
   .exact c
   .rw [Ó ž]at hd;cases hd
  have ae:=b.2.2;rw [Ì hj]at hd;obtain⟨u,z⟩:=χ hd;obtain⟨q,hq,k⟩:=b.1 now[j] (Æ hj);rw [u]at hq;simp only [Î]at t hm;have hw:Þ ß ((q:Int)+1)=(q:Int)+1:=ż
  rw [WA,aU hj,Y,hC (show (0:Int)<=(j:Int)/\(j:Int)<(à now:Int) by omega),Y,ie hj,Z,u,hq,ZQ k,Z,dy hi,Z,dR,aDR _ n h,Z,du hj ž]
  rw [jJ];cases ht:qC (qD l (q:Int)) s[i]
  .rw [ez,ez]
   exact OO p hi b d f g n h r (j+1) m out z ž ž
  .rw [Y,Y,aX ž,Y,hw,OO p hi b d f g n h r (j+1) m (out++[(q:Int)+1]) z ž ź,Å];rfl
theorem aDT {l:List Pl} {t:List Int} {x:Int} (h:uW l (t++[x])):(x==((à l:Int)-1))=á (((à l:Int)-1)∈t++[x]):=by
 obtain⟨b,d,g⟩:=h;obtain⟨q,i,f⟩:=b x Ż
 by_cases e:x=(à l:Int)-1
 .rw [hC (by rw [<-e];simp)];simpa using e
 .rw [hJ (fun k=> ?_)]
  .simpa using e
  .rcases Ï.1 k with k|k
   .have:=(Ϛ.1 d).2.2 _ k x Ż
    omega
   .exact e (É.1 k).symm
noncomputable def oW (l:List Pl) (s:O):Nat->Nat->List Int->Int->Int
 |0,i,now,best=>if((à l:Int)-1)∈now then(i:Int)else best
 |k+1,i,now,best=>if now=[]then best else oW l s k (i+1) (fZ l (jJ l (s.getD i 0) now) ä (á (i+1=à s))) (if ((à l:Int)-1)∈now then(i:Int)else best)
theorem ZR {s:O} {i:Nat} (h:i<à s):s.getD i 0=s[i]:=ř
theorem sJ (a b:Nat):((a:Int)==(b:Int))=á (a=b):=by
 by_cases h:a=b
 .subst h;simp
 .rw [hJ h];exact beq_eq_false_iff_ne.2 ž
theorem ZS {l:List Pl} (d:à l<=400) (j:0<à l) (b: ∀p∈l,à p.2.2.1<=256) {s:O} (r:à s<=1000000): ∀(k i:Nat) (now:List Int) (best:Int),i+k=à s->uW l now->
  W fun n=> ∀m,k<m->rZ n m now (i:Int) s l best=ã (.inl (oW l s k i now best))
 |k,i,now,best,hk,f=>by
  rcases ό now with rfl|⟨t,x,rfl⟩
  .refine W.of fun n m hm=> ?_
   obtain⟨m,rfl⟩: ∃q,m=q+1:=⟨m-1,ž⟩
   rw [Vp];cases k<;>rfl
  rw [ύ]at*;have g:=f.2.2;have hlen:((t++[x]).length:Int)=((à t+1:Nat):Int):=Ż
  have hw:Þ ß (((t++[x]).length:Int)-1)=(à t:Int):=by
   simp only [À,Θ]at g;rw [hlen,Á];omega
  have h:aO (t++[x]) (Ç (à t:Int))=ã x:=by rw [Â];exact kW t x []
  have head: ∀n m,rZ n (m+1) (t++[x]) (i:Int) s l best=cond (á (i=à s)) (ã (.inl (if ((à l:Int)-1)∈t++[x]then(i:Int)else best))) ((sa n n 0 (t++[x]) ([]:ag) (i:Int) s l (if ((à l:Int)-1)∈t++[x]then(i:Int)else best)).bind fun u=>aq u (fun z2=>(uc n z2.2.1 z2.2.2.2.2 ä ((Þ ß (z2.2.2.2.1+(1:Int)))==(à z2.1:Int))).bind fun z=>rZ n m z (Þ ß (z2.2.2.2.1+(1:Int))) z2.1 z2.2.1 z2.2.2.1) (fun w2=>ã (.inr w2))):=fun n m=>by
   rw [Vp,hw,h,hlen,hC ž,Y,hC ž,Y,Z,FM d j,show((à l-1:Nat):Int)=(à l:Int)-1 by omega,aDT f,sJ]
   by_cases c:((à l:Int)-1)∈t++[x]
   .rw [hC c,if_pos c,Y]
   .rw [hJ c,if_neg c,ez]
  match k,hk with
  |0,hk=>
   refine W.of fun n m hm=> ?_
   obtain⟨m,rfl⟩: ∃q,m=q+1:=⟨m-1,ž⟩
   rw [head,hC ž,Y,oW]
  |k+1,hk=>
   have hi:i<à s:=ž
   have ae:=OJ l s[i] (t++[x]);have ih:=ZS d j b r k (i+1) (fZ l (jJ l s[i] (t++[x])) ä (á (i+1=à s))) (if ((à l:Int)-1)∈t++[x]then(i:Int)else best) ž (OL _ _ _ _)
   refine((ih.and (ZM l (jJ l s[i] (t++[x])) ä (á (i+1=à s)) d ž)).and (W.ge 1000)).mono fun n ⟨⟨e1,e2⟩,e3⟩ m hm=> ?_
   obtain⟨m,rfl⟩: ∃q,m=q+1:=⟨m-1,ž⟩
   rw [head,hJ ž,ez,show(0:Int)=((0:Nat):Int)from rfl,OM d b hi f _ n ž (t++[x]) 0 n [] ţ ž (by simp only [Ñ];omega),Z,cO]
   dsimp only
   rw [du hi ž,sJ,Ρ,e2,Z,e1 m ž,oW,if_neg (show ¬(t++[x])=[] by simp),ZR hi]
theorem aDU (now:List Int) (v:Int) (d:à now<=1048576):W fun n=>Ej n now v=ã (á (v∈now)):=by
 have h:=lB d (p:=fun x=>v=x) (r:=fun i=>i) (b:=()) (L:=fun n m i=>Ek n m i now v (à now:Int)) (W.of fun n m i hi=>by
  rw [WD,aU hi,Y,bB hi,Z,bW]) (fun n m=>by rw [WD,bM];rfl)
 refine W.succ (h.nm fun n h=> ?_)
 rw [awK,awL];rcases h with⟨⟨x,f,rfl⟩,i,e⟩|⟨h,e⟩
 .rw [e,hC f];simp [aq]
 .rw [e,hJ (fun k=>h v k rfl)];rfl
noncomputable section
theorem ZT {l:List Pl} (g:à l<=400) (p:0<à l) {s:O} (t:à s<=1000000): ∀(k i:Nat) (pre:List Int) (best:Int),i+k=à s->à pre<=1000000->
  W fun n=> ∀m,k<m->so n m (i:Int) s l best pre=ã (.inr (oW l s k i (fZ l pre (á (i=0)) (á (i=à s))) best))
 |k,i,pre,best,hk,hp=>by
  have u:((i:Int)==(0:Int))=á (i=0):=sJ i 0;obtain⟨now,b⟩: ∃now,now=fZ l pre (á (i=0)) (á (i=à s)):=⟨_,rfl⟩
  have r:uW l now:=b▸OL _ _ _ _;have z:=r.2.2;have base:=(aDM l pre (á (i=0)) (á (i=à s)) g ž).and (aDU now ((à l:Int)-1) ž)
  rw [<-b]at base |-;have head: ∀n m,Eh n l pre (á (i=0)) (á (i=à s))=ã now->Ej n now ((à l:Int)-1)=ã (á (((à l:Int)-1)∈now))->so n (m+1) (i:Int) s l best pre=cond (á (i=à s)) (ã (.inr (if ((à l:Int)-1)∈now then(i:Int)else best))) (cond (á (à now=0)) (ã (.inr (if ((à l:Int)-1)∈now then(i:Int)else best))) ((sr n n 0 ([]:ag) (i:Int) s l now (á (à now=0)) (à now:Int) (if ((à l:Int)-1)∈now then(i:Int)else best) (à now:Int)).bind fun y2=>aq y2 (fun z3=>so n m (Þ ß (z3.2.2.2.2.2.2.1+(1:Int))) z3.1 z3.2.1 z3.2.2.2.2.2.1 z3.2.2.2.2.2.2.2) (fun w3=>ã (.inr w3)))):=fun n m d f=>by
   rw [awI,u,sJ,d,Z,FM g p,show((à l-1:Nat):Int)=(à l:Int)-1 by omega,f,Z,show((à now:Int)==(0:Int))=á (à now=0)from sJ (à now) 0]
   by_cases c:((à l:Int)-1)∈now
   .rw [hC c,if_pos c,Y]
   .rw [hJ c,if_neg c,ez]
  match k,hk with
  |0,hk=>
   refine base.mono fun n ⟨d,f⟩ m hm=> ?_
   obtain⟨m,rfl⟩: ∃q,m=q+1:=⟨m-1,ž⟩
   rw [head n m d f,hC (show i=à s by omega),Y,oW]
  |k+1,hk=>
   have hi:i<à s:=ž
   by_cases he:now=[]
   .refine base.mono fun n ⟨d,f⟩ m hm=> ?_
    obtain⟨m,rfl⟩: ∃q,m=q+1:=⟨m-1,ž⟩
    rw [head n m d f,hJ (show ¬i=à s by omega),ez,oW,if_pos he,hC (show à now=0 by rw [he];rfl),Y,if_neg (by rw [he];simp)]
   have j: ¬à now=0:=fun h=>he (ζ h)
   have af:=OJ l s[i] now;have ih:=ZT g p t k (i+1) (jJ l s[i] now) (if ((à l:Int)-1)∈now then(i:Int)else best) ž ž
   refine((base.and ih).and (W.ge 1000)).mono fun n ⟨⟨⟨d,f⟩,e3⟩,e4⟩ m hm=> ?_
   obtain⟨m,rfl⟩: ∃q,m=q+1:=⟨m-1,ž⟩
   rw [head n m d f,hJ (show ¬i=à s by omega),ez,hJ j,ez,show(0:Int)=((0:Nat):Int)from rfl,OO g hi r _ _ _ n ž now 0 n [] ţ ž (by simp only [Ñ];omega),Z,cO]
   dsimp only
   rw [du hi ž,Ρ,e3 m ž,oW,if_neg he,ZR hi,hJ (show ¬i+1=0 by omega)]
def OP (l:List Pl) (s:O) (i:Nat):Int:=oW l s (à s-i) i (fZ l [0] (á (i=0)) (á (i=à s))) (-1)
def eX (l:List Pl) (s:O) (i:Nat):Int:=cond (bo (oV l)) (OP l s i) (-1)
theorem ZU {l:List Pl} (h:oV l):à l<=400/\0<à l:=by
 have b:=h.1.1;have d:=h.1.2;omega
theorem aDV (l:List Pl) (s:O) (i:Nat) (g:à l<=1048576) (b: ∀p∈l,à p.2.2.1<=256) (j:à s<=1000000) (hi:i<=à s):W fun n=>CJ n l s (i:Int)=ã (eX l s i):=by
 by_cases hw:oV l
 .obtain⟨h,k⟩:=ZU hw
  refine((((ZK l g).and (cD (i:Int) 0 (à s:Int))).and ((ZM l [0] (á (i=0)) (á (i=à s)) h Ż).and (ZS h k b j (à s-i) i (fZ l [0] (á (i=0)) (á (i=à s))) (-1) ž (OL _ _ _ _)))).and (W.ge (à s+1))).nm fun n ⟨⟨⟨d,m⟩,q,r⟩,t⟩=> ?_
  have f:In (i:Int) 0 (à s:Int):=⟨ž,ž⟩
  rw [Vo,d,aA hw,Z,m,aA f,show((i:Int)==(0:Int))=á (i=0)from sJ i 0,sJ];simp only [Ä,ez,Z];rw [q,Z,r n ž,Z,cO,eX,aA hw,Y,OP]
 .refine(ZK l g).nm fun n d=> ?_
  rw [Vo,d,aw hw,eX,aw hw,ez];rfl
theorem aDW (l:List Pl) (s:O) (i:Nat) (f:à l<=1048576) (g:à s<=1000000) (hi:i<=à s):W fun n=>Eg n l s (i:Int)=ã (eX l s i):=by
 by_cases hw:oV l
 .obtain⟨h,j⟩:=ZU hw
  refine((((OG l f).and (cZ (i:Int) 0 (à s:Int))).and (ZT h j g (à s-i) i [0] (-1) ž Ż)).and (W.ge (à s+1))).nm fun n ⟨⟨⟨b,k⟩,m⟩,p⟩=> ?_
  have d:In (i:Int) 0 (à s:Int):=⟨ž,ž⟩
  rw [Wz,b,aA hw,Z,k,aA d];simp only [Ä,ez,Z];rw [m n ž,Z,wJ,eX,aA hw,Y,OP]
 .refine(OG l f).nm fun n b=> ?_
  rw [Wz,b,aw hw,eX,aw hw,ez];rfl
def jf (g:Nat->Int):Nat->Nat->Int×(Int×Bool)
 |0,i=>if 0<=g i then((i:Int),g i,å)else(0,0,ä)
 |k+1,i=>if 0<=g i then((i:Int),g i,å)else jf g k (i+1)
theorem ZV {l:List Pl} {s:O} (f:à l<=1048576) (d: ∀p∈l,à p.2.2.1<=256) (g:à s<=1000000): ∀k i,i+k=à s->W fun n=> ∀m,k+1<m->(ub n m (i:Int) s l).bind (fun h=>aq h (fun _=>ã ((0:Int),(0:Int),ä)) (fun j=>ã j))=ã (jf (eX l s) k i)
 |k,i,hk=>by
  have b:=aDV l s i f d g ž
  have head: ∀n m,CJ n l s (i:Int)=ã (eX l s i)->ub n (m+1) (i:Int) s l=cond (á (0<=eX l s i)) (ã (.inr ((i:Int),eX l s i,å))) (ub n m ((i+1:Nat):Int) s l):=fun n m e=>by
   rw [Vn,hC (show (i:Int)<=(à s:Int) by omega),Y,e,Z,lP ž]
  match k,hk with
  |0,hk=>
   refine b.mono fun n b m hm=> ?_
   obtain⟨m,rfl⟩: ∃q,m=q+2:=⟨m-2,ž⟩
   rw [head n (m+1) b,jf];by_cases c:0<=eX l s i
   .rw [hC c,if_pos c];rfl
   .rw [hJ c,if_neg c,ez,Vn,hJ ž];rfl
  |k+1,hk=>
   refine(b.and (ZV f d g k (i+1) ž)).mono fun n ⟨b,r⟩ m hm=> ?_
   obtain⟨m,rfl⟩: ∃q,m=q+1:=⟨m-1,ž⟩
   rw [head n m b,jf];by_cases c:0<=eX l s i
   .rw [hC c,if_pos c];rfl
   .rw [hJ c,if_neg c,ez];exact r m ž
theorem ZW {l:List Pl} {s:O} (d:à l<=1048576) (f:à s<=1000000): ∀k i,i+k=à s->W fun n=> ∀m,k+1<m->(ux n m (i:Int) s l).bind (fun g=>aq g (fun _=>ã ((0:Int),(0:Int),ä)) (fun h=>ã h))=ã (jf (eX l s) k i)
 |k,i,hk=>by
  have b:=aDW l s i d f ž
  have head: ∀n m,Eg n l s (i:Int)=ã (eX l s i)->ux n (m+1) (i:Int) s l=cond (á (0<=eX l s i)) (ã (.inr ((i:Int),eX l s i,å))) (ux n m ((i+1:Nat):Int) s l):=fun n m e=>by
   rw [Wx,hC (show (i:Int)<=(à s:Int) by omega),Y,e,Z,lP ž]
  match k,hk with
  |0,hk=>
   refine b.mono fun n b m hm=> ?_
   obtain⟨m,rfl⟩: ∃q,m=q+2:=⟨m-2,ž⟩
   rw [head n (m+1) b,jf];by_cases c:0<=eX l s i
   .rw [hC c,if_pos c];rfl
   .rw [hJ c,if_neg c,ez,Wx,hJ ž];rfl
  |k+1,hk=>
   refine(b.and (ZW d f k (i+1) ž)).mono fun n ⟨b,j⟩ m hm=> ?_
   obtain⟨m,rfl⟩: ∃q,m=q+1:=⟨m-1,ž⟩
   rw [head n m b,jf];by_cases c:0<=eX l s i
   .rw [hC c,if_pos c];rfl
   .rw [hJ c,if_neg c,ez];exact j m ž
theorem aDX (l:List Pl) (s:O) (d:à l<=1048576) (b: ∀p∈l,à p.2.2.1<=256) (f:à s<=1000000):W fun n=>Km n l s=ã (jf (eX l s) (à s) 0):=by
 refine((ZV d b f (à s) 0 ž).and (W.ge (à s+2))).nm fun n ⟨g,h⟩=> ?_
 rw [apX];exact g n ž
theorem ZX {g:Nat->Int} (h: ∀i,g i= -1): ∀k i,jf g k i=(0,0,ä)
 |0,i=>by rw [jf,h,if_neg ž]
 |k+1,i=>by rw [jf,h,if_neg ž,ZX h k]
theorem aDY (l:List Pl) (s:O) (b:à l<=1048576) (d:à s<=1000000):W fun n=>LQ n l s=ã (jf (eX l s) (à s) 0):=by
 refine(((ZW b d (à s) 0 ž).and (W.ge (à s+2))).and (OG l b)).nm fun n ⟨⟨f,h⟩,g⟩=> ?_
 rw [awF,g,Z];by_cases hw:oV l
 .rw [aA hw]
  exact f n ž
 .rw [aw hw,ZX (fun i=>by rw [eX,aw hw,ez])];rfl
theorem aDZ {s:O} (h:(im s).2.2.2.2.2=å): ∃t:Tr,fY t/\iS t/\ej t<=300/\dh t<=12/\im s=((aG t).1,(aG t).2.1,(aG t).2.2.1,(aG t).2.2.2.1,(aG t).2.2.2.2,å):=by
 by_cases b:à s<=60
 .obtain⟨r,d⟩:=NC s b
  rw [Fi b d]at h |-;by_cases c:r.2.2=ä/\r.2.1=[]/\dh (cP r.1)<=12
  .rw [if_pos c]at h |-
   obtain⟨f,g⟩:=aiY _ _ _ _ _ d b trivial trivial trivial c.1;have i:=(eR _ _ _ _ _ d b trivial trivial).1;refine⟨cP r.1,AS f,fj i, ?_,c.2.2,rfl⟩
   rw [wP];simp only [iW]at g;omega
  .rw [if_neg c]at h;cases h
 .rw [ND b]at h;cases h
theorem OQ (pat s:O) (h:(im pat).2.2.2.2.2=å) (z:à s<=1000000): ∃v:Bool,(W fun n=>xQ n pat s=ã (bV v))/\(W fun n=>yC n pat s=ã v):=by
 obtain⟨t,i,j,h3,h4,h5⟩:=aDZ h;obtain⟨S,⟨k,m⟩,q⟩:=aDy i j;have hb:=k 0;obtain⟨k1,k2⟩:=m [] ź
 simp only [Ñ,Ρ]at k1 k2;obtain⟨L,g⟩: ∃L,L=S 0++[pl 8 0 0]:=⟨_,rfl⟩
 have f:L.length<=1048576:=by rw [g,À,Θ];omega
 have r: ∀p∈L,à p.2.2.1<=256:=fun p hp=>by
  rw [g]at hp;rcases Ï.1 hp with hp|hp
  .exact q 0 p hp
  .rw [É.1 hp];exact nM _ _ _
 have n1:W fun n=>Kj n (aG t).1 (aG t).2.1 (aG t).2.2.1 (aG t).2.2.2.1 (aG t).2.2.2.2=ã L:=by
  refine(((aDt i j ž h4).and k1).and (zp (S 0) 8 ž)).nm fun n ⟨⟨b,d⟩,u⟩=> ?_
  rw [apQ,b,Z];simp only [Ä,ez];rw [d,Z,u,g];rfl
 have n2:W fun n=>LN n (aG t).1 (aG t).2.1 (aG t).2.2.1 (aG t).2.2.2.1 (aG t).2.2.2.2=ã L:=by
  refine((aDu i j ž h4).and k2).nm fun n ⟨b,d⟩=> ?_
  rw [avV,b,Z];simp only [Ä,ez];rw [d,Z,aX ž,Y,g];rfl
 have m1:W fun n=>Ki n (aG t).1 (aG t).2.1 (aG t).2.2.1 (aG t).2.2.2.1 (aG t).2.2.2.2 s=ã (jf (eX L s) (à s) 0).2.2:=by
  refine(n1.and (aDX L s f r z)).nm fun n ⟨b,d⟩=> ?_
  rw [apP,b,Z,d];rfl
 have m2:W fun n=>LM n (aG t).1 (aG t).2.1 (aG t).2.2.1 (aG t).2.2.2.1 (aG t).2.2.2.2 s=ã (jf (eX L s) (à s) 0).2.2:=by
  refine(n2.and (aDY L s f z)).nm fun n ⟨b,d⟩=> ?_
  rw [avU,b,Z,d];rfl
 refine⟨(jf (eX L s) (à s) 0).2.2, ?_, ?_⟩
 .refine(((XJ pat).and m1).and (Fv (jf (eX L s) (à s) 0).2.2)).nm fun n ⟨⟨b,d⟩,u⟩=> ?_
  rw [apO,b,h5,Z];dsimp only
  rw [d,Z,u];rfl
 .refine((XI pat).and m2).nm fun n ⟨b,d⟩=> ?_
  rw [avT,b,h5,Z];dsimp only
  rw [d];rfl
def lQ (pat s:O):Bool:=if h:(im pat).2.2.2.2.2=å/\à s<=1000000 then ϯ (OQ pat s h.1 h.2)else ä
theorem ZY (pat s:O) (h:(im pat).2.2.2.2.2=å) (b:à s<=1000000):W fun n=>xQ n pat s=ã (bV (lQ pat s)):=by
 rw [lQ,dif_pos ⟨h,b⟩];exact(Ϗ (OQ pat s h b)).1
theorem ZZ (pat s:O) (h:(im pat).2.2.2.2.2=å) (b:à s<=1000000):W fun n=>yC n pat s=ã (lQ pat s):=by
 rw [lQ,dif_pos ⟨h,b⟩];exact(Ϗ (OQ pat s h b)).2
end
noncomputable section
structure cV where
 vs:List V
 cs:List VC
 aD:List V
 out:O
inductive gY where
 |err (c:Int)
 |halt (s:cV)
 |go (k:Int) (s:cV)
def mP (r:Sum Int V) (f:V->gY):gY:=match r with
 |.inl c=>.err c
 |.inr v=>f v
def eN (s:cV) (at0:Int) (v:V):gY:=if s.aD.length=64 then .err 7 else .go at0 {s with aD:=s.aD++[v]}
def ki (s:cV) (at0 k:Int) (key:O) (v:V):gY:=match mN s.cs k key v with
 |none=>.err 4
 |some b=>eN {s with cs:=b} at0 v
def fD (s:cV) (at0:Int) (t:O):gY:=if 600<s.out.length+à t then .err 5 else .go at0 {s with out:=s.out++t}
def bQ (c k:Int):Int:=if c=1\/c=2\/c=3\/c=10\/c=11\/c=25\/c=30\/c=34\/c=36 then 0 else if c=7\/c=8 then 2 else if c=29 then k else if 12<=c/\c<=23 then 2 else 1
def iE (s:cV) (at0 c k:Int) (l:List V):gY:=
 if c=3 then eN s at0 (ah s.vs k.toNat)
 else if c=4 then eN {s with vs:=s.vs.set k.toNat (ah l 0)} at0 (ah l 0)
 else if c=5 then mP (cK 0 (aK (ah s.vs k.toNat)) (aK (ah l 0))) fun v=>eN {s with vs:=s.vs.set k.toNat v} at0 v
 else if c=6 then eN s at0 (fN s.cs k (dp (ah l 0)))
 else if c=7 then ki s at0 k (dp (ah l 0)) (ah l 1)
 else if c=8 then mP (cK 0 (aK (fN s.cs k (dp (ah l 0)))) (aK (ah l 1))) fun v=>ki s at0 k (dp (ah l 0)) v
 else .go at0 {s with cs:=oQ s.cs k (dp (ah l 0))}
def kj (nr:Int) (line:O) (fs:List O) (c k:Int) (s:O) (l:List V):Sum Int V:=
 if c=1 then .inr (nV k)else if c=2 then(if 300<à s then .inl 3 else .inr (tV s))else if c=9 then .inr (kV line fs (cN (aK (ah l 0))))
 else if c=10 then .inr (nV (1000000*nr))else if c=11 then .inr (nV (1000000*(à fs:Int)))
 else if c=24 then .inr (bV (lQ s (aI (ah l 0))))else if c=25 then .inr (bV (lQ s line))else if c=26 then .inr (bV (!iv (ah l 0)))
 else if c=27 then .inr (nV (0-aK (ah l 0)))else if c=28 then .inr (bV (iv (ah l 0)))else if c=29 then .inr (jG s l)else dP c (ah l 0) (ah l 1)
def iF (nr:Int) (line:O) (fs:List O) (s:cV) (at0 c k:Int) (t:O) (l:List V):gY:=
 if c=36 then .halt s else if c=30 then .go k s else if c=31 then(if iv (ah l 0)then .go (at0+1) s else .go k s)else if c=32 then .go (at0+1) s
 else if c=33 then fD s (at0+1) ((if k=1 then [32]else [])++aI (ah l 0))else if c=34 then fD s (at0+1) [10]
 else if c=3\/c=4\/c=5\/c=6\/c=7\/c=8\/c=35 then iE s (at0+1) c k l
 else mP (kj nr line fs c k t l) fun v=>eN s (at0+1) v
def iG (nr:Int) (line:O) (fs:List O) (s:cV) (at0 c k:Int) (t:O):gY:=
 if(s.aD.length:Int)<bQ c k then .err 7
 else iF nr line fs {s with aD:=s.aD.take (s.aD.length-(bQ c k).toNat)} at0 c k t (s.aD.drop (s.aD.length-(bQ c k).toNat))
abbrev WS:=ae×(ai×Int×Int×af×af×O×af×O×Int×Bool×ae)
def zr (nr:Int) (a b:af) (line:O) (fs:af) (fu:Int) (dn:Bool) (s:cV):WS:=(s.vs,s.cs,nr,0,a,b,line,fs,s.out,fu,dn,s.aD)
def PO (nr:Int) (a b:af) (line:O) (fs:af) (fu:Int) (dn:Bool) (r:gY) (x:WS):Prop:=match r with
 |.err c=>c≠0/\x.2.2.2.1=c
 |.halt _=>False
 |.go _ s=>x=zr nr a b line fs fu dn s
theorem uX (vs:ae) (cs:ai) (nr:Int) (a b:af) (line:O) (fs:af) (out:O) (fu:Int) (dn:Bool) (aD:List V) (v:V) (at0:Int) (d:à aD<=64):W fun n=> ∃x,eo n vs cs nr 0 a b line fs out fu dn aD v.1 v.2.1 v.2.2=ã x/\PO nr a b line fs fu dn (eN ⟨vs,cs,aD,out⟩ at0 v) x:=by
 refine(mO vs cs nr a b line fs out fu dn 7).nm fun n e=> ?_
 rw [apC];by_cases h:à aD=64
 .rw [show ((à aD:Int)==64)=å by simp [h],Y,e,eN,if_pos h]
  exact⟨_,rfl,ž,rfl⟩
 .rw [show ((à aD:Int)==64)=ä from beq_eq_false_iff_ne.2 ž,ez,aX ž,eN,if_neg h]
  exact⟨_,rfl,rfl⟩
theorem aaA (vs:ae) (cs:ai) (nr:Int) (a b:af) (line:O) (fs:af) (out:O) (fu:Int) (dn:Bool) (aD:List V) (k:Int) (key:O) (v:V) (at0:Int) (j:à aD<=64) (h:à vs<=1048576) (i:à cs<=1048576):W fun n=> ∃x,xN n vs cs nr 0 a b line fs out fu dn aD k key v.1 v.2.1 v.2.2=ã x/\PO nr a b line fs fu dn (ki ⟨vs,cs,aD,out⟩ at0 k key v) x:=by
 cases hp:mN cs k key v with
 |none=>
  refine((YY vs cs nr 0 k key v h i).and (mO vs cs nr a b line fs out fu dn 4)).nm fun n ⟨d,f⟩=> ?_
  rw [Vf,d,hp,ki,hp];simp only [nJ,Z,Ü,Y,f];exact⟨_,rfl,ž,rfl⟩
 |some g=>
  refine((YY vs cs nr 0 k key v h i).and (uX vs g nr a b line fs out fu dn aD v at0 j)).nm fun n ⟨d,x,f,m⟩=> ?_
  rw [Vf,d,hp,ki,hp];simp only [nJ,Z,Ä,ez,f];exact⟨x,rfl,m⟩
theorem uY (vs:ae) (cs:ai) (nr er:Int) (a b:af) (line:O) (fs:af) (out:O) (fu:Int) (dn:Bool) (t:O) (d:à out<=600) (f:à t<=1048576):W fun n=>nw n vs cs nr er a b line fs out fu dn t=ã (cond (á (600<à out+à t)) (vs,cs,nr,cond (er==0) 5 er,a,b,line,fs,out,fu,dn) (vs,cs,nr,er,a,b,line,fs,out++t,fu,dn)):=by
 refine(Zd vs cs nr er a b line fs out fu dn 5).nm fun n e=> ?_
 have hw:Þ ß ((à out:Int)+(à t:Int))=((à out+à t:Nat):Int):=ż
 rw [aoX,hw,e];by_cases h:600<à out+à t
 .rw [hC (show (600:Int)<((à out+à t:Nat):Int) by omega),hC h];rfl
 .rw [hJ (show ¬(600:Int)<((à out+à t:Nat):Int) by omega),hJ h,tx ž];rfl
theorem aaB (c k:Int) (s:O):W fun n=>Cy n c k s=ã (bQ c k):=by
 refine(cD c 12 23).nm fun n e=> ?_
 rw [aoV,e,bQ];by_cases f:c=1\/c=2\/c=3\/c=10\/c=11\/c=25\/c=30\/c=34\/c=36
 .rw [if_pos f]
  rcases f with rfl|rfl|rfl|rfl|rfl|rfl|rfl|rfl|rfl<;>rfl
 rw [if_neg f];by_cases g:c=7\/c=8
 .rw [if_pos g]
  rcases g with rfl|rfl<;>rfl
 rw [if_neg g];have ne: ∀j:Int,c≠j->(c==j)=ä:=fun j h=>beq_eq_false_iff_ne.2 h
 rw [ne 1 ž,ne 2 ž,ne 3 ž,ne 10 ž,ne 11 ž,ne 25 ž,ne 30 ž,ne 34 ž,ne 36 ž,ne 7 ž,ne 8 ž]
 simp only [ez];by_cases b:c=29
 .rw [if_pos b,b];rfl
 rw [ne 29 b,ez,if_neg b];by_cases d:12<=c/\c<=23
 .rw [aA (show In c 12 23 from d),if_pos d];rfl
 .rw [aw (show ¬In c 12 23 from d),if_neg d];rfl
end
theorem qE {vs:List V} {k:Int} (b:0<=k) (h:k<(à vs:Int)):aO vs (Ç k)=ã (ah vs k.toNat):=by
 have hk:k.toNat<à vs:=ž
 show vs[k.toNat]? =_;rw [ah,Ë,Ê hk];rfl
theorem qF {vs:List V} {k:Int} (b:0<=k) (h:k<(à vs:Int)):á ((0:Int)<=k/\k<(à vs:Int))=å:=hC ⟨b,h⟩
theorem OS {cs:List VC} {nm:Int} {key:O} (h: ∀c∈cs,bO c.2.2):bO (fN cs nm key):=by
 unfold fN;split
 .split
  .rename_i c b
   exact h c (List.mem_of_getElem? b)
  .exact tJ
 .exact tJ
structure qG (vs:List V) (cs:List VC) (nr:Int) (line:O) (fs:List O) (out:O) (aD:List V):Prop where
 v: ∀v∈vs,bO v
 vl:à vs<=1048576
 c: ∀c∈cs,bO c.2.2
 cl:à cs<=1048576
 nr:0<=nr/\nr<=2000000
 line:à line<=1000000
 fs:à fs<=1048576
 out:à out<=600
 s: ∀v∈aD,bO v
 sl:à aD<=64
def uZ (vs:List V) (c k:Int) (t:O) (l:List V):Prop:=(c=3\/c=4\/c=5->0<=k/\k<(à vs:Int))/\(à l:Int)=bQ c k/\(c=1->aW k)/\(c=24\/c=25->(im t).2.2.2.2.2=å)/\(c=29->1<=k/\k<=3/\t∈jt)/\(c=33->k=0\/k=1)
theorem aEa (vs:ae) (cs:ai) (nr:Int) (a b:af) (line:O) (fs:af) (out:O) (fu:Int) (dn:Bool) (aD:List V) (c k:Int) (t:O) (l:List V) (at0:Int) (h:qG vs cs nr line fs out aD) (hl: ∀v∈l,bO v) (ho:uZ vs c k t l) (u:c=3\/c=4\/c=5\/c=6\/c=7\/c=8\/c=35):
  W fun n=> ∃x,nx n vs cs nr 0 a b line fs out fu dn aD c k t l=ã x/\PO nr a b line fs fu dn (iE ⟨vs,cs,aD,out⟩ at0 c k l) x:=by
 obtain⟨j,d, -⟩:=ho;have o0:=eW hl 0;have o1:=eW hl 1;rcases u with rfl|rfl|rfl|rfl|rfl|rfl|rfl
 .obtain⟨p,q⟩:=j (.inl rfl)
  refine(uX vs cs nr a b line fs out fu dn aD (ah vs k.toNat) at0 h.sl).nm fun n ⟨x,e,z⟩=> ?_
  rw [sB,qF p q,qE p q,Z,e];exact⟨x,rfl,z⟩
 .obtain⟨p,q⟩:=j (.inr (.inl rfl))
  have a0:au l 0=ã (ah l 0):=ke (i:=0) Ū
  refine(uX (vs.set k.toNat (ah l 0)) cs nr a b line fs out fu dn aD (ah l 0) at0 h.sl).nm fun n ⟨x,e,z⟩=> ?_
  rw [sB,qF p q,qE p q,a0];simp only [Z];have e:eo n (vs.set (Ç k) ((ah l 0).1,(ah l 0).2.1,(ah l 0).2.2)) cs nr 0 a b line fs out fu dn aD (ah l 0).1 (ah l 0).2.1 (ah l 0).2.2=ã x:=e;rw [e];exact⟨x,rfl,z⟩
 .obtain⟨p,q⟩:=j (.inr (.inr rfl))
  have a0:au l 0=ã (ah l 0):=ke (i:=0) Ū
  have ov:=eW h.v k.toNat;refine((((kd ov.2.1).and (kd o0.2.1)).and (Oo vs cs nr a b line fs out fu dn 0 (aK (ah vs k.toNat)) (aK (ah l 0)) ž)).and (show W fun n=> ∀v,cK 0 (aK (ah vs k.toNat)) (aK (ah l 0))=.inr v-> ∃x,eo n (vs.set k.toNat v) cs nr 0 a b line fs out fu dn aD v.1 v.2.1 v.2.2=ã x/\PO nr a b line fs fu dn (eN ⟨vs.set k.toNat v,cs,aD,out⟩ at0 v) x from ?_)).nm fun n ⟨⟨⟨g,m⟩,v,r,s⟩,e5⟩=> ?_
  .cases hm:cK 0 (aK (ah vs k.toNat)) (aK (ah l 0))with
   |inl c=>exact W.of fun n v f=>by cases f
   |inr w=>exact(uX (vs.set k.toNat w) cs nr a b line fs out fu dn aD w at0 h.sl).mono fun n hx v f=>Đ
  .rw [sB,qF p q,qE p q,a0]
   simp only [show ((5:Int)==3)=ä from rfl,show((5:Int)==4)=ä from rfl,show((5:Int)==5)=å from rfl,Y,ez,Z,g,m,r];rw [iE,if_neg (show ¬(5:Int)=3 by omega),if_neg (show ¬(5:Int)=4 by omega),if_pos rfl]
   dsimp only
   cases hm:cK 0 (aK (ah vs k.toNat)) (aK (ah l 0))with
   |inl c=>
    have u:c=1:=by
     rw [cK,if_pos rfl]at hm;revert hm
     obtain⟨p,q⟩:=gx (aK (ah vs k.toNat)) (aK (ah l 0));cases q<;>intro hm<;>cases hm;rfl
    subst u;exact⟨_,rfl,ž,rfl⟩
   |inr w=>
    have f:=s w hm;subst f;obtain⟨x,f1,f2⟩:=e5 v hm;rw [qF p q];simp only [iD,show((0:Int)==0)=å from rfl,Y];rw [qE p q,Z];have f1:eo n (vs.set (Ç k) (v.1,v.2.1,v.2.2)) cs nr 0 a b line fs out fu dn aD v.1 v.2.1 v.2.2=ã x:=f1;rw [f1];exact⟨x,rfl,f2⟩
 .have a0:au l 0=ã (ah l 0):=ke (i:=0) Ū
  refine(((Fw (ah l 0)).and (YU vs cs nr 0 k (dp (ah l 0)) h.cl)).and (uX vs cs nr a b line fs out fu dn aD (fN cs k (dp (ah l 0))) at0 h.sl)).nm fun n ⟨⟨g,m⟩,x,r,s⟩=> ?_
  rw [sB,a0];simp only [Ã,Y,ez,Z,g,m,r];exact⟨x,rfl,s⟩
 .have a0:au l 0=ã (ah l 0):=ke (i:=0) Ū
  have a1:au l 1=ã (ah l 1):=ke (i:=1) Ū
  refine((Fw (ah l 0)).and (aaA vs cs nr a b line fs out fu dn aD k (dp (ah l 0)) (ah l 1) at0 h.sl h.vl h.cl)).nm fun n ⟨g,x,r,s⟩=> ?_
  rw [sB,a0,a1];simp only [Ã,Y,ez,Z,g,r];exact⟨x,rfl,s⟩
 .have a0:au l 0=ã (ah l 0):=ke (i:=0) Ū
  have a1:au l 1=ã (ah l 1):=ke (i:=1) Ū
  have og:bO (fN cs k (dp (ah l 0))):=OS h.c;refine((((((Fw (ah l 0)).and (YU vs cs nr 0 k (dp (ah l 0)) h.cl)).and (kd og.2.1)).and (kd o1.2.1)).and (Oo vs cs nr a b line fs out fu dn 0 (aK (fN cs k (dp (ah l 0)))) (aK (ah l 1)) ž)).and (show W fun n=> ∀v,cK 0 (aK (fN cs k (dp (ah l 0)))) (aK (ah l 1))=.inr v-> ∃x,xN n vs cs nr 0 a b line fs out fu dn aD k (dp (ah l 0)) v.1 v.2.1 v.2.2=ã x/\PO nr a b line fs fu dn (ki ⟨vs,cs,aD,out⟩ at0 k (dp (ah l 0)) v) x from ?_)).nm fun n ⟨⟨⟨⟨⟨e0,g⟩,m⟩,r⟩,v,s,e5⟩,e6⟩=> ?_
  .cases hm:cK 0 (aK (fN cs k (dp (ah l 0)))) (aK (ah l 1))with
   |inl c=>exact W.of fun n v f=>by cases f
   |inr w=>exact(aaA vs cs nr a b line fs out fu dn aD k (dp (ah l 0)) w at0 h.sl h.vl h.cl).mono fun n hx v f=>Đ
  .rw [sB,a0,a1]
   simp only [Ã,Y,ez,Z,e0,g,m,r,s];rw [iE,if_neg (show ¬(8:Int)=3 by omega),if_neg (show ¬(8:Int)=4 by omega),if_neg (show ¬(8:Int)=5 by omega),if_neg (show ¬(8:Int)=6 by omega),if_neg (show ¬(8:Int)=7 by omega),if_pos rfl]
   dsimp only
   cases hm:cK 0 (aK (fN cs k (dp (ah l 0)))) (aK (ah l 1))with
   |inl c=>
    have u:c=1:=by
     rw [cK,if_pos rfl]at hm;revert hm
     obtain⟨p,q⟩:=gx (aK (fN cs k (dp (ah l 0)))) (aK (ah l 1));cases q<;>intro hm<;>cases hm;rfl
    subst u;exact⟨_,rfl,ž,rfl⟩
   |inr w=>
    have f:=e5 w hm;subst f;obtain⟨x,f1,f2⟩:=e6 v hm;simp only [iD,show((0:Int)==0)=å from rfl,Y];rw [f1];exact⟨x,rfl,f2⟩
 .have a0:au l 0=ã (ah l 0):=ke (i:=0) Ū
  refine((Fw (ah l 0)).and (aCC vs cs nr 0 k (dp (ah l 0)) h.vl h.cl)).nm fun n ⟨g,m⟩=> ?_
  rw [sB,a0];simp only [Ã,Y,ez,Z,g,m];exact⟨_,rfl,rfl⟩
theorem jK {l:List V} {c k:Int} {j:Nat} (h:(à l:Int)=bQ c k) (hj:(j:Int)<bQ c k):au l (j:Int)=ã (ah l j):=ke ž
theorem bD {c j:Int} (h:c≠j):(c==j)=ä:=beq_eq_false_iff_ne.2 h
theorem aEb (vs:ae) (cs:ai) (nr:Int) (a b:af) (line:O) (fs:af) (out:O) (fu:Int) (dn:Bool) (aD:List V) (c k:Int) (t:O) (l:List V) (at0:Int) (h:qG vs cs nr line fs out aD) (hl: ∀v∈l,bO v) (ho:uZ vs c k t l) (hc:c=1\/c=2\/c=9\/c=10\/c=11\/(12<=c/\c<=29)):
  W fun n=> ∃x,CD n vs cs nr 0 a b line fs out fu dn aD c k t l=ã x/\PO nr a b line fs fu dn (mP (kj nr line fs c k t l) fun v=>eN ⟨vs,cs,aD,out⟩ at0 v) x:=by
 obtain⟨a8,m,bb,ao,ar,bc⟩:=ho;have o0:=eW hl 0;have o1:=eW hl 1;have l0:=lO o0;have push:=fun v=>uX vs cs nr a b line fs out fu dn aD v at0 h.sl
 rcases hc with rfl|rfl|rfl|rfl|rfl|hc
 .refine((kT k).and (push (nV k))).nm fun n ⟨g,x,d,f⟩=> ?_
  rw [kc,g];simp only [Ã,Y,ez,Z,d];exact⟨x,rfl,f⟩
 .refine((mO vs cs nr a b line fs out fu dn 3).and (push (tV t))).nm fun n ⟨g,x,d,f⟩=> ?_
  have d:eo n vs cs nr 0 a b line fs out fu dn aD 2 0 t=ã x:=d;rw [kc,g,d,kj,if_neg (show ¬(2:Int)=1 by omega),if_pos rfl]
  by_cases h3:300<à t
  .rw [hC (show (300:Int)<(à t:Int) by omega),if_pos h3]
   exact⟨_,rfl,ž,rfl⟩
  .rw [hJ (show ¬(300:Int)<(à t:Int) by omega),if_neg h3]
   exact⟨x,rfl,f⟩
 .have a0:au l 0=ã (ah l 0):=jK (j:=0) m ů
  refine((aCK vs cs nr 0 a b line fs out fu dn o0 h.fs).and (push (kV line fs (cN (aK (ah l 0)))))).nm fun n ⟨g,x,d,f⟩=> ?_
  rw [kc,a0];simp only [Ã,Y,ez,Z,g,d];exact⟨x,rfl,f⟩
 .have hw:Þ ß (1000000*nr)=1000000*nr:=by have:=h.nr;rw [Á];omega
  refine((kT (1000000*nr)).and (push (nV (1000000*nr)))).nm fun n ⟨g,x,d,f⟩=> ?_
  rw [kc,hw];simp only [Ã,Y,ez,Z,g,d];exact⟨x,rfl,f⟩
 .have hw:Þ ß (1000000*(à fs:Int))=1000000*(à fs:Int):=by have:=h.fs;rw [Á];omega
  refine((kT (1000000*(à fs:Int))).and (push (nV (1000000*(à fs:Int))))).nm fun n ⟨g,x,d,f⟩=> ?_
  rw [kc,hw];simp only [Ã,Y,ez,Z,g,d];exact⟨x,rfl,f⟩
 by_cases bd:c<=23
 .have ht:bQ c k=2:=by rw [bQ,if_neg ž,if_neg ž,if_neg ž,if_pos ž]
  have a0:au l 0=ã (ah l 0):=jK (j:=0) m ž
  have a1:au l 1=ã (ah l 1):=jK (j:=1) m ž
  have hv:kj nr line fs c k t l=dP c (ah l 0) (ah l 1):=by
   rw [kj,if_neg ž,if_neg ž,if_neg ž,if_neg ž,if_neg ž,if_neg ž,if_neg ž,if_neg ž,if_neg ž,if_neg ž,if_neg ž]
  rw [hv];have hp:W fun n=> ∀v,dP c (ah l 0) (ah l 1)=.inr v-> ∃x,eo n vs cs nr 0 a b line fs out fu dn aD v.1 v.2.1 v.2.2=ã x/\PO nr a b line fs fu dn (eN ⟨vs,cs,aD,out⟩ at0 v) x:=by
   cases hm:dP c (ah l 0) (ah l 1)with
   |inl c=>exact W.of fun n v hv=>by cases hv
   |inr w=>exact(push w).mono fun n hx v hv=>by cases hv;exact hx
  have fin: ∀n (v:V),(∀w,dP c (ah l 0) (ah l 1)=.inr w->v=w)->(∀v,dP c (ah l 0) (ah l 1)=.inr v-> ∃x,eo n vs cs nr 0 a b line fs out fu dn aD v.1 v.2.1 v.2.2=ã x/\PO nr a b line fs fu dn (eN ⟨vs,cs,aD,out⟩ at0 v) x)->(∀q,dP c (ah l 0) (ah l 1)=.inl q->q≠0)->
    ∃x,cond (iD (dP c (ah l 0) (ah l 1))==(0:Int)) ((eo n vs cs nr (iD (dP c (ah l 0) (ah l 1))) a b line fs out fu dn aD v.1 v.2.1 v.2.2).bind fun s=>ã (s.1,s.2.1,s.2.2.1,s.2.2.2.1,s.2.2.2.2.1,s.2.2.2.2.2.1,s.2.2.2.2.2.2.1,s.2.2.2.2.2.2.2.1,s.2.2.2.2.2.2.2.2.1,s.2.2.2.2.2.2.2.2.2.1,s.2.2.2.2.2.2.2.2.2.2.1,s.2.2.2.2.2.2.2.2.2.2.2)) (ã (vs,cs,nr,iD (dP c (ah l 0) (ah l 1)),a,b,line,fs,out,fu,dn,aD))=ã x/\PO nr a b line fs fu dn (mP (dP c (ah l 0) (ah l 1)) fun v=>eN ⟨vs,cs,aD,out⟩ at0 v) x:=fun n v q1 q2 q3=>by
   cases hm:dP c (ah l 0) (ah l 1)with
   |inl q=>
    have:=q3 q hm;rw [show (iD (Ö q)==(0:Int))=ä from bD this];exact⟨_,rfl,this,rfl⟩
   |inr w=>
    have hv:=q1 w hm;subst hv;obtain⟨x,f1,f2⟩:=q2 v hm;simp only [iD,show((0:Int)==0)=å from rfl,Y,f1];exact⟨x,rfl,f2⟩
  have u: ∀q,dP c (ah l 0) (ah l 1)=.inl q->q≠0:=fun q i=>by
   have z: ∀r:Int×Bool,qA r=.inl q->q≠0:=fun r hr=>by
    obtain⟨r1,r2⟩:=r;cases r2
    .cases hr;omega
    .cases hr
   unfold dP at i;split at i
   .unfold cK at i
    split at i
    .exact z _ i
    split at i
    .exact z _ i
    split at i
    .exact z _ i
    split at i
    .cases i;omega
    split at i
    .cases i
    .exact z _ i
   split at i
   .split at i
    .cases i;omega
    .cases i
   .cases i
  by_cases ad:c=17
  .subst ad
   refine((aCS vs cs nr a b line fs out fu dn o0 o1).and hp).nm fun n ⟨⟨v,g,d⟩,f⟩=> ?_
   rw [kc,a0,a1];simp only [Ã,Y,ez,Z,g];exact fin n v d f u
  by_cases ag:c<=16
  .have al:dP c (ah l 0) (ah l 1)=cK (c-12) (aK (ah l 0)) (aK (ah l 1)):=by rw [dP,if_pos ag]
   have hw:Þ ß (c-12)=c-12:=ż
   refine((((kd o0.2.1).and (kd o1.2.1)).and (Oo vs cs nr a b line fs out fu dn (c-12) (aK (ah l 0)) (aK (ah l 1)) ž)).and hp).nm fun n ⟨⟨⟨g,d⟩,v,f,p⟩,e5⟩=> ?_
   rw [<-al]at f p;rw [kc,a0,a1,hw,bD (show c≠1 by omega),bD (show c≠2 by omega),bD (show c≠9 by omega),bD (show c≠10 by omega),bD (show c≠11 by omega),bD ad,bD (show c≠24 by omega),bD (show c≠25 by omega),bD (show c≠26 by omega),bD (show c≠27 by omega),bD (show c≠28 by omega),bD (show c≠29 by omega),hC ag]
   simp only [Y,ez,Z,g,d,f];exact fin n v p e5 u
  .have al:dP c (ah l 0) (ah l 1)=.inr (bV (oR (c-18) (gj (ah l 0) (ah l 1)))):=by rw [dP,if_neg ag,if_neg ad]
   have hw:Þ ß (c-18)=c-18:=ż
   refine((aCT (c-18) o0 o1 ž).and (push (bV (oR (c-18) (gj (ah l 0) (ah l 1)))))).nm fun n ⟨g,x,d,f⟩=> ?_
   rw [al,kc,a0,a1,hw,bD (show c≠1 by omega),bD (show c≠2 by omega),bD (show c≠9 by omega),bD (show c≠10 by omega),bD (show c≠11 by omega),bD ad,bD (show c≠24 by omega),bD (show c≠25 by omega),bD (show c≠26 by omega),bD (show c≠27 by omega),bD (show c≠28 by omega),bD (show c≠29 by omega),hJ ag]
   simp only [Y,ez,Z,g,show((0:Int)==0)=å from rfl,d];exact⟨x,rfl,f⟩
 have ax:c=24\/c=25\/c=26\/c=27\/c=28\/c=29:=ž
 rcases ax with rfl|rfl|rfl|rfl|rfl|rfl
 .have a0:au l 0=ã (ah l 0):=jK (j:=0) m ů
  refine(((jF (ah l 0)).and (ZY t (aI (ah l 0)) (ao (.inl rfl)) ž)).and (push (bV (lQ t (aI (ah l 0)))))).nm fun n ⟨⟨g,d⟩,x,f,p⟩=> ?_
  rw [kc,a0];simp only [Ã,Y,ez,Z,g,d,f];exact⟨x,rfl,p⟩
 .refine((ZY t line (ao (.inr rfl)) h.line).and (push (bV (lQ t line)))).nm fun n ⟨d,x,f,p⟩=> ?_
  rw [kc];simp only [Ã,Y,ez,Z,d,f];exact⟨x,rfl,p⟩
 .have a0:au l 0=ã (ah l 0):=jK (j:=0) m ů
  refine(((Od (ah l 0)).and (Fv (!iv (ah l 0)))).and (push (bV (!iv (ah l 0))))).nm fun n ⟨⟨g,d⟩,x,f,p⟩=> ?_
  rw [kc,a0];simp only [Ã,Y,ez,Z,g,d,f];exact⟨x,rfl,p⟩
 .have a0:au l 0=ã (ah l 0):=jK (j:=0) m ů
  have hw:Þ ß (0-aK (ah l 0))=0-aK (ah l 0):=by have:=dZ (kM o0);rw [Á];omega
  refine(((kd o0.2.1).and (kT (0-aK (ah l 0)))).and (push (nV (0-aK (ah l 0))))).nm fun n ⟨⟨g,d⟩,x,f,p⟩=> ?_
  rw [kc,a0];simp only [Ã,Y,ez,Z,g,hw,d,f];exact⟨x,rfl,p⟩
 .have a0:au l 0=ã (ah l 0):=jK (j:=0) m ů
  refine(((Od (ah l 0)).and (Fv (iv (ah l 0)))).and (push (bV (iv (ah l 0))))).nm fun n ⟨⟨g,d⟩,x,f,p⟩=> ?_
  rw [kc,a0];simp only [Ã,Y,ez,Z,g,d,f];exact⟨x,rfl,p⟩
 .obtain⟨p1,p2,p3⟩:=ar rfl
  have ht:bQ 29 k=k:=ů
  refine((aDf t l hl ž p3).and (push (jG t l))).nm fun n ⟨d,x,f,p⟩=> ?_
  rw [kc];simp only [Ã,Y,ez,Z,d,f];exact⟨x,rfl,p⟩
def OT (nr:Int) (a b:af) (line:O) (fs:af) (fu:Int) (dn:Bool) (r:gY) (x:Int×Bool×WS):Prop:=match r with
 |.err c=>c≠0/\x.2.2.2.2.2.1=c
 |.halt s=>x.2.1=ä/\x.2.2=zr nr a b line fs fu dn s
 |.go k s=>x=(k,å,zr nr a b line fs fu dn s)
def zt (vs:List V) (c k:Int) (t:O):Prop:=In c 1 36/\(c=3\/c=4\/c=5->0<=k/\k<(à vs:Int))/\(c=1->aW k)/\(c=24\/c=25->(im t).2.2.2.2.2=å)/\(c=29->1<=k/\k<=3/\t∈jt)/\(c=33->k=0\/k=1)
theorem aaC {vs:List V} {c k:Int} {t:O} (h:zt vs c k t):0<=bQ c k/\bQ c k<=3:=by
 unfold bQ;split
 .omega
 split
 .omega
 split
 .rename_i b
  have:=h.2.2.2.2.1 b;omega
 split<;>omega
def nN (r:gY) (at0:Int):Prop:=match r with
 |.go j _=>j=at0
 |.halt _=>False
 |.err _=>True
theorem sK (s:cV) (at0:Int) (v:V):nN (eN s at0 v) at0:=by
 unfold eN;split
 .exact trivial
 .exact rfl
theorem Aw (s:cV) (at0 k:Int) (key:O) (v:V):nN (ki s at0 k key v) at0:=by
 unfold ki;split
 .exact trivial
 .exact sK _ _ _
theorem FP {r:Sum Int V} {f:V->gY} {at0:Int} (h: ∀v,nN (f v) at0):nN (mP r f) at0:=by
 cases r
 .exact trivial
 .exact h _
theorem OU (s:cV) (at0 c k:Int) (l:List V):nN (iE s at0 c k l) at0:=by
 unfold iE;repeat' split
 .exact sK _ _ _
 .exact sK _ _ _
 .exact FP fun v=>sK _ _ _
 .exact sK _ _ _
 .exact Aw _ _ _ _ _
 .exact FP fun v=>Aw _ _ _ _ _
 .exact rfl
theorem aaD {nr:Int} {a b:af} {line:O} {fs:af} {fu:Int} {dn:Bool} {r:gY} {x:WS} {at0:Int} (h:PO nr a b line fs fu dn r x) (d:nN r at0):OT nr a b line fs fu dn r (at0,å,x):=by
 cases r with
 |err c=>exact h
 |halt s=>exact absurd h id
 |go j s=>
  have h:x=zr nr a b line fs fu dn s:=h;have d:j=at0:=d;subst h d;exact rfl
theorem OV (at0:Int) (n:Nat) (vs:ae) (cs:ai) (nr:Int) (a b:af) (line:O) (fs:af) (out:O) (fu:Int) (dn:Bool) (aD:List V) (t:O) (e:nw n vs cs nr 0 a b line fs out fu dn t=ã (cond (á (600<à out+à t)) (vs,cs,nr,cond ((0:Int)==0) 5 0,a,b,line,fs,out,fu,dn) (vs,cs,nr,0,a,b,line,fs,out++t,fu,dn))):
  ∃w,nw n vs cs nr 0 a b line fs out fu dn t=ã w/\OT nr a b line fs fu dn (fD ⟨vs,cs,aD,out⟩ at0 t) (at0,å,w.1,w.2.1,w.2.2.1,w.2.2.2.1,w.2.2.2.2.1,w.2.2.2.2.2.1,w.2.2.2.2.2.2.1,w.2.2.2.2.2.2.2.1,w.2.2.2.2.2.2.2.2.1,w.2.2.2.2.2.2.2.2.2.1,w.2.2.2.2.2.2.2.2.2.2,aD):=by
 rw [e];refine⟨_,rfl, ?_⟩
 unfold fD;dsimp only
 by_cases h:600<à out+à t
 .rw [hC h,if_pos h];exact⟨ž,rfl⟩
 .rw [hJ h,if_neg h];exact rfl
theorem aEc (vs:ae) (cs:ai) (nr:Int) (a b:af) (line:O) (fs:af) (out:O) (fu:Int) (dn:Bool) (aD:List V) (c k:Int) (t:O) (at0:Int) (h:qG vs cs nr line fs out aD) (ho:zt vs c k t) (ha:0<=at0/\at0<=1000000):
  W fun n=> ∃x,Cx n vs cs nr 0 a b line fs out fu dn aD c k t at0=ã x/\OT nr a b line fs fu dn (iG nr line fs ⟨vs,cs,aD,out⟩ at0 c k t) x:=by
 obtain⟨t0,t3⟩:=aaC ho;have bj:=h.sl;have z:Þ ß (at0+1)=at0+1:=ż
 have hw:Þ ß ((à aD:Int)-bQ c k)=(à aD:Int)-bQ c k:=ż
 by_cases hs:(à aD:Int)<bQ c k
 .refine((aaB c k t).and (mO vs cs nr a b line fs out fu dn 7)).nm fun n ⟨m,e2⟩=> ?_
  rw [nB,m,Z,hw,hC ž,Y,e2,iG,if_pos hs]
  exact⟨_,rfl,ž,rfl⟩
 obtain⟨j,hj⟩: ∃j:Nat,j=à aD-(bQ c k).toNat:=⟨_,rfl⟩
 have bk:j<=à aD:=ž
 have p:(à aD:Int)-bQ c k=(j:Int):=ž
 obtain⟨l,hl⟩: ∃l,l=aD.drop j:=⟨_,rfl⟩
 obtain⟨s',ao⟩: ∃s',s'=aD.take j:=⟨_,rfl⟩
 have aw: ∀v∈l,bO v:=fun v hv=>h.s v (Ý (hl▸hv))
 have aj:(à l:Int)=bQ c k:=by rw [hl,È];omega
 have h':qG vs cs nr line fs out s':=⟨h.v,h.vl,h.c,h.cl,h.nr,h.line,h.fs,h.out,fun v hv=>h.s v (Α (ao▸hv)),by rw [ao,Ω];omega⟩
 have a1:uZ vs c k t l:=⟨ho.2.1,aj,ho.2.2.1,ho.2.2.2.1,ho.2.2.2.2.1,ho.2.2.2.2.2⟩;have o0:=eW aw 0;have l0:=lO o0;have bb:iG nr line fs ⟨vs,cs,aD,out⟩ at0 c k t=iF nr line fs ⟨vs,cs,s',out⟩ at0 c k t l:=by rw [iG,if_neg hs];dsimp only;rw [<-hj,<-hl,<-ao]
 rw [bb];have q:(aD.drop (Ç (j:Int))).take (à aD-Ç (j:Int))=l:=by rw [Â,Fy,hl]
 have r:aD.take (Ç (j:Int))=s':=by rw [Â,ao]
 have u:υ (Ç (j:Int)) (à aD)=å:=Ô ž
 have f:á ((0:Int)<=(j:Int)/\(j:Int)<=(à aD:Int))=å:=hC ž
 have d:=aaB c k t;have g:á ((j:Int)<0)=ä:=hJ ž
 have i:υ (0+à l) big=å:=aX ž
 have d0:1<=à l->á ((0:Int)<=0/\(0:Int)<(à l:Int))=å:=fun h=>hC ž
 have a0:1<=à l->aO l 0=ã (ah l 0):=fun h=>by
  show l[0]? =_;rw [ah,Ë,Ê (show 0<à l by omega)];rfl
 by_cases ak:c=36
 .subst ak
  refine d.nm fun n m=> ?_
  rw [nB,m,Z,hw,p,g,q,r,u,i,f];exact⟨_,rfl,rfl,rfl⟩
 by_cases al:c=30
 .subst al
  refine d.nm fun n m=> ?_
  rw [nB,m,Z,hw,p,g,q,r,u,i,f];exact⟨_,rfl,rfl⟩
 by_cases aq:c=31
 .subst aq
  have h1:1<=à l:=by rw [bQ]at aj;simp at aj;omega
  refine(d.and (Od (ah l 0))).nm fun n ⟨m,e2⟩=> ?_
  rw [nB,m,Z,hw,p,g,q,r,u,i,f,d0 h1,a0 h1,z];simp only [Ã,Y,ez,Z,e2];rw [iF,if_neg ak,if_neg al,if_pos rfl];cases iv (ah l 0)
  .exact⟨_,rfl,rfl⟩
  .exact⟨_,rfl,rfl⟩
 by_cases au:c=32
 .subst au
  refine d.nm fun n m=> ?_
  rw [nB,m,Z,hw,p,g,q,r,u,i,f,z];exact⟨_,rfl,rfl⟩
 by_cases ax:c=33
 .subst ax
  have h1:1<=à l:=by rw [bQ]at aj;simp at aj;omega
  rw [iF,if_neg ak,if_neg al,if_neg aq,if_neg au,if_pos rfl];by_cases k1:k=1
  .subst k1
   rw [if_pos rfl];by_cases a6:600<à out+1
   .have hf:fD ⟨vs,cs,s',out⟩ (at0+1) ([32]++aI (ah l 0))=.err 5:=by
     unfold fD;rw [if_pos];rw [À];show 600<à out+(1+(aI (ah l 0)).length);omega
    refine(((d.and (jF (ah l 0))).and (uY vs cs nr 0 a b line fs out fu dn [32] h.out Ż)).and (uY vs cs nr 5 a b line fs out fu dn (aI (ah l 0)) h.out ž)).nm fun n ⟨⟨⟨m,e2⟩,e3⟩,e4⟩=> ?_
    rw [hC (show 600<à out+([32]:O).length from a6)]at e3;have e3:nw n vs cs nr 0 a b line fs out fu dn [32]=ã (vs,cs,nr,5,a,b,line,fs,out,fu,dn):=e3;rw [nB,m,Z,hw,p,g,q,r,u,i,f,d0 h1,a0 h1,z];simp only [Ã,Y,ez,Z,e3,e2,e4];rw [hf];cases á (600<à out+(aI (ah l 0)).length)
    .exact⟨_,rfl,ž,rfl⟩
    .exact⟨_,rfl,ž,rfl⟩
   .have hf:fD ⟨vs,cs,s',out⟩ (at0+1) ([32]++aI (ah l 0))=fD ⟨vs,cs,s',out++[32]⟩ (at0+1) (aI (ah l 0)):=by
     unfold fD;dsimp only
     rw [Å,À,À,Nat.add_assoc]
    refine(((d.and (jF (ah l 0))).and (uY vs cs nr 0 a b line fs out fu dn [32] h.out Ż)).and (uY vs cs nr 0 a b line fs (out++[32]) fu dn (aI (ah l 0)) ő ž)).nm fun n ⟨⟨⟨m,e2⟩,e3⟩,e4⟩=> ?_
    rw [hJ (show ¬600<à out+([32]:O).length from a6)]at e3;obtain⟨w,f1,f2⟩:=OV (at0+1) n vs cs nr a b line fs (out++[32]) fu dn s' (aI (ah l 0)) e4;have e3:nw n vs cs nr 0 a b line fs out fu dn [32]=ã (vs,cs,nr,0,a,b,line,fs,out++[32],fu,dn):=e3;rw [nB,m,Z,hw,p,g,q,r,u,i,f,d0 h1,a0 h1,z];simp only [Ã,Y,ez,Z,e3,e2,f1];rw [hf];exact⟨_,rfl,f2⟩
  .rw [if_neg k1,Ρ]
   refine((d.and (jF (ah l 0))).and (uY vs cs nr 0 a b line fs out fu dn (aI (ah l 0)) h.out ž)).nm fun n ⟨⟨m,e2⟩,e4⟩=> ?_
   obtain⟨w,f1,f2⟩:=OV (at0+1) n vs cs nr a b line fs out fu dn s' (aI (ah l 0)) e4;rw [nB,m,Z,hw,p,g,q,r,u,i,f,d0 h1,a0 h1,z,bD k1];simp only [Ã,Y,ez,Z,e2,f1];exact⟨_,rfl,f2⟩
 by_cases az:c=34
 .subst az
  refine(d.and (uY vs cs nr 0 a b line fs out fu dn [10] h.out Ż)).nm fun n ⟨m,e4⟩=> ?_
  obtain⟨w,f1,f2⟩:=OV (at0+1) n vs cs nr a b line fs out fu dn s' [10] e4;rw [nB,m,Z,hw,p,g,q,r,u,i,f,z];simp only [Ã,Y,ez,Z,f1];exact⟨_,rfl,f2⟩
 have cn: ∀n,Cy n c k t=ã (bQ c k)->Cx (n+1) vs cs nr 0 a b line fs out fu dn aD c k t at0=cond (á (c=3\/c=4\/c=5\/c=6\/c=7\/c=8\/c=35)) ((nx n vs cs nr 0 a b line fs out fu dn s' c k t l).bind fun y=>ã (at0+1,å,y)) ((CD n vs cs nr 0 a b line fs out fu dn s' c k t l).bind fun y=>ã (at0+1,å,y)):=fun n m=>by
  rw [nB,m,Z,hw,p,g,q,r,u,i,f,z,bD ak,bD al,bD aq,bD au,bD ax,bD az];by_cases d3:c=3\/c=4\/c=5\/c=6\/c=7\/c=8\/c=35
  .rw [hC d3]
   rcases d3 with rfl|rfl|rfl|rfl|rfl|rfl|rfl<;>rfl
  .rw [hJ d3,bD (show c≠3 by omega),bD (show c≠4 by omega),bD (show c≠5 by omega),bD (show c≠6 by omega),bD (show c≠7 by omega),bD (show c≠8 by omega),bD (show c≠35 by omega)]
   rfl
 have hd:iF nr line fs ⟨vs,cs,s',out⟩ at0 c k t l=if c=3\/c=4\/c=5\/c=6\/c=7\/c=8\/c=35 then iE ⟨vs,cs,s',out⟩ (at0+1) c k l else mP (kj nr line fs c k t l) fun v=>eN ⟨vs,cs,s',out⟩ (at0+1) v:=by
  rw [iF,if_neg ak,if_neg al,if_neg aq,if_neg au,if_neg ax,if_neg az]
 rw [hd];by_cases d3:c=3\/c=4\/c=5\/c=6\/c=7\/c=8\/c=35
 .refine(d.and (aEa vs cs nr a b line fs out fu dn s' c k t l (at0+1) h' aw a1 d3)).nm fun n ⟨m,x,e2,e3⟩=> ?_
  rw [cn n m,hC d3,Y,e2,if_pos d3];exact⟨_,rfl,aaD e3 (OU _ _ _ _ _)⟩
 .have bn:=ho.1.1
  have bh:=ho.1.2;refine(d.and (aEb vs cs nr a b line fs out fu dn s' c k t l (at0+1) h' aw a1 ž)).nm fun n ⟨m,x,e2,e3⟩=> ?_
  rw [cn n m,hJ d3,ez,e2,if_neg d3];exact⟨_,rfl,aaD e3 (FP fun v=>sK _ _ _)⟩
abbrev WI:=ae×(ai×Int×Int×O×O×ae×Int)
def zu (nr:Int) (line:O) (s:cV):WI:=(s.vs,s.cs,nr,0,line,s.out,s.aD,0)
def IO (nr:Int) (line:O) (r:gY) (x:WI):Prop:=match r with
 |.err c=>c≠0/\x.2.2.2.2.2.2.2=c
 |.halt _=>False
 |.go _ s=>x=zu nr line s
theorem aaE (vs:ae) (cs:ai) (nr er:Int) (line out:O) (aD:List V) (err c:Int):W fun n=>my n vs cs nr er line out aD err c=ã (vs,cs,nr,er,line,out,aD,cond (err==0) c err):=W.succ (W.of fun n=>by
 rw [auX];cases err==0<;>rfl)
theorem sL (vs:ae) (cs:ai) (nr:Int) (line out:O) (aD:List V) (c:Int):W fun n=>my n vs cs nr 0 line out aD 0 c=ã (vs,cs,nr,0,line,out,aD,c):=aaE vs cs nr 0 line out aD 0 c
theorem FQ (vs:ae) (cs:ai) (nr:Int) (line out:O) (aD:List V) (v:V) (at0:Int) (b:à aD<=64):W fun n=> ∃x,fB n vs cs nr 0 line out aD 0 v.1 v.2.1 v.2.2=ã x/\IO nr line (eN ⟨vs,cs,aD,out⟩ at0 v) x:=by
 refine(sL vs cs nr line out aD 7).nm fun n e=> ?_
 rw [avB];by_cases h:à aD=64
 .rw [hC (show (64:Int)<=(à aD:Int) by omega),Y,e,eN,if_pos h]
  exact⟨_,rfl,ž,rfl⟩
 .rw [hJ (show ¬(64:Int)<=(à aD:Int) by omega),ez,aX ž,eN,if_neg h]
  exact⟨_,rfl,rfl⟩
theorem aaF (vs:ae) (cs:ai) (nr:Int) (line out:O) (aD:List V) (k:Int) (key:O) (v:V) (at0:Int) (i:à aD<=64) (g:à vs<=1048576) (h:à cs<=1048576):W fun n=> ∃x,uu n vs cs nr 0 line out aD 0 k key v.1 v.2.1 v.2.2=ã x/\IO nr line (ki ⟨vs,cs,aD,out⟩ at0 k key v) x:=by
 cases hp:mN cs k key v with
 |none=>
  refine((Za vs cs nr 0 k key v g h).and (sL vs cs nr line out aD 4)).nm fun n ⟨b,d⟩=> ?_
  rw [Np,b,hp,ki,hp];simp only [nJ,Z,Ü,Y,d];exact⟨_,rfl,ž,rfl⟩
 |some f=>
  refine((Za vs cs nr 0 k key v g h).and (FQ vs f nr line out aD v at0 i)).nm fun n ⟨b,x,d,j⟩=> ?_
  rw [Np,b,hp,ki,hp];simp only [nJ,Z,Ä,ez,d];exact⟨x,rfl,j⟩
theorem aEd (n:Nat) (vs:ae) (cs:ai) (nr er:Int) (line out:O) (aD:List V) (err k:Int) (key:O) (x y:Int) (z:O) (h:err≠0):uu (n+1) vs cs nr er line out aD err k key x y z=ã (vs,cs,nr,er,line,out,aD,err):=by
 rw [Np,show(err !=0)=å by simpa using h];rfl
theorem FR (vs:ae) (cs:ai) (nr:Int) (line out:O) (aD:List V) (err:Int) (t:O) (b:à out<=2000) (d:à t<=1048576):W fun n=>uw n vs cs nr 0 line out aD err t=ã (vs,cs,nr,0,line,out++t,aD,cond (á (600<à out+à t)) (cond (err==0) 5 err) err):=by
 refine(aaE vs cs nr 0 line (out++t) aD err 5).nm fun n e=> ?_
 rw [avO,tx ž,e,À]
 by_cases h:600<à out+à t
 .rw [hC (show (600:Int)<((à out+à t:Nat):Int) by omega),hC h];rfl
 .rw [hJ (show ¬(600:Int)<((à out+à t:Nat):Int) by omega),hJ h];rfl
theorem aaG (vs:ae) (cs:ai) (nr:Int) (line out:O) (aD:List V) {x y:V} (b:bO x) (hy:bO y):W fun n=> ∃v:V,DQ n vs cs nr 0 line out aD 0 x.1 x.2.1 x.2.2 y.1 y.2.1 y.2.2=ã (v.1,v.2.1,v.2.2,vs,cs,nr,0,line,out,aD,iD (cK 0 (aK x) (aK y)))/\ ∀w,cK 0 (aK x) (aK y)=.inr w->v=w:=by
 refine(((((oO b.2.1).and (oO hy.2.1)).and (YR (aK x) (aK y))).and (sL vs cs nr line out aD 1)).and (nH (gx (aK x) (aK y)).1)).nm fun n ⟨⟨⟨⟨d,f⟩,g⟩,h⟩,i⟩=> ?_
 rw [avC,d,Z,f,Z,g,Z,h,i,cK,if_pos rfl];obtain⟨p,q⟩:=gx (aK x) (aK y);cases q
 .exact⟨nV p,rfl,fun w k=>ń⟩
 .exact⟨nV p,rfl,fun w k=>Ť⟩
theorem aaH {x y c:Int} (hm:cK 0 x y=.inl c):c=1:=by
 rw [cK,if_pos rfl]at hm;revert hm
 obtain⟨p,q⟩:=gx x y;cases q<;>intro hm<;>cases hm;rfl
theorem FT (v:V):W fun n=> ∃s,iC n v.1 v.2.1 v.2.2=ã s/\qm n s=ã (dp v):=by
 refine((nI v).and (YT (aI v))).mono fun n ⟨b,d⟩=>⟨aI v,b,d⟩
theorem aEe (vs:ae) (cs:ai) (nr:Int) (line out:O) (aD:List V) (fs:List O) (c k:Int) (t:O) (l:List V) (at0:Int) (h:qG vs cs nr line fs out aD) (hl: ∀v∈l,bO v) (ho:uZ vs c k t l) (u:c=4\/c=5\/c=7\/c=8\/c=35\/c=33\/c=34):
  W fun n=> ∃x,oH n vs cs nr 0 line out aD 0 c k t l=ã x/\IO nr line (if c=33 then fD ⟨vs,cs,aD,out⟩ at0 ((if k=1 then [32]else [])++aI (ah l 0))else if c=34 then fD ⟨vs,cs,aD,out⟩ at0 [10]else iE ⟨vs,cs,aD,out⟩ at0 c k l) x:=by
 obtain⟨z,b, -⟩:=ho;have o0:=eW hl 0;have o1:=eW hl 1;have l0:=lO o0;rcases u with rfl|rfl|rfl|rfl|rfl|rfl|rfl
 .obtain⟨p,q⟩:=z (.inr (.inl rfl))
  have a0:au l 0=ã (ah l 0):=jK (j:=0) b ů
  refine(FQ (vs.set k.toNat (ah l 0)) cs nr line out aD (ah l 0) at0 h.sl).nm fun n ⟨x,e,e'⟩=> ?_
  rw [qs,qF p q,qE p q,a0];simp only [Z];have e:fB n (vs.set (Ç k) ((ah l 0).1,(ah l 0).2.1,(ah l 0).2.2)) cs nr 0 line out aD 0 (ah l 0).1 (ah l 0).2.1 (ah l 0).2.2=ã x:=e;rw [e];exact⟨x,rfl,e'⟩
 .obtain⟨p,q⟩:=z (.inr (.inr rfl))
  have a0:au l 0=ã (ah l 0):=jK (j:=0) b ů
  have ov:=eW h.v k.toNat;refine((aaG vs cs nr line out aD ov o0).and (show W fun n=> ∀v,cK 0 (aK (ah vs k.toNat)) (aK (ah l 0))=.inr v-> ∃x,fB n (vs.set k.toNat v) cs nr 0 line out aD 0 v.1 v.2.1 v.2.2=ã x/\IO nr line (eN ⟨vs.set k.toNat v,cs,aD,out⟩ at0 v) x from ?_)).nm fun n ⟨⟨v,e3,e4⟩,e5⟩=> ?_
  .cases hm:cK 0 (aK (ah vs k.toNat)) (aK (ah l 0))with
   |inl c=>exact W.of fun n v f=>by cases f
   |inr w=>exact(FQ (vs.set k.toNat w) cs nr line out aD w at0 h.sl).mono fun n hx v f=>Đ
  .rw [qs,qF p q,qE p q,a0]
   simp only [Ã,Y,ez,Z,e3];rw [if_neg (show ¬(5:Int)=33 by omega),if_neg (show ¬(5:Int)=34 by omega),iE,if_neg (show ¬(5:Int)=3 by omega),if_neg (show ¬(5:Int)=4 by omega),if_pos rfl]
   dsimp only
   cases hm:cK 0 (aK (ah vs k.toNat)) (aK (ah l 0))with
   |inl c=>
    have u:=aaH hm;subst u;exact⟨_,rfl,ž,rfl⟩
   |inr w=>
    have f:=e4 w hm;subst f;obtain⟨x,f1,f2⟩:=e5 v hm;rw [qF p q];simp only [iD,show((0:Int)==0)=å from rfl,Y];rw [qE p q,Z];have f1:fB n (vs.set (Ç k) (v.1,v.2.1,v.2.2)) cs nr 0 line out aD 0 v.1 v.2.1 v.2.2=ã x:=f1;rw [f1];exact⟨x,rfl,f2⟩
 .have a0:au l 0=ã (ah l 0):=jK (j:=0) b ů
  have a1:au l 1=ã (ah l 1):=jK (j:=1) b ů
  refine((FT (ah l 0)).and (aaF vs cs nr line out aD k (dp (ah l 0)) (ah l 1) at0 h.sl h.vl h.cl)).nm fun n ⟨⟨s,i,m⟩,x,e3,e4⟩=> ?_
  rw [qs,a0,a1];simp only [Ã,Y,ez,Z,i,m,e3];exact⟨x,rfl,e4⟩
 .have a0:au l 0=ã (ah l 0):=jK (j:=0) b ů
  have a1:au l 1=ã (ah l 1):=jK (j:=1) b ů
  have og:bO (fN cs k (dp (ah l 0))):=OS h.c;refine((((FT (ah l 0)).and (YV vs cs nr 0 k (dp (ah l 0)) h.cl)).and (aaG vs cs nr line out aD og o1)).and ((W.ge 1).and (show W fun n=> ∀v,cK 0 (aK (fN cs k (dp (ah l 0)))) (aK (ah l 1))=.inr v-> ∃x,uu n vs cs nr 0 line out aD 0 k (dp (ah l 0)) v.1 v.2.1 v.2.2=ã x/\IO nr line (ki ⟨vs,cs,aD,out⟩ at0 k (dp (ah l 0)) v) x from ?_))).nm fun n ⟨⟨⟨⟨s,i,m⟩,g⟩,v,e4,e5⟩,hn,e6⟩=> ?_
  .cases hm:cK 0 (aK (fN cs k (dp (ah l 0)))) (aK (ah l 1))with
   |inl c=>exact W.of fun n v f=>by cases f
   |inr w=>exact(aaF vs cs nr line out aD k (dp (ah l 0)) w at0 h.sl h.vl h.cl).mono fun n hx v f=>Đ
  .obtain⟨n,rfl⟩: ∃q,n=q+1:=⟨n-1,ž⟩
   rw [qs,a0,a1];simp only [Ã,Y,ez,Z,i,m,g,e4];rw [if_neg (show ¬(8:Int)=33 by omega),if_neg (show ¬(8:Int)=34 by omega),iE,if_neg (show ¬(8:Int)=3 by omega),if_neg (show ¬(8:Int)=4 by omega),if_neg (show ¬(8:Int)=5 by omega),if_neg (show ¬(8:Int)=6 by omega),if_neg (show ¬(8:Int)=7 by omega),if_pos rfl]
   dsimp only
   cases hm:cK 0 (aK (fN cs k (dp (ah l 0)))) (aK (ah l 1))with
   |inl c=>
    have u:=aaH hm;subst u;rw [aEd _ _ _ _ _ _ _ _ _ _ _ _ _ _ (show iD (.inl 1)≠0 from ŷ)]
    exact⟨_,rfl,ž,rfl⟩
   |inr w=>
    have f:=e5 w hm;subst f;obtain⟨x,f1,f2⟩:=e6 v hm;simp only [iD];rw [f1];exact⟨x,rfl,f2⟩
 .have a0:au l 0=ã (ah l 0):=jK (j:=0) b ů
  refine((FT (ah l 0)).and (aCD vs cs nr 0 k (dp (ah l 0)) h.vl h.cl)).nm fun n ⟨⟨s,i,m⟩,g⟩=> ?_
  rw [qs,a0];simp only [Ã,Y,ez,Z,i,m,g];exact⟨_,rfl,rfl⟩
 .have a0:au l 0=ã (ah l 0):=jK (j:=0) b ů
  have ho:=h.out;rw [if_pos rfl];by_cases k1:k=1
  .subst k1
   rw [if_pos rfl];obtain⟨i,r⟩: ∃i,i=cond (á (600<à out+([32]:O).length)) (cond ((0:Int)==0) (5:Int) 0) 0:=⟨_,rfl⟩
   refine(((nI (ah l 0)).and (FR vs cs nr line out aD 0 [32] ž Ż)).and (FR vs cs nr line (out++[32]) aD i (aI (ah l 0)) ź ž)).nm fun n ⟨⟨m,g⟩,e3⟩=> ?_
   rw [<-r]at g;rw [qs,a0];simp only [Ã,Y,ez,Z,m,g,e3];refine⟨_,rfl, ?_⟩
   unfold fD;dsimp only
   by_cases d:600<à out+([32]++aI (ah l 0)).length
   .rw [if_pos d]
    refine⟨ž, ?_⟩
    rw [À]at d;rw [hC (show 600<(out++([32]:O)).length+(aI (ah l 0)).length by rw [À];omega),Y,r]
    cases á (600<à out+([32]:O).length)<;>rfl
   .rw [if_neg d]
    rw [À]at d;rw [hJ (show ¬600<(out++([32]:O)).length+(aI (ah l 0)).length by rw [À];omega),ez,r,hJ (show ¬600<à out+([32]:O).length by omega),ez,Å]
    exact rfl
  .rw [if_neg k1,Ρ]
   refine((nI (ah l 0)).and (FR vs cs nr line out aD 0 (aI (ah l 0)) ž ž)).nm fun n ⟨m,g⟩=> ?_
   rw [qs,a0,bD k1];simp only [Ã,Y,ez,Z,m,g];refine⟨_,rfl, ?_⟩
   unfold fD;dsimp only
   by_cases d:600<à out+(aI (ah l 0)).length
   .rw [if_pos d,hC d];exact⟨ž,rfl⟩
   .rw [if_neg d,hJ d];exact rfl
 .have ho:=h.out
  refine(FR vs cs nr line out aD 0 [10] ž Ż).nm fun n g=> ?_
  rw [qs,g,if_neg (show ¬(34:Int)=33 by omega),if_pos rfl]
  refine⟨_,rfl, ?_⟩
  unfold fD;dsimp only
  by_cases d:600<à out+([10]:O).length
  .rw [if_pos d,hC d];exact⟨ž,rfl⟩
  .rw [if_neg d,hJ d];exact rfl
theorem vd {l:List V} {c k:Int} {j:Nat} (h:(à l:Int)=bQ c k) (hj:(j:Int)<bQ c k):aO l j=ã (ah l j):=by
 show l[j]? =_;rw [ah,Ë,Ê (show j<à l by omega)];rfl
theorem aEf {c q:Int} {x y:V} (b:dP c x y=.inl q):q≠0:=by
 have d: ∀r:Int×Bool,qA r=.inl q->q≠0:=fun r f=>by
  obtain⟨h,g⟩:=r;cases g
  .cases f;omega
  .cases f
 unfold dP at b;split at b
 .unfold cK at b
  split at b
  .exact d _ b
  split at b
  .exact d _ b
  split at b
  .exact d _ b
  split at b
  .cases b;omega
  split at b
  .cases b
  .exact d _ b
 split at b
 .split at b
  .cases b;omega
  .cases b
 .cases b
theorem aEg (vs:ae) (cs:ai) (nr:Int) (line out:O) (aD:List V) (c k:Int) (t:O) (l:List V) (at0:Int) (h:qG vs cs nr line (bk [] line) out aD) (hl: ∀v∈l,bO v) (ho:uZ vs c k t l) (hc:c=1\/c=2\/c=3\/c=6\/c=9\/c=10\/c=11\/(12<=c/\c<=29)):
  W fun n=> ∃x,LK n vs cs nr 0 line out aD 0 c k t l=ã x/\IO nr line (if c=3\/c=6 then iE ⟨vs,cs,aD,out⟩ at0 c k l else mP (kj nr line (bk [] line) c k t l) fun v=>eN ⟨vs,cs,aD,out⟩ at0 v) x:=by
 obtain⟨af,g,az,z,ag,a6⟩:=ho;have u:=eW hl 0;have o1:=eW hl 1;have l0:=lO u;have i:=h.line;have aj:=h.fs;have a7:=h.nr;have push:=fun v=>FQ vs cs nr line out aD v at0 h.sl
 rcases hc with rfl|rfl|rfl|rfl|rfl|rfl|rfl|hc
 .refine((nH k).and (push (nV k))).nm fun n ⟨f,x,d,b⟩=> ?_
  rw [jC,f];simp only [Ã,Y,ez,Z,d];exact⟨x,rfl,b⟩
 .refine(((sG t).and (sL vs cs nr line out aD 3)).and (push (tV t))).nm fun n ⟨⟨r,f⟩,x,d,b⟩=> ?_
  rw [jC,r,f,if_neg (show ¬((2:Int)=3\/(2:Int)=6) by omega),kj,if_neg (show ¬(2:Int)=1 by omega),if_pos rfl]
  simp only [Ã,Y,ez,Z,d];by_cases h3:300<à t
  .rw [hC (show (300:Int)<(à t:Int) by omega),if_pos h3]
   exact⟨_,rfl,ž,rfl⟩
  .rw [hJ (show ¬(300:Int)<(à t:Int) by omega),if_neg h3]
   exact⟨x,rfl,b⟩
 .obtain⟨p,q⟩:=af (.inl rfl)
  refine(push (ah vs k.toNat)).nm fun n ⟨x,e,e'⟩=> ?_
  rw [jC,qF p q,qE p q];simp only [Ã,Y,ez,Z,e];exact⟨x,rfl,e'⟩
 .have a0:=vd (l:=l) (j:=0) g ů
  have d0:á ((0:Int)<=0/\(0:Int)<(à l:Int))=å:=hC (by rw [g,bQ];simp)
  refine(((FT (ah l 0)).and (YV vs cs nr 0 k (dp (ah l 0)) h.cl)).and (push (fN cs k (dp (ah l 0))))).nm fun n ⟨⟨⟨s,r,f⟩,d⟩,x,b,m⟩=> ?_
  rw [jC,a0,d0];simp only [Ã,Y,ez,Z,r,f,d,b];exact⟨x,rfl,m⟩
 .have a0:=vd (l:=l) (j:=0) g ů
  have d0:á ((0:Int)<=0/\(0:Int)<(à l:Int))=å:=hC (by rw [g,bQ];simp)
  refine(((Fz u).and (aCJ line (cN (aK (ah l 0))) i aj)).and (push (kV line (bk [] line) (cN (aK (ah l 0)))))).nm fun n ⟨⟨r,f⟩,x,d,b⟩=> ?_
  rw [jC,a0,d0];simp only [Ã,Y,ez,Z,r,f,d];exact⟨x,rfl,b⟩
 .have hw:Þ ß (nr*1000000)=1000000*nr:=by rw [Á];omega
  refine((nH (1000000*nr)).and (push (nV (1000000*nr)))).nm fun n ⟨f,x,d,b⟩=> ?_
  rw [jC,hw];simp only [Ã,Y,ez,Z,f,d];exact⟨x,rfl,b⟩
 .have hw:Þ ß (((bk [] line).length:Int)*1000000)=1000000*((bk [] line).length:Int):=by rw [Á];omega
  refine(((Om line i).and (nH (1000000*((bk [] line).length:Int)))).and (push (nV (1000000*((bk [] line).length:Int))))).nm fun n ⟨⟨r,f⟩,x,d,b⟩=> ?_
  rw [jC,r];simp only [Ã,Y,ez,Z,hw,f,d];exact⟨x,rfl,b⟩
 rw [if_neg (show ¬(c=3\/c=6) by omega)]
 by_cases bb:c<=23
 .have ht:bQ c k=2:=by rw [bQ,if_neg ž,if_neg ž,if_neg ž,if_pos ž]
  have a0:=vd (l:=l) (j:=0) g ž
  have a1:=vd (l:=l) (j:=1) g ž
  have d0:á ((0:Int)<=0/\(0:Int)<(à l:Int))=å:=hC ž
  have d1:á ((0:Int)<=1/\(1:Int)<(à l:Int))=å:=hC ž
  have hv:kj nr line (bk [] line) c k t l=dP c (ah l 0) (ah l 1):=by
   rw [kj,if_neg ž,if_neg ž,if_neg ž,if_neg ž,if_neg ž,if_neg ž,if_neg ž,if_neg ž,if_neg ž,if_neg ž,if_neg ž]
  rw [hv];have hw:Þ ß (Þ ß (c-12)+9)=c-12+9:=ū
  cases hm:dP c (ah l 0) (ah l 1)with
  |inl q=>
   have hq:=aEf hm;refine((Zf c u o1 ž).and (sL vs cs nr line out aD q)).nm fun n ⟨⟨v,f,d⟩,b⟩=> ?_
   rw [hm]at f;rw [jC,a0,a1,d0,d1,hw,bD (show c≠1 by omega),bD (show c≠2 by omega),bD (show c≠3 by omega),bD (show c≠6 by omega),bD (show c≠9 by omega),bD (show c≠10 by omega),bD (show c≠11 by omega),bD (show c≠24 by omega),bD (show c≠25 by omega),bD (show c≠26 by omega),bD (show c≠27 by omega),bD (show c≠28 by omega),bD (show c≠29 by omega)]
   simp only [Y,ez,Z,f,iD,show(q !=0)=å by simpa using hq,b]
   exact⟨_,rfl,hq,rfl⟩
  |inr w=>
   refine((Zf c u o1 ž).and (push w)).nm fun n ⟨⟨v,f,d⟩,x,b,m⟩=> ?_
   have ak:=d w hm;subst ak;rw [hm]at f;rw [jC,a0,a1,d0,d1,hw,bD (show c≠1 by omega),bD (show c≠2 by omega),bD (show c≠3 by omega),bD (show c≠6 by omega),bD (show c≠9 by omega),bD (show c≠10 by omega),bD (show c≠11 by omega),bD (show c≠24 by omega),bD (show c≠25 by omega),bD (show c≠26 by omega),bD (show c≠27 by omega),bD (show c≠28 by omega),bD (show c≠29 by omega)]
   simp only [Y,ez,Z,f,iD,show((0:Int) !=0)=ä from rfl,b];exact⟨x,rfl,m⟩
 have al:c=24\/c=25\/c=26\/c=27\/c=28\/c=29:=ž
 have one:c=24\/c=26\/c=27\/c=28->á ((0:Int)<=0/\(0:Int)<(à l:Int))=å/\aO l 0=ã (ah l 0):=fun hh=>by
  have ht:bQ c k=1:=by rw [bQ,if_neg ž,if_neg ž,if_neg ž,if_neg ž]
  exact⟨hC ž,vd (j:=0) g ž⟩
 rcases al with rfl|rfl|rfl|rfl|rfl|rfl
 .obtain⟨d0,a0⟩:=one Ż
  refine((((nI (ah l 0)).and (ZZ t (aI (ah l 0)) (z (.inl rfl)) ž)).and (zk (lQ t (aI (ah l 0))))).and (push (bV (lQ t (aI (ah l 0)))))).nm fun n ⟨⟨⟨f,d⟩,b⟩,x,m,e5⟩=> ?_
  rw [jC,a0,d0];simp only [Ã,Y,ez,Z,f,d,b,m];exact⟨x,rfl,e5⟩
 .refine(((ZZ t line (z (.inr rfl)) i).and (zk (lQ t line))).and (push (bV (lQ t line)))).nm fun n ⟨⟨d,b⟩,x,m,e5⟩=> ?_
  rw [jC];simp only [Ã,Y,ez,Z,d,b,m];exact⟨x,rfl,e5⟩
 .obtain⟨d0,a0⟩:=one Ż
  refine(((Oe (ah l 0)).and (zk (!iv (ah l 0)))).and (push (bV (!iv (ah l 0))))).nm fun n ⟨⟨f,d⟩,x,b,m⟩=> ?_
  rw [jC,a0,d0];simp only [Ã,Y,ez,Z,f,d,b];exact⟨x,rfl,m⟩
 .obtain⟨d0,a0⟩:=one Ż
  have hw:Þ ß (0-aK (ah l 0))=0-aK (ah l 0):=by have:=dZ (kM u);rw [Á];omega
  refine(((oO u.2.1).and (nH (0-aK (ah l 0)))).and (push (nV (0-aK (ah l 0))))).nm fun n ⟨⟨f,d⟩,x,b,m⟩=> ?_
  rw [jC,a0,d0];simp only [Ã,Y,ez,Z,f,hw,d,b];exact⟨x,rfl,m⟩
 .obtain⟨d0,a0⟩:=one Ż
  refine(((Oe (ah l 0)).and (zk (iv (ah l 0)))).and (push (bV (iv (ah l 0))))).nm fun n ⟨⟨f,d⟩,x,b,m⟩=> ?_
  rw [jC,a0,d0];simp only [Ã,Y,ez,Z,f,d,b];exact⟨x,rfl,m⟩
 .obtain⟨p1,p2,p3⟩:=ag rfl
  have ht:bQ 29 k=k:=ů
  refine((aDj t l hl ž p3).and (push (jG t l))).nm fun n ⟨d,x,b,m⟩=> ?_
  rw [jC];simp only [Ã,Y,ez,Z,d,b];exact⟨x,rfl,m⟩
def sM (cells:Int) (cs:List VC):Prop:=((∀c∈cs,CW cells c)/\cs.Pairwise CL)/\à cs<=40
theorem aEh {cells:Int} {cs:List VC} (h:sM cells cs) (nm:Int) (key:O):sM cells (oQ cs nm key):=by
 unfold oQ;split
 .rename_i i hi
  rw [<-List.eraseIdx_eq_take_drop_succ];have b:=List.eraseIdx_sublist cs i;exact⟨⟨fun c d=>h.1.1 c (b.subset d),h.1.2.sublist b⟩,by have:=b.length_le;have:=h.2;omega⟩
 .exact h
theorem aaI {cs:List VC} {nm:Int} {key:O}: ∀a∈cs.take (gJ cs nm key),dY a.1 a.2.1 nm key:=by
 intro a b;obtain⟨j,hj,rfl⟩:=η.1 b;rw [Ω]at hj;rw [List.getElem_take];unfold gJ at hj;cases e:cs.findIdx? (fun c=>bo (¬dY c.1 c.2.1 nm key))with
 |none=>
  rw [List.findIdx?_eq_none_iff]at e
  have:=e cs[j] (Æ ž)
  exact σ fun h=>by rw [aA h]at this;cases this
 |some i=>
  rw [e]at hj;have hj:j<min i (à cs):=hj;obtain⟨f,g,d⟩:=Υ.1 e
  have:=d j ž
  exact σ fun h=>by rw [aA h]at this;exact this rfl
theorem aaJ {cells:Int} {cs:List VC} {nm:Int} {key:O} (h:sM cells cs) (g:fM cs nm key=â): ∀b∈cs.drop (gJ cs nm key),dY nm key b.1 b.2.1:=by
 intro b m;obtain⟨j,hj,rfl⟩:=η.1 m;rw [È]at hj;rw [List.getElem_drop];cases e:cs.findIdx? (fun c=>bo (¬dY c.1 c.2.1 nm key))with
 |none=>
  have:gJ cs nm key=à cs:=by unfold gJ;rw [e]
  omega
 |some i=>
  have t:gJ cs nm key=i:=by unfold gJ;rw [e]
  obtain⟨d,f,u⟩:=Υ.1 e
  have p: ¬dY cs[i].1 cs[i].2.1 nm key:=fun h=>by rw [aw (fun k=>k h)]at f;cases f
  have hy:dY nm key cs[i].1 cs[i].2.1:=by
   rcases ajC cs[i].1 cs[i].2.1 nm key with q|q|q
   .exact absurd q p
   .exact absurd q (YZ g _ (Æ d))
   .exact q
  have hk:gJ cs nm key+j<à cs:=ž
  by_cases r:j=0
  .subst r
   have s:cs[gJ cs nm key+0]=cs[i]:=getElem_congr_idx ž
   rw [s];exact hy
  .exact Ih hy (Ξ.1 h.1.2 i (gJ cs nm key+j) d hk ž)
theorem aEi {cells:Int} {cs:List VC} (h:sM cells cs) {nm:Int} {key:O} {v:V} (u:0<=nm) (z:nm<cells) (h3:à key<=300) (s:bO v) {l:List VC} (e:mN cs nm key v=ã l):sM cells l:=by
 unfold mN at e;cases hp:fM cs nm key with
 |some i=>
  rw [hp]at e;obtain⟨hi,hq⟩:=qz hp;simp only [Ê hi]at e
  cases e;have d:=h.1.1 cs[i] (Æ hi);refine⟨⟨fun c p=> ?_, ?_⟩,by rw [Η];exact h.2⟩
  .rcases τ p with h'|rfl
   .exact h.1.1 c h'
   .exact⟨d.1,d.2.1,d.2.2.1,s⟩
  .have g: ∀j (hj:j<à cs),((cs.set i (cs[i].1,cs[i].2.1,v))[j]'(by rw [Η];exact hj)).1=cs[j].1/\((cs.set i (cs[i].1,cs[i].2.1,v))[j]'(by rw [Η];exact hj)).2.1=cs[j].2.1:=by
    intro j hj;rw [List.getElem_set];split
    .rename_i q;subst q;exact⟨rfl,rfl⟩
    .exact⟨rfl,rfl⟩
   rw [Ξ];intro a b k f r;rw [Η]at k f;have t:=g a k;have kb:=g b f;have:=Ξ.1 h.1.2 a b k f r;unfold CL at this |-;rw [t.1,t.2,kb.1,kb.2];exact this
 |none=>
  rw [hp]at e;have e:(if 40<=à cs then â else ã (cs.take (gJ cs nm key)++((nm,key,v)::cs.drop (gJ cs nm key))))=ã l:=e
  by_cases m:40<=à cs
  .rw [if_pos m]at e;cases e
  rw [if_neg m]at e;cases e;refine⟨⟨fun c d=> ?_, ?_⟩,by have:=Oi cs nm key;simp;omega⟩
  .rcases Ï.1 d with d|d
   .exact h.1.1 c (Α d)
   rcases Û.1 d with rfl|d
   .exact⟨u,z,h3,s⟩
   .exact h.1.1 c (Ý d)
  .rw [Ϛ,List.pairwise_cons]
   refine⟨h.1.2.sublist (List.take_sublist _ _),⟨fun b f=>aaJ h hp b f,h.1.2.sublist (List.drop_sublist _ _)⟩,fun a k b f=> ?_⟩
   rcases Û.1 f with rfl|f
   .exact aaI a k
   .exact Ih (aaI a k) (aaJ h hp b f)
structure fO (vars cells:Int) (s:cV):Prop where
 v: ∀v∈s.vs,bO v
 vl:(s.vs.length:Int)=vars
 c:sM cells s.cs
 out:s.out.length<=600
 k: ∀v∈s.aD,bO v
 sl:s.aD.length<=64
def oX (vars cells:Int) (j:Int->Prop) (r:gY):Prop:=match r with
 |.err c=>1<=c/\c<=7
 |.halt s=>fO vars cells s
 |.go k s=>fO vars cells s/\j k
def FU (r:Sum Int V):Prop:=match r with
 |.inl c=>1<=c/\c<=7
 |.inr v=>bO v
theorem OW {vars cells:Int} {j:Int->Prop} {r:Sum Int V} {f:V->gY} (h:FU r) (k: ∀v,bO v->oX vars cells j (f v)):oX vars cells j (mP r f):=by
 cases r
 .exact h
 .exact k _ h
theorem OX {op x y:Int} (b:aW x):FU (cK op x y):=by
 cases e:cK op x y with
 |inr v=>exact aCV b e
 |inl c=>
  unfold cK at e;have k: ∀r,qA r=.inl c->c=1:=fun r h=>by
   obtain⟨p,q⟩:=r;cases q<;>cases h;rfl
  have:c=1\/c=2:=by
   split at e
   .exact .inl (k _ e)
   split at e
   .exact .inl (k _ e)
   split at e
   .exact .inl (k _ e)
   split at e
   .cases e;exact .inr rfl
   split at e
   .cases e
   .exact .inl (k _ e)
  show 1<=c/\c<=7;omega
theorem aEj {c:Int} {x y:V} (b:bO x):FU (dP c x y):=by
 unfold dP;split
 .exact OX (kM b)
 split
 .split
  .exact⟨ž,ž⟩
  .exact tK ž
 .exact wM _
theorem aEk {nr:Int} {line:O} {fs:List O} {c k:Int} {t:O} {l:List V} (f: ∀v∈l,bO v) (z:c=1->aW k) (hn:0<=nr/\nr<=2000000) (hf:à fs<=1048576):FU (kj nr line fs c k t l):=by
 have g:=eW f 0;rw [kj];by_cases c1:c=1
 .rw [if_pos c1];exact nn (z c1)
 rw [if_neg c1];by_cases h:c=2
 .rw [if_pos h]
  by_cases i:300<à t
  .rw [if_pos i];exact⟨ž,ž⟩
  .rw [if_neg i];exact tK ž
 rw [if_neg h];by_cases j:c=9
 .rw [if_pos j];exact aCL _ _ _
 rw [if_neg j];by_cases m:c=10
 .rw [if_pos m];exact nn (gw ž)
 rw [if_neg m];by_cases p:c=11
 .rw [if_pos p];exact nn (gw ž)
 rw [if_neg p];by_cases q:c=24
 .rw [if_pos q];exact wM _
 rw [if_neg q];by_cases r:c=25
 .rw [if_pos r];exact wM _
 rw [if_neg r];by_cases s:c=26
 .rw [if_pos s];exact wM _
 rw [if_neg s];by_cases u:c=27
 .rw [if_pos u];have:=dZ (kM g);exact nn (gw ž)
 rw [if_neg u];by_cases b:c=28
 .rw [if_pos b];exact wM _
 rw [if_neg b];by_cases d:c=29
 .rw [if_pos d];exact aDk t f
 .rw [if_neg d];exact aEj g
theorem ve {vars cells:Int} {j:Int->Prop} {s:cV} {at0:Int} {v:V} (h:fO vars cells s) (d:bO v) (hj:j at0):oX vars cells j (eN s at0 v):=by
 unfold eN;split
 .exact⟨ž,ž⟩
 .refine⟨⟨h.v,h.vl,h.c,h.out,fun x b=> ?_, ?_⟩,hj⟩
  .rcases Ï.1 b with b|b
   .exact h.k x b
   .rw [É.1 b];exact d
  .have:=h.sl
   simp only [À,Î,Ñ];omega
theorem aaK {vars cells:Int} {j:Int->Prop} {s:cV} {at0:Int} {t:O} (h:fO vars cells s) (hj:j at0):oX vars cells j (fD s at0 t):=by
 unfold fD;split
 .exact⟨ž,ž⟩
 .exact⟨⟨h.v,h.vl,h.c,by simp only [À];omega,h.k,h.sl⟩,hj⟩
theorem aaL {vars cells:Int} {j:Int->Prop} {s:cV} {at0 k:Int} {key:O} {v:V} (h:fO vars cells s) (d:0<=k) (f:k<cells) (g:à key<=300) (b:bO v) (hj:j at0):oX vars cells j (ki s at0 k key v):=by
 unfold ki;split
 .exact⟨ž,ž⟩
 .rename_i i e
  exact ve ⟨h.v,h.vl,aEi h.c d f g b e,h.out,h.k,h.sl⟩ b hj
theorem aaM {vs:List V} (h: ∀v∈vs,bO v) {k:Nat} {v:V} (b:bO v): ∀x∈vs.set k v,bO x:=fun x d=>by
 rcases τ d with f|rfl
 .exact h x f
 .exact b
theorem aaN {cells:Int} {cs:List VC} (h:sM cells cs) (nm:Int) (key:O):bO (fN cs nm key):=OS fun c b=>(h.1.1 c b).2.2.2
theorem aaO (v:V):(dp v).length<=300:=by unfold dp;simp;omega
theorem aEl {vars cells:Int} {j:Int->Prop} {s:cV} {at0 c k:Int} {l:List V} (h:fO vars cells s) (f: ∀v∈l,bO v) (g:c=6\/c=7\/c=8\/c=35->0<=k/\k<cells) (hj:j at0):oX vars cells j (iE s at0 c k l):=by
 have i:=eW f 0;have r:=eW f 1;have m:=eW h.v k.toNat;unfold iE;split
 .exact ve h m hj
 split
 .exact ve ⟨aaM h.v i,by rw [Η];exact h.vl,h.c,h.out,h.k,h.sl⟩ i hj
 split
 .exact OW (OX (kM m)) fun v b=>ve ⟨aaM h.v b,by rw [Η];exact h.vl,h.c,h.out,h.k,h.sl⟩ b hj
 split
 .exact ve h (aaN h.c _ _) hj
 split
 .rename_i d
  obtain⟨p,q⟩:=g ž
  exact aaL h p q (aaO _) r hj
 split
 .rename_i d
  obtain⟨p,q⟩:=g ž
  exact OW (OX (kM (aaN h.c _ _))) fun v b=>aaL h p q (aaO _) b hj
 .exact⟨⟨h.v,h.vl,aEh h.c _ _,h.out,h.k,h.sl⟩,hj⟩
theorem aEm {vars cells nr:Int} {line:O} {fs:List O} {j:Int->Prop} {s:cV} {at0 c k:Int} {t:O} {l:List V} (h:fO vars cells s) (d: ∀v∈l,bO v) (f:c=6\/c=7\/c=8\/c=35->0<=k/\k<cells) (g:c=1->aW k) (i:0<=nr/\nr<=2000000) (m:à fs<=1048576)
  (hj:c≠36->j (at0+1)) (hk:c=30\/c=31->j k):oX vars cells j (iF nr line fs s at0 c k t l):=by
 unfold iF;split
 .exact h
 rename_i b;have hj:=hj b;split
 .exact⟨h,hk ž⟩
 split
 .split
  .exact⟨h,hj⟩
  .exact⟨h,hk ž⟩
 split
 .exact⟨h,hj⟩
 split
 .exact aaK h hj
 split
 .exact aaK h hj
 split
 .exact aEl h d f hj
 .exact OW (aEk d g i m) fun v p=>ve h p hj
theorem aEn {vars cells nr:Int} {line:O} {fs:List O} {j:Int->Prop} {s:cV} {at0 c k:Int} {t:O} (h:fO vars cells s) (d:c=6\/c=7\/c=8\/c=35->0<=k/\k<cells) (f:c=1->aW k) (g:0<=nr/\nr<=2000000) (i:à fs<=1048576)
  (hj:c≠36->j (at0+1)) (hk:c=30\/c=31->j k):oX vars cells j (iG nr line fs s at0 c k t):=by
 unfold iG;split
 .exact⟨ž,ž⟩
 .exact aEm ⟨h.v,h.vl,h.c,h.out,fun v b=>h.k v (Α b),by have:=h.sl;rw [Ω];omega⟩ (fun v b=>h.k v (Ý b)) d f g i hj hk
theorem aaP {vs:List V} {c k n cells:Int} {t:O} (h:ju c k t n (à vs) cells):zt vs c k t:=by
 unfold ju at h;refine⟨⟨ž,ž⟩,fun b=>ž,fun b=> ?_,fun b=> ?_,fun b=> ?_,fun b=>ž⟩
 .rcases h with h|h|h|h|h|h|h|h|h
  .exact h.2.1
  all_goals omega
 .rcases h with h|h|h|h|h|h|h|h|h
  .omega
  .omega
  .omega
  .omega
  .exact h.2.2
  all_goals omega
 .rcases h with h|h|h|h|h|h|h|h|h
  .omega
  .omega
  .omega
  .omega
  .omega
  .exact⟨h.2.1,h.2.2.1,h.2.2.2⟩
  all_goals omega
theorem OY {ops:ae} {vars cells nr:Int} {line:O} {fs:List O} {s:cV} (d:gu ops vars cells) (h:fO vars cells s) (f:0<=nr/\nr<=2000000) (g:à fs<=1048576) (i:Nat) (hi:i<à ops):
  oX vars cells (fun j=> ∃q:Nat,j=q/\q<à ops) (iG nr line fs s i ops[i].1 ops[i].2.1 ops[i].2.2):=by
 obtain⟨r,t,k,m⟩:=d;have hw:=m _ (Æ hi);unfold ju at hw;refine aEn h (fun b=>ž) (fun b=> ?_) f g (fun b=> ?_) (fun b=>⟨ops[i].2.1.toNat,ž,ž⟩)
 .rcases hw with h|h|h|h|h|h|h|h|h
  .exact h.2.1
  all_goals omega
 .have p:=k ž
  by_cases e:i=à ops-1
  .subst e;exact absurd p b
  .exact⟨i+1,ž,ž⟩
noncomputable def nO (nr:Int) (line:O) (fs:List O) (ops:ae):Nat->cV->Int->Sum Int cV
 |0,_,_=>.inl 6
 |k+1,s,a=>match au ops a with
  |none=>.inl 7
  |some o=>match iG nr line fs s a o.1 o.2.1 o.2.2 with
   |.err c=>.inl c
   |.halt s'=>.inr s'
   |.go j s'=>nO nr line fs ops k s' j
theorem OZ {nr:Int} {line:O} {fs:List O} {ops:ae} {k:Nat} {s:cV} {i:Nat} (hi:i<à ops):nO nr line fs ops (k+1) s i=match iG nr line fs s i ops[i].1 ops[i].2.1 ops[i].2.2 with
   |.err c=>.inl c
   |.halt s'=>.inr s'
   |.go j s'=>nO nr line fs ops k s' j:=by
 rw [nO,bB hi]
def vf {α:Type}:Sum α α->α
 |.inl x=>x
 |.inr x=>x
theorem aaQ {α:Type} (x:Sum α α) (f g:α->Option α) (b: ∀x,f x=ã x) (d: ∀x,g x=ã x):aq x f g=ã (vf x):=by
 cases x
 .exact b _
 .exact d _
theorem fO.st {vars cells nr:Int} {line:O} {s:cV} (h:fO vars cells s) (g:vars<=8) (b:0<=nr/\nr<=2000000) (d:à line<=1000000):qG s.vs s.cs nr line (bk [] line) s.out s.aD:=
 ⟨h.v,by have:=h.vl;omega,fun c f=>(h.c.1.1 c f).2.2.2,by have:=h.c.2;omega,b,d,Ħ,h.out,h.k,h.sl⟩
theorem aaR (c k:Int) (t:O) (b:In c 1 36):W fun n=>DO n c k t=ã (bQ c k):=W.succ (W.of fun n=>by
 obtain⟨d,f⟩:=b;rw [auY];obtain rfl|rfl|rfl|rfl|rfl|rfl|rfl|rfl|rfl|rfl|rfl|rfl|rfl|rfl|rfl|rfl|rfl|rfl|rfl|rfl|rfl|rfl|rfl|rfl|rfl|rfl|rfl|rfl|rfl|rfl|rfl|rfl|rfl|rfl|rfl|rfl:c=1\/c=2\/c=3\/c=4\/c=5\/c=6\/c=7\/c=8\/c=9\/c=10\/c=11\/c=12\/c=13\/c=14\/c=15\/c=16\/c=17\/c=18\/c=19\/c=20\/c=21\/c=22\/c=23\/c=24\/c=25\/c=26\/c=27\/c=28\/c=29\/c=30\/c=31\/c=32\/c=33\/c=34\/c=35\/c=36:=ž
 all_goals rfl)
theorem aaS (vs:ae) (cs:ai) (nr:Int) (line out:O) (aD:List V) (k:Int) (hk:0<=k/\k<=3) (d:à aD<=64):W fun n=>DP n vs cs nr 0 line out aD 0 k=ã (if (à aD:Int)<k then(Í k.toNat v0,vs,cs,nr,0,line,out,aD,7)else(aD.drop (à aD-k.toNat),vs,cs,nr,0,line,out,aD.take (à aD-k.toNat),0)):=by
 refine(sL vs cs nr line out aD 7).nm fun n e=> ?_
 have hw:Þ ß ((à aD:Int)-k)=(à aD:Int)-k:=ż
 have f:(4000000:Int)<=(big:Int):=Ũ
 rw [auZ,hw,e];by_cases h:(à aD:Int)<k
 .rw [hC (show (à aD:Int)-k<0 by omega),Y,Z,hC (show (0:Int)<=k/\k<=k/\k<=(big:Int) by omega),if_pos h]
  exact rfl
 .obtain⟨j,hj⟩: ∃j:Nat,j=à aD-k.toNat:=⟨_,rfl⟩
  have b:(à aD:Int)-k=(j:Int):=ž
  rw [if_neg h,b,<-hj,Â,hJ (show ¬(j:Int)<0 by omega),hC (show (0:Int)<=(j:Int)/\(j:Int)<=(à aD:Int) by omega),Fy,aX ź,Ô (show j<=à aD by omega)]
  exact rfl
def FV (nr:Int) (line:O) (ops:ae) (n m:Nat) (t:Int) (r:gY) (y:Option (Sum WI WI)):Prop:=match r with
 |.err c=> ∃x,y=ã x/\c≠0/\(vf x).2.2.2.2.2.2.2=c
 |.halt s=>y=ã (.inr (zu nr line s))
 |.go j s=>y=fL n m s.vs s.cs nr 0 line s.out s.aD 0 t j ops
theorem aaT {nr:Int} {line:O} {ops:ae} {n m:Nat} {t j:Int} {r:gY} {x:WI} (h:IO nr line r x) (b:nN r j):FV nr line ops n (m+1) t r (fL n (m+1) x.1 x.2.1 x.2.2.1 x.2.2.2.1 x.2.2.2.2.1 x.2.2.2.2.2.1 x.2.2.2.2.2.2.1 x.2.2.2.2.2.2.2 t j ops):=by
 cases r with
 |err c=>
  obtain⟨d,f⟩:=h;refine⟨.inl x, ?_,d,f⟩
  .rw [oM,show(x.2.2.2.2.2.2.2==(0:Int))=ä by rw [f];simpa using d];rfl
 |halt s=>exact absurd h id
 |go q s=>
  have h:x=zu nr line s:=h;have b:q=j:=b;subst h b;exact rfl
theorem aaU (s:cV) (at0:Int) (t:O):nN (fD s at0 t) at0:=by
 unfold fD;split
 .exact trivial
 .exact rfl
theorem aEo {vars cells nr:Int} {line:O} {s:cV} {ops:ae} (ho:gu ops vars cells) (h:fO vars cells s) (hv:vars<=8) (hn:0<=nr/\nr<=2000000) (al:à line<=1000000) (i:Nat) (hi:i<à ops):
  W fun n=> ∀m (t:Int),1<=t/\t<=20000->FV nr line ops n (m+1) (t+1) (iG nr line (bk [] line) s i ops[i].1 ops[i].2.1 ops[i].2.2) (fL n (m+2) s.vs s.cs nr 0 line s.out s.aD 0 t i ops):=by
 obtain⟨o1,o2,o3,o4⟩:=ho;have hw:=o4 _ (Æ hi);have f:=h.st (line:=line) (nr:=nr) hv hn al;have hz:=bB hi;generalize ops[i]=o at hw hz
 obtain⟨c,k,t0⟩:=o;have hq:zt s.vs c k t0:=aaP (n:=à ops) (cells:=cells) (by rw [h.vl];exact hw)
 obtain⟨t1,t3⟩:=aaC hq;have au:=h.sl;have af:Þ ß ((i:Int)+1)=(i:Int)+1:=ż
 have d: ∀t:Int,1<=t/\t<=20000->Þ ß (t+1)=t+1:=fun t z=>ż
 by_cases hs:(s.aD.length:Int)<bQ c k
 .refine((aaR c k t0 hq.1).and (aaS s.vs s.cs nr line s.out s.aD (bQ c k) ⟨t1,t3⟩ au)).mono fun n ⟨g,r⟩ m t z=> ?_
  rw [oM,hz,hJ (show ¬(20000:Int)<t by omega)]
  simp only [Z,g,r,if_pos hs];rw [iG,if_pos hs];exact⟨_,rfl,ž,rfl⟩
 obtain⟨j,hj⟩: ∃j:Nat,j=s.aD.length-(bQ c k).toNat:=⟨_,rfl⟩
 obtain⟨l,hl⟩: ∃l,l=s.aD.drop j:=⟨_,rfl⟩
 obtain⟨s',ag⟩: ∃s',s'=s.aD.take j:=⟨_,rfl⟩
 have aw: ∀v∈l,bO v:=fun v hv=>h.k v (Ý (hl▸hv))
 have ai:(à l:Int)=bQ c k:=by rw [hl,È];omega
 have h':qG s.vs s.cs nr line (bk [] line) s.out s':=⟨f.v,f.vl,f.c,f.cl,f.nr,f.line,f.fs,f.out,fun v hv=>h.k v (Α (ag▸hv)),by rw [ag,Ω];omega⟩
 have ax:uZ s.vs c k t0 l:=⟨hq.2.1,ai,hq.2.2.1,hq.2.2.2.1,hq.2.2.2.2.1,hq.2.2.2.2.2⟩;have u:iG nr line (bk [] line) s i c k t0=iF nr line (bk [] line) ⟨s.vs,s.cs,s',s.out⟩ i c k t0 l:=by rw [iG,if_neg hs];rw [<-hj,<-hl,<-ag]
 have pop:=aaS s.vs s.cs nr line s.out s.aD (bQ c k) ⟨t1,t3⟩ au;rw [if_neg hs,<-hj,<-hl,<-ag]at pop;have ao:=aaR c k t0 hq.1;have start: ∀ {P:Nat->Prop},W P->(∀n,P n->DO n c k t0=ã (bQ c k)->DP n s.vs s.cs nr 0 line s.out s.aD 0 (bQ c k)=ã (l,s.vs,s.cs,nr,0,line,s.out,s',0)-> ∀m (t:Int),1<=t/\t<=20000->Þ ß (t+1)=t+1->FV nr line ops n (m+1) (t+1) (iF nr line (bk [] line) ⟨s.vs,s.cs,s',s.out⟩ i c k t0 l) (fL n (m+2) s.vs s.cs nr 0 line s.out s.aD 0 t i ops))->W fun n=> ∀m (t:Int),1<=t/\t<=20000->FV nr line ops n (m+1) (t+1) (iG nr line (bk [] line) s i c k t0) (fL n (m+2) s.vs s.cs nr 0 line s.out s.aD 0 t i ops):=fun hp hk=>by
  rw [u];exact(hp.and (ao.and pop)).mono fun n ⟨a,b,c⟩ m t z=>hk n a b c m t z (d t z)
 have hc:c=36\/c=30\/c=31\/c=32\/(c=4\/c=5\/c=7\/c=8\/c=35\/c=33\/c=34)\/(c=1\/c=2\/c=3\/c=6\/c=9\/c=10\/c=11\/(12<=c/\c<=29)):=by
  obtain⟨p,q⟩:=hq.1;omega
 clear u hs;rcases hc with rfl|rfl|rfl|rfl|hc|hc
 .refine start (W.of fun _=>trivial) fun n _ g r m t z d=> ?_
  rw [oM,hz,hJ (show ¬(20000:Int)<t by omega)]
  rw [Z];dsimp only
  rw [g,Z,r,Z];exact rfl
 .refine start (W.of fun _=>trivial) fun n _ g r m t z d=> ?_
  rw [oM,hz,hJ (show ¬(20000:Int)<t by omega)]
  rw [Z];dsimp only
  rw [g,Z,r,Z,d];unfold iF;rw [if_neg ž,if_pos rfl,show((0:Int)==0)=å from rfl,Y,ez,show((0:Int) !=0)=ä from rfl,ez,show((30:Int)==36)=ä from rfl,ez,show((30:Int)==30)=å from rfl,Y]
  exact rfl
 .have bf:à l=1:=by rw [bQ]at ai;simp at ai;omega
  have a0:aO l 0=ã (ah l 0):=vd (l:=l) (j:=0) ai ů
  have d0:á ((0:Int)<=0/\(0:Int)<(à l:Int))=å:=hC ž
  refine start (Oe (ah l 0)) fun n e0 g r m t z d=> ?_
  rw [oM,hz,hJ (show ¬(20000:Int)<t by omega)]
  rw [Z];dsimp only
  rw [g,Z,r,Z,d,af];dsimp only
  rw [a0,d0,Z,e0,Z];unfold iF;rw [if_neg ž,if_neg ž,if_pos rfl]
  cases iv (ah l 0)
  .exact rfl
  .exact rfl
 .refine start (W.of fun _=>trivial) fun n _ g r m t z d=> ?_
  rw [oM,hz,hJ (show ¬(20000:Int)<t by omega)]
  rw [Z];dsimp only
  rw [g,Z,r,Z,d,af];unfold iF;rw [if_neg ž,if_neg ž,if_neg ž,if_pos rfl,show((0:Int)==0)=å from rfl,Y,ez,show((0:Int) !=0)=ä from rfl,ez,show((32:Int)==36)=ä from rfl,ez,show((32:Int)==30)=ä from rfl,ez,show((32:Int)==31)=ä from rfl,ez,show((32:Int)==32)=å from rfl,Y]
  exact rfl
 .refine start (aEe s.vs s.cs nr line s.out s' (bk [] line) c k t0 l ((i:Int)+1) h' aw ax hc) fun n ⟨x,e3,e4⟩ g r m t z d=> ?_
  have hd:iF nr line (bk [] line) ⟨s.vs,s.cs,s',s.out⟩ i c k t0 l=if c=33 then fD ⟨s.vs,s.cs,s',s.out⟩ ((i:Int)+1) ((if k=1 then [32]else [])++aI (ah l 0))else if c=34 then fD ⟨s.vs,s.cs,s',s.out⟩ ((i:Int)+1) [10]else iE ⟨s.vs,s.cs,s',s.out⟩ ((i:Int)+1) c k l:=by
   unfold iF;rw [if_neg ž,if_neg ž,if_neg ž,if_neg ž]
   by_cases h1:c=33
   .rw [if_pos h1,if_pos h1]
   by_cases h2:c=34
   .rw [if_neg h1,if_neg h1,if_pos h2,if_pos h2]
   .rw [if_neg h1,if_neg h1,if_neg h2,if_neg h2,if_pos ž]
  rw [hd];have hg:nN (if c=33 then fD ⟨s.vs,s.cs,s',s.out⟩ ((i:Int)+1) ((if k=1 then [32]else [])++aI (ah l 0))else if c=34 then fD ⟨s.vs,s.cs,s',s.out⟩ ((i:Int)+1) [10]else iE ⟨s.vs,s.cs,s',s.out⟩ ((i:Int)+1) c k l) ((i:Int)+1):=by
   split
   .exact aaU _ _ _
   split
   .exact aaU _ _ _
   .exact OU _ _ _ _ _
  have fin:=aaT (ops:=ops) (n:=n) (m:=m) (t:=t+1) e4 hg;rw [oM,hz,hJ (show ¬(20000:Int)<t by omega)]
  clear hd hg e4;rcases hc with rfl|rfl|rfl|rfl|rfl|rfl|rfl
  all_goals
   rw [Z];dsimp only
   rw [g,Z,r,Z,d,af];dsimp only
   rw [e3,Z];exact fin
 .refine start (aEg s.vs s.cs nr line s.out s' c k t0 l ((i:Int)+1) h' aw ax hc) fun n ⟨x,e3,e4⟩ g r m t z d=> ?_
  have hd:iF nr line (bk [] line) ⟨s.vs,s.cs,s',s.out⟩ i c k t0 l=if c=3\/c=6 then iE ⟨s.vs,s.cs,s',s.out⟩ ((i:Int)+1) c k l else mP (kj nr line (bk [] line) c k t0 l) fun v=>eN ⟨s.vs,s.cs,s',s.out⟩ ((i:Int)+1) v:=by
   unfold iF;rw [if_neg ž,if_neg ž,if_neg ž,if_neg ž,if_neg ž,if_neg ž]
   by_cases h1:c=3\/c=6
   .rw [if_pos h1,if_pos ž]
   .rw [if_neg h1,if_neg ž]
  rw [hd];have hg:nN (if c=3\/c=6 then iE ⟨s.vs,s.cs,s',s.out⟩ ((i:Int)+1) c k l else mP (kj nr line (bk [] line) c k t0 l) fun v=>eN ⟨s.vs,s.cs,s',s.out⟩ ((i:Int)+1) v) ((i:Int)+1):=by
   split
   .exact OU _ _ _ _ _
   .exact FP fun v=>sK _ _ _
  have fin:=aaT (ops:=ops) (n:=n) (m:=m) (t:=t+1) e4 hg;rw [oM,hz,hJ (show ¬(20000:Int)<t by omega)]
  clear hd hg e4;rw [Z];dsimp only
  rw [g,Z,r,Z,d,af];dsimp only
  rw [bD (show c≠36 by omega),bD (show c≠30 by omega),bD (show c≠31 by omega),bD (show c≠32 by omega),bD (show c≠4 by omega),bD (show c≠5 by omega),bD (show c≠7 by omega),bD (show c≠8 by omega),bD (show c≠35 by omega),bD (show c≠33 by omega),bD (show c≠34 by omega)]
  rw [e3,Z];exact fin
def Pb (nr:Int) (line:O) (r:Sum Int cV) (x:WI):Prop:=match r with
 |.inl c=>c≠0/\x.2.2.2.2.2.2.2=c
 |.inr s=>x=zu nr line s
theorem aaV {vars cells nr:Int} {line:O} {ops:ae} (f:gu ops vars cells) (u:vars<=8) (g:0<=nr/\nr<=2000000) (b:à line<=1000000): ∀(k:Nat) (s:cV) (i:Nat),fO vars cells s->i<à ops->k<=20000->
  W fun n=> ∀m,k<m-> ∃x,fL n m s.vs s.cs nr 0 line s.out s.aD 0 (20001-(k:Int)) i ops=ã x/\Pb nr line (nO nr line (bk [] line) ops k s i) (vf x)
 |0,s,i,h,hi,_=>by
  refine(sL s.vs s.cs nr line s.out s.aD 6).mono fun n e m hm=> ?_
  obtain⟨m,rfl⟩: ∃q,m=q+1:=⟨m-1,ž⟩
  rw [oM,hC (show (20000:Int)<20001-((0:Nat):Int) by omega)]
  simp only [show ((0:Int)==0)=å from rfl,Y,e];exact⟨_,rfl,ž,rfl⟩
 |k+1,s,i,h,hi,hk=>by
  have hf:(bk [] line).length<=1048576:=Ħ
  have z:=OY (line:=line) f h g hf i hi;have d:=aEo f h u g b i hi;rw [OZ hi];have ht:(20001:Int)-((k+1:Nat):Int)+1=20001-(k:Int):=ž
  generalize iG nr line (bk [] line) s i ops[i].1 ops[i].2.1 ops[i].2.2=r at z d
  cases r with
  |err c=>
   refine d.mono fun n d m hm=> ?_
   obtain⟨m,rfl⟩: ∃q,m=q+2:=⟨m-2,ž⟩
   obtain⟨x,e,p⟩:=d m (20001-((k+1:Nat):Int)) ž
   exact⟨x,e,p⟩
  |halt s'=>
   refine d.mono fun n d m hm=> ?_
   obtain⟨m,rfl⟩: ∃q,m=q+2:=⟨m-2,ž⟩
   exact⟨_,d m (20001-((k+1:Nat):Int)) ž,rfl⟩
  |go j s'=>
   obtain⟨h',q,rfl,hq⟩:=z;refine(d.and (aaV f u g b k s' q h' hq ž)).mono fun n ⟨d,ih⟩ m hm=> ?_
   obtain⟨m,rfl⟩: ∃q,m=q+2:=⟨m-2,ž⟩
   have e:=d m (20001-((k+1:Nat):Int)) ž
   rw [ht]at e;obtain⟨x,p,t⟩:=ih (m+1) ž
   exact⟨x,Eq.trans e p,t⟩
theorem aEp {vars cells nr:Int} {line:O} {ops:ae} (d:gu ops vars cells) (g:vars<=8) (f:0<=nr/\nr<=2000000) (b:à line<=1000000) (s:cV) (h:fO vars cells s):
  W fun n=> ∃x,DN n s.vs s.cs nr 0 line s.out s.aD 0 ops=ã x/\Pb nr line (nO nr line (bk [] line) ops 20000 s 0) x:=by
 refine((aaV d g f b 20000 s 0 h d.1 ž).and (W.ge 20001)).nm fun n ⟨k,f⟩=> ?_
 obtain⟨x,e,i⟩:=k n ž
 refine⟨vf x, ?_,i⟩
 rw [auW,show fL n n s.vs s.cs nr 0 line s.out s.aD 0 1 0 ops=ã x from e,Z];exact aaQ x _ _ (fun _=>rfl) (fun _=>rfl)
abbrev WE:=ae×(ai×Int×Int×af×af×O×af×O×Int×Bool)
def cT (nr:Int) (a b:af) (line:O) (fs:af) (fu:Int) (dn:Bool) (s:cV):WE:=(s.vs,s.cs,nr,0,a,b,line,fs,s.out,fu,dn)
def Pc (nr:Int) (a b:af) (line:O) (fs:af) (fu:Int) (dn:Bool) (r:Sum Int cV) (x:WE):Prop:=match r with
 |.inl c=>c≠0/\x.2.2.2.1=c
 |.inr s=>x=cT nr a b line fs fu dn s
theorem aaW {vars cells nr:Int} {a b:af} {line:O} {fu:Int} {dn:Bool} {ops:ae} (z:gu ops vars cells) (hv:vars<=8) (hn:0<=nr/\nr<=2000000) (d:à line<=1000000): ∀(k:Nat) (s:cV) (i:Nat),fO vars cells s->i<à ops->k<=20000->
  W fun n=> ∀m,k<m-> ∃x,xJ n m s.vs s.cs nr 0 a b line (bk [] line) s.out fu dn s.aD (20000-(k:Int)) i ops=ã x/\Pc nr a b line (bk [] line) fu dn (nO nr line (bk [] line) ops k s i) (vf x)
 |0,s,i,h,hi,_=>by
  refine(mO s.vs s.cs nr a b line (bk [] line) s.out fu dn 6).mono fun n e m hm=> ?_
  obtain⟨m,rfl⟩: ∃q,m=q+1:=⟨m-1,ž⟩
  rw [yV,show((20000:Int)-((0:Nat):Int)==20000)=å from rfl];simp only [show ((0:Int)==0)=å from rfl,Y,e];exact⟨_,rfl,ž,rfl⟩
 |k+1,s,i,h,hi,hk=>by
  have hf:(bk [] line).length<=1048576:=Ħ
  have hr:=OY (line:=line) z h hn hf i hi;have ag:=h.st (line:=line) (nr:=nr) hv hn d;have hq:zt s.vs ops[i].1 ops[i].2.1 ops[i].2.2:=aaP (n:=à ops) (cells:=cells) (by rw [h.vl];exact z.2.2.2 _ (Æ hi))
  have p:=aEc s.vs s.cs nr a b line (bk [] line) s.out fu dn s.aD ops[i].1 ops[i].2.1 ops[i].2.2 i ag hq (by have:=z.2.1;omega)
  have hz:=bB hi;have g:((20000:Int)-((k+1:Nat):Int)==20000)=ä:=beq_eq_false_iff_ne.2 ž
  have ai:Þ ß ((20000:Int)-((k+1:Nat):Int)+1)=20000-(k:Int):=ż
  rw [OZ hi];have t:(⟨s.vs,s.cs,s.aD,s.out⟩:cV)=s:=rfl;rw [t]at p;generalize iG nr line (bk [] line) s i ops[i].1 ops[i].2.1 ops[i].2.2=r at hr p
  cases r with
  |err c=>
   refine p.mono fun n ⟨x,e,f,u⟩ m hm=> ?_
   obtain⟨m,rfl⟩: ∃q,m=q+2:=⟨m-2,ž⟩
   rw [yV,g,hz];simp only [show ((0:Int)==0)=å from rfl,Y,ez,Z,e];cases hx:x.2.1 with
   |false=>exact⟨_,rfl,f,u⟩
   |true=>
    rw [Ä,ez,yV,show(x.2.2.2.2.2.1==(0:Int))=ä by rw [u];simpa using f,ez]
    exact⟨_,rfl,f,u⟩
  |halt s'=>
   refine p.mono fun n ⟨x,e,f,u⟩ m hm=> ?_
   obtain⟨m,rfl⟩: ∃q,m=q+1:=⟨m-1,ž⟩
   rw [yV,g,hz];simp only [show ((0:Int)==0)=å from rfl,Y,ez,Z,e,f,Ü,u];exact⟨_,rfl,rfl⟩
  |go j s'=>
   obtain⟨h',q,rfl,aj⟩:=hr;refine(p.and (aaW (a:=a) (b:=b) (fu:=fu) (dn:=dn) z hv hn d k s' q h' aj ž)).mono fun n ⟨⟨x,e,f⟩,ih⟩ m hm=> ?_
   obtain⟨m,rfl⟩: ∃q,m=q+1:=⟨m-1,ž⟩
   have f:x=((q:Int),å,zr nr a b line (bk [] line) fu dn s'):=f;subst f;obtain⟨x,e',ak⟩:=ih m ž
   refine⟨x, ?_,ak⟩
   rw [yV,g,hz];simp only [show ((0:Int)==0)=å from rfl,Y,ez,Z,e,Ä,ai];exact e'
theorem aEq {vars cells nr:Int} {a b:af} {line:O} {fu:Int} {dn:Bool} {ops:ae} (f:gu ops vars cells) (i:vars<=8) (g:0<=nr/\nr<=2000000) (d:à line<=1000000) (s:cV) (h:fO vars cells s) (he:s.aD=[]):
  W fun n=> ∃x,Cw n s.vs s.cs nr 0 a b line (bk [] line) s.out fu dn ops=ã x/\Pc nr a b line (bk [] line) fu dn (nO nr line (bk [] line) ops 20000 s 0) x:=by
 refine((aaW (a:=a) (b:=b) (fu:=fu) (dn:=dn) f i g d 20000 s 0 h f.1 ž).and (W.ge 20001)).nm fun n ⟨k,g⟩=> ?_
 obtain⟨x,e,j⟩:=k n ž
 refine⟨vf x, ?_,j⟩
 rw [he]at e;rw [aoT,show xJ n n s.vs s.cs nr 0 a b line (bk [] line) s.out fu dn ([]:ae) 0 0 ops=ã x from e,Z];exact aaQ x _ _ (fun _=>rfl) (fun _=>rfl)
abbrev RT:=ae×(ai×Int×Int×O)
def sN (vs:ae) (cs:ai) (nr b:Int) (r:Sum Int cV):RT:=match r with
 |.inl c=>(vs,cs,nr,c,[])
 |.inr s=>(s.vs,s.cs,b,0,s.out)
noncomputable def nP (k:Nat) (ops:ae):RT:=sN (Í k v0) [] 0 0 (nO 0 [] [] ops 20000 ⟨Í k v0,[],[],[]⟩ 0)
theorem aaX {vars cells nr:Int} {line:O} {ops:ae} (f:gu ops vars cells) (g:0<=nr/\nr<=2000000) (b:à line<=1000000): ∀(k:Nat) (s:cV) (i:Nat),fO vars cells s->i<à ops->
  match nO nr line (bk [] line) ops k s i with|.inl c=>1<=c/\c<=7|.inr s=>fO vars cells s
 |0,s,i,h,hi=>⟨ž,ž⟩
 |k+1,s,i,h,hi=>by
  have m:(bk [] line).length<=1048576:=Ħ
  have d:=OY (line:=line) f h g m i hi;rw [OZ hi];generalize iG nr line (bk [] line) s i ops[i].1 ops[i].2.1 ops[i].2.2=r at d
  cases r with
  |err c=>exact d
  |halt s'=>exact d
  |go j s'=>
   obtain⟨p,q,rfl,t⟩:=d;exact aaX f g b k s' q p t
def aaY (vars cells:Int) (r:RT):Prop:=ot r.1 r.2.1 r.2.2.1 r.2.2.2.1 vars cells/\à r.2.2.2.2<=600
theorem aEr {vars cells:Int} {vs:ae} {cs:ai} {nr b er:Int} {r:Sum Int cV} (h:match r with|.inl c=>1<=c/\c<=7|.inr s=>fO vars cells s) (d:ot vs cs nr er vars cells) (f:0<=b/\b<=1000000):aaY vars cells (sN vs cs nr b r):=by
 cases r with
 |inl c=>
  obtain⟨p,q⟩:=h;exact⟨⟨d.1,d.2.1,d.2.2.1,d.2.2.2.1,d.2.2.2.2.1,⟨by show 0<=c;omega,by show c<=7;omega⟩⟩,by simp [sN]⟩
 |inr s=>
  have h:fO vars cells s:=h;exact⟨⟨h.v,wQ.2 h.c.1,h.vl,h.c.2,⟨f.1,f.2⟩,⟨by simp [sN],by simp [sN]⟩⟩,h.out⟩
theorem Pd {vars cells nr er:Int} {vs:ae} {cs:ai} (h:ot vs cs nr er vars cells):fO vars cells ⟨vs,cs,[],[]⟩:=⟨h.1,h.2.2.1,⟨wQ.1 h.2.1,h.2.2.2.1⟩,Ż,Ż,Ż⟩
theorem Pe (k:Nat) (cells:Int):ot (Í k v0) [] 0 0 k cells:=⟨fun v b=>by rw [ψ b];exact tJ,fun i hi=>absurd hi (Ϧ _),Ż,Ż,⟨ž,ž⟩,⟨ž,ž⟩⟩
theorem Pf {k:Nat} {cells:Int} {ops:ae} (b:gu ops k cells):aaY k cells (nP k ops):=by
 unfold nP;have h:=Pe k cells;exact aEr (aaX (line:=[]) b ž Ż 20000 _ 0 (Pd h) b.1) h ž
def aaZ {α:Type} (y:ae×ai×Int×Int×O×α):RT:=(y.1,y.2.1,y.2.2.1,y.2.2.2.1,y.2.2.2.2.1)
theorem aEs (b:ae) (cs0:ai) (d f:Int) (g:à b<=1048576) (h:à cs0<=1048576):W fun n=> ∀x:WE,∃y,Ky n x.1 x.2.1 x.2.2.1 x.2.2.2.1 x.2.2.2.2.1 x.2.2.2.2.2.1 x.2.2.2.2.2.2.1 x.2.2.2.2.2.2.2.1 x.2.2.2.2.2.2.2.2.1 x.2.2.2.2.2.2.2.2.2.1 x.2.2.2.2.2.2.2.2.2.2 b cs0 d f=ã y/\aaZ y=cond (x.2.2.2.1 !=0) (b,cs0,d,x.2.2.2.1,([]:O)) (x.1,x.2.1,x.2.2.1,x.2.2.2.1,x.2.2.2.2.2.2.2.2.1):=by
 refine(zm b cs0 d f g h).nm fun n e x=> ?_
 rw [aqQ,e];cases x.2.2.2.1 !=0
 .exact⟨_,rfl,rfl⟩
 .exact⟨_,rfl,rfl⟩
theorem aEt {nr:Int} {a b:af} {line:O} {fs:af} {fu:Int} {dn:Bool} {r:Sum Int cV} {x:WE} (h:Pc nr a b line fs fu dn r x) (d:ae) (cs0:ai) (f:Int):cond (x.2.2.2.1 !=0) (d,cs0,f,x.2.2.2.1,([]:O)) (x.1,x.2.1,x.2.2.1,x.2.2.2.1,x.2.2.2.2.2.2.2.2.1)=sN d cs0 f nr r:=by
 cases r with
 |inl c=>
  obtain⟨g,i⟩:=h;rw [i,show(c !=0)=å by simpa using g];rfl
 |inr s=>
  have h:x=cT nr a b line fs fu dn s:=h;subst h;rfl
theorem aEu (b:ae) (cs0:ai) (d f:Int) (g:à b<=1048576) (h:à cs0<=1048576):W fun n=> ∀x:WI,∃y,Mg n x.1 x.2.1 x.2.2.1 x.2.2.2.1 x.2.2.2.2.1 x.2.2.2.2.2.1 x.2.2.2.2.2.2.1 x.2.2.2.2.2.2.2 b cs0 d f=ã y/\aaZ y=cond (x.2.2.2.2.2.2.2 !=0) (b,cs0,d,x.2.2.2.2.2.2.2,([]:O)) (x.1,x.2.1,x.2.2.1,x.2.2.2.1,x.2.2.2.2.2.1):=by
 refine(zn b cs0 d f g h).nm fun n e x=> ?_
 rw [awZ,e];cases x.2.2.2.2.2.2.2 !=0
 .exact⟨_,rfl,rfl⟩
 .exact⟨_,rfl,rfl⟩
theorem aEv {nr:Int} {line:O} {r:Sum Int cV} {x:WI} (h:Pb nr line r x) (b:ae) (cs0:ai) (d:Int):cond (x.2.2.2.2.2.2.2 !=0) (b,cs0,d,x.2.2.2.2.2.2.2,([]:O)) (x.1,x.2.1,x.2.2.1,x.2.2.2.1,x.2.2.2.2.2.1)=sN b cs0 d nr r:=by
 cases r with
 |inl c=>
  obtain⟨f,g⟩:=h;rw [g,show(c !=0)=å by simpa using f];rfl
 |inr s=>
  have h:x=zu nr line s:=h;subst h;rfl
theorem aEw (k:Nat) (hk:k<=8):W fun n=>Cu n (k:Int)=ã (Í k v0,0,0):=by
 refine((Zp k 8).and (Zq 0 k)).nm fun n ⟨b,d⟩=> ?_
 have hm:min (8:Int) (k:Int)=k:=ž
 have f:max (0:Int) (k:Int)=k:=ž
 have g:(8:Int)<=(big:Int):=Ũ
 rw [aoQ,b,hm,Z,d];simp only [f,Z];rw [hC ž,Y,Â]
 rfl
theorem aEx (k:Nat) (hk:k<=8):W fun n=>DL n (k:Int)=ã (Í k v0,0,0):=W.succ (W.of fun n=>by
 have f:(8:Int)<=(big:Int):=Ũ
 have b:(cond (á ((8:Int)<(k:Int))) (8:Int) (k:Int))=k:=by rw [hJ ž];rfl
 have d:(cond (á ((0:Int)<(k:Int))) (k:Int) (0:Int))=k:=by
  by_cases h:(0:Int)<k
  .rw [hC h];rfl
  .rw [hJ h];show(0:Int)=k;omega
 rw [auU,b,d,hC ž,Y,Â]
 rfl)
theorem aEy (a b:af) (c d:ae) (hp:gu c (à a) (à b)) (g:à a<=8):W fun n=>JY n a b c d=ã (nP (à a) c):=by
 have h:=Pe (à a) (à b);have hm:=Pd h;refine((((aEw (à a) g).and (zm (Í (à a) v0) [] 0 0 ź Ż)).and (aEq (a:=[]) (b:=[]) (line:=[]) (nr:=0) (fu:=0) (dn:=false) hp ž ž Ż _ hm rfl)).and (aEs (Í (à a) v0) [] 0 0 ź Ż)).nm fun n ⟨⟨⟨i,j⟩,x,f,k⟩,m⟩=> ?_
 have f:Cw n (Í (à a) v0) [] 0 0 [] [] [] [] [] 0 ä c=ã x:=f;obtain⟨y,p,q⟩:=m x;rw [aoP,i];simp only [Z,j,f,p];exact congrArg ã (q.trans (aEt k _ _ _))
theorem aEz (a b:af) (c d:ae) (hp:fC a b c d) (h:iT a b c d):W fun n=>LC n a b c d=ã (nP (à a) c):=by
 obtain⟨-, -, -, -, -,g,u,i, -⟩:=id h;have j:=Pe (à a) (à b);have hm:=Pd j;refine(((((zg a b c d hp).and (aEx (à a) g)).and (zn (Í (à a) v0) [] 0 0 ź Ż)).and (aEp (line:=[]) (nr:=0) i ž ž Ż _ hm)).and (aEu (Í (à a) v0) [] 0 0 ź Ż)).nm fun n ⟨⟨⟨⟨k,m⟩,p⟩,x,f,q⟩,r⟩=> ?_
 have f:DN n (Í (à a) v0) [] 0 0 [] [] [] 0 c=ã x:=f;obtain⟨y,s,t⟩:=r x;rw [auT,k,aA h];simp only [Ä,ez,Z,m,p,f,s];exact congrArg ã (t.trans (aEv q _ _ _))
theorem abA {x0:af} {x1:af} {x2:ae} {x3:ae} {x4:Int} {x5:ck} {x6:bp} {x7:Int} {x8:O} {x9:ag} {b:ag} {d:ae} (h:cA (.cons cE (.cons cE (.cons aN (.cons aN (.cons (.int ß) (.cons gb (.cons eD (.cons (.int ß) (.cons .str (.cons bh (.cons bh (.one aN)))))))))))) (x0,x1,x2,x3,x4,x5,x6,x7,x8,x9,b,d)):zi x0 x1 x2 x3 x4 x5 x6 x7 x8 x9 b d:=by
 obtain⟨s0,s1,s2,s3, -,s5,s6, -, -,s9,j,f⟩:=h;refine⟨⟨⟨s0.1,s0.2⟩,⟨s1.1,s1.2⟩,⟨s2.1,fun o k=>(s2.2 o k).2.2⟩,⟨s3.1,fun o k=>(s3.2 o k).2.2⟩⟩,⟨s5.1,fun p hp=> ?_⟩,⟨s6.1,fun r m=> ?_⟩,s9.1,j.1,⟨f.1,fun c hc=>(f.2 c hc).2.2⟩⟩
 .obtain⟨-, -, -, -, -,p5,p6,p7, -, -,q, -, -, -,s,t, -,u,z, -, -,ad, -, -, -,g⟩:=s5.2 p hp
  refine⟨⟨p5.1,fun e he=>(p5.2 e he).2.2.2⟩,p6.1,p7.1,q.1,s.1,t.1,u.1,z.1,ad.1,g.1,fun r m=> ?_⟩
  obtain⟨-, -, -, -, -, -, -,i, -, -⟩:=g.2 r m;exact⟨i.1,fun e he=>(i.2 e he).2.2.2⟩
 .obtain⟨-, -, -, -, -, -, -,i, -, -⟩:=s6.2 r m
  exact⟨i.1,fun e he=>(i.2 e he).2.2.2⟩
abbrev MT:=ae×(ai×Int×Int×ag×O)
def gZ (a b:af) (c d:ae) (m:MT):Prop:=pV a b c d m.1 m.2.1 m.2.2.1 m.2.2.2.1 m.2.2.2.2.1 m.2.2.2.2.2
noncomputable def sO (k:Nat) (ops:ae):MT:=((nP k ops).1,(nP k ops).2.1,(nP k ops).2.2.1,(nP k ops).2.2.2.1,Í 3 0,(nP k ops).2.2.2.2)
theorem aEA {a b:af} {c d:ae} (h:iT a b c d):gZ a b c d (sO (à a) c):=by
 obtain⟨-, -, -, -, -,j,k,f, -⟩:=id h;obtain⟨g,m⟩:=Pf (cells:=à b) f;exact⟨fun x i=>by rw [ψ i];exact⟨ž,ž⟩,h,g,by simp [sO],by show(nP (à a) c).2.2.2.2.length<=1500;omega⟩
theorem aEB (a b:af) (c d:ae) (h:iT a b c d):W fun n=>JX n a b c d=ã (sO (à a) c):=by
 obtain⟨-, -, -, -, -,g,j,f, -⟩:=id h;obtain⟨k,m⟩:=Pf (cells:=à b) f;refine(aEy a b c d f g).nm fun n e=> ?_
 have i:(8:Int)<=(big:Int):=Ũ
 rw [aoO,e,Z,hJ ž,hC ž]
 rfl
theorem aEC (a b:af) (c d:ae) (hp:fC a b c d) (h:iT a b c d):W fun n=>LB n a b c d=ã (sO (à a) c):=by
 obtain⟨-, -, -, -, -,j,k,f, -⟩:=id h;obtain⟨m,p⟩:=Pf (cells:=à b) f;refine((zg a b c d hp).and (aEz a b c d hp h)).nm fun n ⟨g,e⟩=> ?_
 have i:(8:Int)<=(big:Int):=Ũ
 rw [auS,g,aA h,e];simp only [Z,Ä,ez];rw [hJ ž,hC ž]
 rfl
theorem aED (vs:ae) (cs:ai) (nr er:Int) (dn:ag) (out:O) (b:à vs<=1048576) (d:à cs<=1048576) (f:à dn<=1048576):W fun n=>Kz n vs cs nr er dn out=ã (vs,cs,nr,er,dn,out):=by
 refine(zm vs cs nr er b d).nm fun n e=> ?_
 rw [aqR,e,Z,aX ž];rfl
theorem aEE (n:Nat) (l:ag):Ut (n+1) l=cond (υ (Ζ l) big) (ã l) â:=Ž
theorem aEF (vs:ae) (cs:ai) (nr er:Int) (dn:ag) (out:O) (b:à vs<=1048576) (d:à cs<=1048576) (f:à dn<=1048576):W fun n=>Mh n vs cs nr er dn out=ã (vs,cs,nr,er,dn,out):=by
 refine((zn vs cs nr er b d).and (W.ge 1)).nm fun n ⟨e,g⟩=> ?_
 obtain⟨n,rfl⟩: ∃q,n=q+1:=⟨n-1,ž⟩
 rw [axA,e,Z,aEE,aX ž];rfl
theorem abB (n:Nat): ∀(k x:Nat) (acc:O),x<128^(k+1)->x<=4611686018427387903->à acc+k<=1000-> ∀m,k<m-> ∃(y:Nat) (b:O),xX n m (x:Int) acc=ã (Ö ((y:Int),b))/\y<=127/\à b<=à acc+k/\b++[Β y]=acc++dj x
 |0,x,acc,d,_,_,m,hm=>by
  obtain⟨m,rfl⟩: ∃q,m=q+1:=⟨m-1,ž⟩
  have d:x<128:=Ľ
  rw [Nb,hJ ž]
  exact⟨x,acc,rfl,ž,ž,by rw [iw ž]⟩
 |k+1,x,acc,d,f,t,m,hm=>by
  obtain⟨m,rfl⟩: ∃q,m=q+1:=⟨m-1,ž⟩
  by_cases h:x<=127
  .rw [Nb,hJ ž]
   exact⟨x,acc,rfl,ž,ž,by rw [iw h]⟩
  have g:Þ ß (Ϩ (x:Int) 128)=((x/128:Nat):Int):=by
   rw [show Ϩ (x:Int) 128=((x/128:Nat):Int) by rw [ο ž];omega,Á];omega
  have i:Þ ß (ϊ (x:Int) 128+128)=((x%128+128:Nat):Int):=by
   rw [show ϊ (x:Int) 128=((x%128:Nat):Int) by rw [Ù ž];omega,Á];omega
  have j:Þ .u8 ((x%128+128:Nat):Int)=((x%128+128:Nat):Int):=ŝ
  have hk:x/128<128^(k+1):=by
   rw [ϗ ž]
   rw [Φ]at d;exact d
  obtain⟨y,b,e,p,r,s⟩:=abB n k (x/128) (acc++[Β (x%128+128)]) hk ž ź m ž
  rw [Nb,hC ž,aX ž,g,i,j,Â]
  refine⟨y,b,e,p,by simp at r;omega, ?_⟩
  rw [s,jU h];simp
theorem nQ (x:Int) (h:0<=x/\x<=4611686018427387903):W fun n=>lM n x=ã (bJ x):=by
 obtain⟨k,rfl⟩: ∃k:Nat,x=k:=⟨x.toNat,ž⟩
 refine((cD k 0 4611686018427387903).and (W.ge 10)).nm fun n ⟨e,j⟩=> ?_
 have hk:k<128^(8+1):=by
  have:(128:Nat)^(8+1)=9223372036854775808:=ų
  omega
 obtain⟨y,b,d,m,f,g⟩:=abB n 8 k [] hk ž Ż n ž
 rw [aqU,e,aA (show In (k:Int) 0 4611686018427387903 from⟨ž,ž⟩)]
 simp only [Z,Ä,ez];rw [show xX n n (k:Int) ([]:aC)=_ from d,Z];have i:Þ .u8 (y:Int)=(y:Int):=ŝ
 show cond (υ (à b+1) big) (ã (b++[Β (Ç (Þ .u8 (y:Int)))])) â=_;rw [aX (by simp at f;omega),i,Â,Y,g];rfl
theorem qH {x:Int} (h:x<=4611686018427387903):(bJ x).length<=9:=pX ž
theorem aEG (x:Int) (h:aW x):W fun n=>KA n x=ã (np x):=by
 have i:=dZ h;have g:Þ ß ((0:Int)-(2305843009213693951:Int))= -2305843009213693951:=ż
 have b:=cD x (-2305843009213693951) 2305843009213693951;have hi:In x (-2305843009213693951) 2305843009213693951:=⟨ž,ž⟩
 by_cases d:x<0
 .have hw:Þ ß (Þ ß ((-2:Int)*x)-1)= -2*x-1:=by rw [Á,Á];omega
  refine(b.and (nQ (-2*x-1) ž)).nm fun n ⟨e,f⟩=> ?_
  rw [Vy,g,e,aA hi];simp only [Z,Ä,ez,hC d,Y,hw,f];rw [np,if_pos d];rfl
 .have hw:Þ ß ((2:Int)*x)=2*x:=by rw [Á];omega
  refine(b.and (nQ (2*x) ž)).nm fun n ⟨e,f⟩=> ?_
  rw [Vy,g,e,aA hi];simp only [Z,Ä,ez,hJ d,hw,f];rw [np,if_neg d];rfl
theorem aEH {x:Int} (h:aW x):(np x).length<=9:=by
 have b:=dZ h;unfold np;split
 .exact pX ž
 .exact pX ž
theorem Pg (s:O) (h:à s<=3000000):W fun n=>xY n s=ã (eS s):=by
 refine(nQ (à s) ž).nm fun n e=> ?_
 have b:=qH (x:=(à s:Int)) ž
 rw [aqW,e,Z,aX ž,aX ž,Y,Y,eS,bJ,Â]
theorem Ph {s:O} {k:Nat} (h:à s<=k) (hk:k<=3000000):(eS s).length<=k+9:=by
 have b:=pX (n:=à s) ž
 unfold eS;rw [À];omega
theorem FW {v:V} (h:bO v):(gS v).length<=400:=by
 obtain⟨d,f,g⟩:=h;have a:=qH (x:=v.1) ž
 have b:=aEH d;have c:=Ph f ž
 unfold gS;rw [À,À];omega
theorem FX {v:V} (h:bO v):0<=v.1/\v.1<=3:=by
 obtain⟨b,d,f⟩:=h;omega
theorem abC (v:V) (h:bO v):W fun n=>CV n v.1 v.2.1 v.2.2=ã (gS v):=by
 have hk:=FX h;have b:=FW h;refine(((nQ v.1 ž).and (aEG v.2.1 h.1)).and (Pg v.2.2 (by have:=h.2.1;omega))).nm fun n ⟨⟨d,f⟩,g⟩=> ?_
 unfold gS at b;rw [À,À]at b;rw [aqV,d,Z,f,Z,aX ž,Y,g,Z,aX ű];rfl
theorem abD {cells:Int} {c:VC} (h:CW cells c) (i:cells<=8):(iy c).length<=800:=by
 obtain⟨j,k,f,g⟩:=h;have a:=qH (x:=c.1) ž
 have b:=Ph f ž
 have d:=FW g;unfold iy;rw [À,À];omega
theorem abE (a b:af) (c d:ae) (vs:ae) (cs:ai) (nr er:Int) (dn:ag) (out:O) (h:pV a b c d vs cs nr er dn out):W fun n=>CU n vs cs nr er dn out=ã (nq vs cs nr er dn out):=by
 obtain⟨h1,h2,p,h4,h5⟩:=h;have ha:à a<=8:=h2.2.2.2.2.2.1;have hb:à b<=8:=h2.2.2.2.2.2.2.1;have hv:=p.2.2.1;have hc:=p.2.2.2.1;have j:=(wQ.1 p.2.1).1;obtain⟨n1,n2⟩:=p.2.2.2.2.1;obtain⟨r1,r2⟩:=p.2.2.2.2.2;have l0:=pX (n:=à vs) ž
 have l1:=pX (n:=à cs) ž
 have lr:=qH (x:=nr) ž
 have le:=qH (x:=er) ž
 have lo:=Ph h5 ž
 have fl: ∀ {α:Type} (f:α->O) (B:Nat) (l:List α),(∀x∈l,(f x).length<=B)->(l.flatMap f).length<=à l*B:=by
  intro α f B l;induction l with
  |nil=>simp
  |cons x l ih=>
   intro hx;have h1:=hx x Ż
   have h2:=ih fun y hy=>hx y (by simp [hy])
   rw [Γ,À,Î,ϭ];omega
 have f0:=fl gS 400 vs fun v hm=>FW (p.1 v hm)
 have f1:=fl iy 800 cs fun v hm=>abD (j v hm) ž
 have f2:=fl bJ 9 dn fun x hm=>qH (by have:=(h1 x hm).2;omega)
 have g0:à vs*400<=8*400:=ι _ ž
 have g1:à cs*800<=40*800:=ι _ ž
 obtain⟨u,q⟩: ∃A,A=iX gS vs:=⟨_,rfl⟩
 obtain⟨A1,t⟩: ∃A,A=u++iX iy cs:=⟨_,rfl⟩
 have a0:à u<=4000:=by rw [q,iX,À];omega
 have a1:A1.length<=40000:=by rw [t,iX,À,À];omega
 have k0:=AZ (l:=vs) ž (f:=gS) (fun v hm=>FW (p.1 v hm)) (init:=dj (à vs)) ž (r:=fun s=>(Ö (vs,cs,nr,er,vs,cs,nr,er,dn,out,s):Sum _ O)) (L:=fun n m i s=>xU n m vs cs nr er vs cs nr er dn out i s) ((W.all vs fun v hm=>abC v (p.1 v hm)).mono fun n h i hi acc m g=>by
  rw [Vv,aU hi,bB hi];simp only [Y,Z,h _ (Æ hi)];rw [aX g];rfl) (fun n m s=>by rw [Vv,bM];rfl)
 have k1:=AZ (l:=cs) ž (f:=iy) (fun v hm=>abD (j v hm) ž) (init:=u++dj (à cs)) ű (r:=fun s=>(Ö (vs,cs,nr,er,dn,out,vs,cs,nr,er,s):Sum _ O)) (L:=fun n m i s=>xV n m vs cs nr er vs cs nr er dn out i s) ((W.all cs fun v hm=>((nQ v.1 (by have:=(j v hm).1;have:=(j v hm).2.1;omega)).and (Pg v.2.1 (by have:=(j v hm).2.2.1;omega))).and (abC v.2.2 (j v hm).2.2.2)).mono fun n h i hi acc m g=>by
  obtain⟨⟨e1,e2⟩,e3⟩:=h _ (Æ hi);have hl:(bJ cs[i].1).length+(eS cs[i].2.1).length+(gS cs[i].2.2).length=(iy cs[i]).length:=by rw [iy,À,À]
  rw [Vw,aU hi,bB hi];simp only [Y,Z,e1,e2,e3];rw [aX ž,aX ű,aX ē]
  simp only [Y,iy,Å]) (fun n m s=>by rw [Vw,bM];rfl)
 have k2:=AZ (l:=dn) ž (f:=bJ) (fun x hm=>qH (by have:=(h1 x hm).2;omega)) (init:=(A1++bJ nr)++bJ er) ē (r:=fun s=>(Ö (vs,cs,nr,er,dn,out,s):Sum _ O)) (L:=fun n m i s=>xW n m vs cs nr er dn out i s) ((W.all dn fun x hm=>nQ x (by have:=h1 x hm;exact⟨this.1,by have:=this.2;omega⟩)).mono fun n h i hi acc m g=>by
  rw [Vx,aU hi,bB hi];simp only [Y,Z,h _ (Æ hi)];rw [aX g];rfl) (fun n m s=>by rw [Vx,bM];rfl)
 refine(((((((nQ (à vs) ž).and (nQ (à cs) ž)).and (nQ nr ž)).and (nQ er ž)).and (Pg out ž)).and (k0.and k1)).and k2).nm fun n ⟨⟨⟨⟨⟨⟨e1,e2⟩,e3⟩,e4⟩,e5⟩,e6,e7⟩,e8⟩=> ?_
 have n0: ∀k:Nat,bJ (k:Int)=dj k:=fun k=>by rw [bJ,Â]
 rw [n0]at e1 e2;have z:dj (à vs)++vs.flatMap gS=u:=q.symm;have ad:u++dj (à cs)++cs.flatMap iy=A1:=by rw [t,iX,Å]
 rw [z]at e6;rw [ad]at e7;rw [aqT,e1,Z,show xU n n vs cs nr er vs cs nr er dn out 0 (dj (à vs))=_ from e6,Z];dsimp only [aq]
 rw [e2,Z,aX ž,Y]
 rw [show xV n n vs cs nr er vs cs nr er dn out 0 (u++dj (à cs))=_ from e7,Z];dsimp only [aq]
 rw [e3,Z,aX ž,Y,e4,Z,aX ű,Y,show xW n n vs cs nr er dn out 0 ((A1++bJ nr)++bJ er)=_ from e8,Z]
 dsimp only [aq]
 have a8:à dn*9<=3*9:=ι _ ž
 rw [e5,Z,aX (by simp only [À];omega),Y]
 rw [nq,wS,t,q]
theorem abF {a b z b':af} {c d c' d':ae} {m m':MT} (h:gZ a b c d m) (i:gZ z b' c' d' m'):(nq m.1 m.2.1 m.2.2.1 m.2.2.2.1 m.2.2.2.2.1 m.2.2.2.2.2=nq m'.1 m'.2.1 m'.2.2.1 m'.2.2.2.1 m'.2.2.2.2.1 m'.2.2.2.2.2)↔m=m':=by
 constructor
 .intro e
  have k: ∀ {a b:af} {c d:ae} {m:MT},gZ a b c d m->(∀v∈m.1,0<=v.1)/\(∀c∈m.2.1,0<=c.1/\0<=c.2.2.1)/\0<=m.2.2.1/\0<=m.2.2.2.1/\(∀x∈m.2.2.2.2.1,0<=x):=fun h=>by
   obtain⟨h1,h2,g,h4,h5⟩:=h;have f:=(wQ.1 g.2.1).1;exact⟨fun v hv=>(FX (g.1 v hv)).1,fun c j=>⟨(f c j).1,(FX (f c j).2.2.2).1⟩,g.2.2.2.2.1.1,g.2.2.2.2.2.1,fun x hx=>(h1 x hx).1⟩
  obtain⟨p1,p2,p3,p4,p5⟩:=k h;obtain⟨q1,q2,q3,q4,q5⟩:=k i;obtain⟨p,q,r,s,t,u⟩:=ajF p1 q1 p2 q2 p3 q3 p4 q4 p5 q5 (by rw [h.2.2.2.1,i.2.2.2.1]) e
  obtain⟨m1,m2,m3,m4,m5,m6⟩:=m;obtain⟨n1,n2,n3,n4,n5,n6⟩:=m';dsimp only at p q r s t u
  rw [p,q,r,s,t,u]
 .rintro rfl;rfl
theorem aEI {a b:af} {c d:ae} {m m':MT} (h:gZ a b c d m) (f:gZ a b c d m'):W fun n=>CR n m.1 m.2.1 m.2.2.1 m.2.2.2.1 m.2.2.2.2.1 m.2.2.2.2.2 m'.1 m'.2.1 m'.2.2.1 m'.2.2.2.1 m'.2.2.2.2.1 m'.2.2.2.2.2=ã (bo (m=m')):=by
 refine((abE a b c d _ _ _ _ _ _ h).and (abE a b c d _ _ _ _ _ _ f)).nm fun n ⟨g,i⟩=> ?_
 have j:((à m.2.2.2.2.1:Int)==(à m'.2.2.2.2.1:Int))=å:=by
  have k:=h.2.2.2.1;have p:=f.2.2.2.1;rw [k,p];rfl
 rw [aqS,g,i];simp only [Z,j,bW,abF h f,kJ]
theorem abG {α:Type} (l r:List α) (h:à l=à r):(∀i,i<à l->l[i]? =r[i]?)↔l=r:=by
 constructor
 .intro k
  apply List.ext_getElem?
  intro i;by_cases hi:i<à l
  .exact k i hi
  .rw [Ϙ ž,Ϙ ž]
 .rintro rfl i _;rfl
theorem zv {α:Type} (l r:List α) (g:à l<=1048576) {L:Nat->Nat->Int->Option (Sum Unit Bool)} {F:Nat->Option Bool} (f: ∀n,F (n+1)=cond ((à l:Int) !=(à r:Int)) (ã ä) ((L n n 0).bind fun j=>aq j (fun _=>ã å) (fun w=>ã w)))
  (k: ∀n m (i:Nat) (hi:i<à l) (d:i<à r),L n (m+1) i=cond (bo (l[i]=r[i])) (L n m (Þ ß ((i:Int)+1))) (ã (.inr ä))) (he: ∀n m,L n (m+1) (à l)=ã (.inl ())):W fun n=>F n=ã (bo (l=r)):=by
 by_cases h:à l=à r
 .refine(kK g (q:=fun i=>l[i]? =r[i]?) (r:=false) (b:=()) (L:=L) (W.of fun n m i hi=>by
   have d:i<à r:=ž
   simp only [k n m i hi d,Ê hi,Ê d,Δ]) he).nm fun n e=> ?_
  rw [f,show((à l:Int) !=(à r:Int))=ä by simp [h],ez,e]
  simp only [Z,fT,kJ,abG l r h]
 .refine W.succ (W.of fun n=> ?_)
  rw [f,show((à l:Int) !=(à r:Int))=å by simp;omega,aw (fun e=>h (by rw [e]))];rfl
theorem aEJ (a b:V):jj [a.1==b.1,a.2.1==b.2.1,a.2.2==b.2.2]=bo (a=b):=ľ
theorem aEK (l r:List V) (b:à l<=1048576):W fun n=>Mi n l r=ã (bo (l=r)):=
 zv l r b (L:=fun n m i=>Ep n m i r l (à l)) (fun n=>axC n l r) (fun n m i hi d=>by
  rw [WJ,aU hi,bB hi,bB d];simp only [Y,Z,aEJ,cC];exact dL ı) (fun n m=>by rw [WJ,bM];rfl)
theorem aEL (a b:VC):jj [a.1==b.1,a.2.1==b.2.1,a.2.2.1==b.2.2.1,a.2.2.2.1==b.2.2.2.1,a.2.2.2.2==b.2.2.2.2]=bo (a=b):=ľ
theorem aEM (l r:List VC) (b:à l<=1048576):W fun n=>Mj n l r=ã (bo (l=r)):=
 zv l r b (L:=fun n m i=>Er n m i r l (à l)) (fun n=>axD n l r) (fun n m i hi d=>by
  rw [WK,aU hi,bB hi,bB d];simp only [Y,Z,aEL,cC];exact dL ı) (fun n m=>by rw [WK,bM];rfl)
theorem aEN (l r:ag) (b:à l<=1048576):W fun n=>Ml n l r=ã (bo (l=r)):=
 zv l r b (L:=fun n m i=>Es n m i r l (à l)) (fun n=>axE n l r) (fun n m i hi d=>by
  rw [WL,aU hi,bB hi,bB d];simp only [Y,Z,eQ];exact dL Ż) (fun n m=>by rw [WL,bM];rfl)
theorem aEO (m m':MT) (b:à m.1<=1048576) (d:à m.2.1<=1048576) (f:à m.2.2.2.2.1<=1048576):W fun n=>Eo n m.1 m.2.1 m.2.2.1 m.2.2.2.1 m.2.2.2.2.1 m.2.2.2.2.2 m'.1 m'.2.1 m'.2.2.1 m'.2.2.2.1 m'.2.2.2.2.1 m'.2.2.2.2.2=ã (bo (m=m')):=by
 refine(((aEK m.1 m'.1 b).and (aEM m.2.1 m'.2.1 d)).and (aEN m.2.2.2.2.1 m'.2.2.2.2.1 f)).nm fun n ⟨⟨g,h⟩,i⟩=> ?_
 rw [axB,g];simp only [Z,h,i,bW,gQ];refine ig ?_
 obtain⟨m1,m2,m3,m4,m5,m6⟩:=m;obtain⟨j,k,p,q,n5,n6⟩:=m';simp only [Ο]
theorem vg (x:Nat) (h:x<18446744073709551616):(Ν 64 (x:Int)).toNat=x:=by
 rw [BitVec.toNat_ofInt];omega
theorem Pj (a d k:Nat) (f:a<128^k) (hd:d<128) (hk:k<=8):cS .or ß (a:Int) ((d*128^k:Nat):Int)=((a+128^k*d:Nat):Int):=by
 have h:(128:Nat)^8=72057594037927936:=ų
 have hp:(128:Nat)^k<=128^8:=Κ ž hk
 have hm:d*128^k<=127*128^8:=ϩ ž hp
 have i:a+128^k*d<128^(k+1):=by
  rw [Φ];have:128^k*d<=128^k*127:=ξ _ ž
  omega
 have g:(128:Nat)^(k+1)<=128^9:=Κ ž ž
 have j:(128:Nat)^9=9223372036854775808:=ų
 show Þ ß (((Ν 64 (a:Int) |||Ν 64 ((d*128^k:Nat):Int)).toNat:Nat):Int)=_
 have b:(128:Nat)^k=2^(7*k):=by rw [show (128:Nat)=2^7 from rfl,<-Ϯ]
 rw [BitVec.toNat_or,vg a ž,vg _ ž,Nat.or_comm,Nat.mul_comm d,b,<-Nat.two_pow_add_eq_or_of_lt (by rw [<-b];exact f),<-b,Á,Nat.add_comm]
 omega
theorem aEP (d:Nat) (h:d<256):cS .and ß (d:Int) 127=((d%128:Nat):Int):=by
 show Þ ß (((Ν 64 (d:Int) &&&Ν 64 ((127:Nat):Int)).toNat:Nat):Int)=_;rw [ϡ,vg d ž,vg _ ž,show(127:Nat)=2^7-1 from rfl,ε,Á]
 omega
theorem abH (d k:Nat) (hd:d<128) (hk:k<=8):Þ ß ((d:Int)*2^(min (Ç (Þ ß (7*(k:Int)))) (Χ ß)))=((d*128^k:Nat):Int):=by
 have h:(128:Nat)^8=72057594037927936:=ų
 have hp:(128:Nat)^k<=128^8:=Κ ž hk
 have hm:d*128^k<=127*128^8:=ϩ ž hp
 have b:Þ ß (7*(k:Int))=((7*k:Nat):Int):=ż
 have f:min (Ç ((7*k:Nat):Int)) (Χ ß)=7*k:=by
  show min (Ç ((7*k:Nat):Int)) 64=7*k;omega
 have g:(2:Int)^(7*k)=((128^k:Nat):Int):=by rw [show (128:Nat)=2^7 from rfl,<-Ϯ];norm_cast
 rw [b,f,g,show(d:Int)*((128^k:Nat):Int)=((d*128^k:Nat):Int) by norm_cast,Á]
 omega
def oY (b:O) (at0 k acc:Nat) (o:Option (Nat×Nat)):Int×(Int×Bool):=match o with
 |some (x,l)=>if(1<k+l/\(b.drop (at0+k))[l-1]? =ã 0)\/4611686018427387903<acc+128^k*x then(0,0,ä)else(((acc+128^k*x:Nat):Int),((at0+k+l:Nat):Int),å)
 |none=>(0,0,ä)
theorem abI (b:O) (at0 k acc:Nat) (d:UInt8) (o:Option (Nat×Nat)) (f: ∀x l,o=ã (x,l)->0<l) (hd:(b.drop (at0+k))=d::b.drop (at0+(k+1))):
  oY b at0 k acc (o.map fun p=>(d.toNat%128+128*p.1,p.2+1))=oY b at0 (k+1) (acc+128^k*(d.toNat%128)) o:=by
 cases o with
 |none=>rfl
 |some p=>
  obtain⟨x,l⟩:=p;have g:=f x l rfl;have e:acc+128^k*(d.toNat%128+128*x)=acc+128^k*(d.toNat%128)+128^(k+1)*x:=by
   rw [Nat.mul_add,Φ,<-Nat.mul_assoc];omega
  simp only [Option.map_some,oY];rw [e,hd,show l+1-1=(l-1)+1 by omega,List.getElem?_cons_succ,show at0+k+(l+1)=at0+(k+1)+l by omega,show k+(l+1)=k+1+l by omega]
theorem gnS (n:Nat) (b:O) (at0:Nat) (hb:à b<=1048576) (ha:at0<=à b): ∀(f k acc m:Nat),f+k=9->acc<128^k->f<m->
  ((CY n m (k:Int) (at0:Int) (acc:Int) b).bind fun y=>aq y (fun _=>ã ((0:Int),(0:Int),ä)) fun w=>ã w)=ã (oY b at0 k acc (fk f (b.drop (at0+k))))
 |0,k,acc,m,hf,j,hm=>by
  obtain⟨m,rfl⟩: ∃q,m=q+1:=⟨m-1,ž⟩
  rw [VE,hJ ž]
  rfl
 |f+1,k,acc,m,hf,j,hm=>by
  obtain⟨m,rfl⟩: ∃q,m=q+1:=⟨m-1,ž⟩
  have hw:Þ ß ((à b:Int)-(k:Int))=(à b:Int)-k:=ż
  have u:Þ ß ((at0:Int)+(k:Int))=((at0+k:Nat):Int):=ż
  have z:(0:Int)<=Þ ß (7*(k:Int)):=Ķ
  rw [VE,hC (show (k:Int)<9 by omega),hJ (show ¬(at0:Int)<0 by omega),hw,u]
  by_cases hi:at0+k<à b
  .have hd:b.drop (at0+k)=b[at0+k]::b.drop (at0+(k+1)):=Ì hi
   rw [hJ ž,bB hi,hC z]
   generalize b[at0+k]=d at hd
   have al:d.toNat<256:=d.toNat_lt;have ad:Þ ß (d.toNat:Int)=(d.toNat:Int):=ż
   have p:ϊ (d.toNat:Int) 128=((d.toNat%128:Nat):Int):=by rw [Ù ž];omega
   have ae:=Pj acc (d.toNat%128) k j ž ž
   have r:acc+128^k*(d.toNat%128)<128^(k+1):=by
    rw [Φ];have:128^k*(d.toNat%128)<=128^k*127:=ξ _ ž
    omega
   have ao:(128:Nat)^(k+1)<=128^9:=Κ ž ž
   have h9:(128:Nat)^9=9223372036854775808:=ų
   simp only [Y,ez,Z,ad,p,abH _ k (show d.toNat%128<128 by omega) ž,ae]
   rw [hd,fk];by_cases h1:d.toNat<128
   .rw [hC ž,if_pos h1]
    have s:d.toNat%128=d.toNat:=ž
    rw [s];simp only [Y,oY];rw [hd];have hz:((d.toNat:Int)==0)=bo ((d::b.drop (at0+(k+1)))[0]? =ã 0):=by
     rw [List.getElem?_cons_zero]
     by_cases h:d=0
     .subst h;rw [aA rfl];rfl
     .rw [aw Ű]
      have:d.toNat≠0:=fun e=>h (κ.1 Ņ)
      exact beq_eq_false_iff_ne.2 ž
    rw [s]at r;have t:á (((acc+128^k*d.toNat:Nat):Int)<0)=ä:=hJ ž
    have af:Þ ß (((at0+k:Nat):Int)+1)=((at0+k+1:Nat):Int):=ż
    rw [t,hz,af];by_cases hk:0<k
    .rw [hC (show (0:Int)<(k:Int) by omega)]
     by_cases i:(d::b.drop (at0+(k+1)))[0]? =ã 0
     .rw [aA i,if_pos (.inl ⟨ž,i⟩)];rfl
     .rw [aw i]
      by_cases g:4611686018427387903<acc+128^k*d.toNat
      .rw [hC ž,if_pos (.inr g)];rfl
      .rw [hJ ž,if_neg (by rintro(h|h);exact i h.2;exact g h)];rfl
    .rw [hJ (show ¬(0:Int)<(k:Int) by omega)]
     by_cases g:4611686018427387903<acc+128^k*d.toNat
     .rw [hC ž,if_pos (.inr g)];rfl
     .rw [hJ ž,if_neg (by rintro(h|h);omega;exact g h)];rfl
   .rw [hJ ž,if_neg h1,ez]
    have ag:Þ ß ((k:Int)+1)=((k+1:Nat):Int):=ż
    rw [ag,gnS n b at0 hb ha f (k+1) _ m ž r ž,abI b at0 k acc d _ (fun x l h=>(tL h).1) hd]
  .rw [hC ž,Ó ž]
   rfl
theorem gnI (n:Nat) (hn:2<=n) (b:O) (at0:Nat) (hb:à b<=1048576) (ha:at0<=à b) (p: ∀x lo hi,cu n x lo hi=ã (bo (In x lo hi))): ∀(f k acc m:Nat),f+k=9->acc<128^k->f<m->
  ((Eu n m (k:Int) (at0:Int) (acc:Int) b).bind fun y=>aq y (fun _=>ã ((0:Int),(0:Int),ä)) fun w=>ã w)=ã (oY b at0 k acc (fk f (b.drop (at0+k))))
 |0,k,acc,m,hf,i,hm=>by
  obtain⟨m,rfl⟩: ∃q,m=q+1:=⟨m-1,ž⟩
  rw [WR,hJ ž]
  rfl
 |f+1,k,acc,m,hf,i,hm=>by
  obtain⟨m,rfl⟩: ∃q,m=q+1:=⟨m-1,ž⟩
  have r:Þ ß ((at0:Int)+(k:Int))=((at0+k:Nat):Int):=ż
  have s:(0:Int)<=Þ ß (7*(k:Int)):=Ķ
  rw [WR,hC (show (k:Int)<9 by omega),r]
  by_cases hi:at0+k<à b
  .have hd:b.drop (at0+k)=b[at0+k]::b.drop (at0+(k+1)):=Ì hi
   rw [aU hi,bB hi,hC s];generalize b[at0+k]=d at hd
   have t:d.toNat<256:=d.toNat_lt;have u:Þ ß (d.toNat:Int)=(d.toNat:Int):=ż
   have z:=Pj acc (d.toNat%128) k i ž ž
   have ad:acc+128^k*(d.toNat%128)<128^(k+1):=by
    rw [Φ];have:128^k*(d.toNat%128)<=128^k*127:=ξ _ ž
    omega
   simp only [Y,Z,u,aEP _ t,abH _ k (show d.toNat%128<128 by omega) ž,z,p]
   rw [hd,fk];by_cases h1:d.toNat<128
   .rw [hJ ž,if_pos h1]
    have ae:d.toNat%128=d.toNat:=ž
    rw [ae];simp only [ez,oY];rw [hd];have af:Þ ß (((at0+k:Nat):Int)+1)=((at0+k+1:Nat):Int):=ż
    have ag:(!bo (In ((acc+128^k*d.toNat:Nat):Int) 0 4611686018427387903))=bo (4611686018427387903<acc+128^k*d.toNat):=by
     by_cases h:4611686018427387903<acc+128^k*d.toNat
     .rw [aA h,aw (fun h'=>by have:=h'.2;omega)];rfl
     .rw [aw h,aA ⟨ž,ž⟩];rfl
    rw [af,ag];by_cases j:d=0
    .subst j
     by_cases hk:0<k
     .rw [hC (show (0:Int)<(k:Int) by omega),if_pos (.inl ⟨ž,rfl⟩)];rfl
     .rw [hJ (show ¬(0:Int)<(k:Int) by omega)]
      by_cases g:4611686018427387903<acc+128^k*(0:UInt8).toNat
      .rw [aA g,if_pos (.inr g)];rfl
      .rw [aw g,if_neg (by rintro(h|h);omega;exact g h)];rfl
    .have:d.toNat≠0:=fun e=>j (κ.1 Ņ)
     rw [show ((d.toNat:Int)==0)=ä from beq_eq_false_iff_ne.2 ž]
     by_cases g:4611686018427387903<acc+128^k*d.toNat
     .rw [aA g,if_pos (.inr g)];rfl
     .rw [aw g,if_neg (by rintro(h|h);exact j (by simpa using h.2);exact g h)];rfl
   .rw [hC ž,if_neg h1,Y]
    have ah:Þ ß ((k:Int)+1)=((k+1:Nat):Int):=ż
    rw [ah,gnI n hn b at0 hb ha p f (k+1) _ m ž ad ž,abI b at0 k acc d _ (fun x l h=>(tL h).1) hd]
  .rw [hJ ž,Ó ž]
   rfl
def cX {α:Type} (z:α) (b:O) (o:Option (α×O)):α×(Int×Bool):=match o with
 |some (x,r)=>(x,(à b:Int)-(à r:Int),å)
 |none=>(z,0,ä)
theorem abL (b:O) (k:Nat) (hk:k<=à b):oY b k 0 0 (fk 9 (b.drop (k+0)))=cX 0 b (cr (b.drop k)):=by
 unfold cr oY cX;rw [Ϝ];cases h:fk 9 (b.drop k)with
 |none=>rfl
 |some p=>
  obtain⟨x,l⟩:=p;obtain⟨f,g,d,i⟩:=tL h;simp only [Nat.zero_add,Nat.pow_zero,Nat.one_mul];split
  .rfl
  .simp only [È]at d |-
   congr 2
   omega
theorem vh (b:O) (d:à b<=1048576):W fun n=> ∀k:Nat,k<=à b->uh n b (k:Int)=ã (cX 0 b (cr (b.drop k))):=by
 refine(W.ge 12).nm fun n f k hk=> ?_
 rw [arB,<-abL b k hk];exact gnS n b k d hk 9 0 0 n rfl ŷ ž
theorem abM:W fun n=> ∀x lo hi,cu n x lo hi=ã (bo (In x lo hi)):=W.succ (W.of fun n x lo hi=>by
 rw [oL];by_cases h:lo<=x
 .rw [hC h]
  by_cases b:x<=hi
  .rw [aA ⟨h,b⟩];simp [b]
  .rw [aw (fun k=>b k.2)];simp [b]
 .rw [hJ h,aw (fun k=>h k.1)];rfl)
theorem aEQ:W fun n=> ∀x lo hi,bS n x lo hi=ã (bo (In x lo hi)):=W.succ (W.of fun n x lo hi=>by
 rw [uC];by_cases h:lo<=x
 .rw [hC h]
  by_cases b:x<=hi
  .rw [aA ⟨h,b⟩];simp [b]
  .rw [aw (fun k=>b k.2)];simp [b]
 .rw [hJ h,aw (fun k=>h k.1)];rfl)
theorem vi (b:O) (f:à b<=1048576):W fun n=> ∀k:Nat,k<=à b->uz n b (k:Int)=ã (cX 0 b (cr (b.drop k))):=by
 refine((W.ge 12).and abM).nm fun n ⟨g,d⟩ k hk=> ?_
 rw [axJ,d,aA (show In (k:Int) 0 (à b:Int)from⟨ž,ž⟩),<-abL b k hk]
 exact gnI n ž b k f hk d 9 0 0 n rfl ŷ ž
theorem qI {s:O} {x:Int} {r:O} (h:cr s=ã (x,r)):0<=x/\x<=4611686018427387903/\0<à s-à r/\à r<à s:=by
 obtain⟨⟨b,d⟩,rfl⟩:=(eC _ _ _).1 h;have:0<(bJ x).length:=by
  unfold bJ;by_cases h:x.toNat<=127
  .rw [iw h];simp
  .rw [jU h];simp
 simp only [À];omega
theorem abN (x:Int) (h:0<=x/\x<=4611686018427387903):(ϊ x 2==1)=bo (x%2=1)/\Þ ß (Ϩ x 2)=x/2/\Þ ß ((-1:Int)-x/2)= -1-x/2/\Þ ß (0-Þ ß (x/2+1))= -1-x/2:=by
 have b:ϊ x 2=x%2:=Ù h.1;have d:Ϩ x 2=x/2:=ο h.1;refine⟨by rw [b,bW],by rw [d,Á];omega,ż, ?_⟩
 rw [show Þ ß (x/2+1)=x/2+1 by rw [Á];omega,Á];omega
theorem abO (b s:O):cX 0 b (mg s)=match cr s with
  |some (x,r)=>cond (bo (In (jw x) (-2305843009213693951) 2305843009213693951)) (jw x,(à b:Int)-(à r:Int),å) (0,0,ä)
  |none=>(0,0,ä):=by
 unfold mg rJ pZ;cases h:cr s with
 |none=>rfl
 |some p=>
  obtain⟨x,r⟩:=p;simp only [Z];by_cases d:wT (jw x)
  .rw [hC d,aA (show In (jw x) (-2305843009213693951) 2305843009213693951 from d)];rfl
  .rw [hJ d,aw (show ¬In (jw x) (-2305843009213693951) 2305843009213693951 from d)];rfl
theorem aER (b:O) (f:à b<=1048576):W fun n=> ∀k:Nat,k<=à b->KR n b (k:Int)=ã (cX 0 b (mg (b.drop k))):=by
 refine((vh b f).and aEQ).nm fun n ⟨e,d⟩ k hk=> ?_
 rw [arU,e k hk,abO];cases h:cr (b.drop k)with
 |none=>rfl
 |some p=>
  obtain⟨x,r⟩:=p;obtain⟨g,i, -⟩:=qI h;obtain⟨j,z2,z3, -⟩:=abN x ⟨g,i⟩;simp only [cX,Z,Ä,ez,j,z2,z3,d];by_cases hp:x%2=1
  .rw [aA hp,Y,show jw x= -1-x/2 from if_pos hp]
   cases bo (In (-1-x/2) (-2305843009213693951) 2305843009213693951)<;>rfl
  .rw [aw hp,ez,show jw x=x/2 from if_neg hp]
   cases bo (In (x/2) (-2305843009213693951) 2305843009213693951)<;>rfl
theorem aES (b:O) (f:à b<=1048576):W fun n=> ∀k:Nat,k<=à b->EC n b (k:Int)=ã (cX 0 b (mg (b.drop k))):=by
 refine((vi b f).and abM).nm fun n ⟨e,d⟩ k hk=> ?_
 rw [ayC,e k hk,abO];cases h:cr (b.drop k)with
 |none=>rfl
 |some p=>
  obtain⟨x,r⟩:=p;obtain⟨g,i, -⟩:=qI h;obtain⟨j,z2,z3,z4⟩:=abN x ⟨g,i⟩;simp only [cX,Z,Ä,ez,j,z2,z4,d];by_cases hp:x%2=1
  .rw [aA hp,Y,show jw x= -1-x/2 from if_pos hp]
   cases bo (In (-1-x/2) (-2305843009213693951) 2305843009213693951)<;>rfl
  .rw [aw hp,ez,show jw x=x/2 from if_neg hp]
   cases bo (In (x/2) (-2305843009213693951) 2305843009213693951)<;>rfl
theorem abP (b:O) (m:à b<=1048576) (k:Nat) (hk:k<=à b) {x:Int} {r:O} (h:cr (b.drop k)=ã (x,r)):
  ((cond (!true) (ã å) (ã (á (Þ ß ((à b:Int)-((à b:Int)-(à r:Int)))<x)))).bind fun y:Bool=>cond y (ã (([]:O),(0:Int),ä)) (cond (á (0<=(à b:Int)-(à r:Int)/\(à b:Int)-(à r:Int)<=Þ ß ((à b:Int)-(à r:Int)+x)/\Þ ß ((à b:Int)-(à r:Int)+x)<=(à b:Int)))
   (ã ((b.drop (Ç ((à b:Int)-(à r:Int)))).take ((Ç (Þ ß ((à b:Int)-(à r:Int)+x)))-(Ç ((à b:Int)-(à r:Int)))),Þ ß ((à b:Int)-(à r:Int)+x),å)) â))=ã (cX [] b (iz (b.drop k))):=by
 obtain⟨p,q,s,t⟩:=qI h;have u:(b.drop k).length=à b-k:=È;have hd:b.drop (à b-à r)=r:=by
  obtain⟨-,e⟩:=(eC _ _ _).1 h;have d:r=(b.drop k).drop (bJ x).length:=Ţ
  have g:(b.drop k).length=(bJ x).length+à r:=by rw [e,À]
  rw [Λ]at d;rw [d];congr 1
  simp only [È]at g |-;omega
 have i:Þ ß ((à b:Int)-((à b:Int)-(à r:Int)))=(à r:Int):=ż
 rw [iz,h,i];simp only [Ä,ez,Z];by_cases f:x<=(à r:Int)
 .have j:Þ ß ((à b:Int)-(à r:Int)+x)=(à b:Int)-(à r:Int)+x:=by rw [Á];omega
  rw [hJ ž,hC f,j,hC ž,show Ç ((à b:Int)-(à r:Int))=à b-à r by omega,hd,show Ç ((à b:Int)-(à r:Int)+x)-(à b-à r)=x.toNat by omega]
  simp only [Y,ez,cX,È];congr 3
  omega
 .rw [hC ž,hJ f];rfl
theorem aET (b:O) (d:à b<=1048576):W fun n=> ∀k:Nat,k<=à b->KK n b (k:Int)=ã (cX [] b (iz (b.drop k))):=by
 refine(vh b d).nm fun n e k hk=> ?_
 rw [arH,e k hk];cases h:cr (b.drop k)with
 |none=>rw [iz,h];rfl
 |some p=>
  obtain⟨x,r⟩:=p;exact abP b d k hk h
theorem aEU (b:O) (d:à b<=1048576):W fun n=> ∀k:Nat,k<=à b->Mu n b (k:Int)=ã (cX [] b (iz (b.drop k))):=by
 refine(vi b d).nm fun n e k hk=> ?_
 rw [axN,e k hk];cases h:cr (b.drop k)with
 |none=>rw [iz,h];rfl
 |some p=>
  obtain⟨x,r⟩:=p;exact abP b d k hk h
def de {α:Type} (p:O->Option (α×O)) (b:O) (k:Nat) (ok:Bool) (x:α) (f:Int) (d:Bool):Prop:=
 ∃k1:Nat,f=(k1:Int)/\k1<=à b/\match cond ok (p (b.drop k)) â with
  |some y=>x=y.1/\d=å/\b.drop k1=y.2
  |none=>d=ä
theorem de.of {α:Type} {p:O->Option (α×O)} (hp:Cons p) {b:O} {k:Nat} (hk:k<=à b) {z:α} {ok:Bool}:de p b k ok (cond ((cX z b (p (b.drop k))).2.2&&ok) (cX z b (p (b.drop k))).1 z) (cond ((cX z b (p (b.drop k))).2.2&&ok) (cX z b (p (b.drop k))).2.1 k) ((cX z b (p (b.drop k))).2.2&&ok):=by
 cases h:p (b.drop k)with
 |none=>refine⟨k,rfl,hk, ?_⟩;cases ok<;>simp [h,cX]
 |some y=>
  obtain⟨x,r⟩:=y;cases ok with
  |false=>exact⟨k,by simp [cX],hk,by simp [cX]⟩
  |true=>
   obtain⟨m,rfl,hm⟩:=hp _ _ _ h;refine⟨k+m, ?_,Ų, ?_⟩
   .simp only [cX,Ϫ,Y,È]
    simp only [È]at hm;omega
   .simp [h,cX,Λ]
theorem de.seq {α β:Type} {p:O->Option (α×O)} {q:O->Option (β×O)} {b:O} {k:Nat} {ok f i:Bool} {x:α} {y:β} {k1:Nat} {j:Int} (h:de p b k ok x (k1:Int) f) (g:de q b k1 f y j i):de (fm p q) b k ok (x,y) j i:=by
 obtain⟨m,r,u,d⟩:=h;obtain⟨k2,rfl,g1,g2⟩:=g;have r:m=k1:=ž
 subst r;refine⟨k2,rfl,g1, ?_⟩
 cases ok with
 |false=>simp only [ez]at d |-;subst d;simpa using g2
 |true=>
  simp only [Y]at d |-;unfold fm;cases hp:p (b.drop k)with
  |none=>rw [hp]at d;subst d;simpa using g2
  |some z=>
   rw [hp]at d;obtain⟨rfl,rfl,e⟩:=d;rw [e,Y]at g2;simp only [Z];cases s:q z.2 with
   |none=>rw [s]at g2;simpa using g2
   |some w=>rw [s]at g2;obtain⟨rfl,rfl,t⟩:=g2;exact⟨rfl,rfl,t⟩
theorem Pk {α:Type} {p:O->Option (α×O)} (hp:Cons p) {b:O} {k:Nat} (hk:k<=à b) (z:α) (ok:Bool):
  ∃x k1 f,(((ã (cX z b (p (b.drop k)))).bind fun g=>(cond (!g.2.2) (ã å) (ã (!ok))).bind fun y:Bool=>cond y (ã (z,b,(k:Int),ä)) (ã (g.1,b,g.2.1,ok)))=ã (x,b,((k1:Nat):Int),f))/\k1<=à b/\de p b k ok x (k1:Int) f:=by
 have h:=de.of hp hk (z:=z) (ok:=ok);obtain⟨k1,j,i,m⟩:=h;refine⟨_,k1,_, ?_,i,⟨k1,rfl,i,m⟩⟩
 rw [<-j];generalize cX z b (p (b.drop k))=o
 obtain⟨a,c,d⟩:=o;cases d<;>cases ok<;>rfl
theorem abQ {α:Type} {p:O->Option (α×O)} (hp:Cons p) {b:O} {k:Nat} (hk:k<=à b) (z:α) (bad:Bool):
  ∃x k1 f,(((ã (cX z b (p (b.drop k)))).bind fun g=>(cond bad (ã å) (ã (!g.2.2))).bind fun y:Bool=>cond y (ã (z,b,(k:Int),å)) (ã (g.1,b,g.2.1,bad)))=ã (x,b,((k1:Nat):Int),f))/\k1<=à b/\de p b k (!bad) x (k1:Int) (!f)/\(f=å->x=z):=by
 have h:=de.of hp hk (z:=z) (ok:= !bad);obtain⟨k1,j,i,m⟩:=h;refine⟨cond ((cX z b (p (b.drop k))).2.2&& !bad) (cX z b (p (b.drop k))).1 z,k1, !((cX z b (p (b.drop k))).2.2&& !bad), ?_,i,⟨k1,rfl,i, ?_⟩,fun h=> ?_⟩
 rotate_left 2
 .simp only [ϝ]at h
  rw [h];rfl
 .rw [<-j]
  generalize cX z b (p (b.drop k))=o
  obtain⟨a,c,d⟩:=o;cases d<;>cases bad<;>rfl
 .rw [Ò];exact m
theorem Pm (b:O) (f:à b<=1048576):W fun n=> ∀(k:Nat) (ok:Bool),k<=à b-> ∃x k1 d,gH n b (k:Int) ok=ã (x,b,((k1:Nat):Int),d)/\k1<=à b/\de cr b k ok x (k1:Int) d:=by
 refine(vh b f).nm fun n e k ok hk=> ?_
 rw [arF,e k hk];exact Pk eC.cons hk 0 ok
theorem aEV (b:O) (f:à b<=1048576):W fun n=> ∀(k:Nat) (ok:Bool),k<=à b-> ∃x k1 d,KQ n b (k:Int) ok=ã (x,b,((k1:Nat):Int),d)/\k1<=à b/\de mg b k ok x (k1:Int) d:=by
 refine(aER b f).nm fun n e k ok hk=> ?_
 rw [arT,e k hk];exact Pk Il.cons hk 0 ok
theorem Pn (b:O) (f:à b<=1048576):W fun n=> ∀(k:Nat) (ok:Bool),k<=à b-> ∃x k1 d,sb n b (k:Int) ok=ã (x,b,((k1:Nat):Int),d)/\k1<=à b/\de iz b k ok x (k1:Int) d:=by
 refine(aET b f).nm fun n e k ok hk=> ?_
 rw [arG,e k hk];exact Pk rK.cons hk [] ok
def mQ (most:Int):O->Option (Int×O):=pZ (fun x=>á (x<=most)) cr
theorem abR (most:Int):dN (fun x=>gA x/\x<=most) bJ (mQ most):=fun s x r=>by
 rw [mQ,(eC.Tl _) s x r];simp only [decide_eq_true_eq]
theorem sP:mQ 4611686018427387903=cr:=by
 funext s
 unfold mQ pZ;cases h:cr s with
 |none=>rfl
 |some y=>obtain⟨x,r⟩:=y;have:=qI h;simp only [Z];rw [hC ž];rfl
theorem Po (b:O) (g:à b<=1048576):W fun n=> ∀(k:Nat) (bad:Bool) (most:Int),k<=à b-> ∃x k1 d,gI n b (k:Int) bad most=ã (x,b,((k1:Nat):Int),d)/\k1<=à b/\de (mQ most) b k (!bad) x (k1:Int) (!d)/\(d=å->x=0):=by
 refine(vi b g).nm fun n e k bad most hk=> ?_
 rw [axL,e k hk];simp only [dH];have h:=abQ (dN.cons (abR most)) hk 0 bad;obtain⟨x,k1,d,i,j⟩:=h;refine⟨x,k1,d,i▸ ?_,j⟩
 unfold mQ pZ;cases cr (b.drop k)with
 |none=>cases bad<;>rfl
 |some y=>
  obtain⟨x,r⟩:=y;simp only [Z];by_cases f:x<=most
  .rw [hC f]
   simp only [Y,cX,Ä,ez];rw [aw (show ¬most<x by omega)]
  .rw [hJ f]
   simp only [ez,cX,Ä,Ü];rw [aA (show most<x by omega)]
   cases bad<;>rfl
theorem Pp (b:O) (f:à b<=1048576):W fun n=> ∀(k:Nat) (bad:Bool),k<=à b-> ∃x k1 d,sv n b (k:Int) bad=ã (x,b,((k1:Nat):Int),d)/\k1<=à b/\de iz b k (!bad) x (k1:Int) (!d):=by
 refine(aEU b f).nm fun n e k bad hk=> ?_
 rw [axM,e k hk];obtain⟨x,k1,d,g,h,i, -⟩:=abQ rK.cons hk [] bad;exact⟨x,k1,d,g,h,i⟩
theorem aEW (b:O) (f:à b<=1048576):W fun n=> ∀(k:Nat) (ok:Bool),k<=à b-> ∃x y z k1 d,Db n b (k:Int) ok=ã (x,y,z,b,((k1:Nat):Int),d)/\k1<=à b/\de ns b k ok (x,y,z) (k1:Int) d:=by
 refine(((Pm b f).and (aEV b f)).and (Pn b f)).nm fun n ⟨⟨g,h⟩,i⟩ k ok hk=> ?_
 obtain⟨x,k1,j,f1,m,p⟩:=g k ok hk;obtain⟨y,k2,q,f2,r,s⟩:=h k1 j m;obtain⟨z,k3,t,f3,u,r3⟩:=i k2 q r;rw [arS,f1,Z,f2,Z,f3];exact⟨x,y,z,k3,t,rfl,u,p.seq (s.seq r3)⟩
theorem aEX (b:O) (m:à b<=1048576):W fun n=> ∀(k:Nat) (bad:Bool),k<=à b-> ∃x y z k1 f,EB n b (k:Int) bad=ã (x,y,z,b,((k1:Nat):Int),f)/\k1<=à b/\de ns b k (!bad) (x,y,z) (k1:Int) (!f):=by
 refine(((Po b m).and (aES b m)).and (Pp b m)).nm fun n ⟨⟨r,s⟩,t⟩ k bad hk=> ?_
 obtain⟨x,k1,i,f1,j,p, -⟩:=r k bad 4611686018427387903 hk;rw [sP]at p;rw [ayB,f1,Z];show ∃a c d u f,((EC n b (k1:Int)).bind _)=_/\_
 rw [s k1 j,Z];have g:=de.of Il.cons j (z:=0) (ok:= !i);cases h:(cX (0:Int) b (mg (b.drop k1))).2.2&& !i with
 |false=>
  rw [h]at g;simp only [ez]at g;have hz:(cond i (ã å) (ã (!(cX (0:Int) b (mg (b.drop k1))).2.2)):Option Bool)=ã å:=by
   cases i with
   |true=>rfl
   |false=>simp only [Ü,Ϫ]at h;rw [h];rfl
  have ht:de iz b k1 ä ([]:O) (k1:Int) ä:=⟨k1,rfl,j,rfl⟩;refine⟨0,0,[],k1,å, ?_,j, ?_⟩
  .show((cond i (ã å) (ã (!(cX (0:Int) b (mg (b.drop k1))).2.2))).bind _)=_
   rw [hz];rfl
  .have:=p.seq (g.seq ht)
   obtain⟨k',q1,q2,q3⟩:=this;refine⟨k',q1,q2, ?_⟩
   have hn:cond (!bad) (ns (b.drop k)) â=â:=by
    cases hv:cond (!bad) (ns (b.drop k)) â with
    |none=>rfl
    |some w=>
     rw [show cond (!bad) (fm cr (fm mg iz) (b.drop k)) â=_ from hv]at q3;exact absurd q3.2.1 Ż
   rw [hn];rfl
 |true=>
  rw [h]at g;simp only [Y]at g;simp only [Bool.and_eq_true,ϝ]at h;obtain⟨q,rfl⟩:=h;obtain⟨k2,q1,q2,q3⟩:=id g;obtain⟨z,k3,o3,f3,h3,r3⟩:=t k2 ä q2;refine⟨x,_,z,k3,o3, ?_,h3,p.seq (de.seq (k1:=k2) (q1▸g) r3)⟩
  simp only [q,Ä,ez,Z];rw [q1,f3];rfl
def zw {α:Type} (p:O->Option (α×O)):Prop:= ∀s x r,p s=ã (x,r)->à r+2<=à s
theorem aEY {α β:Type} {p:O->Option (α×O)} (hp:zw p) {b:O} {cnt:Int} (hc:cnt<=4611686018427387903) {L:Nat->Int->Bool->List α->Int->Option β} {fin:Int->Bool->List α->β}
  (hs: ∀m (k:Nat) acc (i:Int),k<=à b->à acc<=à b->i<cnt-> ∃x k1 f,k1<=à b/\de p b k å x ((k1:Nat):Int) f/\L (m+1) (k:Int) å acc i=L m (k1:Int) f (acc++[x]) (Þ ß (i+1)))
  (he: ∀m (k:Nat) ok acc (i:Int),¬i<cnt->L (m+1) (k:Int) ok acc i=ã (fin (k:Int) ok acc))
  (hf: ∀m (k:Nat) acc (i:Int),i<cnt->L (m+1) (k:Int) ä acc i=ã (fin (k:Int) ä acc)):
  ∀(d k m:Nat) acc (i:Int),k<=à b->à b-k<=d->d+2<=m->0<=i->i<=cnt->à acc<=k->
   ∃k1 f j,L m (k:Int) å acc i=ã (fin ((k1:Nat):Int) f j)/\k1<=à b/\match ga p (cnt-i).toNat (b.drop k)with
    |some y=>f=å/\j=acc++y.1/\b.drop k1=y.2
    |none=>f=ä:=by
 intro d;induction d using Nat.strongRecOn with
 |ind d ih=>
  intro k m acc i hk hd hm hi ai ha;obtain⟨m,rfl⟩: ∃q,m=q+1:=⟨m-1,ž⟩
  by_cases h:i<cnt
  .obtain⟨x,k1,f,u,h2,h3⟩:=hs m k acc i hk ž h
   rw [h3,show Þ ß (i+1)=i+1 by rw [Á];omega,show(cnt-i).toNat=(cnt-(i+1)).toNat+1 by omega,ga]
   obtain⟨g,e1,q1,q2⟩:=h2;have e1:g=k1:=ž
   subst e1;rw [Y]at q2;obtain⟨m,rfl⟩: ∃q,m=q+1:=⟨m-1,ž⟩
   cases r:p (b.drop k)with
   |none=>
    rw [r]at q2;have q2:f=ä:=q2;subst q2;refine⟨g,ä,acc++[x], ?_,u,rfl⟩
    by_cases h':i+1<cnt
    .exact hf m g _ _ h'
    .exact he m g _ _ _ h'
   |some y=>
    rw [r]at q2;obtain⟨rfl,rfl,q3⟩:=q2;have hlen:=hp _ _ _ (show p (b.drop k)=ã (y.1,y.2)from r);rw [<-q3]at hlen;simp only [È]at hlen;obtain⟨k2,t,s,g1,g2,g3⟩:=ih (d-2) ž g (m+1) (acc++[y.1]) (i+1) u ž ž ž ž ź
    refine⟨k2,t,s,g1,g2, ?_⟩
    rw [Z,<-q3];cases hr:ga p (cnt-(i+1)).toNat (b.drop g)with
    |none=>rw [hr]at g3;exact g3
    |some z=>
     rw [hr]at g3;obtain⟨g4,g5,g6⟩:=g3;exact⟨g4,by rw [g5,Å];rfl,g6⟩
  .refine⟨k,å,acc,he m k å acc i h,hk, ?_⟩
   rw [show (cnt-i).toNat=0 by omega,ga]
   exact⟨rfl,Ż,rfl⟩
theorem FY {α β:Type} {p:O->Option (α×O)} {b:O} {cnt:Int} (hc:cnt<=1048576) {L:Nat->Int->Bool->List α->Int->Option β} {fin:Int->Bool->List α->β}
  (t: ∀m (k:Nat) ok acc (i:Int),k<=à b->(à acc:Int)=i->i<cnt-> ∃x k1 f,k1<=à b/\de p b k ok x ((k1:Nat):Int) f/\L (m+1) (k:Int) ok acc i=L m (k1:Int) f (acc++[x]) (Þ ß (i+1)))
  (he: ∀m (k:Nat) ok acc (i:Int),¬i<cnt->L (m+1) (k:Int) ok acc i=ã (fin (k:Int) ok acc)):
  ∀(d k m:Nat) ok acc (i:Int),k<=à b->(cnt-i).toNat=d->d<m->0<=i->(à acc:Int)=i->
   ∃k1 f g,L m (k:Int) ok acc i=ã (fin ((k1:Nat):Int) f g)/\k1<=à b/\match cond ok (ga p d (b.drop k)) â with
    |some y=>f=å/\g=acc++y.1/\b.drop k1=y.2
    |none=>f=ä
 |0,k,m,ok,acc,i,hk,hd,hm,hi,u=>by
  obtain⟨m,rfl⟩: ∃q,m=q+1:=⟨m-1,ž⟩
  refine⟨k,ok,acc,he m k ok acc i ž,hk, ?_⟩
  cases ok with
  |true=>exact⟨rfl,by simp,rfl⟩
  |false=>rfl
 |d+1,k,m,ok,acc,i,hk,hd,hm,hi,u=>by
  obtain⟨m,rfl⟩: ∃q,m=q+1:=⟨m-1,ž⟩
  obtain⟨x,k1,f,h1,h2,h3⟩:=t m k ok acc i hk u ž
  rw [h3,show Þ ß (i+1)=i+1 by rw [Á];omega]
  obtain⟨k2,s,h,g1,g2,g3⟩:=FY hc t he d k1 m f (acc++[x]) (i+1) h1 ž ž ž ź
  refine⟨k2,s,h,g1,g2, ?_⟩
  obtain⟨j,e1,q1,q2⟩:=h2;have e1:j=k1:=ž
  subst e1;cases ok with
  |false=>simp only [ez]at q2 |-;subst q2;exact g3
  |true=>
   simp only [Y]at q2 |-;rw [ga];cases r:p (b.drop k)with
   |none=>rw [r]at q2;have q2:f=ä:=q2;subst q2;exact g3
   |some y=>
    rw [r]at q2;obtain⟨rfl,rfl,q3⟩:=q2;rw [Z,<-q3];simp only [Y]at g3;cases hr:ga p d (b.drop j)with
    |none=>rw [hr]at g3;exact g3
    |some z=>
     rw [hr]at g3;obtain⟨g4,g5,g6⟩:=g3;exact⟨g4,by rw [g5,Å];rfl,g6⟩
theorem Pq {α β:Type} {p:O->Option (α×O)} (hp:zw p) {b:O} {k k1:Nat} {ok d:Bool} {cnt:Int} (h:de cr b k ok cnt (k1:Int) d) (hk:k1<=à b) {L:Nat->Int->Bool->List α->Int->Option β} {fin:Int->Bool->List α->β}
  (hs: ∀m (k:Nat) acc (i:Int),k<=à b->à acc<=à b->i<cnt-> ∃x k1 d,k1<=à b/\de p b k å x ((k1:Nat):Int) d/\L (m+1) (k:Int) å acc i=L m (k1:Int) d (acc++[x]) (Þ ß (i+1)))
  (he: ∀m (k:Nat) ok acc (i:Int),¬i<cnt->L (m+1) (k:Int) ok acc i=ã (fin (k:Int) ok acc))
  (s: ∀m (k:Nat) acc (i:Int),i<cnt->L (m+1) (k:Int) ä acc i=ã (fin (k:Int) ä acc)) {m:Nat} (hm:à b+3<=m):
  ∃k2 g acc,L m (k1:Int) d [] 0=ã (fin ((k2:Nat):Int) g acc)/\k2<=à b/\de (mf p 4611686018427387903) b k ok acc (k2:Int) g:=by
 obtain⟨f,t,h1,j⟩:=h;have t:f=k1:=ž
 subst t;cases d with
 |false=>
  obtain⟨m,rfl⟩: ∃q,m=q+1:=⟨m-1,ž⟩
  refine⟨f,ä,[], ?_,hk,f,rfl,hk, ?_⟩
  .by_cases u:(0:Int)<cnt
   .exact s m f [] 0 u
   .exact he m f ä [] 0 u
  .have z:cond ok (cr (b.drop k)) â=â:=by
    cases r:cond ok (cr (b.drop k)) â with
    |none=>rfl
    |some w=>rw [r]at j;exact absurd j.2.1 Ż
   cases ok with
   |false=>rfl
   |true=>rw [Y]at z;simp only [Y,mf,z,Option.bind_none]
 |true=>
  cases ok with
  |false=>rw [ez]at j;exact absurd j Ż
  |true=>
   rw [Y]at j;cases r:cr (b.drop k)with
   |none=>rw [r]at j;exact absurd j Ż
   |some w=>
    rw [r]at j;obtain⟨rfl, -,h3⟩:=j;obtain⟨w1,w2, -⟩:=qI r;obtain⟨k2,g,acc,g1,g2,g3⟩:=aEY hp w2 hs he s (à b) f m [] 0 hk ž ž ž w1 Ż
    refine⟨k2,g,acc,g1,g2,k2,rfl,g2, ?_⟩
    rw [Int.sub_zero,h3]at g3;simp only [Y,mf,r,Z,hC w2];cases hr:ga p w.1.toNat w.2 with
    |none=>rw [hr]at g3;exact g3
    |some y=>rw [hr]at g3;exact⟨by simpa using g3.2.1,g3.1,g3.2.2⟩
theorem Pr {α β:Type} {p:O->Option (α×O)} {b:O} {k k1:Nat} {ok d:Bool} {cnt most:Int} (ad:most<=1048576) (h:de (mQ most) b k ok cnt (k1:Int) d) (t:d=ä->cnt=0) (hk:k1<=à b) {L:Nat->Int->Bool->List α->Int->Option β} {fin:Int->Bool->List α->β}
  (hs: ∀m (k:Nat) ok acc (i:Int),k<=à b->(à acc:Int)=i->i<cnt->cnt<=1048576-> ∃x k1 d,k1<=à b/\de p b k ok x ((k1:Nat):Int) d/\L (m+1) (k:Int) ok acc i=L m (k1:Int) d (acc++[x]) (Þ ß (i+1)))
  (he: ∀m (k:Nat) ok acc (i:Int),¬i<cnt->L (m+1) (k:Int) ok acc i=ã (fin (k:Int) ok acc)) {m:Nat} (hm:most.toNat<m):
  ∃k2 g acc,L m (k1:Int) d [] 0=ã (fin ((k2:Nat):Int) g acc)/\k2<=à b/\de (mf p most) b k ok acc (k2:Int) g:=by
 obtain⟨f,u,h1,j⟩:=h;have u:f=k1:=ž
 subst u;cases d with
 |false=>
  obtain⟨m,rfl⟩: ∃q,m=q+1:=⟨m-1,ž⟩
  have t:=t rfl;refine⟨f,ä,[],he m f ä [] 0 ž,hk,f,rfl,hk, ?_⟩
  have r:cond ok (mQ most (b.drop k)) â=â:=by
   cases s:cond ok (mQ most (b.drop k)) â with
   |none=>rfl
   |some w=>rw [s]at j;exact absurd j.2.1 Ż
  cases ok with
  |false=>rfl
  |true=>
   rw [Y]at r;simp only [Y,mf];unfold mQ pZ at r;cases s:cr (b.drop k)with
   |none=>trivial
   |some w=>
    rw [s]at r;simp only [Z]at r |-;cases hd:á (w.1<=most)with
    |true=>rw [hd]at r;cases r
    |false=>trivial
 |true=>
  cases ok with
  |false=>rw [ez]at j;exact absurd j Ż
  |true=>
   rw [Y]at j;cases s:mQ most (b.drop k)with
   |none=>rw [s]at j;exact absurd j Ż
   |some w=>
    rw [s]at j;obtain⟨rfl, -,h3⟩:=j;obtain⟨⟨w0,w2⟩,we⟩:=(abR most _ w.1 w.2).1 s;have w1:=w0.1;have r:cr (b.drop k)=ã (w.1,w.2):=(eC _ _ _).2 ⟨w0,we⟩;obtain⟨k2,g,acc,g1,g2,g3⟩:=FY (cnt:=w.1) (b:=b) ž (fun m k ok acc i a1 a2 a3=>hs m k ok acc i a1 a2 a3 ž) he w.1.toNat f m å [] 0 hk ž ž ž Ż
    refine⟨k2,g,acc,g1,g2,k2,rfl,g2, ?_⟩
    rw [h3,Y]at g3;simp only [Y,mf,r,Z,hC w2];cases z:ga p w.1.toNat w.2 with
    |none=>rw [z]at g3;exact g3
    |some y=>rw [z]at g3;exact⟨by simpa using g3.2.1,g3.1,g3.2.2⟩
theorem lR (x:Int):0<(bJ x).length:=by
 unfold bJ;by_cases h:x.toNat<=127
 .rw [iw h];simp
 .rw [jU h];simp
theorem aEZ:zw ns:=fun s x r h=>by
 obtain⟨-,rfl⟩:=(Im _ _ _).1 h;have d:=lR x.1;have b:=lR (à x.2.2:Int);unfold bJ at b;rw [Â]at b;simp only [gS,eS,À];omega
theorem aFa:zw wV:=fun s x r h=>by
 obtain⟨-,rfl⟩:=(Tn _ _ _).1 h;have d:=lR x.1;have b:=lR (à x.2.1:Int);unfold bJ at b;rw [Â]at b;simp only [iy,eS,À];omega
abbrev MB (m:MT):O:=nq m.1 m.2.1 m.2.2.1 m.2.2.2.1 m.2.2.2.2.1 m.2.2.2.2.2
def mR (v c:Int):O->Option (MT×O):=fm (mf ns v) (fm (mf wV c) (fm cr (fm cr (fm (ga cr 3) iz))))
def vj (v c:Int) (m:MT):Prop:=((à m.1:Int)<=v/\ ∀x∈m.1,wU x)/\((à m.2.1:Int)<=c/\ ∀x∈m.2.1,Io x)/\gA m.2.2.1/\gA m.2.2.2.1/\(à m.2.2.2.2.1=3/\ ∀x∈m.2.2.2.2.1,gA x)/\(à m.2.2.2.2.2:Int)<=4611686018427387903
theorem aFb {v c:Int} (b:v<=4611686018427387903) (d:c<=4611686018427387903):dN (vj v c) MB (mR v c):=fun s x r=>by
 rw [mR,((Im.Ik b).seq ((Tn.Ik d).seq (eC.seq (eC.seq ((eC.rep 3).seq rK))))) s x r];simp only [vj,MB,nq,wS,Å]
theorem FZ {a b:af} {c d:ae} {m:MT} (h:gZ a b c d m):vj 8 40 m:=by
 obtain⟨p,q,g,r,s⟩:=h;have i: ∀v:V,bO v->wU v:=fun v i=>by
  have k:=FX i;have e:=dZ i.1;exact⟨⟨k.1,ž⟩,⟨ž,ž⟩,by have:=i.2.1;omega⟩
 have j:=(wQ.1 g.2.1).1;have t:à a<=8:=q.2.2.2.2.2.1;have u:à b<=8:=q.2.2.2.2.2.2.1;exact⟨⟨by have:=g.2.2.1;omega,fun x f=>i x (g.1 x f)⟩,⟨by have:=g.2.2.2.1;omega,fun x f=>⟨⟨(j x f).1,by have:=(j x f).2.1;omega⟩,by have:=(j x f).2.2.1;omega,i _ (j x f).2.2.2⟩⟩,⟨g.2.2.2.2.1.1,by have:=g.2.2.2.2.1.2;omega⟩,⟨g.2.2.2.2.2.1,by have:=g.2.2.2.2.2.2;omega⟩,⟨r,fun x f=>⟨(p x f).1,by have:=(p x f).2;omega⟩⟩,ž⟩
theorem vj.up {v c b d:Int} {m:MT} (h:vj v c m) (f:v<=b) (g:c<=d):vj b d m:=⟨⟨Ϭ h.1.1 f,h.1.2⟩,⟨Ϭ h.2.1.1 g,h.2.1.2⟩,h.2.2⟩
open Classical in
noncomputable def km (a b:af) (c d:ae) (s:O):Option MT:=if h: ∃m,gZ a b c d m/\s=MB m then ã h.choose else â
theorem aFc {a b:af} {c d:ae} {m:MT} (h:gZ a b c d m):km a b c d (MB m)=ã m:=by
 unfold km;have he: ∃m',gZ a b c d m'/\MB m=MB m':=⟨m,h,rfl⟩
 rw [dif_pos he];obtain⟨k1,k2⟩:=he.choose_spec;exact congrArg ã ((abF k1 h).1 k2.symm)
theorem Ps {a b:af} {c d:ae} {s:O} (h: ∀m,gZ a b c d m->s≠MB m):km a b c d s=â:=dif_neg fun⟨m,f,g⟩=>h m f g
theorem aFd {a b:af} {c d:ae} {s:O} {m:MT} (h:km a b c d s=ã m):gZ a b c d m/\s=MB m:=by
 unfold km at h;split at h
 .rename_i he
  cases h;exact he.choose_spec
 .cases h
def sQ:Option MT->ae×(ai×Int×Int×ag×O×Bool)
 |some m=>(m.1,m.2.1,m.2.2.1,m.2.2.2.1,m.2.2.2.2.1,m.2.2.2.2.2,å)
 |none=>([],[],0,0,[],[],ä)
theorem zx {α:Type} {f:α->O} (b: ∀x,0<(f x).length): ∀l:List α,à l<=(l.flatMap f).length
 | []=>Ż
 |a::l=>by
  have:=zx b l;have:=b a;rw [Γ,À,Î];omega
theorem aFe (m:MT):à m.1<=(MB m).length/\à m.2.1<=(MB m).length/\à m.2.2.2.2.1<=(MB m).length:=by
 have b:=zx (f:=gS) (fun x=>by have:=lR x.1;simp only [gS,À];omega) m.1
 have d:=zx (f:=iy) (fun x=>by have:=lR x.1;simp only [iy,À];omega) m.2.1
 have g:=zx (f:=bJ) lR m.2.2.2.2.1;simp only [MB,nq,wS,iX,À];omega
theorem abS {a b:af} {c d:ae} {v w:Int} (j:8<=v/\v<=4611686018427387903) (hw:40<=w/\w<=4611686018427387903) {s:O} (hs:à s<=1048576) {m:MT} {i:Int} {ok:Bool} (h:de (mR v w) s 0 å m i ok) {G:Option Bool}
  (r: ∀y,mR v w s=ã y->m=y.1->à m.1<=1048576->à m.2.1<=1048576->à m.2.2.2.2.1<=1048576->G=ã (bo (gZ a b c d m))):
  ((cond (!ok) (ã å) (cond (i !=(à s:Int)) (ã å) (G.bind fun y=>ã (!y)))).bind fun y:Bool=>cond y (ã (sQ â)) (ã (sQ (ã m))))=ã (sQ (km a b c d s)):=by
 obtain⟨k1,rfl,hk,hm⟩:=h;rw [Y,Ø]at hm;have f:=aFb (v:=v) (c:=w) j.2 hw.2;cases hp:mR v w s with
 |none=>
  rw [hp]at hm;have hm:ok=ä:=hm;subst hm;rw [Ps fun m' g e=>by
   have:=(f s m' []).2 ⟨(FZ g).up j.1 hw.1,ę⟩
   rw [hp]at this;cases this]
  rfl
 |some y=>
  rw [hp]at hm;obtain⟨rfl,rfl,hd⟩:=hm;obtain⟨hN,he⟩:=(f s y.1 y.2).1 hp;by_cases p:k1=à s
  .subst p
   rw [Ϣ]at hd;rw [<-hd,Ð]at he;obtain⟨t,u,z⟩:=aFe y.1;rw [<-he]at t u z;rw [r y hp rfl ž ž ž,bne_self_eq_false]
   by_cases k:gZ a b c d y.1
   .rw [aA k,he,aFc k];rfl
   .rw [aw k,Ps fun m' g e=>by
     have:=(f s m' []).2 ⟨(FZ g).up j.1 hw.1,ę⟩
     rw [hp]at this;cases this;exact k g]
    rfl
  .have q:((k1:Int) !=(à s:Int))=å:=bne_iff_ne.2 ž
   rw [q,Ps fun m' g e=>by
    have:=(f s m' []).2 ⟨(FZ g).up j.1 hw.1,ę⟩
    rw [hp]at this;cases this;have:=congrArg Ζ hd;simp at this;omega]
   rfl
theorem aFf (s:O) (hs:à s<=1048576):W fun n=> ∃(m:MT) (k1:Nat) (d:Bool),KP n s 0 å=ã (m.1,m.2.1,m.2.2.1,m.2.2.2.1,m.2.2.2.2.1,m.2.2.2.2.2,s,(k1:Int),d)/\de (mR 4611686018427387903 4611686018427387903) s 0 å m (k1:Int) d:=by
 refine((((Pm s hs).and (aEW s hs)).and (Pn s hs)).and (W.ge (à s+10))).nm fun n ⟨⟨⟨g,e2⟩,e3⟩,hn⟩=> ?_
 obtain⟨x0,k0,o0,f0,h0,r0⟩:=g 0 å ž
 obtain⟨k1,o1,vs,f1,h1,r1⟩:=Pq aEZ r0 h0 (L:=fun m k ok acc i=>yf n m s k ok acc 0 0 [] 0 0 [] i x0) (fin:=fun k ok acc=>Ö (s,k,ok,acc,0,0,[],0,0,[])) (fun m k acc i h a2 a3=>by
  obtain⟨x,y,z,k1,d,g1,g2,g3⟩:=e2 k å h;refine⟨(x,y,z),k1,d,g2,g3, ?_⟩
  rw [Ng,hC a3,g1];simp only [Y,Z];rw [aX ž];rfl) (fun m k ok acc i a=>by rw [Ng,hJ a];rfl) (fun m k acc i a=>by rw [Ng,hC a];rfl) (m:=n) ž
 obtain⟨x2,k2,o2,f2,h2,r2⟩:=g k1 o1 h1;obtain⟨k3,o3,cs,f3,h3,r3⟩:=Pq aFa r2 h2 (L:=fun m k ok acc i=>yg n m s k ok vs acc 0 0 [] 0 0 [] i x2) (fin:=fun k ok acc=>Ö (s,k,ok,vs,acc,0,0,[],0,0,[])) (fun m k acc i h a2 a3=>by
  obtain⟨x,k1,d,g1,g2,g3⟩:=g k å h;obtain⟨t,k2,ah,p1,p2,p3⟩:=e3 k1 d g2;obtain⟨y,z,u,k4,ak,q1,q2,q3⟩:=e2 k2 ah p2;refine⟨(x,t,y,z,u),k4,ak,q2,g3.seq (p3.seq q3), ?_⟩
  rw [Nh,hC a3,g1];simp only [Y,Z,p1,q1];rw [aX ž];rfl) (fun m k ok acc i a=>by rw [Nh,hJ a];rfl) (fun m k acc i a=>by rw [Nh,hC a];rfl) (m:=n) ž
 obtain⟨j,k4,o4,f4,h4,r4⟩:=g k3 o3 h3;obtain⟨q,r,o5,f5,h5,r5⟩:=g k4 o4 h4;obtain⟨k6,o6,dn,f6,h6,f⟩:=FY (p:=cr) (b:=s) (cnt:=3) ž (L:=fun m k ok acc i=>yh n m s k ok vs cs j q acc [] 0 0 [] i) (fin:=fun k ok acc=>Ö (s,k,ok,0,0,[],vs,cs,j,q,acc,[])) (fun m k ok acc i h a2 a3=>by
  obtain⟨x,k1,d,g1,g2,g3⟩:=g k ok h;refine⟨x,k1,d,g2,g3, ?_⟩
  rw [VH,hC a3,g1];simp only [Y,Z];rw [aX ž];rfl) (fun m k ok acc i a=>by rw [VH,hJ a];rfl) 3 r n o5 [] 0 h5 ž ž ž Ż
 obtain⟨t,k7,o7,f7,h7,r7⟩:=e3 k6 o6 h6;have f:de (ga cr 3) s r o5 dn (k6:Int) o6:=⟨k6,rfl,h6,by
  cases hr:cond o5 (ga cr 3 (s.drop r)) â with
  |none=>rw [hr]at f;exact f
  |some y=>rw [hr]at f;exact⟨by simpa using f.2.1,f.1,f.2.2⟩⟩
 refine⟨(vs,cs,j,q,dn,t),k7,o7, ?_,r1.seq (r3.seq (r4.seq (r5.seq (f.seq r7))))⟩
 rw [arR,show gH n s 0 å=_ from f0,Z];rw [show yf n n s (k0:Int) o0 ([]:ae) 0 0 [] 0 0 [] 0 x0=_ from f1,Z];dsimp only [aq]
 rw [f2,Z,show yg n n s (k2:Int) o2 vs ([]:ai) 0 0 [] 0 0 [] 0 x2=_ from f3,Z];dsimp only [aq]
 rw [f4,Z];dsimp only
 rw [f5,Z,show yh n n s (r:Int) o5 vs cs j q ([]:ag) [] 0 0 [] 0=_ from f6,Z];dsimp only [aq]
 rw [f7];rfl
theorem aFg (a b:af) (c d:ae) (s:O) (hp:fC a b c d) (j:à s<=1048576):W fun n=>KO n a b c d s=ã (sQ (km a b c d s)):=by
 have k:W fun n=> ∀y,mR 4611686018427387903 4611686018427387903 s=ã y->à y.1.1<=1048576->à y.1.2.1<=1048576->à y.1.2.2.2.2.1<=1048576->tW n a b c d y.1.1 y.1.2.1 y.1.2.2.1 y.1.2.2.2.1 y.1.2.2.2.2.1 y.1.2.2.2.2.2=ã (bo (gZ a b c d y.1)):=by
  cases hq:mR 4611686018427387903 4611686018427387903 s with
  |none=>exact W.of fun n y h=>ņ
  |some z=>
   by_cases f:à z.1.1<=1048576/\à z.1.2.1<=1048576/\à z.1.2.2.2.2.1<=1048576
   .refine(NS a b c d z.1.1 z.1.2.1 z.1.2.2.1 z.1.2.2.2.1 z.1.2.2.2.2.1 z.1.2.2.2.2.2 hp f.1 f.2.1 f.2.2).mono fun n e y h _ _ _=> ?_
    cases h;exact e
   .exact W.of fun n y h g i p=>by cases h;exact absurd ⟨g,i,p⟩ f
 refine((aFf s j).and k).nm fun n ⟨⟨m,k1,q,e,r⟩,t⟩=> ?_
 rw [arQ,e,Z];exact abS ⟨ž,ž⟩ ⟨ž,ž⟩ j r fun y g i u l2 l3=>by
  subst i;exact t y g u l2 l3
theorem aFh (a b:af) (c d:ae) (s:O) (hp:fC a b c d) (hs:à s<=1048576):W fun n=>MA n a b c d s=ã (sQ (km a b c d s)):=by
 have hM:W fun n=> ∀y,mR 8 40 s=ã y->à y.1.1<=1048576->à y.1.2.1<=1048576->à y.1.2.2.2.2.1<=1048576->sg n a b c d y.1.1 y.1.2.1 y.1.2.2.1 y.1.2.2.2.1 y.1.2.2.2.2.1 y.1.2.2.2.2.2=ã (bo (gZ a b c d y.1)):=by
  cases hq:mR 8 40 s with
  |none=>exact W.of fun n y h=>ņ
  |some z=>
   by_cases hl:à z.1.1<=1048576/\à z.1.2.1<=1048576/\à z.1.2.2.2.2.1<=1048576
   .refine(NT a b c d z.1.1 z.1.2.1 z.1.2.2.1 z.1.2.2.2.1 z.1.2.2.2.2.1 z.1.2.2.2.2.2 hp hl.1 hl.2.1 hl.2.2).mono fun n e y h _ _ _=> ?_
    cases h;exact e
   .exact W.of fun n y h h1 g h3=>by cases h;exact absurd ⟨h1,g,h3⟩ hl
 refine((((Po s hs).and ((aEX s hs).and (Pp s hs))).and (W.ge 100)).and hM).nm fun n ⟨⟨⟨r,e2,e3⟩,hn⟩,eM⟩=> ?_
 obtain⟨x0,k0,o0,f0,h0,r0,z0⟩:=r 0 ä 8 ž
 obtain⟨k1,o1,vs,f1,h1,r1⟩:=Pr (p:=ns) ž r0 (fun h=>z0 Ű) h0 (L:=fun m k ok acc i=>yP n m acc 0 0 [] s k (!ok) 0 0 [] a b c d i s x0) (fin:=fun k ok acc=>Ö (acc,0,0,[],s,k,!ok,0,0,[],a,b,c,d,s)) (fun m k ok acc i a1 a2 a3 a4=>by
  obtain⟨x,y,z,k1,f,g1,g2,g3⟩:=e2 k (!ok) a1;rw [Ò]at g3;refine⟨(x,y,z),k1, !f,g2,g3, ?_⟩
  rw [Xb,hC a3,g1,Ò];simp only [Y,Z];rw [aX ž];rfl) (fun m k ok acc i a=>by rw [Xb,hJ a];rfl) (m:=n) ž
 obtain⟨x2,k2,o2,f2,g,r2,z2⟩:=r k1 (!o1) 40 h1;rw [Ò]at r2;obtain⟨k3,o3,cs,f3,h3,r3⟩:=Pr (p:=wV) ž r2 (fun h=>z2 Ű) g (L:=fun m k ok acc i=>yQ n m vs acc 0 0 [] s k (!ok) 0 0 [] a b c d i s x2) (fin:=fun k ok acc=>Ö (vs,acc,0,0,[],s,k,!ok,0,0,[],a,b,c,d,s)) (fun m k ok acc i a1 a2 a3 a4=>by
  obtain⟨x,k1,f,g1,g2,g3, -⟩:=r k (!ok) 4611686018427387903 a1;rw [Ò,sP]at g3;obtain⟨t,k2,ax,p1,p2,p3⟩:=e3 k1 f g2;obtain⟨y,z,u,k4,az,q1,q2,q3⟩:=e2 k2 ax p2;refine⟨(x,t,y,z,u),k4, !az,q2,g3.seq (p3.seq q3), ?_⟩
  rw [Xc,hC a3,g1,Ò];simp only [Y,Z,p1,q1];rw [aX ž];rfl) (fun m k ok acc i a=>by rw [Xc,hJ a];rfl) (m:=n) ž
 obtain⟨x4,k4,o4,f4,h4,r4, -⟩:=r k3 (!o3) 4611686018427387903 h3;rw [Ò,sP]at r4;obtain⟨x5,k5,o5,f5,h5,r5, -⟩:=r k4 o4 4611686018427387903 h4;rw [sP]at r5;obtain⟨k6,o6,dn,f6,h6,j⟩:=FY (p:=cr) (b:=s) (cnt:=3) ž (L:=fun m k ok acc i=>yR n m vs cs x4 x5 acc [] s k (!ok) 0 0 [] a b c d i s) (fin:=fun k ok acc=>Ö (0,0,[],vs,cs,x4,x5,acc,[],a,b,c,d,s,k,!ok,s)) (fun m k ok acc i a1 a2 a3=>by
  obtain⟨x,k1,f,g1,g2,g3, -⟩:=r k (!ok) 4611686018427387903 a1;rw [Ò,sP]at g3;refine⟨x,k1, !f,g2,g3, ?_⟩
  rw [Xd,hC a3,g1,Ò];simp only [Y,Z];rw [aX ž];rfl) (fun m k ok acc i a=>by rw [Xd,hJ a];rfl) 3 k5 n (!o5) [] 0 h5 ž ž ž Ż
 obtain⟨t,k7,o7,f7,h7,r7⟩:=e3 k6 (!o6) h6;rw [Ò]at r7;have j:de (ga cr 3) s k5 (!o5) dn (k6:Int) o6:=⟨k6,rfl,h6,by
  cases hr:cond (!o5) (ga cr 3 (s.drop k5)) â with
  |none=>rw [hr]at j;exact j
  |some y=>rw [hr]at j;exact⟨by simpa using j.2.1,j.1,j.2.2⟩⟩
 have hr:de (mR 8 40) s 0 å (vs,cs,x4,x5,dn,t) (k7:Int) (!o7):=r1.seq (r3.seq (r4.seq (r5.seq (j.seq r7))));rw [Ò]at f1 f3 f6;rw [ayA,show gI n s 0 ä 8=_ from f0,Z];rw [show yP n n ([]:ae) 0 0 [] s (k0:Int) o0 0 0 [] a b c d 0 s x0=_ from f1,Z];dsimp only [aq]
 rw [f2,Z,show yQ n n vs ([]:ai) 0 0 [] s (k2:Int) o2 0 0 [] a b c d 0 s x2=_ from f3,Z];dsimp only [aq]
 rw [f4,Z];dsimp only
 rw [f5,Z,show yR n n vs cs x4 x5 ([]:ag) [] s (k5:Int) o5 0 0 [] a b c d 0 s=_ from f6,Z];dsimp only [aq]
 rw [f7,Z];have:=abS (a:=a) (b:=b) (c:=c) (d:=d) ⟨ž,ž⟩ ⟨ž,ž⟩ hs hr (G:=sg n a b c d vs cs x4 x5 dn t) fun y h1 g l1 l2 l3=>by
  have q:=eM y h1 (g▸l1) (g▸l2) (g▸l3);rw [<-g]at q;exact q
 rw [Ò]at this;exact this
abbrev dD:=Int×(Int×Int×Int×aj×O)
def dQ (x:dD):Prop:=In x.2.1 0 300/\In x.2.2.2.1 0 300/\((∀e∈x.2.2.2.2.1,iu 300 e)/\à x.2.2.2.2.1<=40)/\à x.2.2.2.2.2<=30000/\
 ((x.1=1/\In x.2.2.1 (-1) 4/\x.2.2.2.1=0/\(à x.2.2.2.2.1:Int)=0/\x.2.2.2.2.2=[])\/(x.1=2/\x.2.2.1=0/\x.2.2.2.2.2=[])\/(x.1=3/\x.2.2.1=0/\(à x.2.2.2.2.1:Int)=0))
theorem abT (x:dD) {A B C D:Option Bool} (g:A=ã (bo (In x.2.1 0 300))) (h:B=ã (bo (In x.2.2.2.1 0 300))) (i:C=ã (bo ((∀e∈x.2.2.2.2.1,iu 300 e)/\à x.2.2.2.2.1<=40))) (j:D=ã (bo (In x.2.2.1 (-1) 4))):
  ((A.bind fun m=>cond (!m) (ã å) (B.bind fun q=>cond (!q) (ã å) (C.bind fun r=>cond (!r) (ã å) (ã (á ((30000:Int)<(à x.2.2.2.2.2:Int))))))).bind fun d:Bool=>cond d (ã ä) (cond (x.1==1) ((D.bind fun f=>cond f (cond (x.2.2.2.1==0) (cond ((à x.2.2.2.2.1:Int)==0) (ã (x.2.2.2.2.2==([]:O))) (ã ä)) (ã ä)) (ã ä)).bind fun b:Bool=>ã b) (cond (x.1==2) ((cond (x.2.2.1==0) (ã (x.2.2.2.2.2==([]:O))) (ã ä)).bind fun b:Bool=>ã b) (cond (x.1==3) ((cond (x.2.2.1==0) (ã ((à x.2.2.2.2.1:Int)==0)) (ã ä)).bind fun b:Bool=>ã b) (ã ä)))))=ã (bo (dQ x)):=by
 subst g h i j;obtain⟨k,t,v,p,l,s⟩:=x;unfold dQ;exact dx
theorem abU (x:dD) (h:gh x.2.2.2.2.1):W fun n=>yd n x.1 x.2.1 x.2.2.1 x.2.2.2.1 x.2.2.2.2.1 x.2.2.2.2.2=ã (bo (dQ x)):=by
 refine(((cD x.2.1 0 300).and (cD x.2.2.2.1 0 300)).and ((Yw x.2.2.2.2.1 300 h).and (cD x.2.2.1 (-1) 4))).nm fun n ⟨⟨b,d⟩,f,g⟩=> ?_
 rw [arI];exact abT x b d f g
theorem Pt (x:dD) (h:gh x.2.2.2.2.1):W fun n=>Ew n x.1 x.2.1 x.2.2.1 x.2.2.2.1 x.2.2.2.2.1 x.2.2.2.2.2=ã (bo (dQ x)):=by
 refine(((mI x.2.1).and (mI x.2.2.2.1)).and ((Yx x.2.2.2.2.1 300 h).and (Yt x.2.2.1))).nm fun n ⟨⟨b,d⟩,f,g⟩=> ?_
 rw [axO];exact abT x b d f g
def kn (p:Int×Int) (v:UInt8):Int×Int:=((p.1+v.toNat)%65521,(p.2+(p.1+v.toNat)%65521)%65521)
def oZ (b:O):Int:=(b.foldl kn (1,0)).2*65536+(b.foldl kn (1,0)).1
def nR (s:Int):O:=[Β (Ç (Þ .u8 s)),Β (Ç (Þ .u8 (Ϟ s (2^(min (Ç 8) (Χ ß)))))),Β (Ç (Þ .u8 (Ϟ s (2^(min (Ç 16) (Χ ß)))))),Β (Ç (Þ .u8 (Ϟ s (2^(min (Ç 24) (Χ ß))))))]
def pa (p:Int×Int):Prop:=(0<=p.1/\p.1<65521)/\0<=p.2/\p.2<65521
theorem Pu {p:Int×Int} (v:UInt8) (h:pa p):pa (kn p v):=by
 obtain⟨⟨b,d⟩,f,g⟩:=h;unfold kn pa;omega
theorem abV {p:Int×Int} (v:UInt8) (h:pa p):ϊ (Þ ß (p.1+(Þ ß (v.toNat:Int)))) 65521=(kn p v).1/\ϊ (Þ ß (p.2+(kn p v).1)) 65521=(kn p v).2:=by
 obtain⟨⟨g,i⟩,j,k⟩:=h;have m:=v.toNat_lt;have b:Þ ß (v.toNat:Int)=(v.toNat:Int):=ż
 have d:Þ ß (p.1+(v.toNat:Int))=p.1+v.toNat:=ż
 refine⟨by rw [b,d,Ù ž];rfl, ?_⟩
 have f:Þ ß (p.2+(kn p v).1)=p.2+(kn p v).1:=by unfold kn;rw [Á];omega
 rw [f,Ù (by unfold kn;omega)];rfl
theorem abW {p:Int×Int} (h:pa p):Þ ß ((Þ ß (p.2*(65536:Int)))+p.1)=p.2*65536+p.1:=by
 obtain⟨⟨b,d⟩,f,g⟩:=h;rw [show Þ ß (p.2*(65536:Int))=p.2*65536 by rw [Á];omega,Á];omega
theorem Pv:pa (1,0):=⟨⟨ŷ,ŷ⟩,ŷ,ŷ⟩
theorem abX (b:O):pa (b.foldl kn (1,0)):=AX b _ Pv fun _ x _ h=>Pu x h
theorem aFi (b:O) (d:à b<=1048576):W fun n=>KI n b=ã (oZ b):=by
 refine(AY d kn pa Pv (fun s x _ h=>Pu x h) (r:=fun s=>(Ö (s.1,s.2):Sum (Int×Int) Int)) (L:=fun n m i s=>yb n m i s.2 b s.1) (fun s f i hi=>W.of fun n m=>by
  obtain⟨q1,q2⟩:=abV b[i] f;rw [VF,aU hi,bB hi];simp only [Y,Z,q1,q2]) (fun n m s=>by rw [VF,bM];rfl)).nm fun n e=> ?_
 rw [arD,show yb n n 0 0 b 1=_ from e];simp only [Z,aq,abW (abX b)];rfl
theorem aFj (b:O) (d:à b<=1048576):W fun n=>Mv n b=ã (oZ b):=by
 refine(AY d kn pa Pv (fun s x _ h=>Pu x h) (r:=fun s=>(Ö (s.1,s.2):Sum (Int×Int) Int)) (L:=fun n m i s=>yN n m i s.2 s.1 b (à b)) (fun s f i hi=>W.of fun n m=>by
  obtain⟨q1,q2⟩:=abV b[i] f;rw [WY,aU hi,bB hi];simp only [Y,Z,q1,q2]) (fun n m s=>by rw [WY,bM];rfl)).nm fun n e=> ?_
 rw [axR,show yN n n 0 0 1 b (à b:Int)=_ from e];simp only [Z,aq,abW (abX b)];rfl
theorem aFk (d:Nat) (h:d<9223372036854775808):cS .and ß (d:Int) 127=((d%128:Nat):Int):=by
 show Þ ß (((Ν 64 (d:Int) &&&Ν 64 ((127:Nat):Int)).toNat:Nat):Int)=_;rw [ϡ,vg d ž,vg _ ž,show(127:Nat)=2^7-1 from rfl,ε,Á]
 omega
theorem abY (n:Nat): ∀(k x:Nat) (acc:O),x<128^(k+1)->x<=4611686018427387903->à acc+k<=1000-> ∀m,k<m-> ∃(y:Nat) (b:O),yM n m (x:Int) acc=ã (Ö ((y:Int),b))/\y<=127/\à b<=à acc+k/\b++[Β y]=acc++dj x
 |0,x,acc,d,_,_,m,hm=>by
  obtain⟨m,rfl⟩: ∃q,m=q+1:=⟨m-1,ž⟩
  have d:x<128:=Ľ
  rw [Nu,hJ ž]
  exact⟨x,acc,rfl,ž,ž,by rw [iw ž]⟩
 |k+1,x,acc,d,f,t,m,hm=>by
  obtain⟨m,rfl⟩: ∃q,m=q+1:=⟨m-1,ž⟩
  by_cases h:x<=127
  .rw [Nu,hJ ž]
   exact⟨x,acc,rfl,ž,ž,by rw [iw h]⟩
  have g:Ϟ (x:Int) (2^(min (Ç 7) (Χ ß)))=((x/128:Nat):Int):=by
   show Ϟ (x:Int) 128=_;rw [Int.fdiv_eq_ediv_of_nonneg _ ž];omega
  have i:cS .or ß (cS .and ß (x:Int) 127) 128=((x%128+128:Nat):Int):=by
   rw [aFk x ž]
   exact Pj (x%128) 1 1 ž ž ž
  have j:Þ .u8 ((x%128+128:Nat):Int)=((x%128+128:Nat):Int):=ŝ
  have hk:x/128<128^(k+1):=by
   rw [ϗ ž]
   rw [Φ]at d;exact d
  obtain⟨y,b,e,p,r,s⟩:=abY n k (x/128) (acc++[Β (x%128+128)]) hk ž ź m ž
  rw [Nu,hC ž,aX ž,g,i,j,Â]
  refine⟨y,b,e,p,by simp at r;omega, ?_⟩
  rw [s,jU h];simp
theorem Ga (x:Int) (h:gA x):W fun n=>sw n x=ã (bJ x):=by
 obtain⟨k,rfl⟩: ∃k:Nat,x=k:=⟨x.toNat,by have:=h.1;omega⟩
 refine((cZ k 0 4611686018427387903).and (W.ge 10)).nm fun n ⟨e,j⟩=> ?_
 have hk:k<128^(8+1):=by
  have:(128:Nat)^(8+1)=9223372036854775808:=ų
  have:=h.2;omega
 obtain⟨y,b,d,m,f,g⟩:=abY n 8 k [] hk (by have:=h.2;omega) Ż n ž
 rw [axP,e,aA (show In (k:Int) 0 4611686018427387903 from h)];simp only [Z,Ä,ez];rw [show yM n n (k:Int) ([]:aC)=_ from d,Z];have i:Þ .u8 (y:Int)=(y:Int):=ŝ
 show cond (υ (à b+1) big) (ã (b++[Β (Ç (Þ .u8 (y:Int)))])) â=_;rw [aX (by simp at f;omega),i,Â,Y,g];rfl
theorem abZ (s:O) (h:à s<=3000000):W fun n=>Ex n s=ã (eS s):=by
 refine(Ga (à s) ⟨ž,ž⟩).nm fun n e=> ?_
 have b:=qH (x:=(à s:Int)) ž
 rw [axQ,e,Z,aX ž,Y,eS,bJ,Â]
def Pw:O->Option (Int×O):=rJ (fun x=>Þ ß (x-1)) cr
theorem acA:dN (fun x=>gA (x+1)) (fun x=>bJ (x+1)) Pw:=
 eC.map _ (·+1) (fun x ⟨b,d⟩=>by
  have e:Þ ß (x-1)=x-1:=ż
  exact⟨by rw [e];exact⟨ž,ž⟩,by rw [e];exact Int.sub_add_cancel x 1⟩) (fun y h=>⟨h,by have b:=h.1;have d:=h.2;rw [Á];omega⟩) fun _ _=>rfl
theorem de.map {α β:Type} {p:O->Option (α×O)} (t:α->β) {b:O} {k:Nat} {ok f:Bool} {x:α} {g:Int} (h:de p b k ok x g f):de (rJ t p) b k ok (t x) g f:=by
 obtain⟨k1,i,j,d⟩:=h;refine⟨k1,i,j, ?_⟩
 cases ok with
 |false=>exact d
 |true=>
  simp only [Y,rJ]at d |-;cases hp:p (b.drop k)with
  |none=>rw [hp]at d;exact d
  |some z=>rw [hp]at d;exact⟨by rw [d.1],d.2⟩
abbrev vk:=Int×(Int×Int×O)
def fS (e:vk):O:=bJ e.1++(bJ (e.2.1+1)++(bJ e.2.2.1++eS e.2.2.2))
def Gb (e:vk):Prop:=gA e.1/\gA (e.2.1+1)/\gA e.2.2.1/\(à e.2.2.2:Int)<=4611686018427387903
def zA:O->Option (vk×O):=fm cr (fm Pw (fm cr iz))
theorem acB:dN Gb fS zA:=fun s x r=>by
 rw [zA,eC.seq (acA.seq (eC.seq rK)) s x r];simp only [Gb,fS,Å]
theorem aFl:zw zA:=fun s x r h=>by
 obtain⟨-,rfl⟩:=(acB _ _ _).1 h;have b:=lR x.1;have d:=lR (x.2.1+1);simp only [fS,À];omega
def eF (x:dD):O:=bJ x.1++(bJ x.2.1++(bJ (x.2.2.1+1)++(bJ x.2.2.2.1++(iX fS x.2.2.2.2.1++eS x.2.2.2.2.2))))
def Px (v:Int) (x:dD):Prop:=gA x.1/\gA x.2.1/\gA (x.2.2.1+1)/\gA x.2.2.2.1/\((à x.2.2.2.2.1:Int)<=v/\ ∀e∈x.2.2.2.2.1,Gb e)/\(à x.2.2.2.2.2:Int)<=4611686018427387903
def kq (v:Int):O->Option (dD×O):=fm cr (fm cr (fm Pw (fm cr (fm (mf zA v) iz))))
theorem lS {v:Int} (b:v<=4611686018427387903):dN (Px v) eF (kq v):=fun s x r=>by
 rw [kq,eC.seq (eC.seq (acA.seq (eC.seq ((acB.Ik b).seq rK)))) s x r];simp only [Px,eF,Å]
theorem acC {e:vk} (h:iu 300 e):Gb e:=by
 obtain⟨⟨g,i⟩,⟨d,f,b⟩|⟨d,f,b,j,k, -⟩⟩:=h
 .exact⟨⟨ž,ž⟩,⟨ž,ž⟩,⟨ž,ž⟩,by rw [b];decide⟩
 .exact⟨⟨ž,ž⟩,⟨ž,ž⟩,⟨ž,ž⟩,ž⟩
theorem kX {x:Int} (h:gA x):(bJ x).length<=9:=pX (by have:=h.1;have:=h.2;omega)
theorem acD {t:O} (h:(à t:Int)<=4611686018427387903):(eS t).length<=9+à t:=by
 unfold eS;have:=kX (x:=à t) ⟨ž,h⟩
 unfold bJ at this;rw [Â]at this;rw [À];omega
theorem Gc {α:Type} {f:α->O} {B:Nat}: ∀l:List α,(∀x∈l,(f x).length<=B)->(l.flatMap f).length<=à l*B
 | [],_=>Ż
 |a::l,h=>by
  have d:=Gc l fun x b=>h x (Μ _ b)
  have g:=h a π;rw [Γ,À,Î,ϭ];omega
theorem acE {e:vk} (h:iu 300 e):(fS e).length<=100:=by
 have b:=acC h;have f:=kX b.1;have g:=kX b.2.1;have i:=kX b.2.2.1;have j:=acD b.2.2.2;have d:à e.2.2.2<=60:=by
  obtain⟨-,⟨-, -,d⟩|⟨-, -, -, -,d, -⟩⟩:=h
  .rw [d];decide
  .exact d
 simp only [fS,À];omega
theorem dQ.body {x:dD} (h:dQ x) {v:Int} (i:40<=v):Px v x:=by
 obtain⟨b,d,f,j,g⟩:=h;have k2:=b.1;have k3:=b.2;have m:=d.1;have p:=d.2;have q:1<=x.1/\x.1<=3/\ -1<=x.2.2.1/\x.2.2.1<=4:=by
  rcases g with⟨e,k, -⟩|⟨e,k, -⟩|⟨e,k, -⟩
  .exact⟨ž,ž,k.1,k.2⟩
  .omega
  .omega
 refine⟨⟨ž,ž⟩,⟨ž,ž⟩,⟨ž,ž⟩,⟨ž,ž⟩,⟨ž,fun e he=> ?_⟩,ž⟩
 exact acC (f.1 e he)
theorem pd {x:dD} (h:dQ x):(eF x).length<=40000:=by
 have b:=h.body (v:=40) ž
 have g:=kX b.1;have i:=kX b.2.1;have j:=kX b.2.2.1;have k:=kX b.2.2.2.1;have m:=acD b.2.2.2.2.2;have p:=Gc (f:=fS) x.2.2.2.2.1 fun e he=>acE (h.2.2.1.1 e he)
 have d:=kX (x:=à x.2.2.2.2.1) ⟨ž,by have:=h.2.2.1.2;omega⟩
 have q:=h.2.2.1.2;have r:=h.2.2.2.1;unfold bJ at d;rw [Â]at d;simp only [eF,iX,À];omega
def ea (x:dD):O:=bJ (eF x).length++(eF x++nR (oZ (eF x)))
theorem aFm {x y:dD} {r s:O} (f:dQ x) (hy:dQ y) (h:ea x++r=ea y++s):x=y/\r=s:=by
 have p:=pd f;have q:=pd hy;unfold ea at h;simp only [Å]at h;have b:=(eC _ _ _).2 ⟨⟨ž,ž⟩,h⟩
 have g:=(eC _ ((eF x).length:Int) (eF x++(nR (oZ (eF x))++r))).2 ⟨⟨ž,ž⟩,rfl⟩
 rw [g]at b;simp only [Δ,Ο]at b;obtain⟨t,i⟩:=b;obtain⟨j,k⟩:=List.append_inj i ž
 have m:=(lS (v:=40) ž (eF x) x []).2 ⟨f.body ž,Ż⟩
 have d:=(lS (v:=40) ž (eF x) y []).2 ⟨hy.body ž,ð⟩
 rw [m]at d;simp only [Δ,Ο,and_true]at d;subst d;exact⟨rfl,Τ k⟩
open Classical in
noncomputable def iH (s:O):Option (dD×O):=if h: ∃y:dD×O,dQ y.1/\s=ea y.1++y.2 then ã h.choose else â
theorem aFn {x:dD} {r:O} (h:dQ x):iH (ea x++r)=ã (x,r):=by
 unfold iH;have he: ∃y:dD×O,dQ y.1/\ea x++r=ea y.1++y.2:=⟨(x,r),h,rfl⟩
 rw [dif_pos he];obtain⟨k1,k2⟩:=he.choose_spec;obtain⟨b,d⟩:=aFm h k1 k2;exact congrArg ã (Prod.ext b.symm d.symm)
theorem Py {s:O} (h: ∀x r,dQ x->s≠ea x++r):iH s=â:=dif_neg fun⟨y,b,d⟩=>h y.1 y.2 b d
theorem acF {s:O} {x:dD} {r:O} (h:iH s=ã (x,r)):dQ x/\s=ea x++r:=by
 unfold iH at h;split at h
 .rename_i he
  have:=he.choose_spec;rw [ϳ h]at this;exact this
 .cases h
def vm (b:O):Option (dD×O)->Int×(Int×Int×Int×aj×O×Int×Bool)
 |some y=>(y.1.1,y.1.2.1,y.1.2.2.1,y.1.2.2.2.1,y.1.2.2.2.2.1,y.1.2.2.2.2.2,(à b:Int)-(à y.2:Int),å)
 |none=>(0,0,0,0,[],[],0,ä)
theorem aFo (s:O) (p:à s<=1048576):W fun n=> ∃(x:dD) (k1:Nat) (d:Bool),KJ n s 0 å=ã (x.1,x.2.1,x.2.2.1,x.2.2.2.1,x.2.2.2.2.1,x.2.2.2.2.2,s,(k1:Int),d)/\de (kq 4611686018427387903) s 0 å x (k1:Int) d:=by
 refine(((Pm s p).and (Pn s p)).and (W.ge (à s+10))).nm fun n ⟨⟨b,q⟩,hn⟩=> ?_
 obtain⟨f,u,z,f0,h0,r0⟩:=b 0 å ž
 obtain⟨g,k1,o1,f1,h1,r1⟩:=b u z h0;obtain⟨h,k2,o2,f2,h2,r2⟩:=b k1 o1 h1;obtain⟨j,k3,o3,f3,h3,r3⟩:=b k2 o2 h2;obtain⟨r,k4,o4,f4,h4,r4⟩:=b k3 o3 h3;obtain⟨k5,o5,es,f5,h5,r5⟩:=Pq aFl r4 h4 (L:=fun m k ok acc i=>yc n m s k ok f g (Þ ß (h-(1:Int))) j acc [] 0 0 0 0 [] i r) (fin:=fun k ok acc=>Ö (s,k,ok,0,0,0,0,[],f,g,Þ ß (h-(1:Int)),j,acc,[])) (fun m k acc i a1 a2 a3=>by
  obtain⟨y0,j0,p0,g0,q0,t0⟩:=b k å a1;obtain⟨y1,j1,p1,g1,q1,t1⟩:=b j0 p0 q0;obtain⟨y2,j2,p2,g2,q2,t2⟩:=b j1 p1 q1;obtain⟨y3,j3,p3,g3,q3,t3⟩:=q j2 p2 q2;refine⟨(y0,Þ ß (y1-(1:Int)),y2,y3),j3,p3,q3,t0.seq ((t1.map _).seq (t2.seq t3)), ?_⟩
  rw [Nf,hC a3,g0];simp only [Y,Z,g1,g2,g3];rw [aX ž];rfl) (fun m k ok acc i a=>by rw [Nf,hJ a];rfl) (fun m k acc i a=>by rw [Nf,hC a];rfl) (m:=n) ž
 obtain⟨t,k6,o6,f6,h6,r6⟩:=q k5 o5 h5;refine⟨(f,g,Þ ß (h-(1:Int)),j,es,t),k6,o6, ?_,r0.seq (r1.seq ((r2.map _).seq (r3.seq (r5.seq r6))))⟩
 rw [arE,show gH n s 0 å=_ from f0,Z];dsimp only
 rw [f1,Z];dsimp only
 rw [f2,Z];dsimp only
 rw [f3,Z];dsimp only
 rw [f4,Z];dsimp only
 rw [show yc n n s (k4:Int) o4 f g (Þ ß (h-(1:Int))) j ([]:aj) [] 0 0 0 0 [] 0 r=_ from f5,Z];dsimp only [aq]
 rw [f6];rfl
theorem aFp (s:O) (r:à s<=1048576):W fun n=> ∃(x:dD) (k1:Nat) (b:Bool),Mt n s 0 ä=ã (x.1,x.2.1,x.2.2.1,x.2.2.2.1,x.2.2.2.2.1,x.2.2.2.2.2,s,(k1:Int),b)/\de (kq 40) s 0 å x (k1:Int) (!b):=by
 refine(((Po s r).and (Pp s r)).and (W.ge 100)).nm fun n ⟨⟨d,u⟩,hn⟩=> ?_
 obtain⟨f,k0,o0,f0,h0,z, -⟩:=d 0 ä 4611686018427387903 ž
 obtain⟨g,k1,o1,f1,h1,r1, -⟩:=d k0 o0 4611686018427387903 h0;obtain⟨j,k2,o2,f2,h2,r2, -⟩:=d k1 o1 4611686018427387903 h1;obtain⟨q,k3,o3,f3,h3,r3, -⟩:=d k2 o2 4611686018427387903 h2;obtain⟨x4,k4,o4,f4,h4,r4,z4⟩:=d k3 o3 40 h3;rw [sP]at z r1 r2 r3;obtain⟨k5,o5,es,f5,h5,r5⟩:=Pr (p:=zA) ž r4 (fun h=>z4 Ű) h4 (L:=fun m k ok acc i=>yI n m s k (!ok) f g (Þ ß (j-(1:Int))) q acc [] 0 0 0 0 [] i x4) (fin:=fun k ok acc=>Ö (s,k,!ok,0,0,0,0,[],f,g,Þ ß (j-(1:Int)),q,acc,[])) (fun m k ok acc i a1 a2 a3 a4=>by
  obtain⟨y0,j0,p0,g0,q0,t0, -⟩:=d k (!ok) 4611686018427387903 a1;obtain⟨y1,j1,p1,g1,q1,t1, -⟩:=d j0 p0 4611686018427387903 q0;obtain⟨y2,j2,p2,g2,q2,t2, -⟩:=d j1 p1 4611686018427387903 q1;obtain⟨y3,j3,p3,g3,q3,t3⟩:=u j2 p2 q2;rw [sP]at t0 t1 t2;rw [Ò]at t0;refine⟨(y0,Þ ß (y1-(1:Int)),y2,y3),j3, !p3,q3,t0.seq ((t1.map _).seq (t2.seq t3)), ?_⟩
  rw [WT,hC a3,g0,Ò];simp only [Y,Z,g1,g2,g3];rw [aX ž];rfl) (fun m k ok acc i a=>by rw [WT,hJ a];rfl) (m:=n) ž
 obtain⟨t,k6,o6,f6,h6,r6⟩:=u k5 (!o5) h5;rw [Ò]at f5 r6;refine⟨(f,g,Þ ß (j-(1:Int)),q,es,t),k6,o6, ?_,z.seq (r1.seq ((r2.map _).seq (r3.seq (r5.seq r6))))⟩
 rw [axK,show gI n s 0 ä 4611686018427387903=_ from f0,Z];dsimp only
 rw [f1,Z];dsimp only
 rw [f2,Z];dsimp only
 rw [f3,Z];dsimp only
 rw [f4,Z];dsimp only
 rw [show yI n n s (k4:Int) o4 f g (Þ ß (j-(1:Int))) q ([]:aj) [] 0 0 0 0 [] 0 x4=_ from f5,Z];dsimp only [aq]
 rw [f6];rfl
theorem Pz {β:Type} {L:Nat->Int->O->Option β} {fin:O->β} {l:ag} (g:à l<=5)
  (b: ∀m (i:Nat) acc (hi:i<à l),à acc+(bJ l[i]).length<=4000000->L (m+1) i acc=L m (Þ ß (i+1)) (acc++bJ l[i])) (he: ∀m acc,L (m+1) (à l) acc=ã (fin acc)):
  ∀(d i m:Nat) acc,à l-i=d->i<=à l->d<m->à acc+((l.drop i).flatMap bJ).length<=4000000->L m i acc=ã (fin (acc++(l.drop i).flatMap bJ))
 |0,i,m,acc,hd,hi,hm,f=>by
  obtain⟨m,rfl⟩: ∃q,m=q+1:=⟨m-1,ž⟩
  have e:i=à l:=ž
  subst e;rw [he];simp
 |d+1,i,m,acc,hd,hi,hm,f=>by
  obtain⟨m,rfl⟩: ∃q,m=q+1:=⟨m-1,ž⟩
  have hi:i<à l:=ž
  rw [Ì hi,Γ,À]at f;rw [b m i acc hi ž,show Þ ß ((i:Int)+1)=((i+1:Nat):Int) by rw [Á];omega,Pz g b he d (i+1) m _ ž ž ž ű,Ì hi,Γ,Å]
theorem aFq {x:dD} (h:dQ x):W fun n=>yJ n x.1 x.2.1 x.2.2.1 x.2.2.2.1 x.2.2.2.2.1 x.2.2.2.2.2=ã (ea x):=by
 have b:=h.body (v:=40) ž
 have hl:=h.2.2.1.2;have q:gh x.2.2.2.2.1:=⟨ž,fun e he=>by
  obtain⟨-,⟨-, -,t⟩|⟨-, -, -, -,t, -⟩⟩:=h.2.2.1.1 e he
  .rw [t];decide
  .omega⟩
 have d: ∀y∈([x.1,x.2.1,x.2.2.1+1,x.2.2.2.1,(à x.2.2.2.2.1:Int)]:ag),gA y:=by
  intro y hy;simp only [Û,ϣ,or_false]at hy;rcases hy with rfl|rfl|rfl|rfl|rfl
  .exact b.1
  .exact b.2.1
  .exact b.2.2.1
  .exact b.2.2.2.1
  .exact⟨ž,ž⟩
 have w1:Þ ß (x.2.2.1+1)=x.2.2.1+1:=by have u:=b.2.2.1.1;have z:=b.2.2.1.2;rw [Á];omega
 have s: ∀e∈x.2.2.2.2.1,∀y∈([e.1,e.2.1+1,e.2.2.1]:ag),gA y:=by
  intro e he y hy;have p:=b.2.2.2.2.1.2 e he;simp only [Û,ϣ,or_false]at hy;rcases hy with rfl|rfl|rfl
  .exact p.1
  .exact p.2.1
  .exact p.2.2.1
 have u:=W.all _ fun y hy=>Ga y (d y hy)
 have z:=W.all x.2.2.2.2.1 fun e he=>(W.all _ fun y hy=>Ga y (s e he y hy)).and (abZ e.2.2.2 (by have:=q.2 e he;omega))
 have t: ∀n,10<=n->(∀y∈([x.1,x.2.1,x.2.2.1+1,x.2.2.2.1,(à x.2.2.2.2.1:Int)]:ag),sw n y=ã (bJ y))->uA n n x.1 x.2.1 x.2.2.1 x.2.2.2.1 x.2.2.2.2.1 x.2.2.2.2.2 0 [] [x.1,x.2.1,x.2.2.1+1,x.2.2.2.1,(à x.2.2.2.2.1:Int)] 5=ã (Ö (x.1,x.2.1,x.2.2.1,x.2.2.2.1,x.2.2.2.2.1,x.2.2.2.2.2,([x.1,x.2.1,x.2.2.1+1,x.2.2.2.1,(à x.2.2.2.2.1:Int)]:ag).flatMap bJ)):=fun n hn e=>by
  have:=Pz (L:=fun m i acc=>uA n m x.1 x.2.1 x.2.2.1 x.2.2.2.1 x.2.2.2.2.1 x.2.2.2.2.2 i acc [x.1,x.2.1,x.2.2.1+1,x.2.2.2.1,(à x.2.2.2.2.1:Int)] 5) (fin:=fun acc=>(Ö (x.1,x.2.1,x.2.2.1,x.2.2.2.1,x.2.2.2.2.1,x.2.2.2.2.2,acc):Sum (Int×Int×Int×Int×aj×O×O) O)) (l:=[x.1,x.2.1,x.2.2.1+1,x.2.2.2.1,(à x.2.2.2.2.1:Int)]) Ż (fun m i acc hi ha=>by
   have ae:i<5:=ķ
   rw [WV,hC (show (i:Int)<5 by omega),Y,hC (show (0:Int)<=(i:Int)/\(i:Int)<_ from⟨ž,ž⟩),Y,ie hi,Z,e _ (Æ hi),Z,aX ž,Y]) (fun m acc=>by rw [WV];rfl) 5 0 n [] rfl Ż ž (by have:=Gc (f:=bJ) _ fun y hy=>kX (d y hy);simp only [Î,Ñ]at this;simp only [Ø,Ñ];omega)
  simpa using this
 have af:=Gc (f:=bJ) ([x.1,x.2.1,x.2.2.1+1,x.2.2.2.1,(à x.2.2.2.2.1:Int)]:ag) fun y hy=>kX (d y hy)
 have g:=AZ (l:=x.2.2.2.2.1) ž (f:=fS) (B:=100) (fun e he=>acE (h.2.2.1.1 e he)) (init:=([x.1,x.2.1,x.2.2.1+1,x.2.2.2.1,(à x.2.2.2.2.1:Int)]:ag).flatMap bJ) (by simp only [Î,Ñ]at af;omega) (r:=fun acc=>(Ö (x.1,x.2.1,x.2.2.1,x.2.2.2.1,x.2.2.2.2.1,x.2.2.2.2.2,acc):Sum (Int×Int×Int×Int×aj×O×O) O)) (L:=fun n m i acc=>yL n m x.1 x.2.1 x.2.2.1 x.2.2.2.1 x.2.2.2.2.1 x.2.2.2.2.2 acc i x.2.2.2.2.1 (à x.2.2.2.2.1:Int)) ((z.and (W.ge 10)).mono fun n ⟨h,hn⟩ i hi acc m ha=>by
  have he:=Æ hi;obtain⟨p1,p2⟩:=h _ he;have p:=b.2.2.2.2.1.2 _ he;have w2:Þ ß (x.2.2.2.2.1[i].2.1+1)=x.2.2.2.2.1[i].2.1+1:=by have u:=p.2.1.1;have z:=p.2.1.2;rw [Á];omega
  have hlen:(fS x.2.2.2.2.1[i]).length=(List.flatMap bJ [x.2.2.2.2.1[i].1,x.2.2.2.2.1[i].2.1+1,x.2.2.2.2.1[i].2.2.1]).length+(eS x.2.2.2.2.1[i].2.2.2).length:=by simp [fS];omega
  have:=Pz (L:=fun m j acc=>yK n m x.1 x.2.1 x.2.2.1 x.2.2.2.1 x.2.2.2.2.1 x.2.2.2.2.2 x.2.2.2.2.1[i].1 x.2.2.2.2.1[i].2.1 x.2.2.2.2.1[i].2.2.1 x.2.2.2.2.1[i].2.2.2 j acc [x.2.2.2.2.1[i].1,x.2.2.2.2.1[i].2.1+1,x.2.2.2.2.1[i].2.2.1] x.2.2.2.2.1 (à x.2.2.2.2.1:Int) i 3) (fin:=fun acc=>(Ö (x.1,x.2.1,x.2.2.1,x.2.2.2.1,x.2.2.2.2.1,x.2.2.2.2.2,x.2.2.2.2.1[i].1,x.2.2.2.2.1[i].2.1,x.2.2.2.2.1[i].2.2.1,x.2.2.2.2.1[i].2.2.2,x.2.2.2.2.1,(à x.2.2.2.2.1:Int),(i:Int),acc):Sum _ O)) (l:=[x.2.2.2.2.1[i].1,x.2.2.2.2.1[i].2.1+1,x.2.2.2.2.1[i].2.2.1]) Ż (fun m i acc hi ha=>by
   have ae:i<3:=ķ
   rw [WW,hC (show (i:Int)<3 by omega),Y,hC (show (0:Int)<=(i:Int)/\(i:Int)<_ from⟨ž,ž⟩),Y,ie hi,Z,p1 _ (Æ hi),Z,aX ž,Y]) (fun m acc=>by rw [WW];rfl) 3 0 n acc rfl Ż ž (by rw [Ø];omega)
  rw [WX,aU hi,bB hi,Y,Z,w2,show yK n n x.1 x.2.1 x.2.2.1 x.2.2.2.1 x.2.2.2.2.1 x.2.2.2.2.2 x.2.2.2.2.1[i].1 x.2.2.2.2.1[i].2.1 x.2.2.2.2.1[i].2.2.1 x.2.2.2.2.1[i].2.2.2 0 acc [x.2.2.2.2.1[i].1,x.2.2.2.2.1[i].2.1+1,x.2.2.2.2.1[i].2.2.1] x.2.2.2.2.1 (à x.2.2.2.2.1:Int) i 3=_ from this,Z];dsimp only [aq]
  rw [p2,Z,aX (by rw [À,Ø];omega),Y]
  congr 1
  simp [fS]) (fun n m acc=>by rw [WX,bM];rfl)
 have ar:=pd h;have k:(([x.1,x.2.1,x.2.2.1+1,x.2.2.2.1,(à x.2.2.2.2.1:Int)]:ag).flatMap bJ++x.2.2.2.2.1.flatMap fS)++eS x.2.2.2.2.2=eF x:=by simp [eF,iX,bJ]
 refine((((Pt x q).and u).and g).and (((abZ x.2.2.2.2.2 (by have:=h.2.2.2.1;omega)).and ((aFj (eF x) ž).and (Ga (eF x).length ⟨ž,ž⟩))).and (W.ge 10))).nm fun n ⟨⟨⟨g1,g2⟩,g3⟩,⟨g4,g5,g6⟩,hn⟩=> ?_
 rw [WU,g1,aA h,Z,Ä,ez,w1,show uA n n x.1 x.2.1 x.2.2.1 x.2.2.2.1 x.2.2.2.2.1 x.2.2.2.2.2 0 ([]:aC) _ 5=_ from t n hn g2,Z];dsimp only [aq]
 rw [show yL n n x.1 x.2.1 x.2.2.1 x.2.2.2.1 x.2.2.2.2.1 x.2.2.2.2.2 _ 0 x.2.2.2.2.1 (à x.2.2.2.2.1:Int)=_ from g3,Z];dsimp only [aq]
 have au:=congrArg Ζ k;have h9:=kX (x:=(eF x).length) ⟨ž,ž⟩
 rw [g4,Z,k,aX (by rw [<-À,k];omega),Y,g5,Z,g6,Z,aX ž,Y,aX ű,Y,ea,Å];rfl
theorem aFr {x:dD} (h: ¬dQ x) (b:gh x.2.2.2.2.1):W fun n=>yJ n x.1 x.2.1 x.2.2.1 x.2.2.2.1 x.2.2.2.2.1 x.2.2.2.2.2=ã []:=
 (Pt x b).nm fun n e=>by rw [WU,e,aw h];rfl
theorem aFs (l r:O) (b:à l<=1048576):W fun n=>Ey n l r=ã (bo (l=r)):=
 zv l r b (L:=fun n m i=>Ez n m i r l (à l)) (fun n=>axS n l r) (fun n m i hi d=>by
  rw [WZ,aU hi,bB hi,bB d];simp only [Y,Z,eQ];exact dL (by rw [φ];exact⟨fun e=>κ.1 ž,fun e=>by rw [e]⟩)) (fun n m=>by rw [WZ,bM];rfl)
theorem acG (a b:vk):jj [a.1==b.1,a.2.1==b.2.1,a.2.2.1==b.2.2.1,a.2.2.2==b.2.2.2]=bo (a=b):=ľ
theorem aFt (l r:aj) (b:à l<=1048576):W fun n=>ME n l r=ã (bo (l=r)):=
 zv l r b (L:=fun n m i=>EE n m i r l (à l)) (fun n=>ayG n l r) (fun n m i hi d=>by
  rw [Xe,aU hi,bB hi,bB d];simp only [Y,Z,acG,cC];exact dL ı) (fun n m=>by rw [Xe,bM];rfl)
theorem aFu (l r:aj) (d:à l<=1048576):W fun n=>KT n l r=ã (bo (l=r)):=by
 have k:=kK (len:=min (à l) (à r)) ž (q:=fun i=>l[i]? =r[i]?) (r:=false) (b:=(r,l)) (L:=fun n m i=>yi n m i r l) (W.of fun n m i hi=>by
  have d:i<à l:=ž
  have f:i<à r:=ž
  rw [VI,aU d,aU f,bB d,bB f];simp only [Y,Z,acG,cC,Ê d,Ê f,Δ]
  exact dL ı) (fun n m=>by
   rw [VI];by_cases h:min (à l) (à r)<à l
   .rw [aU h,Y,hJ ž];rfl
   .rw [hJ ž];rfl)
 refine k.nm fun n e=> ?_
 rw [arX,show yi n n 0 r l=_ from e];simp only [Z,fT,bW];by_cases h:à l=à r
 .rw [show min (à l) (à r)=à l by omega,abG l r h,aA (show (à l:Int)=à r by omega),kJ]
 .rw [aw (show ¬(à l:Int)=à r by omega),aw (fun e:l=r=>h (by rw [e]))]
  cases bo (∀i,i<min (à l) (à r)->l[i]? =r[i]?)<;>rfl
theorem acH {s r:O} {c:Int} (h:cr s=ã (c,r)) (p:c+4<=(à r:Int)):
  (∀x,dQ x->eF x=r.take c.toNat->nR (oZ (r.take c.toNat))=(r.drop c.toNat).take 4->iH s=ã (x,r.drop (c.toNat+4)))/\((∀x,dQ x->eF x=r.take c.toNat->nR (oZ (r.take c.toNat))=(r.drop c.toNat).take 4->False)->iH s=â):=by
 obtain⟨f,rfl⟩:=(eC _ _ _).1 h;have g:=f.1;have i:(r.take c.toNat).length=c.toNat:=ŭ
 constructor
 .intro x b j m
  rw [<-aFn (x:=x) (r:=r.drop (c.toNat+4)) b];congr 1
  rw [ea,j,i,m,ϛ g,Å,Å];congr 1
  rw [<-Λ,ϙ,ϙ]
 .intro k
  refine Py fun x q b e=> ?_
  rw [ea,Å,Å]at e;have d:=(eC _ ((eF x).length:Int) _).2 ⟨⟨ž,by have:=pd b;omega⟩,e⟩
  rw [h]at d;simp only [Δ,Ο]at d;obtain⟨rfl,rfl⟩:=d;refine k x b ?_ ?_
  .simp
  .simp [nR]
theorem acI {s r:O} {c:Int} (h:cr s=ã (c,r)) (d:(à r:Int)<c+4):iH s=â:=by
 refine Py fun x g f e=> ?_
 rw [ea,Å,Å]at e;have b:=(eC _ ((eF x).length:Int) _).2 ⟨⟨ž,by have:=pd f;omega⟩,e⟩
 rw [h]at b;simp only [Δ,Ο]at b;obtain⟨rfl,rfl⟩:=b;simp [nR]at d
 omega
theorem PA {s:O} (h:cr s=â):iH s=â:=by
 refine Py fun x f d e=> ?_
 rw [ea,Å,Å]at e;have b:=(eC _ ((eF x).length:Int) _).2 ⟨⟨ž,by have:=pd d;omega⟩,e⟩
 rw [h]at b;cases b
theorem Gd {x:dD} (h:(eF x).length<=1048576):gh x.2.2.2.2.1:=by
 have d:=zx (f:=fS) (fun e=>by have:=lR e.1;simp only [fS,À];omega) x.2.2.2.2.1
 have b: ∀e∈x.2.2.2.2.1,à e.2.2.2<=(x.2.2.2.2.1.flatMap fS).length:=by
  generalize x.2.2.2.2.1=l
  intro e he;induction l with
  |nil=>cases he
  |cons a l ih=>
   rw [Γ,À];rcases Û.1 he with rfl|he
   .simp only [fS,eS,À];omega
   .have:=ih he;omega
 have g:(x.2.2.2.2.1.flatMap fS).length<=(eF x).length:=by simp only [eF,iX,À];omega
 exact⟨ž,fun e he=>by have:=b e he;omega⟩
theorem acJ {b r:O} (j:à b<=1048576) {k:Nat} {c:Int} (h:cr (b.drop k)=ã (c,r)):
  Þ ß (Þ ß ((à b:Int)-((à b:Int)-(à r:Int)))-4)=(à r:Int)-4/\
  (c+4<=(à r:Int)->Þ ß ((à b:Int)-(à r:Int)+c)=(à b:Int)-(à r:Int)+c/\Þ ß ((à b:Int)-(à r:Int)+c+4)=(à b:Int)-(à r:Int)+c+4/\
   ((b.drop (Ç ((à b:Int)-(à r:Int)))).take (Ç ((à b:Int)-(à r:Int)+c)-Ç ((à b:Int)-(à r:Int))))=r.take c.toNat/\
   ((b.drop (Ç ((à b:Int)-(à r:Int)+c))).take (Ç ((à b:Int)-(à r:Int)+c+4)-Ç ((à b:Int)-(à r:Int)+c)))=(r.drop c.toNat).take 4/\
   ((b.drop k).take (Ç ((à b:Int)-(à r:Int)+c+4)-k))=bJ c++(r.take c.toNat++(r.drop c.toNat).take 4)/\
   (k:Int)<=(à b:Int)-(à r:Int)+c+4/\(à b:Int)-(à r:Int)+c+4=(à b:Int)-((r.drop (c.toNat+4)).length:Int)):=by
 obtain⟨m,p,f,g⟩:=qI h;obtain⟨-,e⟩:=(eC _ _ _).1 h;have i:(b.drop k).length=(bJ c).length+à r:=by rw [e,À]
 simp only [È]at i f g;have hd:b.drop (à b-à r)=r:=by
  have d:r=(b.drop k).drop (bJ c).length:=Ţ
  rw [Λ]at d;rw [d];congr 1
  simp only [È];omega
 refine⟨ū,fun q=>⟨ż,ż, ?_, ?_, ?_,ž,by rw [È];omega⟩⟩
 .rw [show Ç ((à b:Int)-(à r:Int))=à b-à r by omega,hd];congr 1;omega
 .rw [show Ç ((à b:Int)-(à r:Int)+c)=(à b-à r)+c.toNat by omega,<-Λ,hd];congr 1;omega
 .rw [e,List.take_append,Ú ž]
  congr 1
  rw [show Ç ((à b:Int)-(à r:Int)+c+4)-k-(bJ c).length=c.toNat+4 by omega,List.take_add]
theorem aFv (b:O) (d:à b<=1048576) (k:Nat) (hk:k<=à b):W fun n=>KG n b k=ã (vm b (iH (b.drop k))):=by
 cases f:cr (b.drop k)with
 |none=>
  refine(vh b d).nm fun n e=> ?_
  rw [Nc,e k hk,f,PA f];rfl
 |some w=>
  obtain⟨c,r⟩:=w;obtain⟨h1,h2,h3,h4⟩:=qI f;obtain⟨p1,p2⟩:=acJ d f;by_cases hc:c+4<=(à r:Int)
  .obtain⟨p3,p4,p5,p6, -, -,p7⟩:=p2 hc
   have hr:à r<=à b:=by simp only [È]at h4;omega
   have hl:(r.take c.toNat).length=c.toNat:=ŭ
   obtain⟨q1,q2⟩:=acH f hc;have hM:W fun n=> ∀y,kq 4611686018427387903 (r.take c.toNat)=ã (y,[])->yd n y.1 y.2.1 y.2.2.1 y.2.2.2.1 y.2.2.2.2.1 y.2.2.2.2.2=ã (bo (dQ y)):=by
    by_cases hq: ∃y,kq 4611686018427387903 (r.take c.toNat)=ã (y,[])
    .obtain⟨y,hy⟩:=hq
     obtain⟨-,e⟩:=(lS (v:=4611686018427387903) ž _ _ _).1 hy
     rw [Ð]at e;refine(abU y (Gd (by rw [<-e];omega))).mono fun n e y' m=> ?_
     rw [hy]at m;cases m;exact e
    .exact W.of fun n y hy=>absurd ⟨y,hy⟩ hq
   refine(((vh b d).and ((aFi (r.take c.toNat) ž).nm (q:=fun n=>KH n (r.take c.toNat)=ã (nR (oZ (r.take c.toNat)))) fun n e=>by rw [arC,e];rfl)).and ((aFo (r.take c.toNat) ž).and hM)).nm fun n ⟨⟨e1,e2⟩,⟨x,k1,ad,e3,e4⟩,e5⟩=> ?_
   rw [Nc,e1 k hk,f];dsimp only [cX,Z]
   rw [p1,p3,p4,p5,p6,e2,hJ ž,hC ž,hC ž]
   simp only [Ä,ez,Y,Z,bW];by_cases s:nR (oZ (r.take c.toNat))=(r.drop c.toNat).take 4
   .rw [aA s,e3]
    simp only [Ä,ez,Z];obtain⟨g,p,h5,i⟩:=e4;have p:g=k1:=ž
    subst p;rw [Y,Ø]at i;cases hp:kq 4611686018427387903 (r.take c.toNat)with
    |none=>
     rw [hp]at i;have i:ad=ä:=i;rw [i,q2 fun y hy d _=>by
      have:=(lS (v:=4611686018427387903) ž (r.take c.toNat) y []).2 ⟨hy.body ž,ø⟩
      rw [hp]at this;cases this]
     rfl
    |some z=>
     rw [hp]at i;obtain⟨rfl,rfl,h7⟩:=i;by_cases t:z.2=[]
     .have j:kq 4611686018427387903 (r.take c.toNat)=ã (z.1,[]):=by rw [hp,<-t]
      obtain⟨-,e⟩:=(lS (v:=4611686018427387903) ž _ _ _).1 j
      rw [Ð]at e;rw [t]at h7;have:=congrArg Ζ h7;rw [È,Ñ]at this;have:((g:Int) !=((r.take c.toNat).length:Int))=ä:=ź
      rw [this,e5 _ j];by_cases u:dQ z.1
      .rw [aA u,q1 _ u e.symm s,vm,<-p7];rfl
      .rw [aw u,q2 fun y hy d _=>by
        have:=(lS (v:=4611686018427387903) ž (r.take c.toNat) y []).2 ⟨hy.body ž,ø⟩
        rw [j]at this;cases this;exact u hy]
       rfl
     .have:((g:Int) !=((r.take c.toNat).length:Int))=å:=by
       rw [bne_iff_ne];intro e;apply t
       rw [<-h7];exact Ψ ž
      rw [this,q2 fun y hy d _=>by
       have:=(lS (v:=4611686018427387903) ž (r.take c.toNat) y []).2 ⟨hy.body ž,ø⟩
       rw [hp]at this;cases this;exact t rfl]
      rfl
   .rw [aw s,q2 fun _ _ _ h=>s h];rfl
  .refine(vh b d).nm fun n e=> ?_
   rw [Nc,e k hk,f,acI f ž]
   dsimp only [cX,Z]
   rw [p1,hC ž];rfl
theorem aFw (b:O) (i:à b<=1048576) (k:Nat) (hk:k<=à b):W fun n=>Ms n b k=ã (vm b (iH (b.drop k))):=by
 cases m:cr (b.drop k)with
 |none=>
  refine(vi b i).nm fun n e=> ?_
  rw [Ns,e k hk,m,PA m];rfl
 |some w=>
  obtain⟨c,r⟩:=w;obtain⟨h1,h2,h3,h4⟩:=qI m;obtain⟨p1,p2⟩:=acJ i m;by_cases hc:c+4<=(à r:Int)
  .obtain⟨p3,p4,p5, -,p6,p8,p7⟩:=p2 hc
   have hr:à r<=à b:=by simp only [È]at h4;omega
   have hl:(r.take c.toNat).length=c.toNat:=ŭ
   obtain⟨q1,q2⟩:=acH m hc;have hM:W fun n=> ∀y,kq 40 (r.take c.toNat)=ã (y,[])->yJ n y.1 y.2.1 y.2.2.1 y.2.2.2.1 y.2.2.2.2.1 y.2.2.2.2.2=ã (@ite _ (dQ y) (Ε _) (ea y) []):=by
    by_cases s: ∃y,kq 40 (r.take c.toNat)=ã (y,[])
    .obtain⟨y,hy⟩:=s
     obtain⟨-,e⟩:=(lS (v:=40) ž _ _ _).1 hy
     rw [Ð]at e;by_cases f:dQ y
     .refine(aFq f).mono fun n e y' d=> ?_
      rw [hy]at d;cases d;rw [e,if_pos f]
     .refine(aFr f (Gd (by rw [<-e];omega))).mono fun n e y' d=> ?_
      rw [hy]at d;cases d;rw [e,if_neg f]
    .exact W.of fun n y hy=>absurd ⟨y,hy⟩ s
   have hE:W fun n=> ∀y,kq 40 (r.take c.toNat)=ã (y,[])->Ey n (@ite _ (dQ y) (Ε _) (ea y) []) (bJ c++(r.take c.toNat++(r.drop c.toNat).take 4))=ã (bo ((@ite _ (dQ y) (Ε _) (ea y) [])=bJ c++(r.take c.toNat++(r.drop c.toNat).take 4))):=by
    by_cases s: ∃y,kq 40 (r.take c.toNat)=ã (y,[])
    .obtain⟨y,hy⟩:=s
     refine(aFs (@ite _ (dQ y) (Ε _) (ea y) []) (bJ c++(r.take c.toNat++(r.drop c.toNat).take 4)) (by
      split
      .rename_i f
       have:=pd f;have:=kX (x:=(eF y).length) ⟨ž,ž⟩
       simp only [ea,nR,À,Î,Ñ];omega
      .decide)).mono fun n e y' d=> ?_
     rw [hy]at d;cases d;exact e
    .exact W.of fun n y hy=>absurd ⟨y,hy⟩ s
   refine(((vi b i).and hE).and ((aFp (r.take c.toNat) ž).and hM)).nm fun n ⟨⟨e1,e2⟩,⟨x,k1,g,e3,e4⟩,e5⟩=> ?_
   rw [Ns,e1 k hk,m];dsimp only [cX,Z]
   rw [p1,p3,p4,p5,Â,p6,e3,hJ ž,hC ž]
   simp only [Ä,ez,Y,Z];rw [hC ž]
   obtain⟨p,t,h5,q⟩:=e4;have t:p=k1:=ž
   subst t;rw [Y,Ø]at q;cases hp:kq 40 (r.take c.toNat)with
   |none=>
    rw [hp]at q;have q:(!g)=ä:=q;rw [show g=å by simpa using q,q2 fun y hy i _=>by
     have:=(lS (v:=40) ž (r.take c.toNat) y []).2 ⟨hy.body ž,ù⟩
     rw [hp]at this;cases this]
    rfl
   |some z=>
    rw [hp]at q;obtain⟨rfl,h8,h7⟩:=q;rw [show g=ä by simpa using h8,ez]
    by_cases hz:z.2=[]
    .have j:kq 40 (r.take c.toNat)=ã (z.1,[]):=by rw [hp,<-hz]
     obtain⟨-,e⟩:=(lS (v:=40) ž _ _ _).1 j
     rw [Ð]at e;rw [hz]at h7;have:=congrArg Ζ h7;rw [È,Ñ]at this;have:((p:Int) !=c)=ä:=ź
     rw [this,e5 _ j];simp only [ez,Y,Z];rw [e2 _ j];by_cases f:dQ z.1
     .rw [if_pos f]
      have u:bJ (eF z.1).length=bJ c:=by rw [<-e,hl,ϛ h1]
      by_cases hs:nR (oZ (r.take c.toNat))=(r.drop c.toNat).take 4
      .rw [aA (by rw [ea,u,<-e,hs]),q1 _ f e.symm hs,vm,<-p7];rfl
      .rw [aw (fun k=>by
        rw [ea,u,<-e]at k;exact hs (Τ (Τ k))),q2 fun _ _ _ h=>hs h];rfl
     .rw [if_neg f,aw (fun k=>by
       have:=congrArg Ζ k;have h9:=lR c;simp only [À,Ñ]at this;omega),q2 fun y hy i _=>by
       have:=(lS (v:=40) ž (r.take c.toNat) y []).2 ⟨hy.body ž,ù⟩
       rw [j]at this;cases this;exact f hy]
      rfl
    .have:((p:Int) !=c)=å:=by
      rw [bne_iff_ne];intro e;apply hz
      rw [<-h7];exact Ψ ž
     rw [this,q2 fun y hy i _=>by
      have:=(lS (v:=40) ž (r.take c.toNat) y []).2 ⟨hy.body ž,ù⟩
      rw [hp]at this;cases this;exact hz rfl]
     rfl
  .refine(vi b i).nm fun n e=> ?_
   rw [Ns,e k hk,m,acI m ž]
   dsimp only [cX,Z]
   rw [p1,hC ž];rfl
noncomputable def gK:Nat->O->List dD×O
 |0,s=>([],s)
 |d+1,s=>match iH s with
  |none=>([],s)
  |some y=>(y.1::(gK d y.2).1,(gK d y.2).2)
theorem acK (x:dD):0<(ea x).length:=by
 have:=lR (eF x).length;simp only [ea,À];omega
theorem PB: ∀(d:Nat) (s:O),(∀x∈(gK d s).1,dQ x)/\(gK d s).1.length+(gK d s).2.length<=à s
 |0,s=>by simp [gK]
 |d+1,s=>by
  rw [gK];cases h:iH s with
  |none=>simp
  |some y=>
   obtain⟨b,rfl⟩:=acF (x:=y.1) (r:=y.2) h;obtain⟨f,i⟩:=PB d y.2;have:=acK y.1;refine⟨fun x g=>(Û.1 g).elim (fun e=>e▸b) (f x), ?_⟩
   simp only [Î,À];omega
theorem aFx:iH []=â:=PA rfl
theorem PD {b:O} {β:Type} {L:Nat->Int->gB->Option β} {fin:Int->gB->β}
  (f: ∀m (k:Nat) acc y,k<à b->iH (b.drop k)=ã y->à acc+1<=2000000->L (m+1) k acc=L m ((à b:Int)-(à y.2:Int)) (acc++[y.1]))
  (he: ∀m (k:Nat) acc,k<=à b->iH (b.drop k)=â->L (m+1) k acc=ã (fin k acc)): ∀(d k m:Nat) acc,à b-k<=d->k<=à b->d<m->à acc+d<=1048576->L m k acc=ã (fin ((à b:Int)-((gK d (b.drop k)).2.length:Int)) (acc++(gK d (b.drop k)).1))
 |0,k,m,acc,hd,hk,hm,g=>by
  obtain⟨m,rfl⟩: ∃q,m=q+1:=⟨m-1,ž⟩
  have e:b.drop k=[]:=Ψ ž
  rw [he m k acc hk (by rw [e];exact aFx),e,gK,Ð,Ñ,show(k:Int)=(à b:Int)-((0:Nat):Int) by omega]
 |d+1,k,m,acc,hd,hk,hm,g=>by
  obtain⟨m,rfl⟩: ∃q,m=q+1:=⟨m-1,ž⟩
  rw [gK];cases h:iH (b.drop k)with
  |none=>
   rw [he m k acc hk h];simp only [Ð,È];rw [show (k:Int)=(à b:Int)-((à b-k:Nat):Int) by omega]
  |some y=>
   obtain⟨-,e⟩:=acF (x:=y.1) (r:=y.2) h;have i:=congrArg Ζ e;have p:=acK y.1;simp only [È,À]at i;have j:b.drop (à b-à y.2)=y.2:=by
    have:y.2=(b.drop k).drop (ea y.1).length:=Ţ
    rw [Λ]at this;rw [show à b-à y.2=k+(ea y.1).length by omega];exact this.symm
   have:=PD f he d (à b-à y.2) m (acc++[y.1]) ž ž ž ő
   rw [j]at this;rw [f m k acc y ž h ž,show(à b:Int)-(à y.2:Int)=((à b-à y.2:Nat):Int) by omega,this]
   simp only [Å,List.singleton_append]
def acL (b:O) (y:List dD×O):gB×Int:=(y.1,(à b:Int)-(à y.2:Int))
theorem aFy (b:O) (d:à b<=1048000):W fun n=>KF n b=ã (acL b (gK (à b) b)):=by
 refine((W.lt (len:=à b+1) fun k hk=>aFv b ž k ž).and (W.ge (à b+2))).nm fun n ⟨e,f⟩=> ?_
 have:=PD (b:=b) (L:=fun m k acc=>ya n m k acc b) (fin:=fun k acc=>(Ö (k,acc):Sum (Int×gB) (gB×Int))) (fun m k acc y hk hy g=>by
  rw [VD,aU hk,Y,e k ž,hy,Z,vm]
  simp only [Ä,ez];rw [aX ž];rfl) (fun m k acc hk hy=>by
  rw [VD];by_cases h:k<à b
  .rw [aU h,Y,e k ž,hy];rfl
  .rw [hJ ž];rfl) (à b) 0 n [] ž ž ž ź
 rw [arA,show ya n n 0 ([]:gB) b=_ from this];rfl
theorem aFz (b:O) (d:à b<=1048000):W fun n=>Mr n b=ã (acL b (gK (à b) b)):=by
 refine((W.lt (len:=à b+1) fun k hk=>aFw b ž k ž).and (W.ge (à b+2))).nm fun n ⟨e,f⟩=> ?_
 have:=PD (b:=b) (L:=fun m k acc=>yH n m k acc b) (fin:=fun k acc=>(Sum.inr (acc,k):Sum Unit (gB×Int))) (fun m k acc y hk hy g=>by
  rw [WQ,e k ž,hy,Z,vm]
  simp only [Ä,ez];rw [aX ž];rfl) (fun m k acc hk hy=>by
  rw [WQ,e k ž,hy];rfl) (à b) 0 n [] ž ž ž ź
 rw [axI,show yH n n 0 ([]:gB) b=_ from this];rfl
theorem acM (n:Nat) (l:aj):Mx (n+1) l=cond (υ (Ζ l) big) (ã l) â:=Ž
theorem acN (x y:Int) (l:aj) (h:à l<=1048576):W fun n=>sx n x y l=ã (x,y,l):=by
 refine(W.ge 1).nm fun n b=> ?_
 obtain⟨n,rfl⟩: ∃q,n=q+1:=⟨n-1,ž⟩
 rw [axV,acM,aX ž];rfl
theorem PE (x y:Int) (l:aj) (h:à l<=1048576):W fun n=>ui n x y l=ã (x,y,l):=
 W.succ (W.of fun n=>by rw [arL,aX ž];rfl)
def fP (ba b:Int) (l:aj) (a:Int):Int:=if a=ba then b else if ba<a/\a<=ba+à l then(l.getD (a-ba-1).toNat (0,0,0,[])).1 else -1
theorem getD_at {l:aj} {i:Nat} (h:i<à l):l.getD i (0,0,0,[])=l[i]:=ř
theorem PF {l:aj} {a:Int} (b:0<=a) (h:a<(à l:Int)):au l a=ã (l.getD a.toNat (0,0,0,[])):=by
 obtain⟨k,rfl⟩: ∃k:Nat,a=k:=⟨a.toNat,ž⟩
 rw [bB ž,Â,getD_at ž]
theorem acO (ba f:Int) (l:aj) (a:Int) (b:In ba 0 300) (d:In a 0 300):W fun n=>Da n ba f l a=ã (if ba<a/\a<=ba+à l then a-ba-1 else -1):=W.succ (W.of fun n=>by
 have i:=b.1;have j:=b.2;have k:=d.1;have m:=d.2;have w:Þ ß (Þ ß (a-ba)-1)=a-ba-1:=ū
 rw [arP,w,hJ (show ¬(300:Int)<a by omega),hJ (show ¬ba<(0:Int) by omega)]
 by_cases h:a<=ba
 .rw [hC h,if_neg ž];rfl
 .rw [hJ h]
  by_cases g:a<=ba+à l
  .rw [if_pos ⟨ž,g⟩,hJ ž];rfl
  .rw [if_neg ž,hC ž];rfl)
theorem acP (ba d:Int) (l:aj) (a:Int) (f:In ba 0 300) (g:In a 0 300):W fun n=>CZ n ba d l a=ã (fP ba d l a):=by
 refine(acO ba d l a f g).nm fun n e=> ?_
 rw [arO,e,fP,bW];by_cases h:a=ba
 .rw [aA h,if_pos h];rfl
 .rw [aw h,if_neg h,Z,ez]
  by_cases b:ba<a/\a<=ba+à l
  .rw [if_pos b,if_pos b,hJ ž,ez,PF ž ž];rfl
  .rw [if_neg b,if_neg b];rfl
theorem acQ (ba d:Int) (l:aj) (b:In ba 0 300) (f:ba+à l<=300):W fun n=>EA n ba d l=ã l:=by
 refine(mI ba).nm fun n e=> ?_
 have g:=b.1;have h:=b.2;have w:Þ ß ((300:Int)-ba)=300-ba:=ż
 rw [axY,e,aA b,w,hJ (show ¬300-ba<(à l:Int) by omega)]
 simp only [Z,Ä,ez];rw [hC (show (0:Int)<=(à l:Int)/\(à l:Int)<=(à l:Int) by omega),Y,Â,Ø,Nat.sub_zero,List.take_length]
theorem PG (ba d:Int) (l:aj) (a:Int) (f:In ba 0 300) (j:ba+à l<=300) (g:In a 0 300):W fun n=>yO n ba d l a=ã (fP ba d l a):=by
 refine(acQ ba d l f j).nm fun n e=> ?_
 have m:=f.1;have p:=f.2;have q:=g.1;have r:=g.2;have w:Þ ß (Þ ß (a-ba)-1)=a-ba-1:=ū
 have k:Þ ß (ba+(à l:Int))=ba+à l:=ż
 rw [axX,e,fP,bW];simp only [Z,w,k];by_cases h:a=ba
 .rw [aA h,if_pos h];rfl
 .rw [aw h,if_neg h,ez]
  by_cases b:ba<a/\a<=ba+à l
  .rw [if_pos b,hC b.1,hC b.2,hC ž,PF ž ž];rfl
  .rw [if_neg b]
   by_cases i:ba<a
   .rw [hC i,hJ (show ¬a<=ba+à l by omega)]
    cases á ((0:Int)<(à l:Int))<;>rfl
   .rw [hJ i];rfl
def hU:aj->Nat->aj->aj
 |l,_,[]=>l
 |l,j,e::es=>if h:j<à l then(if l[j].1=e.1 then hU l (j+1) es else hU (l.take j++[e]) (j+1) es)else hU (l++[e]) (j+1) es
theorem Ge: ∀(es:aj) (l:aj) (j:Nat),(hU l j es).length<=à l+à es/\ ∀e∈hU l j es,e∈l\/e∈es
 | [],l,j=>by simp [hU]
 |e::es,l,j=>by
  rw [hU];split
  .rename_i h
   split
   .obtain⟨d,b⟩:=Ge es l (j+1)
    exact⟨by rw [Î];omega,fun y hy=>(b y hy).elim .inl fun k=>.inr (Μ _ k)⟩
   .obtain⟨d,b⟩:=Ge es (l.take j++[e]) (j+1)
    refine⟨by simp at d |-;omega,fun y hy=>(b y hy).elim (fun k=> ?_) fun k=>.inr (Μ _ k)⟩
    rcases Ï.1 k with k|k
    .exact .inl (Α k)
    .rw [É.1 k];exact .inr π
  .obtain⟨d,b⟩:=Ge es (l++[e]) (j+1)
   refine⟨by simp at d |-;omega,fun y hy=>(b y hy).elim (fun k=> ?_) fun k=>.inr (Μ _ k)⟩
   rcases Ï.1 k with k|k
   .exact .inl k
   .rw [É.1 k];exact .inr π
theorem PH {β:Type} {L:Nat->aj->Int->Option β} {fin:aj->β} {es:aj} {j:Nat} (b:à es<=40) (hj:j<=1000)
  (f: ∀m (i:Nat) (l:aj) (hi:i<à es),à l<=2000->L (m+1) l i=if h:j+i<à l then(if l[j+i].1=es[i].1 then L m l (Þ ß (i+1))else L m (l.take (j+i)++[es[i]]) (Þ ß (i+1)))else L m (l++[es[i]]) (Þ ß (i+1)))
  (he: ∀m l,L (m+1) l (à es)=ã (fin l)): ∀(d i m:Nat) (l:aj),à es-i=d->i<=à es->d<m->à l<=1000+i->L m l i=ã (fin (hU l (j+i) (es.drop i)))
 |0,i,m,l,hd,hi,hm,g=>by
  obtain⟨m,rfl⟩: ∃q,m=q+1:=⟨m-1,ž⟩
  have e:i=à es:=ž
  subst e;rw [he,Ϣ,hU]
 |d+1,i,m,l,hd,hi,hm,g=>by
  obtain⟨m,rfl⟩: ∃q,m=q+1:=⟨m-1,ž⟩
  have hi:i<à es:=ž
  rw [f m i l hi ž,Ì hi,hU,show Þ ß ((i:Int)+1)=((i+1:Nat):Int) by rw [Á];omega]
  have k:=fun l' (h:à l'<=1000+(i+1))=>PH b hj f he d (i+1) m l' ž ž ž h
  split
  .split
   .exact k l ž
   .exact k _ ź
  .exact k _ ź
theorem acR: ∀ {l:aj} {t:Int},ou t l-> ∀e∈l,à e.2.2.2<=60
 | [],_,_,_,h=>nomatch h
 |a::l,_,⟨_,d,f⟩,e,he=>by
  rcases Û.1 he with rfl|he
  .rcases d with⟨-, -,b⟩|⟨-, -, -, -,b, -⟩
   .rw [b];decide
   .exact b
  .exact acR f e he
theorem Gf {ba b:Int} {l:aj} (h:jv ba b l):à l<=300/\ ∀e∈l,à e.2.2.2<=60:=⟨by have d:=h.1.1;have f:=h.2.2.1;omega,acR h.2.2.2⟩
theorem PI {ba d:Int} {l es:aj} (j:Nat) (h:jv ba d l) (he:(∀e∈es,iu 300 e)/\à es<=40):gh (hU l j es):=by
 obtain⟨i,f⟩:=Ge es l j;obtain⟨m,g⟩:=Gf h;have p:=he.2;refine⟨ž,fun e hm=> ?_⟩
 rcases f e hm with k|k
 .have:=g e k;omega
 .obtain⟨-,⟨-, -,b⟩|⟨-, -, -, -,b, -⟩⟩:=he.1 e k
  .rw [b];decide
  .omega
open Classical in
noncomputable def iI (ba b:Int) (l:aj) (a t:Int) (es:aj):Int×(Int×aj×Bool):=
 if fP ba b l a=t/\jv ba b (hU l (a-ba).toNat es)then(ba,b,hU l (a-ba).toNat es,å)else(ba,b,l,ä)
theorem Gg {ba b:Int} {l:aj} {a t:Int} (h:fP ba b l a=t) (d:0<=t):ba<=a/\a<=ba+à l:=by
 unfold fP at h;split at h
 .omega
 .split at h
  .omega
  .omega
theorem acS {ba a:Int} {i:Nat} (b:In ba 0 300) (hi:i<=40) (h:ba<=a) (d:a<=300):Þ ß (Þ ß (a-ba)+(i:Int))=(((a-ba).toNat+i:Nat):Int):=by
 have f:=b.1;have g:=b.2;rw [Á,Á];omega
theorem aFA (ba b:Int) (l:aj) (a t:Int) (es:aj) (h:jv ba b l) (r:In a 0 300) (u:In t 0 300) (he:(∀e∈es,iu 300 e)/\à es<=40):W fun n=>KN n ba b l a t es=ã (iI ba b l a t es):=by
 have z:=Gf h;have p:gh l:=⟨ž,fun e k=>by have:=z.2 e k;omega⟩
 have t1:=u.1;have q:=he.2;refine((((NQ ba b l p).and (PE ba b l ž)).and ((acP ba b l a h.1 r).and (NQ ba b _ (PI (a-ba).toNat h he)))).and (W.ge 50)).nm fun n ⟨⟨⟨e1,s⟩,e3,e4⟩,hn⟩=> ?_
 rw [arN,e1,aA h,s];simp only [Z,Ä,ez];rw [hJ ž,e3]
 simp only [Z,ez,eQ];unfold iI;by_cases d:fP ba b l a=t
 .obtain⟨k1,k2⟩:=Gg d t1
  have a2:=r.2;have:=PH (L:=fun m l' i=>sd n m ba b l' ba b l 0 0 i es a) (fin:=fun l'=>(Ö (0,0,ba,b,l,ba,b,l'):Sum (Int×Int×Int×Int×aj×Int×Int×aj) (Int×Int×aj×Bool))) (es:=es) (j:=(a-ba).toNat) q ž (fun m i l' hi hl=>by
   rw [VG,aU hi,acS h.1 ž k1 a2,Y,bB hi]
   by_cases f:(a-ba).toNat+i<à l'
   .rw [aU f,dif_pos f,Y,hC ž,Y,ie f]
    simp only [Z,bW];by_cases hd:l'[(a-ba).toNat+i].1=es[i].1
    .rw [aA hd,if_pos hd];rfl
    .rw [aw hd,if_neg hd,ez,hC ž,Y,Â,Ô ž,Y,aX ŭ,Y,aX ŭ];rfl
   .rw [hJ ž,dif_neg f,ez,Z,aX ž];rfl) (fun m l'=>by rw [VG,bM];rfl) (à es) 0 n l rfl ž ž ž
  rw [aw (by rw [φ];exact d),ez,show sd n n ba b l ba b l 0 0 0 es a=_ from this,Z]
  dsimp only [aq]
  rw [Ϝ,Ø,e4];by_cases g:jv ba b (hU l (a-ba).toNat es)
  .rw [aA g,if_pos ⟨d,g⟩];rfl
  .rw [aw g,if_neg (fun k=>g k.2)]
   simp only [Z,Ü,Y,s]
 .rw [aA d,if_neg (fun k=>d k.1)];rfl
theorem aFB (ba b:Int) (l:aj) (a t:Int) (es:aj) (h:jv ba b l) (r:In a 0 300) (u:In t 0 300) (he:(∀e∈es,iu 300 e)/\à es<=40):W fun n=>My n ba b l a t es=ã (iI ba b l a t es):=by
 have z:=Gf h;have p:gh l:=⟨ž,fun e k=>by have:=z.2 e k;omega⟩
 have t1:=u.1;have q:=he.2;refine((((NR ba b l p).and (acN ba b l ž)).and ((PG ba b l a h.1 h.2.2.1 r).and (NR ba b _ (PI (a-ba).toNat h he)))).and (W.ge 50)).nm fun n ⟨⟨⟨e1,s⟩,e3,e4⟩,hn⟩=> ?_
 rw [axW,e1,aA h,s];simp only [Z,Ä,ez];rw [hJ ž,e3]
 simp only [Z,ez,eQ];unfold iI;by_cases d:fP ba b l a=t
 .obtain⟨k1,k2⟩:=Gg d t1
  have a2:=r.2;have:=PH (L:=fun m l' i=>sy n m ba b l' ba b l 0 0 i a es (à es:Int)) (fin:=fun l'=>(Ö (0,0,ba,b,l,ba,b,l'):Sum (Int×Int×Int×Int×aj×Int×Int×aj) (Int×Int×aj×Bool))) (es:=es) (j:=(a-ba).toNat) q ž (fun m i l' hi hl=>by
   rw [Xa,aU hi,acS h.1 ž k1 a2,Y,bB hi,Z]
   by_cases f:(a-ba).toNat+i<à l'
   .rw [aU f,dif_pos f,Y,hC ž,Y,ie f]
    simp only [Z,bW];by_cases hd:l'[(a-ba).toNat+i].1=es[i].1
    .rw [aA hd,if_pos hd];rfl
    .rw [aw hd,if_neg hd,ez,hC ž,Y,Â,Ô ž,Y,aX ŭ];rfl
   .rw [hJ ž,dif_neg f,ez,aX ž];rfl) (fun m l'=>by rw [Xa,bM];rfl) (à es) 0 n l rfl ž ž ž
  rw [aw (by rw [φ];exact d),ez,show sy n n ba b l ba b l 0 0 0 a es (à es:Int)=_ from this,Z]
  dsimp only [aq]
  rw [Ϝ,Ø,e4];by_cases g:jv ba b (hU l (a-ba).toNat es)
  .rw [aA g,if_pos ⟨d,g⟩];rfl
  .rw [aw g,if_neg (fun k=>g k.2)]
   simp only [Z,Ü,Y,s]
 .rw [aA d,if_neg (fun k=>d k.1)];rfl
theorem aFC (ba b:Int) (l:aj) (a:Int) (d:In ba 0 300) (f:In a 0 300) (h:ba<a) (g:a<=ba+à l) (m:ba+à l<=300):W fun n=>Dc n ba b l a=ã (a,fP ba b l a,l.drop (a-ba).toNat):=by
 refine((PE ba b l ī).and (acO ba b l a d f)).nm fun n ⟨i,j⟩=> ?_
 have w:Þ ß (a-ba-1+1)=a-ba:=Ā
 have k:=d.1;rw [arV,i,j,if_pos ⟨h,g⟩];simp only [Z];rw [hJ ž,ez,PF ž ž]
 simp only [Z,w];rw [hC ž,Y,aX ź,Y,fP,if_neg ž,if_pos ⟨h,g⟩,Ú Ż]
theorem aFD (ba b:Int) (l:aj) (a:Int) (d:In ba 0 300) (f:In a 0 300) (h:ba<a) (p:a<=ba+à l) (g:ba+à l<=300):W fun n=>ED n ba b l a=ã (a,fP ba b l a,l.drop (a-ba).toNat):=by
 refine(((acQ ba b l d g).and (PG ba b l a d g f)).and (W.ge 1)).nm fun n ⟨⟨i,j⟩,r⟩=> ?_
 obtain⟨n,rfl⟩: ∃q,n=q+1:=⟨n-1,ž⟩
 have k:=d.1;have w:Þ ß (a-ba)=a-ba:=Ā
 have m:Þ ß (ba+(à l:Int))=ba+à l:=ż
 rw [ayD,i];simp only [Z,w,m];rw [hJ (show ¬a<=ba by omega),show((à l:Int)==0)=ä from beq_eq_false_iff_ne.2 ž,hJ (show ¬ba+(à l:Int)<a by omega)]
 simp only [ez,Z,j];rw [hC ž,Y,acM,aX ź,Ú Ż];rfl
abbrev HT:=Int×(Int×Int×Int×aj×MT)
def fe (a b:af) (c d:ae) (h:HT):Prop:=tI a b c d h.1 h.2.1 h.2.2.1 h.2.2.2.1 h.2.2.2.2.1 h.2.2.2.2.2.1 h.2.2.2.2.2.2.1 h.2.2.2.2.2.2.2.1 h.2.2.2.2.2.2.2.2.1 h.2.2.2.2.2.2.2.2.2.1 h.2.2.2.2.2.2.2.2.2.2
def vn (h:HT):Prop:=gh h.2.2.2.2.1/\à h.2.2.2.2.2.1<=1048576/\à h.2.2.2.2.2.2.1<=1048576/\à h.2.2.2.2.2.2.2.2.2.1<=1048576
theorem PJ (a b:af) (c d:ae) (h:HT) (hp:fC a b c d) (f:vn h):W fun n=>qh n a b c d h.1 h.2.1 h.2.2.1 h.2.2.2.1 h.2.2.2.2.1 h.2.2.2.2.2.1 h.2.2.2.2.2.2.1 h.2.2.2.2.2.2.2.1 h.2.2.2.2.2.2.2.2.1 h.2.2.2.2.2.2.2.2.2.1 h.2.2.2.2.2.2.2.2.2.2=ã (bo (fe a b c d h)):=
 Yu a b c d _ _ _ _ _ _ _ _ _ _ _ hp f.1 f.2.1 f.2.2.1 f.2.2.2
theorem acT (a b:af) (c d:ae) (h:HT) (hp:fC a b c d) (f:vn h):W fun n=>nA n a b c d h.1 h.2.1 h.2.2.1 h.2.2.2.1 h.2.2.2.2.1 h.2.2.2.2.2.1 h.2.2.2.2.2.2.1 h.2.2.2.2.2.2.2.1 h.2.2.2.2.2.2.2.2.1 h.2.2.2.2.2.2.2.2.2.1 h.2.2.2.2.2.2.2.2.2.2=ã (bo (fe a b c d h)):=
 Yv a b c d _ _ _ _ _ _ _ _ _ _ _ hp f.1 f.2.1 f.2.2.1 f.2.2.2
theorem acU {a b:af} {c d:ae} {m:MT} (h:gZ a b c d m):à m.1<=1048576/\à m.2.1<=1048576/\à m.2.2.2.2.1<=1048576:=by
 have k:=FZ h;have k1:=k.1.1;have k2:=k.2.1.1;have k3:=k.2.2.2.2.1.1;omega
theorem fe.ma {a b:af} {c d:ae} {h:HT} (k:fe a b c d h):gZ a b c d h.2.2.2.2.2:=k.2.2.2.2
theorem fe.sm {a b:af} {c d:ae} {h:HT} (k:fe a b c d h):vn h:=by
 have f:=Gf k.2.2.1;exact⟨⟨ž,fun e he=>by have:=f.2 e he;omega⟩,acU k.ma⟩
noncomputable def hY (a b:af) (c d:ae) (h:HT) (x:dD):HT:=
 if x.1=1 then(x.2.1,x.2.2.1,h.2.2)
 else if x.1=2 then(h.1,h.2.1,(iI h.2.2.1 h.2.2.2.1 h.2.2.2.2.1 x.2.2.2.1 x.2.1 x.2.2.2.2.1).1,(iI h.2.2.1 h.2.2.2.1 h.2.2.2.2.1 x.2.2.2.1 x.2.1 x.2.2.2.2.1).2.1,(iI h.2.2.1 h.2.2.2.1 h.2.2.2.2.1 x.2.2.2.1 x.2.1 x.2.2.2.2.1).2.2.1,h.2.2.2.2.2)
 else match km a b c d x.2.2.2.2.2 with
  |none=>h
  |some m=>if x.2.2.2.1<=h.2.2.1 then h else if fP h.2.2.1 h.2.2.2.1 h.2.2.2.2.1 x.2.2.2.1=x.2.1 then(h.1,h.2.1,x.2.2.2.1,x.2.1,h.2.2.2.2.1.drop (x.2.2.2.1-h.2.2.1).toNat,m)else(h.1,h.2.1,x.2.2.2.1,x.2.1,[],m)
noncomputable def mS (a b:af) (c d:ae) (h:HT) (x:dD):HT:=cond (bo (fe a b c d (hY a b c d h x))) (hY a b c d h x) h
theorem PK {a b:af} {c d:ae} {h:HT} (k:fe a b c d h) (x:dD):fe a b c d (mS a b c d h x):=by
 unfold mS;by_cases q:fe a b c d (hY a b c d h x)
 .rw [aA q];exact q
 .rw [aw q];exact k
theorem acV {a b:af} {c d:ae} {h:HT} (k:fe a b c d h) {x:dD} (i:dQ x):vn (hY a b c d h x):=by
 have f:=k.sm;unfold hY;split
 .exact f
 .split
  .refine⟨?_,f.2⟩
   show gh (iI h.2.2.1 h.2.2.2.1 h.2.2.2.2.1 x.2.2.2.1 x.2.1 x.2.2.2.2.1).2.2.1;unfold iI;split
   .exact PI _ k.2.2.1 i.2.2.1
   .exact f.1
  .cases hm:km a b c d x.2.2.2.2.2 with
   |none=>exact f
   |some m=>
    have g:=acU (aFd hm).1;dsimp only
    split
    .exact f
    .split
     .exact⟨⟨by have:=f.1.1;simp only [È];omega,fun e he=>f.1.2 e (Ý he)⟩,g⟩
     .exact⟨⟨Ż,fun e he=>nomatch he⟩,g⟩
theorem aFE (h:HT) (b:vn h):W fun n=>ye n h.1 h.2.1 h.2.2.1 h.2.2.2.1 h.2.2.2.2.1 h.2.2.2.2.2.1 h.2.2.2.2.2.2.1 h.2.2.2.2.2.2.2.1 h.2.2.2.2.2.2.2.2.1 h.2.2.2.2.2.2.2.2.2.1 h.2.2.2.2.2.2.2.2.2.2=ã h:=
 ((PE h.2.2.1 h.2.2.2.1 h.2.2.2.2.1 b.1.1).and (aED h.2.2.2.2.2.1 h.2.2.2.2.2.2.1 h.2.2.2.2.2.2.2.1 h.2.2.2.2.2.2.2.2.1 h.2.2.2.2.2.2.2.2.2.1 h.2.2.2.2.2.2.2.2.2.2 b.2.1 b.2.2.1 b.2.2.2)).nm fun n ⟨d,f⟩=>by rw [arK,d,f];rfl
theorem aFF (h:HT) (b:vn h):W fun n=>qp n h.1 h.2.1 h.2.2.1 h.2.2.2.1 h.2.2.2.2.1 h.2.2.2.2.2.1 h.2.2.2.2.2.2.1 h.2.2.2.2.2.2.2.1 h.2.2.2.2.2.2.2.2.1 h.2.2.2.2.2.2.2.2.2.1 h.2.2.2.2.2.2.2.2.2.2=ã h:=
 ((acN h.2.2.1 h.2.2.2.1 h.2.2.2.2.1 b.1.1).and (aEF h.2.2.2.2.2.1 h.2.2.2.2.2.2.1 h.2.2.2.2.2.2.2.1 h.2.2.2.2.2.2.2.2.1 h.2.2.2.2.2.2.2.2.2.1 h.2.2.2.2.2.2.2.2.2.2 b.2.1 b.2.2.1 b.2.2.2)).nm fun n ⟨d,f⟩=>by rw [axU,d,f];rfl
theorem acW {a b:af} {c d:ae} (h:HT) (x:dD) {A C:Option _} (s: ¬x.1=1) (t: ¬x.1=2) (q:km a b c d x.2.2.2.2.2≠â-> ¬x.2.2.2.1<=h.2.2.1->A=ã (fP h.2.2.1 h.2.2.2.1 h.2.2.2.2.1 x.2.2.2.1)) (r:km a b c d x.2.2.2.2.2≠â-> ¬x.2.2.2.1<=h.2.2.1->fP h.2.2.1 h.2.2.2.1 h.2.2.2.2.1 x.2.2.2.1=x.2.1->C=ã (x.2.2.2.1,x.2.1,h.2.2.2.2.1.drop (x.2.2.2.1-h.2.2.1).toNat)):
  ((ã (sQ (km a b c d x.2.2.2.2.2))).bind fun f=>(cond (!f.2.2.2.2.2.2) (ã å) (ã (á (x.2.2.2.1<=h.2.2.1)))).bind fun k:Bool=>cond k (ã (h.1,h.2.1,h.2.2.1,h.2.2.2.1,h.2.2.2.2.1,h.2.2.2.2.2.1,h.2.2.2.2.2.2.1,h.2.2.2.2.2.2.2.1,h.2.2.2.2.2.2.2.2.1,h.2.2.2.2.2.2.2.2.2.1,h.2.2.2.2.2.2.2.2.2.2)) (A.bind fun p:Int=>cond (p==x.2.1) (C.bind fun g:Int×(Int×aj)=>ã (h.1,h.2.1,g.1,g.2.1,g.2.2,f.1,f.2.1,f.2.2.1,f.2.2.2.1,f.2.2.2.2.1,f.2.2.2.2.2.1)) (ã (h.1,h.2.1,x.2.2.2.1,x.2.1,([]:aj),f.1,f.2.1,f.2.2.1,f.2.2.2.1,f.2.2.2.2.1,f.2.2.2.2.2.1))))=ã (hY a b c d h x):=by
 unfold hY;rw [if_neg s,if_neg t];cases hm:km a b c d x.2.2.2.2.2 with
 |none=>rfl
 |some m=>
  rw [hm]at q r;simp only [sQ,Z,Ä,ez];by_cases i:x.2.2.2.1<=h.2.2.1
  .rw [hC i,if_pos i];rfl
  .rw [hJ i,if_neg i,q Ż i]
   simp only [Z,ez,bW];by_cases j:fP h.2.2.1 h.2.2.2.1 h.2.2.2.2.1 x.2.2.2.1=x.2.1
   .rw [aA j,if_pos j,r Ż i j];rfl
   .rw [aw j,if_neg j];rfl
theorem acX {x:dD} (h:dQ x):x.1=1\/x.1=2\/x.1=3:=by
 rcases h.2.2.2.2 with k|k|k
 .exact .inl k.1
 .exact .inr (.inl k.1)
 .exact .inr (.inr k.1)
theorem aFG {a b:af} {c d:ae} (hp:fC a b c d) {h:HT} (k:fe a b c d h) {x:dD} (f:dQ x):W fun n=>KM n a b c d h.1 h.2.1 h.2.2.1 h.2.2.2.1 h.2.2.2.2.1 h.2.2.2.2.2.1 h.2.2.2.2.2.2.1 h.2.2.2.2.2.2.2.1 h.2.2.2.2.2.2.2.2.1 h.2.2.2.2.2.2.2.2.2.1 h.2.2.2.2.2.2.2.2.2.2 x.1 x.2.1 x.2.2.1 x.2.2.2.1 x.2.2.2.2.1 x.2.2.2.2.2=ã (hY a b c d h x):=by
 have g:=k.2.2.1;have i:=acP h.2.2.1 h.2.2.2.1 h.2.2.2.2.1 x.2.2.2.1 g.1 f.2.1;have j:W fun n=> ¬x.2.2.2.1<=h.2.2.1->fP h.2.2.1 h.2.2.2.1 h.2.2.2.2.1 x.2.2.2.1=x.2.1->Dc n h.2.2.1 h.2.2.2.1 h.2.2.2.2.1 x.2.2.2.1=ã (x.2.2.2.1,x.2.1,h.2.2.2.2.1.drop (x.2.2.2.1-h.2.2.1).toNat):=by
  by_cases q: ¬x.2.2.2.1<=h.2.2.1/\fP h.2.2.1 h.2.2.2.1 h.2.2.2.2.1 x.2.2.2.1=x.2.1
  .have:=Gg q.2 f.1.1
   refine(aFC h.2.2.1 h.2.2.2.1 h.2.2.2.2.1 x.2.2.2.1 g.1 f.2.1 ž this.2 g.2.2.1).mono fun n e _ _=> ?_
   rw [e,q.2]
  .exact W.of fun n q1 q2=>absurd ⟨q1,q2⟩ q
 refine(((aFA h.2.2.1 h.2.2.2.1 h.2.2.2.2.1 x.2.2.2.1 x.2.1 x.2.2.2.2.1 g f.2.1 f.1 f.2.2.1).and i).and (j.and (aFg a b c d x.2.2.2.2.2 hp Ĭ))).nm fun n ⟨⟨m,p⟩,r,s⟩=> ?_
 rw [arM];rcases acX f with q|q|q
 .rw [q,show((1:Int)==1)=å from rfl,Y,hY,if_pos q]
 .rw [q,show((2:Int)==1)=ä from rfl,show((2:Int)==2)=å from rfl,Y,ez,m,hY,if_neg ž,if_pos q,Z]
  unfold iI;split<;>rfl
 .rw [q,show((3:Int)==1)=ä from rfl,show((3:Int)==2)=ä from rfl,show((3:Int)==3)=å from rfl,Y,ez,ez,aX Ĭ,Y,s]
  exact acW h x ž ž (fun _ _=>p) fun _=>r
theorem aFH {a b:af} {c d:ae} (hp:fC a b c d) {h:HT} (k:fe a b c d h) {x:dD} (f:dQ x):W fun n=>KL n a b c d h.1 h.2.1 h.2.2.1 h.2.2.2.1 h.2.2.2.2.1 h.2.2.2.2.2.1 h.2.2.2.2.2.2.1 h.2.2.2.2.2.2.2.1 h.2.2.2.2.2.2.2.2.1 h.2.2.2.2.2.2.2.2.2.1 h.2.2.2.2.2.2.2.2.2.2 x.1 x.2.1 x.2.2.1 x.2.2.2.1 x.2.2.2.2.1 x.2.2.2.2.2=ã (mS a b c d h x):=by
 have g:gh x.2.2.2.2.1:=Gd (by have:=pd f;omega)
 refine(((PJ a b c d h hp k.sm).and (abU x g)).and ((aFE h k.sm).and ((aFG hp k f).and (PJ a b c d _ hp (acV k f))))).nm fun n ⟨⟨i,j⟩,m,p,q⟩=> ?_
 rw [arJ,i,aA k,j,aA f,m];simp only [Z,Ä,ez];rw [p];simp only [Z];rw [q,mS];cases bo (fe a b c d (hY a b c d h x))<;>rfl
theorem aFI {a b:af} {c d:ae} (hp:fC a b c d) {h:HT} (k:fe a b c d h) {x:dD} (f:dQ x):W fun n=>Mw n a b c d h.1 h.2.1 h.2.2.1 h.2.2.2.1 h.2.2.2.2.1 h.2.2.2.2.2.1 h.2.2.2.2.2.2.1 h.2.2.2.2.2.2.2.1 h.2.2.2.2.2.2.2.2.1 h.2.2.2.2.2.2.2.2.2.1 h.2.2.2.2.2.2.2.2.2.2 x.1 x.2.1 x.2.2.1 x.2.2.2.1 x.2.2.2.2.1 x.2.2.2.2.2=ã (mS a b c d h x):=by
 have i:=k.2.2.1;have j:gh x.2.2.2.2.1:=Gd (by have:=pd f;omega)
 have u:=PG h.2.2.1 h.2.2.2.1 h.2.2.2.2.1 x.2.2.2.1 i.1 i.2.2.1 f.2.1;have z:W fun n=> ¬x.2.2.2.1<=h.2.2.1->fP h.2.2.1 h.2.2.2.1 h.2.2.2.2.1 x.2.2.2.1=x.2.1->ED n h.2.2.1 h.2.2.2.1 h.2.2.2.2.1 x.2.2.2.1=ã (x.2.2.2.1,x.2.1,h.2.2.2.2.1.drop (x.2.2.2.1-h.2.2.1).toNat):=by
  by_cases q: ¬x.2.2.2.1<=h.2.2.1/\fP h.2.2.1 h.2.2.2.1 h.2.2.2.2.1 x.2.2.2.1=x.2.1
  .have:=Gg q.2 f.1.1
   refine(aFD h.2.2.1 h.2.2.2.1 h.2.2.2.2.1 x.2.2.2.1 i.1 f.2.1 ž this.2 i.2.2.1).mono fun n e _ _=> ?_
   rw [e,q.2]
  .exact W.of fun n q1 q2=>absurd ⟨q1,q2⟩ q
 have hS:W fun n=> ¬x.1=1-> ¬x.1=2->Mz n a b c d h.1 h.2.1 h.2.2.1 h.2.2.2.1 h.2.2.2.2.1 h.2.2.2.2.2.1 h.2.2.2.2.2.2.1 h.2.2.2.2.2.2.2.1 h.2.2.2.2.2.2.2.2.1 h.2.2.2.2.2.2.2.2.2.1 h.2.2.2.2.2.2.2.2.2.2 x.1 x.2.1 x.2.2.1 x.2.2.2.1 x.2.2.2.2.1 x.2.2.2.2.2=ã (hY a b c d h x):=(u.and (z.and (aFh a b c d x.2.2.2.2.2 hp Ĭ))).nm fun n ⟨m,p,r⟩ q1 q2=>by
  rw [axZ,aX Ĭ,Y,r]
  exact acW h x q1 q2 (fun _ _=>m) fun _=>p
 refine(((acT a b c d h hp k.sm).and (Pt x j)).and ((aFF h k.sm).and (((aFB h.2.2.1 h.2.2.2.1 h.2.2.2.2.1 x.2.2.2.1 x.2.1 x.2.2.2.2.1 i f.2.1 f.1 f.2.2.1).and hS).and (acT a b c d _ hp (acV k f))))).nm fun n ⟨⟨e1,m⟩,p,⟨r,e6⟩,g⟩=> ?_
 rw [axT,p];simp only [Z];rw [e1,aA k,m,aA f];simp only [Z,Ä,ez];rcases acX f with q|q|q
 .rw [q,show((1:Int)==1)=å from rfl,Y]
  unfold mS;have e:hY a b c d h x=(x.2.1,x.2.2.1,h.2.2):=by rw [hY,if_pos q]
  rw [e]at g |-;dsimp only at g
  rw [g];cases bo (fe a b c d (x.2.1,x.2.2.1,h.2.2))<;>rfl
 .rw [q,show((2:Int)==1)=ä from rfl,show((2:Int)==2)=å from rfl,Y,ez,r]
  unfold mS;have e:hY a b c d h x=(h.1,h.2.1,(iI h.2.2.1 h.2.2.2.1 h.2.2.2.2.1 x.2.2.2.1 x.2.1 x.2.2.2.2.1).1,(iI h.2.2.1 h.2.2.2.1 h.2.2.2.2.1 x.2.2.2.1 x.2.1 x.2.2.2.2.1).2.1,(iI h.2.2.1 h.2.2.2.1 h.2.2.2.2.1 x.2.2.2.1 x.2.1 x.2.2.2.2.1).2.2.1,h.2.2.2.2.2):=by rw [hY,if_neg ž,if_pos q]
  by_cases t:fP h.2.2.1 h.2.2.2.1 h.2.2.2.2.1 x.2.2.2.1=x.2.1/\jv h.2.2.1 h.2.2.2.1 (hU h.2.2.2.2.1 (x.2.2.2.1-h.2.2.1).toNat x.2.2.2.2.1)
  .have s:iI h.2.2.1 h.2.2.2.1 h.2.2.2.2.1 x.2.2.2.1 x.2.1 x.2.2.2.2.1=(h.2.2.1,h.2.2.2.1,hU h.2.2.2.2.1 (x.2.2.2.1-h.2.2.1).toNat x.2.2.2.2.1,å):=by unfold iI;rw [if_pos t]
   rw [s]at e |-;rw [e]at g |-;dsimp only [Z,Y]at g |-
   rw [g];cases bo (fe a b c d (h.1,h.2.1,h.2.2.1,h.2.2.2.1,hU h.2.2.2.2.1 (x.2.2.2.1-h.2.2.1).toNat x.2.2.2.2.1,h.2.2.2.2.2))<;>rfl
  .have s:iI h.2.2.1 h.2.2.2.1 h.2.2.2.2.1 x.2.2.2.1 x.2.1 x.2.2.2.2.1=(h.2.2.1,h.2.2.2.1,h.2.2.2.2.1,ä):=by unfold iI;rw [if_neg t]
   rw [s]at e |-;rw [show hY a b c d h x=h from e,aA k];dsimp only [Z,Y,ez]
 .rw [q,show((3:Int)==1)=ä from rfl,show((3:Int)==2)=ä from rfl,show((3:Int)==3)=å from rfl,Y,ez,ez,<-q,e6 ž ž]
  simp only [Z];rw [g,mS];cases bo (fe a b c d (hY a b c d h x))<;>rfl
noncomputable def acY (a:af) (c:ae):HT:=(0,-1,0,0,[],sO (à a) c)
theorem PL {a b:af} {c d:ae} (h:iT a b c d):fe a b c d (acY a c):=
 ⟨⟨ģ,Ă⟩,⟨by show(-1:Int)<= -1;omega,by show(-1:Int)<=4;omega⟩,⟨⟨ģ,Ă⟩,⟨ģ,Ă⟩,by show(0:Int)+((0:Nat):Int)<=300;omega,trivial⟩,ģ,aEA h⟩
noncomputable def vo (a b:af) (c d:ae) (f:O):HT:=(gK (à f) f).1.foldl (mS a b c d) (acY a c)
theorem acZ {a b:af} {c d:ae} (h:iT a b c d) (f:O):fe a b c d (vo a b c d f):=AX _ _ (PL h) fun _ x _ k=>PK k x
theorem aFJ {a b:af} {c d:ae} (hp:fC a b c d) (h:iT a b c d) (f:O) (hd:à f<=1048000):W fun n=>KD n a b c d f=ã (vo a b c d f):=by
 obtain⟨t,h2⟩:=PB (à f) f;have k:=AY (l:=(gK (à f) f).1) ž (mS a b c d) (fe a b c d) (PL h) (fun s x _ q=>PK q x) (r:=fun s=>(Ö (0,0,0,0,0,0,[],s):Sum (Int×Int×Int×Int×Int×Int×O×HT) HT)) (L:=fun n m i s=>CX n m s.1 s.2.1 s.2.2.1 s.2.2.2.1 s.2.2.2.2.1 s.2.2.2.2.2.1 s.2.2.2.2.2.2.1 s.2.2.2.2.2.2.2.1 s.2.2.2.2.2.2.2.2.1 s.2.2.2.2.2.2.2.2.2.1 s.2.2.2.2.2.2.2.2.2.2 a b c d 0 0 0 0 0 0 [] i (gK (à f) f).1) (fun s u i hi=>(aFH hp u (t _ (Æ hi))).mono fun n e m=>by
  rw [VB,aU hi,Y,hC ⟨ž,ž⟩,Y,ie hi,Z,e];rfl) (fun n m s=>by rw [VB,bM];rfl)
 have hN:W fun n=>KE n a b c d=ã (0,-1,0,0,sO (à a) c):=((NL a b c d hp).and (aEB a b c d h)).nm fun n ⟨g,j⟩=>by rw [aqZ,g,aA h,j];rfl
 refine((hN.and (aFy f hd)).and k).nm fun n ⟨⟨g,j⟩,p⟩=> ?_
 rw [aqY,g,Z,j,Z];have p:=congrArg (fun z=>z.bind fun y2=>aq y2 (fun z3=>ã (z3.2.2.2.2.2.2.2.1,z3.2.2.2.2.2.2.2.2.1,z3.2.2.2.2.2.2.2.2.2.1,z3.2.2.2.2.2.2.2.2.2.2.1,z3.2.2.2.2.2.2.2.2.2.2.2.1,z3.2.2.2.2.2.2.2.2.2.2.2.2.1,z3.2.2.2.2.2.2.2.2.2.2.2.2.2.1,z3.2.2.2.2.2.2.2.2.2.2.2.2.2.2.1,z3.2.2.2.2.2.2.2.2.2.2.2.2.2.2.2.1,z3.2.2.2.2.2.2.2.2.2.2.2.2.2.2.2.2.1,z3.2.2.2.2.2.2.2.2.2.2.2.2.2.2.2.2.2)) (fun w3=>ã w3)) p
 exact p
theorem aFK {a b:af} {c d:ae} (hp:fC a b c d) (h:iT a b c d) (f:O) (hd:à f<=1048000):W fun n=>Mp n a b c d f=ã (vo a b c d f):=by
 obtain⟨t,h2⟩:=PB (à f) f;have k:=AY (l:=(gK (à f) f).1) ž (mS a b c d) (fe a b c d) (PL h) (fun s x _ q=>PK q x) (r:=fun s=>(Ö (0,0,0,0,0,0,[],s):Sum (Int×Int×Int×Int×Int×Int×O×HT) HT)) (L:=fun n m i s=>Et n m s.1 s.2.1 s.2.2.1 s.2.2.2.1 s.2.2.2.2.1 s.2.2.2.2.2.1 s.2.2.2.2.2.2.1 s.2.2.2.2.2.2.2.1 s.2.2.2.2.2.2.2.2.1 s.2.2.2.2.2.2.2.2.2.1 s.2.2.2.2.2.2.2.2.2.2 a b c d 0 0 0 0 0 0 [] i (gK (à f) f).1 ((gK (à f) f).1.length:Int)) (fun s u i hi=>(aFI hp u (t _ (Æ hi))).mono fun n e m=>by
  rw [WO,aU hi,Y,hC ⟨ž,ž⟩,Y,ie hi,Z,e];rfl) (fun n m s=>by rw [WO,bM];rfl)
 have hN:W fun n=>Mq n a b c d=ã (0,-1,0,0,sO (à a) c):=((zg a b c d hp).and (aEC a b c d hp h)).nm fun n ⟨g,j⟩=>by rw [axH,g,aA h,j];rfl
 refine((hN.and (aFz f hd)).and k).nm fun n ⟨⟨g,j⟩,p⟩=> ?_
 rw [axG,g,Z,j,Z];have p:=congrArg (fun z=>z.bind fun y2=>aq y2 (fun z3=>ã (z3.2.2.2.2.2.2.2.1,z3.2.2.2.2.2.2.2.2.1,z3.2.2.2.2.2.2.2.2.2.1,z3.2.2.2.2.2.2.2.2.2.2.1,z3.2.2.2.2.2.2.2.2.2.2.2.1,z3.2.2.2.2.2.2.2.2.2.2.2.2.1,z3.2.2.2.2.2.2.2.2.2.2.2.2.2.1,z3.2.2.2.2.2.2.2.2.2.2.2.2.2.2.1,z3.2.2.2.2.2.2.2.2.2.2.2.2.2.2.2.1,z3.2.2.2.2.2.2.2.2.2.2.2.2.2.2.2.2.1,z3.2.2.2.2.2.2.2.2.2.2.2.2.2.2.2.2.2)) (fun w3=>ã w3)) p
 exact p
def mT (p:mJ):HT:=(p.2.1,p.2.2.1,p.2.2.2.1,p.2.2.2.2.1,p.2.2.2.2.2.1,p.2.2.2.2.2.2.1,p.2.2.2.2.2.2.2.1,p.2.2.2.2.2.2.2.2.1,p.2.2.2.2.2.2.2.2.2.1,p.2.2.2.2.2.2.2.2.2.2.1,p.2.2.2.2.2.2.2.2.2.2.2.1)
def nS (a b:af) (c d:ae) (p:mJ):Prop:=vo a b c d p.2.2.2.2.2.2.2.2.2.2.2.2.2.2.2.2.2.2.2.2.2.2.2.1=mT p
theorem adA (h b:HT):h=b↔h.1=b.1/\h.2.1=b.2.1/\h.2.2.1=b.2.2.1/\h.2.2.2.1=b.2.2.2.1/\h.2.2.2.2.1=b.2.2.2.2.1/\h.2.2.2.2.2=b.2.2.2.2.2:=by
 obtain⟨d,f,g,i,j,k⟩:=h;obtain⟨k1,k2,k3,m,p,q⟩:=b;simp only [Ο]
theorem aFL {a b:af} {c d:ae} (hp:fC a b c d) (h:iT a b c d) (p:mJ) (k:fe a b c d (mT p)) (hd:à p.2.2.2.2.2.2.2.2.2.2.2.2.2.2.2.2.2.2.2.2.2.2.2.1<=1048000):W fun n=>KC n a b c d p.1 p.2.1 p.2.2.1 p.2.2.2.1 p.2.2.2.2.1 p.2.2.2.2.2.1 p.2.2.2.2.2.2.1 p.2.2.2.2.2.2.2.1 p.2.2.2.2.2.2.2.2.1 p.2.2.2.2.2.2.2.2.2.1 p.2.2.2.2.2.2.2.2.2.2.1 p.2.2.2.2.2.2.2.2.2.2.2.1 p.2.2.2.2.2.2.2.2.2.2.2.2.1 p.2.2.2.2.2.2.2.2.2.2.2.2.2.1 p.2.2.2.2.2.2.2.2.2.2.2.2.2.2.1 p.2.2.2.2.2.2.2.2.2.2.2.2.2.2.2.1 p.2.2.2.2.2.2.2.2.2.2.2.2.2.2.2.2.1 p.2.2.2.2.2.2.2.2.2.2.2.2.2.2.2.2.2.1 p.2.2.2.2.2.2.2.2.2.2.2.2.2.2.2.2.2.2.1 p.2.2.2.2.2.2.2.2.2.2.2.2.2.2.2.2.2.2.2.1 p.2.2.2.2.2.2.2.2.2.2.2.2.2.2.2.2.2.2.2.2.1 p.2.2.2.2.2.2.2.2.2.2.2.2.2.2.2.2.2.2.2.2.2.1 p.2.2.2.2.2.2.2.2.2.2.2.2.2.2.2.2.2.2.2.2.2.2.1 p.2.2.2.2.2.2.2.2.2.2.2.2.2.2.2.2.2.2.2.2.2.2.2.1 p.2.2.2.2.2.2.2.2.2.2.2.2.2.2.2.2.2.2.2.2.2.2.2.2.1 p.2.2.2.2.2.2.2.2.2.2.2.2.2.2.2.2.2.2.2.2.2.2.2.2.2=ã (bo (nS a b c d p)):=by
 have q:=acZ h p.2.2.2.2.2.2.2.2.2.2.2.2.2.2.2.2.2.2.2.2.2.2.2.1;have j:=PJ a b c d (mT p) hp k.sm;have i:=aFJ hp h p.2.2.2.2.2.2.2.2.2.2.2.2.2.2.2.2.2.2.2.2.2.2.2.1 hd;unfold nS;generalize vo a b c d p.2.2.2.2.2.2.2.2.2.2.2.2.2.2.2.2.2.2.2.2.2.2.2.1=y at q i |-
 refine(j.and (i.and (((aFu y.2.2.2.2.1 p.2.2.2.2.2.1 q.sm.1.1).and (aEI q.ma k.ma)).nm (q:=fun n=>KS n y.1 y.2.1 y.2.2.1 y.2.2.2.1 y.2.2.2.2.1 y.2.2.2.2.2.1 y.2.2.2.2.2.2.1 y.2.2.2.2.2.2.2.1 y.2.2.2.2.2.2.2.2.1 y.2.2.2.2.2.2.2.2.2.1 y.2.2.2.2.2.2.2.2.2.2 p.2.1 p.2.2.1 p.2.2.2.1 p.2.2.2.2.1 p.2.2.2.2.2.1 p.2.2.2.2.2.2.1 p.2.2.2.2.2.2.2.1 p.2.2.2.2.2.2.2.2.1 p.2.2.2.2.2.2.2.2.2.1 p.2.2.2.2.2.2.2.2.2.2.1 p.2.2.2.2.2.2.2.2.2.2.2.1=ã (bo (y=mT p))) fun n ⟨f,g⟩=>by
  have g:CR n y.2.2.2.2.2.1 y.2.2.2.2.2.2.1 y.2.2.2.2.2.2.2.1 y.2.2.2.2.2.2.2.2.1 y.2.2.2.2.2.2.2.2.2.1 y.2.2.2.2.2.2.2.2.2.2 p.2.2.2.2.2.2.1 p.2.2.2.2.2.2.2.1 p.2.2.2.2.2.2.2.2.1 p.2.2.2.2.2.2.2.2.2.1 p.2.2.2.2.2.2.2.2.2.2.1 p.2.2.2.2.2.2.2.2.2.2.2.1=ã (bo (y.2.2.2.2.2=(mT p).2.2.2.2.2)):=g;rw [arW,f,g];simp only [Z,bW,gQ];exact ig (adA y (mT p)).symm))).nm fun n ⟨f,g,m⟩=> ?_
 have f:qh n a b c d p.2.1 p.2.2.1 p.2.2.2.1 p.2.2.2.2.1 p.2.2.2.2.2.1 p.2.2.2.2.2.2.1 p.2.2.2.2.2.2.2.1 p.2.2.2.2.2.2.2.2.1 p.2.2.2.2.2.2.2.2.2.1 p.2.2.2.2.2.2.2.2.2.2.1 p.2.2.2.2.2.2.2.2.2.2.2.1=ã (bo (fe a b c d (mT p))):=f;rw [aqX,f,aA k,g];simp only [Z,Y,m]
theorem aFM {a b:af} {c d:ae} (hp:fC a b c d) (h:iT a b c d) (p:mJ) (hd:à p.2.2.2.2.2.2.2.2.2.2.2.2.2.2.2.2.2.2.2.2.2.2.2.1<=1048000):W fun n=>Mn n a b c d p.1 p.2.1 p.2.2.1 p.2.2.2.1 p.2.2.2.2.1 p.2.2.2.2.2.1 p.2.2.2.2.2.2.1 p.2.2.2.2.2.2.2.1 p.2.2.2.2.2.2.2.2.1 p.2.2.2.2.2.2.2.2.2.1 p.2.2.2.2.2.2.2.2.2.2.1 p.2.2.2.2.2.2.2.2.2.2.2.1 p.2.2.2.2.2.2.2.2.2.2.2.2.1 p.2.2.2.2.2.2.2.2.2.2.2.2.2.1 p.2.2.2.2.2.2.2.2.2.2.2.2.2.2.1 p.2.2.2.2.2.2.2.2.2.2.2.2.2.2.2.1 p.2.2.2.2.2.2.2.2.2.2.2.2.2.2.2.2.1 p.2.2.2.2.2.2.2.2.2.2.2.2.2.2.2.2.2.1 p.2.2.2.2.2.2.2.2.2.2.2.2.2.2.2.2.2.2.1 p.2.2.2.2.2.2.2.2.2.2.2.2.2.2.2.2.2.2.2.1 p.2.2.2.2.2.2.2.2.2.2.2.2.2.2.2.2.2.2.2.2.1 p.2.2.2.2.2.2.2.2.2.2.2.2.2.2.2.2.2.2.2.2.2.1 p.2.2.2.2.2.2.2.2.2.2.2.2.2.2.2.2.2.2.2.2.2.2.1 p.2.2.2.2.2.2.2.2.2.2.2.2.2.2.2.2.2.2.2.2.2.2.2.1 p.2.2.2.2.2.2.2.2.2.2.2.2.2.2.2.2.2.2.2.2.2.2.2.2.1 p.2.2.2.2.2.2.2.2.2.2.2.2.2.2.2.2.2.2.2.2.2.2.2.2.2=ã (bo (nS a b c d p)):=by
 have q:=acZ h p.2.2.2.2.2.2.2.2.2.2.2.2.2.2.2.2.2.2.2.2.2.2.2.1;have i:=aFK hp h p.2.2.2.2.2.2.2.2.2.2.2.2.2.2.2.2.2.2.2.2.2.2.2.1 hd;unfold nS;generalize vo a b c d p.2.2.2.2.2.2.2.2.2.2.2.2.2.2.2.2.2.2.2.2.2.2.2.1=y at q i |-
 have j:W fun n=>MD n y.2.2.1 y.2.2.2.1 y.2.2.2.2.1 p.2.2.2.1 p.2.2.2.2.1 p.2.2.2.2.2.1=ã (bo (y.2.2.1=p.2.2.2.1/\y.2.2.2.1=p.2.2.2.2.1/\y.2.2.2.2.1=p.2.2.2.2.2.1)):=(aFt y.2.2.2.2.1 p.2.2.2.2.2.1 q.sm.1.1).nm fun n e=>by
  rw [ayF,e];simp only [Z,bW,gQ]
 refine(i.and ((j.and (aEO y.2.2.2.2.2 (mT p).2.2.2.2.2 q.sm.2.1 q.sm.2.2.1 q.sm.2.2.2)).nm (q:=fun n=>MC n y.1 y.2.1 y.2.2.1 y.2.2.2.1 y.2.2.2.2.1 y.2.2.2.2.2.1 y.2.2.2.2.2.2.1 y.2.2.2.2.2.2.2.1 y.2.2.2.2.2.2.2.2.1 y.2.2.2.2.2.2.2.2.2.1 y.2.2.2.2.2.2.2.2.2.2 p.2.1 p.2.2.1 p.2.2.2.1 p.2.2.2.2.1 p.2.2.2.2.2.1 p.2.2.2.2.2.2.1 p.2.2.2.2.2.2.2.1 p.2.2.2.2.2.2.2.2.1 p.2.2.2.2.2.2.2.2.2.1 p.2.2.2.2.2.2.2.2.2.2.1 p.2.2.2.2.2.2.2.2.2.2.2.1=ã (bo (y=mT p))) fun n ⟨k,g⟩=>by
  have g:Eo n y.2.2.2.2.2.1 y.2.2.2.2.2.2.1 y.2.2.2.2.2.2.2.1 y.2.2.2.2.2.2.2.2.1 y.2.2.2.2.2.2.2.2.2.1 y.2.2.2.2.2.2.2.2.2.2 p.2.2.2.2.2.2.1 p.2.2.2.2.2.2.2.1 p.2.2.2.2.2.2.2.2.1 p.2.2.2.2.2.2.2.2.2.1 p.2.2.2.2.2.2.2.2.2.2.1 p.2.2.2.2.2.2.2.2.2.2.2.1=ã (bo (y.2.2.2.2.2=(mT p).2.2.2.2.2)):=g;rw [ayE,k,g];simp only [Z,bW,gQ];refine ig ?_
  rw [adA];simp only [mT];exact⟨fun ⟨a,b,⟨c,d,e⟩,f⟩=>⟨a,b,c,d,e,f⟩,fun⟨a,b,c,d,e,f⟩=>⟨a,b,⟨c,d,e⟩,f⟩⟩)).nm fun n ⟨g,m⟩=> ?_
 rw [axF,g];simp only [Z,m]
theorem aFN (j:af) (q:af) (s:ae) (t:ae) (u:Int) (g:ck) (z:bp) (x7:Int) (x8:O) (x9:ag) (d:ag) (f:ae) (h:zi j q s t u g z x7 x8 x9 d f):W fun n=>KB n j q s t u g z x7 x8 x9 d f=ã (bo (nG j q s t u g z x7 x8 x9 d f/\ ∀p∈g,nS j q s t p)):=by
 have hw:=aBT j q s t u g z x7 x8 x9 d f h;obtain⟨hp,⟨h5, -⟩, -⟩:=h;by_cases hg:nG j q s t u g z x7 x8 x9 d f
 .have h4:(à g:Int)=u:=hg.2.2.1
  have k:=lA h5 (p:=nS j q s t) (r:=false) (b:=()) (L:=fun n m i=>xZ n m j q s t u g z x7 x8 x9 d f i) ((W.lt (len:=à g) fun i hi=>by
   obtain⟨-,ak⟩:=hg.2.2.2.2.2.2.2.2.1 i hi hi;exact aFL hp hg.1 g[i] ak.2.2.1 Ć).mono fun n e m i hi=>by
   rw [VA,hC (show (i:Int)<u by omega),bB hi,Y,Z,e i hi,Z]
   cases bo (nS j q s t g[i])<;>rfl) (fun n m=>by rw [VA,hJ ž];rfl)
  refine(hw.and k).nm fun n ⟨e,e1⟩=> ?_
  rw [Vz,e,aA hg];simp only [Z,Ä,ez,show xZ n n j q s t u g z x7 x8 x9 d f 0=_ from e1,fT,kJ];exact ig ⟨fun k=>⟨hg,k⟩,fun k=>k.2⟩
 .refine hw.nm fun n e=> ?_
  rw [Vz,e,aw hg,aw (fun k=>hg k.1)];rfl
theorem aFO (j:af) (q:af) (s:ae) (t:ae) (u:Int) (d:ck) (z:bp) (x7:Int) (x8:O) (x9:ag) (f:ag) (g:ae) (h:zi j q s t u d z x7 x8 x9 f g):W fun n=>Mm n j q s t u d z x7 x8 x9 f g=ã (bo (nG j q s t u d z x7 x8 x9 f g/\ ∀p∈d,nS j q s t p)):=by
 have hw:=aBU j q s t u d z x7 x8 x9 f g h;obtain⟨hp,⟨h5, -⟩, -⟩:=h;by_cases hg:nG j q s t u d z x7 x8 x9 f g
 .have k:=lA h5 (p:=nS j q s t) (r:=false) (b:=()) (L:=fun n m i=>yG n m j q s t u d z x7 x8 x9 f g i d (à d)) ((W.lt (len:=à d) fun i hi=>by
   obtain⟨-,ak⟩:=hg.2.2.2.2.2.2.2.2.1 i hi hi;exact aFM hp hg.1 d[i] Ć).mono fun n e m i hi=>by
   rw [WN,aU hi,bB hi,Y,Z,e i hi,Z];cases bo (nS j q s t d[i])<;>rfl) (fun n m=>by rw [WN,bM];rfl)
  refine(hw.and k).nm fun n ⟨e,e1⟩=> ?_
  rw [WM,e,aA hg];simp only [Z,Ä,ez,show yG n n j q s t u d z x7 x8 x9 f g 0 d (à d)=_ from e1,fT,kJ];exact ig ⟨fun k=>⟨hg,k⟩,fun k=>k.2⟩
 .refine hw.nm fun n e=> ?_
  rw [WM,e,aw hg,aw (fun k=>hg k.1)];rfl
end Go.Proofs.YtfledcdkafkgaaaGreatDoor
