/- Texts of the law, part 2. -/
import Derived.Test.YtfpfjmahdneehaaGreatDoorTxt1
import Derived.Test.YtfpfjmahdneehaaGreatDoorEv4
open List renaming length_append->À,getElem?_eq_getElem->Ä,mem_singleton->Å,getD_eq_getElem?_getD->Æ,getElem_mem->Ç,mem_append->É,replicate->Ê,append_assoc->Ë,drop_zero->Í,eq_nil_of_length_eq_zero->Î,length_cons->Ï,mem_append_left->Ð,append_nil->Ñ,drop_eq_getElem_cons->Ò,drop_of_length_le->Ó,length_singleton->Õ,getElem?_eq_some_iff->Ö,length_set->Ù,mem_of_mem_take->Ú,mem_cons->Û,length_take->Ü,drop_eq_nil_iff->Ý,mem_of_mem_drop->Þ,pairwise_iff_getElem->ß,mem_or_eq_of_mem_set->à,nil_append->á,findIdx?_eq_some_iff_getElem->â,dropLast_sublist->ä,mem_iff_getElem->ç,length_nil->é,eq_of_mem_replicate->î,all_cons->ï,getElem?_replicate->ñ,length_drop->ò,length_eq_one_iff->ó,take_of_length_le->ô,range->õ,all_nil->ö,eq_nil_or_concat->ø,concat_eq_append->ù,length_replicate->ú,getElem?_eq_none->ü,pairwise_append->ý,filter_cons->ā,filter_nil->ă,mem_range->Ć,length->ċ
open Go.IntKind renaming wrap_i64->Á,wrap_u8->ą,wrap->Ċ
open Int renaming reduceBEq->Â,toNat_natCast->Ã,toNat->Ì,ofNat->Ā,tdiv->Ď,tmod->ď
open Bool renaming not_true->È,not_eq_true->å,and_eq_true->æ,or_eq_true_iff->ê,not_false->ë,and_true->ð,and_self->ć
open Nat renaming ble_eq_true_of_le->Ô,mul_le_mul_right->è,ble->þ,le_max_left->Ă,not_lt_zero->Ą,beq_refl->ĉ
open Classical renaming byContradiction->Ø,choose_spec->û,axiomOfChoice->Ĉ,choose->Č
open Prod renaming ext->ã
open Option.some renaming injEq->ì,inj->č
open List.cons renaming inj->í
open Sum renaming inl->ÿ,inr->Đ
open Go.IntKind
namespace Go.Proofs.YtfpfjmahdneehaaGreatDoor
open Go Go.Ev
def rn (S:Tr->Nat->List Pl) (ks:List Tr) (b:Nat):Nat:=b+(dG S 0 ks.dropLast b).length
def La (S:Tr->Nat->List Pl) (ks:List Tr) (z:Tr) (b:Nat):Nat:=rn S ks b+(S z (rn S ks b)).length
def rp (S:Tr->Nat->List Pl) (ks:List Tr) (z:Tr) (b:Nat):List Pl:=dG S (La S ks z b:Int) ks.dropLast b++S z (rn S ks b)
theorem aEo {S:Tr->Nat->List Pl} {z:List Pl} {J:List Int} {e:Nat} (b:J.length<=1048576) (n:Nat) (r:List Tr) (m:Nat) (l:List Pl) (f:J=il S r l.length) (hm:r.length<m) (he:(l++(dG S 0 r l.length++z)).length=e):
  pc n m 0 (l++(dG S 0 r l.length++z)) J=some (.inl (l++(dG S (e:Int) r l.length++z))):=by
 refine KZ (S:=S) (z:=z) (J:=J) (e:=e) (L:=fun m i l=>pc n m i l J) b (fun m i l j x g hi hj=> ?_) (fun m i l hi=> ?_) r 0 m l (by rw [Í];exact f) hm he
 .show pc n (m+1) (i:Int) l J=pc n m ((i+1:Nat):Int) _ J
  obtain⟨d, -⟩:=Ö.1 hi
  obtain⟨k, -⟩:=Ö.1 hj
  have h:aN J (Ì (i:Int))=some (j:Int):=by rw [Ã];exact hi
  have a2:aN l (Ì (j:Int))=some x:=by rw [Ã];exact hj
  rw [RQ,bk d,Y,hJ (by omega),Y,h,Z,hJ (by omega),Y,a2,Z,dq d (by omega),g,Ã]
 .show pc n (m+1) (i:Int) l J=_
  rw [RQ,hL (by omega),ez]
theorem aEp {S:Tr->Nat->List Pl} {z:List Pl} {J:List Int} {e:Nat} (b:J.length<=1048576) (n:Nat) (r:List Tr) (m:Nat) (l:List Pl) (f:J=il S r l.length) (hm:r.length<m) (he:(l++(dG S 0 r l.length++z)).length=e):
  pj n m 0 (l++(dG S 0 r l.length++z)) J (J.length:Int)=some (.inl (l++(dG S (e:Int) r l.length++z))):=by
 refine KZ (S:=S) (z:=z) (J:=J) (e:=e) (L:=fun m i l=>pj n m i l J (J.length:Int)) b (fun m i l j x g hi hj=> ?_) (fun m i l hi=> ?_) r 0 m l (by rw [Í];exact f) hm he
 .show pj n (m+1) (i:Int) l J (J.length:Int)=pj n m ((i+1:Nat):Int) _ J (J.length:Int)
  obtain⟨d, -⟩:=Ö.1 hi
  obtain⟨k, -⟩:=Ö.1 hj
  have h:aN J (Ì (i:Int))=some (j:Int):=by rw [Ã];exact hi
  have a2:aN l (Ì (j:Int))=some x:=by rw [Ã];exact hj
  rw [SR,bk d,Y,hJ (by omega),Y,h,Z,hJ (by omega),Y,a2,Z,dq d (by omega),g,Ã]
 .show pj n (m+1) (i:Int) l J (J.length:Int)=_
  rw [SR,hL (by omega),ez]
theorem Wi {S:Tr->Nat->List Pl}: ∀(r:List Tr) (b:Nat),(il S r b).length=r.length
 | [],_=>rfl
 |k::r,b=>by rw [il,Ï,Ï,Wi r]
theorem Lb: ∀(a b:List Tr),cA (a++b)=cA a+cA b
 | [],b=>by simp [cA]
 |k::a,b=>by rw [List.cons_append,cA,cA,Lb a b];omega
theorem aEq {S:Tr->Nat->List Pl} {ks:List Tr} {z:Tr} (b:ks=ks.dropLast++[z]) (h: ∀k∈ks,ju k (S k)) (hl:ks.length<=1048575) (l:List Pl) (hz:l.length+6*cA ks+6<=1000000):
  (W fun n=>Hy n l ks=some (l++rp S ks z l.length))/\(W fun n=>IQ n l ks=some (l++rp S ks z l.length)):=by
 have q:ks≠ []:=by rw [b];simp
 have hlen:ks.length=ks.dropLast.length+1:=by
  conv=>lhs;rw [b]
  simp
 have ae:cA ks=cA ks.dropLast+ef z:=by
  conv=>lhs;rw [b]
  rw [Lb,qA]
 have d: ∀k∈ks.dropLast,ju k (S k):=fun k hk=>h k ((ä _).subset hk)
 have i:ju z (S z):=h z (by rw [b];simp)
 have hb:=KY (S:=S) (e:=0) ks.dropLast l.length d;have af:=i.1 (rn S ks l.length);have u:(l++dG S 0 ks.dropLast l.length).length=rn S ks l.length:=by rw [À];rfl
 have f:=i.2 (l++dG S 0 ks.dropLast l.length) (by rw [À];omega)
 rw [u]at f;have g:ks[ks.length-1]'(by omega)=z:=by
  rw [<-List.getLast_eq_getElem q];have:ks.getLast? =some z:=by rw [b];simp
  rw [List.getLast?_eq_some_getLast q]at this
  exact č this
 have hw:wrap .i64 ((ks.length:Int)-1)=((ks.length-1:Nat):Int):=by rw [Á];omega
 have j:fR ks (wrap .i64 ((ks.length:Int)-1))=some (aF z):=by rw [hw,mE (by omega),g]
 have m:(il S ks.dropLast l.length).length<=1048576:=by rw [Wi];omega
 have hE:(l++(dG S 0 ks.dropLast l.length++S z (rn S ks l.length))).length=La S ks z l.length:=by
  rw [<-Ë,À,u];rfl
 constructor
 .have p:=Wg (S:=S) (by omega) q ks.dropLast 0 l [] (by rw [Í]) (by omega) d (by omega) (by simp;omega)
  refine((p.and f.1).and (W.ge (ks.length+1))).nm fun n ⟨⟨r,s⟩,e3⟩=> ?_
  rw [auB,show(0:Int)=((0:Nat):Int)from rfl,r n (by omega),Z,cR]
  dsimp only
  rw [j,Z,s,Z,Ë,show((0:Nat):Int)=0 from rfl,aEo (S:=S) (by simpa using m) n ks.dropLast n l (by simp) (by omega) hE,Z,cR]
  rfl
 .have t:(ks.drop 0).take (Ì (wrap .i64 ((ks.length:Int)-1))-0)=ks.dropLast:=by
   rw [hw,Ã,Í,Nat.sub_zero,List.dropLast_eq_take]
  have p:=Wh (S:=S) (ks:=ks.dropLast) (by omega) ks ks.dropLast 0 l [] (by rw [Í]) (by omega) d (by omega) (by simp;omega)
  refine((p.and f.2).and (W.ge (ks.length+1))).nm fun n ⟨⟨r,s⟩,e3⟩=> ?_
  rw [azB,t,hw,hJ (by omega),Y,show(0:Int)=((0:Nat):Int)from rfl,r n (by omega),Z,cR]
  dsimp only
  rw [j,Z,s,Z,Ë,show((0:Nat):Int)=0 from rfl,aEp (S:=S) (by simpa using m) n ks.dropLast n l (by simp) (by omega) hE,Z,cR]
  rfl
def Sh (S:Nat->List Pl):Prop:= ∀b,∀p∈S b,p.2.2.1.length<=256
theorem mO (o a b:Int):(pl o a b).2.2.1.length<=256:=by simp [pl]
theorem Wj {S:Tr->Nat->List Pl}: ∀(ks:List Tr) (b:Nat),(∀k∈ks,Sh (S k))-> ∀p∈jt S ks b,p.2.2.1.length<=256
 | [],b,h,p,hp=>by cases hp
 |k::r,b,h,p,hp=>by
  rw [jt]at hp;rcases É.1 hp with hp|hp
  .exact h k (by simp) _ p hp
  .exact Wj r _ (fun k hk=>h k (by simp [hk])) p hp
theorem Wk {S:Tr->Nat->List Pl} {e:Int}: ∀(ks:List Tr) (b:Nat),(∀k∈ks,Sh (S k))-> ∀p∈dG S e ks b,p.2.2.1.length<=256
 | [],b,h,p,hp=>by cases hp
 |k::r,b,h,p,hp=>by
  rw [dG]at hp;rcases Û.1 hp with rfl|hp
  .exact mO _ _ _
  rcases É.1 hp with hp|hp
  .exact h k (by simp) _ p hp
  rcases Û.1 hp with rfl|hp
  .exact mO _ _ _
  .exact Wk r _ (fun k hk=>h k (by simp [hk])) p hp
theorem xv {t:Tr} {p:Pl} (d:ef t=1) (f: ∀n (l:List Pl),l.length<=1000000->mA (n+2) l (aF t).1 (aF t).2.1 (aF t).2.2.1 (aF t).2.2.2.1 (aF t).2.2.2.2=some (l++[p]))
  (g: ∀n (l:List Pl),l.length<=1000000->jQ (n+2) l (aF t).1 (aF t).2.1 (aF t).2.2.1 (aF t).2.2.2.1 (aF t).2.2.2.2=some (l++[p])):ju t (fun _=>[p]):=by
 refine⟨fun b=>by simp [d],fun l h=>⟨W.succ (W.succ (W.of fun n=>f n l (by omega))),W.succ (W.succ (W.of fun n=>g n l (by omega)))⟩⟩
theorem aEr {t:Tr} (h:fP t) (ay:ia t): ∃S,ju t S/\Sh S:=by
 induction h with
 |mk h k ih=>
  rename_i t;obtain⟨hl,hk⟩:=ay;obtain⟨S,ak⟩: ∃S:Tr->Nat->List Pl,∀x,x∈dO t->ju x (S x)/\Sh (S x):=by
   have key: ∀x:Tr,∃s:Nat->List Pl,x∈dO t->ju x s/\Sh s:=fun x=>by
    by_cases hx:x∈dO t
    .obtain⟨s,hs⟩:=ih x hx (hk x hx)
     exact⟨s,fun _=>hs⟩
    .exact⟨fun _=>[],fun c=>absurd c hx⟩
   obtain⟨S,hS⟩:=Ĉ key;exact⟨S,hS⟩
  have hS: ∀x,x∈dO t->ju x (S x):=fun x hx=>(ak x hx).1
  have af: ∀x,x∈dO t->Sh (S x):=fun x hx=>(ak x hx).2
  clear ih hk k ak;obtain⟨⟨o,c,s,neg⟩,ks⟩:=t;have az:dO (.mk (o,c,s,neg) ks)=ks:=rfl;rw [az]at hl hS af h;have d:ef (.mk (o,c,s,neg) ks)=1+cA ks:=by rw [ef]
  have f:aF (.mk (o,c,s,neg) ks)=(o,c,s,neg,ks):=rfl;rw [f]at h;dsimp only at h
  have a6: ∀ai:1<=ks.length,∀hc:ks.length=1,∃z,ks=[z]:=fun _ hc=>ó.1 hc
  rcases h with⟨rfl,a,b,rfl,rfl,h0⟩|⟨rfl,rfl,au,h0⟩|⟨ho,rfl,rfl,rfl,aj⟩|⟨ho,rfl,rfl,rfl,aj⟩|⟨ho,rfl,rfl,rfl,h0⟩
  .have:=Î h0;subst this
   refine⟨_,xv (p:=(1,c,[],false,0,0)) (by rw [d,cA]) (fun n l hl=> ?_) (fun n l hl=> ?_),fun b p hp=>by rw [Å.1 hp];simp⟩
   .rw [lv,bS (by omega)];rfl
   .rw [lA,bS (by omega)];rfl
  .have:=Î h0;subst this
   refine⟨_,xv (p:=(3,0,s,neg,0,0)) (by rw [d,cA]) (fun n l hl=> ?_) (fun n l hl=> ?_),fun b p hp=>by rw [Å.1 hp];exact KV au.2.1⟩
   .rw [lv,bS (by omega)];rfl
   .rw [lA,bS (by omega)];rfl
  .rcases ho with rfl|rfl
   .refine⟨fun b=>jt S ks b,⟨fun b=>(by have:=Wc ks b hS;rw [d];show(jt S ks b).length+2<=_;omega),fun l hz=>⟨?_, ?_⟩⟩,fun b=>Wj ks b af⟩
    .rw [d]at hz
     refine((Wd (S:=S) (o:=6) (c:=0) (s:=[]) (neg:=false) (ks:=ks) (by omega) ks 0 l (by rw [Í]) (by omega) hS (by omega)).and (W.ge (ks.length+1))).nm fun n ⟨r,q⟩=> ?_
     rw [lv,f];have r:=r n (by omega)
     simp only [Â,Y,ez];rw [show (0:Int)=((0:Nat):Int)from rfl]at*;rw [r];rfl
    .rw [d]at hz
     refine((We (S:=S) (ks:=ks) (by omega) ks 0 l (by rw [Í]) (by omega) hS (by omega)).and (W.ge (ks.length+1))).nm fun n ⟨r,q⟩=> ?_
     rw [lA,f];have r:=r n (by omega)
     simp only [Â,Y,ez];rw [show (0:Int)=((0:Nat):Int)from rfl]at*;rw [r];rfl
   .have ai:ks≠ []:=fun e=>by rw [e]at aj;simp at aj
    have hd:ks=ks.dropLast++[ks.getLast ai]:=(List.dropLast_concat_getLast ai).symm;generalize ks.getLast ai=z at hd
    refine⟨fun b=>rp S ks z b,⟨fun b=> ?_,fun l hz=> ?_⟩,fun b p hp=> ?_⟩
    .have h1:=KY (S:=S) (e:=(La S ks z b:Int)) ks.dropLast b (fun k hk=>hS k ((ä _).subset hk))
     have h2:=(hS z (by rw [hd];simp)).1 (rn S ks b)
     have h3:cA ks=cA ks.dropLast+ef z:=by
      conv=>lhs;rw [hd]
      rw [Lb,qA]
     show(rp S ks z b).length+2<=_;rw [rp,À,d];omega
    .rw [d]at hz
     obtain⟨p1,p2⟩:=aEq (S:=S) (ks:=ks) (z:=z) hd hS (by omega) l (by omega)
     constructor
     .refine p1.nm fun n r=> ?_
      rw [lv,f];simp only [Â,Y,ez,r,Z]
     .refine p2.nm fun n r=> ?_
      rw [lA,f];simp only [Â,Y,ez,r,Z]
    .have hp:p∈rp S ks z b:=hp
     rw [rp]at hp;rcases É.1 hp with hp|hp
     .exact Wk _ _ (fun k hk=>af k ((ä _).subset hk)) p hp
     .exact af z (by rw [hd];simp) _ p hp
  .obtain⟨z,rfl⟩:=ó.1 aj
   have m:=hS z (by simp)
   have ao:=af z (by simp)
   have u:fR [z] (0:Int)=some (aF z):=mE (ks:=[z]) (i:=0) (by simp)
   rw [qA]at d;rcases ho with rfl|rfl|rfl
   .refine⟨fun b=>pl 7 ((b+1:Nat):Int) ((b+2+(S z (b+1)).length:Nat):Int)::(S z (b+1)++[pl 6 (b:Int) 0]),⟨fun b=> ?_,fun l hz=> ?_⟩,fun b p hp=>(by
    rcases Û.1 hp with rfl|hp
    .exact mO _ _ _
    rcases É.1 hp with hp|hp
    .exact ao _ p hp
    .rw [Å.1 hp];exact mO _ _ _)⟩
    .have:=m.1 (b+1)
     rw [d];simp;omega
    .rw [d]at hz
     have hb:=m.1 (l.length+1);obtain⟨s,hs⟩: ∃s,s=S z (l.length+1):=⟨_,rfl⟩
     dsimp only
     rw [<-hs]at hb |-;constructor
     .have p1:=xu l 7 (by omega)
      have g:=(m.2 (l++[pl 7 0 0]) (by simp;omega)).1
      rw [show (l++[pl 7 0 0]).length=l.length+1 by simp,<-hs]at g
      have hr:l++[pl 7 0 0]++s++[((6:Int),(0:Int),([]:O),false,(l.length:Int),(0:Int))]=l++pl 7 0 0::(s++[pl 6 (l.length:Int) 0]):=by simp [pl]
      have hlen:(l++[pl 7 0 0]++s).length=l.length+1+s.length:=by simp;omega
      have j:((l++((pl 7 0 0).1,(pl 7 0 0).2.1,(pl 7 0 0).2.2.1,(pl 7 0 0).2.2.2.1,((l.length+1:Nat):Int),(pl 7 0 0).2.2.2.2.2)::(s++[pl 6 (l.length:Int) 0])).length:Int)=((l.length+2+s.length:Nat):Int):=by simp;omega
      refine(p1.and g).nm fun n ⟨r,q⟩=> ?_
      rw [lv,f];simp only [Â,Y,ez];rw [r,Z,u,Z,q,Z,hlen,bS (by omega),Y,hr,nP,Y,Ã,jU,Z,mN,nP,Y,jU,Z,mN,jS (by omega),j]
      rfl
     .have g:=(m.2 (l++[pl 7 ((l.length+1:Nat):Int) 0]) (by simp;omega)).2
      rw [show (l++[pl 7 ((l.length+1:Nat):Int) 0]).length=l.length+1 by simp,<-hs]at g
      have hr:l++[pl 7 ((l.length+1:Nat):Int) 0]++s++[((6:Int),(0:Int),([]:O),false,(l.length:Int),(0:Int))]=l++pl 7 ((l.length+1:Nat):Int) 0::(s++[pl 6 (l.length:Int) 0]):=by simp [pl]
      have hlen:(l++[pl 7 ((l.length+1:Nat):Int) 0]++s).length=l.length+1+s.length:=by simp;omega
      have j:((l++pl 7 ((l.length+1:Nat):Int) 0::(s++[pl 6 (l.length:Int) 0])).length:Int)=((l.length+2+s.length:Nat):Int):=by simp;omega
      refine g.nm fun n q=> ?_
      have q:jQ n (l++[((7:Int),(0:Int),([]:O),false,((l.length+1:Nat):Int),(0:Int))]) (aF z).1 (aF z).2.1 (aF z).2.2.1 (aF z).2.2.2.1 (aF z).2.2.2.2=some (l++[pl 7 ((l.length+1:Nat):Int) 0]++s):=q;rw [lA,f];simp only [Â,Y,ez];rw [bS (by omega),Y,u,Z,jS (by omega),q,Z,hlen,bS (by omega),Y,hr,nP,Y,Ã,jU,Z,mN,j]
      rfl
   .refine⟨fun b=>S z b++[pl 7 (b:Int) ((b+(S z b).length+1:Nat):Int)],⟨fun b=> ?_,fun l hz=> ?_⟩,fun b p hp=>(by
    rcases É.1 hp with hp|hp
    .exact ao _ p hp
    .rw [Å.1 hp];exact mO _ _ _)⟩
    .have:=m.1 b
     rw [d];simp;omega
    .rw [d]at hz
     have hb:=m.1 l.length;have g:=m.2 l (by omega)
     obtain⟨s,hs⟩: ∃s,s=S z l.length:=⟨_,rfl⟩
     dsimp only
     rw [<-hs]at hb g |-;have hlen:(l++s).length=l.length+s.length:=by simp
     constructor
     .refine g.1.nm fun n q=> ?_
      rw [lv,f];simp only [Â,Y,ez];rw [u,Z,q,Z,hlen,bS (by omega),Y,jS (by omega),Ë]
      rfl
     .refine g.2.nm fun n q=> ?_
      rw [lA,f];simp only [Â,Y,ez];rw [u,Z,q,Z,hlen,bS (by omega),Y,jS (by omega),Ë]
      rfl
   .refine⟨fun b=>pl 7 ((b+1:Nat):Int) ((b+1+(S z (b+1)).length:Nat):Int)::S z (b+1),⟨fun b=> ?_,fun l hz=> ?_⟩,fun b p hp=>(by
    rcases Û.1 hp with rfl|hp
    .exact mO _ _ _
    .exact ao _ p hp)⟩
    .have:=m.1 (b+1)
     rw [d];simp;omega
    .rw [d]at hz
     have hb:=m.1 (l.length+1);obtain⟨s,hs⟩: ∃s,s=S z (l.length+1):=⟨_,rfl⟩
     dsimp only
     rw [<-hs]at hb |-;constructor
     .have p1:=xu l 7 (by omega)
      have g:=(m.2 (l++[pl 7 0 0]) (by simp;omega)).1
      rw [show (l++[pl 7 0 0]).length=l.length+1 by simp,<-hs]at g
      have hr:l++[pl 7 0 0]++s=l++pl 7 0 0::s:=by simp
      have j:((l++((pl 7 0 0).1,(pl 7 0 0).2.1,(pl 7 0 0).2.2.1,(pl 7 0 0).2.2.2.1,((l.length+1:Nat):Int),(pl 7 0 0).2.2.2.2.2)::s).length:Int)=((l.length+1+s.length:Nat):Int):=by simp;omega
      refine(p1.and g).nm fun n ⟨r,q⟩=> ?_
      rw [lv,f];simp only [Â,Y,ez];rw [r,Z,u,Z,q,Z,hr,nP,Y,Ã,jU,Z,mN,nP,Y,jU,Z,mN,jS (by omega),j]
      rfl
     .have g:=(m.2 (l++[pl 7 ((l.length+1:Nat):Int) 0]) (by simp;omega)).2
      rw [show (l++[pl 7 ((l.length+1:Nat):Int) 0]).length=l.length+1 by simp,<-hs]at g
      have hr:l++[pl 7 ((l.length+1:Nat):Int) 0]++s=l++pl 7 ((l.length+1:Nat):Int) 0::s:=by simp
      have j:((l++pl 7 ((l.length+1:Nat):Int) 0::s).length:Int)=((l.length+1+s.length:Nat):Int):=by simp;omega
      refine g.nm fun n q=> ?_
      have q:jQ n (l++[((7:Int),(0:Int),([]:O),false,((l.length+1:Nat):Int),(0:Int))]) (aF z).1 (aF z).2.1 (aF z).2.2.1 (aF z).2.2.2.1 (aF z).2.2.2.2=some (l++[pl 7 ((l.length+1:Nat):Int) 0]++s):=q;rw [lA,f];simp only [Â,Y,ez];rw [bS (by omega),Y,u,Z,jS (by omega),q,Z,hr,nP,Y,Ã,jU,Z,mN,j]
      rfl
  .have:=Î h0;subst this
   rcases ho with rfl|rfl|rfl|rfl
   .refine⟨_,xv (p:=pl 2 0 0) (by rw [d,cA]) (fun n l hl=> ?_) (fun n l hl=> ?_),fun b p hp=>by rw [Å.1 hp];exact mO _ _ _⟩
    .rw [lv,f]
     simp only [Â,Y,ez];rw [Cj,bS (by omega)];rfl
    .rw [lA,bS (by omega)];rfl
   .refine⟨_,xv (p:=pl 4 0 0) (by rw [d,cA]) (fun n l hl=> ?_) (fun n l hl=> ?_),fun b p hp=>by rw [Å.1 hp];exact mO _ _ _⟩
    .rw [lv,f]
     simp only [Â,Y,ez];rw [Cj,bS (by omega)];rfl
    .rw [lA,bS (by omega)];rfl
   .refine⟨_,xv (p:=pl 5 0 0) (by rw [d,cA]) (fun n l hl=> ?_) (fun n l hl=> ?_),fun b p hp=>by rw [Å.1 hp];exact mO _ _ _⟩
    .rw [lv,f]
     simp only [Â,Y,ez];rw [Cj,bS (by omega)];rfl
    .rw [lA,bS (by omega)];rfl
   .refine⟨fun _=>[],⟨fun b=>(by rw [d];simp;omega),fun l hz=>⟨W.succ (W.of fun n=> ?_),W.succ (W.of fun n=> ?_)⟩⟩,fun b p hp=>by cases hp⟩
    .rw [lv,f,Ñ];rfl
    .rw [lA,f,Ñ];rfl
def iV (p:Pl) (n:Int) (last:Prop):Prop:=
 (last↔p.1=8)/\(p.1≠1->p.2.1=0)/\(p.1≠3->p.2.2.1=[]/\p.2.2.2.1=false)/\
 ((p.1=6/\In p.2.2.2.2.1 0 (n-1)/\p.2.2.2.2.2=0)\/(p.1=7/\In p.2.2.2.2.1 0 (n-1)/\In p.2.2.2.2.2 0 (n-1))\/(p.1=1/\In p.2.1 0 255/\p.2.2.2.2.1=0/\p.2.2.2.2.2=0)\/
  ((p.1=2\/p.1=3\/p.1=4\/p.1=5\/p.1=8)/\p.2.2.2.2.1=0/\p.2.2.2.2.2=0))
theorem aEs:W fun n=> ∀x lo hi:Int,cT n x lo hi=some (bo (In x lo hi)):=W.succ (W.of fun n x lo hi=>by
 obtain⟨N,h⟩:=di x lo hi;rw [<-h (max N (n+1)) (Ă _ _)];obtain⟨q,b⟩: ∃q,max N (n+1)=q+1:=⟨max N (n+1)-1,by omega⟩
 rw [b,pq,pq])
def pG (p:Pl) (n:Int):Prop:=
 In p.1 1 8/\((In p.2.1 0 255/\p.1=1)\/p.2.1=0)/\(p.1=3\/(p.2.2.1=[]/\p.2.2.2.1=false))/\
 (((p.1=6\/p.1=7)/\In p.2.2.2.2.1 0 (n-1))\/(p.2.2.2.2.1=0/\p.1≠6/\p.1≠7))/\((p.1=7/\In p.2.2.2.2.2 0 (n-1))\/(p.2.2.2.2.2=0/\p.1≠7))
theorem aEt (p:Pl) (n:Int) (last:Prop):(pG p n/\(p.1=8↔last))↔iV p n last:=by
 obtain⟨o,c,s,neg,a,b⟩:=p;unfold pG iV;dsimp only
 by_cases h:In o 1 8
 .have d:o=1\/o=2\/o=3\/o=4\/o=5\/o=6\/o=7\/o=8:=by unfold In at h;omega
  have f:c=0->In c 0 255:=fun e=>by unfold In;omega
  rcases d with rfl|rfl|rfl|rfl|rfl|rfl|rfl|rfl
  all_goals simp [h]
  all_goals grind
 .have d:o≠1/\o≠2/\o≠3/\o≠4/\o≠5/\o≠6/\o≠7/\o≠8:=by unfold In at h;omega
  simp [h,d]
theorem aEu (p:Pl) (n0:Int) (f:1<=n0/\n0<=1048576):W fun n=>Ar n p.1 p.2.1 p.2.2.1 p.2.2.2.1 p.2.2.2.2.1 p.2.2.2.2.2 n0=some (bo (pG p n0)):=by
 obtain⟨o,c,s,neg,a,b⟩:=p;refine Wa.nm fun n e=> ?_
 have hw:wrap .i64 (n0-1)=n0-1:=by rw [Á];omega
 rw [auE,hw];simp only [e,Z];rw [show (!neg)=bo (neg=false) by cases neg<;>simp [lZ,sd]]
 simp only [bj,cw,iC,kW,yD,Z];refine cG ?_
 unfold pG;dsimp only
 by_cases h:In o 1 8
 .have d:o=1\/o=2\/o=3\/o=4\/o=5\/o=6\/o=7\/o=8:=by unfold In at h;omega
  rcases d with rfl|rfl|rfl|rfl|rfl|rfl|rfl|rfl
  all_goals simp [h]
  all_goals grind
 .simp [h]
theorem aEv (p:Pl) (n0:Int) (last:Bool) (g:1<=n0/\n0<=1048576):W fun n=>BD n p.1 p.2.1 p.2.2.1 p.2.2.2.1 p.2.2.2.2.1 p.2.2.2.2.2 n0 last=some (bo (iV p n0 (last=true))):=by
 obtain⟨o,c,s,neg,a,b⟩:=p;refine aEs.nm fun n e=> ?_
 have hw:wrap .i64 (n0-1)=n0-1:=by rw [Á];omega
 rw [azE,hw];simp only [e,Z];rw [show (!(last==(o==(8:Int))))=bo (¬((last=true)↔o=8)) by
  by_cases h:o=8
  .subst h;cases last<;>simp [lZ,sd]
  .have z:(o==(8:Int))=false:=by simpa using h
   rw [z];cases last<;>simp [h,lZ,sd]]
 cases neg;all_goals (
  have key:(some false:Option Bool)=some (bo False):=by rw [sd]
  have d:(some true:Option Bool)=some (bo True):=by rw [lZ]
  simp only [bj,cw,bB,iC,kW,yD,cH,Z];simp only [key,d,yD,Z];refine cG ?_
  unfold iV;dsimp only
  by_cases h:In o 1 8
  .have f:o=1\/o=2\/o=3\/o=4\/o=5\/o=6\/o=7\/o=8:=by unfold In at h;omega
   rcases f with rfl|rfl|rfl|rfl|rfl|rfl|rfl|rfl
   all_goals simp
   all_goals grind
  .have f:o≠1/\o≠2/\o≠3/\o≠4/\o≠5/\o≠6/\o≠7/\o≠8:=by unfold In at h;omega
   simp [f])
def nQ (l:List Pl):Prop:=In l.length 1 400/\ ∀i,i<l.length-> ∀h:i<l.length,iV l[i] l.length (i=l.length-1)
theorem Wl {l:List Pl} {i:Nat} (h:i<l.length) (b:l.length<=1048576):((i:Int)==wrap .i64 ((l.length:Int)-1))=decide (i=l.length-1):=by
 rw [show wrap .i64 ((l.length:Int)-1)=((l.length-1:Nat):Int) by rw [Á];omega]
 by_cases e:i=l.length-1
 .rw [hJ e,<-e];simp
 .rw [hL e];simp;omega
theorem Wm (l:List Pl) (f:l.length<=1048576):W fun n=>HA n l=some (bo (nQ l)):=by
 have g:W fun n=> ∀p∈l,Ar n p.1 p.2.1 p.2.2.1 p.2.2.2.1 p.2.2.2.2.1 p.2.2.2.2.2 (l.length:Int)=some (bo (pG p l.length)):=W.all l fun p hp=>aEu p l.length (by have:=List.length_pos_of_mem hp;omega)
 have h:=iD (len:=l.length) f (q:=fun i=> ∀h:i<l.length,iV l[i] l.length (i=l.length-1)) (r:=false) (b:=(l.length:Int)) (L:=fun n m i=>Aq n m i (l.length:Int) l) (g.mono fun n h m i hi=>by
  have d:(∀h:i<l.length,iV l[i] l.length (i=l.length-1))↔iV l[i] l.length (i=l.length-1):=⟨fun k=>k hi,fun k _=>k⟩
  rw [RW,bk hi,Y,aU hi,Z,h _ (Ç hi),Z,Wl hi f,propext d,<-propext (aEt l[i] l.length (i=l.length-1)),bB];by_cases a:pG l[i] l.length
  .rw [ay (P:= ¬pG l[i] l.length) (fun k=>k a),ez,Z]
   by_cases b:l[i].1=8
   .by_cases c:i=l.length-1
    .rw [aA ⟨a,⟨fun _=>c,fun _=>b⟩⟩,hJ c,b];rfl
    .rw [ay (fun k=>c (k.2.1 b)),hL c,b];rfl
   .have z:(l[i].1==(8:Int))=false:=by simpa using b
    by_cases c:i=l.length-1
    .rw [ay (fun k=>b (k.2.2 c)),hJ c,z];rfl
    .rw [aA ⟨a,⟨fun k=>absurd k b,fun k=>absurd k c⟩⟩,hL c,z];rfl
  .rw [aA (P:= ¬pG l[i] l.length) a,Y,ay (fun k=>a k.1)];rfl) (fun n m=>by rw [RW,ca];rfl)
 refine(h.and (cM l.length 1 400)).nm fun n ⟨d,j⟩=> ?_
 rw [auD,d,Z];unfold nQ;by_cases a: ∀i,i<l.length-> ∀h:i<l.length,iV l[i] l.length (i=l.length-1)
 .rw [aA a,Y,cR,j,Z]
  refine cG ⟨fun k=>⟨k,a⟩,fun k=>k.1⟩
 .rw [ay a,ez,uO,ay (fun k=>a k.2)]
theorem Lc (l:List Pl) (f:l.length<=1048576):W fun n=>BB n l=some (bo (nQ l)):=by
 have g:W fun n=> ∀i (hi:i<l.length),BD n l[i].1 l[i].2.1 l[i].2.2.1 l[i].2.2.2.1 l[i].2.2.2.2.1 l[i].2.2.2.2.2 (l.length:Int) (decide (i=l.length-1))=some (bo (iV l[i] l.length (i=l.length-1))):=W.lt fun i hi=>by
  have:=aEv l[i] l.length (decide (i=l.length-1)) (by omega)
  rw [show ((decide (i=l.length-1))=true)=(i=l.length-1) by simp]at this
  exact this
 have h:=iD (len:=l.length) f (q:=fun i=> ∀h:i<l.length,iV l[i] l.length (i=l.length-1)) (r:=false) (b:=()) (L:=fun n m i=>BC n m i l l (l.length:Int)) (g.mono fun n h m i hi=>by
  have d:(∀h:i<l.length,iV l[i] l.length (i=l.length-1))↔iV l[i] l.length (i=l.length-1):=⟨fun k=>k hi,fun k _=>k⟩
  rw [SU,bk hi,Y,aU hi,Z,Wl hi f,h i hi,Z,propext d];cases bo (iV l[i] l.length (i=l.length-1))<;>rfl) (fun n m=>by rw [SU,ca];rfl)
 refine(h.and (di l.length 1 400)).nm fun n ⟨d,j⟩=> ?_
 rw [azD,j,Z];unfold nQ;by_cases c:In l.length 1 400
 .rw [aA c]
  simp only [È,ez];rw [d,Z];by_cases a: ∀i,i<l.length-> ∀h:i<l.length,iV l[i] l.length (i=l.length-1)
  .rw [aA a,Y,cR,aA ⟨c,a⟩]
  .rw [ay a,ez,uO,ay (fun k=>a k.2)]
 .rw [ay c,ay (fun k=>c k.1)];rfl
theorem Ld (n:Nat) (x lo hi:Int):cT (n+1) x lo hi=some (bo (In x lo hi)):=by
 obtain⟨N,h⟩:=di x lo hi;rw [<-h (max N (n+1)) (Ă _ _)];obtain⟨q,b⟩: ∃q,max N (n+1)=q+1:=⟨max N (n+1)-1,by omega⟩
 rw [b,pq,pq]
theorem tC (M:List Bool) (k i:Nat) (hk:k<M.length):(M.set k true).getD i false=(decide (i=k)||M.getD i false):=by
 simp only [Æ,List.getElem?_set]
 by_cases h:k=i
 .subst h;simp [hk]
 .rw [if_neg h,hL (fun e=>h e.symm),Bool.false_or]
theorem aEw {M:List Bool} {k:Nat} (hk:k<M.length) (h:M.getD k false=false):(M.set k true).count false+1=M.count false:=by
 have e:M[k]=false:=by rw [<-h,Æ,Ä hk];rfl
 rw [List.count_set hk,e];have:0<M.count false:=List.count_pos_iff.2 (by rw [<-e];exact Ç hk)
 simp;omega
theorem CR {M:List Bool} {k:Nat} (h:k<M.length):aN M k=some (M.getD k false):=by
 show M[k]? =_;rw [Æ,Ä h];rfl
theorem aEx (n m:Nat) (b e:Bool) (l:List Pl) (M:List Bool) (t:List Int) (k:Nat) (z:M.length=l.length) (hl:l.length<=400) (ht:t.length<=3900000) (hk:k<l.length) (r:M.getD k false=false):
  gm n (m+1) b e l M (t++[(k:Int)])=gm n m b e l (M.set k true) (t++eh l[k] k b e):=by
 have hlen:((t++[(k:Int)]).length:Int)=((t.length+1:Nat):Int):=by simp
 have hw:wrap .i64 (((t++[(k:Int)]).length:Int)-1)=(t.length:Int):=by rw [hlen,Á];omega
 have f:aN (t++[(k:Int)]) (Ì (t.length:Int))=some (k:Int):=by rw [Ã];exact jU t _ []
 have g:(t++[(k:Int)]).take (Ì (t.length:Int))=t:=by simp
 have d:þ (Ì (t.length:Int)) (t++[(k:Int)]).length=true:=Ô (by simp)
 rw [JS,hw,f,g,d,hlen,hJ (show (0:Int)<((t.length+1:Nat):Int) by omega),hJ (show (0:Int)<=(t.length:Int)/\(t.length:Int)<((t.length+1:Nat):Int) by omega),hJ (show (0:Int)<=(t.length:Int)/\(t.length:Int)<=((t.length+1:Nat):Int) by omega),bS (show t.length+1<=4000000 by omega),bS (show t.length+2<=4000000 by omega),Y,Y,Z]
 simp only [Y];rw [hL (show ¬(l.length:Int)<=(k:Int) by omega),hL (show ¬(k:Int)<0 by omega),hJ (show (0:Int)<=(k:Int)/\(k:Int)<(M.length:Int) by omega),Ã,CR (show k<M.length by omega),r,aU hk,dq hk (by omega)]
 simp only [Y,ez,Z];generalize l[k]=p
 unfold eh;by_cases h:p.1=6
 .rw [h,if_pos rfl];rfl
 have s:(p.1==(6:Int))=false:=by simpa using h
 rw [s,ez,if_neg h];by_cases i:p.1=7
 .rw [i,if_pos rfl];rfl
 have u:(p.1==(7:Int))=false:=by simpa using i
 rw [u,ez,if_neg i];by_cases j:p.1=4
 .rw [j,if_pos rfl]
  cases b
  .rw [show t++cond false [(k:Int)+1] []=t from Ñ t];rfl
  .rfl
 have z4:(p.1==(4:Int))=false:=by simpa using j
 rw [z4,ez,if_neg j];by_cases q:p.1=5
 .rw [q,if_pos rfl]
  cases e
  .rw [show t++cond false [(k:Int)+1] []=t from Ñ t];rfl
  .rfl
 have z5:(p.1==(5:Int))=false:=by simpa using q
 rw [z5,ez,if_neg q,Ñ]
theorem aEy (n m:Nat) (b e:Bool) (l:List Pl) (M:List Bool) (t:List Int) (x:Int) (p:M.length=l.length) (_:l.length<=400) (r:t.length<=3900000) (j: ∀k:Nat,x=(k:Int)->k<l.length->M.getD k false=true):
  gm n (m+1) b e l M (t++[x])=gm n m b e l M t:=by
 have hlen:((t++[x]).length:Int)=((t.length+1:Nat):Int):=by simp
 have hw:wrap .i64 (((t++[x]).length:Int)-1)=(t.length:Int):=by rw [hlen,Á];omega
 have f:aN (t++[x]) (Ì (t.length:Int))=some x:=by rw [Ã];exact jU t x []
 have g:(t++[x]).take (Ì (t.length:Int))=t:=by simp
 have d:þ (Ì (t.length:Int)) (t++[x]).length=true:=Ô (by simp)
 rw [JS,hw,f,g,d,hlen,hJ (show (0:Int)<((t.length+1:Nat):Int) by omega),hJ (show (0:Int)<=(t.length:Int)/\(t.length:Int)<((t.length+1:Nat):Int) by omega),hJ (show (0:Int)<=(t.length:Int)/\(t.length:Int)<=((t.length+1:Nat):Int) by omega),Y,Y,Z]
 simp only [Y];by_cases h:(l.length:Int)<=x
 .rw [hJ h,Y]
 rw [hL h,ez];by_cases i:x<0
 .rw [hJ i,Y]
 rw [hL i,ez];obtain⟨k,rfl⟩: ∃k:Nat,x=(k:Int):=⟨x.toNat,by omega⟩
 have hk:k<l.length:=by omega
 rw [hJ (show (0:Int)<=(k:Int)/\(k:Int)<(M.length:Int) by omega),Ã,CR (show k<M.length by omega),j k rfl hk]
 rfl
theorem aEz (n m:Nat) (b e:Bool) (l:List Pl) (M:List Bool):gm n (m+1) b e l M []=some (.inl M):=by
 rw [JS];rfl
theorem aEA {l:List Pl} {b e:Bool} (hl:l.length<=400) {R:Nat->Prop} (hR: ∀k,(h:k<l.length)->R k-> ∀j:Nat,(j:Int)∈eh l[k] k b e->j<l.length->R j):
  ∀(f:Nat) (M:List Bool) (t:List Int),M.length=l.length->t.length+3*M.count false<=f->f<=1000000->
  (∀i,i<l.length->M.getD i false=true->R i)->(∀j:Nat,(j:Int)∈t->j<l.length->R j)->
  (∀k,(h:k<l.length)->M.getD k false=true-> ∀j:Nat,(j:Int)∈eh l[k] k b e->j<l.length->M.getD j false=true\/(j:Int)∈t)->
  ∃d,(∀n m,f<m->gm n m b e l M t=some (.inl d))/\d.length=l.length/\(∀i,i<l.length->M.getD i false=true->d.getD i false=true)/\(∀j:Nat,(j:Int)∈t->j<l.length->d.getD j false=true)/\
   (∀i,i<l.length->d.getD i false=true->R i)/\(∀k,(h:k<l.length)->d.getD k false=true-> ∀j:Nat,(j:Int)∈eh l[k] k b e->j<l.length->d.getD j false=true):=by
 intro f;have stop: ∀(f:Nat) (M:List Bool),M.length=l.length->(∀i,i<l.length->M.getD i false=true->R i)->(∀k,(h:k<l.length)->M.getD k false=true-> ∀j:Nat,(j:Int)∈eh l[k] k b e->j<l.length->M.getD j false=true\/(j:Int)∈([]:List Int))->
  ∃d,(∀n m,f<m->gm n m b e l M []=some (.inl d))/\d.length=l.length/\(∀i,i<l.length->M.getD i false=true->d.getD i false=true)/\(∀j:Nat,(j:Int)∈([]:List Int)->j<l.length->d.getD j false=true)/\
   (∀i,i<l.length->d.getD i false=true->R i)/\(∀k,(h:k<l.length)->d.getD k false=true-> ∀j:Nat,(j:Int)∈eh l[k] k b e->j<l.length->d.getD j false=true):=fun f M g p r=>by
  refine⟨M,fun n m hm=> ?_,g,fun i _ h=>h,fun j h=>(by cases h),p,fun k h hk j hj cj=> ?_⟩
  .obtain⟨m,rfl⟩: ∃q,m=q+1:=⟨m-1,by omega⟩
   exact aEz _ _ _ _ _ _
  .rcases r k h hk j hj cj with h|h
   .exact h
   .cases h
 induction f with
 |zero=>
  intro M t g hf _ p z r;have:t=[]:=Î (by omega)
  subst this;exact stop 0 M g p r
 |succ f ih=>
  intro M t g hf ar p z r;rcases ø t with rfl|⟨t,x,rfl⟩
  .exact stop (f+1) M g p r
  rw [ù]at*;simp only [À,Õ]at hf;by_cases h: ∃k:Nat,x=(k:Int)/\k<l.length/\M.getD k false=false
  .obtain⟨k,rfl,hk,hg⟩:=h
   have hu:=aEw (M:=M) (k:=k) (by omega) hg
   have hn:=aaJ l[k] k b e;have s:R k:=z k (by simp) hk
   obtain⟨d,e1,e2,u,e4,e5,e6⟩:=ih (M.set k true) (t++eh l[k] k b e) (by simp [g]) (by rw [À];omega) (by omega)
    (fun i hi hm=>by
     rw [tC M k i (by omega)]at hm
     rcases ê.1 hm with h|h
     .rw [of_decide_eq_true h];exact s
     .exact p i hi h)
    (fun j hj cj=>by
     rcases É.1 hj with hj|hj
     .exact z j (by simp [hj]) cj
     .exact hR k hk s j hj cj)
    (fun q hq hm j hj cj=>by
     rw [tC M k q (by omega)]at hm
     rw [tC M k j (by omega)]
     rcases ê.1 hm with h|h
     .have:=of_decide_eq_true h
      subst this;exact .inr (List.mem_append_right _ hj)
     .rcases r q hq h j hj cj with h|h
      .rw [h];simp
      .rcases É.1 h with h|h
       .exact .inr (Ð _ h)
       .left
        have:j=k:=by have:=Å.1 h;omega
        rw [hJ this];rfl)
   refine⟨d,fun n m hm=> ?_,e2,fun i hi hm=>u i hi (by rw [tC M k i (by omega),hm];simp),fun j hj cj=> ?_,e5,e6⟩
   .obtain⟨m,rfl⟩: ∃q,m=q+1:=⟨m-1,by omega⟩
    rw [aEx n m b e l M t k g hl (by omega) hk hg]
    exact e1 n m (by omega)
   rcases É.1 hj with hj|hj
   .exact e4 j (Ð _ hj) cj
   .have:j=k:=by have:=Å.1 hj;omega
    subst this;exact u j cj (by rw [tC M j j (by omega)];simp)
  .have hx: ∀j:Nat,x=(j:Int)->j<l.length->M.getD j false=true:=fun j hj cj=>by
    cases e:M.getD j false
    .exact absurd ⟨j,hj,cj,e⟩ h
    .rfl
   obtain⟨d,e1,e2,u,e4,e5,e6⟩:=ih M t g (by omega) (by omega) p (fun j hj cj=>z j (Ð _ hj) cj) (fun q hq hm j hj cj=>by
    rcases r q hq hm j hj cj with h|h
    .exact .inl h
    .rcases É.1 h with h|h
     .exact .inr h
     .exact .inl (hx j (Å.1 h).symm cj))
   refine⟨d,fun n m hm=> ?_,e2,u,fun j hj cj=> ?_,e5,e6⟩
   .obtain⟨m,rfl⟩: ∃q,m=q+1:=⟨m-1,by omega⟩
    rw [aEy n m b e l M t x g hl (by omega) hx]
    exact e1 n m (by omega)
   rcases É.1 hj with hj|hj
   .exact e4 j hj cj
   .exact u j cj (hx j (Å.1 hj).symm cj)
def Mk (l:List Pl) (b e:Bool) (at0:List Int) (M:List Bool):Prop:=
 M.length=l.length/\(∀i,i<l.length->M.getD i false=true->kZ l at0 b e i)/\(∀k,(h:k<l.length)->M.getD k false=true-> ∀j:Nat,(j:Int)∈eh l[k] k b e->j<l.length->M.getD j false=true)
theorem aEB {l:List Pl} {b e:Bool} {at0:List Int} (g:l.length<=400) {M:List Bool} (f:Mk l b e at0 M) {x:Int} (m:x∈at0): ∃d,Mk l b e at0 d/\(∀i,i<l.length->M.getD i false=true->d.getD i false=true)/\(∀j:Nat,x=(j:Int)->j<l.length->d.getD j false=true)/\
  ∀n,2000<=n->HB n l M x b e=some d:=by
 have p:M.count false<=M.length:=List.count_le_length;have r:=f.1;obtain⟨d,s,t,u,z,e5,e6⟩:=aEA (l:=l) (b:=b) (e:=e) g (R:=kZ l at0 b e) (fun k h hk j hj cj=>.step hk h hj cj) 1201 M [x] f.1 (by simp only [Õ];omega) (by omega) f.2.1
  (fun j hj cj=>.base (by rw [Å.1 hj];exact m) cj) (fun k h hk j hj cj=>.inl (f.2.2 k h hk j hj cj))
 refine⟨d,⟨t,e5,e6⟩,u,fun j hj cj=>z j (by rw [hj];simp) cj,fun n hn=> ?_⟩
 obtain⟨n,rfl⟩: ∃q,n=q+1:=⟨n-1,by omega⟩
 rw [auG,s n n (by omega)];rfl
theorem Wn {l:List Pl} {b e:Bool} {at0:List Int} (k:l.length<=400) (s:at0.length<=1048576): ∀(r:List Int) (i:Nat) (M:List Bool),at0.drop i=r->Mk l b e at0 M->(∀j:Nat,(j:Int)∈at0.take i->j<l.length->M.getD j false=true)->
  ∃d,Mk l b e at0 d/\(∀j:Nat,(j:Int)∈at0->j<l.length->d.getD j false=true)/\ ∀n m,2000<=n->r.length<m->As n m (i:Int) e b at0 M l=some (.inl d)
 | [],i,M,hd,f,g=>by
  have t:at0.length<=i:=Ý.1 hd;rw [ô t]at g;refine⟨M,f,g,fun n m _ hm=> ?_⟩
  obtain⟨m,rfl⟩: ∃q,m=q+1:=⟨m-1,by simp at hm;omega⟩
  rw [RX,hL (by omega),ez]
 |x::r,i,M,hd,f,g=>by
  have hi:i<at0.length:=by
   by_cases c:i<at0.length
   .exact c
   .rw [Ó (by omega)]at hd;cases hd
  rw [Ò hi]at hd;obtain⟨h,u⟩:=í hd;obtain⟨z,c1,c2,c3,c4⟩:=aEB k f (x:=x) (by rw [<-h];exact Ç hi)
  obtain⟨d,d1,d2,d3⟩:=Wn k s r (i+1) z u c1 (fun j hj cj=>by
   rw [yu hi,É]at hj;rcases hj with hj|hj
   .exact c2 j cj (g j hj cj)
   .exact c3 j (by rw [Å.1 hj,h]) cj)
  refine⟨d,d1,d2,fun n m p hm=> ?_⟩
  obtain⟨m,rfl⟩: ∃q,m=q+1:=⟨m-1,by simp at hm;omega⟩
  rw [RX,bk hi,Y,aU hi,Z,h,c4 n p,Z,c1.1,f.1,ĉ,Y,dq hi (by omega)]
  exact d3 n m p (by simpa using hm)
theorem Le (n:Nat) (M:List Bool) (g:M.length<=1048576): ∀k m (i:Nat) (out:List Int),M.length-i=k->k<m->i<=M.length->out=((õ i).filter fun j=>M.getD j false).map Ā->
  wc n m (i:Int) out M=some (.inl (((õ M.length).filter fun j=>M.getD j false).map Ā))
 |k,0,i,out,e,hm,hi,d=>by omega
 |k,m+1,i,out,e,hm,hi,d=>by
  rw [auI];by_cases h:i<M.length
  .have p:out.length<=i:=by
    rw [d,List.length_map];have:=List.length_filter_le (fun j=>M.getD j false) (õ i)
    rwa [List.length_range]at this
   have q:M[i]=M.getD i false:=by rw [Æ,Ä h];rfl
   rw [bk h,Y,aU h,Z,q,dq h (by omega),bS (by omega)]
   have f:((õ (i+1)).filter fun j=>M.getD j false).map Ā=out++cond (M.getD i false) [(i:Int)] []:=by
    rw [List.range_succ,List.filter_append,List.map_append,<-d];cases b:M.getD i false
    .simp only [ā,ă,b];simp
    .simp only [ā,ă,b];simp
   cases b:M.getD i false
   .rw [b,ez,Ñ]at f
    rw [ez];exact Le n M g _ m (i+1) out rfl (by omega) (by omega) f.symm
   .rw [b,Y]at f
    rw [Y,Y];exact Le n M g _ m (i+1) _ rfl (by omega) (by omega) f.symm
  .have:i=M.length:=by omega
   rw [hL (by omega),ez,d,this]
theorem Wo (l:List Pl) (at0:List Int) (b e:Bool) (g:l.length<=400) (m:at0.length<=1048576):W fun n=>sJ n l at0 b e=some (fQ l at0 b e):=by
 have p:Mk l b e at0 (Ê l.length false):=by
  have f: ∀i,(Ê l.length false).getD i false=false:=fun i=>by
   rw [Æ,ñ];split<;>rfl
  refine⟨ú,fun i hi h=> ?_,fun k h hk=> ?_⟩
  .rw [f]at h;cases h
  .rw [f]at hk;cases hk
 obtain⟨M,d1,d2,d3⟩:=Wn (b:=b) (e:=e) g m at0 0 (Ê l.length false) (by rw [Í]) p (fun j hj=>by simp at hj)
 have d:=d1.1;refine(W.ge (at0.length+3000)).nm fun n r=> ?_
 obtain⟨n,rfl⟩: ∃q,n=q+1:=⟨n-1,by omega⟩
 rw [auF,Ã,hJ (show (0:Int)<=(l.length:Int)/\(l.length:Int)<=(l.length:Int)/\(l.length:Int)<=(aC:Int) by unfold aC;omega),Y,show(0:Int)=((0:Nat):Int)from rfl,d3 (n+1) (n+1) (by omega) (by omega),Z,cR]
 rw [auH,show(0:Int)=((0:Nat):Int)from rfl,Le n M (by omega) _ n 0 [] rfl (by omega) (by omega) (by simp),Z,cR,Z]
 congr 1
 unfold fQ;congr 1
 rw [d];refine List.filter_congr fun i hi=> ?_
 have hi:=Ć.1 hi;have hm:=Pe (l:=l) (at0:=at0) (b:=b) (e:=e) (M:=fun i=>M.getD i false=true) d1.2.1 d2 d1.2.2 hi
 rw [<-propext hm,<-nh]
def IV (l:List Pl) (R:Nat->Prop) (M:List Bool) (out:List Int):Prop:=
 M.length=l.length/\(∀k,k<l.length->(M.getD k false=true↔(k:Int)∈out))/\out.Nodup/\ ∀x∈out,∃k:Nat,x=(k:Int)/\k<l.length/\R k
theorem CU {l:List Pl} {R:Nat->Prop} {M:List Bool} {out:List Int} (h:IV l R M out):out.length<=l.length:=by
 have:=List.Nodup.length_le_of_subset (l₂:=(õ l.length).map Ā) h.2.2.1 (fun x b=>by
  obtain⟨k,rfl,hk, -⟩:=h.2.2.2 x b;exact List.mem_map.2 ⟨k,Ć.2 hk,rfl⟩)
 simpa using this
theorem CV {l:List Pl} (b:l.length<=400) (d:0<l.length):wrap .i64 ((l.length:Int)-1)=((l.length-1:Nat):Int):=by rw [Á];omega
theorem CX {l:List Pl} {R:Nat->Prop} (u:l.length<=400) {M:List Bool} {out:List Int} (h:IV l R M out) (x:Int) (hx: ∀k:Nat,x=(k:Int)->k<l.length->R k):
  ∃z d,IV l R z d/\(∃s,d=out++s)/\(∀k:Nat,x=(k:Int)->k<l.length->(k:Int)∈d)/\ ∀n,jo (n+2) l M out x=some (l,z,d):=by
 have hlen:=CU h;obtain⟨p,g,q,r⟩:=h;by_cases c: ∃k:Nat,x=(k:Int)/\k<l.length
 .obtain⟨k,rfl,hk⟩:=c
  have f:In (k:Int) 0 (wrap .i64 ((l.length:Int)-1)):=by rw [CV u (by omega)];unfold In;omega
  have hd:decide ((0:Int)<=(k:Int)/\(k:Int)<(M.length:Int))=true:=hJ (by omega)
  cases m:M.getD k false
  .have t:(k:Int)∉out:=fun hm=>by
    have:=(g k hk).2 hm;rw [m]at this;cases this
   refine⟨M.set k true,out++[(k:Int)],⟨by simp [p],fun i hi=> ?_, ?_,fun y hy=> ?_⟩,⟨[(k:Int)],rfl⟩,fun j hj _=>by rw [<-hj];simp,fun n=> ?_⟩
   .rw [tC M k i (by omega),É,Å,ê,g i hi,decide_eq_true_eq]
    constructor
    .rintro(h|h)
     .exact .inr (by omega)
     .exact .inl h
    .rintro(h|h)
     .exact .inr h
     .exact .inl (by omega)
   .rw [List.nodup_append]
    exact⟨q,by simp,fun a ha b hb=>by rw [Å.1 hb];rintro rfl;exact t ha⟩
   .rcases É.1 hy with hy|hy
    .exact r y hy
    .exact⟨k,Å.1 hy,hk,hx k rfl hk⟩
   .rw [JZ,Ld,aA f,Z,Y,hd,Y,Ã,CR (by omega),m]
    simp only [Z,ë,Y];rw [bS (by omega)];rfl
  .refine⟨M,out,⟨p,g,q,r⟩,⟨[],by simp⟩,fun j hj cj=>(g j cj).1 (by rw [show j=k by omega];exact m),fun n=> ?_⟩
   rw [JZ,Ld,aA f,Z,Y,hd,Y,Ã,CR (by omega),m];rfl
 .have f: ¬In x 0 (wrap .i64 ((l.length:Int)-1)):=fun k=>by
   have k1:=k.1;have k2:=k.2;by_cases h0:0<l.length
   .rw [CV u h0]at k2
    exact c ⟨x.toNat,by omega,by omega⟩
   .have e0:l.length=0:=by omega
    rw [e0,Á]at k2;omega
  refine⟨M,out,⟨p,g,q,r⟩,⟨[],by simp⟩,fun j hj cj=>absurd ⟨j,hj,cj⟩ c,fun n=> ?_⟩
  rw [JZ,Ld,ay f];rfl
theorem Wp {l:List Pl} {R:Nat->Prop} {b e:Bool} {at0:List Int} (z:l.length<=400) (ha:at0.length<=1048576) (hR: ∀k:Nat,(k:Int)∈at0->k<l.length->R k): ∀(r:List Int) (i:Nat) (M:List Bool) (out:List Int),at0.drop i=r->IV l R M out->(∀j:Nat,(j:Int)∈at0.take i->j<l.length->(j:Int)∈out)->
  ∃g d,IV l R g d/\(∀j:Nat,(j:Int)∈at0->j<l.length->(j:Int)∈d)/\ ∀n m,2<=n->r.length<m->BG n m l M out (i:Int) at0 b e (at0.length:Int)=some (.inl (l,g,d,b,e))
 | [],i,M,out,hd,p,h=>by
  have h1:at0.length<=i:=Ý.1 hd;rw [ô h1]at h;refine⟨M,out,p,h,fun n m _ hm=> ?_⟩
  obtain⟨m,rfl⟩: ∃q,m=q+1:=⟨m-1,by simp at hm;omega⟩
  rw [SX,hL (by omega),ez]
 |x::r,i,M,out,hd,p,h=>by
  have hi:i<at0.length:=by
   by_cases c:i<at0.length
   .exact c
   .rw [Ó (by omega)]at hd;cases hd
  rw [Ò hi]at hd;obtain⟨t,hr⟩:=í hd;obtain⟨M1,f,c1,⟨s,c2⟩,c3,c4⟩:=CX z p x (fun k hk u=>hR k (by rw [<-hk,<-t];exact Ç hi) u)
  obtain⟨g,d,d1,d2,d3⟩:=Wp (b:=b) (e:=e) z ha hR r (i+1) M1 f hr c1 (fun j hj cj=>by
   rw [yu hi,É]at hj;rcases hj with hj|hj
   .rw [c2];exact Ð _ (h j hj cj)
   .exact c3 j (by rw [Å.1 hj,t]) cj)
  refine⟨g,d,d1,d2,fun n m hn hm=> ?_⟩
  obtain⟨m,rfl⟩: ∃q,m=q+1:=⟨m-1,by simp at hm;omega⟩
  obtain⟨n,rfl⟩: ∃q,n=q+2:=⟨n-2,by omega⟩
  rw [SX,bk hi,Y,aU hi,Z,t,c4 n,Z,dq hi (by omega)]
  exact d3 (n+2) m hn (by simpa using hm)
theorem aEC {l:List Pl} {R:Nat->Prop} {b e:Bool} (hl:l.length<=400) (hR: ∀k,(h:k<l.length)->R k-> ∀j:Nat,(j:Int)∈eh l[k] k b e->j<l.length->R j) {M:List Bool} {out:List Int} (h:IV l R M out) {i q:Nat} (hi:i<out.length) (hq:out[i]=(q:Int)) (ad:q<l.length):
  ∃p d,IV l R p d/\(∃s,d=out++s)/\(∀j:Nat,(j:Int)∈eh l[q] q b e->j<l.length->(j:Int)∈d)/\ ∀n m,2<=n->ek n (m+1) l M out (i:Int) b e=ek n m l p d ((i+1:Nat):Int) b e:=by
 have hlen:=CU h;have ai:R q:=by
  obtain⟨k,e1,e2,e3⟩:=h.2.2.2 out[i] (Ç hi);have:k=q:=by omega
  rw [<-this];exact e3
 have hn:=hR q ad ai;have head: ∀n m,ek n (m+1) l M out (i:Int) b e=cond (l[q].1==(6:Int)) ((jo n l M out l[q].2.2.2.2.1).bind fun f=>ek n m f.1 f.2.1 f.2.2 ((i+1:Nat):Int) b e) (cond (l[q].1==(7:Int)) ((jo n l M out l[q].2.2.2.2.1).bind fun f=>(jo n f.1 f.2.1 f.2.2 l[q].2.2.2.2.2).bind fun y3=>ek n m y3.1 y3.2.1 y3.2.2 ((i+1:Nat):Int) b e) (cond (l[q].1==(4:Int)) (cond b ((jo n l M out ((q+1:Nat):Int)).bind fun f=>ek n m f.1 f.2.1 f.2.2 ((i+1:Nat):Int) b e) (ek n m l M out ((i+1:Nat):Int) b e)) (cond (l[q].1==(5:Int)) (cond e ((jo n l M out ((q+1:Nat):Int)).bind fun f=>ek n m f.1 f.2.1 f.2.2 ((i+1:Nat):Int) b e) (ek n m l M out ((i+1:Nat):Int) b e)) (ek n m l M out ((i+1:Nat):Int) b e)))):=fun n m=>by
  rw [SY,bk hi,Y,hJ (show (0:Int)<=(i:Int)/\(i:Int)<(out.length:Int) by omega),Y,fh hi,Z,hq,aU ad,Z,dq ad (by omega),dq hi (by omega)]
 have none:eh l[q] q b e=[]->(∀n m,2<=n->ek n (m+1) l M out (i:Int) b e=ek n m l M out ((i+1:Nat):Int) b e)-> ∃p d,IV l R p d/\(∃s,d=out++s)/\(∀j:Nat,(j:Int)∈eh l[q] q b e->j<l.length->(j:Int)∈d)/\ ∀n m,2<=n->ek n (m+1) l M out (i:Int) b e=ek n m l p d ((i+1:Nat):Int) b e:=
  fun r k=>⟨M,out,h,⟨[],by simp⟩,fun j hj=>(by rw [r]at hj;cases hj),k⟩
 have one: ∀x:Int,eh l[q] q b e=[x]->(∀n m,2<=n->ek n (m+1) l M out (i:Int) b e=(jo n l M out x).bind fun f=>ek n m f.1 f.2.1 f.2.2 ((i+1:Nat):Int) b e)-> ∃p d,IV l R p d/\(∃s,d=out++s)/\(∀j:Nat,(j:Int)∈eh l[q] q b e->j<l.length->(j:Int)∈d)/\ ∀n m,2<=n->ek n (m+1) l M out (i:Int) b e=ek n m l p d ((i+1:Nat):Int) b e:=fun x r k=>by
  obtain⟨M1,t,c1,c2,c3,c4⟩:=CX hl h x (fun j hj cj=>hn j (by rw [r,hj];simp) cj)
  refine⟨M1,t,c1,c2,fun j hj cj=>c3 j (by rw [r]at hj;exact(Å.1 hj).symm) cj,fun n m hn=> ?_⟩
  obtain⟨n,rfl⟩: ∃q,n=q+2:=⟨n-2,by omega⟩
  rw [k (n+2) m hn,c4 n];rfl
 by_cases g:l[q].1=6
 .refine one l[q].2.2.2.2.1 (by rw [eh,if_pos g]) fun n m _=> ?_
  rw [head,g];rfl
 have z6:(l[q].1==(6:Int))=false:=by simpa using g
 by_cases u:l[q].1=7
 .have r:eh l[q] q b e=[l[q].2.2.2.2.1,l[q].2.2.2.2.2]:=by rw [eh,if_neg g,if_pos u]
  obtain⟨M1,t,c1,⟨s1,c2⟩,c3,c4⟩:=CX hl h l[q].2.2.2.2.1 (fun j hj cj=>hn j (by rw [r,hj];simp) cj)
  obtain⟨M2,ag,d1,⟨s2,d2⟩,d3,d4⟩:=CX hl c1 l[q].2.2.2.2.2 (fun j hj cj=>hn j (by rw [r,hj];simp) cj)
  refine⟨M2,ag,d1,⟨s1++s2,by rw [d2,c2,Ë]⟩,fun j hj cj=> ?_,fun n m hn=> ?_⟩
  .rw [r]at hj
   rcases Û.1 hj with hj|hj
   .rw [d2];exact Ð _ (c3 j hj.symm cj)
   .exact d3 j (Å.1 hj).symm cj
  .obtain⟨n,rfl⟩: ∃q,n=q+2:=⟨n-2,by omega⟩
   rw [head,u,c4 n];simp only [Z];rw [d4 n];rfl
 have z7:(l[q].1==(7:Int))=false:=by simpa using u
 by_cases z:l[q].1=4
 .cases b
  .refine none (by rw [eh,if_neg g,if_neg u,if_pos z];rfl) fun n m _=> ?_
   rw [head,z];rfl
  .refine one _ (by rw [eh,if_neg g,if_neg u,if_pos z];rfl) fun n m _=> ?_
   rw [head,z];rfl
 have z4:(l[q].1==(4:Int))=false:=by simpa using z
 by_cases o5:l[q].1=5
 .cases e
  .refine none (by rw [eh,if_neg g,if_neg u,if_neg z,if_pos o5];rfl) fun n m _=> ?_
   rw [head,o5];rfl
  .refine one _ (by rw [eh,if_neg g,if_neg u,if_neg z,if_pos o5];rfl) fun n m _=> ?_
   rw [head,o5];rfl
 have z5:(l[q].1==(5:Int))=false:=by simpa using o5
 refine none (by rw [eh,if_neg g,if_neg u,if_neg z,if_neg o5]) fun n m _=> ?_
 rw [head,z6,z7,z4,z5];rfl
def CY (l:List Pl) (b e:Bool) (out:List Int) (k:Nat):Prop:= ∀i,i<k->(h:i<out.length)-> ∀q:Nat,out[i]=(q:Int)->(d:q<l.length)-> ∀j:Nat,(j:Int)∈eh l[q] q b e->j<l.length->(j:Int)∈out
theorem aED {l:List Pl} {R:Nat->Prop} {b e:Bool} (hl:l.length<=400) (hR: ∀k,(h:k<l.length)->R k-> ∀j:Nat,(j:Int)∈eh l[k] k b e->j<l.length->R j): ∀(f k:Nat) (M:List Bool) (out:List Int),IV l R M out->CY l b e out k->l.length-k<=f->
  ∃t d,IV l R t d/\(∃s,d=out++s)/\CY l b e d d.length/\ ∀n m,2<=n->f<m->ek n m l M out (k:Int) b e=some (.inl d):=by
 intro f;have stop: ∀(f k:Nat) (M:List Bool) (out:List Int),IV l R M out->CY l b e out k->out.length<=k-> ∃t d,IV l R t d/\(∃s,d=out++s)/\CY l b e d d.length/\ ∀n m,2<=n->f<m->ek n m l M out (k:Int) b e=some (.inl d):=fun f k M out h hd hk=>by
  refine⟨M,out,h,⟨[],by simp⟩,fun i hi=>hd i (by omega),fun n m _ hm=> ?_⟩
  obtain⟨m,rfl⟩: ∃q,m=q+1:=⟨m-1,by omega⟩
  rw [SY,hL (by omega),ez]
 induction f with
 |zero=>
  intro k M out h hd hf;exact stop 0 k M out h hd (by have:=CU h;omega)
 |succ f ih=>
  intro k M out h hd hf;by_cases hk:k<out.length
  .obtain⟨q,hq,ae, -⟩:=h.2.2.2 out[k] (Ç hk)
   obtain⟨M1,g,c1,⟨s,c2⟩,c3,c4⟩:=aEC (b:=b) (e:=e) hl hR h hk hq ae;have av:out.length<=g.length:=by rw [c2];simp
   have p: ∀i,(h1:i<out.length)->g[i]'(by omega)=out[i]:=fun i h1=>by subst c2;exact List.getElem_append_left h1
   obtain⟨t,d,d1,⟨s',d2⟩,d3,d4⟩:=ih (k+1) M1 g c1 (fun i hi h1 q' r u j hj cj=>by
    by_cases ag:i=k
    .subst ag
     rw [p i hk]at r;have:q'=q:=by omega
     subst this;exact c3 j hj cj
    .have z:i<out.length:=by omega
     rw [p i z]at r;rw [c2];exact Ð _ (hd i (by omega) z q' r u j hj cj)) (by omega)
   refine⟨t,d,d1,⟨s++s',by rw [d2,c2,Ë]⟩,d3,fun n m hn hm=> ?_⟩
   obtain⟨m,rfl⟩: ∃q,m=q+1:=⟨m-1,by omega⟩
   rw [c4 n m hn];exact d4 n m hn (by omega)
  .exact stop (f+1) k M out h hd (by omega)
theorem aEE (n:Nat) (x:ag):Qq (n+1) x=cond (þ (ċ (α:=Int) x) aC) (some (jJ x)) none:=by kernel_rfl
theorem aEF (l:List Pl) (at0:List Int) (b e:Bool) (z:l.length<=400) (ha:at0.length<=1048576):W fun n=>BF n l at0 b e=some (fQ l at0 b e):=by
 have h0:IV l (kZ l at0 b e) (Ê l.length false) []:=by
  have hg: ∀i,(Ê l.length false).getD i false=false:=fun i=>by
   rw [Æ,ñ];split<;>rfl
  refine⟨ú,fun i hi=> ?_,List.nodup_nil,fun x h=>by cases h⟩
  rw [hg];simp
 obtain⟨M1,g,c1,c2,c3⟩:=Wp (b:=b) (e:=e) z ha (fun k hk r=>.base hk r) at0 0 (Ê l.length false) [] (by rw [Í]) h0 (fun j hj=>by simp at hj)
 obtain⟨M2,d,d1,⟨s,d2⟩,d3,d4⟩:=aED (b:=b) (e:=e) z (fun k h hk j hj cj=>.step hk h hj cj) l.length 0 M1 g c1 (fun i hi=>absurd hi (Ą _)) (by omega)
 have f:jJ d=fQ l at0 b e:=by
  refine aaL d1.2.2.1 fun x=> ?_
  rw [Pd];have hm:=fun(i:Nat) (hi:i<l.length)=>Pe (l:=l) (at0:=at0) (b:=b) (e:=e) (M:=fun i=>(i:Int)∈d) (fun i hi hm=>by
   obtain⟨k,e1,p,m⟩:=d1.2.2.2 _ hm;have:i=k:=by omega
   rw [this];exact m) (fun i hi t=>by rw [d2];exact Ð _ (c2 i hi t)) (fun k h hk j hj cj=>by
    obtain⟨i,hi,u⟩:=ç.1 hk;exact d3 i hi hi k u h j hj cj) hi
  constructor
  .intro hx
   obtain⟨k,rfl,p,m⟩:=d1.2.2.2 x hx;exact⟨k,rfl,p,m⟩
  .rintro⟨i,rfl,p,m⟩
   exact(hm i p).2 m
 have ak:=CU d1;refine(W.ge (at0.length+l.length+10)).nm fun n hn=> ?_
 obtain⟨n,rfl⟩: ∃q,n=q+2:=⟨n-2,by omega⟩
 rw [azG,Ã,hJ (show (0:Int)<=(l.length:Int)/\(l.length:Int)<=(l.length:Int)/\(l.length:Int)<=(aC:Int) by unfold aC;omega),Y,show(0:Int)=((0:Nat):Int)from rfl,c3 (n+2) (n+2) (by omega) (by omega),Z,cR]
 dsimp only
 rw [d4 (n+2) (n+2) (by omega) (by omega),Z,cR,aEE,Ô (by unfold aC;omega),Y,Z]
 have hlen:(jJ d).length=d.length:=List.length_mergeSort _;rw [hlen,ĉ,Y,f]
def pH (p:Pl) (c:UInt8):Bool:=cond (p.1==1) ((c.toNat:Int)==p.2.1) (cond (p.1==2) true (cond (p.1==3) (!(decide (c∈p.2.2.1)==p.2.2.2.1)) false))
theorem aEG (a c:UInt8):((a.toNat:Int)==(c.toNat:Int))=decide (a=c):=by
 by_cases h:a=c
 .subst h;simp
 .rw [hL h]
  have: ¬(a.toNat:Int)=(c.toNat:Int):=fun e=>h (UInt8.toNat_inj.1 (by omega))
  simpa using this
theorem Wq (c:UInt8) (s:O) (d:s.length<=1048576) (n:Nat): ∀k m (i:Nat),s.length-i=k->k<m->i<=s.length->Au n m (i:Int) c s=some (cond (decide (c∈s.drop i)) (.inr true) (.inl ()))
 |k,0,i,e,hm,hi=>by omega
 |k,m+1,i,e,hm,hi=>by
  rw [auL,dR];by_cases h:i<s.length
  .rw [bk h,Y,df h,Z,aEG,dq h (by omega),Ò h]
   by_cases b:s[i]=c
   .rw [hJ b,Y,hJ (show c∈s[i]::s.drop (i+1) by rw [b];simp)];rfl
   .rw [hL b,ez,Wq c s d n _ m (i+1) rfl (by omega) (by omega)]
    congr 2
    have:(c∈s[i]::s.drop (i+1))↔c∈s.drop (i+1):=by
     rw [Û];exact⟨fun k=>k.resolve_left (fun k=>b k.symm),.inr⟩
    simp only [this]
  .rw [hL (by omega),ez,Ó (by omega)];rfl
theorem aEH (s:O) (b:s.length<=256) (n:Nat) (d:300<=n) (c:UInt8):HD n s c=some (decide (c∈s)):=by
 obtain⟨n,rfl⟩: ∃q,n=q+1:=⟨n-1,by omega⟩
 rw [auK,dR,show(0:Int)=((0:Nat):Int)from rfl,Wq c s (by omega) n _ n 0 rfl (by omega) (by omega),Í]
 by_cases h:c∈s
 .rw [hJ h];rfl
 .rw [hL h];rfl
theorem Wr (c:UInt8):wrap .i64 (c.toNat:Int)=(c.toNat:Int):=by have:=c.toNat_lt;rw [Á];omega
theorem aEI (p:Pl) (hp:p.2.2.1.length<=256) (n:Nat) (b:301<=n) (c:UInt8):HC n p.1 p.2.1 p.2.2.1 p.2.2.2.1 p.2.2.2.2.1 p.2.2.2.2.2 c=some (pH p c):=by
 obtain⟨n,rfl⟩: ∃q,n=q+1:=⟨n-1,by omega⟩
 rw [auJ,dR,aEH _ hp n (by omega),Wr,pH]
 cases p.1==(1:Int)
 .cases p.1==(2:Int)
  .cases p.1==(3:Int)<;>rfl
  .rfl
 .rfl
theorem aEJ (n:Nat) (s:O) (c:UInt8):sP (n+1) s c=some (Lib.indexByte s c):=by kernel_rfl
theorem aEK (p:Pl) (n:Nat) (b:301<=n) (c:UInt8):IW n p.1 p.2.1 p.2.2.1 p.2.2.2.1 p.2.2.2.2.1 p.2.2.2.2.2 c=some (pH p c):=by
 obtain⟨n,rfl⟩: ∃q,n=q+2:=⟨n-2,by omega⟩
 have e:decide ((0:Int)<=Lib.indexByte p.2.2.1 c)=decide (c∈p.2.2.1):=by
  by_cases h:c∈p.2.2.1
  .rw [hJ h,hJ ((tn _ _).2.2 h)]
  .rw [hL h,hL (fun k=>h ((tn _ _).2.1 k))]
 rw [azJ,dR,aEJ,Wr,pH];simp only [Z,e];cases p.1==(1:Int)
 .cases p.1==(2:Int)
  .cases p.1==(3:Int)<;>rfl
  .rfl
 .simp only [Y]
  rw [Bool.beq_comm]
def pI (l:List Pl) (x:Int):Pl:=l.getD x.toNat (0,0,[],false,0,0)
def iW (l:List Pl) (c:UInt8):List Int->List Int
 | []=>[]
 |x::r=>cond (pH (pI l x) c) ((x+1)::iW l c r) (iW l c r)
theorem Lf (l:List Pl) (c:UInt8): ∀r,(iW l c r).length<=r.length
 | []=>by simp [iW]
 |x::r=>by
  have:=Lf l c r;rw [iW];cases pH (pI l x) c
  .rw [ez,Ï];omega
  .rw [Y,Ï,Ï];omega
def tD (l:List Pl) (now:List Int):Prop:=(∀x∈now,∃q:Nat,x=(q:Int)/\q<l.length)/\now.Pairwise (fun x y=>x<y)/\now.length<=l.length
theorem Lg (l:List Pl) (at0:List Int) (b e:Bool):tD l (fQ l at0 b e):=⟨fun x d=>by
 obtain⟨i,f,g, -⟩:=Pd.1 d;exact⟨i,f,g⟩,EY _ _ _ _,aaK _ _ _ _⟩
theorem Ws {l:List Pl} {q:Nat} (h:q<l.length):ar l (q:Int)=some (pI l (q:Int)):=by
 rw [aU h,pI,Ã,Æ,Ä h];rfl
theorem aEL {l:List Pl} {q:Nat} (h:q<l.length):pI l (q:Int)∈l:=by
 rw [pI,Ã,Æ,Ä h];exact Ç h
theorem Lh {l:List Pl} (k:l.length<=400) (d: ∀p∈l,p.2.2.1.length<=256) {s:O} {i:Nat} (hi:i<s.length) {now:List Int} (g:tD l now) (b:Int) (n:Nat) (h:301<=n): ∀(r:List Int) (j m:Nat) (out:List Int),now.drop j=r->r.length<m->out.length+r.length<=1000000->
  qS n m (j:Int) now out (i:Int) s l b=some (.inl (s,l,b,(i:Int),out++iW l s[i] r))
 | [],j,m,out,hd,hm,t=>by
  obtain⟨m,rfl⟩: ∃q,m=q+1:=⟨m-1,by simp at hm;omega⟩
  have h1:now.length<=j:=Ý.1 hd;rw [RV,hL (by omega),ez,iW,Ñ]
 |x::r,j,m,out,hd,hm,t=>by
  obtain⟨m,rfl⟩: ∃q,m=q+1:=⟨m-1,by simp at hm;omega⟩
  have hj:j<now.length:=by
   by_cases c:j<now.length
   .exact c
   .rw [Ó (by omega)]at hd;cases hd
  have ae:=g.2.2;rw [Ò hj]at hd;obtain⟨u,z⟩:=í hd;obtain⟨q,hq,f⟩:=g.1 now[j] (Ç hj);rw [u]at hq;simp only [Ï]at t hm;have hw:wrap .i64 ((q:Int)+1)=(q:Int)+1:=by rw [Á];omega
  rw [RV,bk hj,Y,hJ (show (0:Int)<=(j:Int)/\(j:Int)<(now.length:Int) by omega),Y,fh hj,Z,u,hq,Ws f,Z,df hi,Z,dR,aEI _ (d _ (aEL f)) n h,Z,dq hj (by omega)]
  rw [iW];cases ht:pH (pI l (q:Int)) s[i]
  .rw [ez,ez]
   exact Lh k d hi g b n h r (j+1) m out z (by omega) (by omega)
  .rw [Y,Y,Y,Z,bS (by omega),Y,hw,Lh k d hi g b n h r (j+1) m (out++[(q:Int)+1]) z (by omega) (by simp;omega),Ë];rfl
theorem Li {l:List Pl} (p:l.length<=400) {s:O} {i:Nat} (hi:i<s.length) {now:List Int} (b:tD l now) (d:Bool) (f g:Int) (n:Nat) (h:301<=n): ∀(r:List Int) (j m:Nat) (out:List Int),now.drop j=r->r.length<m->out.length+r.length<=1000000->
  qY n m (j:Int) out (i:Int) s l now d f g (now.length:Int)=some (.inl (s,l,d,f,now,g,(i:Int),out++iW l s[i] r))
 | [],j,m,out,hd,hm,t=>by
  obtain⟨m,rfl⟩: ∃q,m=q+1:=⟨m-1,by simp at hm;omega⟩
  have h1:now.length<=j:=Ý.1 hd;rw [SW,hL (by omega),ez,iW,Ñ]
 |x::r,j,m,out,hd,hm,t=>by
  obtain⟨m,rfl⟩: ∃q,m=q+1:=⟨m-1,by simp at hm;omega⟩
  have hj:j<now.length:=by
   by_cases c:j<now.length
   .exact c
   .rw [Ó (by omega)]at hd;cases hd
  have ae:=b.2.2;rw [Ò hj]at hd;obtain⟨u,z⟩:=í hd;obtain⟨q,hq,k⟩:=b.1 now[j] (Ç hj);rw [u]at hq;simp only [Ï]at t hm;have hw:wrap .i64 ((q:Int)+1)=(q:Int)+1:=by rw [Á];omega
  rw [SW,bk hj,Y,hJ (show (0:Int)<=(j:Int)/\(j:Int)<(now.length:Int) by omega),Y,fh hj,Z,u,hq,Ws k,Z,df hi,Z,dR,aEK _ n h,Z,dq hj (by omega)]
  rw [iW];cases ht:pH (pI l (q:Int)) s[i]
  .rw [ez,ez]
   exact Li p hi b d f g n h r (j+1) m out z (by omega) (by omega)
  .rw [Y,Y,bS (by omega),Y,hw,Li p hi b d f g n h r (j+1) m (out++[(q:Int)+1]) z (by omega) (by simp;omega),Ë];rfl
theorem aEM {l:List Pl} {t:List Int} {x:Int} (h:tD l (t++[x])):(x==((l.length:Int)-1))=decide (((l.length:Int)-1)∈t++[x]):=by
 obtain⟨b,d,g⟩:=h;obtain⟨q,i,f⟩:=b x (by simp)
 by_cases e:x=(l.length:Int)-1
 .rw [hJ (by rw [<-e];simp)];simpa using e
 .rw [hL (fun k=> ?_)]
  .simpa using e
  .rcases É.1 k with k|k
   .have:=(ý.1 d).2.2 _ k x (by simp)
    omega
   .exact e (Å.1 k).symm
noncomputable def nR (l:List Pl) (s:O):Nat->Nat->List Int->Int->Int
 |0,i,now,b=>if((l.length:Int)-1)∈now then(i:Int)else b
 |k+1,i,now,b=>if now=[]then b else nR l s k (i+1) (fQ l (iW l (s.getD i 0) now) false (decide (i+1=s.length))) (if ((l.length:Int)-1)∈now then(i:Int)else b)
theorem Wt {s:O} {i:Nat} (h:i<s.length):s.getD i 0=s[i]:=by rw [Æ,Ä h];rfl
theorem rq (a b:Nat):((a:Int)==(b:Int))=decide (a=b):=by
 by_cases h:a=b
 .subst h;simp
 .rw [hL h];exact beq_eq_false_iff_ne.2 (by omega)
theorem Wu {l:List Pl} (f:l.length<=400) (r:0<l.length) (d: ∀p∈l,p.2.2.1.length<=256) {s:O} (u:s.length<=1000000): ∀(k i:Nat) (now:List Int) (b:Int),i+k=s.length->tD l now->
  W fun n=> ∀m,k<m->qR n m now (i:Int) s l b=some (.inl (nR l s k i now b))
 |k,i,now,b,hk,g=>by
  rcases ø now with rfl|⟨t,x,rfl⟩
  .refine W.of fun n m hm=> ?_
   obtain⟨m,rfl⟩: ∃q,m=q+1:=⟨m-1,by omega⟩
   rw [RU];cases k<;>rfl
  rw [ù]at*;have h:=g.2.2;have hlen:((t++[x]).length:Int)=((t.length+1:Nat):Int):=by simp
  have hw:wrap .i64 (((t++[x]).length:Int)-1)=(t.length:Int):=by
   simp only [À,Õ]at h;rw [hlen,Á];omega
  have j:aN (t++[x]) (Ì (t.length:Int))=some x:=by rw [Ã];exact jU t x []
  have head: ∀n m,qR n (m+1) (t++[x]) (i:Int) s l b=cond (decide (i=s.length)) (some (.inl (if ((l.length:Int)-1)∈t++[x]then(i:Int)else b))) ((qS n n 0 (t++[x]) ([]:ag) (i:Int) s l (if ((l.length:Int)-1)∈t++[x]then(i:Int)else b)).bind fun z=>aw z (fun z2=>(sJ n z2.2.1 z2.2.2.2.2 false ((wrap .i64 (z2.2.2.2.1+(1:Int)))==(z2.1.length:Int))).bind fun y2=>qR n m y2 (wrap .i64 (z2.2.2.2.1+(1:Int))) z2.1 z2.2.1 z2.2.2.1) (fun w2=>some (.inr w2))):=fun n m=>by
   rw [RU,hw,j,hlen,hJ (by omega),Y,hJ (by omega),Y,Z,CV f r,show((l.length-1:Nat):Int)=(l.length:Int)-1 by omega,aEM g,rq]
   by_cases c:((l.length:Int)-1)∈t++[x]
   .rw [hJ c,if_pos c,Y]
   .rw [hL c,if_neg c,ez]
  match k,hk with
  |0,hk=>
   refine W.of fun n m hm=> ?_
   obtain⟨m,rfl⟩: ∃q,m=q+1:=⟨m-1,by omega⟩
   rw [head,hJ (by omega),Y,nR]
  |k+1,hk=>
   have hi:i<s.length:=by omega
   have af:=Lf l s[i] (t++[x]);have ih:=Wu f r d u k (i+1) (fQ l (iW l s[i] (t++[x])) false (decide (i+1=s.length))) (if ((l.length:Int)-1)∈t++[x]then(i:Int)else b) (by omega) (Lg _ _ _ _)
   refine((ih.and (Wo l (iW l s[i] (t++[x])) false (decide (i+1=s.length)) f (by omega))).and (W.ge 1000)).mono fun n ⟨⟨e1,e2⟩,e3⟩ m hm=> ?_
   obtain⟨m,rfl⟩: ∃q,m=q+1:=⟨m-1,by omega⟩
   rw [head,hL (by omega),ez,show(0:Int)=((0:Nat):Int)from rfl,Lh f d hi g _ n (by omega) (t++[x]) 0 n [] (by rw [Í]) (by omega) (by simp only [é];omega),Z,cR]
   dsimp only
   rw [dq hi (by omega),rq,á,e2,Z,e1 m (by omega),nR,if_neg (show ¬(t++[x])=[] by simp),Wt hi]
theorem aEN (now:List Int) (v:Int) (d:now.length<=1048576):W fun n=>BH n now v=some (decide (v∈now)):=by
 have h:=kn d (p:=fun x=>v=x) (r:=fun i=>i) (b:=()) (L:=fun n m i=>BI n m i now v (now.length:Int)) (W.of fun n m i hi=>by
  rw [SZ,bk hi,Y,aU hi,Z,bj]) (fun n m=>by rw [SZ,ca];rfl)
 refine W.succ (h.nm fun n h=> ?_)
 rw [azH,azI];rcases h with⟨⟨x,f,rfl⟩,i,e⟩|⟨h,e⟩
 .rw [e,hJ f];simp [aw]
 .rw [e,hL (fun k=>h v k rfl)];rfl
noncomputable section
theorem Wv {l:List Pl} (j:l.length<=400) (r:0<l.length) {s:O} (u:s.length<=1000000): ∀(k i:Nat) (pre:List Int) (b:Int),i+k=s.length->pre.length<=1000000->
  W fun n=> ∀m,k<m->qX n m (i:Int) s l b pre=some (.inr (nR l s k i (fQ l pre (decide (i=0)) (decide (i=s.length))) b))
 |k,i,pre,b,hk,hp=>by
  have z:((i:Int)==(0:Int))=decide (i=0):=rq i 0;obtain⟨now,d⟩: ∃now,now=fQ l pre (decide (i=0)) (decide (i=s.length)):=⟨_,rfl⟩
  have t:tD l now:=d▸Lg _ _ _ _;have ad:=t.2.2;have base:=(aEF l pre (decide (i=0)) (decide (i=s.length)) j (by omega)).and (aEN now ((l.length:Int)-1) (by omega))
  rw [<-d]at base |-;have head: ∀n m,BF n l pre (decide (i=0)) (decide (i=s.length))=some now->BH n now ((l.length:Int)-1)=some (decide (((l.length:Int)-1)∈now))->qX n (m+1) (i:Int) s l b pre=cond (decide (i=s.length)) (some (.inr (if ((l.length:Int)-1)∈now then(i:Int)else b))) (cond (decide (now.length=0)) (some (.inr (if ((l.length:Int)-1)∈now then(i:Int)else b))) ((qY n n 0 ([]:ag) (i:Int) s l now (decide (now.length=0)) (now.length:Int) (if ((l.length:Int)-1)∈now then(i:Int)else b) (now.length:Int)).bind fun y2=>aw y2 (fun z3=>qX n m (Ċ .i64 (z3.2.2.2.2.2.2.1+(1:Int))) z3.1 z3.2.1 z3.2.2.2.2.2.1 z3.2.2.2.2.2.2.2) (fun w3=>some (.inr w3)))):=fun n m f g=>by
   rw [azF,z,rq,f,Z,CV j r,show((l.length-1:Nat):Int)=(l.length:Int)-1 by omega,g,Z,show((now.length:Int)==(0:Int))=decide (now.length=0)from rq now.length 0]
   by_cases c:((l.length:Int)-1)∈now
   .rw [hJ c,if_pos c,Y]
   .rw [hL c,if_neg c,ez]
  match k,hk with
  |0,hk=>
   refine base.mono fun n ⟨f,g⟩ m hm=> ?_
   obtain⟨m,rfl⟩: ∃q,m=q+1:=⟨m-1,by omega⟩
   rw [head n m f g,hJ (show i=s.length by omega),Y,nR]
  |k+1,hk=>
   have hi:i<s.length:=by omega
   by_cases he:now=[]
   .refine base.mono fun n ⟨f,g⟩ m hm=> ?_
    obtain⟨m,rfl⟩: ∃q,m=q+1:=⟨m-1,by omega⟩
    rw [head n m f g,hL (show ¬i=s.length by omega),ez,nR,if_pos he,hJ (show now.length=0 by rw [he];rfl),Y,if_neg (by rw [he];simp)]
   have p: ¬now.length=0:=fun h=>he (Î h)
   have ah:=Lf l s[i] now;have ih:=Wv j r u k (i+1) (iW l s[i] now) (if ((l.length:Int)-1)∈now then(i:Int)else b) (by omega) (by omega)
   refine((base.and ih).and (W.ge 1000)).mono fun n ⟨⟨⟨f,g⟩,e3⟩,e4⟩ m hm=> ?_
   obtain⟨m,rfl⟩: ∃q,m=q+1:=⟨m-1,by omega⟩
   rw [head n m f g,hL (show ¬i=s.length by omega),ez,hL p,ez,show(0:Int)=((0:Nat):Int)from rfl,Li j hi t _ _ _ n (by omega) now 0 n [] (by rw [Í]) (by omega) (by simp only [é];omega),Z,cR]
   dsimp only
   rw [dq hi (by omega),á,e3 m (by omega),nR,if_neg he,Wt hi,hL (show ¬i+1=0 by omega)]
def Lj (l:List Pl) (s:O) (i:Nat):Int:=nR l s (s.length-i) i (fQ l [0] (decide (i=0)) (decide (i=s.length))) (-1)
def eM (l:List Pl) (s:O) (i:Nat):Int:=cond (bo (nQ l)) (Lj l s i) (-1)
theorem Ww {l:List Pl} (h:nQ l):l.length<=400/\0<l.length:=by
 have b:=h.1.1;have d:=h.1.2;omega
theorem aEO (l:List Pl) (s:O) (i:Nat) (g:l.length<=1048576) (b: ∀p∈l,p.2.2.1.length<=256) (j:s.length<=1000000) (hi:i<=s.length):W fun n=>Ap n l s (i:Int)=some (eM l s i):=by
 by_cases hw:nQ l
 .obtain⟨h,k⟩:=Ww hw
  refine((((Wm l g).and (cM (i:Int) 0 (s.length:Int))).and ((Wo l [0] (decide (i=0)) (decide (i=s.length)) h (by simp)).and (Wu h k b j (s.length-i) i (fQ l [0] (decide (i=0)) (decide (i=s.length))) (-1) (by omega) (Lg _ _ _ _)))).and (W.ge (s.length+1))).nm fun n ⟨⟨⟨d,m⟩,q,r⟩,t⟩=> ?_
  have f:In (i:Int) 0 (s.length:Int):=⟨by omega,by omega⟩
  rw [RS,d,aA hw,Z,m,aA f,show((i:Int)==(0:Int))=decide (i=0)from rq i 0,rq];simp only [È,ez,Z];rw [q,Z,r n (by omega),Z,cR,eM,aA hw,Y,Lj]
 .refine(Wm l g).nm fun n d=> ?_
  rw [RS,d,ay hw,eM,ay hw,ez];rfl
theorem aEP (l:List Pl) (s:O) (i:Nat) (f:l.length<=1048576) (g:s.length<=1000000) (hi:i<=s.length):W fun n=>BE n l s (i:Int)=some (eM l s i):=by
 by_cases hw:nQ l
 .obtain⟨h,j⟩:=Ww hw
  refine((((Lc l f).and (di (i:Int) 0 (s.length:Int))).and (Wv h j g (s.length-i) i [0] (-1) (by omega) (by simp))).and (W.ge (s.length+1))).nm fun n ⟨⟨⟨b,k⟩,m⟩,p⟩=> ?_
  have d:In (i:Int) 0 (s.length:Int):=⟨by omega,by omega⟩
  rw [SV,b,aA hw,Z,k,aA d];simp only [È,ez,Z];rw [m n (by omega),Z,uO,eM,aA hw,Y,Lj]
 .refine(Lc l f).nm fun n b=> ?_
  rw [SV,b,ay hw,eM,ay hw,ez];rfl
def iq (g:Nat->Int):Nat->Nat->Int×(Int×Bool)
 |0,i=>if 0<=g i then((i:Int),g i,true)else(0,0,false)
 |k+1,i=>if 0<=g i then((i:Int),g i,true)else iq g k (i+1)
theorem Wx {l:List Pl} {s:O} (f:l.length<=1048576) (d: ∀p∈l,p.2.2.1.length<=256) (g:s.length<=1000000): ∀k i,i+k=s.length->W fun n=> ∀m,k+1<m->(sI n m (i:Int) s l).bind (fun h=>aw h (fun _=>some ((0:Int),(0:Int),false)) (fun j=>some j))=some (iq (eM l s) k i)
 |k,i,hk=>by
  have b:=aEO l s i f d g (by omega)
  have head: ∀n m,Ap n l s (i:Int)=some (eM l s i)->sI n (m+1) (i:Int) s l=cond (decide (0<=eM l s i)) (some (.inr ((i:Int),eM l s i,true))) (sI n m ((i+1:Nat):Int) s l):=fun n m e=>by
   rw [RR,hJ (show (i:Int)<=(s.length:Int) by omega),Y,e,Z,jS (by omega)]
  match k,hk with
  |0,hk=>
   refine b.mono fun n b m hm=> ?_
   obtain⟨m,rfl⟩: ∃q,m=q+2:=⟨m-2,by omega⟩
   rw [head n (m+1) b,iq];by_cases c:0<=eM l s i
   .rw [hJ c,if_pos c];rfl
   .rw [hL c,if_neg c,ez,RR,hL (by omega)];rfl
  |k+1,hk=>
   refine(b.and (Wx f d g k (i+1) (by omega))).mono fun n ⟨b,r⟩ m hm=> ?_
   obtain⟨m,rfl⟩: ∃q,m=q+1:=⟨m-1,by omega⟩
   rw [head n m b,iq];by_cases c:0<=eM l s i
   .rw [hJ c,if_pos c];rfl
   .rw [hL c,if_neg c,ez];exact r m (by omega)
theorem Wy {l:List Pl} {s:O} (d:l.length<=1048576) (f:s.length<=1000000): ∀k i,i+k=s.length->W fun n=> ∀m,k+1<m->(sY n m (i:Int) s l).bind (fun g=>aw g (fun _=>some ((0:Int),(0:Int),false)) (fun h=>some h))=some (iq (eM l s) k i)
 |k,i,hk=>by
  have b:=aEP l s i d f (by omega)
  have head: ∀n m,BE n l s (i:Int)=some (eM l s i)->sY n (m+1) (i:Int) s l=cond (decide (0<=eM l s i)) (some (.inr ((i:Int),eM l s i,true))) (sY n m ((i+1:Nat):Int) s l):=fun n m e=>by
   rw [SS,hJ (show (i:Int)<=(s.length:Int) by omega),Y,e,Z,jS (by omega)]
  match k,hk with
  |0,hk=>
   refine b.mono fun n b m hm=> ?_
   obtain⟨m,rfl⟩: ∃q,m=q+2:=⟨m-2,by omega⟩
   rw [head n (m+1) b,iq];by_cases c:0<=eM l s i
   .rw [hJ c,if_pos c];rfl
   .rw [hL c,if_neg c,ez,SS,hL (by omega)];rfl
  |k+1,hk=>
   refine(b.and (Wy d f k (i+1) (by omega))).mono fun n ⟨b,j⟩ m hm=> ?_
   obtain⟨m,rfl⟩: ∃q,m=q+1:=⟨m-1,by omega⟩
   rw [head n m b,iq];by_cases c:0<=eM l s i
   .rw [hJ c,if_pos c];rfl
   .rw [hL c,if_neg c,ez];exact j m (by omega)
theorem aEQ (l:List Pl) (s:O) (d:l.length<=1048576) (b: ∀p∈l,p.2.2.1.length<=256) (f:s.length<=1000000):W fun n=>Hz n l s=some (iq (eM l s) s.length 0):=by
 refine((Wx d b f s.length 0 (by omega)).and (W.ge (s.length+2))).nm fun n ⟨g,h⟩=> ?_
 rw [auC];exact g n (by omega)
theorem Wz {g:Nat->Int} (h: ∀i,g i= -1): ∀k i,iq g k i=(0,0,false)
 |0,i=>by rw [iq,h,if_neg (by omega)]
 |k+1,i=>by rw [iq,h,if_neg (by omega),Wz h k]
theorem aER (l:List Pl) (s:O) (b:l.length<=1048576) (d:s.length<=1000000):W fun n=>IU n l s=some (iq (eM l s) s.length 0):=by
 refine(((Wy b d s.length 0 (by omega)).and (W.ge (s.length+2))).and (Lc l b)).nm fun n ⟨⟨f,h⟩,g⟩=> ?_
 rw [azC,g,Z];by_cases hw:nQ l
 .rw [aA hw]
  exact f n (by omega)
 .rw [ay hw,Wz (fun i=>by rw [eM,ay hw,ez])];rfl
theorem aES {s:O} (h:(gN s).2.2.2.2.2=true): ∃t:Tr,fP t/\ia t/\ef t<=300/\dh t<=12/\gN s=((aF t).1,(aF t).2.1,(aF t).2.2.1,(aF t).2.2.2.1,(aF t).2.2.2.2,true):=by
 by_cases b:s.length<=60
 .obtain⟨r,d⟩:=Kl s b
  rw [Cp b d]at h |-;by_cases c:r.2.2=false/\r.2.1=[]/\dh (cS r.1)<=12
  .rw [if_pos c]at h |-
   obtain⟨f,g⟩:=aaI _ _ _ _ _ d b trivial trivial trivial c.1;have i:=(eJ _ _ _ _ _ d b trivial trivial).1;refine⟨cS r.1,yJ f,eZ i, ?_,c.2.2,rfl⟩
   rw [uW];simp only [ic]at g;omega
  .rw [if_neg c]at h;cases h
 .rw [Km b]at h;cases h
theorem Lk (pat s:O) (h:(gN pat).2.2.2.2.2=true) (z:s.length<=1000000): ∃v:Bool,(W fun n=>vZ n pat s=some (bV v))/\(W fun n=>wM n pat s=some v):=by
 obtain⟨t,i,j,h3,h4,h5⟩:=aES h;obtain⟨S,⟨k,m⟩,q⟩:=aEr i j;have hb:=k 0;obtain⟨k1,k2⟩:=m [] (by simp;omega)
 simp only [é,á]at k1 k2;obtain⟨L,g⟩: ∃L,L=S 0++[pl 8 0 0]:=⟨_,rfl⟩
 have f:L.length<=1048576:=by rw [g,À,Õ];omega
 have r: ∀p∈L,p.2.2.1.length<=256:=fun p hp=>by
  rw [g]at hp;rcases É.1 hp with hp|hp
  .exact q 0 p hp
  .rw [Å.1 hp];exact mO _ _ _
 have n1:W fun n=>Hv n (aF t).1 (aF t).2.1 (aF t).2.2.1 (aF t).2.2.2.1 (aF t).2.2.2.2=some L:=by
  refine(((aEm i j (by omega) h4).and k1).and (xu (S 0) 8 (by omega))).nm fun n ⟨⟨b,d⟩,u⟩=> ?_
  rw [atU,b,Z];simp only [È,ez];rw [d,Z,u,g];rfl
 have n2:W fun n=>IM n (aF t).1 (aF t).2.1 (aF t).2.2.1 (aF t).2.2.2.1 (aF t).2.2.2.2=some L:=by
  refine((aEn i j (by omega) h4).and k2).nm fun n ⟨b,d⟩=> ?_
  rw [ayS,b,Z];simp only [È,ez];rw [d,Z,bS (by omega),Y,g];rfl
 have m1:W fun n=>Hu n (aF t).1 (aF t).2.1 (aF t).2.2.1 (aF t).2.2.2.1 (aF t).2.2.2.2 s=some (iq (eM L s) s.length 0).2.2:=by
  refine(n1.and (aEQ L s f r z)).nm fun n ⟨b,d⟩=> ?_
  rw [atT,b,Z,d];rfl
 have m2:W fun n=>IL n (aF t).1 (aF t).2.1 (aF t).2.2.1 (aF t).2.2.2.1 (aF t).2.2.2.2 s=some (iq (eM L s) s.length 0).2.2:=by
  refine(n2.and (aER L s f z)).nm fun n ⟨b,d⟩=> ?_
  rw [ayR,b,Z,d];rfl
 refine⟨(iq (eM L s) s.length 0).2.2, ?_, ?_⟩
 .refine(((Uk pat).and m1).and (CB (iq (eM L s) s.length 0).2.2)).nm fun n ⟨⟨b,d⟩,u⟩=> ?_
  rw [atS,b,h5,Z];dsimp only
  rw [d,Z,u];rfl
 .refine((Uj pat).and m2).nm fun n ⟨b,d⟩=> ?_
  rw [ayQ,b,h5,Z];dsimp only
  rw [d];rfl
def kL (pat s:O):Bool:=if h:(gN pat).2.2.2.2.2=true/\s.length<=1000000 then Č (Lk pat s h.1 h.2)else false
theorem WA (pat s:O) (h:(gN pat).2.2.2.2.2=true) (b:s.length<=1000000):W fun n=>vZ n pat s=some (bV (kL pat s)):=by
 rw [kL,dif_pos ⟨h,b⟩];exact(û (Lk pat s h b)).1
theorem WB (pat s:O) (h:(gN pat).2.2.2.2.2=true) (b:s.length<=1000000):W fun n=>wM n pat s=some (kL pat s):=by
 rw [kL,dif_pos ⟨h,b⟩];exact(û (Lk pat s h b)).2
end
noncomputable section
structure cY where
 vs:List V
 cs:List VC
 aB:List V
 out:O
inductive gF where
 |err (c:Int)
 |halt (s:cY)
 |go (k:Int) (s:cY)
def lJ (r:Sum Int V) (f:V->gF):gF:=match r with
 |.inl c=>.err c
 |.inr v=>f v
def eH (s:cY) (at0:Int) (v:V):gF:=if s.aB.length=64 then .err 7 else .go at0 {s with aB:=s.aB++[v]}
def jv (s:cY) (at0 k:Int) (key:O) (v:V):gF:=match lI s.cs k key v with
 |none=>.err 4
 |some b=>eH {s with cs:=b} at0 v
def fr (s:cY) (at0:Int) (t:O):gF:=if 600<s.out.length+t.length then .err 5 else .go at0 {s with out:=s.out++t}
def bR (c k:Int):Int:=if c=1\/c=2\/c=3\/c=10\/c=11\/c=25\/c=30\/c=34\/c=36 then 0 else if c=7\/c=8 then 2 else if c=29 then k else if 12<=c/\c<=23 then 2 else 1
def gU (s:cY) (at0 c k:Int) (l:List V):gF:=
 if c=3 then eH s at0 (ah s.vs k.toNat)
 else if c=4 then eH {s with vs:=s.vs.set k.toNat (ah l 0)} at0 (ah l 0)
 else if c=5 then lJ (cN 0 (aJ (ah s.vs k.toNat)) (aJ (ah l 0))) fun v=>eH {s with vs:=s.vs.set k.toNat v} at0 v
 else if c=6 then eH s at0 (fF s.cs k (dm (ah l 0)))
 else if c=7 then jv s at0 k (dm (ah l 0)) (ah l 1)
 else if c=8 then lJ (cN 0 (aJ (fF s.cs k (dm (ah l 0)))) (aJ (ah l 1))) fun v=>jv s at0 k (dm (ah l 0)) v
 else .go at0 {s with cs:=nL s.cs k (dm (ah l 0))}
def jw (nr:Int) (line:O) (fs:List O) (c k:Int) (s:O) (l:List V):Sum Int V:=
 if c=1 then .inr (nV k)else if c=2 then(if 300<s.length then .inl 3 else .inr (tV s))else if c=9 then .inr (jT line fs (cP (aJ (ah l 0))))
 else if c=10 then .inr (nV (1000000*nr))else if c=11 then .inr (nV (1000000*(fs.length:Int)))
 else if c=24 then .inr (bV (kL s (aH (ah l 0))))else if c=25 then .inr (bV (kL s line))else if c=26 then .inr (bV (!gO (ah l 0)))
 else if c=27 then .inr (nV (0-aJ (ah l 0)))else if c=28 then .inr (bV (gO (ah l 0)))else if c=29 then .inr (iT s l)else dP c (ah l 0) (ah l 1)
def gV (nr:Int) (line:O) (fs:List O) (s:cY) (at0 c k:Int) (t:O) (l:List V):gF:=
 if c=36 then .halt s else if c=30 then .go k s else if c=31 then(if gO (ah l 0)then .go (at0+1) s else .go k s)else if c=32 then .go (at0+1) s
 else if c=33 then fr s (at0+1) ((if k=1 then [32]else [])++aH (ah l 0))else if c=34 then fr s (at0+1) [10]
 else if c=3\/c=4\/c=5\/c=6\/c=7\/c=8\/c=35 then gU s (at0+1) c k l
 else lJ (jw nr line fs c k t l) fun v=>eH s (at0+1) v
def gW (nr:Int) (line:O) (fs:List O) (s:cY) (at0 c k:Int) (t:O):gF:=
 if(s.aB.length:Int)<bR c k then .err 7
 else gV nr line fs {s with aB:=s.aB.take (s.aB.length-(bR c k).toNat)} at0 c k t (s.aB.drop (s.aB.length-(bR c k).toNat))
abbrev WS:=ae×(ai×Int×Int×af×af×O×af×O×Int×Bool×ae)
def xw (nr:Int) (a b:af) (line:O) (fs:af) (fu:Int) (dn:Bool) (s:cY):WS:=(s.vs,s.cs,nr,0,a,b,line,fs,s.out,fu,dn,s.aB)
def PO (nr:Int) (a b:af) (line:O) (fs:af) (fu:Int) (dn:Bool) (r:gF) (x:WS):Prop:=match r with
 |.err c=>c≠0/\x.2.2.2.1=c
 |.halt _=>False
 |.go _ s=>x=xw nr a b line fs fu dn s
theorem tE (vs:ae) (cs:ai) (nr:Int) (a b:af) (line:O) (fs:af) (out:O) (fu:Int) (dn:Bool) (aB:List V) (v:V) (at0:Int) (d:aB.length<=64):W fun n=> ∃x,ej n vs cs nr 0 a b line fs out fu dn aB v.1 v.2.1 v.2.2=some x/\PO nr a b line fs fu dn (eH ⟨vs,cs,aB,out⟩ at0 v) x:=by
 refine(kK vs cs nr a b line fs out fu dn 7).nm fun n e=> ?_
 rw [atE];by_cases h:aB.length=64
 .rw [show ((aB.length:Int)==64)=true by simp [h],Y,e,eH,if_pos h]
  exact⟨_,rfl,by omega,rfl⟩
 .rw [show ((aB.length:Int)==64)=false from beq_eq_false_iff_ne.2 (by omega),ez,bS (by omega),eH,if_neg h]
  exact⟨_,rfl,rfl⟩
theorem WC (vs:ae) (cs:ai) (nr:Int) (a b:af) (line:O) (fs:af) (out:O) (fu:Int) (dn:Bool) (aB:List V) (k:Int) (key:O) (v:V) (at0:Int) (j:aB.length<=64) (h:vs.length<=1048576) (i:cs.length<=1048576):W fun n=> ∃x,vW n vs cs nr 0 a b line fs out fu dn aB k key v.1 v.2.1 v.2.2=some x/\PO nr a b line fs fu dn (jv ⟨vs,cs,aB,out⟩ at0 k key v) x:=by
 cases hp:lI cs k key v with
 |none=>
  refine((Vx vs cs nr 0 k key v h i).and (kK vs cs nr a b line fs out fu dn 4)).nm fun n ⟨d,f⟩=> ?_
  rw [RI,d,hp,jv,hp];simp only [mL,Z,ë,Y,f];exact⟨_,rfl,by omega,rfl⟩
 |some g=>
  refine((Vx vs cs nr 0 k key v h i).and (tE vs g nr a b line fs out fu dn aB v at0 j)).nm fun n ⟨d,x,f,m⟩=> ?_
  rw [RI,d,hp,jv,hp];simp only [mL,Z,È,ez,f];exact⟨x,rfl,m⟩
theorem tF (vs:ae) (cs:ai) (nr er:Int) (a b:af) (line:O) (fs:af) (out:O) (fu:Int) (dn:Bool) (t:O) (d:out.length<=600) (f:t.length<=1048576):W fun n=>mo n vs cs nr er a b line fs out fu dn t=some (cond (decide (600<out.length+t.length)) (vs,cs,nr,cond (er==0) 5 er,a,b,line,fs,out,fu,dn) (vs,cs,nr,er,a,b,line,fs,out++t,fu,dn)):=by
 refine(VF vs cs nr er a b line fs out fu dn 5).nm fun n e=> ?_
 have hw:Ċ .i64 ((out.length:Int)+(t.length:Int))=((out.length+t.length:Nat):Int):=by rw [Á];omega
 rw [asY,hw,e];by_cases h:600<out.length+t.length
 .rw [hJ (show (600:Int)<((out.length+t.length:Nat):Int) by omega),hJ h];rfl
 .rw [hL (show ¬(600:Int)<((out.length+t.length:Nat):Int) by omega),hL h,ng (by omega)];rfl
theorem WD (c k:Int) (s:O):W fun n=>Af n c k s=some (bR c k):=by
 refine(cM c 12 23).nm fun n e=> ?_
 rw [asW,e,bR];by_cases f:c=1\/c=2\/c=3\/c=10\/c=11\/c=25\/c=30\/c=34\/c=36
 .rw [if_pos f]
  rcases f with rfl|rfl|rfl|rfl|rfl|rfl|rfl|rfl|rfl<;>rfl
 rw [if_neg f];by_cases g:c=7\/c=8
 .rw [if_pos g]
  rcases g with rfl|rfl<;>rfl
 rw [if_neg g];have ne: ∀j:Int,c≠j->(c==j)=false:=fun j h=>beq_eq_false_iff_ne.2 h
 rw [ne 1 (by omega),ne 2 (by omega),ne 3 (by omega),ne 10 (by omega),ne 11 (by omega),ne 25 (by omega),ne 30 (by omega),ne 34 (by omega),ne 36 (by omega),ne 7 (by omega),ne 8 (by omega)]
 simp only [ez];by_cases b:c=29
 .rw [if_pos b,b];rfl
 rw [ne 29 b,ez,if_neg b];by_cases d:12<=c/\c<=23
 .rw [aA (show In c 12 23 from d),if_pos d];rfl
 .rw [ay (show ¬In c 12 23 from d),if_neg d];rfl
end
theorem pJ {vs:List V} {k:Int} (b:0<=k) (h:k<(vs.length:Int)):aN vs (Ì k)=some (ah vs k.toNat):=by
 have hk:k.toNat<vs.length:=by omega
 show vs[k.toNat]? =_;rw [ah,Æ,Ä hk];rfl
theorem pK {vs:List V} {k:Int} (b:0<=k) (h:k<(vs.length:Int)):decide ((0:Int)<=k/\k<(vs.length:Int))=true:=hJ ⟨b,h⟩
theorem Ll {cs:List VC} {nm:Int} {key:O} (h: ∀c∈cs,bM c.2.2):bM (fF cs nm key):=by
 unfold fF;split
 .split
  .rename_i c b
   exact h c (List.mem_of_getElem? b)
  .exact sj
 .exact sj
structure pL (vs:List V) (cs:List VC) (nr:Int) (line:O) (fs:List O) (out:O) (aB:List V):Prop where
 v: ∀v∈vs,bM v
 vl:vs.length<=1048576
 c: ∀c∈cs,bM c.2.2
 cl:cs.length<=1048576
 nr:0<=nr/\nr<=2000000
 line:line.length<=1000000
 fs:fs.length<=1048576
 out:out.length<=600
 s: ∀v∈aB,bM v
 sl:aB.length<=64
def tG (vs:List V) (c k:Int) (t:O) (l:List V):Prop:=(c=3\/c=4\/c=5->0<=k/\k<(vs.length:Int))/\(l.length:Int)=bR c k/\(c=1->aX k)/\(c=24\/c=25->(gN t).2.2.2.2.2=true)/\(c=29->1<=k/\k<=3/\t∈iG)/\(c=33->k=0\/k=1)
theorem aET (vs:ae) (cs:ai) (nr:Int) (a b:af) (line:O) (fs:af) (out:O) (fu:Int) (dn:Bool) (aB:List V) (c k:Int) (t:O) (l:List V) (at0:Int) (h:pL vs cs nr line fs out aB) (hl: ∀v∈l,bM v) (ho:tG vs c k t l) (u:c=3\/c=4\/c=5\/c=6\/c=7\/c=8\/c=35):
  W fun n=> ∃x,my n vs cs nr 0 a b line fs out fu dn aB c k t l=some x/\PO nr a b line fs fu dn (gU ⟨vs,cs,aB,out⟩ at0 c k l) x:=by
 obtain⟨j,d, -⟩:=ho;have o0:=eL hl 0;have o1:=eL hl 1;rcases u with rfl|rfl|rfl|rfl|rfl|rfl|rfl
 .obtain⟨p,q⟩:=j (.inl rfl)
  refine(tE vs cs nr a b line fs out fu dn aB (ah vs k.toNat) at0 h.sl).nm fun n ⟨x,e,z⟩=> ?_
  rw [rf,pK p q,pJ p q,Z,e];exact⟨x,rfl,z⟩
 .obtain⟨p,q⟩:=j (.inr (.inl rfl))
  have a0:ar l 0=some (ah l 0):=js (i:=0) (by rw [bR]at d;simp at d;omega)
  refine(tE (vs.set k.toNat (ah l 0)) cs nr a b line fs out fu dn aB (ah l 0) at0 h.sl).nm fun n ⟨x,e,z⟩=> ?_
  rw [rf,pK p q,pJ p q,a0];simp only [Z];have e:ej n (vs.set (Ì k) ((ah l 0).1,(ah l 0).2.1,(ah l 0).2.2)) cs nr 0 a b line fs out fu dn aB (ah l 0).1 (ah l 0).2.1 (ah l 0).2.2=some x:=e;rw [e];exact⟨x,rfl,z⟩
 .obtain⟨p,q⟩:=j (.inr (.inr rfl))
  have a0:ar l 0=some (ah l 0):=js (i:=0) (by rw [bR]at d;simp at d;omega)
  have ov:=eL h.v k.toNat;refine((((jr ov.2.1).and (jr o0.2.1)).and (KP vs cs nr a b line fs out fu dn 0 (aJ (ah vs k.toNat)) (aJ (ah l 0)) (by omega))).and (show W fun n=> ∀v,cN 0 (aJ (ah vs k.toNat)) (aJ (ah l 0))=.inr v-> ∃x,ej n (vs.set k.toNat v) cs nr 0 a b line fs out fu dn aB v.1 v.2.1 v.2.2=some x/\PO nr a b line fs fu dn (eH ⟨vs.set k.toNat v,cs,aB,out⟩ at0 v) x from ?_)).nm fun n ⟨⟨⟨g,m⟩,v,r,s⟩,e5⟩=> ?_
  .cases hm:cN 0 (aJ (ah vs k.toNat)) (aJ (ah l 0))with
   |inl c=>exact W.of fun n v f=>by cases f
   |inr w=>exact(tE (vs.set k.toNat w) cs nr a b line fs out fu dn aB w at0 h.sl).mono fun n hx v f=>by cases f;exact hx
  .rw [rf,pK p q,pJ p q,a0]
   simp only [show ((5:Int)==3)=false from rfl,show((5:Int)==4)=false from rfl,show((5:Int)==5)=true from rfl,Y,ez,Z,g,m,r];rw [gU,if_neg (show ¬(5:Int)=3 by omega),if_neg (show ¬(5:Int)=4 by omega),if_pos rfl]
   dsimp only
   cases hm:cN 0 (aJ (ah vs k.toNat)) (aJ (ah l 0))with
   |inl c=>
    have u:c=1:=by
     rw [cN,if_pos rfl]at hm;revert hm
     obtain⟨p,q⟩:=fZ (aJ (ah vs k.toNat)) (aJ (ah l 0));cases q<;>intro hm<;>cases hm;rfl
    subst u;exact⟨_,rfl,by omega,rfl⟩
   |inr w=>
    have f:=s w hm;subst f;obtain⟨x,f1,f2⟩:=e5 v hm;rw [pK p q];simp only [gT,show((0:Int)==0)=true from rfl,Y];rw [pJ p q,Z];have f1:ej n (vs.set (Ì k) (v.1,v.2.1,v.2.2)) cs nr 0 a b line fs out fu dn aB v.1 v.2.1 v.2.2=some x:=f1;rw [f1];exact⟨x,rfl,f2⟩
 .have a0:ar l 0=some (ah l 0):=js (i:=0) (by rw [bR]at d;simp at d;omega)
  refine(((CC (ah l 0)).and (Vt vs cs nr 0 k (dm (ah l 0)) h.cl)).and (tE vs cs nr a b line fs out fu dn aB (fF cs k (dm (ah l 0))) at0 h.sl)).nm fun n ⟨⟨g,m⟩,x,r,s⟩=> ?_
  rw [rf,a0];simp only [Â,Y,ez,Z,g,m,r];exact⟨x,rfl,s⟩
 .have a0:ar l 0=some (ah l 0):=js (i:=0) (by rw [bR]at d;simp at d;omega)
  have a1:ar l 1=some (ah l 1):=js (i:=1) (by rw [bR]at d;simp at d;omega)
  refine((CC (ah l 0)).and (WC vs cs nr a b line fs out fu dn aB k (dm (ah l 0)) (ah l 1) at0 h.sl h.vl h.cl)).nm fun n ⟨g,x,r,s⟩=> ?_
  rw [rf,a0,a1];simp only [Â,Y,ez,Z,g,r];exact⟨x,rfl,s⟩
 .have a0:ar l 0=some (ah l 0):=js (i:=0) (by rw [bR]at d;simp at d;omega)
  have a1:ar l 1=some (ah l 1):=js (i:=1) (by rw [bR]at d;simp at d;omega)
  have og:bM (fF cs k (dm (ah l 0))):=Ll h.c;refine((((((CC (ah l 0)).and (Vt vs cs nr 0 k (dm (ah l 0)) h.cl)).and (jr og.2.1)).and (jr o1.2.1)).and (KP vs cs nr a b line fs out fu dn 0 (aJ (fF cs k (dm (ah l 0)))) (aJ (ah l 1)) (by omega))).and (show W fun n=> ∀v,cN 0 (aJ (fF cs k (dm (ah l 0)))) (aJ (ah l 1))=.inr v-> ∃x,vW n vs cs nr 0 a b line fs out fu dn aB k (dm (ah l 0)) v.1 v.2.1 v.2.2=some x/\PO nr a b line fs fu dn (jv ⟨vs,cs,aB,out⟩ at0 k (dm (ah l 0)) v) x from ?_)).nm fun n ⟨⟨⟨⟨⟨e0,g⟩,m⟩,r⟩,v,s,e5⟩,e6⟩=> ?_
  .cases hm:cN 0 (aJ (fF cs k (dm (ah l 0)))) (aJ (ah l 1))with
   |inl c=>exact W.of fun n v f=>by cases f
   |inr w=>exact(WC vs cs nr a b line fs out fu dn aB k (dm (ah l 0)) w at0 h.sl h.vl h.cl).mono fun n hx v f=>by cases f;exact hx
  .rw [rf,a0,a1]
   simp only [Â,Y,ez,Z,e0,g,m,r,s];rw [gU,if_neg (show ¬(8:Int)=3 by omega),if_neg (show ¬(8:Int)=4 by omega),if_neg (show ¬(8:Int)=5 by omega),if_neg (show ¬(8:Int)=6 by omega),if_neg (show ¬(8:Int)=7 by omega),if_pos rfl]
   dsimp only
   cases hm:cN 0 (aJ (fF cs k (dm (ah l 0)))) (aJ (ah l 1))with
   |inl c=>
    have u:c=1:=by
     rw [cN,if_pos rfl]at hm;revert hm
     obtain⟨p,q⟩:=fZ (aJ (fF cs k (dm (ah l 0)))) (aJ (ah l 1));cases q<;>intro hm<;>cases hm;rfl
    subst u;exact⟨_,rfl,by omega,rfl⟩
   |inr w=>
    have f:=e5 w hm;subst f;obtain⟨x,f1,f2⟩:=e6 v hm;simp only [gT,show((0:Int)==0)=true from rfl,Y];rw [f1];exact⟨x,rfl,f2⟩
 .have a0:ar l 0=some (ah l 0):=js (i:=0) (by rw [bR]at d;simp at d;omega)
  refine((CC (ah l 0)).and (aDt vs cs nr 0 k (dm (ah l 0)) h.vl h.cl)).nm fun n ⟨g,m⟩=> ?_
  rw [rf,a0];simp only [Â,Y,ez,Z,g,m];exact⟨_,rfl,rfl⟩
theorem iX {l:List V} {c k:Int} {j:Nat} (h:(l.length:Int)=bR c k) (hj:(j:Int)<bR c k):ar l (j:Int)=some (ah l j):=js (by omega)
theorem bD {c j:Int} (h:c≠j):(c==j)=false:=beq_eq_false_iff_ne.2 h
theorem aEU (vs:ae) (cs:ai) (nr:Int) (a b:af) (line:O) (fs:af) (out:O) (fu:Int) (dn:Bool) (aB:List V) (c k:Int) (t:O) (l:List V) (at0:Int) (h:pL vs cs nr line fs out aB) (hl: ∀v∈l,bM v) (ho:tG vs c k t l) (hc:c=1\/c=2\/c=9\/c=10\/c=11\/(12<=c/\c<=29)):
  W fun n=> ∃x,Ak n vs cs nr 0 a b line fs out fu dn aB c k t l=some x/\PO nr a b line fs fu dn (lJ (jw nr line fs c k t l) fun v=>eH ⟨vs,cs,aB,out⟩ at0 v) x:=by
 obtain⟨a8,m,bd,ao,au,bf⟩:=ho;have o0:=eL hl 0;have o1:=eL hl 1;have l0:=kJ o0;have push:=fun v=>tE vs cs nr a b line fs out fu dn aB v at0 h.sl
 rcases hc with rfl|rfl|rfl|rfl|rfl|hc
 .refine((jR k).and (push (nV k))).nm fun n ⟨g,x,d,f⟩=> ?_
  rw [jq,g];simp only [Â,Y,ez,Z,d];exact⟨x,rfl,f⟩
 .refine((kK vs cs nr a b line fs out fu dn 3).and (push (tV t))).nm fun n ⟨g,x,d,f⟩=> ?_
  have d:ej n vs cs nr 0 a b line fs out fu dn aB 2 0 t=some x:=d;rw [jq,g,d,jw,if_neg (show ¬(2:Int)=1 by omega),if_pos rfl]
  by_cases h3:300<t.length
  .rw [hJ (show (300:Int)<(t.length:Int) by omega),if_pos h3]
   exact⟨_,rfl,by omega,rfl⟩
  .rw [hL (show ¬(300:Int)<(t.length:Int) by omega),if_neg h3]
   exact⟨x,rfl,f⟩
 .have a0:ar l 0=some (ah l 0):=iX (j:=0) m (by rw [bR];simp)
  refine((aDD vs cs nr 0 a b line fs out fu dn o0 h.fs).and (push (jT line fs (cP (aJ (ah l 0)))))).nm fun n ⟨g,x,d,f⟩=> ?_
  rw [jq,a0];simp only [Â,Y,ez,Z,g,d];exact⟨x,rfl,f⟩
 .have hw:wrap .i64 (1000000*nr)=1000000*nr:=by have:=h.nr;rw [Á];omega
  refine((jR (1000000*nr)).and (push (nV (1000000*nr)))).nm fun n ⟨g,x,d,f⟩=> ?_
  rw [jq,hw];simp only [Â,Y,ez,Z,g,d];exact⟨x,rfl,f⟩
 .have hw:wrap .i64 (1000000*(fs.length:Int))=1000000*(fs.length:Int):=by have:=h.fs;rw [Á];omega
  refine((jR (1000000*(fs.length:Int))).and (push (nV (1000000*(fs.length:Int))))).nm fun n ⟨g,x,d,f⟩=> ?_
  rw [jq,hw];simp only [Â,Y,ez,Z,g,d];exact⟨x,rfl,f⟩
 by_cases bg:c<=23
 .have ht:bR c k=2:=by rw [bR,if_neg (by omega),if_neg (by omega),if_neg (by omega),if_pos (by omega)]
  have a0:ar l 0=some (ah l 0):=iX (j:=0) m (by omega)
  have a1:ar l 1=some (ah l 1):=iX (j:=1) m (by omega)
  have hv:jw nr line fs c k t l=dP c (ah l 0) (ah l 1):=by
   rw [jw,if_neg (by omega),if_neg (by omega),if_neg (by omega),if_neg (by omega),if_neg (by omega),if_neg (by omega),if_neg (by omega),if_neg (by omega),if_neg (by omega),if_neg (by omega),if_neg (by omega)]
  rw [hv];have hp:W fun n=> ∀v,dP c (ah l 0) (ah l 1)=.inr v-> ∃x,ej n vs cs nr 0 a b line fs out fu dn aB v.1 v.2.1 v.2.2=some x/\PO nr a b line fs fu dn (eH ⟨vs,cs,aB,out⟩ at0 v) x:=by
   cases hm:dP c (ah l 0) (ah l 1)with
   |inl c=>exact W.of fun n v hv=>by cases hv
   |inr w=>exact(push w).mono fun n hx v hv=>by cases hv;exact hx
  have fin: ∀n (v:V),(∀w,dP c (ah l 0) (ah l 1)=.inr w->v=w)->(∀v,dP c (ah l 0) (ah l 1)=.inr v-> ∃x,ej n vs cs nr 0 a b line fs out fu dn aB v.1 v.2.1 v.2.2=some x/\PO nr a b line fs fu dn (eH ⟨vs,cs,aB,out⟩ at0 v) x)->(∀q,dP c (ah l 0) (ah l 1)=.inl q->q≠0)->
    ∃x,cond (gT (dP c (ah l 0) (ah l 1))==(0:Int)) ((ej n vs cs nr (gT (dP c (ah l 0) (ah l 1))) a b line fs out fu dn aB v.1 v.2.1 v.2.2).bind fun s=>some (s.1,s.2.1,s.2.2.1,s.2.2.2.1,s.2.2.2.2.1,s.2.2.2.2.2.1,s.2.2.2.2.2.2.1,s.2.2.2.2.2.2.2.1,s.2.2.2.2.2.2.2.2.1,s.2.2.2.2.2.2.2.2.2.1,s.2.2.2.2.2.2.2.2.2.2.1,s.2.2.2.2.2.2.2.2.2.2.2)) (some (vs,cs,nr,gT (dP c (ah l 0) (ah l 1)),a,b,line,fs,out,fu,dn,aB))=some x/\PO nr a b line fs fu dn (lJ (dP c (ah l 0) (ah l 1)) fun v=>eH ⟨vs,cs,aB,out⟩ at0 v) x:=fun n v q1 q2 q3=>by
   cases hm:dP c (ah l 0) (ah l 1)with
   |inl q=>
    have:=q3 q hm;rw [show (gT (ÿ q)==(0:Int))=false from bD this];exact⟨_,rfl,this,rfl⟩
   |inr w=>
    have hv:=q1 w hm;subst hv;obtain⟨x,f1,f2⟩:=q2 v hm;simp only [gT,show((0:Int)==0)=true from rfl,Y,f1];exact⟨x,rfl,f2⟩
  have u: ∀q,dP c (ah l 0) (ah l 1)=.inl q->q≠0:=fun q i=>by
   have z: ∀r:Int×Bool,pF r=.inl q->q≠0:=fun r hr=>by
    obtain⟨r1,r2⟩:=r;cases r2
    .cases hr;omega
    .cases hr
   unfold dP at i;split at i
   .unfold cN at i
    split at i
    .exact z _ i
    split at i
    .exact z _ i
    split at i
    .exact z _ i
    split at i
    .cases i;omega
    split at i
    .cases i
    .exact z _ i
   split at i
   .split at i
    .cases i;omega
    .cases i
   .cases i
  by_cases ad:c=17
  .subst ad
   refine((aDL vs cs nr a b line fs out fu dn o0 o1).and hp).nm fun n ⟨⟨v,g,d⟩,f⟩=> ?_
   rw [jq,a0,a1];simp only [Â,Y,ez,Z,g];exact fin n v d f u
  by_cases ag:c<=16
  .have al:dP c (ah l 0) (ah l 1)=cN (c-12) (aJ (ah l 0)) (aJ (ah l 1)):=by rw [dP,if_pos ag]
   have hw:wrap .i64 (c-12)=c-12:=by rw [Á];omega
   refine((((jr o0.2.1).and (jr o1.2.1)).and (KP vs cs nr a b line fs out fu dn (c-12) (aJ (ah l 0)) (aJ (ah l 1)) (by omega))).and hp).nm fun n ⟨⟨⟨g,d⟩,v,f,p⟩,e5⟩=> ?_
   rw [<-al]at f p;rw [jq,a0,a1,hw,bD (show c≠1 by omega),bD (show c≠2 by omega),bD (show c≠9 by omega),bD (show c≠10 by omega),bD (show c≠11 by omega),bD ad,bD (show c≠24 by omega),bD (show c≠25 by omega),bD (show c≠26 by omega),bD (show c≠27 by omega),bD (show c≠28 by omega),bD (show c≠29 by omega),hJ ag]
   simp only [Y,ez,Z,g,d,f];exact fin n v p e5 u
  .have al:dP c (ah l 0) (ah l 1)=.inr (bV (nM (c-18) (fS (ah l 0) (ah l 1)))):=by rw [dP,if_neg ag,if_neg ad]
   have hw:wrap .i64 (c-18)=c-18:=by rw [Á];omega
   refine((aDM (c-18) o0 o1 (by omega)).and (push (bV (nM (c-18) (fS (ah l 0) (ah l 1)))))).nm fun n ⟨g,x,d,f⟩=> ?_
   rw [al,jq,a0,a1,hw,bD (show c≠1 by omega),bD (show c≠2 by omega),bD (show c≠9 by omega),bD (show c≠10 by omega),bD (show c≠11 by omega),bD ad,bD (show c≠24 by omega),bD (show c≠25 by omega),bD (show c≠26 by omega),bD (show c≠27 by omega),bD (show c≠28 by omega),bD (show c≠29 by omega),hL ag]
   simp only [Y,ez,Z,g,show((0:Int)==0)=true from rfl,d];exact⟨x,rfl,f⟩
 have ax:c=24\/c=25\/c=26\/c=27\/c=28\/c=29:=by omega
 rcases ax with rfl|rfl|rfl|rfl|rfl|rfl
 .have a0:ar l 0=some (ah l 0):=iX (j:=0) m (by rw [bR];simp)
  refine(((iS (ah l 0)).and (WA t (aH (ah l 0)) (ao (.inl rfl)) (by omega))).and (push (bV (kL t (aH (ah l 0)))))).nm fun n ⟨⟨g,d⟩,x,f,p⟩=> ?_
  rw [jq,a0];simp only [Â,Y,ez,Z,g,d,f];exact⟨x,rfl,p⟩
 .refine((WA t line (ao (.inr rfl)) h.line).and (push (bV (kL t line)))).nm fun n ⟨d,x,f,p⟩=> ?_
  rw [jq];simp only [Â,Y,ez,Z,d,f];exact⟨x,rfl,p⟩
 .have a0:ar l 0=some (ah l 0):=iX (j:=0) m (by rw [bR];simp)
  refine(((KG (ah l 0)).and (CB (!gO (ah l 0)))).and (push (bV (!gO (ah l 0))))).nm fun n ⟨⟨g,d⟩,x,f,p⟩=> ?_
  rw [jq,a0];simp only [Â,Y,ez,Z,g,d,f];exact⟨x,rfl,p⟩
 .have a0:ar l 0=some (ah l 0):=iX (j:=0) m (by rw [bR];simp)
  have hw:wrap .i64 (0-aJ (ah l 0))=0-aJ (ah l 0):=by have:=ee (jL o0);rw [Á];omega
  refine(((jr o0.2.1).and (jR (0-aJ (ah l 0)))).and (push (nV (0-aJ (ah l 0))))).nm fun n ⟨⟨g,d⟩,x,f,p⟩=> ?_
  rw [jq,a0];simp only [Â,Y,ez,Z,g,hw,d,f];exact⟨x,rfl,p⟩
 .have a0:ar l 0=some (ah l 0):=iX (j:=0) m (by rw [bR];simp)
  refine(((KG (ah l 0)).and (CB (gO (ah l 0)))).and (push (bV (gO (ah l 0))))).nm fun n ⟨⟨g,d⟩,x,f,p⟩=> ?_
  rw [jq,a0];simp only [Â,Y,ez,Z,g,d,f];exact⟨x,rfl,p⟩
 .obtain⟨p1,p2,p3⟩:=au rfl
  have ht:bR 29 k=k:=by rw [bR];simp
  refine((aDY t l hl (by omega) p3).and (push (iT t l))).nm fun n ⟨d,x,f,p⟩=> ?_
  rw [jq];simp only [Â,Y,ez,Z,d,f];exact⟨x,rfl,p⟩
def Lm (nr:Int) (a b:af) (line:O) (fs:af) (fu:Int) (dn:Bool) (r:gF) (x:Int×Bool×WS):Prop:=match r with
 |.err c=>c≠0/\x.2.2.2.2.2.1=c
 |.halt s=>x.2.1=false/\x.2.2=xw nr a b line fs fu dn s
 |.go k s=>x=(k,true,xw nr a b line fs fu dn s)
def xx (vs:List V) (c k:Int) (t:O):Prop:=In c 1 36/\(c=3\/c=4\/c=5->0<=k/\k<(vs.length:Int))/\(c=1->aX k)/\(c=24\/c=25->(gN t).2.2.2.2.2=true)/\(c=29->1<=k/\k<=3/\t∈iG)/\(c=33->k=0\/k=1)
theorem WG {vs:List V} {c k:Int} {t:O} (h:xx vs c k t):0<=bR c k/\bR c k<=3:=by
 unfold bR;split
 .omega
 split
 .omega
 split
 .rename_i b
  have:=h.2.2.2.2.1 b;omega
 split<;>omega
def mP (r:gF) (at0:Int):Prop:=match r with
 |.go j _=>j=at0
 |.halt _=>False
 |.err _=>True
theorem rz (s:cY) (at0:Int) (v:V):mP (eH s at0 v) at0:=by
 unfold eH;split
 .exact trivial
 .exact rfl
theorem yr (s:cY) (at0 k:Int) (key:O) (v:V):mP (jv s at0 k key v) at0:=by
 unfold jv;split
 .exact trivial
 .exact rz _ _ _
theorem CZ {r:Sum Int V} {f:V->gF} {at0:Int} (h: ∀v,mP (f v) at0):mP (lJ r f) at0:=by
 cases r
 .exact trivial
 .exact h _
theorem Ln (s:cY) (at0 c k:Int) (l:List V):mP (gU s at0 c k l) at0:=by
 unfold gU;repeat' split
 .exact rz _ _ _
 .exact rz _ _ _
 .exact CZ fun v=>rz _ _ _
 .exact rz _ _ _
 .exact yr _ _ _ _ _
 .exact CZ fun v=>yr _ _ _ _ _
 .exact rfl
theorem WH {nr:Int} {a b:af} {line:O} {fs:af} {fu:Int} {dn:Bool} {r:gF} {x:WS} {at0:Int} (h:PO nr a b line fs fu dn r x) (d:mP r at0):Lm nr a b line fs fu dn r (at0,true,x):=by
 cases r with
 |err c=>exact h
 |halt s=>exact absurd h id
 |go j s=>
  have h:x=xw nr a b line fs fu dn s:=h;have d:j=at0:=d;subst h d;exact rfl
theorem Lp (at0:Int) (n:Nat) (vs:ae) (cs:ai) (nr:Int) (a b:af) (line:O) (fs:af) (out:O) (fu:Int) (dn:Bool) (aB:List V) (t:O) (e:mo n vs cs nr 0 a b line fs out fu dn t=some (cond (decide (600<out.length+t.length)) (vs,cs,nr,cond ((0:Int)==0) 5 0,a,b,line,fs,out,fu,dn) (vs,cs,nr,0,a,b,line,fs,out++t,fu,dn))):
  ∃w,mo n vs cs nr 0 a b line fs out fu dn t=some w/\Lm nr a b line fs fu dn (fr ⟨vs,cs,aB,out⟩ at0 t) (at0,true,w.1,w.2.1,w.2.2.1,w.2.2.2.1,w.2.2.2.2.1,w.2.2.2.2.2.1,w.2.2.2.2.2.2.1,w.2.2.2.2.2.2.2.1,w.2.2.2.2.2.2.2.2.1,w.2.2.2.2.2.2.2.2.2.1,w.2.2.2.2.2.2.2.2.2.2,aB):=by
 rw [e];refine⟨_,rfl, ?_⟩
 unfold fr;dsimp only
 by_cases h:600<out.length+t.length
 .rw [hJ h,if_pos h];exact⟨by omega,rfl⟩
 .rw [hL h,if_neg h];exact rfl
theorem aEV (vs:ae) (cs:ai) (nr:Int) (a b:af) (line:O) (fs:af) (out:O) (fu:Int) (dn:Bool) (aB:List V) (c k:Int) (t:O) (at0:Int) (h:pL vs cs nr line fs out aB) (ho:xx vs c k t) (ha:0<=at0/\at0<=1000000):
  W fun n=> ∃x,Ae n vs cs nr 0 a b line fs out fu dn aB c k t at0=some x/\Lm nr a b line fs fu dn (gW nr line fs ⟨vs,cs,aB,out⟩ at0 c k t) x:=by
 obtain⟨t0,t3⟩:=WG ho;have bm:=h.sl;have z:wrap .i64 (at0+1)=at0+1:=by rw [Á];omega
 have hw:wrap .i64 ((aB.length:Int)-bR c k)=(aB.length:Int)-bR c k:=by rw [Á];omega
 by_cases hs:(aB.length:Int)<bR c k
 .refine((WD c k t).and (kK vs cs nr a b line fs out fu dn 7)).nm fun n ⟨m,e2⟩=> ?_
  rw [mD,m,Z,hw,hJ (by omega),Y,e2,gW,if_pos hs]
  exact⟨_,rfl,by omega,rfl⟩
 obtain⟨j,hj⟩: ∃j:Nat,j=aB.length-(bR c k).toNat:=⟨_,rfl⟩
 have bn:j<=aB.length:=by omega
 have p:(aB.length:Int)-bR c k=(j:Int):=by omega
 obtain⟨l,hl⟩: ∃l,l=aB.drop j:=⟨_,rfl⟩
 obtain⟨s',ao⟩: ∃s',s'=aB.take j:=⟨_,rfl⟩
 have aw: ∀v∈l,bM v:=fun v hv=>h.s v (Þ (hl▸hv))
 have aj:(l.length:Int)=bR c k:=by rw [hl,ò];omega
 have h':pL vs cs nr line fs out s':=⟨h.v,h.vl,h.c,h.cl,h.nr,h.line,h.fs,h.out,fun v hv=>h.s v (Ú (ao▸hv)),by rw [ao,Ü];omega⟩
 have a1:tG vs c k t l:=⟨ho.2.1,aj,ho.2.2.1,ho.2.2.2.1,ho.2.2.2.2.1,ho.2.2.2.2.2⟩;have o0:=eL aw 0;have l0:=kJ o0;have bd:gW nr line fs ⟨vs,cs,aB,out⟩ at0 c k t=gV nr line fs ⟨vs,cs,s',out⟩ at0 c k t l:=by rw [gW,if_neg hs];dsimp only;rw [<-hj,<-hl,<-ao]
 rw [bd];have q:(aB.drop (Ì (j:Int))).take (aB.length-Ì (j:Int))=l:=by rw [Ã,CE,hl]
 have r:aB.take (Ì (j:Int))=s':=by rw [Ã,ao]
 have u:þ (Ì (j:Int)) aB.length=true:=Ô (by omega)
 have f:decide ((0:Int)<=(j:Int)/\(j:Int)<=(aB.length:Int))=true:=hJ (by omega)
 have d:=WD c k t;have g:decide ((j:Int)<0)=false:=hL (by omega)
 have i:þ (0+l.length) aC=true:=bS (by omega)
 have d0:1<=l.length->decide ((0:Int)<=0/\(0:Int)<(l.length:Int))=true:=fun h=>hJ (by omega)
 have a0:1<=l.length->aN l 0=some (ah l 0):=fun h=>by
  show l[0]? =_;rw [ah,Æ,Ä (show 0<l.length by omega)];rfl
 by_cases ak:c=36
 .subst ak
  refine d.nm fun n m=> ?_
  rw [mD,m,Z,hw,p,g,q,r,u,i,f];exact⟨_,rfl,rfl,rfl⟩
 by_cases al:c=30
 .subst al
  refine d.nm fun n m=> ?_
  rw [mD,m,Z,hw,p,g,q,r,u,i,f];exact⟨_,rfl,rfl⟩
 by_cases aq:c=31
 .subst aq
  have h1:1<=l.length:=by rw [bR]at aj;simp at aj;omega
  refine(d.and (KG (ah l 0))).nm fun n ⟨m,e2⟩=> ?_
  rw [mD,m,Z,hw,p,g,q,r,u,i,f,d0 h1,a0 h1,z];simp only [Â,Y,ez,Z,e2];rw [gV,if_neg ak,if_neg al,if_pos rfl];cases gO (ah l 0)
  .exact⟨_,rfl,rfl⟩
  .exact⟨_,rfl,rfl⟩
 by_cases au:c=32
 .subst au
  refine d.nm fun n m=> ?_
  rw [mD,m,Z,hw,p,g,q,r,u,i,f,z];exact⟨_,rfl,rfl⟩
 by_cases ax:c=33
 .subst ax
  have h1:1<=l.length:=by rw [bR]at aj;simp at aj;omega
  rw [gV,if_neg ak,if_neg al,if_neg aq,if_neg au,if_pos rfl];by_cases k1:k=1
  .subst k1
   rw [if_pos rfl];by_cases a6:600<out.length+1
   .have hf:fr ⟨vs,cs,s',out⟩ (at0+1) ([32]++aH (ah l 0))=.err 5:=by
     unfold fr;rw [if_pos];rw [À];show 600<out.length+(1+(aH (ah l 0)).length);omega
    refine(((d.and (iS (ah l 0))).and (tF vs cs nr 0 a b line fs out fu dn [32] h.out (by simp))).and (tF vs cs nr 5 a b line fs out fu dn (aH (ah l 0)) h.out (by omega))).nm fun n ⟨⟨⟨m,e2⟩,e3⟩,e4⟩=> ?_
    rw [hJ (show 600<out.length+([32]:O).length from a6)]at e3;have e3:mo n vs cs nr 0 a b line fs out fu dn [32]=some (vs,cs,nr,5,a,b,line,fs,out,fu,dn):=e3;rw [mD,m,Z,hw,p,g,q,r,u,i,f,d0 h1,a0 h1,z];simp only [Â,Y,ez,Z,e3,e2,e4];rw [hf];cases decide (600<out.length+(aH (ah l 0)).length)
    .exact⟨_,rfl,by omega,rfl⟩
    .exact⟨_,rfl,by omega,rfl⟩
   .have hf:fr ⟨vs,cs,s',out⟩ (at0+1) ([32]++aH (ah l 0))=fr ⟨vs,cs,s',out++[32]⟩ (at0+1) (aH (ah l 0)):=by
     unfold fr;dsimp only
     rw [Ë,À,À,Nat.add_assoc]
    refine(((d.and (iS (ah l 0))).and (tF vs cs nr 0 a b line fs out fu dn [32] h.out (by simp))).and (tF vs cs nr 0 a b line fs (out++[32]) fu dn (aH (ah l 0)) (by rw [À,Õ];omega) (by omega))).nm fun n ⟨⟨⟨m,e2⟩,e3⟩,e4⟩=> ?_
    rw [hL (show ¬600<out.length+([32]:O).length from a6)]at e3;obtain⟨w,f1,f2⟩:=Lp (at0+1) n vs cs nr a b line fs (out++[32]) fu dn s' (aH (ah l 0)) e4;have e3:mo n vs cs nr 0 a b line fs out fu dn [32]=some (vs,cs,nr,0,a,b,line,fs,out++[32],fu,dn):=e3;rw [mD,m,Z,hw,p,g,q,r,u,i,f,d0 h1,a0 h1,z];simp only [Â,Y,ez,Z,e3,e2,f1];rw [hf];exact⟨_,rfl,f2⟩
  .rw [if_neg k1,á]
   refine((d.and (iS (ah l 0))).and (tF vs cs nr 0 a b line fs out fu dn (aH (ah l 0)) h.out (by omega))).nm fun n ⟨⟨m,e2⟩,e4⟩=> ?_
   obtain⟨w,f1,f2⟩:=Lp (at0+1) n vs cs nr a b line fs out fu dn s' (aH (ah l 0)) e4;rw [mD,m,Z,hw,p,g,q,r,u,i,f,d0 h1,a0 h1,z,bD k1];simp only [Â,Y,ez,Z,e2,f1];exact⟨_,rfl,f2⟩
 by_cases az:c=34
 .subst az
  refine(d.and (tF vs cs nr 0 a b line fs out fu dn [10] h.out (by simp))).nm fun n ⟨m,e4⟩=> ?_
  obtain⟨w,f1,f2⟩:=Lp (at0+1) n vs cs nr a b line fs out fu dn s' [10] e4;rw [mD,m,Z,hw,p,g,q,r,u,i,f,z];simp only [Â,Y,ez,Z,f1];exact⟨_,rfl,f2⟩
 have cn: ∀n,Af n c k t=some (bR c k)->Ae (n+1) vs cs nr 0 a b line fs out fu dn aB c k t at0=cond (decide (c=3\/c=4\/c=5\/c=6\/c=7\/c=8\/c=35)) ((my n vs cs nr 0 a b line fs out fu dn s' c k t l).bind fun y=>some (at0+1,true,y)) ((Ak n vs cs nr 0 a b line fs out fu dn s' c k t l).bind fun y=>some (at0+1,true,y)):=fun n m=>by
  rw [mD,m,Z,hw,p,g,q,r,u,i,f,z,bD ak,bD al,bD aq,bD au,bD ax,bD az];by_cases d3:c=3\/c=4\/c=5\/c=6\/c=7\/c=8\/c=35
  .rw [hJ d3]
   rcases d3 with rfl|rfl|rfl|rfl|rfl|rfl|rfl<;>rfl
  .rw [hL d3,bD (show c≠3 by omega),bD (show c≠4 by omega),bD (show c≠5 by omega),bD (show c≠6 by omega),bD (show c≠7 by omega),bD (show c≠8 by omega),bD (show c≠35 by omega)]
   rfl
 have hd:gV nr line fs ⟨vs,cs,s',out⟩ at0 c k t l=if c=3\/c=4\/c=5\/c=6\/c=7\/c=8\/c=35 then gU ⟨vs,cs,s',out⟩ (at0+1) c k l else lJ (jw nr line fs c k t l) fun v=>eH ⟨vs,cs,s',out⟩ (at0+1) v:=by
  rw [gV,if_neg ak,if_neg al,if_neg aq,if_neg au,if_neg ax,if_neg az]
 rw [hd];by_cases d3:c=3\/c=4\/c=5\/c=6\/c=7\/c=8\/c=35
 .refine(d.and (aET vs cs nr a b line fs out fu dn s' c k t l (at0+1) h' aw a1 d3)).nm fun n ⟨m,x,e2,e3⟩=> ?_
  rw [cn n m,hJ d3,Y,e2,if_pos d3];exact⟨_,rfl,WH e3 (Ln _ _ _ _ _)⟩
 .have bp:=ho.1.1
  have bk:=ho.1.2;refine(d.and (aEU vs cs nr a b line fs out fu dn s' c k t l (at0+1) h' aw a1 (by omega))).nm fun n ⟨m,x,e2,e3⟩=> ?_
  rw [cn n m,hL d3,ez,e2,if_neg d3];exact⟨_,rfl,WH e3 (CZ fun v=>rz _ _ _)⟩
abbrev WI:=ae×(ai×Int×Int×O×O×ae×Int)
def xy (nr:Int) (line:O) (s:cY):WI:=(s.vs,s.cs,nr,0,line,s.out,s.aB,0)
def IO (nr:Int) (line:O) (r:gF) (x:WI):Prop:=match r with
 |.err c=>c≠0/\x.2.2.2.2.2.2.2=c
 |.halt _=>False
 |.go _ s=>x=xy nr line s
theorem WJ (vs:ae) (cs:ai) (nr er:Int) (line out:O) (aB:List V) (err c:Int):W fun n=>kF n vs cs nr er line out aB err c=some (vs,cs,nr,er,line,out,aB,cond (err==0) c err):=W.succ (W.of fun n=>by
 rw [axU];cases err==0<;>rfl)
theorem pM (vs:ae) (cs:ai) (nr:Int) (line out:O) (aB:List V) (c:Int):W fun n=>kF n vs cs nr 0 line out aB 0 c=some (vs,cs,nr,0,line,out,aB,c):=WJ vs cs nr 0 line out aB 0 c
theorem Da (vs:ae) (cs:ai) (nr:Int) (line out:O) (aB:List V) (v:V) (at0:Int) (b:aB.length<=64):W fun n=> ∃x,fm n vs cs nr 0 line out aB 0 v.1 v.2.1 v.2.2=some x/\IO nr line (eH ⟨vs,cs,aB,out⟩ at0 v) x:=by
 refine(pM vs cs nr line out aB 7).nm fun n e=> ?_
 rw [axY];by_cases h:aB.length=64
 .rw [hJ (show (64:Int)<=(aB.length:Int) by omega),Y,e,eH,if_pos h]
  exact⟨_,rfl,by omega,rfl⟩
 .rw [hL (show ¬(64:Int)<=(aB.length:Int) by omega),ez,bS (by omega),eH,if_neg h]
  exact⟨_,rfl,rfl⟩
theorem WK (vs:ae) (cs:ai) (nr:Int) (line out:O) (aB:List V) (k:Int) (key:O) (v:V) (at0:Int) (i:aB.length<=64) (g:vs.length<=1048576) (h:cs.length<=1048576):W fun n=> ∃x,sW n vs cs nr 0 line out aB 0 k key v.1 v.2.1 v.2.2=some x/\IO nr line (jv ⟨vs,cs,aB,out⟩ at0 k key v) x:=by
 cases hp:lI cs k key v with
 |none=>
  refine((Vz vs cs nr 0 k key v g h).and (pM vs cs nr line out aB 4)).nm fun n ⟨b,d⟩=> ?_
  rw [JY,b,hp,jv,hp];simp only [mL,Z,ë,Y,d];exact⟨_,rfl,by omega,rfl⟩
 |some f=>
  refine((Vz vs cs nr 0 k key v g h).and (Da vs f nr line out aB v at0 i)).nm fun n ⟨b,x,d,j⟩=> ?_
  rw [JY,b,hp,jv,hp];simp only [mL,Z,È,ez,d];exact⟨x,rfl,j⟩
theorem aEW (n:Nat) (vs:ae) (cs:ai) (nr er:Int) (line out:O) (aB:List V) (err k:Int) (key:O) (x y:Int) (z:O) (h:err≠0):sW (n+1) vs cs nr er line out aB err k key x y z=some (vs,cs,nr,er,line,out,aB,err):=by
 rw [JY,show(err !=0)=true by simpa using h];rfl
theorem Db (vs:ae) (cs:ai) (nr:Int) (line out:O) (aB:List V) (err:Int) (t:O) (b:out.length<=2000) (d:t.length<=1048576):W fun n=>sX n vs cs nr 0 line out aB err t=some (vs,cs,nr,0,line,out++t,aB,cond (decide (600<out.length+t.length)) (cond (err==0) 5 err) err):=by
 refine(WJ vs cs nr 0 line (out++t) aB err 5).nm fun n e=> ?_
 rw [ayL,ng (by omega),e,À]
 by_cases h:600<out.length+t.length
 .rw [hJ (show (600:Int)<((out.length+t.length:Nat):Int) by omega),hJ h];rfl
 .rw [hL (show ¬(600:Int)<((out.length+t.length:Nat):Int) by omega),hL h];rfl
theorem WL (vs:ae) (cs:ai) (nr:Int) (line out:O) (aB:List V) {x y:V} (b:bM x) (hy:bM y):W fun n=> ∃v:V,Bp n vs cs nr 0 line out aB 0 x.1 x.2.1 x.2.2 y.1 y.2.1 y.2.2=some (v.1,v.2.1,v.2.2,vs,cs,nr,0,line,out,aB,gT (cN 0 (aJ x) (aJ y)))/\ ∀w,cN 0 (aJ x) (aJ y)=.inr w->v=w:=by
 refine(((((nJ b.2.1).and (nJ hy.2.1)).and (Vq (aJ x) (aJ y))).and (pM vs cs nr line out aB 1)).and (mJ (fZ (aJ x) (aJ y)).1)).nm fun n ⟨⟨⟨⟨d,f⟩,g⟩,h⟩,i⟩=> ?_
 rw [axZ,d,Z,f,Z,g,Z,h,i,cN,if_pos rfl];obtain⟨p,q⟩:=fZ (aJ x) (aJ y);cases q
 .exact⟨nV p,rfl,fun w k=>by cases k⟩
 .exact⟨nV p,rfl,fun w k=>by cases k;rfl⟩
theorem WM {x y c:Int} (hm:cN 0 x y=.inl c):c=1:=by
 rw [cN,if_pos rfl]at hm;revert hm
 obtain⟨p,q⟩:=fZ x y;cases q<;>intro hm<;>cases hm;rfl
theorem Dc (v:V):W fun n=> ∃s,gS n v.1 v.2.1 v.2.2=some s/\ph n s=some (dm v):=by
 refine((mK v).and (Vs (aH v))).mono fun n ⟨b,d⟩=>⟨aH v,b,d⟩
theorem aEX (vs:ae) (cs:ai) (nr:Int) (line out:O) (aB:List V) (fs:List O) (c k:Int) (t:O) (l:List V) (at0:Int) (h:pL vs cs nr line fs out aB) (hl: ∀v∈l,bM v) (ho:tG vs c k t l) (u:c=4\/c=5\/c=7\/c=8\/c=35\/c=33\/c=34):
  W fun n=> ∃x,nD n vs cs nr 0 line out aB 0 c k t l=some x/\IO nr line (if c=33 then fr ⟨vs,cs,aB,out⟩ at0 ((if k=1 then [32]else [])++aH (ah l 0))else if c=34 then fr ⟨vs,cs,aB,out⟩ at0 [10]else gU ⟨vs,cs,aB,out⟩ at0 c k l) x:=by
 obtain⟨z,b, -⟩:=ho;have o0:=eL hl 0;have o1:=eL hl 1;have l0:=kJ o0;rcases u with rfl|rfl|rfl|rfl|rfl|rfl|rfl
 .obtain⟨p,q⟩:=z (.inr (.inl rfl))
  have a0:ar l 0=some (ah l 0):=iX (j:=0) b (by rw [bR];simp)
  refine(Da (vs.set k.toNat (ah l 0)) cs nr line out aB (ah l 0) at0 h.sl).nm fun n ⟨x,e,e'⟩=> ?_
  rw [px,pK p q,pJ p q,a0];simp only [Z];have e:fm n (vs.set (Ì k) ((ah l 0).1,(ah l 0).2.1,(ah l 0).2.2)) cs nr 0 line out aB 0 (ah l 0).1 (ah l 0).2.1 (ah l 0).2.2=some x:=e;rw [e];exact⟨x,rfl,e'⟩
 .obtain⟨p,q⟩:=z (.inr (.inr rfl))
  have a0:ar l 0=some (ah l 0):=iX (j:=0) b (by rw [bR];simp)
  have ov:=eL h.v k.toNat;refine((WL vs cs nr line out aB ov o0).and (show W fun n=> ∀v,cN 0 (aJ (ah vs k.toNat)) (aJ (ah l 0))=.inr v-> ∃x,fm n (vs.set k.toNat v) cs nr 0 line out aB 0 v.1 v.2.1 v.2.2=some x/\IO nr line (eH ⟨vs.set k.toNat v,cs,aB,out⟩ at0 v) x from ?_)).nm fun n ⟨⟨v,e3,e4⟩,e5⟩=> ?_
  .cases hm:cN 0 (aJ (ah vs k.toNat)) (aJ (ah l 0))with
   |inl c=>exact W.of fun n v f=>by cases f
   |inr w=>exact(Da (vs.set k.toNat w) cs nr line out aB w at0 h.sl).mono fun n hx v f=>by cases f;exact hx
  .rw [px,pK p q,pJ p q,a0]
   simp only [Â,Y,ez,Z,e3];rw [if_neg (show ¬(5:Int)=33 by omega),if_neg (show ¬(5:Int)=34 by omega),gU,if_neg (show ¬(5:Int)=3 by omega),if_neg (show ¬(5:Int)=4 by omega),if_pos rfl]
   dsimp only
   cases hm:cN 0 (aJ (ah vs k.toNat)) (aJ (ah l 0))with
   |inl c=>
    have u:=WM hm;subst u;exact⟨_,rfl,by omega,rfl⟩
   |inr w=>
    have f:=e4 w hm;subst f;obtain⟨x,f1,f2⟩:=e5 v hm;rw [pK p q];simp only [gT,show((0:Int)==0)=true from rfl,Y];rw [pJ p q,Z];have f1:fm n (vs.set (Ì k) (v.1,v.2.1,v.2.2)) cs nr 0 line out aB 0 v.1 v.2.1 v.2.2=some x:=f1;rw [f1];exact⟨x,rfl,f2⟩
 .have a0:ar l 0=some (ah l 0):=iX (j:=0) b (by rw [bR];simp)
  have a1:ar l 1=some (ah l 1):=iX (j:=1) b (by rw [bR];simp)
  refine((Dc (ah l 0)).and (WK vs cs nr line out aB k (dm (ah l 0)) (ah l 1) at0 h.sl h.vl h.cl)).nm fun n ⟨⟨s,i,m⟩,x,e3,e4⟩=> ?_
  rw [px,a0,a1];simp only [Â,Y,ez,Z,i,m,e3];exact⟨x,rfl,e4⟩
 .have a0:ar l 0=some (ah l 0):=iX (j:=0) b (by rw [bR];simp)
  have a1:ar l 1=some (ah l 1):=iX (j:=1) b (by rw [bR];simp)
  have og:bM (fF cs k (dm (ah l 0))):=Ll h.c;refine((((Dc (ah l 0)).and (Vu vs cs nr 0 k (dm (ah l 0)) h.cl)).and (WL vs cs nr line out aB og o1)).and ((W.ge 1).and (show W fun n=> ∀v,cN 0 (aJ (fF cs k (dm (ah l 0)))) (aJ (ah l 1))=.inr v-> ∃x,sW n vs cs nr 0 line out aB 0 k (dm (ah l 0)) v.1 v.2.1 v.2.2=some x/\IO nr line (jv ⟨vs,cs,aB,out⟩ at0 k (dm (ah l 0)) v) x from ?_))).nm fun n ⟨⟨⟨⟨s,i,m⟩,g⟩,v,e4,e5⟩,hn,e6⟩=> ?_
  .cases hm:cN 0 (aJ (fF cs k (dm (ah l 0)))) (aJ (ah l 1))with
   |inl c=>exact W.of fun n v f=>by cases f
   |inr w=>exact(WK vs cs nr line out aB k (dm (ah l 0)) w at0 h.sl h.vl h.cl).mono fun n hx v f=>by cases f;exact hx
  .obtain⟨n,rfl⟩: ∃q,n=q+1:=⟨n-1,by omega⟩
   rw [px,a0,a1];simp only [Â,Y,ez,Z,i,m,g,e4];rw [if_neg (show ¬(8:Int)=33 by omega),if_neg (show ¬(8:Int)=34 by omega),gU,if_neg (show ¬(8:Int)=3 by omega),if_neg (show ¬(8:Int)=4 by omega),if_neg (show ¬(8:Int)=5 by omega),if_neg (show ¬(8:Int)=6 by omega),if_neg (show ¬(8:Int)=7 by omega),if_pos rfl]
   dsimp only
   cases hm:cN 0 (aJ (fF cs k (dm (ah l 0)))) (aJ (ah l 1))with
   |inl c=>
    have u:=WM hm;subst u;rw [aEW _ _ _ _ _ _ _ _ _ _ _ _ _ _ (show gT (.inl 1)≠0 from by decide)]
    exact⟨_,rfl,by omega,rfl⟩
   |inr w=>
    have f:=e5 w hm;subst f;obtain⟨x,f1,f2⟩:=e6 v hm;simp only [gT];rw [f1];exact⟨x,rfl,f2⟩
 .have a0:ar l 0=some (ah l 0):=iX (j:=0) b (by rw [bR];simp)
  refine((Dc (ah l 0)).and (aDu vs cs nr 0 k (dm (ah l 0)) h.vl h.cl)).nm fun n ⟨⟨s,i,m⟩,g⟩=> ?_
  rw [px,a0];simp only [Â,Y,ez,Z,i,m,g];exact⟨_,rfl,rfl⟩
 .have a0:ar l 0=some (ah l 0):=iX (j:=0) b (by rw [bR];simp)
  have ho:=h.out;rw [if_pos rfl];by_cases k1:k=1
  .subst k1
   rw [if_pos rfl];obtain⟨i,r⟩: ∃i,i=cond (decide (600<out.length+([32]:O).length)) (cond ((0:Int)==0) (5:Int) 0) 0:=⟨_,rfl⟩
   refine(((mK (ah l 0)).and (Db vs cs nr line out aB 0 [32] (by omega) (by simp))).and (Db vs cs nr line (out++[32]) aB i (aH (ah l 0)) (by simp;omega) (by omega))).nm fun n ⟨⟨m,g⟩,e3⟩=> ?_
   rw [<-r]at g;rw [px,a0];simp only [Â,Y,ez,Z,m,g,e3];refine⟨_,rfl, ?_⟩
   unfold fr;dsimp only
   by_cases d:600<out.length+([32]++aH (ah l 0)).length
   .rw [if_pos d]
    refine⟨by omega, ?_⟩
    rw [À]at d;rw [hJ (show 600<(out++([32]:O)).length+(aH (ah l 0)).length by rw [À];omega),Y,r]
    cases decide (600<out.length+([32]:O).length)<;>rfl
   .rw [if_neg d]
    rw [À]at d;rw [hL (show ¬600<(out++([32]:O)).length+(aH (ah l 0)).length by rw [À];omega),ez,r,hL (show ¬600<out.length+([32]:O).length by omega),ez,Ë]
    exact rfl
  .rw [if_neg k1,á]
   refine((mK (ah l 0)).and (Db vs cs nr line out aB 0 (aH (ah l 0)) (by omega) (by omega))).nm fun n ⟨m,g⟩=> ?_
   rw [px,a0,bD k1];simp only [Â,Y,ez,Z,m,g];refine⟨_,rfl, ?_⟩
   unfold fr;dsimp only
   by_cases d:600<out.length+(aH (ah l 0)).length
   .rw [if_pos d,hJ d];exact⟨by omega,rfl⟩
   .rw [if_neg d,hL d];exact rfl
 .have ho:=h.out
  refine(Db vs cs nr line out aB 0 [10] (by omega) (by simp)).nm fun n g=> ?_
  rw [px,g,if_neg (show ¬(34:Int)=33 by omega),if_pos rfl]
  refine⟨_,rfl, ?_⟩
  unfold fr;dsimp only
  by_cases d:600<out.length+([10]:O).length
  .rw [if_pos d,hJ d];exact⟨by omega,rfl⟩
  .rw [if_neg d,hL d];exact rfl
theorem tH {l:List V} {c k:Int} {j:Nat} (h:(l.length:Int)=bR c k) (hj:(j:Int)<bR c k):aN l j=some (ah l j):=by
 show l[j]? =_;rw [ah,Æ,Ä (show j<l.length by omega)];rfl
theorem aEY {c q:Int} {x y:V} (b:dP c x y=.inl q):q≠0:=by
 have d: ∀r:Int×Bool,pF r=.inl q->q≠0:=fun r f=>by
  obtain⟨h,g⟩:=r;cases g
  .cases f;omega
  .cases f
 unfold dP at b;split at b
 .unfold cN at b
  split at b
  .exact d _ b
  split at b
  .exact d _ b
  split at b
  .exact d _ b
  split at b
  .cases b;omega
  split at b
  .cases b
  .exact d _ b
 split at b
 .split at b
  .cases b;omega
  .cases b
 .cases b
theorem aEZ (vs:ae) (cs:ai) (nr:Int) (line out:O) (aB:List V) (c k:Int) (t:O) (l:List V) (at0:Int) (h:pL vs cs nr line (aQ [] line) out aB) (hl: ∀v∈l,bM v) (ho:tG vs c k t l) (hc:c=1\/c=2\/c=3\/c=6\/c=9\/c=10\/c=11\/(12<=c/\c<=29)):
  W fun n=> ∃x,IJ n vs cs nr 0 line out aB 0 c k t l=some x/\IO nr line (if c=3\/c=6 then gU ⟨vs,cs,aB,out⟩ at0 c k l else lJ (jw nr line (aQ [] line) c k t l) fun v=>eH ⟨vs,cs,aB,out⟩ at0 v) x:=by
 obtain⟨af,g,az,z,ag,a6⟩:=ho;have u:=eL hl 0;have o1:=eL hl 1;have l0:=kJ u;have i:=h.line;have aj:=h.fs;have a7:=h.nr;have push:=fun v=>Da vs cs nr line out aB v at0 h.sl
 rcases hc with rfl|rfl|rfl|rfl|rfl|rfl|rfl|hc
 .refine((mJ k).and (push (nV k))).nm fun n ⟨f,x,d,b⟩=> ?_
  rw [iN,f];simp only [Â,Y,ez,Z,d];exact⟨x,rfl,b⟩
 .refine(((rk t).and (pM vs cs nr line out aB 3)).and (push (tV t))).nm fun n ⟨⟨r,f⟩,x,d,b⟩=> ?_
  rw [iN,r,f,if_neg (show ¬((2:Int)=3\/(2:Int)=6) by omega),jw,if_neg (show ¬(2:Int)=1 by omega),if_pos rfl]
  simp only [Â,Y,ez,Z,d];by_cases h3:300<t.length
  .rw [hJ (show (300:Int)<(t.length:Int) by omega),if_pos h3]
   exact⟨_,rfl,by omega,rfl⟩
  .rw [hL (show ¬(300:Int)<(t.length:Int) by omega),if_neg h3]
   exact⟨x,rfl,b⟩
 .obtain⟨p,q⟩:=af (.inl rfl)
  refine(push (ah vs k.toNat)).nm fun n ⟨x,e,e'⟩=> ?_
  rw [iN,pK p q,pJ p q];simp only [Â,Y,ez,Z,e];exact⟨x,rfl,e'⟩
 .have a0:=tH (l:=l) (j:=0) g (by rw [bR];simp)
  have d0:decide ((0:Int)<=0/\(0:Int)<(l.length:Int))=true:=hJ (by rw [g,bR];simp)
  refine(((Dc (ah l 0)).and (Vu vs cs nr 0 k (dm (ah l 0)) h.cl)).and (push (fF cs k (dm (ah l 0))))).nm fun n ⟨⟨⟨s,r,f⟩,d⟩,x,b,m⟩=> ?_
  rw [iN,a0,d0];simp only [Â,Y,ez,Z,r,f,d,b];exact⟨x,rfl,m⟩
 .have a0:=tH (l:=l) (j:=0) g (by rw [bR];simp)
  have d0:decide ((0:Int)<=0/\(0:Int)<(l.length:Int))=true:=hJ (by rw [g,bR];simp)
  refine(((CF u).and (aDC line (cP (aJ (ah l 0))) i aj)).and (push (jT line (aQ [] line) (cP (aJ (ah l 0)))))).nm fun n ⟨⟨r,f⟩,x,d,b⟩=> ?_
  rw [iN,a0,d0];simp only [Â,Y,ez,Z,r,f,d];exact⟨x,rfl,b⟩
 .have hw:wrap .i64 (nr*1000000)=1000000*nr:=by rw [Á];omega
  refine((mJ (1000000*nr)).and (push (nV (1000000*nr)))).nm fun n ⟨f,x,d,b⟩=> ?_
  rw [iN,hw];simp only [Â,Y,ez,Z,f,d];exact⟨x,rfl,b⟩
 .have hw:wrap .i64 (((aQ [] line).length:Int)*1000000)=1000000*((aQ [] line).length:Int):=by rw [Á];omega
  refine(((KN line i).and (mJ (1000000*((aQ [] line).length:Int)))).and (push (nV (1000000*((aQ [] line).length:Int))))).nm fun n ⟨⟨r,f⟩,x,d,b⟩=> ?_
  rw [iN,r];simp only [Â,Y,ez,Z,hw,f,d];exact⟨x,rfl,b⟩
 rw [if_neg (show ¬(c=3\/c=6) by omega)]
 by_cases bd:c<=23
 .have ht:bR c k=2:=by rw [bR,if_neg (by omega),if_neg (by omega),if_neg (by omega),if_pos (by omega)]
  have a0:=tH (l:=l) (j:=0) g (by omega)
  have a1:=tH (l:=l) (j:=1) g (by omega)
  have d0:decide ((0:Int)<=0/\(0:Int)<(l.length:Int))=true:=hJ (by omega)
  have d1:decide ((0:Int)<=1/\(1:Int)<(l.length:Int))=true:=hJ (by omega)
  have hv:jw nr line (aQ [] line) c k t l=dP c (ah l 0) (ah l 1):=by
   rw [jw,if_neg (by omega),if_neg (by omega),if_neg (by omega),if_neg (by omega),if_neg (by omega),if_neg (by omega),if_neg (by omega),if_neg (by omega),if_neg (by omega),if_neg (by omega),if_neg (by omega)]
  rw [hv];have hw:wrap .i64 (wrap .i64 (c-12)+9)=c-12+9:=by rw [Á,Á];omega
  cases hm:dP c (ah l 0) (ah l 1)with
  |inl q=>
   have hq:=aEY hm;refine((VH c u o1 (by omega)).and (pM vs cs nr line out aB q)).nm fun n ⟨⟨v,f,d⟩,b⟩=> ?_
   rw [hm]at f;rw [iN,a0,a1,d0,d1,hw,bD (show c≠1 by omega),bD (show c≠2 by omega),bD (show c≠3 by omega),bD (show c≠6 by omega),bD (show c≠9 by omega),bD (show c≠10 by omega),bD (show c≠11 by omega),bD (show c≠24 by omega),bD (show c≠25 by omega),bD (show c≠26 by omega),bD (show c≠27 by omega),bD (show c≠28 by omega),bD (show c≠29 by omega)]
   simp only [Y,ez,Z,f,gT,show(q !=0)=true by simpa using hq,b]
   exact⟨_,rfl,hq,rfl⟩
  |inr w=>
   refine((VH c u o1 (by omega)).and (push w)).nm fun n ⟨⟨v,f,d⟩,x,b,m⟩=> ?_
   have ak:=d w hm;subst ak;rw [hm]at f;rw [iN,a0,a1,d0,d1,hw,bD (show c≠1 by omega),bD (show c≠2 by omega),bD (show c≠3 by omega),bD (show c≠6 by omega),bD (show c≠9 by omega),bD (show c≠10 by omega),bD (show c≠11 by omega),bD (show c≠24 by omega),bD (show c≠25 by omega),bD (show c≠26 by omega),bD (show c≠27 by omega),bD (show c≠28 by omega),bD (show c≠29 by omega)]
   simp only [Y,ez,Z,f,gT,show((0:Int) !=0)=false from rfl,b];exact⟨x,rfl,m⟩
 have al:c=24\/c=25\/c=26\/c=27\/c=28\/c=29:=by omega
 have one:c=24\/c=26\/c=27\/c=28->decide ((0:Int)<=0/\(0:Int)<(l.length:Int))=true/\aN l 0=some (ah l 0):=fun hh=>by
  have ht:bR c k=1:=by rw [bR,if_neg (by omega),if_neg (by omega),if_neg (by omega),if_neg (by omega)]
  exact⟨hJ (by omega),tH (j:=0) g (by omega)⟩
 rcases al with rfl|rfl|rfl|rfl|rfl|rfl
 .obtain⟨d0,a0⟩:=one (by simp)
  refine((((mK (ah l 0)).and (WB t (aH (ah l 0)) (z (.inl rfl)) (by omega))).and (xq (kL t (aH (ah l 0))))).and (push (bV (kL t (aH (ah l 0)))))).nm fun n ⟨⟨⟨f,d⟩,b⟩,x,m,e5⟩=> ?_
  rw [iN,a0,d0];simp only [Â,Y,ez,Z,f,d,b,m];exact⟨x,rfl,e5⟩
 .refine(((WB t line (z (.inr rfl)) i).and (xq (kL t line))).and (push (bV (kL t line)))).nm fun n ⟨⟨d,b⟩,x,m,e5⟩=> ?_
  rw [iN];simp only [Â,Y,ez,Z,d,b,m];exact⟨x,rfl,e5⟩
 .obtain⟨d0,a0⟩:=one (by simp)
  refine(((KH (ah l 0)).and (xq (!gO (ah l 0)))).and (push (bV (!gO (ah l 0))))).nm fun n ⟨⟨f,d⟩,x,b,m⟩=> ?_
  rw [iN,a0,d0];simp only [Â,Y,ez,Z,f,d,b];exact⟨x,rfl,m⟩
 .obtain⟨d0,a0⟩:=one (by simp)
  have hw:wrap .i64 (0-aJ (ah l 0))=0-aJ (ah l 0):=by have:=ee (jL u);rw [Á];omega
  refine(((nJ u.2.1).and (mJ (0-aJ (ah l 0)))).and (push (nV (0-aJ (ah l 0))))).nm fun n ⟨⟨f,d⟩,x,b,m⟩=> ?_
  rw [iN,a0,d0];simp only [Â,Y,ez,Z,f,hw,d,b];exact⟨x,rfl,m⟩
 .obtain⟨d0,a0⟩:=one (by simp)
  refine(((KH (ah l 0)).and (xq (gO (ah l 0)))).and (push (bV (gO (ah l 0))))).nm fun n ⟨⟨f,d⟩,x,b,m⟩=> ?_
  rw [iN,a0,d0];simp only [Â,Y,ez,Z,f,d,b];exact⟨x,rfl,m⟩
 .obtain⟨p1,p2,p3⟩:=ag rfl
  have ht:bR 29 k=k:=by rw [bR];simp
  refine((aEc t l hl (by omega) p3).and (push (iT t l))).nm fun n ⟨d,x,b,m⟩=> ?_
  rw [iN];simp only [Â,Y,ez,Z,d,b];exact⟨x,rfl,m⟩
def rA (cells:Int) (cs:List VC):Prop:=((∀c∈cs,CW cells c)/\cs.Pairwise CL)/\cs.length<=40
theorem aFa {cells:Int} {cs:List VC} (h:rA cells cs) (nm:Int) (key:O):rA cells (nL cs nm key):=by
 unfold nL;split
 .rename_i i hi
  rw [<-List.eraseIdx_eq_take_drop_succ];have b:=List.eraseIdx_sublist cs i;exact⟨⟨fun c d=>h.1.1 c (b.subset d),h.1.2.sublist b⟩,by have:=b.length_le;have:=h.2;omega⟩
 .exact h
theorem WN {cs:List VC} {nm:Int} {key:O}: ∀a∈cs.take (gn cs nm key),dY a.1 a.2.1 nm key:=by
 intro a b;obtain⟨j,hj,rfl⟩:=ç.1 b;rw [Ü]at hj;rw [List.getElem_take];unfold gn at hj;cases e:cs.findIdx? (fun c=>bo (¬dY c.1 c.2.1 nm key))with
 |none=>
  rw [List.findIdx?_eq_none_iff]at e
  have:=e cs[j] (Ç (by omega))
  exact Ø fun h=>by rw [aA h]at this;cases this
 |some i=>
  rw [e]at hj;have hj:j<min i cs.length:=hj;obtain⟨f,g,d⟩:=â.1 e
  have:=d j (by omega)
  exact Ø fun h=>by rw [aA h]at this;exact this rfl
theorem WO {cells:Int} {cs:List VC} {nm:Int} {key:O} (h:rA cells cs) (g:fE cs nm key=none): ∀b∈cs.drop (gn cs nm key),dY nm key b.1 b.2.1:=by
 intro b m;obtain⟨j,hj,rfl⟩:=ç.1 m;rw [ò]at hj;rw [List.getElem_drop];cases e:cs.findIdx? (fun c=>bo (¬dY c.1 c.2.1 nm key))with
 |none=>
  have:gn cs nm key=cs.length:=by unfold gn;rw [e]
  omega
 |some i=>
  have t:gn cs nm key=i:=by unfold gn;rw [e]
  obtain⟨d,f,u⟩:=â.1 e
  have p: ¬dY cs[i].1 cs[i].2.1 nm key:=fun h=>by rw [ay (fun k=>k h)]at f;cases f
  have hy:dY nm key cs[i].1 cs[i].2.1:=by
   rcases aaM cs[i].1 cs[i].2.1 nm key with q|q|q
   .exact absurd q p
   .exact absurd q (Vy g _ (Ç d))
   .exact q
  have hk:gn cs nm key+j<cs.length:=by omega
  by_cases r:j=0
  .subst r
   have s:cs[gn cs nm key+0]=cs[i]:=getElem_congr_idx (by omega)
   rw [s];exact hy
  .exact EZ hy (ß.1 h.1.2 i (gn cs nm key+j) d hk (by omega))
theorem aFb {cells:Int} {cs:List VC} (h:rA cells cs) {nm:Int} {key:O} {v:V} (u:0<=nm) (z:nm<cells) (h3:key.length<=300) (s:bM v) {l:List VC} (e:lI cs nm key v=some l):rA cells l:=by
 unfold lI at e;cases hp:fE cs nm key with
 |some i=>
  rw [hp]at e;obtain⟨hi,hq⟩:=pE hp;simp only [Ä hi]at e
  cases e;have d:=h.1.1 cs[i] (Ç hi);refine⟨⟨fun c p=> ?_, ?_⟩,by rw [Ù];exact h.2⟩
  .rcases à p with h'|rfl
   .exact h.1.1 c h'
   .exact⟨d.1,d.2.1,d.2.2.1,s⟩
  .have g: ∀j (hj:j<cs.length),((cs.set i (cs[i].1,cs[i].2.1,v))[j]'(by rw [Ù];exact hj)).1=cs[j].1/\((cs.set i (cs[i].1,cs[i].2.1,v))[j]'(by rw [Ù];exact hj)).2.1=cs[j].2.1:=by
    intro j hj;rw [List.getElem_set];split
    .rename_i q;subst q;exact⟨rfl,rfl⟩
    .exact⟨rfl,rfl⟩
   rw [ß];intro a b k f r;rw [Ù]at k f;have t:=g a k;have kb:=g b f;have:=ß.1 h.1.2 a b k f r;unfold CL at this |-;rw [t.1,t.2,kb.1,kb.2];exact this
 |none=>
  rw [hp]at e;have e:(if 40<=cs.length then none else some (cs.take (gn cs nm key)++((nm,key,v)::cs.drop (gn cs nm key))))=some l:=e
  by_cases m:40<=cs.length
  .rw [if_pos m]at e;cases e
  rw [if_neg m]at e;cases e;refine⟨⟨fun c d=> ?_, ?_⟩,by have:=KK cs nm key;simp;omega⟩
  .rcases É.1 d with d|d
   .exact h.1.1 c (Ú d)
   rcases Û.1 d with rfl|d
   .exact⟨u,z,h3,s⟩
   .exact h.1.1 c (Þ d)
  .rw [ý,List.pairwise_cons]
   refine⟨h.1.2.sublist (List.take_sublist _ _),⟨fun b f=>WO h hp b f,h.1.2.sublist (List.drop_sublist _ _)⟩,fun a k b f=> ?_⟩
   rcases Û.1 f with rfl|f
   .exact WN a k
   .exact EZ (WN a k) (WO h hp b f)
structure fG (vars cells:Int) (s:cY):Prop where
 v: ∀v∈s.vs,bM v
 vl:(s.vs.length:Int)=vars
 c:rA cells s.cs
 out:s.out.length<=600
 k: ∀v∈s.aB,bM v
 sl:s.aB.length<=64
def nS (vars cells:Int) (j:Int->Prop) (r:gF):Prop:=match r with
 |.err c=>1<=c/\c<=7
 |.halt s=>fG vars cells s
 |.go k s=>fG vars cells s/\j k
def Dd (r:Sum Int V):Prop:=match r with
 |.inl c=>1<=c/\c<=7
 |.inr v=>bM v
theorem Lq {vars cells:Int} {j:Int->Prop} {r:Sum Int V} {f:V->gF} (h:Dd r) (k: ∀v,bM v->nS vars cells j (f v)):nS vars cells j (lJ r f):=by
 cases r
 .exact h
 .exact k _ h
theorem Lr {op x y:Int} (b:aX x):Dd (cN op x y):=by
 cases e:cN op x y with
 |inr v=>exact aDO b e
 |inl c=>
  unfold cN at e;have k: ∀r,pF r=.inl c->c=1:=fun r h=>by
   obtain⟨p,q⟩:=r;cases q<;>cases h;rfl
  have:c=1\/c=2:=by
   split at e
   .exact .inl (k _ e)
   split at e
   .exact .inl (k _ e)
   split at e
   .exact .inl (k _ e)
   split at e
   .cases e;exact .inr rfl
   split at e
   .cases e
   .exact .inl (k _ e)
  show 1<=c/\c<=7;omega
theorem aFc {c:Int} {x y:V} (b:bM x):Dd (dP c x y):=by
 unfold dP;split
 .exact Lr (jL b)
 split
 .split
  .exact⟨by omega,by omega⟩
  .exact sk (by omega)
 .exact uT _
theorem aFd {nr:Int} {line:O} {fs:List O} {c k:Int} {t:O} {l:List V} (f: ∀v∈l,bM v) (z:c=1->aX k) (hn:0<=nr/\nr<=2000000) (hf:fs.length<=1048576):Dd (jw nr line fs c k t l):=by
 have g:=eL f 0;rw [jw];by_cases c1:c=1
 .rw [if_pos c1];exact mh (z c1)
 rw [if_neg c1];by_cases h:c=2
 .rw [if_pos h]
  by_cases i:300<t.length
  .rw [if_pos i];exact⟨by omega,by omega⟩
  .rw [if_neg i];exact sk (by omega)
 rw [if_neg h];by_cases j:c=9
 .rw [if_pos j];exact aDE _ _ _
 rw [if_neg j];by_cases m:c=10
 .rw [if_pos m];exact mh (fY (by omega))
 rw [if_neg m];by_cases p:c=11
 .rw [if_pos p];exact mh (fY (by omega))
 rw [if_neg p];by_cases q:c=24
 .rw [if_pos q];exact uT _
 rw [if_neg q];by_cases r:c=25
 .rw [if_pos r];exact uT _
 rw [if_neg r];by_cases s:c=26
 .rw [if_pos s];exact uT _
 rw [if_neg s];by_cases u:c=27
 .rw [if_pos u];have:=ee (jL g);exact mh (fY (by omega))
 rw [if_neg u];by_cases b:c=28
 .rw [if_pos b];exact uT _
 rw [if_neg b];by_cases d:c=29
 .rw [if_pos d];exact aEd t f
 .rw [if_neg d];exact aFc g
theorem tI {vars cells:Int} {j:Int->Prop} {s:cY} {at0:Int} {v:V} (h:fG vars cells s) (d:bM v) (hj:j at0):nS vars cells j (eH s at0 v):=by
 unfold eH;split
 .exact⟨by omega,by omega⟩
 .refine⟨⟨h.v,h.vl,h.c,h.out,fun x b=> ?_, ?_⟩,hj⟩
  .rcases É.1 b with b|b
   .exact h.k x b
   .rw [Å.1 b];exact d
  .have:=h.sl
   simp only [À,Ï,é];omega
theorem WQ {vars cells:Int} {j:Int->Prop} {s:cY} {at0:Int} {t:O} (h:fG vars cells s) (hj:j at0):nS vars cells j (fr s at0 t):=by
 unfold fr;split
 .exact⟨by omega,by omega⟩
 .exact⟨⟨h.v,h.vl,h.c,by simp only [À];omega,h.k,h.sl⟩,hj⟩
theorem WR {vars cells:Int} {j:Int->Prop} {s:cY} {at0 k:Int} {key:O} {v:V} (h:fG vars cells s) (d:0<=k) (f:k<cells) (g:key.length<=300) (b:bM v) (hj:j at0):nS vars cells j (jv s at0 k key v):=by
 unfold jv;split
 .exact⟨by omega,by omega⟩
 .rename_i i e
  exact tI ⟨h.v,h.vl,aFb h.c d f g b e,h.out,h.k,h.sl⟩ b hj
theorem WT {vs:List V} (h: ∀v∈vs,bM v) {k:Nat} {v:V} (b:bM v): ∀x∈vs.set k v,bM x:=fun x d=>by
 rcases à d with f|rfl
 .exact h x f
 .exact b
theorem WU {cells:Int} {cs:List VC} (h:rA cells cs) (nm:Int) (key:O):bM (fF cs nm key):=Ll fun c b=>(h.1.1 c b).2.2.2
theorem WV (v:V):(dm v).length<=300:=by unfold dm;simp;omega
theorem aFe {vars cells:Int} {j:Int->Prop} {s:cY} {at0 c k:Int} {l:List V} (h:fG vars cells s) (f: ∀v∈l,bM v) (g:c=6\/c=7\/c=8\/c=35->0<=k/\k<cells) (hj:j at0):nS vars cells j (gU s at0 c k l):=by
 have i:=eL f 0;have r:=eL f 1;have m:=eL h.v k.toNat;unfold gU;split
 .exact tI h m hj
 split
 .exact tI ⟨WT h.v i,by rw [Ù];exact h.vl,h.c,h.out,h.k,h.sl⟩ i hj
 split
 .exact Lq (Lr (jL m)) fun v b=>tI ⟨WT h.v b,by rw [Ù];exact h.vl,h.c,h.out,h.k,h.sl⟩ b hj
 split
 .exact tI h (WU h.c _ _) hj
 split
 .rename_i d
  obtain⟨p,q⟩:=g (by omega)
  exact WR h p q (WV _) r hj
 split
 .rename_i d
  obtain⟨p,q⟩:=g (by omega)
  exact Lq (Lr (jL (WU h.c _ _))) fun v b=>WR h p q (WV _) b hj
 .exact⟨⟨h.v,h.vl,aFa h.c _ _,h.out,h.k,h.sl⟩,hj⟩
theorem aFf {vars cells nr:Int} {line:O} {fs:List O} {j:Int->Prop} {s:cY} {at0 c k:Int} {t:O} {l:List V} (h:fG vars cells s) (d: ∀v∈l,bM v) (f:c=6\/c=7\/c=8\/c=35->0<=k/\k<cells) (g:c=1->aX k) (i:0<=nr/\nr<=2000000) (m:fs.length<=1048576)
  (hj:c≠36->j (at0+1)) (hk:c=30\/c=31->j k):nS vars cells j (gV nr line fs s at0 c k t l):=by
 unfold gV;split
 .exact h
 rename_i b;have hj:=hj b;split
 .exact⟨h,hk (by omega)⟩
 split
 .split
  .exact⟨h,hj⟩
  .exact⟨h,hk (by omega)⟩
 split
 .exact⟨h,hj⟩
 split
 .exact WQ h hj
 split
 .exact WQ h hj
 split
 .exact aFe h d f hj
 .exact Lq (aFd d g i m) fun v p=>tI h p hj
theorem aFg {vars cells nr:Int} {line:O} {fs:List O} {j:Int->Prop} {s:cY} {at0 c k:Int} {t:O} (h:fG vars cells s) (d:c=6\/c=7\/c=8\/c=35->0<=k/\k<cells) (f:c=1->aX k) (g:0<=nr/\nr<=2000000) (i:fs.length<=1048576)
  (hj:c≠36->j (at0+1)) (hk:c=30\/c=31->j k):nS vars cells j (gW nr line fs s at0 c k t):=by
 unfold gW;split
 .exact⟨by omega,by omega⟩
 .exact aFf ⟨h.v,h.vl,h.c,h.out,fun v b=>h.k v (Ú b),by have:=h.sl;rw [Ü];omega⟩ (fun v b=>h.k v (Þ b)) d f g i hj hk
theorem WW {vs:List V} {c k n cells:Int} {t:O} (h:iH c k t n vs.length cells):xx vs c k t:=by
 unfold iH at h;refine⟨⟨by omega,by omega⟩,fun b=>by omega,fun b=> ?_,fun b=> ?_,fun b=> ?_,fun b=>by omega⟩
 .rcases h with h|h|h|h|h|h|h|h|h
  .exact h.2.1
  all_goals omega
 .rcases h with h|h|h|h|h|h|h|h|h
  .omega
  .omega
  .omega
  .omega
  .exact h.2.2
  all_goals omega
 .rcases h with h|h|h|h|h|h|h|h|h
  .omega
  .omega
  .omega
  .omega
  .omega
  .exact⟨h.2.1,h.2.2.1,h.2.2.2⟩
  all_goals omega
theorem Ls {ops:ae} {vars cells nr:Int} {line:O} {fs:List O} {s:cY} (d:fB ops vars cells) (h:fG vars cells s) (f:0<=nr/\nr<=2000000) (g:fs.length<=1048576) (i:Nat) (hi:i<ops.length):
  nS vars cells (fun j=> ∃q:Nat,j=q/\q<ops.length) (gW nr line fs s i ops[i].1 ops[i].2.1 ops[i].2.2):=by
 obtain⟨r,t,k,m⟩:=d;have hw:=m _ (Ç hi);unfold iH at hw;refine aFg h (fun b=>by omega) (fun b=> ?_) f g (fun b=> ?_) (fun b=>⟨ops[i].2.1.toNat,by omega,by omega⟩)
 .rcases hw with h|h|h|h|h|h|h|h|h
  .exact h.2.1
  all_goals omega
 .have p:=k (by omega)
  by_cases e:i=ops.length-1
  .subst e;exact absurd p b
  .exact⟨i+1,by omega,by omega⟩
noncomputable def lK (nr:Int) (line:O) (fs:List O) (ops:ae):Nat->cY->Int->Sum Int cY
 |0,_,_=>.inl 6
 |k+1,s,a=>match ar ops a with
  |none=>.inl 7
  |some o=>match gW nr line fs s a o.1 o.2.1 o.2.2 with
   |.err c=>.inl c
   |.halt s'=>.inr s'
   |.go j s'=>lK nr line fs ops k s' j
theorem Lt {nr:Int} {line:O} {fs:List O} {ops:ae} {k:Nat} {s:cY} {i:Nat} (hi:i<ops.length):lK nr line fs ops (k+1) s i=match gW nr line fs s i ops[i].1 ops[i].2.1 ops[i].2.2 with
   |.err c=>.inl c
   |.halt s'=>.inr s'
   |.go j s'=>lK nr line fs ops k s' j:=by
 rw [lK,aU hi]
def tJ {α:Type}:Sum α α->α
 |.inl x=>x
 |.inr x=>x
theorem WX {α:Type} (x:Sum α α) (f g:α->Option α) (b: ∀x,f x=some x) (d: ∀x,g x=some x):aw x f g=some (tJ x):=by
 cases x
 .exact b _
 .exact d _
theorem fG.st {vars cells nr:Int} {line:O} {s:cY} (h:fG vars cells s) (g:vars<=8) (b:0<=nr/\nr<=2000000) (d:line.length<=1000000):pL s.vs s.cs nr line (aQ [] line) s.out s.aB:=
 ⟨h.v,by have:=h.vl;omega,fun c f=>(h.c.1.1 c f).2.2.2,by have:=h.c.2;omega,b,d,by have:=tz line [];omega,h.out,h.k,h.sl⟩
theorem WY (c k:Int) (t:O) (b:In c 1 36):W fun n=>Bn n c k t=some (bR c k):=W.succ (W.of fun n=>by
 obtain⟨d,f⟩:=b;rw [axV];obtain rfl|rfl|rfl|rfl|rfl|rfl|rfl|rfl|rfl|rfl|rfl|rfl|rfl|rfl|rfl|rfl|rfl|rfl|rfl|rfl|rfl|rfl|rfl|rfl|rfl|rfl|rfl|rfl|rfl|rfl|rfl|rfl|rfl|rfl|rfl|rfl:c=1\/c=2\/c=3\/c=4\/c=5\/c=6\/c=7\/c=8\/c=9\/c=10\/c=11\/c=12\/c=13\/c=14\/c=15\/c=16\/c=17\/c=18\/c=19\/c=20\/c=21\/c=22\/c=23\/c=24\/c=25\/c=26\/c=27\/c=28\/c=29\/c=30\/c=31\/c=32\/c=33\/c=34\/c=35\/c=36:=by omega
 all_goals rfl)
theorem WZ (vs:ae) (cs:ai) (nr:Int) (line out:O) (aB:List V) (k:Int) (hk:0<=k/\k<=3) (d:aB.length<=64):W fun n=>Bo n vs cs nr 0 line out aB 0 k=some (if (aB.length:Int)<k then(Ê k.toNat v0,vs,cs,nr,0,line,out,aB,7)else(aB.drop (aB.length-k.toNat),vs,cs,nr,0,line,out,aB.take (aB.length-k.toNat),0)):=by
 refine(pM vs cs nr line out aB 7).nm fun n e=> ?_
 have hw:wrap .i64 ((aB.length:Int)-k)=(aB.length:Int)-k:=by rw [Á];omega
 have f:(4000000:Int)<=(aC:Int):=by unfold aC;omega
 rw [axW,hw,e];by_cases h:(aB.length:Int)<k
 .rw [hJ (show (aB.length:Int)-k<0 by omega),Y,Z,hJ (show (0:Int)<=k/\k<=k/\k<=(aC:Int) by omega),if_pos h]
  exact rfl
 .obtain⟨j,hj⟩: ∃j:Nat,j=aB.length-k.toNat:=⟨_,rfl⟩
  have b:(aB.length:Int)-k=(j:Int):=by omega
  rw [if_neg h,b,<-hj,Ã,hL (show ¬(j:Int)<0 by omega),hJ (show (0:Int)<=(j:Int)/\(j:Int)<=(aB.length:Int) by omega),CE,bS (by simp;omega),Ô (show j<=aB.length by omega)]
  exact rfl
def De (nr:Int) (line:O) (ops:ae) (n m:Nat) (t:Int) (r:gF) (y:Option (Sum WI WI)):Prop:=match r with
 |.err c=> ∃x,y=some x/\c≠0/\(tJ x).2.2.2.2.2.2.2=c
 |.halt s=>y=some (.inr (xy nr line s))
 |.go j s=>y=fD n m s.vs s.cs nr 0 line s.out s.aB 0 t j ops
theorem Xa {nr:Int} {line:O} {ops:ae} {n m:Nat} {t j:Int} {r:gF} {x:WI} (h:IO nr line r x) (b:mP r j):De nr line ops n (m+1) t r (fD n (m+1) x.1 x.2.1 x.2.2.1 x.2.2.2.1 x.2.2.2.2.1 x.2.2.2.2.2.1 x.2.2.2.2.2.2.1 x.2.2.2.2.2.2.2 t j ops):=by
 cases r with
 |err c=>
  obtain⟨d,f⟩:=h;refine⟨.inl x, ?_,d,f⟩
  .rw [nH,show(x.2.2.2.2.2.2.2==(0:Int))=false by rw [f];simpa using d];rfl
 |halt s=>exact absurd h id
 |go q s=>
  have h:x=xy nr line s:=h;have b:q=j:=b;subst h b;exact rfl
theorem Xb (s:cY) (at0:Int) (t:O):mP (fr s at0 t) at0:=by
 unfold fr;split
 .exact trivial
 .exact rfl
theorem aFh {vars cells nr:Int} {line:O} {s:cY} {ops:ae} (ho:fB ops vars cells) (h:fG vars cells s) (hv:vars<=8) (hn:0<=nr/\nr<=2000000) (al:line.length<=1000000) (i:Nat) (hi:i<ops.length):
  W fun n=> ∀m (t:Int),1<=t/\t<=20000->De nr line ops n (m+1) (t+1) (gW nr line (aQ [] line) s i ops[i].1 ops[i].2.1 ops[i].2.2) (fD n (m+2) s.vs s.cs nr 0 line s.out s.aB 0 t i ops):=by
 obtain⟨o1,o2,o3,o4⟩:=ho;have hw:=o4 _ (Ç hi);have f:=h.st (line:=line) (nr:=nr) hv hn al;have hz:=aU hi;generalize ops[i]=o at hw hz
 obtain⟨c,k,t0⟩:=o;have hq:xx s.vs c k t0:=WW (n:=ops.length) (cells:=cells) (by rw [h.vl];exact hw)
 obtain⟨t1,t3⟩:=WG hq;have au:=h.sl;have af:wrap .i64 ((i:Int)+1)=(i:Int)+1:=by rw [Á];omega
 have d: ∀t:Int,1<=t/\t<=20000->wrap .i64 (t+1)=t+1:=fun t z=>by rw [Á];omega
 by_cases hs:(s.aB.length:Int)<bR c k
 .refine((WY c k t0 hq.1).and (WZ s.vs s.cs nr line s.out s.aB (bR c k) ⟨t1,t3⟩ au)).mono fun n ⟨g,r⟩ m t z=> ?_
  rw [nH,hz,hL (show ¬(20000:Int)<t by omega)]
  simp only [Z,g,r,if_pos hs];rw [gW,if_pos hs];exact⟨_,rfl,by omega,rfl⟩
 obtain⟨j,hj⟩: ∃j:Nat,j=s.aB.length-(bR c k).toNat:=⟨_,rfl⟩
 obtain⟨l,hl⟩: ∃l,l=s.aB.drop j:=⟨_,rfl⟩
 obtain⟨s',ag⟩: ∃s',s'=s.aB.take j:=⟨_,rfl⟩
 have aw: ∀v∈l,bM v:=fun v hv=>h.k v (Þ (hl▸hv))
 have ai:(l.length:Int)=bR c k:=by rw [hl,ò];omega
 have h':pL s.vs s.cs nr line (aQ [] line) s.out s':=⟨f.v,f.vl,f.c,f.cl,f.nr,f.line,f.fs,f.out,fun v hv=>h.k v (Ú (ag▸hv)),by rw [ag,Ü];omega⟩
 have ax:tG s.vs c k t0 l:=⟨hq.2.1,ai,hq.2.2.1,hq.2.2.2.1,hq.2.2.2.2.1,hq.2.2.2.2.2⟩;have u:gW nr line (aQ [] line) s i c k t0=gV nr line (aQ [] line) ⟨s.vs,s.cs,s',s.out⟩ i c k t0 l:=by rw [gW,if_neg hs];rw [<-hj,<-hl,<-ag]
 have pop:=WZ s.vs s.cs nr line s.out s.aB (bR c k) ⟨t1,t3⟩ au;rw [if_neg hs,<-hj,<-hl,<-ag]at pop;have ao:=WY c k t0 hq.1;have start: ∀ {P:Nat->Prop},W P->(∀n,P n->Bn n c k t0=some (bR c k)->Bo n s.vs s.cs nr 0 line s.out s.aB 0 (bR c k)=some (l,s.vs,s.cs,nr,0,line,s.out,s',0)-> ∀m (t:Int),1<=t/\t<=20000->wrap .i64 (t+1)=t+1->De nr line ops n (m+1) (t+1) (gV nr line (aQ [] line) ⟨s.vs,s.cs,s',s.out⟩ i c k t0 l) (fD n (m+2) s.vs s.cs nr 0 line s.out s.aB 0 t i ops))->W fun n=> ∀m (t:Int),1<=t/\t<=20000->De nr line ops n (m+1) (t+1) (gW nr line (aQ [] line) s i c k t0) (fD n (m+2) s.vs s.cs nr 0 line s.out s.aB 0 t i ops):=fun hp hk=>by
  rw [u];exact(hp.and (ao.and pop)).mono fun n ⟨a,b,c⟩ m t z=>hk n a b c m t z (d t z)
 have hc:c=36\/c=30\/c=31\/c=32\/(c=4\/c=5\/c=7\/c=8\/c=35\/c=33\/c=34)\/(c=1\/c=2\/c=3\/c=6\/c=9\/c=10\/c=11\/(12<=c/\c<=29)):=by
  obtain⟨p,q⟩:=hq.1;omega
 clear u hs;rcases hc with rfl|rfl|rfl|rfl|hc|hc
 .refine start (W.of fun _=>trivial) fun n _ g r m t z d=> ?_
  rw [nH,hz,hL (show ¬(20000:Int)<t by omega)]
  rw [Z];dsimp only
  rw [g,Z,r,Z];exact rfl
 .refine start (W.of fun _=>trivial) fun n _ g r m t z d=> ?_
  rw [nH,hz,hL (show ¬(20000:Int)<t by omega)]
  rw [Z];dsimp only
  rw [g,Z,r,Z,d];unfold gV;rw [if_neg (by omega),if_pos rfl,show((0:Int)==0)=true from rfl,Y,ez,show((0:Int) !=0)=false from rfl,ez,show((30:Int)==36)=false from rfl,ez,show((30:Int)==30)=true from rfl,Y]
  exact rfl
 .have bh:l.length=1:=by rw [bR]at ai;simp at ai;omega
  have a0:aN l 0=some (ah l 0):=tH (l:=l) (j:=0) ai (by rw [bR];simp)
  have d0:decide ((0:Int)<=0/\(0:Int)<(l.length:Int))=true:=hJ (by omega)
  refine start (KH (ah l 0)) fun n e0 g r m t z d=> ?_
  rw [nH,hz,hL (show ¬(20000:Int)<t by omega)]
  rw [Z];dsimp only
  rw [g,Z,r,Z,d,af];dsimp only
  rw [a0,d0,Z,e0,Z];unfold gV;rw [if_neg (by omega),if_neg (by omega),if_pos rfl]
  cases gO (ah l 0)
  .exact rfl
  .exact rfl
 .refine start (W.of fun _=>trivial) fun n _ g r m t z d=> ?_
  rw [nH,hz,hL (show ¬(20000:Int)<t by omega)]
  rw [Z];dsimp only
  rw [g,Z,r,Z,d,af];unfold gV;rw [if_neg (by omega),if_neg (by omega),if_neg (by omega),if_pos rfl,show((0:Int)==0)=true from rfl,Y,ez,show((0:Int) !=0)=false from rfl,ez,show((32:Int)==36)=false from rfl,ez,show((32:Int)==30)=false from rfl,ez,show((32:Int)==31)=false from rfl,ez,show((32:Int)==32)=true from rfl,Y]
  exact rfl
 .refine start (aEX s.vs s.cs nr line s.out s' (aQ [] line) c k t0 l ((i:Int)+1) h' aw ax hc) fun n ⟨x,e3,e4⟩ g r m t z d=> ?_
  have hd:gV nr line (aQ [] line) ⟨s.vs,s.cs,s',s.out⟩ i c k t0 l=if c=33 then fr ⟨s.vs,s.cs,s',s.out⟩ ((i:Int)+1) ((if k=1 then [32]else [])++aH (ah l 0))else if c=34 then fr ⟨s.vs,s.cs,s',s.out⟩ ((i:Int)+1) [10]else gU ⟨s.vs,s.cs,s',s.out⟩ ((i:Int)+1) c k l:=by
   unfold gV;rw [if_neg (by omega),if_neg (by omega),if_neg (by omega),if_neg (by omega)]
   by_cases h1:c=33
   .rw [if_pos h1,if_pos h1]
   by_cases h2:c=34
   .rw [if_neg h1,if_neg h1,if_pos h2,if_pos h2]
   .rw [if_neg h1,if_neg h1,if_neg h2,if_neg h2,if_pos (by omega)]
  rw [hd];have hg:mP (if c=33 then fr ⟨s.vs,s.cs,s',s.out⟩ ((i:Int)+1) ((if k=1 then [32]else [])++aH (ah l 0))else if c=34 then fr ⟨s.vs,s.cs,s',s.out⟩ ((i:Int)+1) [10]else gU ⟨s.vs,s.cs,s',s.out⟩ ((i:Int)+1) c k l) ((i:Int)+1):=by
   split
   .exact Xb _ _ _
   split
   .exact Xb _ _ _
   .exact Ln _ _ _ _ _
  have fin:=Xa (ops:=ops) (n:=n) (m:=m) (t:=t+1) e4 hg;rw [nH,hz,hL (show ¬(20000:Int)<t by omega)]
  clear hd hg e4;rcases hc with rfl|rfl|rfl|rfl|rfl|rfl|rfl
  all_goals
   rw [Z];dsimp only
   rw [g,Z,r,Z,d,af];dsimp only
   rw [e3,Z];exact fin
 .refine start (aEZ s.vs s.cs nr line s.out s' c k t0 l ((i:Int)+1) h' aw ax hc) fun n ⟨x,e3,e4⟩ g r m t z d=> ?_
  have hd:gV nr line (aQ [] line) ⟨s.vs,s.cs,s',s.out⟩ i c k t0 l=if c=3\/c=6 then gU ⟨s.vs,s.cs,s',s.out⟩ ((i:Int)+1) c k l else lJ (jw nr line (aQ [] line) c k t0 l) fun v=>eH ⟨s.vs,s.cs,s',s.out⟩ ((i:Int)+1) v:=by
   unfold gV;rw [if_neg (by omega),if_neg (by omega),if_neg (by omega),if_neg (by omega),if_neg (by omega),if_neg (by omega)]
   by_cases h1:c=3\/c=6
   .rw [if_pos h1,if_pos (by omega)]
   .rw [if_neg h1,if_neg (by omega)]
  rw [hd];have hg:mP (if c=3\/c=6 then gU ⟨s.vs,s.cs,s',s.out⟩ ((i:Int)+1) c k l else lJ (jw nr line (aQ [] line) c k t0 l) fun v=>eH ⟨s.vs,s.cs,s',s.out⟩ ((i:Int)+1) v) ((i:Int)+1):=by
   split
   .exact Ln _ _ _ _ _
   .exact CZ fun v=>rz _ _ _
  have fin:=Xa (ops:=ops) (n:=n) (m:=m) (t:=t+1) e4 hg;rw [nH,hz,hL (show ¬(20000:Int)<t by omega)]
  clear hd hg e4;rw [Z];dsimp only
  rw [g,Z,r,Z,d,af];dsimp only
  rw [bD (show c≠36 by omega),bD (show c≠30 by omega),bD (show c≠31 by omega),bD (show c≠32 by omega),bD (show c≠4 by omega),bD (show c≠5 by omega),bD (show c≠7 by omega),bD (show c≠8 by omega),bD (show c≠35 by omega),bD (show c≠33 by omega),bD (show c≠34 by omega)]
  rw [e3,Z];exact fin
def Lu (nr:Int) (line:O) (r:Sum Int cY) (x:WI):Prop:=match r with
 |.inl c=>c≠0/\x.2.2.2.2.2.2.2=c
 |.inr s=>x=xy nr line s
theorem Xc {vars cells nr:Int} {line:O} {ops:ae} (f:fB ops vars cells) (u:vars<=8) (g:0<=nr/\nr<=2000000) (b:line.length<=1000000): ∀(k:Nat) (s:cY) (i:Nat),fG vars cells s->i<ops.length->k<=20000->
  W fun n=> ∀m,k<m-> ∃x,fD n m s.vs s.cs nr 0 line s.out s.aB 0 (20001-(k:Int)) i ops=some x/\Lu nr line (lK nr line (aQ [] line) ops k s i) (tJ x)
 |0,s,i,h,hi,_=>by
  refine(pM s.vs s.cs nr line s.out s.aB 6).mono fun n e m hm=> ?_
  obtain⟨m,rfl⟩: ∃q,m=q+1:=⟨m-1,by omega⟩
  rw [nH,hJ (show (20000:Int)<20001-((0:Nat):Int) by omega)]
  simp only [show ((0:Int)==0)=true from rfl,Y,e];exact⟨_,rfl,by omega,rfl⟩
 |k+1,s,i,h,hi,hk=>by
  have hf:(aQ [] line).length<=1048576:=by have:=tz line [];omega
  have z:=Ls (line:=line) f h g hf i hi;have d:=aFh f h u g b i hi;rw [Lt hi];have ht:(20001:Int)-((k+1:Nat):Int)+1=20001-(k:Int):=by omega
  generalize gW nr line (aQ [] line) s i ops[i].1 ops[i].2.1 ops[i].2.2=r at z d
  cases r with
  |err c=>
   refine d.mono fun n d m hm=> ?_
   obtain⟨m,rfl⟩: ∃q,m=q+2:=⟨m-2,by omega⟩
   obtain⟨x,e,p⟩:=d m (20001-((k+1:Nat):Int)) (by omega)
   exact⟨x,e,p⟩
  |halt s'=>
   refine d.mono fun n d m hm=> ?_
   obtain⟨m,rfl⟩: ∃q,m=q+2:=⟨m-2,by omega⟩
   exact⟨_,d m (20001-((k+1:Nat):Int)) (by omega),rfl⟩
  |go j s'=>
   obtain⟨h',q,rfl,hq⟩:=z;refine(d.and (Xc f u g b k s' q h' hq (by omega))).mono fun n ⟨d,ih⟩ m hm=> ?_
   obtain⟨m,rfl⟩: ∃q,m=q+2:=⟨m-2,by omega⟩
   have e:=d m (20001-((k+1:Nat):Int)) (by omega)
   rw [ht]at e;obtain⟨x,p,t⟩:=ih (m+1) (by omega)
   exact⟨x,Eq.trans e p,t⟩
theorem Xd {vars cells nr:Int} {line:O} {ops:ae} (d:fB ops vars cells) (g:vars<=8) (f:0<=nr/\nr<=2000000) (b:line.length<=1000000) (s:cY) (h:fG vars cells s):
  W fun n=> ∃x,sU n s.vs s.cs nr 0 line s.out s.aB 0 ops=some x/\Lu nr line (lK nr line (aQ [] line) ops 20000 s 0) x:=by
 refine((Xc d g f b 20000 s 0 h d.1 (by omega)).and (W.ge 20001)).nm fun n ⟨k,f⟩=> ?_
 obtain⟨x,e,i⟩:=k n (by omega)
 refine⟨tJ x, ?_,i⟩
 rw [axT,show fD n n s.vs s.cs nr 0 line s.out s.aB 0 1 0 ops=some x from e,Z];exact WX x _ _ (fun _=>rfl) (fun _=>rfl)
abbrev WE:=ae×(ai×Int×Int×af×af×O×af×O×Int×Bool)
def dw (nr:Int) (a b:af) (line:O) (fs:af) (fu:Int) (dn:Bool) (s:cY):WE:=(s.vs,s.cs,nr,0,a,b,line,fs,s.out,fu,dn)
def Lv (nr:Int) (a b:af) (line:O) (fs:af) (fu:Int) (dn:Bool) (r:Sum Int cY) (x:WE):Prop:=match r with
 |.inl c=>c≠0/\x.2.2.2.1=c
 |.inr s=>x=dw nr a b line fs fu dn s
theorem Xe {vars cells nr:Int} {a b:af} {line:O} {fu:Int} {dn:Bool} {ops:ae} (z:fB ops vars cells) (hv:vars<=8) (hn:0<=nr/\nr<=2000000) (d:line.length<=1000000): ∀(k:Nat) (s:cY) (i:Nat),fG vars cells s->i<ops.length->k<=20000->
  W fun n=> ∀m,k<m-> ∃x,vQ n m s.vs s.cs nr 0 a b line (aQ [] line) s.out fu dn s.aB (20000-(k:Int)) i ops=some x/\Lv nr a b line (aQ [] line) fu dn (lK nr line (aQ [] line) ops k s i) (tJ x)
 |0,s,i,h,hi,_=>by
  refine(kK s.vs s.cs nr a b line (aQ [] line) s.out fu dn 6).mono fun n e m hm=> ?_
  obtain⟨m,rfl⟩: ∃q,m=q+1:=⟨m-1,by omega⟩
  rw [tb,show((20000:Int)-((0:Nat):Int)==20000)=true from rfl];simp only [show ((0:Int)==0)=true from rfl,Y,e];exact⟨_,rfl,by omega,rfl⟩
 |k+1,s,i,h,hi,hk=>by
  have hf:(aQ [] line).length<=1048576:=by have:=tz line [];omega
  have hr:=Ls (line:=line) z h hn hf i hi;have ag:=h.st (line:=line) (nr:=nr) hv hn d;have hq:xx s.vs ops[i].1 ops[i].2.1 ops[i].2.2:=WW (n:=ops.length) (cells:=cells) (by rw [h.vl];exact z.2.2.2 _ (Ç hi))
  have p:=aEV s.vs s.cs nr a b line (aQ [] line) s.out fu dn s.aB ops[i].1 ops[i].2.1 ops[i].2.2 i ag hq (by have:=z.2.1;omega)
  have hz:=aU hi;have g:((20000:Int)-((k+1:Nat):Int)==20000)=false:=beq_eq_false_iff_ne.2 (by omega)
  have ai:wrap .i64 ((20000:Int)-((k+1:Nat):Int)+1)=20000-(k:Int):=by rw [Á];omega
  rw [Lt hi];have t:(⟨s.vs,s.cs,s.aB,s.out⟩:cY)=s:=rfl;rw [t]at p;generalize gW nr line (aQ [] line) s i ops[i].1 ops[i].2.1 ops[i].2.2=r at hr p
  cases r with
  |err c=>
   refine p.mono fun n ⟨x,e,f,u⟩ m hm=> ?_
   obtain⟨m,rfl⟩: ∃q,m=q+2:=⟨m-2,by omega⟩
   rw [tb,g,hz];simp only [show ((0:Int)==0)=true from rfl,Y,ez,Z,e];cases hx:x.2.1 with
   |false=>exact⟨_,rfl,f,u⟩
   |true=>
    rw [È,ez,tb,show(x.2.2.2.2.2.1==(0:Int))=false by rw [u];simpa using f,ez]
    exact⟨_,rfl,f,u⟩
  |halt s'=>
   refine p.mono fun n ⟨x,e,f,u⟩ m hm=> ?_
   obtain⟨m,rfl⟩: ∃q,m=q+1:=⟨m-1,by omega⟩
   rw [tb,g,hz];simp only [show ((0:Int)==0)=true from rfl,Y,ez,Z,e,f,ë,u];exact⟨_,rfl,rfl⟩
  |go j s'=>
   obtain⟨h',q,rfl,aj⟩:=hr;refine(p.and (Xe (a:=a) (b:=b) (fu:=fu) (dn:=dn) z hv hn d k s' q h' aj (by omega))).mono fun n ⟨⟨x,e,f⟩,ih⟩ m hm=> ?_
   obtain⟨m,rfl⟩: ∃q,m=q+1:=⟨m-1,by omega⟩
   have f:x=((q:Int),true,xw nr a b line (aQ [] line) fu dn s'):=f;subst f;obtain⟨x,e',ak⟩:=ih m (by omega)
   refine⟨x, ?_,ak⟩
   rw [tb,g,hz];simp only [show ((0:Int)==0)=true from rfl,Y,ez,Z,e,È,ai];exact e'
theorem Xf {vars cells nr:Int} {a b:af} {line:O} {fu:Int} {dn:Bool} {ops:ae} (f:fB ops vars cells) (i:vars<=8) (g:0<=nr/\nr<=2000000) (d:line.length<=1000000) (s:cY) (h:fG vars cells s) (he:s.aB=[]):
  W fun n=> ∃x,pa n s.vs s.cs nr 0 a b line (aQ [] line) s.out fu dn ops=some x/\Lv nr a b line (aQ [] line) fu dn (lK nr line (aQ [] line) ops 20000 s 0) x:=by
 refine((Xe (a:=a) (b:=b) (fu:=fu) (dn:=dn) f i g d 20000 s 0 h f.1 (by omega)).and (W.ge 20001)).nm fun n ⟨k,g⟩=> ?_
 obtain⟨x,e,j⟩:=k n (by omega)
 refine⟨tJ x, ?_,j⟩
 rw [he]at e;rw [RE,show vQ n n s.vs s.cs nr 0 a b line (aQ [] line) s.out fu dn ([]:ae) 0 0 ops=some x from e,Z];exact WX x _ _ (fun _=>rfl) (fun _=>rfl)
abbrev RT:=ae×(ai×Int×Int×O)
def pN (vs:ae) (cs:ai) (nr b:Int) (r:Sum Int cY):RT:=match r with
 |.inl c=>(vs,cs,nr,c,[])
 |.inr s=>(s.vs,s.cs,b,0,s.out)
noncomputable def fT (ops:ae) (vs:ae) (cs:ai) (nr:Int) (line:O):RT:=
 if 1000000<=nr then(vs,cs,nr,1,[])else pN vs cs nr (nr+1) (lK (nr+1) line (aQ [] line) ops 20000 ⟨vs,cs,[],[]⟩ 0)
noncomputable def mQ (k:Nat) (ops:ae):RT:=pN (Ê k v0) [] 0 0 (lK 0 [] [] ops 20000 ⟨Ê k v0,[],[],[]⟩ 0)
theorem Lw {vars cells nr:Int} {line:O} {ops:ae} (f:fB ops vars cells) (g:0<=nr/\nr<=2000000) (b:line.length<=1000000): ∀(k:Nat) (s:cY) (i:Nat),fG vars cells s->i<ops.length->
  match lK nr line (aQ [] line) ops k s i with|.inl c=>1<=c/\c<=7|.inr s=>fG vars cells s
 |0,s,i,h,hi=>⟨by omega,by omega⟩
 |k+1,s,i,h,hi=>by
  have m:(aQ [] line).length<=1048576:=by have:=tz line [];omega
  have d:=Ls (line:=line) f h g m i hi;rw [Lt hi];generalize gW nr line (aQ [] line) s i ops[i].1 ops[i].2.1 ops[i].2.2=r at d
  cases r with
  |err c=>exact d
  |halt s'=>exact d
  |go j s'=>
   obtain⟨p,q,rfl,t⟩:=d;exact Lw f g b k s' q p t
def Lx (vars cells:Int) (r:RT):Prop:=ky r.1 r.2.1 r.2.2.1 r.2.2.2.1 vars cells/\r.2.2.2.2.length<=600
theorem Xg {vars cells:Int} {vs:ae} {cs:ai} {nr b er:Int} {r:Sum Int cY} (h:match r with|.inl c=>1<=c/\c<=7|.inr s=>fG vars cells s) (d:ky vs cs nr er vars cells) (f:0<=b/\b<=1000000):Lx vars cells (pN vs cs nr b r):=by
 cases r with
 |inl c=>
  obtain⟨p,q⟩:=h;exact⟨⟨d.1,d.2.1,d.2.2.1,d.2.2.2.1,d.2.2.2.2.1,⟨by show 0<=c;omega,by show c<=7;omega⟩⟩,by simp [pN]⟩
 |inr s=>
  have h:fG vars cells s:=h;exact⟨⟨h.v,yN.2 h.c.1,h.vl,h.c.2,⟨f.1,f.2⟩,⟨by simp [pN],by simp [pN]⟩⟩,h.out⟩
theorem tK {vars cells nr er:Int} {vs:ae} {cs:ai} (h:ky vs cs nr er vars cells):fG vars cells ⟨vs,cs,[],[]⟩:=⟨h.1,h.2.2.1,⟨yN.1 h.2.1,h.2.2.2.1⟩,by simp,by simp,by simp⟩
theorem Ly {vars cells nr er:Int} {ops vs:ae} {cs:ai} {line:O} (d:fB ops vars cells) (h:ky vs cs nr er vars cells) (b:line.length<=1000000):Lx vars cells (fT ops vs cs nr line):=by
 have f:0<=nr/\nr<=1000000:=h.2.2.2.2.1;unfold fT;split
 .exact⟨⟨h.1,h.2.1,h.2.2.1,h.2.2.2.1,h.2.2.2.2.1,⟨by show(0:Int)<=1;omega,by show(1:Int)<=7;omega⟩⟩,by simp⟩
 .exact Xg (Lw d (by omega) b 20000 _ 0 (tK h) d.1) h (by omega)
theorem LA (k:Nat) (cells:Int):ky (Ê k v0) [] 0 0 k cells:=⟨fun v b=>by rw [î b];exact sj,fun i hi=>absurd hi (Ą _),by simp,by simp,⟨by omega,by omega⟩,⟨by omega,by omega⟩⟩
theorem LB {k:Nat} {cells:Int} {ops:ae} (b:fB ops k cells):Lx k cells (mQ k ops):=by
 unfold mQ;have h:=LA k cells;exact Xg (Lw (line:=[]) b (by omega) (by simp) 20000 _ 0 (tK h) b.1) h (by omega)
def Xh {α:Type} (y:ae×ai×Int×Int×O×α):RT:=(y.1,y.2.1,y.2.2.1,y.2.2.2.1,y.2.2.2.2.1)
theorem LC (b:ae) (cs0:ai) (d f:Int) (g:b.length<=1048576) (h:cs0.length<=1048576):W fun n=> ∀x:WE,∃y,wh n x.1 x.2.1 x.2.2.1 x.2.2.2.1 x.2.2.2.2.1 x.2.2.2.2.2.1 x.2.2.2.2.2.2.1 x.2.2.2.2.2.2.2.1 x.2.2.2.2.2.2.2.2.1 x.2.2.2.2.2.2.2.2.2.1 x.2.2.2.2.2.2.2.2.2.2 b cs0 d f=some y/\Xh y=cond (x.2.2.2.1 !=0) (b,cs0,d,x.2.2.2.1,([]:O)) (x.1,x.2.1,x.2.2.1,x.2.2.2.1,x.2.2.2.2.2.2.2.2.1):=by
 refine(rm b cs0 d f g h).nm fun n e x=> ?_
 rw [auV,e];cases x.2.2.2.1 !=0
 .exact⟨_,rfl,rfl⟩
 .exact⟨_,rfl,rfl⟩
theorem Xi {nr:Int} {a b:af} {line:O} {fs:af} {fu:Int} {dn:Bool} {r:Sum Int cY} {x:WE} (h:Lv nr a b line fs fu dn r x) (d:ae) (cs0:ai) (f:Int):cond (x.2.2.2.1 !=0) (d,cs0,f,x.2.2.2.1,([]:O)) (x.1,x.2.1,x.2.2.1,x.2.2.2.1,x.2.2.2.2.2.2.2.2.1)=pN d cs0 f nr r:=by
 cases r with
 |inl c=>
  obtain⟨g,i⟩:=h;rw [i,show(c !=0)=true by simpa using g];rfl
 |inr s=>
  have h:x=dw nr a b line fs fu dn s:=h;subst h;rfl
theorem LD (b:ae) (cs0:ai) (d f:Int) (g:b.length<=1048576) (h:cs0.length<=1048576):W fun n=> ∀x:WI,∃y,wQ n x.1 x.2.1 x.2.2.1 x.2.2.2.1 x.2.2.2.2.1 x.2.2.2.2.2.1 x.2.2.2.2.2.2.1 x.2.2.2.2.2.2.2 b cs0 d f=some y/\Xh y=cond (x.2.2.2.2.2.2.2 !=0) (b,cs0,d,x.2.2.2.2.2.2.2,([]:O)) (x.1,x.2.1,x.2.2.1,x.2.2.2.1,x.2.2.2.2.2.1):=by
 refine(tx b cs0 d f g h).nm fun n e x=> ?_
 rw [azW,e];cases x.2.2.2.2.2.2.2 !=0
 .exact⟨_,rfl,rfl⟩
 .exact⟨_,rfl,rfl⟩
theorem Xj {nr:Int} {line:O} {r:Sum Int cY} {x:WI} (h:Lu nr line r x) (b:ae) (cs0:ai) (d:Int):cond (x.2.2.2.2.2.2.2 !=0) (b,cs0,d,x.2.2.2.2.2.2.2,([]:O)) (x.1,x.2.1,x.2.2.1,x.2.2.2.1,x.2.2.2.2.2.1)=pN b cs0 d nr r:=by
 cases r with
 |inl c=>
  obtain⟨f,g⟩:=h;rw [g,show(c !=0)=true by simpa using f];rfl
 |inr s=>
  have h:x=xy nr line s:=h;subst h;rfl
theorem aFi (k:Nat) (hk:k<=8):W fun n=>Ac n (k:Int)=some (Ê k v0,0,0):=by
 refine((VR k 8).and (VS 0 k)).nm fun n ⟨b,d⟩=> ?_
 have hm:min (8:Int) (k:Int)=k:=by omega
 have f:max (0:Int) (k:Int)=k:=by omega
 have g:(8:Int)<=(aC:Int):=by unfold aC;omega
 rw [asR,b,hm,Z,d];simp only [f,Z];rw [hJ (by omega),Y,Ã]
 rfl
theorem aFj (k:Nat) (hk:k<=8):W fun n=>Bk n (k:Int)=some (Ê k v0,0,0):=W.succ (W.of fun n=>by
 have f:(8:Int)<=(aC:Int):=by unfold aC;omega
 have b:(cond (decide ((8:Int)<(k:Int))) (8:Int) (k:Int))=k:=by rw [hL (by omega)];rfl
 have d:(cond (decide ((0:Int)<(k:Int))) (k:Int) (0:Int))=k:=by
  by_cases h:(0:Int)<k
  .rw [hJ h];rfl
  .rw [hL h];show(0:Int)=k;omega
 rw [axR,b,d,hJ (by omega),Y,Ã]
 rfl)
theorem aFk (a b:af) (c d:ae) (hp:fB c a.length b.length) (g:a.length<=8):W fun n=>Hk n a b c d=some (mQ a.length c):=by
 have h:=LA a.length b.length;have hm:=tK h;refine((((aFi a.length g).and (rm (Ê a.length v0) [] 0 0 (by simp;omega) (by simp))).and (Xf (a:=[]) (b:=[]) (line:=[]) (nr:=0) (fu:=0) (dn:=false) hp (by omega) (by omega) (by simp) _ hm rfl)).and (LC (Ê a.length v0) [] 0 0 (by simp;omega) (by simp))).nm fun n ⟨⟨⟨i,j⟩,x,f,k⟩,m⟩=> ?_
 have f:pa n (Ê a.length v0) [] 0 0 [] [] [] [] [] 0 false c=some x:=f;obtain⟨y,p,q⟩:=m x;rw [asQ,i];simp only [Z,j,f,p];exact congrArg some (q.trans (Xi k _ _ _))
theorem aFl (a b:af) (c d:ae) (hp:iR a b c d) (h:jf a b c d):W fun n=>IC n a b c d=some (mQ a.length c):=by
 obtain⟨-, -, -, -, -,g,u,i, -⟩:=id h;have j:=LA a.length b.length;have hm:=tK j;refine(((((xl a b c d hp).and (aFj a.length g)).and (tx (Ê a.length v0) [] 0 0 (by simp;omega) (by simp))).and (Xd (line:=[]) (nr:=0) i (by omega) (by omega) (by simp) _ hm)).and (LD (Ê a.length v0) [] 0 0 (by simp;omega) (by simp))).nm fun n ⟨⟨⟨⟨k,m⟩,p⟩,x,f,q⟩,r⟩=> ?_
 have f:sU n (Ê a.length v0) [] 0 0 [] [] [] 0 c=some x:=f;obtain⟨y,s,t⟩:=r x;rw [axQ,k,aA h];simp only [È,ez,Z,m,p,f,s];exact congrArg some (t.trans (Xj q _ _ _))
theorem aFm (vs:ae) (cs:ai) (nr er:Int) (a b:af) (line:O) (fs:af) (out:O) (fu:Int) (dn:Bool) (ops:ae) (h:er≠0):W fun n=>pa n vs cs nr er a b line fs out fu dn ops=some (vs,cs,nr,er,a,b,line,fs,out,fu,dn):=W.succ (W.succ (W.of fun n=>by
 rw [RE,tb,show(er==(0:Int))=false by simpa using h];rfl))
theorem aFn (a b:af) (c d:ae) (vs:ae) (cs:ai) (nr:Int) (line:O) (s:fB d a.length b.length) (t:a.length<=8) (g:ky vs cs nr 0 a.length b.length) (i:line.length<=1000000):W fun n=>HM n a b c d vs cs nr 0 line=some (fT d vs cs nr line):=by
 have hm:=tK g;have u:0<=nr/\nr<=1000000:=g.2.2.2.2.1;have z:=g.2.2.1;have hc:=g.2.2.2.1;have hw:wrap .i64 (nr+1)=nr+1:=by rw [Á];omega
 by_cases h:1000000<=nr
 .refine(((((rm vs cs nr 0 (by omega) (by omega)).and (VB line i)).and (kK vs cs (nr+1) [] [] line (aQ [] line) [] 0 false 1)).and (aFm vs cs (nr+1) 1 [] [] line (aQ [] line) [] 0 false d (by omega))).and (LC vs cs nr 0 (by omega) (by omega))).nm fun n ⟨⟨⟨⟨j,k⟩,f⟩,m⟩,p⟩=> ?_
  obtain⟨y,q,r⟩:=p (vs,cs,nr+1,1,[],[],line,aQ [] line,[],0,false);rw [Sa,j,k,hw,hJ (by omega)]
  simp only [Y,Z,f,m];rw [q,fT,if_pos h];exact congrArg some r
 .refine((((rm vs cs nr 0 (by omega) (by omega)).and (VB line i)).and (Xf (a:=[]) (b:=[]) (line:=line) (nr:=nr+1) (fu:=0) (dn:=false) s (by omega) (by omega) i _ hm rfl)).and (LC vs cs nr 0 (by omega) (by omega))).nm fun n ⟨⟨⟨j,k⟩,x,f,m⟩,p⟩=> ?_
  have f:pa n vs cs (nr+1) 0 [] [] line (aQ [] line) [] 0 false d=some x:=f;obtain⟨y,q,r⟩:=p x;rw [Sa,j,k,hw,hL (by omega)]
  simp only [ez,Z,f,q];rw [fT,if_neg h];exact congrArg some (r.trans (Xi m _ _ _))
theorem aFo (a b:af) (c d:ae) (vs:ae) (cs:ai) (nr er:Int) (line:O) (hp:iR a b c d) (hk:jf a b c d) (f:ky vs cs nr er a.length b.length) (s:line.length<=1000000):W fun n=>Jl n a b c d vs cs nr er line=some (if er≠0 then(vs,cs,nr,er,[])else fT d vs cs nr line):=by
 obtain⟨-, -, -, -, -,u,z, -,hd⟩:=id hk;have hm:=tK f;have hn:0<=nr/\nr<=1000000:=f.2.2.2.2.1;have hv:=f.2.2.1;have hc:=f.2.2.2.1;have hw:wrap .i64 (nr+1)=nr+1:=by rw [Á];omega
 have base:=((xl a b c d hp).and (UQ vs cs nr er a.length b.length (by omega) (by omega))).and (tx vs cs nr er (by omega) (by omega))
 by_cases g:er=0
 .subst g
  rw [if_neg (by simp)]
  by_cases h:1000000<=nr
  .refine((base.and (pM vs cs nr line [] [] 1)).and (LD vs cs nr 0 (by omega) (by omega))).nm fun n ⟨⟨⟨⟨i,j⟩,k⟩,m⟩,p⟩=> ?_
   obtain⟨y,q,r⟩:=p (vs,cs,nr,0,line,[],[],1);rw [Kb,i,j,k,aA hk,aA f,hJ h];simp only [È,ez,Y,Z,show((0:Int) !=0)=false from rfl,m];rw [q,fT,if_pos h];exact congrArg some r
  .refine((base.and (Xd (line:=line) (nr:=nr+1) hd (by omega) (by omega) s _ hm)).and (LD vs cs nr 0 (by omega) (by omega))).nm fun n ⟨⟨⟨⟨i,j⟩,k⟩,x,m,t⟩,p⟩=> ?_
   have m:sU n vs cs (nr+1) 0 line [] [] 0 d=some x:=m;obtain⟨y,q,r⟩:=p x;rw [Kb,i,j,k,aA hk,aA f,hL h];simp only [È,ez,Z,show((0:Int) !=0)=false from rfl,hw,m,q];rw [fT,if_neg h];exact congrArg some (r.trans (Xj t _ _ _))
 .refine base.nm fun n ⟨⟨i,j⟩,k⟩=> ?_
  rw [Kb,i,j,k,aA hk,aA f,if_pos g];simp only [È,ez,Y,Z,show(er !=0)=true by simpa using g]
theorem Xk {x0:af} {x1:af} {x2:ae} {x3:ae} {x4:Int} {x5:bZ} {x6:bh} {x7:Int} {x8:O} {x9:ag} {b:ag} {d:ae} (h:cr (.cons cE (.cons cE (.cons aL (.cons aL (.cons (.int .i64) (.cons fC (.cons ei (.cons (.int .i64) (.cons .str (.cons bn (.cons bn (.one aL)))))))))))) (x0,x1,x2,x3,x4,x5,x6,x7,x8,x9,b,d)):xo x0 x1 x2 x3 x4 x5 x6 x7 x8 x9 b d:=by
 obtain⟨s0,s1,s2,s3, -,s5,s6, -, -,s9,j,f⟩:=h;refine⟨⟨⟨s0.1,s0.2⟩,⟨s1.1,s1.2⟩,⟨s2.1,fun o k=>(s2.2 o k).2.2⟩,⟨s3.1,fun o k=>(s3.2 o k).2.2⟩⟩,⟨s5.1,fun p hp=> ?_⟩,⟨s6.1,fun r m=> ?_⟩,s9.1,j.1,⟨f.1,fun c hc=>(f.2 c hc).2.2⟩⟩
 .obtain⟨-, -, -, -, -,p5,p6,p7, -, -,q, -, -, -,s,t, -,u,z, -, -,ad, -, -, -,g⟩:=s5.2 p hp
  refine⟨⟨p5.1,fun e he=>(p5.2 e he).2.2.2⟩,p6.1,p7.1,q.1,s.1,t.1,u.1,z.1,ad.1,g.1,fun r m=> ?_⟩
  obtain⟨-, -, -, -, -, -, -,i, -, -⟩:=g.2 r m;exact⟨i.1,fun e he=>(i.2 e he).2.2.2⟩
 .obtain⟨-, -, -, -, -, -, -,i, -, -⟩:=s6.2 r m
  exact⟨i.1,fun e he=>(i.2 e he).2.2.2⟩
noncomputable section
abbrev MT:=ae×(ai×Int×Int×ag×O)
abbrev jx:=Int×(Int×O)
def iY (a b:af) (c d:ae) (m:MT):Prop:=nk a b c d m.1 m.2.1 m.2.2.1 m.2.2.2.1 m.2.2.2.2.1 m.2.2.2.2.2
def xz (k:Nat) (ops:ae):MT:=((mQ k ops).1,(mQ k ops).2.1,(mQ k ops).2.2.1,(mQ k ops).2.2.2.1,Ê 3 0,(mQ k ops).2.2.2.2)
def nT (dn:ag) (w:Int):Int:=dn.getD w.toNat 0
def jy (ops:ae) (m:MT) (c:jx):MT:=
 if c.1<0\/c.2.1<=nT m.2.2.2.2.1 c.1 then m
 else if m.2.2.2.1≠0 then(m.1,m.2.1,m.2.2.1,m.2.2.2.1,m.2.2.2.2.1.set c.1.toNat c.2.1,m.2.2.2.2.2)
 else if 1500<m.2.2.2.2.2.length+(fT ops m.1 m.2.1 m.2.2.1 c.2.2).2.2.2.2.length then(m.1,m.2.1,m.2.2.1,5,m.2.2.2.2.1.set c.1.toNat c.2.1,m.2.2.2.2.2)
 else((fT ops m.1 m.2.1 m.2.2.1 c.2.2).1,(fT ops m.1 m.2.1 m.2.2.1 c.2.2).2.1,(fT ops m.1 m.2.1 m.2.2.1 c.2.2).2.2.1,(fT ops m.1 m.2.1 m.2.2.1 c.2.2).2.2.2.1,m.2.2.2.2.1.set c.1.toNat c.2.1,m.2.2.2.2.2++(fT ops m.1 m.2.1 m.2.2.1 c.2.2).2.2.2.2)
def eN (k:Nat) (start main:ae) (l:List jx):MT:=l.foldl (fun m c=>cond (bo (ew c.1 c.2.1 c.2.2)) (jy main m c) m) (xz k start)
theorem LG {a b:af} {c d:ae} (h:jf a b c d):iY a b c d (xz a.length c):=by
 obtain⟨-, -, -, -, -,j,k,f, -⟩:=id h;obtain⟨g,m⟩:=LB (cells:=b.length) f;exact⟨fun x i=>by rw [î i];exact⟨by omega,by omega⟩,h,g,by simp [xz],by show(mQ a.length c).2.2.2.2.length<=1500;omega⟩
theorem LH {a b:af} {c d:ae} {m:MT} {x:jx} (h:iY a b c d m) (k:ew x.1 x.2.1 x.2.2):iY a b c d (jy d m x):=by
 obtain⟨r,i,f,s,p⟩:=id h;unfold jy;split
 .exact h
 rename_i hw;have k:0<=x.1/\x.1<=2/\1<=x.2.1/\x.2.1<=100000/\x.2.2.length<=60:=by
  rcases k with⟨q, -⟩|⟨t,u,z,p4,p5, -⟩
  .exact absurd (Or.inl (by omega)) hw
  .exact⟨t,u,z,p4,p5⟩
 have hd: ∀y∈m.2.2.2.2.1.set x.1.toNat x.2.1,In y 0 100000:=fun y hy=>by
  rcases à hy with h'|rfl
  .exact r y h'
  .exact⟨by omega,by omega⟩
 have j:(m.2.2.2.2.1.set x.1.toNat x.2.1).length=3:=by rw [Ù];exact s
 split
 .exact⟨hd,i,f,j,p⟩
 rename_i g;have g:m.2.2.2.1=0:=Ø g;split
 .exact⟨hd,i,⟨f.1,f.2.1,f.2.2.1,f.2.2.2.1,f.2.2.2.2.1,⟨by show(0:Int)<=5;omega,by show(5:Int)<=7;omega⟩⟩,j,p⟩
 .rename_i hlen
  have hr:=Ly (line:=x.2.2) i.2.2.2.2.2.2.2.2 f (by omega)
  exact⟨hd,i,hr.1,j,by rw [À];omega⟩
theorem aFp (a b:af) (c d:ae) (h:jf a b c d):W fun n=>Hj n a b c d=some (xz a.length c):=by
 obtain⟨-, -, -, -, -,g,j,f, -⟩:=id h;obtain⟨k,m⟩:=LB (cells:=b.length) f;refine(aFk a b c d f g).nm fun n e=> ?_
 have i:(8:Int)<=(aC:Int):=by unfold aC;omega
 rw [asP,e,Z,hL (by omega),hJ (by omega)]
 rfl
theorem aFq (a b:af) (c d:ae) (hp:iR a b c d) (h:jf a b c d):W fun n=>IB n a b c d=some (xz a.length c):=by
 obtain⟨-, -, -, -, -,j,k,f, -⟩:=id h;obtain⟨m,p⟩:=LB (cells:=b.length) f;refine((xl a b c d hp).and (aFl a b c d hp h)).nm fun n ⟨g,e⟩=> ?_
 have i:(8:Int)<=(aC:Int):=by unfold aC;omega
 rw [axP,g,aA h,e];simp only [Z,È,ez];rw [hL (by omega),hJ (by omega)]
 rfl
theorem aFr (vs:ae) (cs:ai) (nr er:Int) (dn:ag) (out:O) (b:vs.length<=1048576) (d:cs.length<=1048576) (f:dn.length<=1048576):W fun n=>HL n vs cs nr er dn out=some (vs,cs,nr,er,dn,out):=by
 refine(rm vs cs nr er b d).nm fun n e=> ?_
 rw [auW,e,Z,bS (by omega)];rfl
theorem aFs (n:Nat) (l:ag):Qs (n+1) l=cond (þ (ċ l) aC) (some l) none:=by kernel_rfl
theorem aFt (vs:ae) (cs:ai) (nr er:Int) (dn:ag) (out:O) (b:vs.length<=1048576) (d:cs.length<=1048576) (f:dn.length<=1048576):W fun n=>Jk n vs cs nr er dn out=some (vs,cs,nr,er,dn,out):=by
 refine((tx vs cs nr er b d).and (W.ge 1)).nm fun n ⟨e,g⟩=> ?_
 obtain⟨n,rfl⟩: ∃q,n=q+1:=⟨n-1,by omega⟩
 rw [azX,e,Z,aFs,bS (by omega)];rfl
theorem Xl {dn:ag} {w:Int} (b:0<=w) (h:w<(dn.length:Int)):ar dn w=some (nT dn w)/\aN dn (Ì w)=some (nT dn w):=by
 obtain⟨k,rfl⟩: ∃k:Nat,w=k:=⟨w.toNat,by omega⟩
 have hk:k<dn.length:=by omega
 have e:nT dn (k:Int)=dn[k]:=by rw [nT,Ã,Æ,Ä hk];rfl
 exact⟨by rw [aU hk,e],by rw [fh hk,e]⟩
theorem aFu (a b:af) (c d:ae) (m:MT) (x:jx) (h:iY a b c d m) (p:ew x.1 x.2.1 x.2.2):W fun n=>HK n a b c d m.1 m.2.1 m.2.2.1 m.2.2.2.1 m.2.2.2.2.1 m.2.2.2.2.2 x.1 x.2.1 x.2.2=some (jy d m x):=by
 obtain⟨vs,cs,nr,er,dn,out⟩:=m;obtain⟨w,q,line⟩:=x;obtain⟨h1,r,i,h4,h5⟩:=id h;dsimp only at h1 r i h4 h5 p |-
 have hv:=i.2.2.1;have hc:=i.2.2.2.1;have ha:=r.2.2.2.2.2.1;have copy:=aFr vs cs nr er dn out (by omega) (by omega) (by omega)
 by_cases hw:w<0
 .refine copy.nm fun n e=> ?_
  rw [Ck,e,hJ hw,jy,if_pos (Or.inl hw)];rfl
 have p:0<=w/\w<=2/\1<=q/\q<=100000/\line.length<=60:=by
  rcases p with⟨k, -⟩|⟨p1,p2,p3,p4,p5, -⟩
  .omega
  .exact⟨p1,p2,p3,p4,p5⟩
 obtain⟨t,u⟩:=Xl (dn:=dn) (w:=w) p.1 (by omega)
 by_cases s:q<=nT dn w
 .refine copy.nm fun n e=> ?_
  rw [Ck,e,hL hw,t,jy,if_pos (Or.inr s)];simp only [Z,ez,hJ s];rfl
 have f: ¬(w<0\/q<=nT dn w):=by omega
 have j:decide ((0:Int)<=w/\w<(dn.length:Int))=true:=hJ (by omega)
 by_cases g:er=0
 .subst g
  refine(copy.and (aFn a b c d vs cs nr line r.2.2.2.2.2.2.2.2 ha i (by omega))).nm fun n ⟨e,e2⟩=> ?_
  have hr:=Ly (line:=line) r.2.2.2.2.2.2.2.2 i (by omega)
  have hlen:wrap .i64 ((out.length:Int)+((fT d vs cs nr line).2.2.2.2.length:Int))=(out.length:Int)+((fT d vs cs nr line).2.2.2.2.length:Int):=by have:=hr.2;rw [Á];omega
  rw [Ck,e,hL hw,t];simp only [Z,ez,hL s,j,u,Y,show((0:Int) !=0)=false from rfl,e2,hlen];rw [jy,if_neg f,if_neg (by simp)]
  dsimp only
  by_cases z:1500<out.length+(fT d vs cs nr line).2.2.2.2.length
  .rw [if_pos z,hJ (by omega)];rfl
  .rw [if_neg z,hL (by omega),ng (by omega)];rfl
 .refine copy.nm fun n e=> ?_
  rw [Ck,e,hL hw,t];simp only [Z,ez,hL s,j,u,Y,show(er !=0)=true by simpa using g]
  rw [jy,if_neg f,if_pos g]
theorem aFv (a b:af) (c d:ae) (m:MT) (x:jx) (hp:iR a b c d) (h:iY a b c d m):W fun n=>Jj n a b c d m.1 m.2.1 m.2.2.1 m.2.2.2.1 m.2.2.2.2.1 m.2.2.2.2.2 x.1 x.2.1 x.2.2=some (cond (bo (ew x.1 x.2.1 x.2.2)) (jy d m x) m):=by
 obtain⟨vs,cs,nr,er,dn,out⟩:=m;obtain⟨w,q,line⟩:=x;obtain⟨h1,s,p,h4,h5⟩:=id h;dsimp only at h1 s p h4 h5 |-
 have hv:=p.2.2.1;have hc:=p.2.2.2.1;have ha:=s.2.2.2.2.2.1;have base:=((aFt vs cs nr er dn out (by omega) (by omega) (by omega)).and (Kw a b c d vs cs nr er dn out hp (by omega) (by omega) (by omega))).and (Cv w q line)
 have h:nk a b c d vs cs nr er dn out:=h;by_cases f: ¬ew w q line
 .refine base.nm fun n ⟨⟨e,g⟩,i⟩=> ?_
  rw [Cn,e,g,i,aA h,ay f];rfl
 have f:ew w q line:=Ø f;rw [aA f,Y];by_cases hw:w<0
 .refine base.nm fun n ⟨⟨e,g⟩,i⟩=> ?_
  rw [Cn,e,g,i,aA h,aA f,hJ hw,jy,if_pos (Or.inl hw)];rfl
 have t:0<=w/\w<=2/\1<=q/\q<=100000/\line.length<=60:=by
  rcases f with⟨k, -⟩|⟨p1,p2,p3,p4,p5, -⟩
  .omega
  .exact⟨p1,p2,p3,p4,p5⟩
 obtain⟨dz,dN⟩:=Xl (dn:=dn) (w:=w) t.1 (by omega)
 by_cases u:q<=nT dn w
 .refine base.nm fun n ⟨⟨e,g⟩,i⟩=> ?_
  rw [Cn,e,g,i,aA h,aA f,hL hw,dz,jy,if_pos (Or.inr u)];simp only [Z,È,ez,hJ u];rfl
 have r: ¬(w<0\/q<=nT dn w):=by omega
 have z:decide ((0:Int)<=w/\w<(dn.length:Int))=true:=hJ (by omega)
 refine(base.and (aFo a b c d vs cs nr er line hp s p (by omega))).nm fun n ⟨⟨⟨e,g⟩,i⟩,e3⟩=> ?_
 rw [Cn,e,g,i,aA h,aA f,hL hw,dz];simp only [Z,È,ez,hL u,z,dN,Y,e3];rw [jy,if_neg r];dsimp only
 by_cases j:er=0
 .subst j
  have hr:=Ly (line:=line) s.2.2.2.2.2.2.2.2 p (by omega)
  have hlen:wrap .i64 ((out.length:Int)+((fT d vs cs nr line).2.2.2.2.length:Int))=(out.length:Int)+((fT d vs cs nr line).2.2.2.2.length:Int):=by have:=hr.2;rw [Á];omega
  rw [if_neg (by simp),if_neg (by simp),hlen]
  by_cases hb:1500<out.length+(fT d vs cs nr line).2.2.2.2.length
  .rw [if_pos hb,hJ (by omega)];rfl
  .rw [if_neg hb,hL (by omega),ng (by omega)];rfl
 .rw [if_pos j,if_pos j]
  dsimp only
  rw [show wrap .i64 ((out.length:Int)+(([]:O).length:Int))=(out.length:Int) by rw [Á];simp;omega,hL (by omega),ng (by simp;omega),Ñ];rfl
theorem aFw (a b:af) (c d:ae) (l:List jx) (hp:iR a b c d) (h:jf a b c d) (t:l.length<=1048576) (g: ∀x∈l,x.2.2.length<=1048576):W fun n=>Ab n a b c d l=some (eN a.length c d l):=by
 have k:=Pj t (fun (m:MT) (x:jx)=>cond (bo (ew x.1 x.2.1 x.2.2)) (jy d m x) m) (iY a b c d) (LG h) (fun s x z g=>by
   by_cases f:ew x.1 x.2.1 x.2.2
   .rw [aA f];exact LH g f
   .rw [ay f];exact g) (r:=fun m=>(ÿ (0,0,([]:O),m):Sum _ MT)) (L:=fun n m i (s:MT)=>vP n m s.1 s.2.1 s.2.2.1 s.2.2.2.1 s.2.2.2.2.1 s.2.2.2.2.2 a b c d 0 0 ([]:O) i l) (fun s p i hi=>by
   by_cases f:ew l[i].1 l[i].2.1 l[i].2.2
   .refine((xm l[i].1 l[i].2.1 l[i].2.2 (g _ (Ç hi))).and (aFu a b c d s l[i] p f)).mono fun n ⟨j,q⟩ m=> ?_
    rw [JQ,bk hi,aU hi];simp only [Y,Z,j,q,aA f]
   .refine(xm l[i].1 l[i].2.1 l[i].2.2 (g _ (Ç hi))).mono fun n j m=> ?_
    rw [JQ,bk hi,aU hi];simp only [Y,Z,j,ay f,ez]) (fun n m s=>by rw [JQ,ca];rfl)
 refine(((Ku a b c d hp).and (aFp a b c d h)).and k).nm fun n ⟨⟨j,q⟩,u⟩=> ?_
 rw [asO,j,aA h,q];simp only [È,ez,Z,u];rfl
theorem aFx (a b:af) (c d:ae) (l:List jx) (hp:iR a b c d) (h:jf a b c d) (q:l.length<=1048576):W fun n=>Bi n a b c d l=some (eN a.length c d l):=by
 have k:=Pj q (fun (m:MT) (x:jx)=>cond (bo (ew x.1 x.2.1 x.2.2)) (jy d m x) m) (iY a b c d) (LG h) (fun s x u p=>by
   by_cases f:ew x.1 x.2.1 x.2.2
   .rw [aA f];exact LH p f
   .rw [ay f];exact p) (r:=fun m=>(ÿ (0,0,([]:O),m):Sum _ MT)) (L:=fun n m i (s:MT)=>Bj n m s.1 s.2.1 s.2.2.1 s.2.2.2.1 s.2.2.2.2.1 s.2.2.2.2.2 a b c d 0 0 ([]:O) i l l.length) (fun s g i hi=>by
   refine(aFv a b c d s l[i] hp g).mono fun n j m=> ?_
   rw [SH,bk hi,aU hi];simp only [Y,Z,j]) (fun n m s=>by rw [SH,ca];rfl)
 refine((aFq a b c d hp h).and k).nm fun n ⟨j,t⟩=> ?_
 rw [axO,j];simp only [Z,t];rfl
theorem aFy {a b:af} {c d:ae} (h:jf a b c d) (l:List jx):iY a b c d (eN a.length c d l):=Fa l _ (LG h) fun s x i g=>by
 by_cases f:ew x.1 x.2.1 x.2.2
 .rw [aA f];exact LH g f
 .rw [ay f];exact g
end
theorem Xm (n:Nat): ∀(k x:Nat) (acc:O),x<128^(k+1)->x<=4611686018427387903->acc.length+k<=1000-> ∀m,k<m-> ∃(y:Nat) (b:O),wV n m (x:Int) acc=some (ÿ ((y:Int),b))/\y<=127/\b.length<=acc.length+k/\b++[UInt8.ofNat y]=acc++fa x
 |0,x,acc,d,_,_,m,hm=>by
  obtain⟨m,rfl⟩: ∃q,m=q+1:=⟨m-1,by omega⟩
  have d:x<128:=by simpa using d
  rw [Kd,hL (by omega)]
  exact⟨x,acc,rfl,by omega,by omega,by rw [oO (by omega)]⟩
 |k+1,x,acc,d,f,t,m,hm=>by
  obtain⟨m,rfl⟩: ∃q,m=q+1:=⟨m-1,by omega⟩
  by_cases h:x<=127
  .rw [Kd,hL (by omega)]
   exact⟨x,acc,rfl,by omega,by omega,by rw [oO h]⟩
  have g:wrap .i64 (Ď (x:Int) 128)=((x/128:Nat):Int):=by
   rw [show Ď (x:Int) 128=((x/128:Nat):Int) by rw [Int.tdiv_eq_ediv_of_nonneg (by omega)];omega,Á];omega
  have i:wrap .i64 (ď (x:Int) 128+128)=((x%128+128:Nat):Int):=by
   rw [show ď (x:Int) 128=((x%128:Nat):Int) by rw [Int.tmod_eq_emod_of_nonneg (by omega)];omega,Á];omega
  have j:wrap .u8 ((x%128+128:Nat):Int)=((x%128+128:Nat):Int):=by rw [ą];omega
  have hk:x/128<128^(k+1):=by
   rw [Nat.div_lt_iff_lt_mul (by omega)]
   rw [Nat.pow_succ]at d;exact d
  obtain⟨y,b,e,p,r,s⟩:=Xm n k (x/128) (acc++[UInt8.ofNat (x%128+128)]) hk (by omega) (by simp;omega) m (by omega)
  rw [Kd,hJ (by omega),bS (by omega),g,i,j,Ã]
  refine⟨y,b,e,p,by simp at r;omega, ?_⟩
  rw [s,sn h];simp
theorem mR (x:Int) (h:0<=x/\x<=4611686018427387903):W fun n=>kG n x=some (gA x):=by
 obtain⟨k,rfl⟩: ∃k:Nat,x=k:=⟨x.toNat,by omega⟩
 refine((cM k 0 4611686018427387903).and (W.ge 10)).nm fun n ⟨e,j⟩=> ?_
 have hk:k<128^(8+1):=by
  have:(128:Nat)^(8+1)=9223372036854775808:=by decide +kernel
  omega
 obtain⟨y,b,d,m,f,g⟩:=Xm n 8 k [] hk (by omega) (by simp) n (by omega)
 rw [aAA,e,aA (show In (k:Int) 0 4611686018427387903 from⟨by omega,by omega⟩)]
 simp only [Z,È,ez];rw [show wV n n (k:Int) ([]:bu)=_ from d,Z];have i:wrap .u8 (y:Int)=(y:Int):=by rw [ą];omega
 show cond (þ (b.length+1) aC) (some (b++[UInt8.ofNat (Ì (wrap .u8 (y:Int)))])) none=_;rw [bS (by simp at f;omega),i,Ã,Y,g];rfl
theorem rB {x:Int} (h:x<=4611686018427387903):(gA x).length<=9:=so (by omega)
theorem aFz (x:Int) (h:aX x):W fun n=>JF n x=some (oQ x):=by
 have i:=ee h;have g:wrap .i64 ((0:Int)-(2305843009213693951:Int))= -2305843009213693951:=by rw [Á];omega
 have b:=cM x (-2305843009213693951) 2305843009213693951;have hi:In x (-2305843009213693951) 2305843009213693951:=⟨by omega,by omega⟩
 by_cases d:x<0
 .have hw:wrap .i64 (wrap .i64 ((-2:Int)*x)-1)= -2*x-1:=by rw [Á,Á];omega
  refine(b.and (mR (-2*x-1) (by omega))).nm fun n ⟨e,f⟩=> ?_
  rw [Tw,g,e,aA hi];simp only [Z,È,ez,hJ d,Y,hw,f];rw [oQ,if_pos d];rfl
 .have hw:wrap .i64 ((2:Int)*x)=2*x:=by rw [Á];omega
  refine(b.and (mR (2*x) (by omega))).nm fun n ⟨e,f⟩=> ?_
  rw [Tw,g,e,aA hi];simp only [Z,È,ez,hL d,hw,f];rw [oQ,if_neg d];rfl
theorem aFA {x:Int} (h:aX x):(oQ x).length<=9:=by
 have b:=ee h;unfold oQ;split
 .exact so (by omega)
 .exact so (by omega)
theorem LI (s:O) (h:s.length<=3000000):W fun n=>wW n s=some (kA s):=by
 refine(mR s.length (by omega)).nm fun n e=> ?_
 have b:=rB (x:=(s.length:Int)) (by omega)
 rw [aAC,e,Z,bS (by omega),bS (by omega),Y,Y,kA,gA,Ã]
theorem LJ {s:O} {k:Nat} (h:s.length<=k) (hk:k<=3000000):(kA s).length<=k+9:=by
 have b:=so (n:=s.length) (by omega)
 unfold kA;rw [À];omega
theorem Df {v:V} (h:bM v):(jN v).length<=400:=by
 obtain⟨d,f,g⟩:=h;have a:=rB (x:=v.1) (by omega)
 have b:=aFA d;have c:=LJ f (by omega)
 unfold jN;rw [À,À];omega
theorem LK {v:V} (h:bM v):0<=v.1/\v.1<=3:=by
 obtain⟨b,d,f⟩:=h;omega
theorem Xn (v:V) (h:bM v):W fun n=>Cg n v.1 v.2.1 v.2.2=some (jN v):=by
 have hk:=LK h;have b:=Df h;refine(((mR v.1 (by omega)).and (aFz v.2.1 h.1)).and (LI v.2.2 (by have:=h.2.1;omega))).nm fun n ⟨⟨d,f⟩,g⟩=> ?_
 unfold jN at b;rw [À,À]at b;rw [aAB,d,Z,f,Z,bS (by omega),Y,g,Z,bS (by rw [À];omega)];rfl
theorem Xo {cells:Int} {c:VC} (h:CW cells c) (i:cells<=8):(kC c).length<=800:=by
 obtain⟨j,k,f,g⟩:=h;have a:=rB (x:=c.1) (by omega)
 have b:=LJ f (by omega)
 have d:=Df g;unfold kC;rw [À,À];omega
theorem Xp (a b:af) (c d:ae) (vs:ae) (cs:ai) (nr er:Int) (dn:ag) (out:O) (h:nk a b c d vs cs nr er dn out):W fun n=>Cf n vs cs nr er dn out=some (qC vs cs nr er dn out):=by
 obtain⟨h1,h2,p,h4,h5⟩:=h;have ha:a.length<=8:=h2.2.2.2.2.2.1;have hb:b.length<=8:=h2.2.2.2.2.2.2.1;have hv:=p.2.2.1;have hc:=p.2.2.2.1;have j:=(yN.1 p.2.1).1;obtain⟨n1,n2⟩:=p.2.2.2.2.1;obtain⟨r1,r2⟩:=p.2.2.2.2.2;have l0:=so (n:=vs.length) (by omega)
 have l1:=so (n:=cs.length) (by omega)
 have lr:=rB (x:=nr) (by omega)
 have le:=rB (x:=er) (by omega)
 have lo:=LJ h5 (by omega)
 have fl: ∀ {α:Type} (f:α->O) (B:Nat) (l:List α),(∀x∈l,(f x).length<=B)->(l.flatMap f).length<=l.length*B:=by
  intro α f B l;induction l with
  |nil=>simp
  |cons x l ih=>
   intro hx;have h1:=hx x (by simp)
   have h2:=ih fun y hy=>hx y (by simp [hy])
   rw [List.flatMap_cons,À,Ï,Nat.add_mul];omega
 have f0:=fl jN 400 vs fun v hm=>Df (p.1 v hm)
 have f1:=fl kC 800 cs fun v hm=>Xo (j v hm) (by omega)
 have f2:=fl gA 9 dn fun x hm=>rB (by have:=(h1 x hm).2;omega)
 have g0:vs.length*400<=8*400:=è _ (by omega)
 have g1:cs.length*800<=40*800:=è _ (by omega)
 obtain⟨u,q⟩: ∃A,A=nq jN vs:=⟨_,rfl⟩
 obtain⟨A1,t⟩: ∃A,A=u++nq kC cs:=⟨_,rfl⟩
 have a0:u.length<=4000:=by rw [q,nq,À];omega
 have a1:A1.length<=40000:=by rw [t,nq,À,À];omega
 have k0:=Fb (l:=vs) (by omega) (f:=jN) (fun v hm=>Df (p.1 v hm)) (init:=fa vs.length) (by omega) (r:=fun s=>(ÿ (vs,cs,nr,er,vs,cs,nr,er,dn,out,s):Sum _ O)) (L:=fun n m i s=>wS n m vs cs nr er vs cs nr er dn out i s) ((W.all vs fun v hm=>Xn v (p.1 v hm)).mono fun n h i hi acc m g=>by
  rw [Tt,bk hi,aU hi];simp only [Y,Z,h _ (Ç hi)];rw [bS g];rfl) (fun n m s=>by rw [Tt,ca];rfl)
 have k1:=Fb (l:=cs) (by omega) (f:=kC) (fun v hm=>Xo (j v hm) (by omega)) (init:=u++fa cs.length) (by rw [À];omega) (r:=fun s=>(ÿ (vs,cs,nr,er,dn,out,vs,cs,nr,er,s):Sum _ O)) (L:=fun n m i s=>wT n m vs cs nr er vs cs nr er dn out i s) ((W.all cs fun v hm=>((mR v.1 (by have:=(j v hm).1;have:=(j v hm).2.1;omega)).and (LI v.2.1 (by have:=(j v hm).2.2.1;omega))).and (Xn v.2.2 (j v hm).2.2.2)).mono fun n h i hi acc m g=>by
  obtain⟨⟨e1,e2⟩,e3⟩:=h _ (Ç hi);have hl:(gA cs[i].1).length+(kA cs[i].2.1).length+(jN cs[i].2.2).length=(kC cs[i]).length:=by rw [kC,À,À]
  rw [Tu,bk hi,aU hi];simp only [Y,Z,e1,e2,e3];rw [bS (by omega),bS (by rw [À];omega),bS (by rw [À,À];omega)]
  simp only [Y,kC,Ë]) (fun n m s=>by rw [Tu,ca];rfl)
 have k2:=Fb (l:=dn) (by omega) (f:=gA) (fun x hm=>rB (by have:=(h1 x hm).2;omega)) (init:=(A1++gA nr)++gA er) (by rw [À,À];omega) (r:=fun s=>(ÿ (vs,cs,nr,er,dn,out,s):Sum _ O)) (L:=fun n m i s=>wU n m vs cs nr er dn out i s) ((W.all dn fun x hm=>mR x (by have:=h1 x hm;exact⟨this.1,by have:=this.2;omega⟩)).mono fun n h i hi acc m g=>by
  rw [Tv,bk hi,aU hi];simp only [Y,Z,h _ (Ç hi)];rw [bS g];rfl) (fun n m s=>by rw [Tv,ca];rfl)
 refine(((((((mR vs.length (by omega)).and (mR cs.length (by omega))).and (mR nr (by omega))).and (mR er (by omega))).and (LI out (by omega))).and (k0.and k1)).and k2).nm fun n ⟨⟨⟨⟨⟨⟨e1,e2⟩,e3⟩,e4⟩,e5⟩,e6,e7⟩,e8⟩=> ?_
 have n0: ∀k:Nat,gA (k:Int)=fa k:=fun k=>by rw [gA,Ã]
 rw [n0]at e1 e2;have z:fa vs.length++vs.flatMap jN=u:=q.symm;have ad:u++fa cs.length++cs.flatMap kC=A1:=by rw [t,nq,Ë]
 rw [z]at e6;rw [ad]at e7;rw [aAz,e1,Z,show wS n n vs cs nr er vs cs nr er dn out 0 (fa vs.length)=_ from e6,Z];dsimp only [aw]
 rw [e2,Z,bS (by omega),Y]
 rw [show wT n n vs cs nr er vs cs nr er dn out 0 (u++fa cs.length)=_ from e7,Z];dsimp only [aw]
 rw [e3,Z,bS (by omega),Y,e4,Z,bS (by rw [À];omega),Y,show wU n n vs cs nr er dn out 0 ((A1++gA nr)++gA er)=_ from e8,Z]
 dsimp only [aw]
 have a8:dn.length*9<=3*9:=è _ (by omega)
 rw [e5,Z,bS (by simp only [À];omega),Y]
 rw [qC,Fg,t,q]
theorem aFB {a b z b':af} {c d c' d':ae} {m m':MT} (h:iY a b c d m) (i:iY z b' c' d' m'):(qC m.1 m.2.1 m.2.2.1 m.2.2.2.1 m.2.2.2.2.1 m.2.2.2.2.2=qC m'.1 m'.2.1 m'.2.2.1 m'.2.2.2.1 m'.2.2.2.2.1 m'.2.2.2.2.2)↔m=m':=by
 constructor
 .intro e
  have k: ∀ {a b:af} {c d:ae} {m:MT},iY a b c d m->(∀v∈m.1,0<=v.1)/\(∀c∈m.2.1,0<=c.1/\0<=c.2.2.1)/\0<=m.2.2.1/\0<=m.2.2.2.1/\(∀x∈m.2.2.2.2.1,0<=x):=fun h=>by
   obtain⟨h1,h2,g,h4,h5⟩:=h;have f:=(yN.1 g.2.1).1;exact⟨fun v hv=>(LK (g.1 v hv)).1,fun c j=>⟨(f c j).1,(LK (f c j).2.2.2).1⟩,g.2.2.2.2.1.1,g.2.2.2.2.2.1,fun x hx=>(h1 x hx).1⟩
  obtain⟨p1,p2,p3,p4,p5⟩:=k h;obtain⟨q1,q2,q3,q4,q5⟩:=k i;obtain⟨p,q,r,s,t,u⟩:=aaP p1 q1 p2 q2 p3 q3 p4 q4 p5 q5 (by rw [h.2.2.2.1,i.2.2.2.1]) e
  obtain⟨m1,m2,m3,m4,m5,m6⟩:=m;obtain⟨n1,n2,n3,n4,n5,n6⟩:=m';dsimp only at p q r s t u
  rw [p,q,r,s,t,u]
 .rintro rfl;rfl
theorem aFC {a b:af} {c d:ae} {m m':MT} (h:iY a b c d m) (f:iY a b c d m'):W fun n=>Ce n m.1 m.2.1 m.2.2.1 m.2.2.2.1 m.2.2.2.2.1 m.2.2.2.2.2 m'.1 m'.2.1 m'.2.2.1 m'.2.2.2.1 m'.2.2.2.2.1 m'.2.2.2.2.2=some (bo (m=m')):=by
 refine((Xp a b c d _ _ _ _ _ _ h).and (Xp a b c d _ _ _ _ _ _ f)).nm fun n ⟨g,i⟩=> ?_
 have j:((m.2.2.2.2.1.length:Int)==(m'.2.2.2.2.1.length:Int))=true:=by
  have k:=h.2.2.2.1;have p:=f.2.2.2.1;rw [k,p];rfl
 rw [aAy,g,i];simp only [Z,j,bj,aFB h f,cH]
theorem LL {α:Type} (l r:List α) (h:l.length=r.length):(∀i,i<l.length->l[i]? =r[i]?)↔l=r:=by
 constructor
 .intro k
  apply List.ext_getElem?
  intro i;by_cases hi:i<l.length
  .exact k i hi
  .rw [ü (by omega),ü (by omega)]
 .rintro rfl i _;rfl
theorem aFD (l r:ae) (f:l.length<=1048576):W fun n=>JH n l r=some (bo (l=r)):=by
 by_cases h:l.length=r.length
 .have k:=iD f (q:=fun i=>l[i]? =r[i]?) (r:=false) (b:=()) (L:=fun n m i=>wY n m i r l l.length) (W.of fun n m i hi=>by
   have d:i<r.length:=by omega
   rw [TA,bk hi,aU hi,aU d];simp only [Y,Z,rY,ï,ö,id,ð,bj,Ä hi,Ä d,ì]
   by_cases e:l[i]=r[i]
   .rw [aA e,e];simp [lZ]
   .rw [ay e]
    have:(bo (l[i].1=r[i].1)&&(bo (l[i].2.1=r[i].2.1)&&bo (l[i].2.2=r[i].2.2)))=false:=by
     rw [<-å];simp only [æ,lY];rintro⟨g,j,p⟩
     exact e (ã g (ã j p))
    rw [this];rfl) (fun n m=>by rw [TA,ca];rfl)
  refine k.nm fun n e=> ?_
  rw [Tz,show((l.length:Int) !=(r.length:Int))=false by simp [h],ez,show wY n n 0 r l l.length=_ from e]
  simp only [Z,cv,cH,LL l r h]
 .refine W.succ (W.of fun n=> ?_)
  rw [Tz,show((l.length:Int) !=(r.length:Int))=true by simp;omega,ay (fun e=>h (by rw [e]))];rfl
theorem aFE (l r:ai) (f:l.length<=1048576):W fun n=>JI n l r=some (bo (l=r)):=by
 by_cases h:l.length=r.length
 .have k:=iD f (q:=fun i=>l[i]? =r[i]?) (r:=false) (b:=()) (L:=fun n m i=>wZ n m i r l l.length) (W.of fun n m i hi=>by
   have d:i<r.length:=by omega
   rw [TC,bk hi,aU hi,aU d];simp only [Y,Z,rY,ï,ö,id,ð,bj,Ä hi,Ä d,ì]
   by_cases e:l[i]=r[i]
   .rw [aA e,e];simp [lZ]
   .rw [ay e]
    have:(bo (l[i].1=r[i].1)&&(bo (l[i].2.1=r[i].2.1)&&(bo (l[i].2.2.1=r[i].2.2.1)&&(bo (l[i].2.2.2.1=r[i].2.2.2.1)&&bo (l[i].2.2.2.2=r[i].2.2.2.2)))))=false:=by
     rw [<-å];simp only [æ,lY];rintro⟨g,j,p,s,t⟩
     exact e (ã g (ã j (ã p (ã s t))))
    rw [this];rfl) (fun n m=>by rw [TC,ca];rfl)
  refine k.nm fun n e=> ?_
  rw [TB,show((l.length:Int) !=(r.length:Int))=false by simp [h],ez,show wZ n n 0 r l l.length=_ from e]
  simp only [Z,cv,cH,LL l r h]
 .refine W.succ (W.of fun n=> ?_)
  rw [TB,show((l.length:Int) !=(r.length:Int))=true by simp;omega,ay (fun e=>h (by rw [e]))];rfl
theorem aFF (l r:ag) (f:l.length<=1048576):W fun n=>JJ n l r=some (bo (l=r)):=by
 by_cases h:l.length=r.length
 .have k:=iD f (q:=fun i=>l[i]? =r[i]?) (r:=false) (b:=()) (L:=fun n m i=>xa n m i r l l.length) (W.of fun n m i hi=>by
   have d:i<r.length:=by omega
   rw [TE,bk hi,aU hi,aU d];simp only [Y,Z,cw,Ä hi,Ä d,ì]
   exact eF (by simp)) (fun n m=>by rw [TE,ca];rfl)
  refine k.nm fun n e=> ?_
  rw [TD,show((l.length:Int) !=(r.length:Int))=false by simp [h],ez,show xa n n 0 r l l.length=_ from e]
  simp only [Z,cv,cH,LL l r h]
 .refine W.succ (W.of fun n=> ?_)
  rw [TD,show((l.length:Int) !=(r.length:Int))=true by simp;omega,ay (fun e=>h (by rw [e]))];rfl
theorem aFG (m m':MT) (b:m.1.length<=1048576) (d:m.2.1.length<=1048576) (f:m.2.2.2.2.1.length<=1048576):W fun n=>Ch n m.1 m.2.1 m.2.2.1 m.2.2.2.1 m.2.2.2.2.1 m.2.2.2.2.2 m'.1 m'.2.1 m'.2.2.1 m'.2.2.2.1 m'.2.2.2.2.1 m'.2.2.2.2.2=some (bo (m=m')):=by
 refine(((aFD m.1 m'.1 b).and (aFE m.2.1 m'.2.1 d)).and (aFF m.2.2.2.2.1 m'.2.2.2.2.1 f)).nm fun n ⟨⟨g,h⟩,i⟩=> ?_
 rw [aAD,g];simp only [Z,h,i,bj,iC];refine cG ?_
 obtain⟨m1,m2,m3,m4,m5,m6⟩:=m;obtain⟨j,k,p,q,n5,n6⟩:=m';simp only [Prod.mk.injEq]
def nU (l:aW) (base:Int) (dl:List jx) (k:Nat):Prop:= ∀e,l[((k:Int)-base).toNat]? =some e-> ∀c,dl[k]? =some c->e.2=c
def pO (p:lE):MT:=(p.2.2.2.2.2.2.2.2.2.2.2.2.2.2.2.2.2.1,p.2.2.2.2.2.2.2.2.2.2.2.2.2.2.2.2.2.2.1,p.2.2.2.2.2.2.2.2.2.2.2.2.2.2.2.2.2.2.2.1,p.2.2.2.2.2.2.2.2.2.2.2.2.2.2.2.2.2.2.2.2.1,p.2.2.2.2.2.2.2.2.2.2.2.2.2.2.2.2.2.2.2.2.2.1,p.2.2.2.2.2.2.2.2.2.2.2.2.2.2.2.2.2.2.2.2.2.2.1)
def tL (a:af) (c d:ae) (dl:List jx) (p:lE):Prop:= ¬((dl.length:Int)<p.2.2.2.2.2.2.2.2.2.2.2.2.2.2.2.2.1)/\pO p=eN a.length c d (dl.take p.2.2.2.2.2.2.2.2.2.2.2.2.2.2.2.2.1.toNat)/\ ∀k:Nat,p.2.2.2.1.toNat<=k->k<p.2.2.2.2.2.2.2.2.2.2.2.2.2.2.2.2.1.toNat->nU p.2.2.2.2.2.1 p.2.2.2.1 dl k
theorem Xq {base t:Int} {l:aW} (h:oN base t l):(me base t l).1=base+l.length:=by
 obtain⟨⟨b,d⟩, -,f, -⟩:=h;unfold me;cases e:l.getLast? with
 |none=>
  have:l=[]:=by simpa using e
  subst this;simp
 |some x=>
  show wrap .i64 (base+l.length)=_;rw [Á];omega
theorem aFH (g:af) (j:af) (s:ae) (t:ae) (u:Int) (z:bZ) (x6:bh) (x7:Int) (x8:O) (x9:ag) (f:ag) (d:ae) (p:lE) (hb:In p.2.2.2.1 0 300) (hc:In p.2.2.2.2.2.2.2.2.2.2.2.2.2.2.2.2.1 p.2.2.2.1 (p.2.2.2.1+p.2.2.2.2.2.1.length)) (hl:p.2.2.2.2.2.1.length<=1048576) (ar:d.length<=1048576) (hx:p.2.2.2.2.2.2.2.2.2.2.2.2.2.2.2.2.1<=(d.length:Int)) (y:MT) (tk:List jx) (i:Int):
  W fun n=>wR n n g j s t u z x6 x7 x8 x9 f d p.1 p.2.1 p.2.2.1 p.2.2.2.1 p.2.2.2.2.1 p.2.2.2.2.2.1 p.2.2.2.2.2.2.1 p.2.2.2.2.2.2.2.1 p.2.2.2.2.2.2.2.2.1 p.2.2.2.2.2.2.2.2.2.1 p.2.2.2.2.2.2.2.2.2.2.1 p.2.2.2.2.2.2.2.2.2.2.2.1 p.2.2.2.2.2.2.2.2.2.2.2.2.1 p.2.2.2.2.2.2.2.2.2.2.2.2.2.1 p.2.2.2.2.2.2.2.2.2.2.2.2.2.2.1 p.2.2.2.2.2.2.2.2.2.2.2.2.2.2.2.1 p.2.2.2.2.2.2.2.2.2.2.2.2.2.2.2.2.1 p.2.2.2.2.2.2.2.2.2.2.2.2.2.2.2.2.2.1 p.2.2.2.2.2.2.2.2.2.2.2.2.2.2.2.2.2.2.1 p.2.2.2.2.2.2.2.2.2.2.2.2.2.2.2.2.2.2.2.1 p.2.2.2.2.2.2.2.2.2.2.2.2.2.2.2.2.2.2.2.2.1 p.2.2.2.2.2.2.2.2.2.2.2.2.2.2.2.2.2.2.2.2.2.1 p.2.2.2.2.2.2.2.2.2.2.2.2.2.2.2.2.2.2.2.2.2.2.1 p.2.2.2.2.2.2.2.2.2.2.2.2.2.2.2.2.2.2.2.2.2.2.2.1 p.2.2.2.2.2.2.2.2.2.2.2.2.2.2.2.2.2.2.2.2.2.2.2.2.1 p.2.2.2.2.2.2.2.2.2.2.2.2.2.2.2.2.2.2.2.2.2.2.2.2.2 p.2.2.2.1 false true p.2.2.2.2.2.2.2.2.2.2.2.2.2.2.2.2.2.1 p.2.2.2.2.2.2.2.2.2.2.2.2.2.2.2.2.2.2.1 p.2.2.2.2.2.2.2.2.2.2.2.2.2.2.2.2.2.2.2.1 p.2.2.2.2.2.2.2.2.2.2.2.2.2.2.2.2.2.2.2.2.1 p.2.2.2.2.2.2.2.2.2.2.2.2.2.2.2.2.2.2.2.2.2.1 p.2.2.2.2.2.2.2.2.2.2.2.2.2.2.2.2.2.2.2.2.2.2.1 y.1 y.2.1 y.2.2.1 y.2.2.2.1 y.2.2.2.2.1 y.2.2.2.2.2 g j s t tk d p.2.2.2.2.2.2.2.2.2.2.2.2.2.2.2.2.1 i=some (cond (bo (∀k:Nat,p.2.2.2.1.toNat<=k->k<p.2.2.2.2.2.2.2.2.2.2.2.2.2.2.2.2.1.toNat->nU p.2.2.2.2.2.1 p.2.2.2.1 d k)) (.inl (g,j,s,t,u,z,x6,x7,x8,x9,f,d,p.1,p.2.1,p.2.2.1,p.2.2.2.1,p.2.2.2.2.1,p.2.2.2.2.2.1,p.2.2.2.2.2.2.1,p.2.2.2.2.2.2.2.1,p.2.2.2.2.2.2.2.2.1,p.2.2.2.2.2.2.2.2.2.1,p.2.2.2.2.2.2.2.2.2.2.1,p.2.2.2.2.2.2.2.2.2.2.2.1,p.2.2.2.2.2.2.2.2.2.2.2.2.1,p.2.2.2.2.2.2.2.2.2.2.2.2.2.1,p.2.2.2.2.2.2.2.2.2.2.2.2.2.2.1,p.2.2.2.2.2.2.2.2.2.2.2.2.2.2.2.1,p.2.2.2.2.2.2.2.2.2.2.2.2.2.2.2.2.1,p.2.2.2.2.2.2.2.2.2.2.2.2.2.2.2.2.2.1,p.2.2.2.2.2.2.2.2.2.2.2.2.2.2.2.2.2.2.1,p.2.2.2.2.2.2.2.2.2.2.2.2.2.2.2.2.2.2.2.1,p.2.2.2.2.2.2.2.2.2.2.2.2.2.2.2.2.2.2.2.2.1,p.2.2.2.2.2.2.2.2.2.2.2.2.2.2.2.2.2.2.2.2.2.1,p.2.2.2.2.2.2.2.2.2.2.2.2.2.2.2.2.2.2.2.2.2.2.1,p.2.2.2.2.2.2.2.2.2.2.2.2.2.2.2.2.2.2.2.2.2.2.2.1,p.2.2.2.2.2.2.2.2.2.2.2.2.2.2.2.2.2.2.2.2.2.2.2.2.1,p.2.2.2.2.2.2.2.2.2.2.2.2.2.2.2.2.2.2.2.2.2.2.2.2.2,false,true,p.2.2.2.2.2.2.2.2.2.2.2.2.2.2.2.2.2.1,p.2.2.2.2.2.2.2.2.2.2.2.2.2.2.2.2.2.2.1,p.2.2.2.2.2.2.2.2.2.2.2.2.2.2.2.2.2.2.2.1,p.2.2.2.2.2.2.2.2.2.2.2.2.2.2.2.2.2.2.2.2.1,p.2.2.2.2.2.2.2.2.2.2.2.2.2.2.2.2.2.2.2.2.2.1,p.2.2.2.2.2.2.2.2.2.2.2.2.2.2.2.2.2.2.2.2.2.2.1,y.1,y.2.1,y.2.2.1,y.2.2.2.1,y.2.2.2.2.1,y.2.2.2.2.2,g,j,s,t,tk,d,p.2.2.2.2.2.2.2.2.2.2.2.2.2.2.2.2.1,i)) (.inr false)):=by
 obtain⟨b0,b1⟩:=hb;obtain⟨c0,c1⟩:=hc;have q:=Pk (a:=p.2.2.2.1.toNat) (b:=p.2.2.2.2.2.2.2.2.2.2.2.2.2.2.2.2.1.toNat) (by omega) (by omega) (q:=nU p.2.2.2.2.2.1 p.2.2.2.1 d) (r:=false) (bb:=(g,j,s,t,u,z,x6,x7,x8,x9,f,d,p.1,p.2.1,p.2.2.1,p.2.2.2.1,p.2.2.2.2.1,p.2.2.2.2.2.1,p.2.2.2.2.2.2.1,p.2.2.2.2.2.2.2.1,p.2.2.2.2.2.2.2.2.1,p.2.2.2.2.2.2.2.2.2.1,p.2.2.2.2.2.2.2.2.2.2.1,p.2.2.2.2.2.2.2.2.2.2.2.1,p.2.2.2.2.2.2.2.2.2.2.2.2.1,p.2.2.2.2.2.2.2.2.2.2.2.2.2.1,p.2.2.2.2.2.2.2.2.2.2.2.2.2.2.1,p.2.2.2.2.2.2.2.2.2.2.2.2.2.2.2.1,p.2.2.2.2.2.2.2.2.2.2.2.2.2.2.2.2.1,p.2.2.2.2.2.2.2.2.2.2.2.2.2.2.2.2.2.1,p.2.2.2.2.2.2.2.2.2.2.2.2.2.2.2.2.2.2.1,p.2.2.2.2.2.2.2.2.2.2.2.2.2.2.2.2.2.2.2.1,p.2.2.2.2.2.2.2.2.2.2.2.2.2.2.2.2.2.2.2.2.1,p.2.2.2.2.2.2.2.2.2.2.2.2.2.2.2.2.2.2.2.2.2.1,p.2.2.2.2.2.2.2.2.2.2.2.2.2.2.2.2.2.2.2.2.2.2.1,p.2.2.2.2.2.2.2.2.2.2.2.2.2.2.2.2.2.2.2.2.2.2.2.1,p.2.2.2.2.2.2.2.2.2.2.2.2.2.2.2.2.2.2.2.2.2.2.2.2.1,p.2.2.2.2.2.2.2.2.2.2.2.2.2.2.2.2.2.2.2.2.2.2.2.2.2,false,true,p.2.2.2.2.2.2.2.2.2.2.2.2.2.2.2.2.2.1,p.2.2.2.2.2.2.2.2.2.2.2.2.2.2.2.2.2.2.1,p.2.2.2.2.2.2.2.2.2.2.2.2.2.2.2.2.2.2.2.1,p.2.2.2.2.2.2.2.2.2.2.2.2.2.2.2.2.2.2.2.2.1,p.2.2.2.2.2.2.2.2.2.2.2.2.2.2.2.2.2.2.2.2.2.1,p.2.2.2.2.2.2.2.2.2.2.2.2.2.2.2.2.2.2.2.2.2.2.1,y.1,y.2.1,y.2.2.1,y.2.2.2.1,y.2.2.2.2.1,y.2.2.2.2.2,g,j,s,t,tk,d,p.2.2.2.2.2.2.2.2.2.2.2.2.2.2.2.2.1,i)) (L:=fun n m k=>wR n m g j s t u z x6 x7 x8 x9 f d p.1 p.2.1 p.2.2.1 p.2.2.2.1 p.2.2.2.2.1 p.2.2.2.2.2.1 p.2.2.2.2.2.2.1 p.2.2.2.2.2.2.2.1 p.2.2.2.2.2.2.2.2.1 p.2.2.2.2.2.2.2.2.2.1 p.2.2.2.2.2.2.2.2.2.2.1 p.2.2.2.2.2.2.2.2.2.2.2.1 p.2.2.2.2.2.2.2.2.2.2.2.2.1 p.2.2.2.2.2.2.2.2.2.2.2.2.2.1 p.2.2.2.2.2.2.2.2.2.2.2.2.2.2.1 p.2.2.2.2.2.2.2.2.2.2.2.2.2.2.2.1 p.2.2.2.2.2.2.2.2.2.2.2.2.2.2.2.2.1 p.2.2.2.2.2.2.2.2.2.2.2.2.2.2.2.2.2.1 p.2.2.2.2.2.2.2.2.2.2.2.2.2.2.2.2.2.2.1 p.2.2.2.2.2.2.2.2.2.2.2.2.2.2.2.2.2.2.2.1 p.2.2.2.2.2.2.2.2.2.2.2.2.2.2.2.2.2.2.2.2.1 p.2.2.2.2.2.2.2.2.2.2.2.2.2.2.2.2.2.2.2.2.2.1 p.2.2.2.2.2.2.2.2.2.2.2.2.2.2.2.2.2.2.2.2.2.2.1 p.2.2.2.2.2.2.2.2.2.2.2.2.2.2.2.2.2.2.2.2.2.2.2.1 p.2.2.2.2.2.2.2.2.2.2.2.2.2.2.2.2.2.2.2.2.2.2.2.2.1 p.2.2.2.2.2.2.2.2.2.2.2.2.2.2.2.2.2.2.2.2.2.2.2.2.2 k false true p.2.2.2.2.2.2.2.2.2.2.2.2.2.2.2.2.2.1 p.2.2.2.2.2.2.2.2.2.2.2.2.2.2.2.2.2.2.1 p.2.2.2.2.2.2.2.2.2.2.2.2.2.2.2.2.2.2.2.1 p.2.2.2.2.2.2.2.2.2.2.2.2.2.2.2.2.2.2.2.2.1 p.2.2.2.2.2.2.2.2.2.2.2.2.2.2.2.2.2.2.2.2.2.1 p.2.2.2.2.2.2.2.2.2.2.2.2.2.2.2.2.2.2.2.2.2.2.1 y.1 y.2.1 y.2.2.1 y.2.2.2.1 y.2.2.2.2.1 y.2.2.2.2.2 g j s t tk d p.2.2.2.2.2.2.2.2.2.2.2.2.2.2.2.2.1 i) (W.of fun n m k h1 h2=>by
  have hw:wrap .i64 ((k:Int)-p.2.2.2.1)=((k-p.2.2.2.1.toNat:Nat):Int):=by rw [Á];omega
  have hi:k-p.2.2.2.1.toNat<p.2.2.2.2.2.1.length:=by omega
  have hk:k<d.length:=by omega
  have hd:nU p.2.2.2.2.2.1 p.2.2.2.1 d k↔p.2.2.2.2.2.1[k-p.2.2.2.1.toNat].2=d[k]:=by
   unfold nU;rw [show ((k:Int)-p.2.2.2.1).toNat=k-p.2.2.2.1.toNat by omega,Ä hi,Ä hk]
   exact⟨fun h=>h _ rfl _ rfl,fun h e he c hc=>by cases he;cases hc;exact h⟩
  rw [Ts,hJ (show (k:Int)<p.2.2.2.2.2.2.2.2.2.2.2.2.2.2.2.2.1 by omega),hw,aU hi,aU hk,kY hd]
  simp only [Y,Z,rY,ï,ö,id,ð,bj];by_cases e:p.2.2.2.2.2.1[k-p.2.2.2.1.toNat].2=d[k]
  .rw [aA e,e];simp only [lZ,ć,È,Y,ez]
  .rw [ay e]
   have:(bo (p.2.2.2.2.2.1[k-p.2.2.2.1.toNat].2.1=d[k].1)&&(bo (p.2.2.2.2.2.1[k-p.2.2.2.1.toNat].2.2.1=d[k].2.1)&&bo (p.2.2.2.2.2.1[k-p.2.2.2.1.toNat].2.2.2=d[k].2.2)))=false:=by
    rw [<-å];simp only [æ,lY];rintro⟨e1,e2,e3⟩
    exact e (ã e1 (ã e2 e3))
   rw [this];rfl) (fun n m k h1 h2=>by rw [Ts,hL (show ¬(k:Int)<p.2.2.2.2.2.2.2.2.2.2.2.2.2.2.2.2.1 by omega)];rfl)
 refine q.mono fun n e=> ?_
 have e3:((p.2.2.2.1.toNat:Nat):Int)=p.2.2.2.1:=by omega
 rw [e3]at e;exact e
theorem aFI (j:af) (s:af) (t:ae) (u:ae) (z:Int) (f:bZ) (x6:bh) (x7:Int) (x8:O) (x9:ag) (g:ag) (d:ae) (p:lE) (hb:In p.2.2.2.1 0 300) (hc:In p.2.2.2.2.2.2.2.2.2.2.2.2.2.2.2.2.1 p.2.2.2.1 (p.2.2.2.1+p.2.2.2.2.2.1.length)) (hl:p.2.2.2.2.2.1.length<=1048576) (ar:d.length<=1048576) (hx:p.2.2.2.2.2.2.2.2.2.2.2.2.2.2.2.2.1<=(d.length:Int)) (y:MT) (tk:List jx) (i:Int):
  W fun n=>wX n n j s t u z f x6 x7 x8 x9 g d p.1 p.2.1 p.2.2.1 p.2.2.2.1 p.2.2.2.2.1 p.2.2.2.2.2.1 p.2.2.2.2.2.2.1 p.2.2.2.2.2.2.2.1 p.2.2.2.2.2.2.2.2.1 p.2.2.2.2.2.2.2.2.2.1 p.2.2.2.2.2.2.2.2.2.2.1 p.2.2.2.2.2.2.2.2.2.2.2.1 p.2.2.2.2.2.2.2.2.2.2.2.2.1 p.2.2.2.2.2.2.2.2.2.2.2.2.2.1 p.2.2.2.2.2.2.2.2.2.2.2.2.2.2.1 p.2.2.2.2.2.2.2.2.2.2.2.2.2.2.2.1 p.2.2.2.2.2.2.2.2.2.2.2.2.2.2.2.2.1 p.2.2.2.2.2.2.2.2.2.2.2.2.2.2.2.2.2.1 p.2.2.2.2.2.2.2.2.2.2.2.2.2.2.2.2.2.2.1 p.2.2.2.2.2.2.2.2.2.2.2.2.2.2.2.2.2.2.2.1 p.2.2.2.2.2.2.2.2.2.2.2.2.2.2.2.2.2.2.2.2.1 p.2.2.2.2.2.2.2.2.2.2.2.2.2.2.2.2.2.2.2.2.2.1 p.2.2.2.2.2.2.2.2.2.2.2.2.2.2.2.2.2.2.2.2.2.2.1 p.2.2.2.2.2.2.2.2.2.2.2.2.2.2.2.2.2.2.2.2.2.2.2.1 p.2.2.2.2.2.2.2.2.2.2.2.2.2.2.2.2.2.2.2.2.2.2.2.2.1 p.2.2.2.2.2.2.2.2.2.2.2.2.2.2.2.2.2.2.2.2.2.2.2.2.2 p.2.2.2.1 p.2.2.2.1 false true p.2.2.2.2.2.2.2.2.2.2.2.2.2.2.2.2.2.1 p.2.2.2.2.2.2.2.2.2.2.2.2.2.2.2.2.2.2.1 p.2.2.2.2.2.2.2.2.2.2.2.2.2.2.2.2.2.2.2.1 p.2.2.2.2.2.2.2.2.2.2.2.2.2.2.2.2.2.2.2.2.1 p.2.2.2.2.2.2.2.2.2.2.2.2.2.2.2.2.2.2.2.2.2.1 p.2.2.2.2.2.2.2.2.2.2.2.2.2.2.2.2.2.2.2.2.2.2.1 y.1 y.2.1 y.2.2.1 y.2.2.2.1 y.2.2.2.2.1 y.2.2.2.2.2 j s t u tk d p.2.2.2.2.2.2.2.2.2.2.2.2.2.2.2.2.1 f (f.length:Int) i=some (cond (bo (∀k:Nat,p.2.2.2.1.toNat<=k->k<p.2.2.2.2.2.2.2.2.2.2.2.2.2.2.2.2.1.toNat->nU p.2.2.2.2.2.1 p.2.2.2.1 d k)) (.inl (j,s,t,u,z,f,x6,x7,x8,x9,g,d,p.1,p.2.1,p.2.2.1,p.2.2.2.1,p.2.2.2.2.1,p.2.2.2.2.2.1,p.2.2.2.2.2.2.1,p.2.2.2.2.2.2.2.1,p.2.2.2.2.2.2.2.2.1,p.2.2.2.2.2.2.2.2.2.1,p.2.2.2.2.2.2.2.2.2.2.1,p.2.2.2.2.2.2.2.2.2.2.2.1,p.2.2.2.2.2.2.2.2.2.2.2.2.1,p.2.2.2.2.2.2.2.2.2.2.2.2.2.1,p.2.2.2.2.2.2.2.2.2.2.2.2.2.2.1,p.2.2.2.2.2.2.2.2.2.2.2.2.2.2.2.1,p.2.2.2.2.2.2.2.2.2.2.2.2.2.2.2.2.1,p.2.2.2.2.2.2.2.2.2.2.2.2.2.2.2.2.2.1,p.2.2.2.2.2.2.2.2.2.2.2.2.2.2.2.2.2.2.1,p.2.2.2.2.2.2.2.2.2.2.2.2.2.2.2.2.2.2.2.1,p.2.2.2.2.2.2.2.2.2.2.2.2.2.2.2.2.2.2.2.2.1,p.2.2.2.2.2.2.2.2.2.2.2.2.2.2.2.2.2.2.2.2.2.1,p.2.2.2.2.2.2.2.2.2.2.2.2.2.2.2.2.2.2.2.2.2.2.1,p.2.2.2.2.2.2.2.2.2.2.2.2.2.2.2.2.2.2.2.2.2.2.2.1,p.2.2.2.2.2.2.2.2.2.2.2.2.2.2.2.2.2.2.2.2.2.2.2.2.1,p.2.2.2.2.2.2.2.2.2.2.2.2.2.2.2.2.2.2.2.2.2.2.2.2.2,false,true,p.2.2.2.2.2.2.2.2.2.2.2.2.2.2.2.2.2.1,p.2.2.2.2.2.2.2.2.2.2.2.2.2.2.2.2.2.2.1,p.2.2.2.2.2.2.2.2.2.2.2.2.2.2.2.2.2.2.2.1,p.2.2.2.2.2.2.2.2.2.2.2.2.2.2.2.2.2.2.2.2.1,p.2.2.2.2.2.2.2.2.2.2.2.2.2.2.2.2.2.2.2.2.2.1,p.2.2.2.2.2.2.2.2.2.2.2.2.2.2.2.2.2.2.2.2.2.2.1,y.1,y.2.1,y.2.2.1,y.2.2.2.1,y.2.2.2.2.1,y.2.2.2.2.2,j,s,t,u,tk,d,p.2.2.2.2.2.2.2.2.2.2.2.2.2.2.2.2.1,f,(f.length:Int),i)) (.inr false)):=by
 obtain⟨b0,b1⟩:=hb;obtain⟨c0,c1⟩:=hc;have q:=Pk (a:=p.2.2.2.1.toNat) (b:=p.2.2.2.2.2.2.2.2.2.2.2.2.2.2.2.2.1.toNat) (by omega) (by omega) (q:=nU p.2.2.2.2.2.1 p.2.2.2.1 d) (r:=false) (bb:=(j,s,t,u,z,f,x6,x7,x8,x9,g,d,p.1,p.2.1,p.2.2.1,p.2.2.2.1,p.2.2.2.2.1,p.2.2.2.2.2.1,p.2.2.2.2.2.2.1,p.2.2.2.2.2.2.2.1,p.2.2.2.2.2.2.2.2.1,p.2.2.2.2.2.2.2.2.2.1,p.2.2.2.2.2.2.2.2.2.2.1,p.2.2.2.2.2.2.2.2.2.2.2.1,p.2.2.2.2.2.2.2.2.2.2.2.2.1,p.2.2.2.2.2.2.2.2.2.2.2.2.2.1,p.2.2.2.2.2.2.2.2.2.2.2.2.2.2.1,p.2.2.2.2.2.2.2.2.2.2.2.2.2.2.2.1,p.2.2.2.2.2.2.2.2.2.2.2.2.2.2.2.2.1,p.2.2.2.2.2.2.2.2.2.2.2.2.2.2.2.2.2.1,p.2.2.2.2.2.2.2.2.2.2.2.2.2.2.2.2.2.2.1,p.2.2.2.2.2.2.2.2.2.2.2.2.2.2.2.2.2.2.2.1,p.2.2.2.2.2.2.2.2.2.2.2.2.2.2.2.2.2.2.2.2.1,p.2.2.2.2.2.2.2.2.2.2.2.2.2.2.2.2.2.2.2.2.2.1,p.2.2.2.2.2.2.2.2.2.2.2.2.2.2.2.2.2.2.2.2.2.2.1,p.2.2.2.2.2.2.2.2.2.2.2.2.2.2.2.2.2.2.2.2.2.2.2.1,p.2.2.2.2.2.2.2.2.2.2.2.2.2.2.2.2.2.2.2.2.2.2.2.2.1,p.2.2.2.2.2.2.2.2.2.2.2.2.2.2.2.2.2.2.2.2.2.2.2.2.2,false,true,p.2.2.2.2.2.2.2.2.2.2.2.2.2.2.2.2.2.1,p.2.2.2.2.2.2.2.2.2.2.2.2.2.2.2.2.2.2.1,p.2.2.2.2.2.2.2.2.2.2.2.2.2.2.2.2.2.2.2.1,p.2.2.2.2.2.2.2.2.2.2.2.2.2.2.2.2.2.2.2.2.1,p.2.2.2.2.2.2.2.2.2.2.2.2.2.2.2.2.2.2.2.2.2.1,p.2.2.2.2.2.2.2.2.2.2.2.2.2.2.2.2.2.2.2.2.2.2.1,y.1,y.2.1,y.2.2.1,y.2.2.2.1,y.2.2.2.2.1,y.2.2.2.2.2,j,s,t,u,tk,d,p.2.2.2.2.2.2.2.2.2.2.2.2.2.2.2.2.1,f,(f.length:Int),i)) (L:=fun n m k=>wX n m j s t u z f x6 x7 x8 x9 g d p.1 p.2.1 p.2.2.1 p.2.2.2.1 p.2.2.2.2.1 p.2.2.2.2.2.1 p.2.2.2.2.2.2.1 p.2.2.2.2.2.2.2.1 p.2.2.2.2.2.2.2.2.1 p.2.2.2.2.2.2.2.2.2.1 p.2.2.2.2.2.2.2.2.2.2.1 p.2.2.2.2.2.2.2.2.2.2.2.1 p.2.2.2.2.2.2.2.2.2.2.2.2.1 p.2.2.2.2.2.2.2.2.2.2.2.2.2.1 p.2.2.2.2.2.2.2.2.2.2.2.2.2.2.1 p.2.2.2.2.2.2.2.2.2.2.2.2.2.2.2.1 p.2.2.2.2.2.2.2.2.2.2.2.2.2.2.2.2.1 p.2.2.2.2.2.2.2.2.2.2.2.2.2.2.2.2.2.1 p.2.2.2.2.2.2.2.2.2.2.2.2.2.2.2.2.2.2.1 p.2.2.2.2.2.2.2.2.2.2.2.2.2.2.2.2.2.2.2.1 p.2.2.2.2.2.2.2.2.2.2.2.2.2.2.2.2.2.2.2.2.1 p.2.2.2.2.2.2.2.2.2.2.2.2.2.2.2.2.2.2.2.2.2.1 p.2.2.2.2.2.2.2.2.2.2.2.2.2.2.2.2.2.2.2.2.2.2.1 p.2.2.2.2.2.2.2.2.2.2.2.2.2.2.2.2.2.2.2.2.2.2.2.1 p.2.2.2.2.2.2.2.2.2.2.2.2.2.2.2.2.2.2.2.2.2.2.2.2.1 p.2.2.2.2.2.2.2.2.2.2.2.2.2.2.2.2.2.2.2.2.2.2.2.2.2 k p.2.2.2.1 false true p.2.2.2.2.2.2.2.2.2.2.2.2.2.2.2.2.2.1 p.2.2.2.2.2.2.2.2.2.2.2.2.2.2.2.2.2.2.1 p.2.2.2.2.2.2.2.2.2.2.2.2.2.2.2.2.2.2.2.1 p.2.2.2.2.2.2.2.2.2.2.2.2.2.2.2.2.2.2.2.2.1 p.2.2.2.2.2.2.2.2.2.2.2.2.2.2.2.2.2.2.2.2.2.1 p.2.2.2.2.2.2.2.2.2.2.2.2.2.2.2.2.2.2.2.2.2.2.1 y.1 y.2.1 y.2.2.1 y.2.2.2.1 y.2.2.2.2.1 y.2.2.2.2.2 j s t u tk d p.2.2.2.2.2.2.2.2.2.2.2.2.2.2.2.2.1 f (f.length:Int) i) (W.of fun n m k h1 h2=>by
  have hw:wrap .i64 ((k:Int)-p.2.2.2.1)=((k-p.2.2.2.1.toNat:Nat):Int):=by rw [Á];omega
  have hi:k-p.2.2.2.1.toNat<p.2.2.2.2.2.1.length:=by omega
  have hk:k<d.length:=by omega
  have hd:nU p.2.2.2.2.2.1 p.2.2.2.1 d k↔p.2.2.2.2.2.1[k-p.2.2.2.1.toNat].2=d[k]:=by
   unfold nU;rw [show ((k:Int)-p.2.2.2.1).toNat=k-p.2.2.2.1.toNat by omega,Ä hi,Ä hk]
   exact⟨fun h=>h _ rfl _ rfl,fun h e he c hc=>by cases he;cases hc;exact h⟩
  rw [Ty,hJ (show (k:Int)<p.2.2.2.2.2.2.2.2.2.2.2.2.2.2.2.2.1 by omega),hw,aU hi,aU hk,kY hd]
  simp only [Y,Z,rY,ï,ö,id,ð,bj];by_cases e:p.2.2.2.2.2.1[k-p.2.2.2.1.toNat].2=d[k]
  .rw [aA e,e];simp only [lZ,ć,È,Y,ez]
  .rw [ay e]
   have:(bo (p.2.2.2.2.2.1[k-p.2.2.2.1.toNat].2.1=d[k].1)&&(bo (p.2.2.2.2.2.1[k-p.2.2.2.1.toNat].2.2.1=d[k].2.1)&&bo (p.2.2.2.2.2.1[k-p.2.2.2.1.toNat].2.2.2=d[k].2.2)))=false:=by
    rw [<-å];simp only [æ,lY];rintro⟨e1,e2,e3⟩
    exact e (ã e1 (ã e2 e3))
   rw [this];rfl) (fun n m k h1 h2=>by rw [Ty,hL (show ¬(k:Int)<p.2.2.2.2.2.2.2.2.2.2.2.2.2.2.2.2.1 by omega)];rfl)
 refine q.mono fun n e=> ?_
 have e3:((p.2.2.2.1.toNat:Nat):Int)=p.2.2.2.1:=by omega
 rw [e3]at e;exact e
theorem aFJ (f:af) (t:af) (g:ae) (j:ae) (x4:Int) (s:bZ) (x6:bh) (x7:Int) (x8:O) (x9:ag) (q:ag) (d:ae) (h:xo f t g j x4 s x6 x7 x8 x9 q d):W fun n=>JE n f t g j x4 s x6 x7 x8 x9 q d=some (bo (mI f t g j x4 s x6 x7 x8 x9 q d/\ ∀p∈s,tL f g j d p)):=by
 have hw:=aCK f t g j x4 s x6 x7 x8 x9 q d h;obtain⟨hp,⟨h5,a1⟩, -, -, -,a6,ar⟩:=h;by_cases hg:mI f t g j x4 s x6 x7 x8 x9 q d
 .have h4:(s.length:Int)=x4:=hg.2.2.1
  have key:W fun n=> ∀(i:Nat) (hi:i<s.length),∀m,pn n (m+1) f t g j x4 s x6 x7 x8 x9 q d i=cond (bo (tL f g j d s[i])) (pn n m f t g j x4 s x6 x7 x8 x9 q d (wrap .i64 ((i:Int)+(1:Int)))) (some (.inr false)):=W.lt fun i hi=>by
   have hz:=aU hi;have au:=a1 _ (Ç hi);obtain⟨-,av⟩:=hg.2.2.2.2.2.2.2.2.1 i hi hi;generalize s[i]=p at hz au av |-
   obtain⟨-, -,hh, -, -, -, -, -, -, -, -,u,ah, -, -⟩:=av;have ah:iY f t g j (pO p):=ah;have aq:=hh.2.2.1;have u:In p.2.2.2.2.2.2.2.2.2.2.2.2.2.2.2.2.1 p.2.2.2.1 (p.2.2.2.1+p.2.2.2.2.2.1.length):=by have:=Xq aq;unfold eK at u;rw [this]at u;exact u
   have hb:=aq.1;by_cases hc:(d.length:Int)<p.2.2.2.2.2.2.2.2.2.2.2.2.2.2.2.2.1
   .refine W.of fun n m=> ?_
    rw [Kc,hJ (by omega),hz,ay (fun k=>k.1 hc)]
    simp only [Y,Z,hJ hc,ez]
   .refine(((aFw f t g j (d.take p.2.2.2.2.2.2.2.2.2.2.2.2.2.2.2.2.1.toNat) hp hg.1 (by rw [Ü];omega) (fun x hx=>ar x (Ú hx))).and (aFC ah (aFy hg.1 (d.take p.2.2.2.2.2.2.2.2.2.2.2.2.2.2.2.2.1.toNat)))).and (aFH f t g j x4 s x6 x7 x8 x9 q d p hb u au.1.1 a6 (by omega) (eN f.length g j (d.take p.2.2.2.2.2.2.2.2.2.2.2.2.2.2.2.2.1.toNat)) (d.take p.2.2.2.2.2.2.2.2.2.2.2.2.2.2.2.2.1.toNat) i)).mono fun n ⟨⟨e1,e2⟩,e3⟩ m=> ?_
    have e1:Ab n f t g j ((d.drop 0).take ((Ì p.2.2.2.2.2.2.2.2.2.2.2.2.2.2.2.2.1)-0))=some (eN f.length g j (d.take p.2.2.2.2.2.2.2.2.2.2.2.2.2.2.2.2.1.toNat)):=e1;have bf:decide ((0:Int)<=p.2.2.2.2.2.2.2.2.2.2.2.2.2.2.2.2.1/\p.2.2.2.2.2.2.2.2.2.2.2.2.2.2.2.2.1<=(d.length:Int))=true:=hJ (by obtain⟨q1,q2⟩:=u;obtain⟨q3,q4⟩:=hb;omega)
    have e2:Ce n p.2.2.2.2.2.2.2.2.2.2.2.2.2.2.2.2.2.1 p.2.2.2.2.2.2.2.2.2.2.2.2.2.2.2.2.2.2.1 p.2.2.2.2.2.2.2.2.2.2.2.2.2.2.2.2.2.2.2.1 p.2.2.2.2.2.2.2.2.2.2.2.2.2.2.2.2.2.2.2.2.1 p.2.2.2.2.2.2.2.2.2.2.2.2.2.2.2.2.2.2.2.2.2.1 p.2.2.2.2.2.2.2.2.2.2.2.2.2.2.2.2.2.2.2.2.2.2.1 (eN f.length g j (d.take p.2.2.2.2.2.2.2.2.2.2.2.2.2.2.2.2.1.toNat)).1 (eN f.length g j (d.take p.2.2.2.2.2.2.2.2.2.2.2.2.2.2.2.2.1.toNat)).2.1 (eN f.length g j (d.take p.2.2.2.2.2.2.2.2.2.2.2.2.2.2.2.2.1.toNat)).2.2.1 (eN f.length g j (d.take p.2.2.2.2.2.2.2.2.2.2.2.2.2.2.2.2.1.toNat)).2.2.2.1 (eN f.length g j (d.take p.2.2.2.2.2.2.2.2.2.2.2.2.2.2.2.2.1.toNat)).2.2.2.2.1 (eN f.length g j (d.take p.2.2.2.2.2.2.2.2.2.2.2.2.2.2.2.2.1.toNat)).2.2.2.2.2=some (bo (pO p=eN f.length g j (d.take p.2.2.2.2.2.2.2.2.2.2.2.2.2.2.2.2.1.toNat))):=e2;rw [Kc,hJ (by omega),hz]
    simp only [Y,Z];rw [hL hc,bf,e1];simp only [Y,ez,Z];rw [e2,Z];by_cases hm:pO p=eN f.length g j (d.take p.2.2.2.2.2.2.2.2.2.2.2.2.2.2.2.2.1.toNat)
    .rw [aA hm]
     have e3:=congrArg (fun z=>z.bind fun y3=>aw y3 (fun z4=>pn n m z4.1 z4.2.1 z4.2.2.1 z4.2.2.2.1 z4.2.2.2.2.1 z4.2.2.2.2.2.1 z4.2.2.2.2.2.2.1 z4.2.2.2.2.2.2.2.1 z4.2.2.2.2.2.2.2.2.1 z4.2.2.2.2.2.2.2.2.2.1 z4.2.2.2.2.2.2.2.2.2.2.1 z4.2.2.2.2.2.2.2.2.2.2.2.1 (wrap .i64 (z4.2.2.2.2.2.2.2.2.2.2.2.2.2.2.2.2.2.2.2.2.2.2.2.2.2.2.2.2.2.2.2.2.2.2.2.2.2.2.2.2.2.2.2.2.2.2.2.2.2.2.2.2.2.2.2.2.2.2.2+(1:Int)))) (fun w4=>some (Đ w4))) e3
     simp only [È,ez];refine e3.trans ?_
     simp only [Z,cv];exact Ot ⟨fun k=>⟨hc,hm,k⟩,fun k=>k.2.2⟩
    .rw [ay hm,ay (fun k=>hm k.2.1)];rfl
  have k:=km h5 (p:=tL f g j d) (r:=false) (b:=()) (L:=fun n m i=>pn n m f t g j x4 s x6 x7 x8 x9 q d i) (key.mono fun n h m i hi=>h i hi m) (fun n m=>by rw [Kc,hL (by omega)];rfl)
  refine(hw.and k).nm fun n ⟨e,e1⟩=> ?_
  rw [Tq,e,aA hg];simp only [Z,È,ez,show pn n n f t g j x4 s x6 x7 x8 x9 q d 0=_ from e1,cv,cH];exact cG ⟨fun k=>⟨hg,k⟩,fun k=>k.2⟩
 .refine hw.nm fun n e=> ?_
  rw [Tq,e,ay hg,ay (fun k=>hg k.1)];rfl
theorem aFK (f:af) (t:af) (g:ae) (j:ae) (x4:Int) (q:bZ) (x6:bh) (x7:Int) (x8:O) (x9:ag) (s:ag) (d:ae) (h:xo f t g j x4 q x6 x7 x8 x9 s d):W fun n=>JG n f t g j x4 q x6 x7 x8 x9 s d=some (bo (mI f t g j x4 q x6 x7 x8 x9 s d/\ ∀p∈q,tL f g j d p)):=by
 have hw:=aCL f t g j x4 q x6 x7 x8 x9 s d h;obtain⟨hp,⟨h5,az⟩, -, -, -,a1,bf⟩:=h;by_cases hg:mI f t g j x4 q x6 x7 x8 x9 s d
 .have h4:(q.length:Int)=x4:=hg.2.2.1
  have key:W fun n=> ∀(i:Nat) (hi:i<q.length),∀m,po n (m+1) f t g j x4 q x6 x7 x8 x9 s d i q q.length=cond (bo (tL f g j d q[i])) (po n m f t g j x4 q x6 x7 x8 x9 s d (wrap .i64 ((i:Int)+(1:Int))) q q.length) (some (.inr false)):=W.lt fun i hi=>by
   have hz:=aU hi;have ah:=az _ (Ç hi);obtain⟨-,au⟩:=hg.2.2.2.2.2.2.2.2.1 i hi hi;generalize q[i]=p at hz ah au |-
   obtain⟨-, -,hh, -, -, -, -, -, -, -, -,u,ao, -, -⟩:=au;have ao:iY f t g j (pO p):=ao;have aq:=hh.2.2.1;have u:In p.2.2.2.2.2.2.2.2.2.2.2.2.2.2.2.2.1 p.2.2.2.1 (p.2.2.2.1+p.2.2.2.2.2.1.length):=by have:=Xq aq;unfold eK at u;rw [this]at u;exact u
   have hb:=aq.1;by_cases hc:(d.length:Int)<p.2.2.2.2.2.2.2.2.2.2.2.2.2.2.2.2.1
   .refine W.of fun n m=> ?_
    rw [Ke,bk hi,hz,ay (fun k=>k.1 hc)]
    simp only [Y,Z,hJ hc,ez]
   .refine(((aFx f t g j (d.take p.2.2.2.2.2.2.2.2.2.2.2.2.2.2.2.2.1.toNat) hp hg.1 (by rw [Ü];omega)).and (aFG (pO p) (eN f.length g j (d.take p.2.2.2.2.2.2.2.2.2.2.2.2.2.2.2.2.1.toNat)) ah.2.2.2.2.2.2.1 ah.2.2.2.2.2.2.2.1 ah.2.2.2.2.2.2.2.2.1)).and (aFI f t g j x4 q x6 x7 x8 x9 s d p hb u ah.1.1 a1 (by omega) (eN f.length g j (d.take p.2.2.2.2.2.2.2.2.2.2.2.2.2.2.2.2.1.toNat)) (d.take p.2.2.2.2.2.2.2.2.2.2.2.2.2.2.2.2.1.toNat) i)).mono fun n ⟨⟨e1,e2⟩,e3⟩ m=> ?_
    have e1:Bi n f t g j ((d.drop 0).take ((Ì p.2.2.2.2.2.2.2.2.2.2.2.2.2.2.2.2.1)-0))=some (eN f.length g j (d.take p.2.2.2.2.2.2.2.2.2.2.2.2.2.2.2.2.1.toNat)):=e1;have bd:decide ((0:Int)<=p.2.2.2.2.2.2.2.2.2.2.2.2.2.2.2.2.1/\p.2.2.2.2.2.2.2.2.2.2.2.2.2.2.2.2.1<=(d.length:Int))=true:=hJ (by obtain⟨q1,q2⟩:=u;obtain⟨q3,q4⟩:=hb;omega)
    have e2:Ch n p.2.2.2.2.2.2.2.2.2.2.2.2.2.2.2.2.2.1 p.2.2.2.2.2.2.2.2.2.2.2.2.2.2.2.2.2.2.1 p.2.2.2.2.2.2.2.2.2.2.2.2.2.2.2.2.2.2.2.1 p.2.2.2.2.2.2.2.2.2.2.2.2.2.2.2.2.2.2.2.2.1 p.2.2.2.2.2.2.2.2.2.2.2.2.2.2.2.2.2.2.2.2.2.1 p.2.2.2.2.2.2.2.2.2.2.2.2.2.2.2.2.2.2.2.2.2.2.1 (eN f.length g j (d.take p.2.2.2.2.2.2.2.2.2.2.2.2.2.2.2.2.1.toNat)).1 (eN f.length g j (d.take p.2.2.2.2.2.2.2.2.2.2.2.2.2.2.2.2.1.toNat)).2.1 (eN f.length g j (d.take p.2.2.2.2.2.2.2.2.2.2.2.2.2.2.2.2.1.toNat)).2.2.1 (eN f.length g j (d.take p.2.2.2.2.2.2.2.2.2.2.2.2.2.2.2.2.1.toNat)).2.2.2.1 (eN f.length g j (d.take p.2.2.2.2.2.2.2.2.2.2.2.2.2.2.2.2.1.toNat)).2.2.2.2.1 (eN f.length g j (d.take p.2.2.2.2.2.2.2.2.2.2.2.2.2.2.2.2.1.toNat)).2.2.2.2.2=some (bo (pO p=eN f.length g j (d.take p.2.2.2.2.2.2.2.2.2.2.2.2.2.2.2.2.1.toNat))):=e2;rw [Ke,bk hi,hz];simp only [Y,Z];rw [hL hc,bd,e1];simp only [Y,ez,Z];rw [e2,Z];by_cases hm:pO p=eN f.length g j (d.take p.2.2.2.2.2.2.2.2.2.2.2.2.2.2.2.2.1.toNat)
    .rw [aA hm]
     have e3:=congrArg (fun z=>z.bind fun y3=>aw y3 (fun z4=>po n m z4.1 z4.2.1 z4.2.2.1 z4.2.2.2.1 z4.2.2.2.2.1 z4.2.2.2.2.2.1 z4.2.2.2.2.2.2.1 z4.2.2.2.2.2.2.2.1 z4.2.2.2.2.2.2.2.2.1 z4.2.2.2.2.2.2.2.2.2.1 z4.2.2.2.2.2.2.2.2.2.2.1 z4.2.2.2.2.2.2.2.2.2.2.2.1 (wrap .i64 (z4.2.2.2.2.2.2.2.2.2.2.2.2.2.2.2.2.2.2.2.2.2.2.2.2.2.2.2.2.2.2.2.2.2.2.2.2.2.2.2.2.2.2.2.2.2.2.2.2.2.2.2.2.2.2.2.2.2.2.2.2.2+(1:Int))) z4.2.2.2.2.2.2.2.2.2.2.2.2.2.2.2.2.2.2.2.2.2.2.2.2.2.2.2.2.2.2.2.2.2.2.2.2.2.2.2.2.2.2.2.2.2.2.2.2.2.2.2.2.2.2.2.2.2.2.2.1 z4.2.2.2.2.2.2.2.2.2.2.2.2.2.2.2.2.2.2.2.2.2.2.2.2.2.2.2.2.2.2.2.2.2.2.2.2.2.2.2.2.2.2.2.2.2.2.2.2.2.2.2.2.2.2.2.2.2.2.2.2.1) (fun w4=>some (Đ w4))) e3
     simp only [È,ez];refine e3.trans ?_
     simp only [Z,cv];exact Ot ⟨fun k=>⟨hc,hm,k⟩,fun k=>k.2.2⟩
    .rw [ay hm,ay (fun k=>hm k.2.1)];rfl
  have k:=km h5 (p:=tL f g j d) (r:=false) (b:=()) (L:=fun n m i=>po n m f t g j x4 q x6 x7 x8 x9 s d i q q.length) (key.mono fun n h m i hi=>h i hi m) (fun n m=>by rw [Ke,ca];rfl)
  refine(hw.and k).nm fun n ⟨e,e1⟩=> ?_
  rw [Tx,e,aA hg];simp only [Z,È,ez,show po n n f t g j x4 q x6 x7 x8 x9 s d 0 q q.length=_ from e1,cv,cH];exact cG ⟨fun k=>⟨hg,k⟩,fun k=>k.2⟩
 .refine hw.nm fun n e=> ?_
  rw [Tx,e,ay hg,ay (fun k=>hg k.1)];rfl
end Go.Proofs.YtfpfjmahdneehaaGreatDoor
