/- Texts of the law, part 2. -/
import Derived.Test.YtfpfjmahdneehaaGreatDoorTxt1
import Derived.Test.YtfpfjmahdneehaaGreatDoorEv4
open Int renaming reduceBEq->À,toNat_natCast->Â,toNat->Ì,ofNat->õ
open Go.IntKind renaming wrap_i64->Á,wrap->þ
open List renaming mem_singleton->Ã,length_append->Ä,getD_eq_getElem?_getD->Å,getElem_mem->Æ,getElem?_eq_getElem->Ç,mem_append->È,replicate->É,append_assoc->Ë,drop_zero->Í,eq_nil_of_length_eq_zero->Î,mem_append_left->Ï,append_nil->Ð,drop_eq_getElem_cons->Ñ,length_cons->Ò,drop_of_length_le->Ó,length_singleton->Õ,getElem?_eq_some_iff->Ö,length_set->Ù,mem_cons->Ú,drop_eq_nil_iff->Û,mem_of_mem_drop->Ü,mem_of_mem_take->Ý,pairwise_iff_getElem->Þ,mem_or_eq_of_mem_set->ß,nil_append->à,findIdx?_eq_some_iff_getElem->á,dropLast_sublist->â,length_take->ã,mem_iff_getElem->ä,length_nil->å,eq_of_mem_replicate->é,getElem?_replicate->ê,length_drop->ë,length_eq_one_iff->ì,take_of_length_le->í,range->î,eq_nil_or_concat->ï,concat_eq_append->ð,length_replicate->ñ,pairwise_append->ó,filter_cons->ö,filter_nil->ù,mem_range->û,length->ÿ
open Bool renaming not_true->Ê,or_eq_true_iff->æ,not_false->ç
open Nat renaming ble_eq_true_of_le->Ô,ble->ô,le_max_left->ø,not_lt_zero->ú,beq_refl->ý
open Classical renaming byContradiction->Ø,choose_spec->ò,axiomOfChoice->ü,choose->Ā
open List.cons renaming inj->è
open Go.IntKind
namespace Go.Proofs.YtfpfjmahdneehaaGreatDoor
open Go Go.Ev
def qO (S:Tr->Nat->List Pl) (ks:List Tr) (b:Nat):Nat:=b+(dG S 0 ks.dropLast b).length
def Kf (S:Tr->Nat->List Pl) (ks:List Tr) (z:Tr) (b:Nat):Nat:=qO S ks b+(S z (qO S ks b)).length
def qP (S:Tr->Nat->List Pl) (ks:List Tr) (z:Tr) (b:Nat):List Pl:=dG S (Kf S ks z b:Int) ks.dropLast b++S z (qO S ks b)
theorem aCS {S:Tr->Nat->List Pl} {z:List Pl} {J:List Int} {e:Nat} (b:J.length<=1048576) (n:Nat) (r:List Tr) (m:Nat) (l:List Pl) (f:J=ie S r l.length) (hm:r.length<m) (he:(l++(dG S 0 r l.length++z)).length=e):
  oJ n m 0 (l++(dG S 0 r l.length++z)) J=some (.inl (l++(dG S (e:Int) r l.length++z))):=by
 refine Ke (S:=S) (z:=z) (J:=J) (e:=e) (L:=fun m i l=>oJ n m i l J) b (fun m i l j x g hi hj=> ?_) (fun m i l hi=> ?_) r 0 m l (by rw [Í];exact f) hm he
 .show oJ n (m+1) (i:Int) l J=oJ n m ((i+1:Nat):Int) _ J
  obtain⟨d, -⟩:=Ö.1 hi
  obtain⟨k, -⟩:=Ö.1 hj
  have h:aM J (Ì (i:Int))=some (j:Int):=by rw [Â];exact hi
  have a2:aM l (Ì (j:Int))=some x:=by rw [Â];exact hj
  rw [QL,bu d,Y,hJ (by omega),Y,h,Z,hJ (by omega),Y,a2,Z,dy d (by omega),g,Â]
 .show oJ n (m+1) (i:Int) l J=_
  rw [QL,hL (by omega),ez]
theorem aCT {S:Tr->Nat->List Pl} {z:List Pl} {J:List Int} {e:Nat} (b:J.length<=1048576) (n:Nat) (r:List Tr) (m:Nat) (l:List Pl) (f:J=ie S r l.length) (hm:r.length<m) (he:(l++(dG S 0 r l.length++z)).length=e):
  oN n m 0 (l++(dG S 0 r l.length++z)) J (J.length:Int)=some (.inl (l++(dG S (e:Int) r l.length++z))):=by
 refine Ke (S:=S) (z:=z) (J:=J) (e:=e) (L:=fun m i l=>oN n m i l J (J.length:Int)) b (fun m i l j x g hi hj=> ?_) (fun m i l hi=> ?_) r 0 m l (by rw [Í];exact f) hm he
 .show oN n (m+1) (i:Int) l J (J.length:Int)=oN n m ((i+1:Nat):Int) _ J (J.length:Int)
  obtain⟨d, -⟩:=Ö.1 hi
  obtain⟨k, -⟩:=Ö.1 hj
  have h:aM J (Ì (i:Int))=some (j:Int):=by rw [Â];exact hi
  have a2:aM l (Ì (j:Int))=some x:=by rw [Â];exact hj
  rw [RL,bu d,Y,hJ (by omega),Y,h,Z,hJ (by omega),Y,a2,Z,dy d (by omega),g,Â]
 .show oN n (m+1) (i:Int) l J (J.length:Int)=_
  rw [RL,hL (by omega),ez]
theorem UY {S:Tr->Nat->List Pl}: ∀(r:List Tr) (b:Nat),(ie S r b).length=r.length
 | [],_=>rfl
 |k::r,b=>by rw [ie,Ò,Ò,UY r]
theorem Kg: ∀(a b:List Tr),cx (a++b)=cx a+cx b
 | [],b=>by simp [cx]
 |k::a,b=>by rw [List.cons_append,cx,cx,Kg a b];omega
theorem aCU {S:Tr->Nat->List Pl} {ks:List Tr} {z:Tr} (b:ks=ks.dropLast++[z]) (h: ∀k∈ks,jo k (S k)) (hl:ks.length<=1048575) (l:List Pl) (hz:l.length+6*cx ks+6<=1000000):
  (W fun n=>GC n l ks=some (l++qP S ks z l.length))/\(W fun n=>HX n l ks=some (l++qP S ks z l.length)):=by
 have q:ks≠ []:=by rw [b];simp
 have hlen:ks.length=ks.dropLast.length+1:=by
  conv=>lhs;rw [b]
  simp
 have ae:cx ks=cx ks.dropLast+eh z:=by
  conv=>lhs;rw [b]
  rw [Kg,qg]
 have d: ∀k∈ks.dropLast,jo k (S k):=fun k hk=>h k ((â _).subset hk)
 have i:jo z (S z):=h z (by rw [b];simp)
 have hb:=Kd (S:=S) (e:=0) ks.dropLast l.length d;have af:=i.1 (qO S ks l.length);have u:(l++dG S 0 ks.dropLast l.length).length=qO S ks l.length:=by rw [Ä];rfl
 have f:=i.2 (l++dG S 0 ks.dropLast l.length) (by rw [Ä];omega)
 rw [u]at f;have g:ks[ks.length-1]'(by omega)=z:=by
  rw [<-List.getLast_eq_getElem q];have:ks.getLast? =some z:=by rw [b];simp
  rw [List.getLast?_eq_some_getLast q]at this
  exact Option.some.inj this
 have hw:wrap .i64 ((ks.length:Int)-1)=((ks.length-1:Nat):Int):=by rw [Á];omega
 have j:fO ks (wrap .i64 ((ks.length:Int)-1))=some (aF z):=by rw [hw,mb (by omega),g]
 have m:(ie S ks.dropLast l.length).length<=1048576:=by rw [UY];omega
 have hE:(l++(dG S 0 ks.dropLast l.length++S z (qO S ks l.length))).length=Kf S ks z l.length:=by
  rw [<-Ë,Ä,u];rfl
 constructor
 .have p:=UW (S:=S) (by omega) q ks.dropLast 0 l [] (by rw [Í]) (by omega) d (by omega) (by simp;omega)
  refine((p.and f.1).and (W.ge (ks.length+1))).nm fun n ⟨⟨r,s⟩,e3⟩=> ?_
  rw [arG,show(0:Int)=((0:Nat):Int)from rfl,r n (by omega),Z,cP]
  dsimp only
  rw [j,Z,s,Z,Ë,show((0:Nat):Int)=0 from rfl,aCS (S:=S) (by simpa using m) n ks.dropLast n l (by simp) (by omega) hE,Z,cP]
  rfl
 .have t:(ks.drop 0).take (Ì (wrap .i64 ((ks.length:Int)-1))-0)=ks.dropLast:=by
   rw [hw,Â,Í,Nat.sub_zero,List.dropLast_eq_take]
  have p:=UX (S:=S) (ks:=ks.dropLast) (by omega) ks ks.dropLast 0 l [] (by rw [Í]) (by omega) d (by omega) (by simp;omega)
  refine((p.and f.2).and (W.ge (ks.length+1))).nm fun n ⟨⟨r,s⟩,e3⟩=> ?_
  rw [awL,t,hw,hJ (by omega),Y,show(0:Int)=((0:Nat):Int)from rfl,r n (by omega),Z,cP]
  dsimp only
  rw [j,Z,s,Z,Ë,show((0:Nat):Int)=0 from rfl,aCT (S:=S) (by simpa using m) n ks.dropLast n l (by simp) (by omega) hE,Z,cP]
  rfl
def Sh (S:Nat->List Pl):Prop:= ∀b,∀p∈S b,p.2.2.1.length<=256
theorem mA (o a b:Int):(pl o a b).2.2.1.length<=256:=by simp [pl]
theorem UZ {S:Tr->Nat->List Pl}: ∀(ks:List Tr) (b:Nat),(∀k∈ks,Sh (S k))-> ∀p∈jn S ks b,p.2.2.1.length<=256
 | [],b,h,p,hp=>by cases hp
 |k::r,b,h,p,hp=>by
  rw [jn]at hp;rcases È.1 hp with hp|hp
  .exact h k (by simp) _ p hp
  .exact UZ r _ (fun k hk=>h k (by simp [hk])) p hp
theorem Va {S:Tr->Nat->List Pl} {e:Int}: ∀(ks:List Tr) (b:Nat),(∀k∈ks,Sh (S k))-> ∀p∈dG S e ks b,p.2.2.1.length<=256
 | [],b,h,p,hp=>by cases hp
 |k::r,b,h,p,hp=>by
  rw [dG]at hp;rcases Ú.1 hp with rfl|hp
  .exact mA _ _ _
  rcases È.1 hp with hp|hp
  .exact h k (by simp) _ p hp
  rcases Ú.1 hp with rfl|hp
  .exact mA _ _ _
  .exact Va r _ (fun k hk=>h k (by simp [hk])) p hp
theorem wR {t:Tr} {p:Pl} (d:eh t=1) (f: ∀n (l:List Pl),l.length<=1000000->lW (n+2) l (aF t).1 (aF t).2.1 (aF t).2.2.1 (aF t).2.2.2.1 (aF t).2.2.2.2=some (l++[p]))
  (g: ∀n (l:List Pl),l.length<=1000000->jJ (n+2) l (aF t).1 (aF t).2.1 (aF t).2.2.1 (aF t).2.2.2.1 (aF t).2.2.2.2=some (l++[p])):jo t (fun _=>[p]):=by
 refine⟨fun b=>by simp [d],fun l h=>⟨W.succ (W.succ (W.of fun n=>f n l (by omega))),W.succ (W.succ (W.of fun n=>g n l (by omega)))⟩⟩
theorem aCV {t:Tr} (h:fM t) (ay:hC t): ∃S,jo t S/\Sh S:=by
 induction h with
 |mk h k ih=>
  rename_i t;obtain⟨hl,hk⟩:=ay;obtain⟨S,ak⟩: ∃S:Tr->Nat->List Pl,∀x,x∈dO t->jo x (S x)/\Sh (S x):=by
   have key: ∀x:Tr,∃s:Nat->List Pl,x∈dO t->jo x s/\Sh s:=fun x=>by
    by_cases hx:x∈dO t
    .obtain⟨s,hs⟩:=ih x hx (hk x hx)
     exact⟨s,fun _=>hs⟩
    .exact⟨fun _=>[],fun c=>absurd c hx⟩
   obtain⟨S,hS⟩:=ü key;exact⟨S,hS⟩
  have hS: ∀x,x∈dO t->jo x (S x):=fun x hx=>(ak x hx).1
  have af: ∀x,x∈dO t->Sh (S x):=fun x hx=>(ak x hx).2
  clear ih hk k ak;obtain⟨⟨o,c,s,neg⟩,ks⟩:=t;have az:dO (.mk (o,c,s,neg) ks)=ks:=rfl;rw [az]at hl hS af h;have d:eh (.mk (o,c,s,neg) ks)=1+cx ks:=by rw [eh]
  have f:aF (.mk (o,c,s,neg) ks)=(o,c,s,neg,ks):=rfl;rw [f]at h;dsimp only at h
  have a6: ∀ai:1<=ks.length,∀hc:ks.length=1,∃z,ks=[z]:=fun _ hc=>ì.1 hc
  rcases h with⟨rfl,a,b,rfl,rfl,h0⟩|⟨rfl,rfl,au,h0⟩|⟨ho,rfl,rfl,rfl,aj⟩|⟨ho,rfl,rfl,rfl,aj⟩|⟨ho,rfl,rfl,rfl,h0⟩
  .have:=Î h0;subst this
   refine⟨_,wR (p:=(1,c,[],false,0,0)) (by rw [d,cx]) (fun n l hl=> ?_) (fun n l hl=> ?_),fun b p hp=>by rw [Ã.1 hp];simp⟩
   .rw [kY,cA (by omega)];rfl
   .rw [kZ,cA (by omega)];rfl
  .have:=Î h0;subst this
   refine⟨_,wR (p:=(3,0,s,neg,0,0)) (by rw [d,cx]) (fun n l hl=> ?_) (fun n l hl=> ?_),fun b p hp=>by rw [Ã.1 hp];exact Ka au.2.1⟩
   .rw [kY,cA (by omega)];rfl
   .rw [kZ,cA (by omega)];rfl
  .rcases ho with rfl|rfl
   .refine⟨fun b=>jn S ks b,⟨fun b=>(by have:=UR ks b hS;rw [d];show(jn S ks b).length+2<=_;omega),fun l hz=>⟨?_, ?_⟩⟩,fun b=>UZ ks b af⟩
    .rw [d]at hz
     refine((US (S:=S) (o:=6) (c:=0) (s:=[]) (neg:=false) (ks:=ks) (by omega) ks 0 l (by rw [Í]) (by omega) hS (by omega)).and (W.ge (ks.length+1))).nm fun n ⟨r,q⟩=> ?_
     rw [kY,f];have r:=r n (by omega)
     simp only [À,Y,ez];rw [show (0:Int)=((0:Nat):Int)from rfl]at*;rw [r];rfl
    .rw [d]at hz
     refine((UT (S:=S) (ks:=ks) (by omega) ks 0 l (by rw [Í]) (by omega) hS (by omega)).and (W.ge (ks.length+1))).nm fun n ⟨r,q⟩=> ?_
     rw [kZ,f];have r:=r n (by omega)
     simp only [À,Y,ez];rw [show (0:Int)=((0:Nat):Int)from rfl]at*;rw [r];rfl
   .have ai:ks≠ []:=fun e=>by rw [e]at aj;simp at aj
    have hd:ks=ks.dropLast++[ks.getLast ai]:=(List.dropLast_concat_getLast ai).symm;generalize ks.getLast ai=z at hd
    refine⟨fun b=>qP S ks z b,⟨fun b=> ?_,fun l hz=> ?_⟩,fun b p hp=> ?_⟩
    .have h1:=Kd (S:=S) (e:=(Kf S ks z b:Int)) ks.dropLast b (fun k hk=>hS k ((â _).subset hk))
     have h2:=(hS z (by rw [hd];simp)).1 (qO S ks b)
     have h3:cx ks=cx ks.dropLast+eh z:=by
      conv=>lhs;rw [hd]
      rw [Kg,qg]
     show(qP S ks z b).length+2<=_;rw [qP,Ä,d];omega
    .rw [d]at hz
     obtain⟨p1,p2⟩:=aCU (S:=S) (ks:=ks) (z:=z) hd hS (by omega) l (by omega)
     constructor
     .refine p1.nm fun n r=> ?_
      rw [kY,f];simp only [À,Y,ez,r,Z]
     .refine p2.nm fun n r=> ?_
      rw [kZ,f];simp only [À,Y,ez,r,Z]
    .have hp:p∈qP S ks z b:=hp
     rw [qP]at hp;rcases È.1 hp with hp|hp
     .exact Va _ _ (fun k hk=>af k ((â _).subset hk)) p hp
     .exact af z (by rw [hd];simp) _ p hp
  .obtain⟨z,rfl⟩:=ì.1 aj
   have m:=hS z (by simp)
   have ao:=af z (by simp)
   have u:fO [z] (0:Int)=some (aF z):=mb (ks:=[z]) (i:=0) (by simp)
   rw [qg]at d;rcases ho with rfl|rfl|rfl
   .refine⟨fun b=>pl 7 ((b+1:Nat):Int) ((b+2+(S z (b+1)).length:Nat):Int)::(S z (b+1)++[pl 6 (b:Int) 0]),⟨fun b=> ?_,fun l hz=> ?_⟩,fun b p hp=>(by
    rcases Ú.1 hp with rfl|hp
    .exact mA _ _ _
    rcases È.1 hp with hp|hp
    .exact ao _ p hp
    .rw [Ã.1 hp];exact mA _ _ _)⟩
    .have:=m.1 (b+1)
     rw [d];simp;omega
    .rw [d]at hz
     have hb:=m.1 (l.length+1);obtain⟨s,hs⟩: ∃s,s=S z (l.length+1):=⟨_,rfl⟩
     dsimp only
     rw [<-hs]at hb |-;constructor
     .have p1:=wQ l 7 (by omega)
      have g:=(m.2 (l++[pl 7 0 0]) (by simp;omega)).1
      rw [show (l++[pl 7 0 0]).length=l.length+1 by simp,<-hs]at g
      have hr:l++[pl 7 0 0]++s++[((6:Int),(0:Int),([]:O),false,(l.length:Int),(0:Int))]=l++pl 7 0 0::(s++[pl 6 (l.length:Int) 0]):=by simp [pl]
      have hlen:(l++[pl 7 0 0]++s).length=l.length+1+s.length:=by simp;omega
      have j:((l++((pl 7 0 0).1,(pl 7 0 0).2.1,(pl 7 0 0).2.2.1,(pl 7 0 0).2.2.2.1,((l.length+1:Nat):Int),(pl 7 0 0).2.2.2.2.2)::(s++[pl 6 (l.length:Int) 0])).length:Int)=((l.length+2+s.length:Nat):Int):=by simp;omega
      refine(p1.and g).nm fun n ⟨r,q⟩=> ?_
      rw [kY,f];simp only [À,Y,ez];rw [r,Z,u,Z,q,Z,hlen,cA (by omega),Y,hr,nA,Y,Â,jN,Z,my,nA,Y,jN,Z,my,jL (by omega),j]
      rfl
     .have g:=(m.2 (l++[pl 7 ((l.length+1:Nat):Int) 0]) (by simp;omega)).2
      rw [show (l++[pl 7 ((l.length+1:Nat):Int) 0]).length=l.length+1 by simp,<-hs]at g
      have hr:l++[pl 7 ((l.length+1:Nat):Int) 0]++s++[((6:Int),(0:Int),([]:O),false,(l.length:Int),(0:Int))]=l++pl 7 ((l.length+1:Nat):Int) 0::(s++[pl 6 (l.length:Int) 0]):=by simp [pl]
      have hlen:(l++[pl 7 ((l.length+1:Nat):Int) 0]++s).length=l.length+1+s.length:=by simp;omega
      have j:((l++pl 7 ((l.length+1:Nat):Int) 0::(s++[pl 6 (l.length:Int) 0])).length:Int)=((l.length+2+s.length:Nat):Int):=by simp;omega
      refine g.nm fun n q=> ?_
      have q:jJ n (l++[((7:Int),(0:Int),([]:O),false,((l.length+1:Nat):Int),(0:Int))]) (aF z).1 (aF z).2.1 (aF z).2.2.1 (aF z).2.2.2.1 (aF z).2.2.2.2=some (l++[pl 7 ((l.length+1:Nat):Int) 0]++s):=q;rw [kZ,f];simp only [À,Y,ez];rw [cA (by omega),Y,u,Z,jL (by omega),q,Z,hlen,cA (by omega),Y,hr,nA,Y,Â,jN,Z,my,j]
      rfl
   .refine⟨fun b=>S z b++[pl 7 (b:Int) ((b+(S z b).length+1:Nat):Int)],⟨fun b=> ?_,fun l hz=> ?_⟩,fun b p hp=>(by
    rcases È.1 hp with hp|hp
    .exact ao _ p hp
    .rw [Ã.1 hp];exact mA _ _ _)⟩
    .have:=m.1 b
     rw [d];simp;omega
    .rw [d]at hz
     have hb:=m.1 l.length;have g:=m.2 l (by omega)
     obtain⟨s,hs⟩: ∃s,s=S z l.length:=⟨_,rfl⟩
     dsimp only
     rw [<-hs]at hb g |-;have hlen:(l++s).length=l.length+s.length:=by simp
     constructor
     .refine g.1.nm fun n q=> ?_
      rw [kY,f];simp only [À,Y,ez];rw [u,Z,q,Z,hlen,cA (by omega),Y,jL (by omega),Ë]
      rfl
     .refine g.2.nm fun n q=> ?_
      rw [kZ,f];simp only [À,Y,ez];rw [u,Z,q,Z,hlen,cA (by omega),Y,jL (by omega),Ë]
      rfl
   .refine⟨fun b=>pl 7 ((b+1:Nat):Int) ((b+1+(S z (b+1)).length:Nat):Int)::S z (b+1),⟨fun b=> ?_,fun l hz=> ?_⟩,fun b p hp=>(by
    rcases Ú.1 hp with rfl|hp
    .exact mA _ _ _
    .exact ao _ p hp)⟩
    .have:=m.1 (b+1)
     rw [d];simp;omega
    .rw [d]at hz
     have hb:=m.1 (l.length+1);obtain⟨s,hs⟩: ∃s,s=S z (l.length+1):=⟨_,rfl⟩
     dsimp only
     rw [<-hs]at hb |-;constructor
     .have p1:=wQ l 7 (by omega)
      have g:=(m.2 (l++[pl 7 0 0]) (by simp;omega)).1
      rw [show (l++[pl 7 0 0]).length=l.length+1 by simp,<-hs]at g
      have hr:l++[pl 7 0 0]++s=l++pl 7 0 0::s:=by simp
      have j:((l++((pl 7 0 0).1,(pl 7 0 0).2.1,(pl 7 0 0).2.2.1,(pl 7 0 0).2.2.2.1,((l.length+1:Nat):Int),(pl 7 0 0).2.2.2.2.2)::s).length:Int)=((l.length+1+s.length:Nat):Int):=by simp;omega
      refine(p1.and g).nm fun n ⟨r,q⟩=> ?_
      rw [kY,f];simp only [À,Y,ez];rw [r,Z,u,Z,q,Z,hr,nA,Y,Â,jN,Z,my,nA,Y,jN,Z,my,jL (by omega),j]
      rfl
     .have g:=(m.2 (l++[pl 7 ((l.length+1:Nat):Int) 0]) (by simp;omega)).2
      rw [show (l++[pl 7 ((l.length+1:Nat):Int) 0]).length=l.length+1 by simp,<-hs]at g
      have hr:l++[pl 7 ((l.length+1:Nat):Int) 0]++s=l++pl 7 ((l.length+1:Nat):Int) 0::s:=by simp
      have j:((l++pl 7 ((l.length+1:Nat):Int) 0::s).length:Int)=((l.length+1+s.length:Nat):Int):=by simp;omega
      refine g.nm fun n q=> ?_
      have q:jJ n (l++[((7:Int),(0:Int),([]:O),false,((l.length+1:Nat):Int),(0:Int))]) (aF z).1 (aF z).2.1 (aF z).2.2.1 (aF z).2.2.2.1 (aF z).2.2.2.2=some (l++[pl 7 ((l.length+1:Nat):Int) 0]++s):=q;rw [kZ,f];simp only [À,Y,ez];rw [cA (by omega),Y,u,Z,jL (by omega),q,Z,hr,nA,Y,Â,jN,Z,my,j]
      rfl
  .have:=Î h0;subst this
   rcases ho with rfl|rfl|rfl|rfl
   .refine⟨_,wR (p:=pl 2 0 0) (by rw [d,cx]) (fun n l hl=> ?_) (fun n l hl=> ?_),fun b p hp=>by rw [Ã.1 hp];exact mA _ _ _⟩
    .rw [kY,f]
     simp only [À,Y,ez];rw [Bz,cA (by omega)];rfl
    .rw [kZ,cA (by omega)];rfl
   .refine⟨_,wR (p:=pl 4 0 0) (by rw [d,cx]) (fun n l hl=> ?_) (fun n l hl=> ?_),fun b p hp=>by rw [Ã.1 hp];exact mA _ _ _⟩
    .rw [kY,f]
     simp only [À,Y,ez];rw [Bz,cA (by omega)];rfl
    .rw [kZ,cA (by omega)];rfl
   .refine⟨_,wR (p:=pl 5 0 0) (by rw [d,cx]) (fun n l hl=> ?_) (fun n l hl=> ?_),fun b p hp=>by rw [Ã.1 hp];exact mA _ _ _⟩
    .rw [kY,f]
     simp only [À,Y,ez];rw [Bz,cA (by omega)];rfl
    .rw [kZ,cA (by omega)];rfl
   .refine⟨fun _=>[],⟨fun b=>(by rw [d];simp;omega),fun l hz=>⟨W.succ (W.of fun n=> ?_),W.succ (W.of fun n=> ?_)⟩⟩,fun b p hp=>by cases hp⟩
    .rw [kY,f,Ð];rfl
    .rw [kZ,f,Ð];rfl
def iR (p:Pl) (n:Int) (last:Prop):Prop:=
 (last↔p.1=8)/\(p.1≠1->p.2.1=0)/\(p.1≠3->p.2.2.1=[]/\p.2.2.2.1=false)/\
 ((p.1=6/\In p.2.2.2.2.1 0 (n-1)/\p.2.2.2.2.2=0)\/(p.1=7/\In p.2.2.2.2.1 0 (n-1)/\In p.2.2.2.2.2 0 (n-1))\/(p.1=1/\In p.2.1 0 255/\p.2.2.2.2.1=0/\p.2.2.2.2.2=0)\/
  ((p.1=2\/p.1=3\/p.1=4\/p.1=5\/p.1=8)/\p.2.2.2.2.1=0/\p.2.2.2.2.2=0))
theorem aCW:W fun n=> ∀x lo hi:Int,cR n x lo hi=some (bo (In x lo hi)):=W.succ (W.of fun n x lo hi=>by
 obtain⟨N,h⟩:=di x lo hi;rw [<-h (max N (n+1)) (ø _ _)];obtain⟨q,b⟩: ∃q,max N (n+1)=q+1:=⟨max N (n+1)-1,by omega⟩
 rw [b,oP,oP])
def pa (p:Pl) (n:Int):Prop:=
 In p.1 1 8/\((In p.2.1 0 255/\p.1=1)\/p.2.1=0)/\(p.1=3\/(p.2.2.1=[]/\p.2.2.2.1=false))/\
 (((p.1=6\/p.1=7)/\In p.2.2.2.2.1 0 (n-1))\/(p.2.2.2.2.1=0/\p.1≠6/\p.1≠7))/\((p.1=7/\In p.2.2.2.2.2 0 (n-1))\/(p.2.2.2.2.2=0/\p.1≠7))
theorem aCX (p:Pl) (n:Int) (last:Prop):(pa p n/\(p.1=8↔last))↔iR p n last:=by
 obtain⟨o,c,s,neg,a,b⟩:=p;unfold pa iR;dsimp only
 by_cases h:In o 1 8
 .have d:o=1\/o=2\/o=3\/o=4\/o=5\/o=6\/o=7\/o=8:=by unfold In at h;omega
  have f:c=0->In c 0 255:=fun e=>by unfold In;omega
  rcases d with rfl|rfl|rfl|rfl|rfl|rfl|rfl|rfl
  all_goals simp [h]
  all_goals grind
 .have d:o≠1/\o≠2/\o≠3/\o≠4/\o≠5/\o≠6/\o≠7/\o≠8:=by unfold In at h;omega
  simp [h,d]
theorem aCY (p:Pl) (n0:Int) (f:1<=n0/\n0<=1048576):W fun n=>zM n p.1 p.2.1 p.2.2.1 p.2.2.2.1 p.2.2.2.2.1 p.2.2.2.2.2 n0=some (bo (pa p n0)):=by
 obtain⟨o,c,s,neg,a,b⟩:=p;refine UP.nm fun n e=> ?_
 have hw:wrap .i64 (n0-1)=n0-1:=by rw [Á];omega
 rw [arJ,hw];simp only [e,Z];rw [show (!neg)=bo (neg=false) by cases neg<;>simp [rJ,rK]]
 simp only [bp,cu,gX,kK,yb,Z];refine cG ?_
 unfold pa;dsimp only
 by_cases h:In o 1 8
 .have d:o=1\/o=2\/o=3\/o=4\/o=5\/o=6\/o=7\/o=8:=by unfold In at h;omega
  rcases d with rfl|rfl|rfl|rfl|rfl|rfl|rfl|rfl
  all_goals simp [h]
  all_goals grind
 .simp [h]
theorem aCZ (p:Pl) (n0:Int) (last:Bool) (g:1<=n0/\n0<=1048576):W fun n=>AV n p.1 p.2.1 p.2.2.1 p.2.2.2.1 p.2.2.2.2.1 p.2.2.2.2.2 n0 last=some (bo (iR p n0 (last=true))):=by
 obtain⟨o,c,s,neg,a,b⟩:=p;refine aCW.nm fun n e=> ?_
 have hw:wrap .i64 (n0-1)=n0-1:=by rw [Á];omega
 rw [awO,hw];simp only [e,Z];rw [show (!(last==(o==(8:Int))))=bo (¬((last=true)↔o=8)) by
  by_cases h:o=8
  .subst h;cases last<;>simp [rJ,rK]
  .have z:(o==(8:Int))=false:=by simpa using h
   rw [z];cases last<;>simp [h,rJ,rK]]
 cases neg;all_goals (
  have key:(some false:Option Bool)=some (bo False):=by rw [rK]
  have d:(some true:Option Bool)=some (bo True):=by rw [rJ]
  simp only [bp,cu,bA,gX,kK,yb,cT,Z];simp only [key,d,yb,Z];refine cG ?_
  unfold iR;dsimp only
  by_cases h:In o 1 8
  .have f:o=1\/o=2\/o=3\/o=4\/o=5\/o=6\/o=7\/o=8:=by unfold In at h;omega
   rcases f with rfl|rfl|rfl|rfl|rfl|rfl|rfl|rfl
   all_goals simp
   all_goals grind
  .have f:o≠1/\o≠2/\o≠3/\o≠4/\o≠5/\o≠6/\o≠7/\o≠8:=by unfold In at h;omega
   simp [f])
def nB (l:List Pl):Prop:=In l.length 1 400/\ ∀i,i<l.length-> ∀h:i<l.length,iR l[i] l.length (i=l.length-1)
theorem Vb {l:List Pl} {i:Nat} (h:i<l.length) (b:l.length<=1048576):((i:Int)==wrap .i64 ((l.length:Int)-1))=decide (i=l.length-1):=by
 rw [show wrap .i64 ((l.length:Int)-1)=((l.length-1:Nat):Int) by rw [Á];omega]
 by_cases e:i=l.length-1
 .rw [hJ e,<-e];simp
 .rw [hL e];simp;omega
theorem Vc (l:List Pl) (f:l.length<=1048576):W fun n=>GF n l=some (bo (nB l)):=by
 have g:W fun n=> ∀p∈l,zM n p.1 p.2.1 p.2.2.1 p.2.2.2.1 p.2.2.2.2.1 p.2.2.2.2.2 (l.length:Int)=some (bo (pa p l.length)):=W.all l fun p hp=>aCY p l.length (by have:=List.length_pos_of_mem hp;omega)
 have h:=jD (len:=l.length) f (q:=fun i=> ∀h:i<l.length,iR l[i] l.length (i=l.length-1)) (r:=false) (b:=(l.length:Int)) (L:=fun n m i=>zL n m i (l.length:Int) l) (g.mono fun n h m i hi=>by
  have d:(∀h:i<l.length,iR l[i] l.length (i=l.length-1))↔iR l[i] l.length (i=l.length-1):=⟨fun k=>k hi,fun k _=>k⟩
  rw [QQ,bu hi,Y,bg hi,Z,h _ (Æ hi),Z,Vb hi f,propext d,<-propext (aCX l[i] l.length (i=l.length-1)),bA];by_cases a:pa l[i] l.length
  .rw [az (P:= ¬pa l[i] l.length) (fun k=>k a),ez,Z]
   by_cases b:l[i].1=8
   .by_cases c:i=l.length-1
    .rw [aB ⟨a,⟨fun _=>c,fun _=>b⟩⟩,hJ c,b];rfl
    .rw [az (fun k=>c (k.2.1 b)),hL c,b];rfl
   .have z:(l[i].1==(8:Int))=false:=by simpa using b
    by_cases c:i=l.length-1
    .rw [az (fun k=>b (k.2.2 c)),hJ c,z];rfl
    .rw [aB ⟨a,⟨fun k=>absurd k b,fun k=>absurd k c⟩⟩,hL c,z];rfl
  .rw [aB (P:= ¬pa l[i] l.length) a,Y,az (fun k=>a k.1)];rfl) (fun n m=>by rw [QQ,ck];rfl)
 refine(h.and (cS l.length 1 400)).nm fun n ⟨d,j⟩=> ?_
 rw [arI,d,Z];unfold nB;by_cases a: ∀i,i<l.length-> ∀h:i<l.length,iR l[i] l.length (i=l.length-1)
 .rw [aB a,Y,cP,j,Z]
  refine cG ⟨fun k=>⟨k,a⟩,fun k=>k.1⟩
 .rw [az a,ez,uo,az (fun k=>a k.2)]
theorem Kh (l:List Pl) (f:l.length<=1048576):W fun n=>AS n l=some (bo (nB l)):=by
 have g:W fun n=> ∀i (hi:i<l.length),AV n l[i].1 l[i].2.1 l[i].2.2.1 l[i].2.2.2.1 l[i].2.2.2.2.1 l[i].2.2.2.2.2 (l.length:Int) (decide (i=l.length-1))=some (bo (iR l[i] l.length (i=l.length-1))):=W.lt fun i hi=>by
  have:=aCZ l[i] l.length (decide (i=l.length-1)) (by omega)
  rw [show ((decide (i=l.length-1))=true)=(i=l.length-1) by simp]at this
  exact this
 have h:=jD (len:=l.length) f (q:=fun i=> ∀h:i<l.length,iR l[i] l.length (i=l.length-1)) (r:=false) (b:=()) (L:=fun n m i=>AU n m i l l (l.length:Int)) (g.mono fun n h m i hi=>by
  have d:(∀h:i<l.length,iR l[i] l.length (i=l.length-1))↔iR l[i] l.length (i=l.length-1):=⟨fun k=>k hi,fun k _=>k⟩
  rw [RN,bu hi,Y,bg hi,Z,Vb hi f,h i hi,Z,propext d];cases bo (iR l[i] l.length (i=l.length-1))<;>rfl) (fun n m=>by rw [RN,ck];rfl)
 refine(h.and (di l.length 1 400)).nm fun n ⟨d,j⟩=> ?_
 rw [awN,j,Z];unfold nB;by_cases c:In l.length 1 400
 .rw [aB c]
  simp only [Ê,ez];rw [d,Z];by_cases a: ∀i,i<l.length-> ∀h:i<l.length,iR l[i] l.length (i=l.length-1)
  .rw [aB a,Y,cP,aB ⟨c,a⟩]
  .rw [az a,ez,uo,az (fun k=>a k.2)]
 .rw [az c,az (fun k=>c k.1)];rfl
theorem Ki (n:Nat) (x lo hi:Int):cR (n+1) x lo hi=some (bo (In x lo hi)):=by
 obtain⟨N,h⟩:=di x lo hi;rw [<-h (max N (n+1)) (ø _ _)];obtain⟨q,b⟩: ∃q,max N (n+1)=q+1:=⟨max N (n+1)-1,by omega⟩
 rw [b,oP,oP]
theorem ta (M:List Bool) (k i:Nat) (hk:k<M.length):(M.set k true).getD i false=(decide (i=k)||M.getD i false):=by
 simp only [Å,List.getElem?_set]
 by_cases h:k=i
 .subst h;simp [hk]
 .rw [if_neg h,hL (fun e=>h e.symm),Bool.false_or]
theorem aDa {M:List Bool} {k:Nat} (hk:k<M.length) (h:M.getD k false=false):(M.set k true).count false+1=M.count false:=by
 have e:M[k]=false:=by rw [<-h,Å,Ç hk];rfl
 rw [List.count_set hk,e];have:0<M.count false:=List.count_pos_iff.2 (by rw [<-e];exact Æ hk)
 simp;omega
theorem Cf {M:List Bool} {k:Nat} (h:k<M.length):aM M k=some (M.getD k false):=by
 show M[k]? =_;rw [Å,Ç h];rfl
theorem aDb (n m:Nat) (b e:Bool) (l:List Pl) (M:List Bool) (t:List Int) (k:Nat) (z:M.length=l.length) (hl:l.length<=400) (ht:t.length<=3900000) (hk:k<l.length) (r:M.getD k false=false):
  gj n (m+1) b e l M (t++[(k:Int)])=gj n m b e l (M.set k true) (t++ei l[k] k b e):=by
 have hlen:((t++[(k:Int)]).length:Int)=((t.length+1:Nat):Int):=by simp
 have hw:wrap .i64 (((t++[(k:Int)]).length:Int)-1)=(t.length:Int):=by rw [hlen,Á];omega
 have f:aM (t++[(k:Int)]) (Ì (t.length:Int))=some (k:Int):=by rw [Â];exact jN t _ []
 have g:(t++[(k:Int)]).take (Ì (t.length:Int))=t:=by simp
 have d:ô (Ì (t.length:Int)) (t++[(k:Int)]).length=true:=Ô (by simp)
 rw [Jb,hw,f,g,d,hlen,hJ (show (0:Int)<((t.length+1:Nat):Int) by omega),hJ (show (0:Int)<=(t.length:Int)/\(t.length:Int)<((t.length+1:Nat):Int) by omega),hJ (show (0:Int)<=(t.length:Int)/\(t.length:Int)<=((t.length+1:Nat):Int) by omega),cA (show t.length+1<=4000000 by omega),cA (show t.length+2<=4000000 by omega),Y,Y,Z]
 simp only [Y];rw [hL (show ¬(l.length:Int)<=(k:Int) by omega),hL (show ¬(k:Int)<0 by omega),hJ (show (0:Int)<=(k:Int)/\(k:Int)<(M.length:Int) by omega),Â,Cf (show k<M.length by omega),r,bg hk,dy hk (by omega)]
 simp only [Y,ez,Z];generalize l[k]=p
 unfold ei;by_cases h:p.1=6
 .rw [h,if_pos rfl];rfl
 have s:(p.1==(6:Int))=false:=by simpa using h
 rw [s,ez,if_neg h];by_cases i:p.1=7
 .rw [i,if_pos rfl];rfl
 have u:(p.1==(7:Int))=false:=by simpa using i
 rw [u,ez,if_neg i];by_cases j:p.1=4
 .rw [j,if_pos rfl]
  cases b
  .rw [show t++cond false [(k:Int)+1] []=t from Ð t];rfl
  .rfl
 have z4:(p.1==(4:Int))=false:=by simpa using j
 rw [z4,ez,if_neg j];by_cases q:p.1=5
 .rw [q,if_pos rfl]
  cases e
  .rw [show t++cond false [(k:Int)+1] []=t from Ð t];rfl
  .rfl
 have z5:(p.1==(5:Int))=false:=by simpa using q
 rw [z5,ez,if_neg q,Ð]
theorem aDc (n m:Nat) (b e:Bool) (l:List Pl) (M:List Bool) (t:List Int) (x:Int) (p:M.length=l.length) (_:l.length<=400) (r:t.length<=3900000) (j: ∀k:Nat,x=(k:Int)->k<l.length->M.getD k false=true):
  gj n (m+1) b e l M (t++[x])=gj n m b e l M t:=by
 have hlen:((t++[x]).length:Int)=((t.length+1:Nat):Int):=by simp
 have hw:wrap .i64 (((t++[x]).length:Int)-1)=(t.length:Int):=by rw [hlen,Á];omega
 have f:aM (t++[x]) (Ì (t.length:Int))=some x:=by rw [Â];exact jN t x []
 have g:(t++[x]).take (Ì (t.length:Int))=t:=by simp
 have d:ô (Ì (t.length:Int)) (t++[x]).length=true:=Ô (by simp)
 rw [Jb,hw,f,g,d,hlen,hJ (show (0:Int)<((t.length+1:Nat):Int) by omega),hJ (show (0:Int)<=(t.length:Int)/\(t.length:Int)<((t.length+1:Nat):Int) by omega),hJ (show (0:Int)<=(t.length:Int)/\(t.length:Int)<=((t.length+1:Nat):Int) by omega),Y,Y,Z]
 simp only [Y];by_cases h:(l.length:Int)<=x
 .rw [hJ h,Y]
 rw [hL h,ez];by_cases i:x<0
 .rw [hJ i,Y]
 rw [hL i,ez];obtain⟨k,rfl⟩: ∃k:Nat,x=(k:Int):=⟨x.toNat,by omega⟩
 have hk:k<l.length:=by omega
 rw [hJ (show (0:Int)<=(k:Int)/\(k:Int)<(M.length:Int) by omega),Â,Cf (show k<M.length by omega),j k rfl hk]
 rfl
theorem aDd (n m:Nat) (b e:Bool) (l:List Pl) (M:List Bool):gj n (m+1) b e l M []=some (.inl M):=by
 rw [Jb];rfl
theorem aDe {l:List Pl} {b e:Bool} (hl:l.length<=400) {R:Nat->Prop} (hR: ∀k,(h:k<l.length)->R k-> ∀j:Nat,(j:Int)∈ei l[k] k b e->j<l.length->R j):
  ∀(f:Nat) (M:List Bool) (t:List Int),M.length=l.length->t.length+3*M.count false<=f->f<=1000000->
  (∀i,i<l.length->M.getD i false=true->R i)->(∀j:Nat,(j:Int)∈t->j<l.length->R j)->
  (∀k,(h:k<l.length)->M.getD k false=true-> ∀j:Nat,(j:Int)∈ei l[k] k b e->j<l.length->M.getD j false=true\/(j:Int)∈t)->
  ∃d,(∀n m,f<m->gj n m b e l M t=some (.inl d))/\d.length=l.length/\(∀i,i<l.length->M.getD i false=true->d.getD i false=true)/\(∀j:Nat,(j:Int)∈t->j<l.length->d.getD j false=true)/\
   (∀i,i<l.length->d.getD i false=true->R i)/\(∀k,(h:k<l.length)->d.getD k false=true-> ∀j:Nat,(j:Int)∈ei l[k] k b e->j<l.length->d.getD j false=true):=by
 intro f;have stop: ∀(f:Nat) (M:List Bool),M.length=l.length->(∀i,i<l.length->M.getD i false=true->R i)->(∀k,(h:k<l.length)->M.getD k false=true-> ∀j:Nat,(j:Int)∈ei l[k] k b e->j<l.length->M.getD j false=true\/(j:Int)∈([]:List Int))->
  ∃d,(∀n m,f<m->gj n m b e l M []=some (.inl d))/\d.length=l.length/\(∀i,i<l.length->M.getD i false=true->d.getD i false=true)/\(∀j:Nat,(j:Int)∈([]:List Int)->j<l.length->d.getD j false=true)/\
   (∀i,i<l.length->d.getD i false=true->R i)/\(∀k,(h:k<l.length)->d.getD k false=true-> ∀j:Nat,(j:Int)∈ei l[k] k b e->j<l.length->d.getD j false=true):=fun f M g p r=>by
  refine⟨M,fun n m hm=> ?_,g,fun i _ h=>h,fun j h=>(by cases h),p,fun k h hk j hj ca=> ?_⟩
  .obtain⟨m,rfl⟩: ∃q,m=q+1:=⟨m-1,by omega⟩
   exact aDd _ _ _ _ _ _
  .rcases r k h hk j hj ca with h|h
   .exact h
   .cases h
 induction f with
 |zero=>
  intro M t g hf _ p z r;have:t=[]:=Î (by omega)
  subst this;exact stop 0 M g p r
 |succ f ih=>
  intro M t g hf ar p z r;rcases ï t with rfl|⟨t,x,rfl⟩
  .exact stop (f+1) M g p r
  rw [ð]at*;simp only [Ä,Õ]at hf;by_cases h: ∃k:Nat,x=(k:Int)/\k<l.length/\M.getD k false=false
  .obtain⟨k,rfl,hk,hg⟩:=h
   have hu:=aDa (M:=M) (k:=k) (by omega) hg
   have hn:=YW l[k] k b e;have s:R k:=z k (by simp) hk
   obtain⟨d,e1,e2,u,e4,e5,e6⟩:=ih (M.set k true) (t++ei l[k] k b e) (by simp [g]) (by rw [Ä];omega) (by omega)
    (fun i hi hm=>by
     rw [ta M k i (by omega)]at hm
     rcases æ.1 hm with h|h
     .rw [of_decide_eq_true h];exact s
     .exact p i hi h)
    (fun j hj ca=>by
     rcases È.1 hj with hj|hj
     .exact z j (by simp [hj]) ca
     .exact hR k hk s j hj ca)
    (fun q hq hm j hj ca=>by
     rw [ta M k q (by omega)]at hm
     rw [ta M k j (by omega)]
     rcases æ.1 hm with h|h
     .have:=of_decide_eq_true h
      subst this;exact .inr (List.mem_append_right _ hj)
     .rcases r q hq h j hj ca with h|h
      .rw [h];simp
      .rcases È.1 h with h|h
       .exact .inr (Ï _ h)
       .left
        have:j=k:=by have:=Ã.1 h;omega
        rw [hJ this];rfl)
   refine⟨d,fun n m hm=> ?_,e2,fun i hi hm=>u i hi (by rw [ta M k i (by omega),hm];simp),fun j hj ca=> ?_,e5,e6⟩
   .obtain⟨m,rfl⟩: ∃q,m=q+1:=⟨m-1,by omega⟩
    rw [aDb n m b e l M t k g hl (by omega) hk hg]
    exact e1 n m (by omega)
   rcases È.1 hj with hj|hj
   .exact e4 j (Ï _ hj) ca
   .have:j=k:=by have:=Ã.1 hj;omega
    subst this;exact u j ca (by rw [ta M j j (by omega)];simp)
  .have hx: ∀j:Nat,x=(j:Int)->j<l.length->M.getD j false=true:=fun j hj ca=>by
    cases e:M.getD j false
    .exact absurd ⟨j,hj,ca,e⟩ h
    .rfl
   obtain⟨d,e1,e2,u,e4,e5,e6⟩:=ih M t g (by omega) (by omega) p (fun j hj ca=>z j (Ï _ hj) ca) (fun q hq hm j hj ca=>by
    rcases r q hq hm j hj ca with h|h
    .exact .inl h
    .rcases È.1 h with h|h
     .exact .inr h
     .exact .inl (hx j (Ã.1 h).symm ca))
   refine⟨d,fun n m hm=> ?_,e2,u,fun j hj ca=> ?_,e5,e6⟩
   .obtain⟨m,rfl⟩: ∃q,m=q+1:=⟨m-1,by omega⟩
    rw [aDc n m b e l M t x g hl (by omega) hx]
    exact e1 n m (by omega)
   rcases È.1 hj with hj|hj
   .exact e4 j hj ca
   .exact u j ca (hx j (Ã.1 hj).symm ca)
def Mk (l:List Pl) (b e:Bool) (at0:List Int) (M:List Bool):Prop:=
 M.length=l.length/\(∀i,i<l.length->M.getD i false=true->kM l at0 b e i)/\(∀k,(h:k<l.length)->M.getD k false=true-> ∀j:Nat,(j:Int)∈ei l[k] k b e->j<l.length->M.getD j false=true)
theorem aDf {l:List Pl} {b e:Bool} {at0:List Int} (g:l.length<=400) {M:List Bool} (f:Mk l b e at0 M) {x:Int} (m:x∈at0): ∃d,Mk l b e at0 d/\(∀i,i<l.length->M.getD i false=true->d.getD i false=true)/\(∀j:Nat,x=(j:Int)->j<l.length->d.getD j false=true)/\
  ∀n,2000<=n->GG n l M x b e=some d:=by
 have p:M.count false<=M.length:=List.count_le_length;have r:=f.1;obtain⟨d,s,t,u,z,e5,e6⟩:=aDe (l:=l) (b:=b) (e:=e) g (R:=kM l at0 b e) (fun k h hk j hj ca=>.step hk h hj ca) 1201 M [x] f.1 (by simp only [Õ];omega) (by omega) f.2.1
  (fun j hj ca=>.base (by rw [Ã.1 hj];exact m) ca) (fun k h hk j hj ca=>.inl (f.2.2 k h hk j hj ca))
 refine⟨d,⟨t,e5,e6⟩,u,fun j hj ca=>z j (by rw [hj];simp) ca,fun n hn=> ?_⟩
 obtain⟨n,rfl⟩: ∃q,n=q+1:=⟨n-1,by omega⟩
 rw [arL,s n n (by omega)];rfl
theorem Vd {l:List Pl} {b e:Bool} {at0:List Int} (k:l.length<=400) (s:at0.length<=1048576): ∀(r:List Int) (i:Nat) (M:List Bool),at0.drop i=r->Mk l b e at0 M->(∀j:Nat,(j:Int)∈at0.take i->j<l.length->M.getD j false=true)->
  ∃d,Mk l b e at0 d/\(∀j:Nat,(j:Int)∈at0->j<l.length->d.getD j false=true)/\ ∀n m,2000<=n->r.length<m->zN n m (i:Int) e b at0 M l=some (.inl d)
 | [],i,M,hd,f,g=>by
  have t:at0.length<=i:=Û.1 hd;rw [í t]at g;refine⟨M,f,g,fun n m _ hm=> ?_⟩
  obtain⟨m,rfl⟩: ∃q,m=q+1:=⟨m-1,by simp at hm;omega⟩
  rw [QR,hL (by omega),ez]
 |x::r,i,M,hd,f,g=>by
  have hi:i<at0.length:=by
   by_cases c:i<at0.length
   .exact c
   .rw [Ó (by omega)]at hd;cases hd
  rw [Ñ hi]at hd;obtain⟨h,u⟩:=è hd;obtain⟨z,c1,c2,c3,c4⟩:=aDf k f (x:=x) (by rw [<-h];exact Æ hi)
  obtain⟨d,d1,d2,d3⟩:=Vd k s r (i+1) z u c1 (fun j hj ca=>by
   rw [xS hi,È]at hj;rcases hj with hj|hj
   .exact c2 j ca (g j hj ca)
   .exact c3 j (by rw [Ã.1 hj,h]) ca)
  refine⟨d,d1,d2,fun n m p hm=> ?_⟩
  obtain⟨m,rfl⟩: ∃q,m=q+1:=⟨m-1,by simp at hm;omega⟩
  rw [QR,bu hi,Y,bg hi,Z,h,c4 n p,Z,c1.1,f.1,ý,Y,dy hi (by omega)]
  exact d3 n m p (by simpa using hm)
theorem Kj (n:Nat) (M:List Bool) (g:M.length<=1048576): ∀k m (i:Nat) (out:List Int),M.length-i=k->k<m->i<=M.length->out=((î i).filter fun j=>M.getD j false).map õ->
  vE n m (i:Int) out M=some (.inl (((î M.length).filter fun j=>M.getD j false).map õ))
 |k,0,i,out,e,hm,hi,d=>by omega
 |k,m+1,i,out,e,hm,hi,d=>by
  rw [arN];by_cases h:i<M.length
  .have p:out.length<=i:=by
    rw [d,List.length_map];have:=List.length_filter_le (fun j=>M.getD j false) (î i)
    rwa [List.length_range]at this
   have q:M[i]=M.getD i false:=by rw [Å,Ç h];rfl
   rw [bu h,Y,bg h,Z,q,dy h (by omega),cA (by omega)]
   have f:((î (i+1)).filter fun j=>M.getD j false).map õ=out++cond (M.getD i false) [(i:Int)] []:=by
    rw [List.range_succ,List.filter_append,List.map_append,<-d];cases b:M.getD i false
    .simp only [ö,ù,b];simp
    .simp only [ö,ù,b];simp
   cases b:M.getD i false
   .rw [b,ez,Ð]at f
    rw [ez];exact Kj n M g _ m (i+1) out rfl (by omega) (by omega) f.symm
   .rw [b,Y]at f
    rw [Y,Y];exact Kj n M g _ m (i+1) _ rfl (by omega) (by omega) f.symm
  .have:i=M.length:=by omega
   rw [hL (by omega),ez,d,this]
theorem Ve (l:List Pl) (at0:List Int) (b e:Bool) (g:l.length<=400) (m:at0.length<=1048576):W fun n=>sg n l at0 b e=some (fN l at0 b e):=by
 have p:Mk l b e at0 (É l.length false):=by
  have f: ∀i,(É l.length false).getD i false=false:=fun i=>by
   rw [Å,ê];split<;>rfl
  refine⟨ñ,fun i hi h=> ?_,fun k h hk=> ?_⟩
  .rw [f]at h;cases h
  .rw [f]at hk;cases hk
 obtain⟨M,d1,d2,d3⟩:=Vd (b:=b) (e:=e) g m at0 0 (É l.length false) (by rw [Í]) p (fun j hj=>by simp at hj)
 have d:=d1.1;refine(W.ge (at0.length+3000)).nm fun n r=> ?_
 obtain⟨n,rfl⟩: ∃q,n=q+1:=⟨n-1,by omega⟩
 rw [arK,Â,hJ (show (0:Int)<=(l.length:Int)/\(l.length:Int)<=(l.length:Int)/\(l.length:Int)<=(aD:Int) by unfold aD;omega),Y,show(0:Int)=((0:Nat):Int)from rfl,d3 (n+1) (n+1) (by omega) (by omega),Z,cP]
 rw [arM,show(0:Int)=((0:Nat):Int)from rfl,Kj n M (by omega) _ n 0 [] rfl (by omega) (by omega) (by simp),Z,cP,Z]
 congr 1
 unfold fN;congr 1
 rw [d];refine List.filter_congr fun i hi=> ?_
 have hi:=û.1 hi;have hm:=NW (l:=l) (at0:=at0) (b:=b) (e:=e) (M:=fun i=>M.getD i false=true) d1.2.1 d2 d1.2.2 hi
 rw [<-propext hm,<-mQ]
def IV (l:List Pl) (R:Nat->Prop) (M:List Bool) (out:List Int):Prop:=
 M.length=l.length/\(∀k,k<l.length->(M.getD k false=true↔(k:Int)∈out))/\out.Nodup/\ ∀x∈out,∃k:Nat,x=(k:Int)/\k<l.length/\R k
theorem Cg {l:List Pl} {R:Nat->Prop} {M:List Bool} {out:List Int} (h:IV l R M out):out.length<=l.length:=by
 have:=List.Nodup.length_le_of_subset (l₂:=(î l.length).map õ) h.2.2.1 (fun x b=>by
  obtain⟨k,rfl,hk, -⟩:=h.2.2.2 x b;exact List.mem_map.2 ⟨k,û.2 hk,rfl⟩)
 simpa using this
theorem Ch {l:List Pl} (b:l.length<=400) (d:0<l.length):wrap .i64 ((l.length:Int)-1)=((l.length-1:Nat):Int):=by rw [Á];omega
theorem Ci {l:List Pl} {R:Nat->Prop} (u:l.length<=400) {M:List Bool} {out:List Int} (h:IV l R M out) (x:Int) (hx: ∀k:Nat,x=(k:Int)->k<l.length->R k):
  ∃z d,IV l R z d/\(∃s,d=out++s)/\(∀k:Nat,x=(k:Int)->k<l.length->(k:Int)∈d)/\ ∀n,jj (n+2) l M out x=some (l,z,d):=by
 have hlen:=Cg h;obtain⟨p,g,q,r⟩:=h;by_cases c: ∃k:Nat,x=(k:Int)/\k<l.length
 .obtain⟨k,rfl,hk⟩:=c
  have f:In (k:Int) 0 (wrap .i64 ((l.length:Int)-1)):=by rw [Ch u (by omega)];unfold In;omega
  have hd:decide ((0:Int)<=(k:Int)/\(k:Int)<(M.length:Int))=true:=hJ (by omega)
  cases m:M.getD k false
  .have t:(k:Int)∉out:=fun hm=>by
    have:=(g k hk).2 hm;rw [m]at this;cases this
   refine⟨M.set k true,out++[(k:Int)],⟨by simp [p],fun i hi=> ?_, ?_,fun y hy=> ?_⟩,⟨[(k:Int)],rfl⟩,fun j hj _=>by rw [<-hj];simp,fun n=> ?_⟩
   .rw [ta M k i (by omega),È,Ã,æ,g i hi,decide_eq_true_eq]
    constructor
    .rintro(h|h)
     .exact .inr (by omega)
     .exact .inl h
    .rintro(h|h)
     .exact .inr h
     .exact .inl (by omega)
   .rw [List.nodup_append]
    exact⟨q,by simp,fun a ha b hb=>by rw [Ã.1 hb];rintro rfl;exact t ha⟩
   .rcases È.1 hy with hy|hy
    .exact r y hy
    .exact⟨k,Ã.1 hy,hk,hx k rfl hk⟩
   .rw [Ji,Ki,aB f,Z,Y,hd,Y,Â,Cf (by omega),m]
    simp only [Z,ç,Y];rw [cA (by omega)];rfl
  .refine⟨M,out,⟨p,g,q,r⟩,⟨[],by simp⟩,fun j hj ca=>(g j ca).1 (by rw [show j=k by omega];exact m),fun n=> ?_⟩
   rw [Ji,Ki,aB f,Z,Y,hd,Y,Â,Cf (by omega),m];rfl
 .have f: ¬In x 0 (wrap .i64 ((l.length:Int)-1)):=fun k=>by
   have k1:=k.1;have k2:=k.2;by_cases h0:0<l.length
   .rw [Ch u h0]at k2
    exact c ⟨x.toNat,by omega,by omega⟩
   .have e0:l.length=0:=by omega
    rw [e0,Á]at k2;omega
  refine⟨M,out,⟨p,g,q,r⟩,⟨[],by simp⟩,fun j hj ca=>absurd ⟨j,hj,ca⟩ c,fun n=> ?_⟩
  rw [Ji,Ki,az f];rfl
theorem Vf {l:List Pl} {R:Nat->Prop} {b e:Bool} {at0:List Int} (z:l.length<=400) (ha:at0.length<=1048576) (hR: ∀k:Nat,(k:Int)∈at0->k<l.length->R k): ∀(r:List Int) (i:Nat) (M:List Bool) (out:List Int),at0.drop i=r->IV l R M out->(∀j:Nat,(j:Int)∈at0.take i->j<l.length->(j:Int)∈out)->
  ∃g d,IV l R g d/\(∀j:Nat,(j:Int)∈at0->j<l.length->(j:Int)∈d)/\ ∀n m,2<=n->r.length<m->AY n m l M out (i:Int) at0 b e (at0.length:Int)=some (.inl (l,g,d,b,e))
 | [],i,M,out,hd,p,h=>by
  have h1:at0.length<=i:=Û.1 hd;rw [í h1]at h;refine⟨M,out,p,h,fun n m _ hm=> ?_⟩
  obtain⟨m,rfl⟩: ∃q,m=q+1:=⟨m-1,by simp at hm;omega⟩
  rw [RQ,hL (by omega),ez]
 |x::r,i,M,out,hd,p,h=>by
  have hi:i<at0.length:=by
   by_cases c:i<at0.length
   .exact c
   .rw [Ó (by omega)]at hd;cases hd
  rw [Ñ hi]at hd;obtain⟨t,hr⟩:=è hd;obtain⟨M1,f,c1,⟨s,c2⟩,c3,c4⟩:=Ci z p x (fun k hk u=>hR k (by rw [<-hk,<-t];exact Æ hi) u)
  obtain⟨g,d,d1,d2,d3⟩:=Vf (b:=b) (e:=e) z ha hR r (i+1) M1 f hr c1 (fun j hj ca=>by
   rw [xS hi,È]at hj;rcases hj with hj|hj
   .rw [c2];exact Ï _ (h j hj ca)
   .exact c3 j (by rw [Ã.1 hj,t]) ca)
  refine⟨g,d,d1,d2,fun n m hn hm=> ?_⟩
  obtain⟨m,rfl⟩: ∃q,m=q+1:=⟨m-1,by simp at hm;omega⟩
  obtain⟨n,rfl⟩: ∃q,n=q+2:=⟨n-2,by omega⟩
  rw [RQ,bu hi,Y,bg hi,Z,t,c4 n,Z,dy hi (by omega)]
  exact d3 (n+2) m hn (by simpa using hm)
theorem aDg {l:List Pl} {R:Nat->Prop} {b e:Bool} (hl:l.length<=400) (hR: ∀k,(h:k<l.length)->R k-> ∀j:Nat,(j:Int)∈ei l[k] k b e->j<l.length->R j) {M:List Bool} {out:List Int} (h:IV l R M out) {i q:Nat} (hi:i<out.length) (hq:out[i]=(q:Int)) (ad:q<l.length):
  ∃p d,IV l R p d/\(∃s,d=out++s)/\(∀j:Nat,(j:Int)∈ei l[q] q b e->j<l.length->(j:Int)∈d)/\ ∀n m,2<=n->eo n (m+1) l M out (i:Int) b e=eo n m l p d ((i+1:Nat):Int) b e:=by
 have hlen:=Cg h;have ai:R q:=by
  obtain⟨k,e1,e2,e3⟩:=h.2.2.2 out[i] (Æ hi);have:k=q:=by omega
  rw [<-this];exact e3
 have hn:=hR q ad ai;have head: ∀n m,eo n (m+1) l M out (i:Int) b e=cond (l[q].1==(6:Int)) ((jj n l M out l[q].2.2.2.2.1).bind fun f=>eo n m f.1 f.2.1 f.2.2 ((i+1:Nat):Int) b e) (cond (l[q].1==(7:Int)) ((jj n l M out l[q].2.2.2.2.1).bind fun f=>(jj n f.1 f.2.1 f.2.2 l[q].2.2.2.2.2).bind fun y3=>eo n m y3.1 y3.2.1 y3.2.2 ((i+1:Nat):Int) b e) (cond (l[q].1==(4:Int)) (cond b ((jj n l M out ((q+1:Nat):Int)).bind fun f=>eo n m f.1 f.2.1 f.2.2 ((i+1:Nat):Int) b e) (eo n m l M out ((i+1:Nat):Int) b e)) (cond (l[q].1==(5:Int)) (cond e ((jj n l M out ((q+1:Nat):Int)).bind fun f=>eo n m f.1 f.2.1 f.2.2 ((i+1:Nat):Int) b e) (eo n m l M out ((i+1:Nat):Int) b e)) (eo n m l M out ((i+1:Nat):Int) b e)))):=fun n m=>by
  rw [RR,bu hi,Y,hJ (show (0:Int)<=(i:Int)/\(i:Int)<(out.length:Int) by omega),Y,ff hi,Z,hq,bg ad,Z,dy ad (by omega),dy hi (by omega)]
 have none:ei l[q] q b e=[]->(∀n m,2<=n->eo n (m+1) l M out (i:Int) b e=eo n m l M out ((i+1:Nat):Int) b e)-> ∃p d,IV l R p d/\(∃s,d=out++s)/\(∀j:Nat,(j:Int)∈ei l[q] q b e->j<l.length->(j:Int)∈d)/\ ∀n m,2<=n->eo n (m+1) l M out (i:Int) b e=eo n m l p d ((i+1:Nat):Int) b e:=
  fun r k=>⟨M,out,h,⟨[],by simp⟩,fun j hj=>(by rw [r]at hj;cases hj),k⟩
 have one: ∀x:Int,ei l[q] q b e=[x]->(∀n m,2<=n->eo n (m+1) l M out (i:Int) b e=(jj n l M out x).bind fun f=>eo n m f.1 f.2.1 f.2.2 ((i+1:Nat):Int) b e)-> ∃p d,IV l R p d/\(∃s,d=out++s)/\(∀j:Nat,(j:Int)∈ei l[q] q b e->j<l.length->(j:Int)∈d)/\ ∀n m,2<=n->eo n (m+1) l M out (i:Int) b e=eo n m l p d ((i+1:Nat):Int) b e:=fun x r k=>by
  obtain⟨M1,t,c1,c2,c3,c4⟩:=Ci hl h x (fun j hj ca=>hn j (by rw [r,hj];simp) ca)
  refine⟨M1,t,c1,c2,fun j hj ca=>c3 j (by rw [r]at hj;exact(Ã.1 hj).symm) ca,fun n m hn=> ?_⟩
  obtain⟨n,rfl⟩: ∃q,n=q+2:=⟨n-2,by omega⟩
  rw [k (n+2) m hn,c4 n];rfl
 by_cases g:l[q].1=6
 .refine one l[q].2.2.2.2.1 (by rw [ei,if_pos g]) fun n m _=> ?_
  rw [head,g];rfl
 have z6:(l[q].1==(6:Int))=false:=by simpa using g
 by_cases u:l[q].1=7
 .have r:ei l[q] q b e=[l[q].2.2.2.2.1,l[q].2.2.2.2.2]:=by rw [ei,if_neg g,if_pos u]
  obtain⟨M1,t,c1,⟨s1,c2⟩,c3,c4⟩:=Ci hl h l[q].2.2.2.2.1 (fun j hj ca=>hn j (by rw [r,hj];simp) ca)
  obtain⟨M2,ag,d1,⟨s2,d2⟩,d3,d4⟩:=Ci hl c1 l[q].2.2.2.2.2 (fun j hj ca=>hn j (by rw [r,hj];simp) ca)
  refine⟨M2,ag,d1,⟨s1++s2,by rw [d2,c2,Ë]⟩,fun j hj ca=> ?_,fun n m hn=> ?_⟩
  .rw [r]at hj
   rcases Ú.1 hj with hj|hj
   .rw [d2];exact Ï _ (c3 j hj.symm ca)
   .exact d3 j (Ã.1 hj).symm ca
  .obtain⟨n,rfl⟩: ∃q,n=q+2:=⟨n-2,by omega⟩
   rw [head,u,c4 n];simp only [Z];rw [d4 n];rfl
 have z7:(l[q].1==(7:Int))=false:=by simpa using u
 by_cases z:l[q].1=4
 .cases b
  .refine none (by rw [ei,if_neg g,if_neg u,if_pos z];rfl) fun n m _=> ?_
   rw [head,z];rfl
  .refine one _ (by rw [ei,if_neg g,if_neg u,if_pos z];rfl) fun n m _=> ?_
   rw [head,z];rfl
 have z4:(l[q].1==(4:Int))=false:=by simpa using z
 by_cases o5:l[q].1=5
 .cases e
  .refine none (by rw [ei,if_neg g,if_neg u,if_neg z,if_pos o5];rfl) fun n m _=> ?_
   rw [head,o5];rfl
  .refine one _ (by rw [ei,if_neg g,if_neg u,if_neg z,if_pos o5];rfl) fun n m _=> ?_
   rw [head,o5];rfl
 have z5:(l[q].1==(5:Int))=false:=by simpa using o5
 refine none (by rw [ei,if_neg g,if_neg u,if_neg z,if_neg o5]) fun n m _=> ?_
 rw [head,z6,z7,z4,z5];rfl
def Cj (l:List Pl) (b e:Bool) (out:List Int) (k:Nat):Prop:= ∀i,i<k->(h:i<out.length)-> ∀q:Nat,out[i]=(q:Int)->(d:q<l.length)-> ∀j:Nat,(j:Int)∈ei l[q] q b e->j<l.length->(j:Int)∈out
theorem aDh {l:List Pl} {R:Nat->Prop} {b e:Bool} (hl:l.length<=400) (hR: ∀k,(h:k<l.length)->R k-> ∀j:Nat,(j:Int)∈ei l[k] k b e->j<l.length->R j): ∀(f k:Nat) (M:List Bool) (out:List Int),IV l R M out->Cj l b e out k->l.length-k<=f->
  ∃t d,IV l R t d/\(∃s,d=out++s)/\Cj l b e d d.length/\ ∀n m,2<=n->f<m->eo n m l M out (k:Int) b e=some (.inl d):=by
 intro f;have stop: ∀(f k:Nat) (M:List Bool) (out:List Int),IV l R M out->Cj l b e out k->out.length<=k-> ∃t d,IV l R t d/\(∃s,d=out++s)/\Cj l b e d d.length/\ ∀n m,2<=n->f<m->eo n m l M out (k:Int) b e=some (.inl d):=fun f k M out h hd hk=>by
  refine⟨M,out,h,⟨[],by simp⟩,fun i hi=>hd i (by omega),fun n m _ hm=> ?_⟩
  obtain⟨m,rfl⟩: ∃q,m=q+1:=⟨m-1,by omega⟩
  rw [RR,hL (by omega),ez]
 induction f with
 |zero=>
  intro k M out h hd hf;exact stop 0 k M out h hd (by have:=Cg h;omega)
 |succ f ih=>
  intro k M out h hd hf;by_cases hk:k<out.length
  .obtain⟨q,hq,ae, -⟩:=h.2.2.2 out[k] (Æ hk)
   obtain⟨M1,g,c1,⟨s,c2⟩,c3,c4⟩:=aDg (b:=b) (e:=e) hl hR h hk hq ae;have av:out.length<=g.length:=by rw [c2];simp
   have p: ∀i,(h1:i<out.length)->g[i]'(by omega)=out[i]:=fun i h1=>by subst c2;exact List.getElem_append_left h1
   obtain⟨t,d,d1,⟨s',d2⟩,d3,d4⟩:=ih (k+1) M1 g c1 (fun i hi h1 q' r u j hj ca=>by
    by_cases ag:i=k
    .subst ag
     rw [p i hk]at r;have:q'=q:=by omega
     subst this;exact c3 j hj ca
    .have z:i<out.length:=by omega
     rw [p i z]at r;rw [c2];exact Ï _ (hd i (by omega) z q' r u j hj ca)) (by omega)
   refine⟨t,d,d1,⟨s++s',by rw [d2,c2,Ë]⟩,d3,fun n m hn hm=> ?_⟩
   obtain⟨m,rfl⟩: ∃q,m=q+1:=⟨m-1,by omega⟩
   rw [c4 n m hn];exact d4 n m hn (by omega)
  .exact stop (f+1) k M out h hd (by omega)
theorem aDi (n:Nat) (x:ah):Pk (n+1) x=cond (ô (ÿ (α:=Int) x) aD) (some (jC x)) none:=by kernel_rfl
theorem aDj (l:List Pl) (at0:List Int) (b e:Bool) (z:l.length<=400) (ha:at0.length<=1048576):W fun n=>AX n l at0 b e=some (fN l at0 b e):=by
 have h0:IV l (kM l at0 b e) (É l.length false) []:=by
  have hg: ∀i,(É l.length false).getD i false=false:=fun i=>by
   rw [Å,ê];split<;>rfl
  refine⟨ñ,fun i hi=> ?_,List.nodup_nil,fun x h=>by cases h⟩
  rw [hg];simp
 obtain⟨M1,g,c1,c2,c3⟩:=Vf (b:=b) (e:=e) z ha (fun k hk r=>.base hk r) at0 0 (É l.length false) [] (by rw [Í]) h0 (fun j hj=>by simp at hj)
 obtain⟨M2,d,d1,⟨s,d2⟩,d3,d4⟩:=aDh (b:=b) (e:=e) z (fun k h hk j hj ca=>.step hk h hj ca) l.length 0 M1 g c1 (fun i hi=>absurd hi (ú _)) (by omega)
 have f:jC d=fN l at0 b e:=by
  refine YY d1.2.2.1 fun x=> ?_
  rw [NV];have hm:=fun(i:Nat) (hi:i<l.length)=>NW (l:=l) (at0:=at0) (b:=b) (e:=e) (M:=fun i=>(i:Int)∈d) (fun i hi hm=>by
   obtain⟨k,e1,p,m⟩:=d1.2.2.2 _ hm;have:i=k:=by omega
   rw [this];exact m) (fun i hi t=>by rw [d2];exact Ï _ (c2 i hi t)) (fun k h hk j hj ca=>by
    obtain⟨i,hi,u⟩:=ä.1 hk;exact d3 i hi hi k u h j hj ca) hi
  constructor
  .intro hx
   obtain⟨k,rfl,p,m⟩:=d1.2.2.2 x hx;exact⟨k,rfl,p,m⟩
  .rintro⟨i,rfl,p,m⟩
   exact(hm i p).2 m
 have ak:=Cg d1;refine(W.ge (at0.length+l.length+10)).nm fun n hn=> ?_
 obtain⟨n,rfl⟩: ∃q,n=q+2:=⟨n-2,by omega⟩
 rw [awQ,Â,hJ (show (0:Int)<=(l.length:Int)/\(l.length:Int)<=(l.length:Int)/\(l.length:Int)<=(aD:Int) by unfold aD;omega),Y,show(0:Int)=((0:Nat):Int)from rfl,c3 (n+2) (n+2) (by omega) (by omega),Z,cP]
 dsimp only
 rw [d4 (n+2) (n+2) (by omega) (by omega),Z,cP,aDi,Ô (by unfold aD;omega),Y,Z]
 have hlen:(jC d).length=d.length:=List.length_mergeSort _;rw [hlen,ý,Y,f]
def pc (p:Pl) (c:UInt8):Bool:=cond (p.1==1) ((c.toNat:Int)==p.2.1) (cond (p.1==2) true (cond (p.1==3) (!(decide (c∈p.2.2.1)==p.2.2.2.1)) false))
theorem aDk (a c:UInt8):((a.toNat:Int)==(c.toNat:Int))=decide (a=c):=by
 by_cases h:a=c
 .subst h;simp
 .rw [hL h]
  have: ¬(a.toNat:Int)=(c.toNat:Int):=fun e=>h (UInt8.toNat_inj.1 (by omega))
  simpa using this
theorem Vg (c:UInt8) (s:O) (d:s.length<=1048576) (n:Nat): ∀k m (i:Nat),s.length-i=k->k<m->i<=s.length->zO n m (i:Int) c s=some (cond (decide (c∈s.drop i)) (.inr true) (.inl ()))
 |k,0,i,e,hm,hi=>by omega
 |k,m+1,i,e,hm,hi=>by
  rw [arQ,dS];by_cases h:i<s.length
  .rw [bu h,Y,df h,Z,aDk,dy h (by omega),Ñ h]
   by_cases b:s[i]=c
   .rw [hJ b,Y,hJ (show c∈s[i]::s.drop (i+1) by rw [b];simp)];rfl
   .rw [hL b,ez,Vg c s d n _ m (i+1) rfl (by omega) (by omega)]
    congr 2
    have:(c∈s[i]::s.drop (i+1))↔c∈s.drop (i+1):=by
     rw [Ú];exact⟨fun k=>k.resolve_left (fun k=>b k.symm),.inr⟩
    simp only [this]
  .rw [hL (by omega),ez,Ó (by omega)];rfl
theorem aDl (s:O) (b:s.length<=256) (n:Nat) (d:300<=n) (c:UInt8):GI n s c=some (decide (c∈s)):=by
 obtain⟨n,rfl⟩: ∃q,n=q+1:=⟨n-1,by omega⟩
 rw [arP,dS,show(0:Int)=((0:Nat):Int)from rfl,Vg c s (by omega) n _ n 0 rfl (by omega) (by omega),Í]
 by_cases h:c∈s
 .rw [hJ h];rfl
 .rw [hL h];rfl
theorem Vh (c:UInt8):wrap .i64 (c.toNat:Int)=(c.toNat:Int):=by have:=c.toNat_lt;rw [Á];omega
theorem aDm (p:Pl) (hp:p.2.2.1.length<=256) (n:Nat) (b:301<=n) (c:UInt8):GH n p.1 p.2.1 p.2.2.1 p.2.2.2.1 p.2.2.2.2.1 p.2.2.2.2.2 c=some (pc p c):=by
 obtain⟨n,rfl⟩: ∃q,n=q+1:=⟨n-1,by omega⟩
 rw [arO,dS,aDl _ hp n (by omega),Vh,pc]
 cases p.1==(1:Int)
 .cases p.1==(2:Int)
  .cases p.1==(3:Int)<;>rfl
  .rfl
 .rfl
theorem aDn (n:Nat) (s:O) (c:UInt8):ss (n+1) s c=some (Lib.indexByte s c):=by kernel_rfl
theorem aDo (p:Pl) (n:Nat) (b:301<=n) (c:UInt8):HZ n p.1 p.2.1 p.2.2.1 p.2.2.2.1 p.2.2.2.2.1 p.2.2.2.2.2 c=some (pc p c):=by
 obtain⟨n,rfl⟩: ∃q,n=q+2:=⟨n-2,by omega⟩
 have e:decide ((0:Int)<=Lib.indexByte p.2.2.1 c)=decide (c∈p.2.2.1):=by
  by_cases h:c∈p.2.2.1
  .rw [hJ h,hJ ((sQ _ _).2.2 h)]
  .rw [hL h,hL (fun k=>h ((sQ _ _).2.1 k))]
 rw [awT,dS,aDn,Vh,pc];simp only [Z,e];cases p.1==(1:Int)
 .cases p.1==(2:Int)
  .cases p.1==(3:Int)<;>rfl
  .rfl
 .simp only [Y]
  rw [Bool.beq_comm]
def pd (l:List Pl) (x:Int):Pl:=l.getD x.toNat (0,0,[],false,0,0)
def iS (l:List Pl) (c:UInt8):List Int->List Int
 | []=>[]
 |x::r=>cond (pc (pd l x) c) ((x+1)::iS l c r) (iS l c r)
theorem Kk (l:List Pl) (c:UInt8): ∀r,(iS l c r).length<=r.length
 | []=>by simp [iS]
 |x::r=>by
  have:=Kk l c r;rw [iS];cases pc (pd l x) c
  .rw [ez,Ò];omega
  .rw [Y,Ò,Ò];omega
def tb (l:List Pl) (now:List Int):Prop:=(∀x∈now,∃q:Nat,x=(q:Int)/\q<l.length)/\now.Pairwise (fun x y=>x<y)/\now.length<=l.length
theorem Kl (l:List Pl) (at0:List Int) (b e:Bool):tb l (fN l at0 b e):=⟨fun x d=>by
 obtain⟨i,f,g, -⟩:=NV.1 d;exact⟨i,f,g⟩,Ek _ _ _ _,YX _ _ _ _⟩
theorem Vi {l:List Pl} {q:Nat} (h:q<l.length):au l (q:Int)=some (pd l (q:Int)):=by
 rw [bg h,pd,Â,Å,Ç h];rfl
theorem aDp {l:List Pl} {q:Nat} (h:q<l.length):pd l (q:Int)∈l:=by
 rw [pd,Â,Å,Ç h];exact Æ h
theorem Km {l:List Pl} (k:l.length<=400) (d: ∀p∈l,p.2.2.1.length<=256) {s:O} {i:Nat} (hi:i<s.length) {now:List Int} (g:tb l now) (b:Int) (n:Nat) (h:301<=n): ∀(r:List Int) (j m:Nat) (out:List Int),now.drop j=r->r.length<m->out.length+r.length<=1000000->
  qy n m (j:Int) now out (i:Int) s l b=some (.inl (s,l,b,(i:Int),out++iS l s[i] r))
 | [],j,m,out,hd,hm,t=>by
  obtain⟨m,rfl⟩: ∃q,m=q+1:=⟨m-1,by simp at hm;omega⟩
  have h1:now.length<=j:=Û.1 hd;rw [QP,hL (by omega),ez,iS,Ð]
 |x::r,j,m,out,hd,hm,t=>by
  obtain⟨m,rfl⟩: ∃q,m=q+1:=⟨m-1,by simp at hm;omega⟩
  have hj:j<now.length:=by
   by_cases c:j<now.length
   .exact c
   .rw [Ó (by omega)]at hd;cases hd
  have ae:=g.2.2;rw [Ñ hj]at hd;obtain⟨u,z⟩:=è hd;obtain⟨q,hq,f⟩:=g.1 now[j] (Æ hj);rw [u]at hq;simp only [Ò]at t hm;have hw:wrap .i64 ((q:Int)+1)=(q:Int)+1:=by rw [Á];omega
  rw [QP,bu hj,Y,hJ (show (0:Int)<=(j:Int)/\(j:Int)<(now.length:Int) by omega),Y,ff hj,Z,u,hq,Vi f,Z,df hi,Z,dS,aDm _ (d _ (aDp f)) n h,Z,dy hj (by omega)]
  rw [iS];cases ht:pc (pd l (q:Int)) s[i]
  .rw [ez,ez]
   exact Km k d hi g b n h r (j+1) m out z (by omega) (by omega)
  .rw [Y,Y,Y,Z,cA (by omega),Y,hw,Km k d hi g b n h r (j+1) m (out++[(q:Int)+1]) z (by omega) (by simp;omega),Ë];rfl
theorem Kn {l:List Pl} (p:l.length<=400) {s:O} {i:Nat} (hi:i<s.length) {now:List Int} (b:tb l now) (d:Bool) (f g:Int) (n:Nat) (h:301<=n): ∀(r:List Int) (j m:Nat) (out:List Int),now.drop j=r->r.length<m->out.length+r.length<=1000000->
  qE n m (j:Int) out (i:Int) s l now d f g (now.length:Int)=some (.inl (s,l,d,f,now,g,(i:Int),out++iS l s[i] r))
 | [],j,m,out,hd,hm,t=>by
  obtain⟨m,rfl⟩: ∃q,m=q+1:=⟨m-1,by simp at hm;omega⟩
  have h1:now.length<=j:=Û.1 hd;rw [RP,hL (by omega),ez,iS,Ð]
 |x::r,j,m,out,hd,hm,t=>by
  obtain⟨m,rfl⟩: ∃q,m=q+1:=⟨m-1,by simp at hm;omega⟩
  have hj:j<now.length:=by
   by_cases c:j<now.length
   .exact c
   .rw [Ó (by omega)]at hd;cases hd
  have ae:=b.2.2;rw [Ñ hj]at hd;obtain⟨u,z⟩:=è hd;obtain⟨q,hq,k⟩:=b.1 now[j] (Æ hj);rw [u]at hq;simp only [Ò]at t hm;have hw:wrap .i64 ((q:Int)+1)=(q:Int)+1:=by rw [Á];omega
  rw [RP,bu hj,Y,hJ (show (0:Int)<=(j:Int)/\(j:Int)<(now.length:Int) by omega),Y,ff hj,Z,u,hq,Vi k,Z,df hi,Z,dS,aDo _ n h,Z,dy hj (by omega)]
  rw [iS];cases ht:pc (pd l (q:Int)) s[i]
  .rw [ez,ez]
   exact Kn p hi b d f g n h r (j+1) m out z (by omega) (by omega)
  .rw [Y,Y,cA (by omega),Y,hw,Kn p hi b d f g n h r (j+1) m (out++[(q:Int)+1]) z (by omega) (by simp;omega),Ë];rfl
theorem aDq {l:List Pl} {t:List Int} {x:Int} (h:tb l (t++[x])):(x==((l.length:Int)-1))=decide (((l.length:Int)-1)∈t++[x]):=by
 obtain⟨b,d,g⟩:=h;obtain⟨q,i,f⟩:=b x (by simp)
 by_cases e:x=(l.length:Int)-1
 .rw [hJ (by rw [<-e];simp)];simpa using e
 .rw [hL (fun k=> ?_)]
  .simpa using e
  .rcases È.1 k with k|k
   .have:=(ó.1 d).2.2 _ k x (by simp)
    omega
   .exact e (Ã.1 k).symm
noncomputable def nC (l:List Pl) (s:O):Nat->Nat->List Int->Int->Int
 |0,i,now,b=>if((l.length:Int)-1)∈now then(i:Int)else b
 |k+1,i,now,b=>if now=[]then b else nC l s k (i+1) (fN l (iS l (s.getD i 0) now) false (decide (i+1=s.length))) (if ((l.length:Int)-1)∈now then(i:Int)else b)
theorem Vj {s:O} {i:Nat} (h:i<s.length):s.getD i 0=s[i]:=by rw [Å,Ç h];rfl
theorem qQ (a b:Nat):((a:Int)==(b:Int))=decide (a=b):=by
 by_cases h:a=b
 .subst h;simp
 .rw [hL h];exact beq_eq_false_iff_ne.2 (by omega)
theorem Vk {l:List Pl} (f:l.length<=400) (r:0<l.length) (d: ∀p∈l,p.2.2.1.length<=256) {s:O} (u:s.length<=1000000): ∀(k i:Nat) (now:List Int) (b:Int),i+k=s.length->tb l now->
  W fun n=> ∀m,k<m->qx n m now (i:Int) s l b=some (.inl (nC l s k i now b))
 |k,i,now,b,hk,g=>by
  rcases ï now with rfl|⟨t,x,rfl⟩
  .refine W.of fun n m hm=> ?_
   obtain⟨m,rfl⟩: ∃q,m=q+1:=⟨m-1,by omega⟩
   rw [QO];cases k<;>rfl
  rw [ð]at*;have h:=g.2.2;have hlen:((t++[x]).length:Int)=((t.length+1:Nat):Int):=by simp
  have hw:wrap .i64 (((t++[x]).length:Int)-1)=(t.length:Int):=by
   simp only [Ä,Õ]at h;rw [hlen,Á];omega
  have j:aM (t++[x]) (Ì (t.length:Int))=some x:=by rw [Â];exact jN t x []
  have head: ∀n m,qx n (m+1) (t++[x]) (i:Int) s l b=cond (decide (i=s.length)) (some (.inl (if ((l.length:Int)-1)∈t++[x]then(i:Int)else b))) ((qy n n 0 (t++[x]) ([]:ah) (i:Int) s l (if ((l.length:Int)-1)∈t++[x]then(i:Int)else b)).bind fun z=>ay z (fun z2=>(sg n z2.2.1 z2.2.2.2.2 false ((wrap .i64 (z2.2.2.2.1+(1:Int)))==(z2.1.length:Int))).bind fun y2=>qx n m y2 (wrap .i64 (z2.2.2.2.1+(1:Int))) z2.1 z2.2.1 z2.2.2.1) (fun w2=>some (.inr w2))):=fun n m=>by
   rw [QO,hw,j,hlen,hJ (by omega),Y,hJ (by omega),Y,Z,Ch f r,show((l.length-1:Nat):Int)=(l.length:Int)-1 by omega,aDq g,qQ]
   by_cases c:((l.length:Int)-1)∈t++[x]
   .rw [hJ c,if_pos c,Y]
   .rw [hL c,if_neg c,ez]
  match k,hk with
  |0,hk=>
   refine W.of fun n m hm=> ?_
   obtain⟨m,rfl⟩: ∃q,m=q+1:=⟨m-1,by omega⟩
   rw [head,hJ (by omega),Y,nC]
  |k+1,hk=>
   have hi:i<s.length:=by omega
   have af:=Kk l s[i] (t++[x]);have ih:=Vk f r d u k (i+1) (fN l (iS l s[i] (t++[x])) false (decide (i+1=s.length))) (if ((l.length:Int)-1)∈t++[x]then(i:Int)else b) (by omega) (Kl _ _ _ _)
   refine((ih.and (Ve l (iS l s[i] (t++[x])) false (decide (i+1=s.length)) f (by omega))).and (W.ge 1000)).mono fun n ⟨⟨e1,e2⟩,e3⟩ m hm=> ?_
   obtain⟨m,rfl⟩: ∃q,m=q+1:=⟨m-1,by omega⟩
   rw [head,hL (by omega),ez,show(0:Int)=((0:Nat):Int)from rfl,Km f d hi g _ n (by omega) (t++[x]) 0 n [] (by rw [Í]) (by omega) (by simp only [å];omega),Z,cP]
   dsimp only
   rw [dy hi (by omega),qQ,à,e2,Z,e1 m (by omega),nC,if_neg (show ¬(t++[x])=[] by simp),Vj hi]
theorem aDr (now:List Int) (v:Int) (d:now.length<=1048576):W fun n=>AZ n now v=some (decide (v∈now)):=by
 have h:=kd d (p:=fun x=>v=x) (r:=fun i=>i) (b:=()) (L:=fun n m i=>Ba n m i now v (now.length:Int)) (W.of fun n m i hi=>by
  rw [RS,bu hi,Y,bg hi,Z,bp]) (fun n m=>by rw [RS,ck];rfl)
 refine W.succ (h.nm fun n h=> ?_)
 rw [awR,awS];rcases h with⟨⟨x,f,rfl⟩,i,e⟩|⟨h,e⟩
 .rw [e,hJ f];simp [ay]
 .rw [e,hL (fun k=>h v k rfl)];rfl
noncomputable section
theorem Vl {l:List Pl} (j:l.length<=400) (r:0<l.length) {s:O} (u:s.length<=1000000): ∀(k i:Nat) (pre:List Int) (b:Int),i+k=s.length->pre.length<=1000000->
  W fun n=> ∀m,k<m->qD n m (i:Int) s l b pre=some (.inr (nC l s k i (fN l pre (decide (i=0)) (decide (i=s.length))) b))
 |k,i,pre,b,hk,hp=>by
  have z:((i:Int)==(0:Int))=decide (i=0):=qQ i 0;obtain⟨now,d⟩: ∃now,now=fN l pre (decide (i=0)) (decide (i=s.length)):=⟨_,rfl⟩
  have t:tb l now:=d▸Kl _ _ _ _;have ad:=t.2.2;have base:=(aDj l pre (decide (i=0)) (decide (i=s.length)) j (by omega)).and (aDr now ((l.length:Int)-1) (by omega))
  rw [<-d]at base |-;have head: ∀n m,AX n l pre (decide (i=0)) (decide (i=s.length))=some now->AZ n now ((l.length:Int)-1)=some (decide (((l.length:Int)-1)∈now))->qD n (m+1) (i:Int) s l b pre=cond (decide (i=s.length)) (some (.inr (if ((l.length:Int)-1)∈now then(i:Int)else b))) (cond (decide (now.length=0)) (some (.inr (if ((l.length:Int)-1)∈now then(i:Int)else b))) ((qE n n 0 ([]:ah) (i:Int) s l now (decide (now.length=0)) (now.length:Int) (if ((l.length:Int)-1)∈now then(i:Int)else b) (now.length:Int)).bind fun y2=>ay y2 (fun z3=>qD n m (þ .i64 (z3.2.2.2.2.2.2.1+(1:Int))) z3.1 z3.2.1 z3.2.2.2.2.2.1 z3.2.2.2.2.2.2.2) (fun w3=>some (.inr w3)))):=fun n m f g=>by
   rw [awP,z,qQ,f,Z,Ch j r,show((l.length-1:Nat):Int)=(l.length:Int)-1 by omega,g,Z,show((now.length:Int)==(0:Int))=decide (now.length=0)from qQ now.length 0]
   by_cases c:((l.length:Int)-1)∈now
   .rw [hJ c,if_pos c,Y]
   .rw [hL c,if_neg c,ez]
  match k,hk with
  |0,hk=>
   refine base.mono fun n ⟨f,g⟩ m hm=> ?_
   obtain⟨m,rfl⟩: ∃q,m=q+1:=⟨m-1,by omega⟩
   rw [head n m f g,hJ (show i=s.length by omega),Y,nC]
  |k+1,hk=>
   have hi:i<s.length:=by omega
   by_cases he:now=[]
   .refine base.mono fun n ⟨f,g⟩ m hm=> ?_
    obtain⟨m,rfl⟩: ∃q,m=q+1:=⟨m-1,by omega⟩
    rw [head n m f g,hL (show ¬i=s.length by omega),ez,nC,if_pos he,hJ (show now.length=0 by rw [he];rfl),Y,if_neg (by rw [he];simp)]
   have p: ¬now.length=0:=fun h=>he (Î h)
   have ag:=Kk l s[i] now;have ih:=Vl j r u k (i+1) (iS l s[i] now) (if ((l.length:Int)-1)∈now then(i:Int)else b) (by omega) (by omega)
   refine((base.and ih).and (W.ge 1000)).mono fun n ⟨⟨⟨f,g⟩,e3⟩,e4⟩ m hm=> ?_
   obtain⟨m,rfl⟩: ∃q,m=q+1:=⟨m-1,by omega⟩
   rw [head n m f g,hL (show ¬i=s.length by omega),ez,hL p,ez,show(0:Int)=((0:Nat):Int)from rfl,Kn j hi t _ _ _ n (by omega) now 0 n [] (by rw [Í]) (by omega) (by simp only [å];omega),Z,cP]
   dsimp only
   rw [dy hi (by omega),à,e3 m (by omega),nC,if_neg he,Vj hi,hL (show ¬i+1=0 by omega)]
def Ko (l:List Pl) (s:O) (i:Nat):Int:=nC l s (s.length-i) i (fN l [0] (decide (i=0)) (decide (i=s.length))) (-1)
def eL (l:List Pl) (s:O) (i:Nat):Int:=cond (bo (nB l)) (Ko l s i) (-1)
theorem Vm {l:List Pl} (h:nB l):l.length<=400/\0<l.length:=by
 have b:=h.1.1;have d:=h.1.2;omega
theorem aDs (l:List Pl) (s:O) (i:Nat) (g:l.length<=1048576) (b: ∀p∈l,p.2.2.1.length<=256) (j:s.length<=1000000) (hi:i<=s.length):W fun n=>zK n l s (i:Int)=some (eL l s i):=by
 by_cases hw:nB l
 .obtain⟨h,k⟩:=Vm hw
  refine((((Vc l g).and (cS (i:Int) 0 (s.length:Int))).and ((Ve l [0] (decide (i=0)) (decide (i=s.length)) h (by simp)).and (Vk h k b j (s.length-i) i (fN l [0] (decide (i=0)) (decide (i=s.length))) (-1) (by omega) (Kl _ _ _ _)))).and (W.ge (s.length+1))).nm fun n ⟨⟨⟨d,m⟩,q,r⟩,t⟩=> ?_
  have f:In (i:Int) 0 (s.length:Int):=⟨by omega,by omega⟩
  rw [QN,d,aB hw,Z,m,aB f,show((i:Int)==(0:Int))=decide (i=0)from qQ i 0,qQ];simp only [Ê,ez,Z];rw [q,Z,r n (by omega),Z,cP,eL,aB hw,Y,Ko]
 .refine(Vc l g).nm fun n d=> ?_
  rw [QN,d,az hw,eL,az hw,ez];rfl
theorem aDt (l:List Pl) (s:O) (i:Nat) (f:l.length<=1048576) (g:s.length<=1000000) (hi:i<=s.length):W fun n=>AW n l s (i:Int)=some (eL l s i):=by
 by_cases hw:nB l
 .obtain⟨h,j⟩:=Vm hw
  refine((((Kh l f).and (di (i:Int) 0 (s.length:Int))).and (Vl h j g (s.length-i) i [0] (-1) (by omega) (by simp))).and (W.ge (s.length+1))).nm fun n ⟨⟨⟨b,k⟩,m⟩,p⟩=> ?_
  have d:In (i:Int) 0 (s.length:Int):=⟨by omega,by omega⟩
  rw [RO,b,aB hw,Z,k,aB d];simp only [Ê,ez,Z];rw [m n (by omega),Z,uo,eL,aB hw,Y,Ko]
 .refine(Kh l f).nm fun n b=> ?_
  rw [RO,b,az hw,eL,az hw,ez];rfl
def ig (g:Nat->Int):Nat->Nat->Int×(Int×Bool)
 |0,i=>if 0<=g i then((i:Int),g i,true)else(0,0,false)
 |k+1,i=>if 0<=g i then((i:Int),g i,true)else ig g k (i+1)
theorem Vn {l:List Pl} {s:O} (f:l.length<=1048576) (d: ∀p∈l,p.2.2.1.length<=256) (g:s.length<=1000000): ∀k i,i+k=s.length->W fun n=> ∀m,k+1<m->(sf n m (i:Int) s l).bind (fun h=>ay h (fun _=>some ((0:Int),(0:Int),false)) (fun j=>some j))=some (ig (eL l s) k i)
 |k,i,hk=>by
  have b:=aDs l s i f d g (by omega)
  have head: ∀n m,zK n l s (i:Int)=some (eL l s i)->sf n (m+1) (i:Int) s l=cond (decide (0<=eL l s i)) (some (.inr ((i:Int),eL l s i,true))) (sf n m ((i+1:Nat):Int) s l):=fun n m e=>by
   rw [QM,hJ (show (i:Int)<=(s.length:Int) by omega),Y,e,Z,jL (by omega)]
  match k,hk with
  |0,hk=>
   refine b.mono fun n b m hm=> ?_
   obtain⟨m,rfl⟩: ∃q,m=q+2:=⟨m-2,by omega⟩
   rw [head n (m+1) b,ig];by_cases c:0<=eL l s i
   .rw [hJ c,if_pos c];rfl
   .rw [hL c,if_neg c,ez,QM,hL (by omega)];rfl
  |k+1,hk=>
   refine(b.and (Vn f d g k (i+1) (by omega))).mono fun n ⟨b,r⟩ m hm=> ?_
   obtain⟨m,rfl⟩: ∃q,m=q+1:=⟨m-1,by omega⟩
   rw [head n m b,ig];by_cases c:0<=eL l s i
   .rw [hJ c,if_pos c];rfl
   .rw [hL c,if_neg c,ez];exact r m (by omega)
theorem Vo {l:List Pl} {s:O} (d:l.length<=1048576) (f:s.length<=1000000): ∀k i,i+k=s.length->W fun n=> ∀m,k+1<m->(sD n m (i:Int) s l).bind (fun g=>ay g (fun _=>some ((0:Int),(0:Int),false)) (fun h=>some h))=some (ig (eL l s) k i)
 |k,i,hk=>by
  have b:=aDt l s i d f (by omega)
  have head: ∀n m,AW n l s (i:Int)=some (eL l s i)->sD n (m+1) (i:Int) s l=cond (decide (0<=eL l s i)) (some (.inr ((i:Int),eL l s i,true))) (sD n m ((i+1:Nat):Int) s l):=fun n m e=>by
   rw [RM,hJ (show (i:Int)<=(s.length:Int) by omega),Y,e,Z,jL (by omega)]
  match k,hk with
  |0,hk=>
   refine b.mono fun n b m hm=> ?_
   obtain⟨m,rfl⟩: ∃q,m=q+2:=⟨m-2,by omega⟩
   rw [head n (m+1) b,ig];by_cases c:0<=eL l s i
   .rw [hJ c,if_pos c];rfl
   .rw [hL c,if_neg c,ez,RM,hL (by omega)];rfl
  |k+1,hk=>
   refine(b.and (Vo d f k (i+1) (by omega))).mono fun n ⟨b,j⟩ m hm=> ?_
   obtain⟨m,rfl⟩: ∃q,m=q+1:=⟨m-1,by omega⟩
   rw [head n m b,ig];by_cases c:0<=eL l s i
   .rw [hJ c,if_pos c];rfl
   .rw [hL c,if_neg c,ez];exact j m (by omega)
theorem aDu (l:List Pl) (s:O) (d:l.length<=1048576) (b: ∀p∈l,p.2.2.1.length<=256) (f:s.length<=1000000):W fun n=>GD n l s=some (ig (eL l s) s.length 0):=by
 refine((Vn d b f s.length 0 (by omega)).and (W.ge (s.length+2))).nm fun n ⟨g,h⟩=> ?_
 rw [arH];exact g n (by omega)
theorem Vp {g:Nat->Int} (h: ∀i,g i= -1): ∀k i,ig g k i=(0,0,false)
 |0,i=>by rw [ig,h,if_neg (by omega)]
 |k+1,i=>by rw [ig,h,if_neg (by omega),Vp h k]
theorem aDv (l:List Pl) (s:O) (b:l.length<=1048576) (d:s.length<=1000000):W fun n=>HY n l s=some (ig (eL l s) s.length 0):=by
 refine(((Vo b d s.length 0 (by omega)).and (W.ge (s.length+2))).and (Kh l b)).nm fun n ⟨⟨f,h⟩,g⟩=> ?_
 rw [awM,g,Z];by_cases hw:nB l
 .rw [aB hw]
  exact f n (by omega)
 .rw [az hw,Vp (fun i=>by rw [eL,az hw,ez])];rfl
theorem aDw {s:O} (h:(gJ s).2.2.2.2.2=true): ∃t:Tr,fM t/\hC t/\eh t<=300/\dh t<=12/\gJ s=((aF t).1,(aF t).2.1,(aF t).2.2.1,(aF t).2.2.2.1,(aF t).2.2.2.2,true):=by
 by_cases b:s.length<=60
 .obtain⟨r,d⟩:=Jr s b
  rw [BF b d]at h |-;by_cases c:r.2.2=false/\r.2.1=[]/\dh (cQ r.1)<=12
  .rw [if_pos c]at h |-
   obtain⟨f,g⟩:=YV _ _ _ _ _ d b trivial trivial trivial c.1;have i:=(eJ _ _ _ _ _ d b trivial trivial).1;refine⟨cQ r.1,yh f,eX i, ?_,c.2.2,rfl⟩
   rw [uz];simp only [hY]at g;omega
  .rw [if_neg c]at h;cases h
 .rw [Js b]at h;cases h
theorem Kp (pat s:O) (h:(gJ pat).2.2.2.2.2=true) (z:s.length<=1000000): ∃v:Bool,(W fun n=>vC n pat s=some (bV v))/\(W fun n=>wc n pat s=some v):=by
 obtain⟨t,i,j,h3,h4,h5⟩:=aDw h;obtain⟨S,⟨k,m⟩,q⟩:=aCV i j;have hb:=k 0;obtain⟨k1,k2⟩:=m [] (by simp;omega)
 simp only [å,à]at k1 k2;obtain⟨L,g⟩: ∃L,L=S 0++[pl 8 0 0]:=⟨_,rfl⟩
 have f:L.length<=1048576:=by rw [g,Ä,Õ];omega
 have r: ∀p∈L,p.2.2.1.length<=256:=fun p hp=>by
  rw [g]at hp;rcases È.1 hp with hp|hp
  .exact q 0 p hp
  .rw [Ã.1 hp];exact mA _ _ _
 have n1:W fun n=>Gy n (aF t).1 (aF t).2.1 (aF t).2.2.1 (aF t).2.2.2.1 (aF t).2.2.2.2=some L:=by
  refine(((aCQ i j (by omega) h4).and k1).and (wQ (S 0) 8 (by omega))).nm fun n ⟨⟨b,d⟩,u⟩=> ?_
  rw [arA,b,Z];simp only [Ê,ez];rw [d,Z,u,g];rfl
 have n2:W fun n=>HV n (aF t).1 (aF t).2.1 (aF t).2.2.1 (aF t).2.2.2.1 (aF t).2.2.2.2=some L:=by
  refine((aCR i j (by omega) h4).and k2).nm fun n ⟨b,d⟩=> ?_
  rw [awC,b,Z];simp only [Ê,ez];rw [d,Z,cA (by omega),Y,g];rfl
 have m1:W fun n=>Gx n (aF t).1 (aF t).2.1 (aF t).2.2.1 (aF t).2.2.2.1 (aF t).2.2.2.2 s=some (ig (eL L s) s.length 0).2.2:=by
  refine(n1.and (aDu L s f r z)).nm fun n ⟨b,d⟩=> ?_
  rw [aqZ,b,Z,d];rfl
 have m2:W fun n=>HU n (aF t).1 (aF t).2.1 (aF t).2.2.1 (aF t).2.2.2.1 (aF t).2.2.2.2 s=some (ig (eL L s) s.length 0).2.2:=by
  refine(n2.and (aDv L s f z)).nm fun n ⟨b,d⟩=> ?_
  rw [awB,b,Z,d];rfl
 refine⟨(ig (eL L s) s.length 0).2.2, ?_, ?_⟩
 .refine(((SW pat).and m1).and (BR (ig (eL L s) s.length 0).2.2)).nm fun n ⟨⟨b,d⟩,u⟩=> ?_
  rw [aqY,b,h5,Z];dsimp only
  rw [d,Z,u];rfl
 .refine((SV pat).and m2).nm fun n ⟨b,d⟩=> ?_
  rw [awA,b,h5,Z];dsimp only
  rw [d];rfl
def kz (pat s:O):Bool:=if h:(gJ pat).2.2.2.2.2=true/\s.length<=1000000 then Ā (Kp pat s h.1 h.2)else false
theorem Vq (pat s:O) (h:(gJ pat).2.2.2.2.2=true) (b:s.length<=1000000):W fun n=>vC n pat s=some (bV (kz pat s)):=by
 rw [kz,dif_pos ⟨h,b⟩];exact(ò (Kp pat s h b)).1
theorem Vr (pat s:O) (h:(gJ pat).2.2.2.2.2=true) (b:s.length<=1000000):W fun n=>wc n pat s=some (kz pat s):=by
 rw [kz,dif_pos ⟨h,b⟩];exact(ò (Kp pat s h b)).2
end
noncomputable section
structure cZ where
 vs:List V
 cs:List VC
 aA:List V
 out:O
inductive gC where
 |err (c:Int)
 |halt (s:cZ)
 |go (k:Int) (s:cZ)
def ln (r:Sum Int V) (f:V->gC):gC:=match r with
 |.inl c=>.err c
 |.inr v=>f v
def eH (s:cZ) (at0:Int) (v:V):gC:=if s.aA.length=64 then .err 7 else .go at0 {s with aA:=s.aA++[v]}
def jq (s:cZ) (at0 k:Int) (key:O) (v:V):gC:=match ll s.cs k key v with
 |none=>.err 4
 |some b=>eH {s with cs:=b} at0 v
def fk (s:cZ) (at0:Int) (t:O):gC:=if 600<s.out.length+t.length then .err 5 else .go at0 {s with out:=s.out++t}
def bQ (c k:Int):Int:=if c=1\/c=2\/c=3\/c=10\/c=11\/c=25\/c=30\/c=34\/c=36 then 0 else if c=7\/c=8 then 2 else if c=29 then k else if 12<=c/\c<=23 then 2 else 1
def gQ (s:cZ) (at0 c k:Int) (l:List V):gC:=
 if c=3 then eH s at0 (ag s.vs k.toNat)
 else if c=4 then eH {s with vs:=s.vs.set k.toNat (ag l 0)} at0 (ag l 0)
 else if c=5 then ln (cK 0 (aJ (ag s.vs k.toNat)) (aJ (ag l 0))) fun v=>eH {s with vs:=s.vs.set k.toNat v} at0 v
 else if c=6 then eH s at0 (fC s.cs k (dm (ag l 0)))
 else if c=7 then jq s at0 k (dm (ag l 0)) (ag l 1)
 else if c=8 then ln (cK 0 (aJ (fC s.cs k (dm (ag l 0)))) (aJ (ag l 1))) fun v=>jq s at0 k (dm (ag l 0)) v
 else .go at0 {s with cs:=nw s.cs k (dm (ag l 0))}
def jr (nr:Int) (line:O) (fs:List O) (c k:Int) (s:O) (l:List V):Sum Int V:=
 if c=1 then .inr (nV k)else if c=2 then(if 300<s.length then .inl 3 else .inr (tV s))else if c=9 then .inr (jM line fs (cN (aJ (ag l 0))))
 else if c=10 then .inr (nV (1000000*nr))else if c=11 then .inr (nV (1000000*(fs.length:Int)))
 else if c=24 then .inr (bV (kz s (aH (ag l 0))))else if c=25 then .inr (bV (kz s line))else if c=26 then .inr (bV (!gK (ag l 0)))
 else if c=27 then .inr (nV (0-aJ (ag l 0)))else if c=28 then .inr (bV (gK (ag l 0)))else if c=29 then .inr (iO s l)else dQ c (ag l 0) (ag l 1)
def gR (nr:Int) (line:O) (fs:List O) (s:cZ) (at0 c k:Int) (t:O) (l:List V):gC:=
 if c=36 then .halt s else if c=30 then .go k s else if c=31 then(if gK (ag l 0)then .go (at0+1) s else .go k s)else if c=32 then .go (at0+1) s
 else if c=33 then fk s (at0+1) ((if k=1 then [32]else [])++aH (ag l 0))else if c=34 then fk s (at0+1) [10]
 else if c=3\/c=4\/c=5\/c=6\/c=7\/c=8\/c=35 then gQ s (at0+1) c k l
 else ln (jr nr line fs c k t l) fun v=>eH s (at0+1) v
def gS (nr:Int) (line:O) (fs:List O) (s:cZ) (at0 c k:Int) (t:O):gC:=
 if(s.aA.length:Int)<bQ c k then .err 7
 else gR nr line fs {s with aA:=s.aA.take (s.aA.length-(bQ c k).toNat)} at0 c k t (s.aA.drop (s.aA.length-(bQ c k).toNat))
abbrev WS:=ae×(ai×Int×Int×af×af×O×af×O×Int×Bool×ae)
def wS (nr:Int) (a b:af) (line:O) (fs:af) (fu:Int) (dn:Bool) (s:cZ):WS:=(s.vs,s.cs,nr,0,a,b,line,fs,s.out,fu,dn,s.aA)
def PO (nr:Int) (a b:af) (line:O) (fs:af) (fu:Int) (dn:Bool) (r:gC) (x:WS):Prop:=match r with
 |.err c=>c≠0/\x.2.2.2.1=c
 |.halt _=>False
 |.go _ s=>x=wS nr a b line fs fu dn s
theorem tc (vs:ae) (cs:ai) (nr:Int) (a b:af) (line:O) (fs:af) (out:O) (fu:Int) (dn:Bool) (aA:List V) (v:V) (at0:Int) (d:aA.length<=64):W fun n=> ∃x,ek n vs cs nr 0 a b line fs out fu dn aA v.1 v.2.1 v.2.2=some x/\PO nr a b line fs fu dn (eH ⟨vs,cs,aA,out⟩ at0 v) x:=by
 refine(ky vs cs nr a b line fs out fu dn 7).nm fun n e=> ?_
 rw [aqM];by_cases h:aA.length=64
 .rw [show ((aA.length:Int)==64)=true by simp [h],Y,e,eH,if_pos h]
  exact⟨_,rfl,by omega,rfl⟩
 .rw [show ((aA.length:Int)==64)=false from beq_eq_false_iff_ne.2 (by omega),ez,cA (by omega),eH,if_neg h]
  exact⟨_,rfl,rfl⟩
theorem Vs (vs:ae) (cs:ai) (nr:Int) (a b:af) (line:O) (fs:af) (out:O) (fu:Int) (dn:Bool) (aA:List V) (k:Int) (key:O) (v:V) (at0:Int) (j:aA.length<=64) (h:vs.length<=1048576) (i:cs.length<=1048576):W fun n=> ∃x,vy n vs cs nr 0 a b line fs out fu dn aA k key v.1 v.2.1 v.2.2=some x/\PO nr a b line fs fu dn (jq ⟨vs,cs,aA,out⟩ at0 k key v) x:=by
 cases hp:ll cs k key v with
 |none=>
  refine((Un vs cs nr 0 k key v h i).and (ky vs cs nr a b line fs out fu dn 4)).nm fun n ⟨d,f⟩=> ?_
  rw [QE,d,hp,jq,hp];simp only [mm,Z,ç,Y,f];exact⟨_,rfl,by omega,rfl⟩
 |some g=>
  refine((Un vs cs nr 0 k key v h i).and (tc vs g nr a b line fs out fu dn aA v at0 j)).nm fun n ⟨d,x,f,m⟩=> ?_
  rw [QE,d,hp,jq,hp];simp only [mm,Z,Ê,ez,f];exact⟨x,rfl,m⟩
theorem te (vs:ae) (cs:ai) (nr er:Int) (a b:af) (line:O) (fs:af) (out:O) (fu:Int) (dn:Bool) (t:O) (d:out.length<=600) (f:t.length<=1048576):W fun n=>lU n vs cs nr er a b line fs out fu dn t=some (cond (decide (600<out.length+t.length)) (vs,cs,nr,cond (er==0) 5 er,a,b,line,fs,out,fu,dn) (vs,cs,nr,er,a,b,line,fs,out++t,fu,dn)):=by
 refine(Uu vs cs nr er a b line fs out fu dn 5).nm fun n e=> ?_
 have hw:þ .i64 ((out.length:Int)+(t.length:Int))=((out.length+t.length:Nat):Int):=by rw [Á];omega
 rw [aqH,hw,e];by_cases h:600<out.length+t.length
 .rw [hJ (show (600:Int)<((out.length+t.length:Nat):Int) by omega),hJ h];rfl
 .rw [hL (show ¬(600:Int)<((out.length+t.length:Nat):Int) by omega),hL h,mP (by omega)];rfl
theorem Vt (c k:Int) (s:O):W fun n=>zA n c k s=some (bQ c k):=by
 refine(cS c 12 23).nm fun n e=> ?_
 rw [aqF,e,bQ];by_cases f:c=1\/c=2\/c=3\/c=10\/c=11\/c=25\/c=30\/c=34\/c=36
 .rw [if_pos f]
  rcases f with rfl|rfl|rfl|rfl|rfl|rfl|rfl|rfl|rfl<;>rfl
 rw [if_neg f];by_cases g:c=7\/c=8
 .rw [if_pos g]
  rcases g with rfl|rfl<;>rfl
 rw [if_neg g];have ne: ∀j:Int,c≠j->(c==j)=false:=fun j h=>beq_eq_false_iff_ne.2 h
 rw [ne 1 (by omega),ne 2 (by omega),ne 3 (by omega),ne 10 (by omega),ne 11 (by omega),ne 25 (by omega),ne 30 (by omega),ne 34 (by omega),ne 36 (by omega),ne 7 (by omega),ne 8 (by omega)]
 simp only [ez];by_cases b:c=29
 .rw [if_pos b,b];rfl
 rw [ne 29 b,ez,if_neg b];by_cases d:12<=c/\c<=23
 .rw [aB (show In c 12 23 from d),if_pos d];rfl
 .rw [az (show ¬In c 12 23 from d),if_neg d];rfl
end
theorem pf {vs:List V} {k:Int} (b:0<=k) (h:k<(vs.length:Int)):aM vs (Ì k)=some (ag vs k.toNat):=by
 have hk:k.toNat<vs.length:=by omega
 show vs[k.toNat]? =_;rw [ag,Å,Ç hk];rfl
theorem ph {vs:List V} {k:Int} (b:0<=k) (h:k<(vs.length:Int)):decide ((0:Int)<=k/\k<(vs.length:Int))=true:=hJ ⟨b,h⟩
theorem Kq {cs:List VC} {nm:Int} {key:O} (h: ∀c∈cs,bR c.2.2):bR (fC cs nm key):=by
 unfold fC;split
 .split
  .rename_i c b
   exact h c (List.mem_of_getElem? b)
  .exact rO
 .exact rO
structure pj (vs:List V) (cs:List VC) (nr:Int) (line:O) (fs:List O) (out:O) (aA:List V):Prop where
 v: ∀v∈vs,bR v
 vl:vs.length<=1048576
 c: ∀c∈cs,bR c.2.2
 cl:cs.length<=1048576
 nr:0<=nr/\nr<=2000000
 line:line.length<=1000000
 fs:fs.length<=1048576
 out:out.length<=600
 s: ∀v∈aA,bR v
 sl:aA.length<=64
def tf (vs:List V) (c k:Int) (t:O) (l:List V):Prop:=(c=3\/c=4\/c=5->0<=k/\k<(vs.length:Int))/\(l.length:Int)=bQ c k/\(c=1->aW k)/\(c=24\/c=25->(gJ t).2.2.2.2.2=true)/\(c=29->1<=k/\k<=3/\t∈iC)/\(c=33->k=0\/k=1)
theorem aDx (vs:ae) (cs:ai) (nr:Int) (a b:af) (line:O) (fs:af) (out:O) (fu:Int) (dn:Bool) (aA:List V) (c k:Int) (t:O) (l:List V) (at0:Int) (h:pj vs cs nr line fs out aA) (hl: ∀v∈l,bR v) (ho:tf vs c k t l) (u:c=3\/c=4\/c=5\/c=6\/c=7\/c=8\/c=35):
  W fun n=> ∃x,lV n vs cs nr 0 a b line fs out fu dn aA c k t l=some x/\PO nr a b line fs fu dn (gQ ⟨vs,cs,aA,out⟩ at0 c k l) x:=by
 obtain⟨j,d, -⟩:=ho;have o0:=eK hl 0;have o1:=eK hl 1;rcases u with rfl|rfl|rfl|rfl|rfl|rfl|rfl
 .obtain⟨p,q⟩:=j (.inl rfl)
  refine(tc vs cs nr a b line fs out fu dn aA (ag vs k.toNat) at0 h.sl).nm fun n ⟨x,e,z⟩=> ?_
  rw [qH,ph p q,pf p q,Z,e];exact⟨x,rfl,z⟩
 .obtain⟨p,q⟩:=j (.inr (.inl rfl))
  have a0:au l 0=some (ag l 0):=jm (i:=0) (by rw [bQ]at d;simp at d;omega)
  refine(tc (vs.set k.toNat (ag l 0)) cs nr a b line fs out fu dn aA (ag l 0) at0 h.sl).nm fun n ⟨x,e,z⟩=> ?_
  rw [qH,ph p q,pf p q,a0];simp only [Z];have e:ek n (vs.set (Ì k) ((ag l 0).1,(ag l 0).2.1,(ag l 0).2.2)) cs nr 0 a b line fs out fu dn aA (ag l 0).1 (ag l 0).2.1 (ag l 0).2.2=some x:=e;rw [e];exact⟨x,rfl,z⟩
 .obtain⟨p,q⟩:=j (.inr (.inr rfl))
  have a0:au l 0=some (ag l 0):=jm (i:=0) (by rw [bQ]at d;simp at d;omega)
  have ov:=eK h.v k.toNat;refine((((jl ov.2.1).and (jl o0.2.1)).and (JU vs cs nr a b line fs out fu dn 0 (aJ (ag vs k.toNat)) (aJ (ag l 0)) (by omega))).and (show W fun n=> ∀v,cK 0 (aJ (ag vs k.toNat)) (aJ (ag l 0))=.inr v-> ∃x,ek n (vs.set k.toNat v) cs nr 0 a b line fs out fu dn aA v.1 v.2.1 v.2.2=some x/\PO nr a b line fs fu dn (eH ⟨vs.set k.toNat v,cs,aA,out⟩ at0 v) x from ?_)).nm fun n ⟨⟨⟨g,m⟩,v,r,s⟩,e5⟩=> ?_
  .cases hm:cK 0 (aJ (ag vs k.toNat)) (aJ (ag l 0))with
   |inl c=>exact W.of fun n v f=>by cases f
   |inr w=>exact(tc (vs.set k.toNat w) cs nr a b line fs out fu dn aA w at0 h.sl).mono fun n hx v f=>by cases f;exact hx
  .rw [qH,ph p q,pf p q,a0]
   simp only [show ((5:Int)==3)=false from rfl,show((5:Int)==4)=false from rfl,show((5:Int)==5)=true from rfl,Y,ez,Z,g,m,r];rw [gQ,if_neg (show ¬(5:Int)=3 by omega),if_neg (show ¬(5:Int)=4 by omega),if_pos rfl]
   dsimp only
   cases hm:cK 0 (aJ (ag vs k.toNat)) (aJ (ag l 0))with
   |inl c=>
    have u:c=1:=by
     rw [cK,if_pos rfl]at hm;revert hm
     obtain⟨p,q⟩:=fX (aJ (ag vs k.toNat)) (aJ (ag l 0));cases q<;>intro hm<;>cases hm;rfl
    subst u;exact⟨_,rfl,by omega,rfl⟩
   |inr w=>
    have f:=s w hm;subst f;obtain⟨x,f1,f2⟩:=e5 v hm;rw [ph p q];simp only [gP,show((0:Int)==0)=true from rfl,Y];rw [pf p q,Z];have f1:ek n (vs.set (Ì k) (v.1,v.2.1,v.2.2)) cs nr 0 a b line fs out fu dn aA v.1 v.2.1 v.2.2=some x:=f1;rw [f1];exact⟨x,rfl,f2⟩
 .have a0:au l 0=some (ag l 0):=jm (i:=0) (by rw [bQ]at d;simp at d;omega)
  refine(((BS (ag l 0)).and (Uj vs cs nr 0 k (dm (ag l 0)) h.cl)).and (tc vs cs nr a b line fs out fu dn aA (fC cs k (dm (ag l 0))) at0 h.sl)).nm fun n ⟨⟨g,m⟩,x,r,s⟩=> ?_
  rw [qH,a0];simp only [À,Y,ez,Z,g,m,r];exact⟨x,rfl,s⟩
 .have a0:au l 0=some (ag l 0):=jm (i:=0) (by rw [bQ]at d;simp at d;omega)
  have a1:au l 1=some (ag l 1):=jm (i:=1) (by rw [bQ]at d;simp at d;omega)
  refine((BS (ag l 0)).and (Vs vs cs nr a b line fs out fu dn aA k (dm (ag l 0)) (ag l 1) at0 h.sl h.vl h.cl)).nm fun n ⟨g,x,r,s⟩=> ?_
  rw [qH,a0,a1];simp only [À,Y,ez,Z,g,r];exact⟨x,rfl,s⟩
 .have a0:au l 0=some (ag l 0):=jm (i:=0) (by rw [bQ]at d;simp at d;omega)
  have a1:au l 1=some (ag l 1):=jm (i:=1) (by rw [bQ]at d;simp at d;omega)
  have og:bR (fC cs k (dm (ag l 0))):=Kq h.c;refine((((((BS (ag l 0)).and (Uj vs cs nr 0 k (dm (ag l 0)) h.cl)).and (jl og.2.1)).and (jl o1.2.1)).and (JU vs cs nr a b line fs out fu dn 0 (aJ (fC cs k (dm (ag l 0)))) (aJ (ag l 1)) (by omega))).and (show W fun n=> ∀v,cK 0 (aJ (fC cs k (dm (ag l 0)))) (aJ (ag l 1))=.inr v-> ∃x,vy n vs cs nr 0 a b line fs out fu dn aA k (dm (ag l 0)) v.1 v.2.1 v.2.2=some x/\PO nr a b line fs fu dn (jq ⟨vs,cs,aA,out⟩ at0 k (dm (ag l 0)) v) x from ?_)).nm fun n ⟨⟨⟨⟨⟨e0,g⟩,m⟩,r⟩,v,s,e5⟩,e6⟩=> ?_
  .cases hm:cK 0 (aJ (fC cs k (dm (ag l 0)))) (aJ (ag l 1))with
   |inl c=>exact W.of fun n v f=>by cases f
   |inr w=>exact(Vs vs cs nr a b line fs out fu dn aA k (dm (ag l 0)) w at0 h.sl h.vl h.cl).mono fun n hx v f=>by cases f;exact hx
  .rw [qH,a0,a1]
   simp only [À,Y,ez,Z,e0,g,m,r,s];rw [gQ,if_neg (show ¬(8:Int)=3 by omega),if_neg (show ¬(8:Int)=4 by omega),if_neg (show ¬(8:Int)=5 by omega),if_neg (show ¬(8:Int)=6 by omega),if_neg (show ¬(8:Int)=7 by omega),if_pos rfl]
   dsimp only
   cases hm:cK 0 (aJ (fC cs k (dm (ag l 0)))) (aJ (ag l 1))with
   |inl c=>
    have u:c=1:=by
     rw [cK,if_pos rfl]at hm;revert hm
     obtain⟨p,q⟩:=fX (aJ (fC cs k (dm (ag l 0)))) (aJ (ag l 1));cases q<;>intro hm<;>cases hm;rfl
    subst u;exact⟨_,rfl,by omega,rfl⟩
   |inr w=>
    have f:=e5 w hm;subst f;obtain⟨x,f1,f2⟩:=e6 v hm;simp only [gP,show((0:Int)==0)=true from rfl,Y];rw [f1];exact⟨x,rfl,f2⟩
 .have a0:au l 0=some (ag l 0):=jm (i:=0) (by rw [bQ]at d;simp at d;omega)
  refine((BS (ag l 0)).and (aBX vs cs nr 0 k (dm (ag l 0)) h.vl h.cl)).nm fun n ⟨g,m⟩=> ?_
  rw [qH,a0];simp only [À,Y,ez,Z,g,m];exact⟨_,rfl,rfl⟩
theorem iT {l:List V} {c k:Int} {j:Nat} (h:(l.length:Int)=bQ c k) (hj:(j:Int)<bQ c k):au l (j:Int)=some (ag l j):=jm (by omega)
theorem bC {c j:Int} (h:c≠j):(c==j)=false:=beq_eq_false_iff_ne.2 h
theorem aDy (vs:ae) (cs:ai) (nr:Int) (a b:af) (line:O) (fs:af) (out:O) (fu:Int) (dn:Bool) (aA:List V) (c k:Int) (t:O) (l:List V) (at0:Int) (h:pj vs cs nr line fs out aA) (hl: ∀v∈l,bR v) (ho:tf vs c k t l) (hc:c=1\/c=2\/c=9\/c=10\/c=11\/(12<=c/\c<=29)):
  W fun n=> ∃x,zF n vs cs nr 0 a b line fs out fu dn aA c k t l=some x/\PO nr a b line fs fu dn (ln (jr nr line fs c k t l) fun v=>eH ⟨vs,cs,aA,out⟩ at0 v) x:=by
 obtain⟨a8,m,bd,ao,ar,bf⟩:=ho;have o0:=eK hl 0;have o1:=eK hl 1;have l0:=kx o0;have push:=fun v=>tc vs cs nr a b line fs out fu dn aA v at0 h.sl
 rcases hc with rfl|rfl|rfl|rfl|rfl|hc
 .refine((jK k).and (push (nV k))).nm fun n ⟨g,x,d,f⟩=> ?_
  rw [jk,g];simp only [À,Y,ez,Z,d];exact⟨x,rfl,f⟩
 .refine((ky vs cs nr a b line fs out fu dn 3).and (push (tV t))).nm fun n ⟨g,x,d,f⟩=> ?_
  have d:ek n vs cs nr 0 a b line fs out fu dn aA 2 0 t=some x:=d;rw [jk,g,d,jr,if_neg (show ¬(2:Int)=1 by omega),if_pos rfl]
  by_cases h3:300<t.length
  .rw [hJ (show (300:Int)<(t.length:Int) by omega),if_pos h3]
   exact⟨_,rfl,by omega,rfl⟩
  .rw [hL (show ¬(300:Int)<(t.length:Int) by omega),if_neg h3]
   exact⟨x,rfl,f⟩
 .have a0:au l 0=some (ag l 0):=iT (j:=0) m (by rw [bQ];simp)
  refine((aCh vs cs nr 0 a b line fs out fu dn o0 h.fs).and (push (jM line fs (cN (aJ (ag l 0)))))).nm fun n ⟨g,x,d,f⟩=> ?_
  rw [jk,a0];simp only [À,Y,ez,Z,g,d];exact⟨x,rfl,f⟩
 .have hw:wrap .i64 (1000000*nr)=1000000*nr:=by have:=h.nr;rw [Á];omega
  refine((jK (1000000*nr)).and (push (nV (1000000*nr)))).nm fun n ⟨g,x,d,f⟩=> ?_
  rw [jk,hw];simp only [À,Y,ez,Z,g,d];exact⟨x,rfl,f⟩
 .have hw:wrap .i64 (1000000*(fs.length:Int))=1000000*(fs.length:Int):=by have:=h.fs;rw [Á];omega
  refine((jK (1000000*(fs.length:Int))).and (push (nV (1000000*(fs.length:Int))))).nm fun n ⟨g,x,d,f⟩=> ?_
  rw [jk,hw];simp only [À,Y,ez,Z,g,d];exact⟨x,rfl,f⟩
 by_cases bg:c<=23
 .have ht:bQ c k=2:=by rw [bQ,if_neg (by omega),if_neg (by omega),if_neg (by omega),if_pos (by omega)]
  have a0:au l 0=some (ag l 0):=iT (j:=0) m (by omega)
  have a1:au l 1=some (ag l 1):=iT (j:=1) m (by omega)
  have hv:jr nr line fs c k t l=dQ c (ag l 0) (ag l 1):=by
   rw [jr,if_neg (by omega),if_neg (by omega),if_neg (by omega),if_neg (by omega),if_neg (by omega),if_neg (by omega),if_neg (by omega),if_neg (by omega),if_neg (by omega),if_neg (by omega),if_neg (by omega)]
  rw [hv];have hp:W fun n=> ∀v,dQ c (ag l 0) (ag l 1)=.inr v-> ∃x,ek n vs cs nr 0 a b line fs out fu dn aA v.1 v.2.1 v.2.2=some x/\PO nr a b line fs fu dn (eH ⟨vs,cs,aA,out⟩ at0 v) x:=by
   cases hm:dQ c (ag l 0) (ag l 1)with
   |inl c=>exact W.of fun n v hv=>by cases hv
   |inr w=>exact(push w).mono fun n hx v hv=>by cases hv;exact hx
  have fin: ∀n (v:V),(∀w,dQ c (ag l 0) (ag l 1)=.inr w->v=w)->(∀v,dQ c (ag l 0) (ag l 1)=.inr v-> ∃x,ek n vs cs nr 0 a b line fs out fu dn aA v.1 v.2.1 v.2.2=some x/\PO nr a b line fs fu dn (eH ⟨vs,cs,aA,out⟩ at0 v) x)->(∀q,dQ c (ag l 0) (ag l 1)=.inl q->q≠0)->
    ∃x,cond (gP (dQ c (ag l 0) (ag l 1))==(0:Int)) ((ek n vs cs nr (gP (dQ c (ag l 0) (ag l 1))) a b line fs out fu dn aA v.1 v.2.1 v.2.2).bind fun s=>some (s.1,s.2.1,s.2.2.1,s.2.2.2.1,s.2.2.2.2.1,s.2.2.2.2.2.1,s.2.2.2.2.2.2.1,s.2.2.2.2.2.2.2.1,s.2.2.2.2.2.2.2.2.1,s.2.2.2.2.2.2.2.2.2.1,s.2.2.2.2.2.2.2.2.2.2.1,s.2.2.2.2.2.2.2.2.2.2.2)) (some (vs,cs,nr,gP (dQ c (ag l 0) (ag l 1)),a,b,line,fs,out,fu,dn,aA))=some x/\PO nr a b line fs fu dn (ln (dQ c (ag l 0) (ag l 1)) fun v=>eH ⟨vs,cs,aA,out⟩ at0 v) x:=fun n v q1 q2 q3=>by
   cases hm:dQ c (ag l 0) (ag l 1)with
   |inl q=>
    have:=q3 q hm;rw [show (gP (Sum.inl q)==(0:Int))=false from bC this];exact⟨_,rfl,this,rfl⟩
   |inr w=>
    have hv:=q1 w hm;subst hv;obtain⟨x,f1,f2⟩:=q2 v hm;simp only [gP,show((0:Int)==0)=true from rfl,Y,f1];exact⟨x,rfl,f2⟩
  have u: ∀q,dQ c (ag l 0) (ag l 1)=.inl q->q≠0:=fun q i=>by
   have z: ∀r:Int×Bool,oZ r=.inl q->q≠0:=fun r hr=>by
    obtain⟨r1,r2⟩:=r;cases r2
    .cases hr;omega
    .cases hr
   unfold dQ at i;split at i
   .unfold cK at i
    split at i
    .exact z _ i
    split at i
    .exact z _ i
    split at i
    .exact z _ i
    split at i
    .cases i;omega
    split at i
    .cases i
    .exact z _ i
   split at i
   .split at i
    .cases i;omega
    .cases i
   .cases i
  by_cases ad:c=17
  .subst ad
   refine((aCp vs cs nr a b line fs out fu dn o0 o1).and hp).nm fun n ⟨⟨v,g,d⟩,f⟩=> ?_
   rw [jk,a0,a1];simp only [À,Y,ez,Z,g];exact fin n v d f u
  by_cases ah:c<=16
  .have al:dQ c (ag l 0) (ag l 1)=cK (c-12) (aJ (ag l 0)) (aJ (ag l 1)):=by rw [dQ,if_pos ah]
   have hw:wrap .i64 (c-12)=c-12:=by rw [Á];omega
   refine((((jl o0.2.1).and (jl o1.2.1)).and (JU vs cs nr a b line fs out fu dn (c-12) (aJ (ag l 0)) (aJ (ag l 1)) (by omega))).and hp).nm fun n ⟨⟨⟨g,d⟩,v,f,p⟩,e5⟩=> ?_
   rw [<-al]at f p;rw [jk,a0,a1,hw,bC (show c≠1 by omega),bC (show c≠2 by omega),bC (show c≠9 by omega),bC (show c≠10 by omega),bC (show c≠11 by omega),bC ad,bC (show c≠24 by omega),bC (show c≠25 by omega),bC (show c≠26 by omega),bC (show c≠27 by omega),bC (show c≠28 by omega),bC (show c≠29 by omega),hJ ah]
   simp only [Y,ez,Z,g,d,f];exact fin n v p e5 u
  .have al:dQ c (ag l 0) (ag l 1)=.inr (bV (nx (c-18) (fP (ag l 0) (ag l 1)))):=by rw [dQ,if_neg ah,if_neg ad]
   have hw:wrap .i64 (c-18)=c-18:=by rw [Á];omega
   refine((aCq (c-18) o0 o1 (by omega)).and (push (bV (nx (c-18) (fP (ag l 0) (ag l 1)))))).nm fun n ⟨g,x,d,f⟩=> ?_
   rw [al,jk,a0,a1,hw,bC (show c≠1 by omega),bC (show c≠2 by omega),bC (show c≠9 by omega),bC (show c≠10 by omega),bC (show c≠11 by omega),bC ad,bC (show c≠24 by omega),bC (show c≠25 by omega),bC (show c≠26 by omega),bC (show c≠27 by omega),bC (show c≠28 by omega),bC (show c≠29 by omega),hL ah]
   simp only [Y,ez,Z,g,show((0:Int)==0)=true from rfl,d];exact⟨x,rfl,f⟩
 have ax:c=24\/c=25\/c=26\/c=27\/c=28\/c=29:=by omega
 rcases ax with rfl|rfl|rfl|rfl|rfl|rfl
 .have a0:au l 0=some (ag l 0):=iT (j:=0) m (by rw [bQ];simp)
  refine(((iN (ag l 0)).and (Vq t (aH (ag l 0)) (ao (.inl rfl)) (by omega))).and (push (bV (kz t (aH (ag l 0)))))).nm fun n ⟨⟨g,d⟩,x,f,p⟩=> ?_
  rw [jk,a0];simp only [À,Y,ez,Z,g,d,f];exact⟨x,rfl,p⟩
 .refine((Vq t line (ao (.inr rfl)) h.line).and (push (bV (kz t line)))).nm fun n ⟨d,x,f,p⟩=> ?_
  rw [jk];simp only [À,Y,ez,Z,d,f];exact⟨x,rfl,p⟩
 .have a0:au l 0=some (ag l 0):=iT (j:=0) m (by rw [bQ];simp)
  refine(((JL (ag l 0)).and (BR (!gK (ag l 0)))).and (push (bV (!gK (ag l 0))))).nm fun n ⟨⟨g,d⟩,x,f,p⟩=> ?_
  rw [jk,a0];simp only [À,Y,ez,Z,g,d,f];exact⟨x,rfl,p⟩
 .have a0:au l 0=some (ag l 0):=iT (j:=0) m (by rw [bQ];simp)
  have hw:wrap .i64 (0-aJ (ag l 0))=0-aJ (ag l 0):=by have:=eF (jF o0);rw [Á];omega
  refine(((jl o0.2.1).and (jK (0-aJ (ag l 0)))).and (push (nV (0-aJ (ag l 0))))).nm fun n ⟨⟨g,d⟩,x,f,p⟩=> ?_
  rw [jk,a0];simp only [À,Y,ez,Z,g,hw,d,f];exact⟨x,rfl,p⟩
 .have a0:au l 0=some (ag l 0):=iT (j:=0) m (by rw [bQ];simp)
  refine(((JL (ag l 0)).and (BR (gK (ag l 0)))).and (push (bV (gK (ag l 0))))).nm fun n ⟨⟨g,d⟩,x,f,p⟩=> ?_
  rw [jk,a0];simp only [À,Y,ez,Z,g,d,f];exact⟨x,rfl,p⟩
 .obtain⟨p1,p2,p3⟩:=ar rfl
  have ht:bQ 29 k=k:=by rw [bQ];simp
  refine((aCC t l hl (by omega) p3).and (push (iO t l))).nm fun n ⟨d,x,f,p⟩=> ?_
  rw [jk];simp only [À,Y,ez,Z,d,f];exact⟨x,rfl,p⟩
def Kr (nr:Int) (a b:af) (line:O) (fs:af) (fu:Int) (dn:Bool) (r:gC) (x:Int×Bool×WS):Prop:=match r with
 |.err c=>c≠0/\x.2.2.2.2.2.1=c
 |.halt s=>x.2.1=false/\x.2.2=wS nr a b line fs fu dn s
 |.go k s=>x=(k,true,wS nr a b line fs fu dn s)
def wT (vs:List V) (c k:Int) (t:O):Prop:=In c 1 36/\(c=3\/c=4\/c=5->0<=k/\k<(vs.length:Int))/\(c=1->aW k)/\(c=24\/c=25->(gJ t).2.2.2.2.2=true)/\(c=29->1<=k/\k<=3/\t∈iC)/\(c=33->k=0\/k=1)
theorem Vu {vs:List V} {c k:Int} {t:O} (h:wT vs c k t):0<=bQ c k/\bQ c k<=3:=by
 unfold bQ;split
 .omega
 split
 .omega
 split
 .rename_i b
  have:=h.2.2.2.2.1 b;omega
 split<;>omega
def mB (r:gC) (at0:Int):Prop:=match r with
 |.go j _=>j=at0
 |.halt _=>False
 |.err _=>True
theorem qR (s:cZ) (at0:Int) (v:V):mB (eH s at0 v) at0:=by
 unfold eH;split
 .exact trivial
 .exact rfl
theorem xQ (s:cZ) (at0 k:Int) (key:O) (v:V):mB (jq s at0 k key v) at0:=by
 unfold jq;split
 .exact trivial
 .exact qR _ _ _
theorem Ck {r:Sum Int V} {f:V->gC} {at0:Int} (h: ∀v,mB (f v) at0):mB (ln r f) at0:=by
 cases r
 .exact trivial
 .exact h _
theorem Kt (s:cZ) (at0 c k:Int) (l:List V):mB (gQ s at0 c k l) at0:=by
 unfold gQ;repeat' split
 .exact qR _ _ _
 .exact qR _ _ _
 .exact Ck fun v=>qR _ _ _
 .exact qR _ _ _
 .exact xQ _ _ _ _ _
 .exact Ck fun v=>xQ _ _ _ _ _
 .exact rfl
theorem Vv {nr:Int} {a b:af} {line:O} {fs:af} {fu:Int} {dn:Bool} {r:gC} {x:WS} {at0:Int} (h:PO nr a b line fs fu dn r x) (d:mB r at0):Kr nr a b line fs fu dn r (at0,true,x):=by
 cases r with
 |err c=>exact h
 |halt s=>exact absurd h id
 |go j s=>
  have h:x=wS nr a b line fs fu dn s:=h;have d:j=at0:=d;subst h d;exact rfl
theorem Ku (at0:Int) (n:Nat) (vs:ae) (cs:ai) (nr:Int) (a b:af) (line:O) (fs:af) (out:O) (fu:Int) (dn:Bool) (aA:List V) (t:O) (e:lU n vs cs nr 0 a b line fs out fu dn t=some (cond (decide (600<out.length+t.length)) (vs,cs,nr,cond ((0:Int)==0) 5 0,a,b,line,fs,out,fu,dn) (vs,cs,nr,0,a,b,line,fs,out++t,fu,dn))):
  ∃w,lU n vs cs nr 0 a b line fs out fu dn t=some w/\Kr nr a b line fs fu dn (fk ⟨vs,cs,aA,out⟩ at0 t) (at0,true,w.1,w.2.1,w.2.2.1,w.2.2.2.1,w.2.2.2.2.1,w.2.2.2.2.2.1,w.2.2.2.2.2.2.1,w.2.2.2.2.2.2.2.1,w.2.2.2.2.2.2.2.2.1,w.2.2.2.2.2.2.2.2.2.1,w.2.2.2.2.2.2.2.2.2.2,aA):=by
 rw [e];refine⟨_,rfl, ?_⟩
 unfold fk;dsimp only
 by_cases h:600<out.length+t.length
 .rw [hJ h,if_pos h];exact⟨by omega,rfl⟩
 .rw [hL h,if_neg h];exact rfl
theorem aDz (vs:ae) (cs:ai) (nr:Int) (a b:af) (line:O) (fs:af) (out:O) (fu:Int) (dn:Bool) (aA:List V) (c k:Int) (t:O) (at0:Int) (h:pj vs cs nr line fs out aA) (ho:wT vs c k t) (ha:0<=at0/\at0<=1000000):
  W fun n=> ∃x,zx n vs cs nr 0 a b line fs out fu dn aA c k t at0=some x/\Kr nr a b line fs fu dn (gS nr line fs ⟨vs,cs,aA,out⟩ at0 c k t) x:=by
 obtain⟨t0,t3⟩:=Vu ho;have bm:=h.sl;have z:wrap .i64 (at0+1)=at0+1:=by rw [Á];omega
 have hw:wrap .i64 ((aA.length:Int)-bQ c k)=(aA.length:Int)-bQ c k:=by rw [Á];omega
 by_cases hs:(aA.length:Int)<bQ c k
 .refine((Vt c k t).and (ky vs cs nr a b line fs out fu dn 7)).nm fun n ⟨m,e2⟩=> ?_
  rw [lZ,m,Z,hw,hJ (by omega),Y,e2,gS,if_pos hs]
  exact⟨_,rfl,by omega,rfl⟩
 obtain⟨j,hj⟩: ∃j:Nat,j=aA.length-(bQ c k).toNat:=⟨_,rfl⟩
 have bn:j<=aA.length:=by omega
 have p:(aA.length:Int)-bQ c k=(j:Int):=by omega
 obtain⟨l,hl⟩: ∃l,l=aA.drop j:=⟨_,rfl⟩
 obtain⟨s',ao⟩: ∃s',s'=aA.take j:=⟨_,rfl⟩
 have aw: ∀v∈l,bR v:=fun v hv=>h.s v (Ü (hl▸hv))
 have aj:(l.length:Int)=bQ c k:=by rw [hl,ë];omega
 have h':pj vs cs nr line fs out s':=⟨h.v,h.vl,h.c,h.cl,h.nr,h.line,h.fs,h.out,fun v hv=>h.s v (Ý (ao▸hv)),by rw [ao,ã];omega⟩
 have a1:tf vs c k t l:=⟨ho.2.1,aj,ho.2.2.1,ho.2.2.2.1,ho.2.2.2.2.1,ho.2.2.2.2.2⟩;have o0:=eK aw 0;have l0:=kx o0;have bd:gS nr line fs ⟨vs,cs,aA,out⟩ at0 c k t=gR nr line fs ⟨vs,cs,s',out⟩ at0 c k t l:=by rw [gS,if_neg hs];dsimp only;rw [<-hj,<-hl,<-ao]
 rw [bd];have q:(aA.drop (Ì (j:Int))).take (aA.length-Ì (j:Int))=l:=by rw [Â,BU,hl]
 have r:aA.take (Ì (j:Int))=s':=by rw [Â,ao]
 have u:ô (Ì (j:Int)) aA.length=true:=Ô (by omega)
 have f:decide ((0:Int)<=(j:Int)/\(j:Int)<=(aA.length:Int))=true:=hJ (by omega)
 have d:=Vt c k t;have g:decide ((j:Int)<0)=false:=hL (by omega)
 have i:ô (0+l.length) aD=true:=cA (by omega)
 have d0:1<=l.length->decide ((0:Int)<=0/\(0:Int)<(l.length:Int))=true:=fun h=>hJ (by omega)
 have a0:1<=l.length->aM l 0=some (ag l 0):=fun h=>by
  show l[0]? =_;rw [ag,Å,Ç (show 0<l.length by omega)];rfl
 by_cases ak:c=36
 .subst ak
  refine d.nm fun n m=> ?_
  rw [lZ,m,Z,hw,p,g,q,r,u,i,f];exact⟨_,rfl,rfl,rfl⟩
 by_cases al:c=30
 .subst al
  refine d.nm fun n m=> ?_
  rw [lZ,m,Z,hw,p,g,q,r,u,i,f];exact⟨_,rfl,rfl⟩
 by_cases aq:c=31
 .subst aq
  have h1:1<=l.length:=by rw [bQ]at aj;simp at aj;omega
  refine(d.and (JL (ag l 0))).nm fun n ⟨m,e2⟩=> ?_
  rw [lZ,m,Z,hw,p,g,q,r,u,i,f,d0 h1,a0 h1,z];simp only [À,Y,ez,Z,e2];rw [gR,if_neg ak,if_neg al,if_pos rfl];cases gK (ag l 0)
  .exact⟨_,rfl,rfl⟩
  .exact⟨_,rfl,rfl⟩
 by_cases au:c=32
 .subst au
  refine d.nm fun n m=> ?_
  rw [lZ,m,Z,hw,p,g,q,r,u,i,f,z];exact⟨_,rfl,rfl⟩
 by_cases ax:c=33
 .subst ax
  have h1:1<=l.length:=by rw [bQ]at aj;simp at aj;omega
  rw [gR,if_neg ak,if_neg al,if_neg aq,if_neg au,if_pos rfl];by_cases k1:k=1
  .subst k1
   rw [if_pos rfl];by_cases a6:600<out.length+1
   .have hf:fk ⟨vs,cs,s',out⟩ (at0+1) ([32]++aH (ag l 0))=.err 5:=by
     unfold fk;rw [if_pos];rw [Ä];show 600<out.length+(1+(aH (ag l 0)).length);omega
    refine(((d.and (iN (ag l 0))).and (te vs cs nr 0 a b line fs out fu dn [32] h.out (by simp))).and (te vs cs nr 5 a b line fs out fu dn (aH (ag l 0)) h.out (by omega))).nm fun n ⟨⟨⟨m,e2⟩,e3⟩,e4⟩=> ?_
    rw [hJ (show 600<out.length+([32]:O).length from a6)]at e3;have e3:lU n vs cs nr 0 a b line fs out fu dn [32]=some (vs,cs,nr,5,a,b,line,fs,out,fu,dn):=e3;rw [lZ,m,Z,hw,p,g,q,r,u,i,f,d0 h1,a0 h1,z];simp only [À,Y,ez,Z,e3,e2,e4];rw [hf];cases decide (600<out.length+(aH (ag l 0)).length)
    .exact⟨_,rfl,by omega,rfl⟩
    .exact⟨_,rfl,by omega,rfl⟩
   .have hf:fk ⟨vs,cs,s',out⟩ (at0+1) ([32]++aH (ag l 0))=fk ⟨vs,cs,s',out++[32]⟩ (at0+1) (aH (ag l 0)):=by
     unfold fk;dsimp only
     rw [Ë,Ä,Ä,Nat.add_assoc]
    refine(((d.and (iN (ag l 0))).and (te vs cs nr 0 a b line fs out fu dn [32] h.out (by simp))).and (te vs cs nr 0 a b line fs (out++[32]) fu dn (aH (ag l 0)) (by rw [Ä,Õ];omega) (by omega))).nm fun n ⟨⟨⟨m,e2⟩,e3⟩,e4⟩=> ?_
    rw [hL (show ¬600<out.length+([32]:O).length from a6)]at e3;obtain⟨w,f1,f2⟩:=Ku (at0+1) n vs cs nr a b line fs (out++[32]) fu dn s' (aH (ag l 0)) e4;have e3:lU n vs cs nr 0 a b line fs out fu dn [32]=some (vs,cs,nr,0,a,b,line,fs,out++[32],fu,dn):=e3;rw [lZ,m,Z,hw,p,g,q,r,u,i,f,d0 h1,a0 h1,z];simp only [À,Y,ez,Z,e3,e2,f1];rw [hf];exact⟨_,rfl,f2⟩
  .rw [if_neg k1,à]
   refine((d.and (iN (ag l 0))).and (te vs cs nr 0 a b line fs out fu dn (aH (ag l 0)) h.out (by omega))).nm fun n ⟨⟨m,e2⟩,e4⟩=> ?_
   obtain⟨w,f1,f2⟩:=Ku (at0+1) n vs cs nr a b line fs out fu dn s' (aH (ag l 0)) e4;rw [lZ,m,Z,hw,p,g,q,r,u,i,f,d0 h1,a0 h1,z,bC k1];simp only [À,Y,ez,Z,e2,f1];exact⟨_,rfl,f2⟩
 by_cases az:c=34
 .subst az
  refine(d.and (te vs cs nr 0 a b line fs out fu dn [10] h.out (by simp))).nm fun n ⟨m,e4⟩=> ?_
  obtain⟨w,f1,f2⟩:=Ku (at0+1) n vs cs nr a b line fs out fu dn s' [10] e4;rw [lZ,m,Z,hw,p,g,q,r,u,i,f,z];simp only [À,Y,ez,Z,f1];exact⟨_,rfl,f2⟩
 have cn: ∀n,zA n c k t=some (bQ c k)->zx (n+1) vs cs nr 0 a b line fs out fu dn aA c k t at0=cond (decide (c=3\/c=4\/c=5\/c=6\/c=7\/c=8\/c=35)) ((lV n vs cs nr 0 a b line fs out fu dn s' c k t l).bind fun y=>some (at0+1,true,y)) ((zF n vs cs nr 0 a b line fs out fu dn s' c k t l).bind fun y=>some (at0+1,true,y)):=fun n m=>by
  rw [lZ,m,Z,hw,p,g,q,r,u,i,f,z,bC ak,bC al,bC aq,bC au,bC ax,bC az];by_cases d3:c=3\/c=4\/c=5\/c=6\/c=7\/c=8\/c=35
  .rw [hJ d3]
   rcases d3 with rfl|rfl|rfl|rfl|rfl|rfl|rfl<;>rfl
  .rw [hL d3,bC (show c≠3 by omega),bC (show c≠4 by omega),bC (show c≠5 by omega),bC (show c≠6 by omega),bC (show c≠7 by omega),bC (show c≠8 by omega),bC (show c≠35 by omega)]
   rfl
 have hd:gR nr line fs ⟨vs,cs,s',out⟩ at0 c k t l=if c=3\/c=4\/c=5\/c=6\/c=7\/c=8\/c=35 then gQ ⟨vs,cs,s',out⟩ (at0+1) c k l else ln (jr nr line fs c k t l) fun v=>eH ⟨vs,cs,s',out⟩ (at0+1) v:=by
  rw [gR,if_neg ak,if_neg al,if_neg aq,if_neg au,if_neg ax,if_neg az]
 rw [hd];by_cases d3:c=3\/c=4\/c=5\/c=6\/c=7\/c=8\/c=35
 .refine(d.and (aDx vs cs nr a b line fs out fu dn s' c k t l (at0+1) h' aw a1 d3)).nm fun n ⟨m,x,e2,e3⟩=> ?_
  rw [cn n m,hJ d3,Y,e2,if_pos d3];exact⟨_,rfl,Vv e3 (Kt _ _ _ _ _)⟩
 .have bp:=ho.1.1
  have bk:=ho.1.2;refine(d.and (aDy vs cs nr a b line fs out fu dn s' c k t l (at0+1) h' aw a1 (by omega))).nm fun n ⟨m,x,e2,e3⟩=> ?_
  rw [cn n m,hL d3,ez,e2,if_neg d3];exact⟨_,rfl,Vv e3 (Ck fun v=>qR _ _ _)⟩
abbrev WI:=ae×(ai×Int×Int×O×O×ae×Int)
def wU (nr:Int) (line:O) (s:cZ):WI:=(s.vs,s.cs,nr,0,line,s.out,s.aA,0)
def IO (nr:Int) (line:O) (r:gC) (x:WI):Prop:=match r with
 |.err c=>c≠0/\x.2.2.2.2.2.2.2=c
 |.halt _=>False
 |.go _ s=>x=wU nr line s
theorem Vw (vs:ae) (cs:ai) (nr er:Int) (line out:O) (aA:List V) (err c:Int):W fun n=>kr n vs cs nr er line out aA err c=some (vs,cs,nr,er,line,out,aA,cond (err==0) c err):=W.succ (W.of fun n=>by
 rw [avE];cases err==0<;>rfl)
theorem pk (vs:ae) (cs:ai) (nr:Int) (line out:O) (aA:List V) (c:Int):W fun n=>kr n vs cs nr 0 line out aA 0 c=some (vs,cs,nr,0,line,out,aA,c):=Vw vs cs nr 0 line out aA 0 c
theorem Cl (vs:ae) (cs:ai) (nr:Int) (line out:O) (aA:List V) (v:V) (at0:Int) (b:aA.length<=64):W fun n=> ∃x,fj n vs cs nr 0 line out aA 0 v.1 v.2.1 v.2.2=some x/\IO nr line (eH ⟨vs,cs,aA,out⟩ at0 v) x:=by
 refine(pk vs cs nr line out aA 7).nm fun n e=> ?_
 rw [avI];by_cases h:aA.length=64
 .rw [hJ (show (64:Int)<=(aA.length:Int) by omega),Y,e,eH,if_pos h]
  exact⟨_,rfl,by omega,rfl⟩
 .rw [hL (show ¬(64:Int)<=(aA.length:Int) by omega),ez,cA (by omega),eH,if_neg h]
  exact⟨_,rfl,rfl⟩
theorem Vx (vs:ae) (cs:ai) (nr:Int) (line out:O) (aA:List V) (k:Int) (key:O) (v:V) (at0:Int) (i:aA.length<=64) (g:vs.length<=1048576) (h:cs.length<=1048576):W fun n=> ∃x,sB n vs cs nr 0 line out aA 0 k key v.1 v.2.1 v.2.2=some x/\IO nr line (jq ⟨vs,cs,aA,out⟩ at0 k key v) x:=by
 cases hp:ll cs k key v with
 |none=>
  refine((Up vs cs nr 0 k key v g h).and (pk vs cs nr line out aA 4)).nm fun n ⟨b,d⟩=> ?_
  rw [Jh,b,hp,jq,hp];simp only [mm,Z,ç,Y,d];exact⟨_,rfl,by omega,rfl⟩
 |some f=>
  refine((Up vs cs nr 0 k key v g h).and (Cl vs f nr line out aA v at0 i)).nm fun n ⟨b,x,d,j⟩=> ?_
  rw [Jh,b,hp,jq,hp];simp only [mm,Z,Ê,ez,d];exact⟨x,rfl,j⟩
theorem aDA (n:Nat) (vs:ae) (cs:ai) (nr er:Int) (line out:O) (aA:List V) (err k:Int) (key:O) (x y:Int) (z:O) (h:err≠0):sB (n+1) vs cs nr er line out aA err k key x y z=some (vs,cs,nr,er,line,out,aA,err):=by
 rw [Jh,show(err !=0)=true by simpa using h];rfl
theorem Cm (vs:ae) (cs:ai) (nr:Int) (line out:O) (aA:List V) (err:Int) (t:O) (b:out.length<=2000) (d:t.length<=1048576):W fun n=>sC n vs cs nr 0 line out aA err t=some (vs,cs,nr,0,line,out++t,aA,cond (decide (600<out.length+t.length)) (cond (err==0) 5 err) err):=by
 refine(Vw vs cs nr 0 line (out++t) aA err 5).nm fun n e=> ?_
 rw [avV,mP (by omega),e,Ä]
 by_cases h:600<out.length+t.length
 .rw [hJ (show (600:Int)<((out.length+t.length:Nat):Int) by omega),hJ h];rfl
 .rw [hL (show ¬(600:Int)<((out.length+t.length:Nat):Int) by omega),hL h];rfl
theorem Vy (vs:ae) (cs:ai) (nr:Int) (line out:O) (aA:List V) {x y:V} (b:bR x) (hy:bR y):W fun n=> ∃v:V,AF n vs cs nr 0 line out aA 0 x.1 x.2.1 x.2.2 y.1 y.2.1 y.2.2=some (v.1,v.2.1,v.2.2,vs,cs,nr,0,line,out,aA,gP (cK 0 (aJ x) (aJ y)))/\ ∀w,cK 0 (aJ x) (aJ y)=.inr w->v=w:=by
 refine(((((nu b.2.1).and (nu hy.2.1)).and (Ug (aJ x) (aJ y))).and (pk vs cs nr line out aA 1)).and (mh (fX (aJ x) (aJ y)).1)).nm fun n ⟨⟨⟨⟨d,f⟩,g⟩,h⟩,i⟩=> ?_
 rw [avJ,d,Z,f,Z,g,Z,h,i,cK,if_pos rfl];obtain⟨p,q⟩:=fX (aJ x) (aJ y);cases q
 .exact⟨nV p,rfl,fun w k=>by cases k⟩
 .exact⟨nV p,rfl,fun w k=>by cases k;rfl⟩
theorem Vz {x y c:Int} (hm:cK 0 x y=.inl c):c=1:=by
 rw [cK,if_pos rfl]at hm;revert hm
 obtain⟨p,q⟩:=fX x y;cases q<;>intro hm<;>cases hm;rfl
theorem Cn (v:V):W fun n=> ∃s,gO n v.1 v.2.1 v.2.2=some s/\oM n s=some (dm v):=by
 refine((mj v).and (Ui (aH v))).mono fun n ⟨b,d⟩=>⟨aH v,b,d⟩
theorem aDB (vs:ae) (cs:ai) (nr:Int) (line out:O) (aA:List V) (fs:List O) (c k:Int) (t:O) (l:List V) (at0:Int) (h:pj vs cs nr line fs out aA) (hl: ∀v∈l,bR v) (ho:tf vs c k t l) (u:c=4\/c=5\/c=7\/c=8\/c=35\/c=33\/c=34):
  W fun n=> ∃x,nj n vs cs nr 0 line out aA 0 c k t l=some x/\IO nr line (if c=33 then fk ⟨vs,cs,aA,out⟩ at0 ((if k=1 then [32]else [])++aH (ag l 0))else if c=34 then fk ⟨vs,cs,aA,out⟩ at0 [10]else gQ ⟨vs,cs,aA,out⟩ at0 c k l) x:=by
 obtain⟨z,b, -⟩:=ho;have o0:=eK hl 0;have o1:=eK hl 1;have l0:=kx o0;rcases u with rfl|rfl|rfl|rfl|rfl|rfl|rfl
 .obtain⟨p,q⟩:=z (.inr (.inl rfl))
  have a0:au l 0=some (ag l 0):=iT (j:=0) b (by rw [bQ];simp)
  refine(Cl (vs.set k.toNat (ag l 0)) cs nr line out aA (ag l 0) at0 h.sl).nm fun n ⟨x,e,e'⟩=> ?_
  rw [oR,ph p q,pf p q,a0];simp only [Z];have e:fj n (vs.set (Ì k) ((ag l 0).1,(ag l 0).2.1,(ag l 0).2.2)) cs nr 0 line out aA 0 (ag l 0).1 (ag l 0).2.1 (ag l 0).2.2=some x:=e;rw [e];exact⟨x,rfl,e'⟩
 .obtain⟨p,q⟩:=z (.inr (.inr rfl))
  have a0:au l 0=some (ag l 0):=iT (j:=0) b (by rw [bQ];simp)
  have ov:=eK h.v k.toNat;refine((Vy vs cs nr line out aA ov o0).and (show W fun n=> ∀v,cK 0 (aJ (ag vs k.toNat)) (aJ (ag l 0))=.inr v-> ∃x,fj n (vs.set k.toNat v) cs nr 0 line out aA 0 v.1 v.2.1 v.2.2=some x/\IO nr line (eH ⟨vs.set k.toNat v,cs,aA,out⟩ at0 v) x from ?_)).nm fun n ⟨⟨v,e3,e4⟩,e5⟩=> ?_
  .cases hm:cK 0 (aJ (ag vs k.toNat)) (aJ (ag l 0))with
   |inl c=>exact W.of fun n v f=>by cases f
   |inr w=>exact(Cl (vs.set k.toNat w) cs nr line out aA w at0 h.sl).mono fun n hx v f=>by cases f;exact hx
  .rw [oR,ph p q,pf p q,a0]
   simp only [À,Y,ez,Z,e3];rw [if_neg (show ¬(5:Int)=33 by omega),if_neg (show ¬(5:Int)=34 by omega),gQ,if_neg (show ¬(5:Int)=3 by omega),if_neg (show ¬(5:Int)=4 by omega),if_pos rfl]
   dsimp only
   cases hm:cK 0 (aJ (ag vs k.toNat)) (aJ (ag l 0))with
   |inl c=>
    have u:=Vz hm;subst u;exact⟨_,rfl,by omega,rfl⟩
   |inr w=>
    have f:=e4 w hm;subst f;obtain⟨x,f1,f2⟩:=e5 v hm;rw [ph p q];simp only [gP,show((0:Int)==0)=true from rfl,Y];rw [pf p q,Z];have f1:fj n (vs.set (Ì k) (v.1,v.2.1,v.2.2)) cs nr 0 line out aA 0 v.1 v.2.1 v.2.2=some x:=f1;rw [f1];exact⟨x,rfl,f2⟩
 .have a0:au l 0=some (ag l 0):=iT (j:=0) b (by rw [bQ];simp)
  have a1:au l 1=some (ag l 1):=iT (j:=1) b (by rw [bQ];simp)
  refine((Cn (ag l 0)).and (Vx vs cs nr line out aA k (dm (ag l 0)) (ag l 1) at0 h.sl h.vl h.cl)).nm fun n ⟨⟨s,i,m⟩,x,e3,e4⟩=> ?_
  rw [oR,a0,a1];simp only [À,Y,ez,Z,i,m,e3];exact⟨x,rfl,e4⟩
 .have a0:au l 0=some (ag l 0):=iT (j:=0) b (by rw [bQ];simp)
  have a1:au l 1=some (ag l 1):=iT (j:=1) b (by rw [bQ];simp)
  have og:bR (fC cs k (dm (ag l 0))):=Kq h.c;refine((((Cn (ag l 0)).and (Uk vs cs nr 0 k (dm (ag l 0)) h.cl)).and (Vy vs cs nr line out aA og o1)).and ((W.ge 1).and (show W fun n=> ∀v,cK 0 (aJ (fC cs k (dm (ag l 0)))) (aJ (ag l 1))=.inr v-> ∃x,sB n vs cs nr 0 line out aA 0 k (dm (ag l 0)) v.1 v.2.1 v.2.2=some x/\IO nr line (jq ⟨vs,cs,aA,out⟩ at0 k (dm (ag l 0)) v) x from ?_))).nm fun n ⟨⟨⟨⟨s,i,m⟩,g⟩,v,e4,e5⟩,hn,e6⟩=> ?_
  .cases hm:cK 0 (aJ (fC cs k (dm (ag l 0)))) (aJ (ag l 1))with
   |inl c=>exact W.of fun n v f=>by cases f
   |inr w=>exact(Vx vs cs nr line out aA k (dm (ag l 0)) w at0 h.sl h.vl h.cl).mono fun n hx v f=>by cases f;exact hx
  .obtain⟨n,rfl⟩: ∃q,n=q+1:=⟨n-1,by omega⟩
   rw [oR,a0,a1];simp only [À,Y,ez,Z,i,m,g,e4];rw [if_neg (show ¬(8:Int)=33 by omega),if_neg (show ¬(8:Int)=34 by omega),gQ,if_neg (show ¬(8:Int)=3 by omega),if_neg (show ¬(8:Int)=4 by omega),if_neg (show ¬(8:Int)=5 by omega),if_neg (show ¬(8:Int)=6 by omega),if_neg (show ¬(8:Int)=7 by omega),if_pos rfl]
   dsimp only
   cases hm:cK 0 (aJ (fC cs k (dm (ag l 0)))) (aJ (ag l 1))with
   |inl c=>
    have u:=Vz hm;subst u;rw [aDA _ _ _ _ _ _ _ _ _ _ _ _ _ _ (show gP (.inl 1)≠0 from by decide)]
    exact⟨_,rfl,by omega,rfl⟩
   |inr w=>
    have f:=e5 w hm;subst f;obtain⟨x,f1,f2⟩:=e6 v hm;simp only [gP];rw [f1];exact⟨x,rfl,f2⟩
 .have a0:au l 0=some (ag l 0):=iT (j:=0) b (by rw [bQ];simp)
  refine((Cn (ag l 0)).and (aBY vs cs nr 0 k (dm (ag l 0)) h.vl h.cl)).nm fun n ⟨⟨s,i,m⟩,g⟩=> ?_
  rw [oR,a0];simp only [À,Y,ez,Z,i,m,g];exact⟨_,rfl,rfl⟩
 .have a0:au l 0=some (ag l 0):=iT (j:=0) b (by rw [bQ];simp)
  have ho:=h.out;rw [if_pos rfl];by_cases k1:k=1
  .subst k1
   rw [if_pos rfl];obtain⟨i,r⟩: ∃i,i=cond (decide (600<out.length+([32]:O).length)) (cond ((0:Int)==0) (5:Int) 0) 0:=⟨_,rfl⟩
   refine(((mj (ag l 0)).and (Cm vs cs nr line out aA 0 [32] (by omega) (by simp))).and (Cm vs cs nr line (out++[32]) aA i (aH (ag l 0)) (by simp;omega) (by omega))).nm fun n ⟨⟨m,g⟩,e3⟩=> ?_
   rw [<-r]at g;rw [oR,a0];simp only [À,Y,ez,Z,m,g,e3];refine⟨_,rfl, ?_⟩
   unfold fk;dsimp only
   by_cases d:600<out.length+([32]++aH (ag l 0)).length
   .rw [if_pos d]
    refine⟨by omega, ?_⟩
    rw [Ä]at d;rw [hJ (show 600<(out++([32]:O)).length+(aH (ag l 0)).length by rw [Ä];omega),Y,r]
    cases decide (600<out.length+([32]:O).length)<;>rfl
   .rw [if_neg d]
    rw [Ä]at d;rw [hL (show ¬600<(out++([32]:O)).length+(aH (ag l 0)).length by rw [Ä];omega),ez,r,hL (show ¬600<out.length+([32]:O).length by omega),ez,Ë]
    exact rfl
  .rw [if_neg k1,à]
   refine((mj (ag l 0)).and (Cm vs cs nr line out aA 0 (aH (ag l 0)) (by omega) (by omega))).nm fun n ⟨m,g⟩=> ?_
   rw [oR,a0,bC k1];simp only [À,Y,ez,Z,m,g];refine⟨_,rfl, ?_⟩
   unfold fk;dsimp only
   by_cases d:600<out.length+(aH (ag l 0)).length
   .rw [if_pos d,hJ d];exact⟨by omega,rfl⟩
   .rw [if_neg d,hL d];exact rfl
 .have ho:=h.out
  refine(Cm vs cs nr line out aA 0 [10] (by omega) (by simp)).nm fun n g=> ?_
  rw [oR,g,if_neg (show ¬(34:Int)=33 by omega),if_pos rfl]
  refine⟨_,rfl, ?_⟩
  unfold fk;dsimp only
  by_cases d:600<out.length+([10]:O).length
  .rw [if_pos d,hJ d];exact⟨by omega,rfl⟩
  .rw [if_neg d,hL d];exact rfl
theorem tg {l:List V} {c k:Int} {j:Nat} (h:(l.length:Int)=bQ c k) (hj:(j:Int)<bQ c k):aM l j=some (ag l j):=by
 show l[j]? =_;rw [ag,Å,Ç (show j<l.length by omega)];rfl
theorem aDC {c q:Int} {x y:V} (b:dQ c x y=.inl q):q≠0:=by
 have d: ∀r:Int×Bool,oZ r=.inl q->q≠0:=fun r f=>by
  obtain⟨h,g⟩:=r;cases g
  .cases f;omega
  .cases f
 unfold dQ at b;split at b
 .unfold cK at b
  split at b
  .exact d _ b
  split at b
  .exact d _ b
  split at b
  .exact d _ b
  split at b
  .cases b;omega
  split at b
  .cases b
  .exact d _ b
 split at b
 .split at b
  .cases b;omega
  .cases b
 .cases b
theorem aDD (vs:ae) (cs:ai) (nr:Int) (line out:O) (aA:List V) (c k:Int) (t:O) (l:List V) (at0:Int) (h:pj vs cs nr line (aQ [] line) out aA) (hl: ∀v∈l,bR v) (ho:tf vs c k t l) (hc:c=1\/c=2\/c=3\/c=6\/c=9\/c=10\/c=11\/(12<=c/\c<=29)):
  W fun n=> ∃x,HS n vs cs nr 0 line out aA 0 c k t l=some x/\IO nr line (if c=3\/c=6 then gQ ⟨vs,cs,aA,out⟩ at0 c k l else ln (jr nr line (aQ [] line) c k t l) fun v=>eH ⟨vs,cs,aA,out⟩ at0 v) x:=by
 obtain⟨af,g,az,z,ah,a6⟩:=ho;have u:=eK hl 0;have o1:=eK hl 1;have l0:=kx u;have i:=h.line;have aj:=h.fs;have a7:=h.nr;have push:=fun v=>Cl vs cs nr line out aA v at0 h.sl
 rcases hc with rfl|rfl|rfl|rfl|rfl|rfl|rfl|hc
 .refine((mh k).and (push (nV k))).nm fun n ⟨f,x,d,b⟩=> ?_
  rw [iJ,f];simp only [À,Y,ez,Z,d];exact⟨x,rfl,b⟩
 .refine(((qM t).and (pk vs cs nr line out aA 3)).and (push (tV t))).nm fun n ⟨⟨r,f⟩,x,d,b⟩=> ?_
  rw [iJ,r,f,if_neg (show ¬((2:Int)=3\/(2:Int)=6) by omega),jr,if_neg (show ¬(2:Int)=1 by omega),if_pos rfl]
  simp only [À,Y,ez,Z,d];by_cases h3:300<t.length
  .rw [hJ (show (300:Int)<(t.length:Int) by omega),if_pos h3]
   exact⟨_,rfl,by omega,rfl⟩
  .rw [hL (show ¬(300:Int)<(t.length:Int) by omega),if_neg h3]
   exact⟨x,rfl,b⟩
 .obtain⟨p,q⟩:=af (.inl rfl)
  refine(push (ag vs k.toNat)).nm fun n ⟨x,e,e'⟩=> ?_
  rw [iJ,ph p q,pf p q];simp only [À,Y,ez,Z,e];exact⟨x,rfl,e'⟩
 .have a0:=tg (l:=l) (j:=0) g (by rw [bQ];simp)
  have d0:decide ((0:Int)<=0/\(0:Int)<(l.length:Int))=true:=hJ (by rw [g,bQ];simp)
  refine(((Cn (ag l 0)).and (Uk vs cs nr 0 k (dm (ag l 0)) h.cl)).and (push (fC cs k (dm (ag l 0))))).nm fun n ⟨⟨⟨s,r,f⟩,d⟩,x,b,m⟩=> ?_
  rw [iJ,a0,d0];simp only [À,Y,ez,Z,r,f,d,b];exact⟨x,rfl,m⟩
 .have a0:=tg (l:=l) (j:=0) g (by rw [bQ];simp)
  have d0:decide ((0:Int)<=0/\(0:Int)<(l.length:Int))=true:=hJ (by rw [g,bQ];simp)
  refine(((BV u).and (aCg line (cN (aJ (ag l 0))) i aj)).and (push (jM line (aQ [] line) (cN (aJ (ag l 0)))))).nm fun n ⟨⟨r,f⟩,x,d,b⟩=> ?_
  rw [iJ,a0,d0];simp only [À,Y,ez,Z,r,f,d];exact⟨x,rfl,b⟩
 .have hw:wrap .i64 (nr*1000000)=1000000*nr:=by rw [Á];omega
  refine((mh (1000000*nr)).and (push (nV (1000000*nr)))).nm fun n ⟨f,x,d,b⟩=> ?_
  rw [iJ,hw];simp only [À,Y,ez,Z,f,d];exact⟨x,rfl,b⟩
 .have hw:wrap .i64 (((aQ [] line).length:Int)*1000000)=1000000*((aQ [] line).length:Int):=by rw [Á];omega
  refine(((JS line i).and (mh (1000000*((aQ [] line).length:Int)))).and (push (nV (1000000*((aQ [] line).length:Int))))).nm fun n ⟨⟨r,f⟩,x,d,b⟩=> ?_
  rw [iJ,r];simp only [À,Y,ez,Z,hw,f,d];exact⟨x,rfl,b⟩
 rw [if_neg (show ¬(c=3\/c=6) by omega)]
 by_cases bd:c<=23
 .have ht:bQ c k=2:=by rw [bQ,if_neg (by omega),if_neg (by omega),if_neg (by omega),if_pos (by omega)]
  have a0:=tg (l:=l) (j:=0) g (by omega)
  have a1:=tg (l:=l) (j:=1) g (by omega)
  have d0:decide ((0:Int)<=0/\(0:Int)<(l.length:Int))=true:=hJ (by omega)
  have d1:decide ((0:Int)<=1/\(1:Int)<(l.length:Int))=true:=hJ (by omega)
  have hv:jr nr line (aQ [] line) c k t l=dQ c (ag l 0) (ag l 1):=by
   rw [jr,if_neg (by omega),if_neg (by omega),if_neg (by omega),if_neg (by omega),if_neg (by omega),if_neg (by omega),if_neg (by omega),if_neg (by omega),if_neg (by omega),if_neg (by omega),if_neg (by omega)]
  rw [hv];have hw:wrap .i64 (wrap .i64 (c-12)+9)=c-12+9:=by rw [Á,Á];omega
  cases hm:dQ c (ag l 0) (ag l 1)with
  |inl q=>
   have hq:=aDC hm;refine((Uw c u o1 (by omega)).and (pk vs cs nr line out aA q)).nm fun n ⟨⟨v,f,d⟩,b⟩=> ?_
   rw [hm]at f;rw [iJ,a0,a1,d0,d1,hw,bC (show c≠1 by omega),bC (show c≠2 by omega),bC (show c≠3 by omega),bC (show c≠6 by omega),bC (show c≠9 by omega),bC (show c≠10 by omega),bC (show c≠11 by omega),bC (show c≠24 by omega),bC (show c≠25 by omega),bC (show c≠26 by omega),bC (show c≠27 by omega),bC (show c≠28 by omega),bC (show c≠29 by omega)]
   simp only [Y,ez,Z,f,gP,show(q !=0)=true by simpa using hq,b]
   exact⟨_,rfl,hq,rfl⟩
  |inr w=>
   refine((Uw c u o1 (by omega)).and (push w)).nm fun n ⟨⟨v,f,d⟩,x,b,m⟩=> ?_
   have ak:=d w hm;subst ak;rw [hm]at f;rw [iJ,a0,a1,d0,d1,hw,bC (show c≠1 by omega),bC (show c≠2 by omega),bC (show c≠3 by omega),bC (show c≠6 by omega),bC (show c≠9 by omega),bC (show c≠10 by omega),bC (show c≠11 by omega),bC (show c≠24 by omega),bC (show c≠25 by omega),bC (show c≠26 by omega),bC (show c≠27 by omega),bC (show c≠28 by omega),bC (show c≠29 by omega)]
   simp only [Y,ez,Z,f,gP,show((0:Int) !=0)=false from rfl,b];exact⟨x,rfl,m⟩
 have al:c=24\/c=25\/c=26\/c=27\/c=28\/c=29:=by omega
 have one:c=24\/c=26\/c=27\/c=28->decide ((0:Int)<=0/\(0:Int)<(l.length:Int))=true/\aM l 0=some (ag l 0):=fun hh=>by
  have ht:bQ c k=1:=by rw [bQ,if_neg (by omega),if_neg (by omega),if_neg (by omega),if_neg (by omega)]
  exact⟨hJ (by omega),tg (j:=0) g (by omega)⟩
 rcases al with rfl|rfl|rfl|rfl|rfl|rfl
 .obtain⟨d0,a0⟩:=one (by simp)
  refine((((mj (ag l 0)).and (Vr t (aH (ag l 0)) (z (.inl rfl)) (by omega))).and (wN (kz t (aH (ag l 0))))).and (push (bV (kz t (aH (ag l 0)))))).nm fun n ⟨⟨⟨f,d⟩,b⟩,x,m,e5⟩=> ?_
  rw [iJ,a0,d0];simp only [À,Y,ez,Z,f,d,b,m];exact⟨x,rfl,e5⟩
 .refine(((Vr t line (z (.inr rfl)) i).and (wN (kz t line))).and (push (bV (kz t line)))).nm fun n ⟨⟨d,b⟩,x,m,e5⟩=> ?_
  rw [iJ];simp only [À,Y,ez,Z,d,b,m];exact⟨x,rfl,e5⟩
 .obtain⟨d0,a0⟩:=one (by simp)
  refine(((JM (ag l 0)).and (wN (!gK (ag l 0)))).and (push (bV (!gK (ag l 0))))).nm fun n ⟨⟨f,d⟩,x,b,m⟩=> ?_
  rw [iJ,a0,d0];simp only [À,Y,ez,Z,f,d,b];exact⟨x,rfl,m⟩
 .obtain⟨d0,a0⟩:=one (by simp)
  have hw:wrap .i64 (0-aJ (ag l 0))=0-aJ (ag l 0):=by have:=eF (jF u);rw [Á];omega
  refine(((nu u.2.1).and (mh (0-aJ (ag l 0)))).and (push (nV (0-aJ (ag l 0))))).nm fun n ⟨⟨f,d⟩,x,b,m⟩=> ?_
  rw [iJ,a0,d0];simp only [À,Y,ez,Z,f,hw,d,b];exact⟨x,rfl,m⟩
 .obtain⟨d0,a0⟩:=one (by simp)
  refine(((JM (ag l 0)).and (wN (gK (ag l 0)))).and (push (bV (gK (ag l 0))))).nm fun n ⟨⟨f,d⟩,x,b,m⟩=> ?_
  rw [iJ,a0,d0];simp only [À,Y,ez,Z,f,d,b];exact⟨x,rfl,m⟩
 .obtain⟨p1,p2,p3⟩:=ah rfl
  have ht:bQ 29 k=k:=by rw [bQ];simp
  refine((aCG t l hl (by omega) p3).and (push (iO t l))).nm fun n ⟨d,x,b,m⟩=> ?_
  rw [iJ];simp only [À,Y,ez,Z,d,b];exact⟨x,rfl,m⟩
def qS (cells:Int) (cs:List VC):Prop:=((∀c∈cs,CW cells c)/\cs.Pairwise CL)/\cs.length<=40
theorem aDE {cells:Int} {cs:List VC} (h:qS cells cs) (nm:Int) (key:O):qS cells (nw cs nm key):=by
 unfold nw;split
 .rename_i i hi
  rw [<-List.eraseIdx_eq_take_drop_succ];have b:=List.eraseIdx_sublist cs i;exact⟨⟨fun c d=>h.1.1 c (b.subset d),h.1.2.sublist b⟩,by have:=b.length_le;have:=h.2;omega⟩
 .exact h
theorem VA {cs:List VC} {nm:Int} {key:O}: ∀a∈cs.take (gk cs nm key),ea a.1 a.2.1 nm key:=by
 intro a b;obtain⟨j,hj,rfl⟩:=ä.1 b;rw [ã]at hj;rw [List.getElem_take];unfold gk at hj;cases e:cs.findIdx? (fun c=>bo (¬ea c.1 c.2.1 nm key))with
 |none=>
  rw [List.findIdx?_eq_none_iff]at e
  have:=e cs[j] (Æ (by omega))
  exact Ø fun h=>by rw [aB h]at this;cases this
 |some i=>
  rw [e]at hj;have hj:j<min i cs.length:=hj;obtain⟨f,g,d⟩:=á.1 e
  have:=d j (by omega)
  exact Ø fun h=>by rw [aB h]at this;exact this rfl
theorem VB {cells:Int} {cs:List VC} {nm:Int} {key:O} (h:qS cells cs) (g:fB cs nm key=none): ∀b∈cs.drop (gk cs nm key),ea nm key b.1 b.2.1:=by
 intro b m;obtain⟨j,hj,rfl⟩:=ä.1 m;rw [ë]at hj;rw [List.getElem_drop];cases e:cs.findIdx? (fun c=>bo (¬ea c.1 c.2.1 nm key))with
 |none=>
  have:gk cs nm key=cs.length:=by unfold gk;rw [e]
  omega
 |some i=>
  have t:gk cs nm key=i:=by unfold gk;rw [e]
  obtain⟨d,f,u⟩:=á.1 e
  have p: ¬ea cs[i].1 cs[i].2.1 nm key:=fun h=>by rw [az (fun k=>k h)]at f;cases f
  have hy:ea nm key cs[i].1 cs[i].2.1:=by
   rcases YZ cs[i].1 cs[i].2.1 nm key with q|q|q
   .exact absurd q p
   .exact absurd q (Uo g _ (Æ d))
   .exact q
  have hk:gk cs nm key+j<cs.length:=by omega
  by_cases r:j=0
  .subst r
   have s:cs[gk cs nm key+0]=cs[i]:=getElem_congr_idx (by omega)
   rw [s];exact hy
  .exact El hy (Þ.1 h.1.2 i (gk cs nm key+j) d hk (by omega))
theorem aDF {cells:Int} {cs:List VC} (h:qS cells cs) {nm:Int} {key:O} {v:V} (u:0<=nm) (z:nm<cells) (h3:key.length<=300) (s:bR v) {l:List VC} (e:ll cs nm key v=some l):qS cells l:=by
 unfold ll at e;cases hp:fB cs nm key with
 |some i=>
  rw [hp]at e;obtain⟨hi,hq⟩:=oY hp;simp only [Ç hi]at e
  cases e;have d:=h.1.1 cs[i] (Æ hi);refine⟨⟨fun c p=> ?_, ?_⟩,by rw [Ù];exact h.2⟩
  .rcases ß p with h'|rfl
   .exact h.1.1 c h'
   .exact⟨d.1,d.2.1,d.2.2.1,s⟩
  .have g: ∀j (hj:j<cs.length),((cs.set i (cs[i].1,cs[i].2.1,v))[j]'(by rw [Ù];exact hj)).1=cs[j].1/\((cs.set i (cs[i].1,cs[i].2.1,v))[j]'(by rw [Ù];exact hj)).2.1=cs[j].2.1:=by
    intro j hj;rw [List.getElem_set];split
    .rename_i q;subst q;exact⟨rfl,rfl⟩
    .exact⟨rfl,rfl⟩
   rw [Þ];intro a b k f r;rw [Ù]at k f;have t:=g a k;have kb:=g b f;have:=Þ.1 h.1.2 a b k f r;unfold CL at this |-;rw [t.1,t.2,kb.1,kb.2];exact this
 |none=>
  rw [hp]at e;have e:(if 40<=cs.length then none else some (cs.take (gk cs nm key)++((nm,key,v)::cs.drop (gk cs nm key))))=some l:=e
  by_cases m:40<=cs.length
  .rw [if_pos m]at e;cases e
  rw [if_neg m]at e;cases e;refine⟨⟨fun c d=> ?_, ?_⟩,by have:=JP cs nm key;simp;omega⟩
  .rcases È.1 d with d|d
   .exact h.1.1 c (Ý d)
   rcases Ú.1 d with rfl|d
   .exact⟨u,z,h3,s⟩
   .exact h.1.1 c (Ü d)
  .rw [ó,List.pairwise_cons]
   refine⟨h.1.2.sublist (List.take_sublist _ _),⟨fun b f=>VB h hp b f,h.1.2.sublist (List.drop_sublist _ _)⟩,fun a k b f=> ?_⟩
   rcases Ú.1 f with rfl|f
   .exact VA a k
   .exact El (VA a k) (VB h hp b f)
structure fD (vars cells:Int) (s:cZ):Prop where
 v: ∀v∈s.vs,bR v
 vl:(s.vs.length:Int)=vars
 c:qS cells s.cs
 out:s.out.length<=600
 k: ∀v∈s.aA,bR v
 sl:s.aA.length<=64
def nD (vars cells:Int) (j:Int->Prop) (r:gC):Prop:=match r with
 |.err c=>1<=c/\c<=7
 |.halt s=>fD vars cells s
 |.go k s=>fD vars cells s/\j k
def Co (r:Sum Int V):Prop:=match r with
 |.inl c=>1<=c/\c<=7
 |.inr v=>bR v
theorem Kv {vars cells:Int} {j:Int->Prop} {r:Sum Int V} {f:V->gC} (h:Co r) (k: ∀v,bR v->nD vars cells j (f v)):nD vars cells j (ln r f):=by
 cases r
 .exact h
 .exact k _ h
theorem Kw {op x y:Int} (b:aW x):Co (cK op x y):=by
 cases e:cK op x y with
 |inr v=>exact aCs b e
 |inl c=>
  unfold cK at e;have k: ∀r,oZ r=.inl c->c=1:=fun r h=>by
   obtain⟨p,q⟩:=r;cases q<;>cases h;rfl
  have:c=1\/c=2:=by
   split at e
   .exact .inl (k _ e)
   split at e
   .exact .inl (k _ e)
   split at e
   .exact .inl (k _ e)
   split at e
   .cases e;exact .inr rfl
   split at e
   .cases e
   .exact .inl (k _ e)
  show 1<=c/\c<=7;omega
theorem aDG {c:Int} {x y:V} (b:bR x):Co (dQ c x y):=by
 unfold dQ;split
 .exact Kw (jF b)
 split
 .split
  .exact⟨by omega,by omega⟩
  .exact rP (by omega)
 .exact uw _
theorem aDH {nr:Int} {line:O} {fs:List O} {c k:Int} {t:O} {l:List V} (f: ∀v∈l,bR v) (z:c=1->aW k) (hn:0<=nr/\nr<=2000000) (hf:fs.length<=1048576):Co (jr nr line fs c k t l):=by
 have g:=eK f 0;rw [jr];by_cases c1:c=1
 .rw [if_pos c1];exact lR (z c1)
 rw [if_neg c1];by_cases h:c=2
 .rw [if_pos h]
  by_cases i:300<t.length
  .rw [if_pos i];exact⟨by omega,by omega⟩
  .rw [if_neg i];exact rP (by omega)
 rw [if_neg h];by_cases j:c=9
 .rw [if_pos j];exact aCi _ _ _
 rw [if_neg j];by_cases m:c=10
 .rw [if_pos m];exact lR (fW (by omega))
 rw [if_neg m];by_cases p:c=11
 .rw [if_pos p];exact lR (fW (by omega))
 rw [if_neg p];by_cases q:c=24
 .rw [if_pos q];exact uw _
 rw [if_neg q];by_cases r:c=25
 .rw [if_pos r];exact uw _
 rw [if_neg r];by_cases s:c=26
 .rw [if_pos s];exact uw _
 rw [if_neg s];by_cases u:c=27
 .rw [if_pos u];have:=eF (jF g);exact lR (fW (by omega))
 rw [if_neg u];by_cases b:c=28
 .rw [if_pos b];exact uw _
 rw [if_neg b];by_cases d:c=29
 .rw [if_pos d];exact aCH t f
 .rw [if_neg d];exact aDG g
theorem th {vars cells:Int} {j:Int->Prop} {s:cZ} {at0:Int} {v:V} (h:fD vars cells s) (d:bR v) (hj:j at0):nD vars cells j (eH s at0 v):=by
 unfold eH;split
 .exact⟨by omega,by omega⟩
 .refine⟨⟨h.v,h.vl,h.c,h.out,fun x b=> ?_, ?_⟩,hj⟩
  .rcases È.1 b with b|b
   .exact h.k x b
   .rw [Ã.1 b];exact d
  .have:=h.sl
   simp only [Ä,Ò,å];omega
theorem VD {vars cells:Int} {j:Int->Prop} {s:cZ} {at0:Int} {t:O} (h:fD vars cells s) (hj:j at0):nD vars cells j (fk s at0 t):=by
 unfold fk;split
 .exact⟨by omega,by omega⟩
 .exact⟨⟨h.v,h.vl,h.c,by simp only [Ä];omega,h.k,h.sl⟩,hj⟩
theorem VE {vars cells:Int} {j:Int->Prop} {s:cZ} {at0 k:Int} {key:O} {v:V} (h:fD vars cells s) (d:0<=k) (f:k<cells) (g:key.length<=300) (b:bR v) (hj:j at0):nD vars cells j (jq s at0 k key v):=by
 unfold jq;split
 .exact⟨by omega,by omega⟩
 .rename_i i e
  exact th ⟨h.v,h.vl,aDF h.c d f g b e,h.out,h.k,h.sl⟩ b hj
theorem VF {vs:List V} (h: ∀v∈vs,bR v) {k:Nat} {v:V} (b:bR v): ∀x∈vs.set k v,bR x:=fun x d=>by
 rcases ß d with f|rfl
 .exact h x f
 .exact b
theorem VG {cells:Int} {cs:List VC} (h:qS cells cs) (nm:Int) (key:O):bR (fC cs nm key):=Kq fun c b=>(h.1.1 c b).2.2.2
theorem VH (v:V):(dm v).length<=300:=by unfold dm;simp;omega
theorem aDI {vars cells:Int} {j:Int->Prop} {s:cZ} {at0 c k:Int} {l:List V} (h:fD vars cells s) (f: ∀v∈l,bR v) (g:c=6\/c=7\/c=8\/c=35->0<=k/\k<cells) (hj:j at0):nD vars cells j (gQ s at0 c k l):=by
 have i:=eK f 0;have r:=eK f 1;have m:=eK h.v k.toNat;unfold gQ;split
 .exact th h m hj
 split
 .exact th ⟨VF h.v i,by rw [Ù];exact h.vl,h.c,h.out,h.k,h.sl⟩ i hj
 split
 .exact Kv (Kw (jF m)) fun v b=>th ⟨VF h.v b,by rw [Ù];exact h.vl,h.c,h.out,h.k,h.sl⟩ b hj
 split
 .exact th h (VG h.c _ _) hj
 split
 .rename_i d
  obtain⟨p,q⟩:=g (by omega)
  exact VE h p q (VH _) r hj
 split
 .rename_i d
  obtain⟨p,q⟩:=g (by omega)
  exact Kv (Kw (jF (VG h.c _ _))) fun v b=>VE h p q (VH _) b hj
 .exact⟨⟨h.v,h.vl,aDE h.c _ _,h.out,h.k,h.sl⟩,hj⟩
theorem aDJ {vars cells nr:Int} {line:O} {fs:List O} {j:Int->Prop} {s:cZ} {at0 c k:Int} {t:O} {l:List V} (h:fD vars cells s) (d: ∀v∈l,bR v) (f:c=6\/c=7\/c=8\/c=35->0<=k/\k<cells) (g:c=1->aW k) (i:0<=nr/\nr<=2000000) (m:fs.length<=1048576)
  (hj:c≠36->j (at0+1)) (hk:c=30\/c=31->j k):nD vars cells j (gR nr line fs s at0 c k t l):=by
 unfold gR;split
 .exact h
 rename_i b;have hj:=hj b;split
 .exact⟨h,hk (by omega)⟩
 split
 .split
  .exact⟨h,hj⟩
  .exact⟨h,hk (by omega)⟩
 split
 .exact⟨h,hj⟩
 split
 .exact VD h hj
 split
 .exact VD h hj
 split
 .exact aDI h d f hj
 .exact Kv (aDH d g i m) fun v p=>th h p hj
theorem aDK {vars cells nr:Int} {line:O} {fs:List O} {j:Int->Prop} {s:cZ} {at0 c k:Int} {t:O} (h:fD vars cells s) (d:c=6\/c=7\/c=8\/c=35->0<=k/\k<cells) (f:c=1->aW k) (g:0<=nr/\nr<=2000000) (i:fs.length<=1048576)
  (hj:c≠36->j (at0+1)) (hk:c=30\/c=31->j k):nD vars cells j (gS nr line fs s at0 c k t):=by
 unfold gS;split
 .exact⟨by omega,by omega⟩
 .exact aDJ ⟨h.v,h.vl,h.c,h.out,fun v b=>h.k v (Ý b),by have:=h.sl;rw [ã];omega⟩ (fun v b=>h.k v (Ü b)) d f g i hj hk
theorem VI {vs:List V} {c k n cells:Int} {t:O} (h:iD c k t n vs.length cells):wT vs c k t:=by
 unfold iD at h;refine⟨⟨by omega,by omega⟩,fun b=>by omega,fun b=> ?_,fun b=> ?_,fun b=> ?_,fun b=>by omega⟩
 .rcases h with h|h|h|h|h|h|h|h|h
  .exact h.2.1
  all_goals omega
 .rcases h with h|h|h|h|h|h|h|h|h
  .omega
  .omega
  .omega
  .omega
  .exact h.2.2
  all_goals omega
 .rcases h with h|h|h|h|h|h|h|h|h
  .omega
  .omega
  .omega
  .omega
  .omega
  .exact⟨h.2.1,h.2.2.1,h.2.2.2⟩
  all_goals omega
theorem Kx {ops:ae} {vars cells nr:Int} {line:O} {fs:List O} {s:cZ} (d:fy ops vars cells) (h:fD vars cells s) (f:0<=nr/\nr<=2000000) (g:fs.length<=1048576) (i:Nat) (hi:i<ops.length):
  nD vars cells (fun j=> ∃q:Nat,j=q/\q<ops.length) (gS nr line fs s i ops[i].1 ops[i].2.1 ops[i].2.2):=by
 obtain⟨r,t,k,m⟩:=d;have hw:=m _ (Æ hi);unfold iD at hw;refine aDK h (fun b=>by omega) (fun b=> ?_) f g (fun b=> ?_) (fun b=>⟨ops[i].2.1.toNat,by omega,by omega⟩)
 .rcases hw with h|h|h|h|h|h|h|h|h
  .exact h.2.1
  all_goals omega
 .have p:=k (by omega)
  by_cases e:i=ops.length-1
  .subst e;exact absurd p b
  .exact⟨i+1,by omega,by omega⟩
noncomputable def lu (nr:Int) (line:O) (fs:List O) (ops:ae):Nat->cZ->Int->Sum Int cZ
 |0,_,_=>.inl 6
 |k+1,s,a=>match au ops a with
  |none=>.inl 7
  |some o=>match gS nr line fs s a o.1 o.2.1 o.2.2 with
   |.err c=>.inl c
   |.halt s'=>.inr s'
   |.go j s'=>lu nr line fs ops k s' j
theorem Ky {nr:Int} {line:O} {fs:List O} {ops:ae} {k:Nat} {s:cZ} {i:Nat} (hi:i<ops.length):lu nr line fs ops (k+1) s i=match gS nr line fs s i ops[i].1 ops[i].2.1 ops[i].2.2 with
   |.err c=>.inl c
   |.halt s'=>.inr s'
   |.go j s'=>lu nr line fs ops k s' j:=by
 rw [lu,bg hi]
def tj {α:Type}:Sum α α->α
 |.inl x=>x
 |.inr x=>x
theorem VJ {α:Type} (x:Sum α α) (f g:α->Option α) (b: ∀x,f x=some x) (d: ∀x,g x=some x):ay x f g=some (tj x):=by
 cases x
 .exact b _
 .exact d _
theorem fD.st {vars cells nr:Int} {line:O} {s:cZ} (h:fD vars cells s) (g:vars<=8) (b:0<=nr/\nr<=2000000) (d:line.length<=1000000):pj s.vs s.cs nr line (aQ [] line) s.out s.aA:=
 ⟨h.v,by have:=h.vl;omega,fun c f=>(h.c.1.1 c f).2.2.2,by have:=h.c.2;omega,b,d,by have:=sX line [];omega,h.out,h.k,h.sl⟩
theorem VK (c k:Int) (t:O) (b:In c 1 36):W fun n=>AD n c k t=some (bQ c k):=W.succ (W.of fun n=>by
 obtain⟨d,f⟩:=b;rw [avF];obtain rfl|rfl|rfl|rfl|rfl|rfl|rfl|rfl|rfl|rfl|rfl|rfl|rfl|rfl|rfl|rfl|rfl|rfl|rfl|rfl|rfl|rfl|rfl|rfl|rfl|rfl|rfl|rfl|rfl|rfl|rfl|rfl|rfl|rfl|rfl|rfl:c=1\/c=2\/c=3\/c=4\/c=5\/c=6\/c=7\/c=8\/c=9\/c=10\/c=11\/c=12\/c=13\/c=14\/c=15\/c=16\/c=17\/c=18\/c=19\/c=20\/c=21\/c=22\/c=23\/c=24\/c=25\/c=26\/c=27\/c=28\/c=29\/c=30\/c=31\/c=32\/c=33\/c=34\/c=35\/c=36:=by omega
 all_goals rfl)
theorem VL (vs:ae) (cs:ai) (nr:Int) (line out:O) (aA:List V) (k:Int) (hk:0<=k/\k<=3) (d:aA.length<=64):W fun n=>AE n vs cs nr 0 line out aA 0 k=some (if (aA.length:Int)<k then(É k.toNat v0,vs,cs,nr,0,line,out,aA,7)else(aA.drop (aA.length-k.toNat),vs,cs,nr,0,line,out,aA.take (aA.length-k.toNat),0)):=by
 refine(pk vs cs nr line out aA 7).nm fun n e=> ?_
 have hw:wrap .i64 ((aA.length:Int)-k)=(aA.length:Int)-k:=by rw [Á];omega
 have f:(4000000:Int)<=(aD:Int):=by unfold aD;omega
 rw [avG,hw,e];by_cases h:(aA.length:Int)<k
 .rw [hJ (show (aA.length:Int)-k<0 by omega),Y,Z,hJ (show (0:Int)<=k/\k<=k/\k<=(aD:Int) by omega),if_pos h]
  exact rfl
 .obtain⟨j,hj⟩: ∃j:Nat,j=aA.length-k.toNat:=⟨_,rfl⟩
  have b:(aA.length:Int)-k=(j:Int):=by omega
  rw [if_neg h,b,<-hj,Â,hL (show ¬(j:Int)<0 by omega),hJ (show (0:Int)<=(j:Int)/\(j:Int)<=(aA.length:Int) by omega),BU,cA (by simp;omega),Ô (show j<=aA.length by omega)]
  exact rfl
def Cp (nr:Int) (line:O) (ops:ae) (n m:Nat) (t:Int) (r:gC) (y:Option (Sum WI WI)):Prop:=match r with
 |.err c=> ∃x,y=some x/\c≠0/\(tj x).2.2.2.2.2.2.2=c
 |.halt s=>y=some (.inr (wU nr line s))
 |.go j s=>y=fA n m s.vs s.cs nr 0 line s.out s.aA 0 t j ops
theorem VM {nr:Int} {line:O} {ops:ae} {n m:Nat} {t j:Int} {r:gC} {x:WI} (h:IO nr line r x) (b:mB r j):Cp nr line ops n (m+1) t r (fA n (m+1) x.1 x.2.1 x.2.2.1 x.2.2.2.1 x.2.2.2.2.1 x.2.2.2.2.2.1 x.2.2.2.2.2.2.1 x.2.2.2.2.2.2.2 t j ops):=by
 cases r with
 |err c=>
  obtain⟨d,f⟩:=h;refine⟨.inl x, ?_,d,f⟩
  .rw [nq,show(x.2.2.2.2.2.2.2==(0:Int))=false by rw [f];simpa using d];rfl
 |halt s=>exact absurd h id
 |go q s=>
  have h:x=wU nr line s:=h;have b:q=j:=b;subst h b;exact rfl
theorem VN (s:cZ) (at0:Int) (t:O):mB (fk s at0 t) at0:=by
 unfold fk;split
 .exact trivial
 .exact rfl
theorem aDL {vars cells nr:Int} {line:O} {s:cZ} {ops:ae} (ho:fy ops vars cells) (h:fD vars cells s) (hv:vars<=8) (hn:0<=nr/\nr<=2000000) (al:line.length<=1000000) (i:Nat) (hi:i<ops.length):
  W fun n=> ∀m (t:Int),1<=t/\t<=20000->Cp nr line ops n (m+1) (t+1) (gS nr line (aQ [] line) s i ops[i].1 ops[i].2.1 ops[i].2.2) (fA n (m+2) s.vs s.cs nr 0 line s.out s.aA 0 t i ops):=by
 obtain⟨o1,o2,o3,o4⟩:=ho;have hw:=o4 _ (Æ hi);have f:=h.st (line:=line) (nr:=nr) hv hn al;have hz:=bg hi;generalize ops[i]=o at hw hz
 obtain⟨c,k,t0⟩:=o;have hq:wT s.vs c k t0:=VI (n:=ops.length) (cells:=cells) (by rw [h.vl];exact hw)
 obtain⟨t1,t3⟩:=Vu hq;have au:=h.sl;have af:wrap .i64 ((i:Int)+1)=(i:Int)+1:=by rw [Á];omega
 have d: ∀t:Int,1<=t/\t<=20000->wrap .i64 (t+1)=t+1:=fun t z=>by rw [Á];omega
 by_cases hs:(s.aA.length:Int)<bQ c k
 .refine((VK c k t0 hq.1).and (VL s.vs s.cs nr line s.out s.aA (bQ c k) ⟨t1,t3⟩ au)).mono fun n ⟨g,r⟩ m t z=> ?_
  rw [nq,hz,hL (show ¬(20000:Int)<t by omega)]
  simp only [Z,g,r,if_pos hs];rw [gS,if_pos hs];exact⟨_,rfl,by omega,rfl⟩
 obtain⟨j,hj⟩: ∃j:Nat,j=s.aA.length-(bQ c k).toNat:=⟨_,rfl⟩
 obtain⟨l,hl⟩: ∃l,l=s.aA.drop j:=⟨_,rfl⟩
 obtain⟨s',ah⟩: ∃s',s'=s.aA.take j:=⟨_,rfl⟩
 have aw: ∀v∈l,bR v:=fun v hv=>h.k v (Ü (hl▸hv))
 have ai:(l.length:Int)=bQ c k:=by rw [hl,ë];omega
 have h':pj s.vs s.cs nr line (aQ [] line) s.out s':=⟨f.v,f.vl,f.c,f.cl,f.nr,f.line,f.fs,f.out,fun v hv=>h.k v (Ý (ah▸hv)),by rw [ah,ã];omega⟩
 have ax:tf s.vs c k t0 l:=⟨hq.2.1,ai,hq.2.2.1,hq.2.2.2.1,hq.2.2.2.2.1,hq.2.2.2.2.2⟩;have u:gS nr line (aQ [] line) s i c k t0=gR nr line (aQ [] line) ⟨s.vs,s.cs,s',s.out⟩ i c k t0 l:=by rw [gS,if_neg hs];rw [<-hj,<-hl,<-ah]
 have pop:=VL s.vs s.cs nr line s.out s.aA (bQ c k) ⟨t1,t3⟩ au;rw [if_neg hs,<-hj,<-hl,<-ah]at pop;have ao:=VK c k t0 hq.1;have start: ∀ {P:Nat->Prop},W P->(∀n,P n->AD n c k t0=some (bQ c k)->AE n s.vs s.cs nr 0 line s.out s.aA 0 (bQ c k)=some (l,s.vs,s.cs,nr,0,line,s.out,s',0)-> ∀m (t:Int),1<=t/\t<=20000->wrap .i64 (t+1)=t+1->Cp nr line ops n (m+1) (t+1) (gR nr line (aQ [] line) ⟨s.vs,s.cs,s',s.out⟩ i c k t0 l) (fA n (m+2) s.vs s.cs nr 0 line s.out s.aA 0 t i ops))->W fun n=> ∀m (t:Int),1<=t/\t<=20000->Cp nr line ops n (m+1) (t+1) (gS nr line (aQ [] line) s i c k t0) (fA n (m+2) s.vs s.cs nr 0 line s.out s.aA 0 t i ops):=fun hp hk=>by
  rw [u];exact(hp.and (ao.and pop)).mono fun n ⟨a,b,c⟩ m t z=>hk n a b c m t z (d t z)
 have hc:c=36\/c=30\/c=31\/c=32\/(c=4\/c=5\/c=7\/c=8\/c=35\/c=33\/c=34)\/(c=1\/c=2\/c=3\/c=6\/c=9\/c=10\/c=11\/(12<=c/\c<=29)):=by
  obtain⟨p,q⟩:=hq.1;omega
 clear u hs;rcases hc with rfl|rfl|rfl|rfl|hc|hc
 .refine start (W.of fun _=>trivial) fun n _ g r m t z d=> ?_
  rw [nq,hz,hL (show ¬(20000:Int)<t by omega)]
  rw [Z];dsimp only
  rw [g,Z,r,Z];exact rfl
 .refine start (W.of fun _=>trivial) fun n _ g r m t z d=> ?_
  rw [nq,hz,hL (show ¬(20000:Int)<t by omega)]
  rw [Z];dsimp only
  rw [g,Z,r,Z,d];unfold gR;rw [if_neg (by omega),if_pos rfl,show((0:Int)==0)=true from rfl,Y,ez,show((0:Int) !=0)=false from rfl,ez,show((30:Int)==36)=false from rfl,ez,show((30:Int)==30)=true from rfl,Y]
  exact rfl
 .have bj:l.length=1:=by rw [bQ]at ai;simp at ai;omega
  have a0:aM l 0=some (ag l 0):=tg (l:=l) (j:=0) ai (by rw [bQ];simp)
  have d0:decide ((0:Int)<=0/\(0:Int)<(l.length:Int))=true:=hJ (by omega)
  refine start (JM (ag l 0)) fun n e0 g r m t z d=> ?_
  rw [nq,hz,hL (show ¬(20000:Int)<t by omega)]
  rw [Z];dsimp only
  rw [g,Z,r,Z,d,af];dsimp only
  rw [a0,d0,Z,e0,Z];unfold gR;rw [if_neg (by omega),if_neg (by omega),if_pos rfl]
  cases gK (ag l 0)
  .exact rfl
  .exact rfl
 .refine start (W.of fun _=>trivial) fun n _ g r m t z d=> ?_
  rw [nq,hz,hL (show ¬(20000:Int)<t by omega)]
  rw [Z];dsimp only
  rw [g,Z,r,Z,d,af];unfold gR;rw [if_neg (by omega),if_neg (by omega),if_neg (by omega),if_pos rfl,show((0:Int)==0)=true from rfl,Y,ez,show((0:Int) !=0)=false from rfl,ez,show((32:Int)==36)=false from rfl,ez,show((32:Int)==30)=false from rfl,ez,show((32:Int)==31)=false from rfl,ez,show((32:Int)==32)=true from rfl,Y]
  exact rfl
 .refine start (aDB s.vs s.cs nr line s.out s' (aQ [] line) c k t0 l ((i:Int)+1) h' aw ax hc) fun n ⟨x,e3,e4⟩ g r m t z d=> ?_
  have hd:gR nr line (aQ [] line) ⟨s.vs,s.cs,s',s.out⟩ i c k t0 l=if c=33 then fk ⟨s.vs,s.cs,s',s.out⟩ ((i:Int)+1) ((if k=1 then [32]else [])++aH (ag l 0))else if c=34 then fk ⟨s.vs,s.cs,s',s.out⟩ ((i:Int)+1) [10]else gQ ⟨s.vs,s.cs,s',s.out⟩ ((i:Int)+1) c k l:=by
   unfold gR;rw [if_neg (by omega),if_neg (by omega),if_neg (by omega),if_neg (by omega)]
   by_cases h1:c=33
   .rw [if_pos h1,if_pos h1]
   by_cases h2:c=34
   .rw [if_neg h1,if_neg h1,if_pos h2,if_pos h2]
   .rw [if_neg h1,if_neg h1,if_neg h2,if_neg h2,if_pos (by omega)]
  rw [hd];have hg:mB (if c=33 then fk ⟨s.vs,s.cs,s',s.out⟩ ((i:Int)+1) ((if k=1 then [32]else [])++aH (ag l 0))else if c=34 then fk ⟨s.vs,s.cs,s',s.out⟩ ((i:Int)+1) [10]else gQ ⟨s.vs,s.cs,s',s.out⟩ ((i:Int)+1) c k l) ((i:Int)+1):=by
   split
   .exact VN _ _ _
   split
   .exact VN _ _ _
   .exact Kt _ _ _ _ _
  have fin:=VM (ops:=ops) (n:=n) (m:=m) (t:=t+1) e4 hg;rw [nq,hz,hL (show ¬(20000:Int)<t by omega)]
  clear hd hg e4;rcases hc with rfl|rfl|rfl|rfl|rfl|rfl|rfl
  all_goals
   rw [Z];dsimp only
   rw [g,Z,r,Z,d,af];dsimp only
   rw [e3,Z];exact fin
 .refine start (aDD s.vs s.cs nr line s.out s' c k t0 l ((i:Int)+1) h' aw ax hc) fun n ⟨x,e3,e4⟩ g r m t z d=> ?_
  have hd:gR nr line (aQ [] line) ⟨s.vs,s.cs,s',s.out⟩ i c k t0 l=if c=3\/c=6 then gQ ⟨s.vs,s.cs,s',s.out⟩ ((i:Int)+1) c k l else ln (jr nr line (aQ [] line) c k t0 l) fun v=>eH ⟨s.vs,s.cs,s',s.out⟩ ((i:Int)+1) v:=by
   unfold gR;rw [if_neg (by omega),if_neg (by omega),if_neg (by omega),if_neg (by omega),if_neg (by omega),if_neg (by omega)]
   by_cases h1:c=3\/c=6
   .rw [if_pos h1,if_pos (by omega)]
   .rw [if_neg h1,if_neg (by omega)]
  rw [hd];have hg:mB (if c=3\/c=6 then gQ ⟨s.vs,s.cs,s',s.out⟩ ((i:Int)+1) c k l else ln (jr nr line (aQ [] line) c k t0 l) fun v=>eH ⟨s.vs,s.cs,s',s.out⟩ ((i:Int)+1) v) ((i:Int)+1):=by
   split
   .exact Kt _ _ _ _ _
   .exact Ck fun v=>qR _ _ _
  have fin:=VM (ops:=ops) (n:=n) (m:=m) (t:=t+1) e4 hg;rw [nq,hz,hL (show ¬(20000:Int)<t by omega)]
  clear hd hg e4;rw [Z];dsimp only
  rw [g,Z,r,Z,d,af];dsimp only
  rw [bC (show c≠36 by omega),bC (show c≠30 by omega),bC (show c≠31 by omega),bC (show c≠32 by omega),bC (show c≠4 by omega),bC (show c≠5 by omega),bC (show c≠7 by omega),bC (show c≠8 by omega),bC (show c≠35 by omega),bC (show c≠33 by omega),bC (show c≠34 by omega)]
  rw [e3,Z];exact fin
def Kz (nr:Int) (line:O) (r:Sum Int cZ) (x:WI):Prop:=match r with
 |.inl c=>c≠0/\x.2.2.2.2.2.2.2=c
 |.inr s=>x=wU nr line s
theorem VO {vars cells nr:Int} {line:O} {ops:ae} (f:fy ops vars cells) (u:vars<=8) (g:0<=nr/\nr<=2000000) (b:line.length<=1000000): ∀(k:Nat) (s:cZ) (i:Nat),fD vars cells s->i<ops.length->k<=20000->
  W fun n=> ∀m,k<m-> ∃x,fA n m s.vs s.cs nr 0 line s.out s.aA 0 (20001-(k:Int)) i ops=some x/\Kz nr line (lu nr line (aQ [] line) ops k s i) (tj x)
 |0,s,i,h,hi,_=>by
  refine(pk s.vs s.cs nr line s.out s.aA 6).mono fun n e m hm=> ?_
  obtain⟨m,rfl⟩: ∃q,m=q+1:=⟨m-1,by omega⟩
  rw [nq,hJ (show (20000:Int)<20001-((0:Nat):Int) by omega)]
  simp only [show ((0:Int)==0)=true from rfl,Y,e];exact⟨_,rfl,by omega,rfl⟩
 |k+1,s,i,h,hi,hk=>by
  have hf:(aQ [] line).length<=1048576:=by have:=sX line [];omega
  have z:=Kx (line:=line) f h g hf i hi;have d:=aDL f h u g b i hi;rw [Ky hi];have ht:(20001:Int)-((k+1:Nat):Int)+1=20001-(k:Int):=by omega
  generalize gS nr line (aQ [] line) s i ops[i].1 ops[i].2.1 ops[i].2.2=r at z d
  cases r with
  |err c=>
   refine d.mono fun n d m hm=> ?_
   obtain⟨m,rfl⟩: ∃q,m=q+2:=⟨m-2,by omega⟩
   obtain⟨x,e,p⟩:=d m (20001-((k+1:Nat):Int)) (by omega)
   exact⟨x,e,p⟩
  |halt s'=>
   refine d.mono fun n d m hm=> ?_
   obtain⟨m,rfl⟩: ∃q,m=q+2:=⟨m-2,by omega⟩
   exact⟨_,d m (20001-((k+1:Nat):Int)) (by omega),rfl⟩
  |go j s'=>
   obtain⟨h',q,rfl,hq⟩:=z;refine(d.and (VO f u g b k s' q h' hq (by omega))).mono fun n ⟨d,ih⟩ m hm=> ?_
   obtain⟨m,rfl⟩: ∃q,m=q+2:=⟨m-2,by omega⟩
   have e:=d m (20001-((k+1:Nat):Int)) (by omega)
   rw [ht]at e;obtain⟨x,p,t⟩:=ih (m+1) (by omega)
   exact⟨x,Eq.trans e p,t⟩
theorem VP {vars cells nr:Int} {line:O} {ops:ae} (d:fy ops vars cells) (g:vars<=8) (f:0<=nr/\nr<=2000000) (b:line.length<=1000000) (s:cZ) (h:fD vars cells s):
  W fun n=> ∃x,sy n s.vs s.cs nr 0 line s.out s.aA 0 ops=some x/\Kz nr line (lu nr line (aQ [] line) ops 20000 s 0) x:=by
 refine((VO d g f b 20000 s 0 h d.1 (by omega)).and (W.ge 20001)).nm fun n ⟨k,f⟩=> ?_
 obtain⟨x,e,i⟩:=k n (by omega)
 refine⟨tj x, ?_,i⟩
 rw [avD,show fA n n s.vs s.cs nr 0 line s.out s.aA 0 1 0 ops=some x from e,Z];exact VJ x _ _ (fun _=>rfl) (fun _=>rfl)
abbrev WE:=ae×(ai×Int×Int×af×af×O×af×O×Int×Bool)
def du (nr:Int) (a b:af) (line:O) (fs:af) (fu:Int) (dn:Bool) (s:cZ):WE:=(s.vs,s.cs,nr,0,a,b,line,fs,s.out,fu,dn)
def KA (nr:Int) (a b:af) (line:O) (fs:af) (fu:Int) (dn:Bool) (r:Sum Int cZ) (x:WE):Prop:=match r with
 |.inl c=>c≠0/\x.2.2.2.1=c
 |.inr s=>x=du nr a b line fs fu dn s
theorem VQ {vars cells nr:Int} {a b:af} {line:O} {fu:Int} {dn:Bool} {ops:ae} (z:fy ops vars cells) (hv:vars<=8) (hn:0<=nr/\nr<=2000000) (d:line.length<=1000000): ∀(k:Nat) (s:cZ) (i:Nat),fD vars cells s->i<ops.length->k<=20000->
  W fun n=> ∀m,k<m-> ∃x,vr n m s.vs s.cs nr 0 a b line (aQ [] line) s.out fu dn s.aA (20000-(k:Int)) i ops=some x/\KA nr a b line (aQ [] line) fu dn (lu nr line (aQ [] line) ops k s i) (tj x)
 |0,s,i,h,hi,_=>by
  refine(ky s.vs s.cs nr a b line (aQ [] line) s.out fu dn 6).mono fun n e m hm=> ?_
  obtain⟨m,rfl⟩: ∃q,m=q+1:=⟨m-1,by omega⟩
  rw [sI,show((20000:Int)-((0:Nat):Int)==20000)=true from rfl];simp only [show ((0:Int)==0)=true from rfl,Y,e];exact⟨_,rfl,by omega,rfl⟩
 |k+1,s,i,h,hi,hk=>by
  have hf:(aQ [] line).length<=1048576:=by have:=sX line [];omega
  have hr:=Kx (line:=line) z h hn hf i hi;have ag:=h.st (line:=line) (nr:=nr) hv hn d;have hq:wT s.vs ops[i].1 ops[i].2.1 ops[i].2.2:=VI (n:=ops.length) (cells:=cells) (by rw [h.vl];exact z.2.2.2 _ (Æ hi))
  have p:=aDz s.vs s.cs nr a b line (aQ [] line) s.out fu dn s.aA ops[i].1 ops[i].2.1 ops[i].2.2 i ag hq (by have:=z.2.1;omega)
  have hz:=bg hi;have g:((20000:Int)-((k+1:Nat):Int)==20000)=false:=beq_eq_false_iff_ne.2 (by omega)
  have ai:wrap .i64 ((20000:Int)-((k+1:Nat):Int)+1)=20000-(k:Int):=by rw [Á];omega
  rw [Ky hi];have t:(⟨s.vs,s.cs,s.aA,s.out⟩:cZ)=s:=rfl;rw [t]at p;generalize gS nr line (aQ [] line) s i ops[i].1 ops[i].2.1 ops[i].2.2=r at hr p
  cases r with
  |err c=>
   refine p.mono fun n ⟨x,e,f,u⟩ m hm=> ?_
   obtain⟨m,rfl⟩: ∃q,m=q+2:=⟨m-2,by omega⟩
   rw [sI,g,hz];simp only [show ((0:Int)==0)=true from rfl,Y,ez,Z,e];cases hx:x.2.1 with
   |false=>exact⟨_,rfl,f,u⟩
   |true=>
    rw [Ê,ez,sI,show(x.2.2.2.2.2.1==(0:Int))=false by rw [u];simpa using f,ez]
    exact⟨_,rfl,f,u⟩
  |halt s'=>
   refine p.mono fun n ⟨x,e,f,u⟩ m hm=> ?_
   obtain⟨m,rfl⟩: ∃q,m=q+1:=⟨m-1,by omega⟩
   rw [sI,g,hz];simp only [show ((0:Int)==0)=true from rfl,Y,ez,Z,e,f,ç,u];exact⟨_,rfl,rfl⟩
  |go j s'=>
   obtain⟨h',q,rfl,aj⟩:=hr;refine(p.and (VQ (a:=a) (b:=b) (fu:=fu) (dn:=dn) z hv hn d k s' q h' aj (by omega))).mono fun n ⟨⟨x,e,f⟩,ih⟩ m hm=> ?_
   obtain⟨m,rfl⟩: ∃q,m=q+1:=⟨m-1,by omega⟩
   have f:x=((q:Int),true,wS nr a b line (aQ [] line) fu dn s'):=f;subst f;obtain⟨x,e',ak⟩:=ih m (by omega)
   refine⟨x, ?_,ak⟩
   rw [sI,g,hz];simp only [show ((0:Int)==0)=true from rfl,Y,ez,Z,e,Ê,ai];exact e'
theorem VR {vars cells nr:Int} {a b:af} {line:O} {fu:Int} {dn:Bool} {ops:ae} (f:fy ops vars cells) (i:vars<=8) (g:0<=nr/\nr<=2000000) (d:line.length<=1000000) (s:cZ) (h:fD vars cells s) (he:s.aA=[]):
  W fun n=> ∃x,oI n s.vs s.cs nr 0 a b line (aQ [] line) s.out fu dn ops=some x/\KA nr a b line (aQ [] line) fu dn (lu nr line (aQ [] line) ops 20000 s 0) x:=by
 refine((VQ (a:=a) (b:=b) (fu:=fu) (dn:=dn) f i g d 20000 s 0 h f.1 (by omega)).and (W.ge 20001)).nm fun n ⟨k,g⟩=> ?_
 obtain⟨x,e,j⟩:=k n (by omega)
 refine⟨tj x, ?_,j⟩
 rw [he]at e;rw [QA,show vr n n s.vs s.cs nr 0 a b line (aQ [] line) s.out fu dn ([]:ae) 0 0 ops=some x from e,Z];exact VJ x _ _ (fun _=>rfl) (fun _=>rfl)
abbrev RT:=ae×(ai×Int×Int×O)
def pn (vs:ae) (cs:ai) (nr b:Int) (r:Sum Int cZ):RT:=match r with
 |.inl c=>(vs,cs,nr,c,[])
 |.inr s=>(s.vs,s.cs,b,0,s.out)
noncomputable def fQ (ops:ae) (vs:ae) (cs:ai) (nr:Int) (line:O):RT:=
 if 1000000<=nr then(vs,cs,nr,1,[])else pn vs cs nr (nr+1) (lu (nr+1) line (aQ [] line) ops 20000 ⟨vs,cs,[],[]⟩ 0)
noncomputable def mC (k:Nat) (ops:ae):RT:=pn (É k v0) [] 0 0 (lu 0 [] [] ops 20000 ⟨É k v0,[],[],[]⟩ 0)
theorem KB {vars cells nr:Int} {line:O} {ops:ae} (f:fy ops vars cells) (g:0<=nr/\nr<=2000000) (b:line.length<=1000000): ∀(k:Nat) (s:cZ) (i:Nat),fD vars cells s->i<ops.length->
  match lu nr line (aQ [] line) ops k s i with|.inl c=>1<=c/\c<=7|.inr s=>fD vars cells s
 |0,s,i,h,hi=>⟨by omega,by omega⟩
 |k+1,s,i,h,hi=>by
  have m:(aQ [] line).length<=1048576:=by have:=sX line [];omega
  have d:=Kx (line:=line) f h g m i hi;rw [Ky hi];generalize gS nr line (aQ [] line) s i ops[i].1 ops[i].2.1 ops[i].2.2=r at d
  cases r with
  |err c=>exact d
  |halt s'=>exact d
  |go j s'=>
   obtain⟨p,q,rfl,t⟩:=d;exact KB f g b k s' q p t
def KC (vars cells:Int) (r:RT):Prop:=kj r.1 r.2.1 r.2.2.1 r.2.2.2.1 vars cells/\r.2.2.2.2.length<=600
theorem VS {vars cells:Int} {vs:ae} {cs:ai} {nr b er:Int} {r:Sum Int cZ} (h:match r with|.inl c=>1<=c/\c<=7|.inr s=>fD vars cells s) (d:kj vs cs nr er vars cells) (f:0<=b/\b<=1000000):KC vars cells (pn vs cs nr b r):=by
 cases r with
 |inl c=>
  obtain⟨p,q⟩:=h;exact⟨⟨d.1,d.2.1,d.2.2.1,d.2.2.2.1,d.2.2.2.2.1,⟨by show 0<=c;omega,by show c<=7;omega⟩⟩,by simp [pn]⟩
 |inr s=>
  have h:fD vars cells s:=h;exact⟨⟨h.v,Ob.2 h.c.1,h.vl,h.c.2,⟨f.1,f.2⟩,⟨by simp [pn],by simp [pn]⟩⟩,h.out⟩
theorem tl {vars cells nr er:Int} {vs:ae} {cs:ai} (h:kj vs cs nr er vars cells):fD vars cells ⟨vs,cs,[],[]⟩:=⟨h.1,h.2.2.1,⟨Ob.1 h.2.1,h.2.2.2.1⟩,by simp,by simp,by simp⟩
theorem KD {vars cells nr er:Int} {ops vs:ae} {cs:ai} {line:O} (d:fy ops vars cells) (h:kj vs cs nr er vars cells) (b:line.length<=1000000):KC vars cells (fQ ops vs cs nr line):=by
 have f:0<=nr/\nr<=1000000:=h.2.2.2.2.1;unfold fQ;split
 .exact⟨⟨h.1,h.2.1,h.2.2.1,h.2.2.2.1,h.2.2.2.2.1,⟨by show(0:Int)<=1;omega,by show(1:Int)<=7;omega⟩⟩,by simp⟩
 .exact VS (KB d (by omega) b 20000 _ 0 (tl h) d.1) h (by omega)
theorem KE (k:Nat) (cells:Int):kj (É k v0) [] 0 0 k cells:=⟨fun v b=>by rw [é b];exact rO,fun i hi=>absurd hi (ú _),by simp,by simp,⟨by omega,by omega⟩,⟨by omega,by omega⟩⟩
theorem KF {k:Nat} {cells:Int} {ops:ae} (b:fy ops k cells):KC k cells (mC k ops):=by
 unfold mC;have h:=KE k cells;exact VS (KB (line:=[]) b (by omega) (by simp) 20000 _ 0 (tl h) b.1) h (by omega)
def VT {α:Type} (y:ae×ai×Int×Int×O×α):RT:=(y.1,y.2.1,y.2.2.1,y.2.2.2.1,y.2.2.2.2.1)
theorem KG (b:ae) (cs0:ai) (d f:Int) (g:b.length<=1048576) (h:cs0.length<=1048576):W fun n=> ∀x:WE,∃y,vG n x.1 x.2.1 x.2.2.1 x.2.2.2.1 x.2.2.2.2.1 x.2.2.2.2.2.1 x.2.2.2.2.2.2.1 x.2.2.2.2.2.2.2.1 x.2.2.2.2.2.2.2.2.1 x.2.2.2.2.2.2.2.2.2.1 x.2.2.2.2.2.2.2.2.2.2 b cs0 d f=some y/\VT y=cond (x.2.2.2.1 !=0) (b,cs0,d,x.2.2.2.1,([]:O)) (x.1,x.2.1,x.2.2.1,x.2.2.2.1,x.2.2.2.2.2.2.2.2.1):=by
 refine(qN b cs0 d f g h).nm fun n e x=> ?_
 rw [asA,e];cases x.2.2.2.1 !=0
 .exact⟨_,rfl,rfl⟩
 .exact⟨_,rfl,rfl⟩
theorem VU {nr:Int} {a b:af} {line:O} {fs:af} {fu:Int} {dn:Bool} {r:Sum Int cZ} {x:WE} (h:KA nr a b line fs fu dn r x) (d:ae) (cs0:ai) (f:Int):cond (x.2.2.2.1 !=0) (d,cs0,f,x.2.2.2.1,([]:O)) (x.1,x.2.1,x.2.2.1,x.2.2.2.1,x.2.2.2.2.2.2.2.2.1)=pn d cs0 f nr r:=by
 cases r with
 |inl c=>
  obtain⟨g,i⟩:=h;rw [i,show(c !=0)=true by simpa using g];rfl
 |inr s=>
  have h:x=du nr a b line fs fu dn s:=h;subst h;rfl
theorem KH (b:ae) (cs0:ai) (d f:Int) (g:b.length<=1048576) (h:cs0.length<=1048576):W fun n=> ∀x:WI,∃y,wj n x.1 x.2.1 x.2.2.1 x.2.2.2.1 x.2.2.2.2.1 x.2.2.2.2.2.1 x.2.2.2.2.2.2.1 x.2.2.2.2.2.2.2 b cs0 d f=some y/\VT y=cond (x.2.2.2.2.2.2.2 !=0) (b,cs0,d,x.2.2.2.2.2.2.2,([]:O)) (x.1,x.2.1,x.2.2.1,x.2.2.2.1,x.2.2.2.2.2.1):=by
 refine(sW b cs0 d f g h).nm fun n e x=> ?_
 rw [axG,e];cases x.2.2.2.2.2.2.2 !=0
 .exact⟨_,rfl,rfl⟩
 .exact⟨_,rfl,rfl⟩
theorem VV {nr:Int} {line:O} {r:Sum Int cZ} {x:WI} (h:Kz nr line r x) (b:ae) (cs0:ai) (d:Int):cond (x.2.2.2.2.2.2.2 !=0) (b,cs0,d,x.2.2.2.2.2.2.2,([]:O)) (x.1,x.2.1,x.2.2.1,x.2.2.2.1,x.2.2.2.2.2.1)=pn b cs0 d nr r:=by
 cases r with
 |inl c=>
  obtain⟨f,g⟩:=h;rw [g,show(c !=0)=true by simpa using f];rfl
 |inr s=>
  have h:x=wU nr line s:=h;subst h;rfl
theorem aDM (k:Nat) (hk:k<=8):W fun n=>zv n (k:Int)=some (É k v0,0,0):=by
 refine((UG k 8).and (UH 0 k)).nm fun n ⟨b,d⟩=> ?_
 have hm:min (8:Int) (k:Int)=k:=by omega
 have f:max (0:Int) (k:Int)=k:=by omega
 have g:(8:Int)<=(aD:Int):=by unfold aD;omega
 rw [aqB,b,hm,Z,d];simp only [f,Z];rw [hJ (by omega),Y,Â]
 rfl
theorem aDN (k:Nat) (hk:k<=8):W fun n=>Ay n (k:Int)=some (É k v0,0,0):=W.succ (W.of fun n=>by
 have f:(8:Int)<=(aD:Int):=by unfold aD;omega
 have b:(cond (decide ((8:Int)<(k:Int))) (8:Int) (k:Int))=k:=by rw [hL (by omega)];rfl
 have d:(cond (decide ((0:Int)<(k:Int))) (k:Int) (0:Int))=k:=by
  by_cases h:(0:Int)<k
  .rw [hJ h];rfl
  .rw [hL h];show(0:Int)=k;omega
 rw [avB,b,d,hJ (by omega),Y,Â]
 rfl)
theorem aDO (a b:af) (c d:ae) (hp:fy c a.length b.length) (g:a.length<=8):W fun n=>Gm n a b c d=some (mC a.length c):=by
 have h:=KE a.length b.length;have hm:=tl h;refine((((aDM a.length g).and (qN (É a.length v0) [] 0 0 (by simp;omega) (by simp))).and (VR (a:=[]) (b:=[]) (line:=[]) (nr:=0) (fu:=0) (dn:=false) hp (by omega) (by omega) (by simp) _ hm rfl)).and (KG (É a.length v0) [] 0 0 (by simp;omega) (by simp))).nm fun n ⟨⟨⟨i,j⟩,x,f,k⟩,m⟩=> ?_
 have f:oI n (É a.length v0) [] 0 0 [] [] [] [] [] 0 false c=some x:=f;obtain⟨y,p,q⟩:=m x;rw [aqA,i];simp only [Z,j,f,p];exact congrArg some (q.trans (VU k _ _ _))
theorem aDP (a b:af) (c d:ae) (hp:iM a b c d) (h:ja a b c d):W fun n=>HL n a b c d=some (mC a.length c):=by
 obtain⟨-, -, -, -, -,g,u,i, -⟩:=id h;have j:=KE a.length b.length;have hm:=tl j;refine(((((wI a b c d hp).and (aDN a.length g)).and (sW (É a.length v0) [] 0 0 (by simp;omega) (by simp))).and (VP (line:=[]) (nr:=0) i (by omega) (by omega) (by simp) _ hm)).and (KH (É a.length v0) [] 0 0 (by simp;omega) (by simp))).nm fun n ⟨⟨⟨⟨k,m⟩,p⟩,x,f,q⟩,r⟩=> ?_
 have f:sy n (É a.length v0) [] 0 0 [] [] [] 0 c=some x:=f;obtain⟨y,s,t⟩:=r x;rw [avA,k,aB h];simp only [Ê,ez,Z,m,p,f,s];exact congrArg some (t.trans (VV q _ _ _))
theorem aDQ (vs:ae) (cs:ai) (nr er:Int) (a b:af) (line:O) (fs:af) (out:O) (fu:Int) (dn:Bool) (ops:ae) (h:er≠0):W fun n=>oI n vs cs nr er a b line fs out fu dn ops=some (vs,cs,nr,er,a,b,line,fs,out,fu,dn):=W.succ (W.succ (W.of fun n=>by
 rw [QA,sI,show(er==(0:Int))=false by simpa using h];rfl))
theorem aDR (a b:af) (c d:ae) (vs:ae) (cs:ai) (nr:Int) (line:O) (s:fy d a.length b.length) (t:a.length<=8) (g:kj vs cs nr 0 a.length b.length) (i:line.length<=1000000):W fun n=>GV n a b c d vs cs nr 0 line=some (fQ d vs cs nr line):=by
 have hm:=tl g;have u:0<=nr/\nr<=1000000:=g.2.2.2.2.1;have z:=g.2.2.1;have hc:=g.2.2.2.1;have hw:wrap .i64 (nr+1)=nr+1:=by rw [Á];omega
 by_cases h:1000000<=nr
 .refine(((((qN vs cs nr 0 (by omega) (by omega)).and (Ur line i)).and (ky vs cs (nr+1) [] [] line (aQ [] line) [] 0 false 1)).and (aDQ vs cs (nr+1) 1 [] [] line (aQ [] line) [] 0 false d (by omega))).and (KG vs cs nr 0 (by omega) (by omega))).nm fun n ⟨⟨⟨⟨j,k⟩,f⟩,m⟩,p⟩=> ?_
  obtain⟨y,q,r⟩:=p (vs,cs,nr+1,1,[],[],line,aQ [] line,[],0,false);rw [QU,j,k,hw,hJ (by omega)]
  simp only [Y,Z,f,m];rw [q,fQ,if_pos h];exact congrArg some r
 .refine((((qN vs cs nr 0 (by omega) (by omega)).and (Ur line i)).and (VR (a:=[]) (b:=[]) (line:=line) (nr:=nr+1) (fu:=0) (dn:=false) s (by omega) (by omega) i _ hm rfl)).and (KG vs cs nr 0 (by omega) (by omega))).nm fun n ⟨⟨⟨j,k⟩,x,f,m⟩,p⟩=> ?_
  have f:oI n vs cs (nr+1) 0 [] [] line (aQ [] line) [] 0 false d=some x:=f;obtain⟨y,q,r⟩:=p x;rw [QU,j,k,hw,hL (by omega)]
  simp only [ez,Z,f,q];rw [fQ,if_neg h];exact congrArg some (r.trans (VU m _ _ _))
theorem aDS (a b:af) (c d:ae) (vs:ae) (cs:ai) (nr er:Int) (line:O) (hp:iM a b c d) (hk:ja a b c d) (f:kj vs cs nr er a.length b.length) (s:line.length<=1000000):W fun n=>Ir n a b c d vs cs nr er line=some (if er≠0 then(vs,cs,nr,er,[])else fQ d vs cs nr line):=by
 obtain⟨-, -, -, -, -,u,z, -,hd⟩:=id hk;have hm:=tl f;have hn:0<=nr/\nr<=1000000:=f.2.2.2.2.1;have hv:=f.2.2.1;have hc:=f.2.2.2.1;have hw:wrap .i64 (nr+1)=nr+1:=by rw [Á];omega
 have base:=((wI a b c d hp).and (TF vs cs nr er a.length b.length (by omega) (by omega))).and (sW vs cs nr er (by omega) (by omega))
 by_cases g:er=0
 .subst g
  rw [if_neg (by simp)]
  by_cases h:1000000<=nr
  .refine((base.and (pk vs cs nr line [] [] 1)).and (KH vs cs nr 0 (by omega) (by omega))).nm fun n ⟨⟨⟨⟨i,j⟩,k⟩,m⟩,p⟩=> ?_
   obtain⟨y,q,r⟩:=p (vs,cs,nr,0,line,[],[],1);rw [Jk,i,j,k,aB hk,aB f,hJ h];simp only [Ê,ez,Y,Z,show((0:Int) !=0)=false from rfl,m];rw [q,fQ,if_pos h];exact congrArg some r
  .refine((base.and (VP (line:=line) (nr:=nr+1) hd (by omega) (by omega) s _ hm)).and (KH vs cs nr 0 (by omega) (by omega))).nm fun n ⟨⟨⟨⟨i,j⟩,k⟩,x,m,t⟩,p⟩=> ?_
   have m:sy n vs cs (nr+1) 0 line [] [] 0 d=some x:=m;obtain⟨y,q,r⟩:=p x;rw [Jk,i,j,k,aB hk,aB f,hL h];simp only [Ê,ez,Z,show((0:Int) !=0)=false from rfl,hw,m,q];rw [fQ,if_neg h];exact congrArg some (r.trans (VV t _ _ _))
 .refine base.nm fun n ⟨⟨i,j⟩,k⟩=> ?_
  rw [Jk,i,j,k,aB hk,aB f,if_pos g];simp only [Ê,ez,Y,Z,show(er !=0)=true by simpa using g]
theorem VW {x0:af} {x1:af} {x2:ae} {x3:ae} {x4:Int} {x5:cj} {x6:bn} {x7:Int} {x8:O} {x9:ah} {b:ah} {d:ae} (h:cp (.cons cE (.cons cE (.cons aL (.cons aL (.cons (.int .i64) (.cons fz (.cons ej (.cons (.int .i64) (.cons .str (.cons bh (.cons bh (.one aL)))))))))))) (x0,x1,x2,x3,x4,x5,x6,x7,x8,x9,b,d)):wL x0 x1 x2 x3 x4 x5 x6 x7 x8 x9 b d:=by
 obtain⟨s0,s1,s2,s3, -,s5,s6, -, -,s9,j,f⟩:=h;refine⟨⟨⟨s0.1,s0.2⟩,⟨s1.1,s1.2⟩,⟨s2.1,fun o k=>(s2.2 o k).2.2⟩,⟨s3.1,fun o k=>(s3.2 o k).2.2⟩⟩,⟨s5.1,fun p hp=> ?_⟩,⟨s6.1,fun r m=> ?_⟩,s9.1,j.1,⟨f.1,fun c hc=>(f.2 c hc).2.2⟩⟩
 .obtain⟨-, -, -, -, -,p5,p6,p7, -, -,q, -, -, -,s,t, -,u,z, -, -,ad, -, -, -,g⟩:=s5.2 p hp
  refine⟨⟨p5.1,fun e he=>(p5.2 e he).2.2.2⟩,p6.1,p7.1,q.1,s.1,t.1,u.1,z.1,ad.1,g.1,fun r m=> ?_⟩
  obtain⟨-, -, -, -, -, -, -,i, -, -⟩:=g.2 r m;exact⟨i.1,fun e he=>(i.2 e he).2.2.2⟩
 .obtain⟨-, -, -, -, -, -, -,i, -, -⟩:=s6.2 r m
  exact⟨i.1,fun e he=>(i.2 e he).2.2.2⟩
noncomputable section
abbrev MT:=ae×(ai×Int×Int×ah×O)
abbrev lv:=Int×(Int×O)
def po (a b:af) (c d:ae) (m:MT):Prop:=ou a b c d m.1 m.2.1 m.2.2.1 m.2.2.2.1 m.2.2.2.2.1 m.2.2.2.2.2
def wV (k:Nat) (ops:ae):MT:=((mC k ops).1,(mC k ops).2.1,(mC k ops).2.2.1,(mC k ops).2.2.2.1,É 3 0,(mC k ops).2.2.2.2)
def ij (dn:ah) (w:Int):Int:=dn.getD w.toNat 0
def js (ops:ae) (m:MT) (c:lv):MT:=
 if c.1<0\/c.2.1<=ij m.2.2.2.2.1 c.1 then m
 else if m.2.2.2.1≠0 then(m.1,m.2.1,m.2.2.1,m.2.2.2.1,m.2.2.2.2.1.set c.1.toNat c.2.1,m.2.2.2.2.2)
 else if 1500<m.2.2.2.2.2.length+(fQ ops m.1 m.2.1 m.2.2.1 c.2.2).2.2.2.2.length then(m.1,m.2.1,m.2.2.1,5,m.2.2.2.2.1.set c.1.toNat c.2.1,m.2.2.2.2.2)
 else((fQ ops m.1 m.2.1 m.2.2.1 c.2.2).1,(fQ ops m.1 m.2.1 m.2.2.1 c.2.2).2.1,(fQ ops m.1 m.2.1 m.2.2.1 c.2.2).2.2.1,(fQ ops m.1 m.2.1 m.2.2.1 c.2.2).2.2.2.1,m.2.2.2.2.1.set c.1.toNat c.2.1,m.2.2.2.2.2++(fQ ops m.1 m.2.1 m.2.2.1 c.2.2).2.2.2.2)
def qT (k:Nat) (start main:ae) (l:List lv):MT:=l.foldl (fun m c=>cond (bo (dP c.1 c.2.1 c.2.2)) (js main m c) m) (wV k start)
theorem KI {a b:af} {c d:ae} (h:ja a b c d):po a b c d (wV a.length c):=by
 obtain⟨-, -, -, -, -,j,k,f, -⟩:=id h;obtain⟨g,m⟩:=KF (cells:=b.length) f;exact⟨fun x i=>by rw [é i];exact⟨by omega,by omega⟩,h,g,by simp [wV],by show(mC a.length c).2.2.2.2.length<=1500;omega⟩
theorem KJ {a b:af} {c d:ae} {m:MT} {x:lv} (h:po a b c d m) (k:dP x.1 x.2.1 x.2.2):po a b c d (js d m x):=by
 obtain⟨r,i,f,s,p⟩:=id h;unfold js;split
 .exact h
 rename_i hw;have k:0<=x.1/\x.1<=2/\1<=x.2.1/\x.2.1<=100000/\x.2.2.length<=60:=by
  rcases k with⟨q, -⟩|⟨t,u,z,p4,p5, -⟩
  .exact absurd (Or.inl (by omega)) hw
  .exact⟨t,u,z,p4,p5⟩
 have hd: ∀y∈m.2.2.2.2.1.set x.1.toNat x.2.1,In y 0 100000:=fun y hy=>by
  rcases ß hy with h'|rfl
  .exact r y h'
  .exact⟨by omega,by omega⟩
 have j:(m.2.2.2.2.1.set x.1.toNat x.2.1).length=3:=by rw [Ù];exact s
 split
 .exact⟨hd,i,f,j,p⟩
 rename_i g;have g:m.2.2.2.1=0:=Ø g;split
 .exact⟨hd,i,⟨f.1,f.2.1,f.2.2.1,f.2.2.2.1,f.2.2.2.2.1,⟨by show(0:Int)<=5;omega,by show(5:Int)<=7;omega⟩⟩,j,p⟩
 .rename_i hlen
  have hr:=KD (line:=x.2.2) i.2.2.2.2.2.2.2.2 f (by omega)
  exact⟨hd,i,hr.1,j,by rw [Ä];omega⟩
theorem aDT (a b:af) (c d:ae) (h:ja a b c d):W fun n=>Gl n a b c d=some (wV a.length c):=by
 obtain⟨-, -, -, -, -,g,j,f, -⟩:=id h;obtain⟨k,m⟩:=KF (cells:=b.length) f;refine(aDO a b c d f g).nm fun n e=> ?_
 have i:(8:Int)<=(aD:Int):=by unfold aD;omega
 rw [apZ,e,Z,hL (by omega),hJ (by omega)]
 rfl
theorem aDU (a b:af) (c d:ae) (hp:iM a b c d) (h:ja a b c d):W fun n=>HK n a b c d=some (wV a.length c):=by
 obtain⟨-, -, -, -, -,j,k,f, -⟩:=id h;obtain⟨m,p⟩:=KF (cells:=b.length) f;refine((wI a b c d hp).and (aDP a b c d hp h)).nm fun n ⟨g,e⟩=> ?_
 have i:(8:Int)<=(aD:Int):=by unfold aD;omega
 rw [auZ,g,aB h,e];simp only [Z,Ê,ez];rw [hL (by omega),hJ (by omega)]
 rfl
theorem aDV (vs:ae) (cs:ai) (nr er:Int) (dn:ah) (out:O) (b:vs.length<=1048576) (d:cs.length<=1048576) (f:dn.length<=1048576):W fun n=>GU n vs cs nr er dn out=some (vs,cs,nr,er,dn,out):=by
 refine(qN vs cs nr er b d).nm fun n e=> ?_
 rw [asB,e,Z,cA (by omega)];rfl
theorem aDW (n:Nat) (l:ah):Pn (n+1) l=cond (ô (ÿ l) aD) (some l) none:=by kernel_rfl
theorem aDX (vs:ae) (cs:ai) (nr er:Int) (dn:ah) (out:O) (b:vs.length<=1048576) (d:cs.length<=1048576) (f:dn.length<=1048576):W fun n=>Iq n vs cs nr er dn out=some (vs,cs,nr,er,dn,out):=by
 refine((sW vs cs nr er b d).and (W.ge 1)).nm fun n ⟨e,g⟩=> ?_
 obtain⟨n,rfl⟩: ∃q,n=q+1:=⟨n-1,by omega⟩
 rw [axH,e,Z,aDW,cA (by omega)];rfl
theorem mD {dn:ah} {w:Int} (b:0<=w) (h:w<(dn.length:Int)):au dn w=some (ij dn w)/\aM dn (Ì w)=some (ij dn w):=by
 obtain⟨k,rfl⟩: ∃k:Nat,w=k:=⟨w.toNat,by omega⟩
 have hk:k<dn.length:=by omega
 have e:ij dn (k:Int)=dn[k]:=by rw [ij,Â,Å,Ç hk];rfl
 exact⟨by rw [bg hk,e],by rw [ff hk,e]⟩
theorem aDY (a b:af) (c d:ae) (m:MT) (x:lv) (h:po a b c d m) (p:dP x.1 x.2.1 x.2.2):W fun n=>GR n a b c d m.1 m.2.1 m.2.2.1 m.2.2.2.1 m.2.2.2.2.1 m.2.2.2.2.2 x.1 x.2.1 x.2.2=some (js d m x):=by
 obtain⟨vs,cs,nr,er,dn,out⟩:=m;obtain⟨w,q,line⟩:=x;obtain⟨h1,r,i,h4,h5⟩:=id h;dsimp only at h1 r i h4 h5 p |-
 have hv:=i.2.2.1;have hc:=i.2.2.2.1;have ha:=r.2.2.2.2.2.1;have copy:=aDV vs cs nr er dn out (by omega) (by omega) (by omega)
 by_cases hw:w<0
 .refine copy.nm fun n e=> ?_
  rw [BA,e,hJ hw,js,if_pos (Or.inl hw)];rfl
 have p:0<=w/\w<=2/\1<=q/\q<=100000/\line.length<=60:=by
  rcases p with⟨k, -⟩|⟨p1,p2,p3,p4,p5, -⟩
  .omega
  .exact⟨p1,p2,p3,p4,p5⟩
 obtain⟨t,u⟩:=mD (dn:=dn) (w:=w) p.1 (by omega)
 by_cases s:q<=ij dn w
 .refine copy.nm fun n e=> ?_
  rw [BA,e,hL hw,t,js,if_pos (Or.inr s)];simp only [Z,ez,hJ s];rfl
 have f: ¬(w<0\/q<=ij dn w):=by omega
 have j:decide ((0:Int)<=w/\w<(dn.length:Int))=true:=hJ (by omega)
 by_cases g:er=0
 .subst g
  refine(copy.and (aDR a b c d vs cs nr line r.2.2.2.2.2.2.2.2 ha i (by omega))).nm fun n ⟨e,e2⟩=> ?_
  have hr:=KD (line:=line) r.2.2.2.2.2.2.2.2 i (by omega)
  have hlen:wrap .i64 ((out.length:Int)+((fQ d vs cs nr line).2.2.2.2.length:Int))=(out.length:Int)+((fQ d vs cs nr line).2.2.2.2.length:Int):=by have:=hr.2;rw [Á];omega
  rw [BA,e,hL hw,t];simp only [Z,ez,hL s,j,u,Y,show((0:Int) !=0)=false from rfl,e2,hlen];rw [js,if_neg f,if_neg (by simp)]
  dsimp only
  by_cases z:1500<out.length+(fQ d vs cs nr line).2.2.2.2.length
  .rw [if_pos z,hJ (by omega)];rfl
  .rw [if_neg z,hL (by omega),mP (by omega)];rfl
 .refine copy.nm fun n e=> ?_
  rw [BA,e,hL hw,t];simp only [Z,ez,hL s,j,u,Y,show(er !=0)=true by simpa using g]
  rw [js,if_neg f,if_pos g]
theorem aDZ (a b:af) (c d:ae) (m:MT) (x:lv) (hp:iM a b c d) (h:po a b c d m):W fun n=>Ip n a b c d m.1 m.2.1 m.2.2.1 m.2.2.2.1 m.2.2.2.2.1 m.2.2.2.2.2 x.1 x.2.1 x.2.2=some (cond (bo (dP x.1 x.2.1 x.2.2)) (js d m x) m):=by
 obtain⟨vs,cs,nr,er,dn,out⟩:=m;obtain⟨w,q,line⟩:=x;obtain⟨h1,s,p,h4,h5⟩:=id h;dsimp only at h1 s p h4 h5 |-
 have hv:=p.2.2.1;have hc:=p.2.2.2.1;have ha:=s.2.2.2.2.2.1;have base:=((aDX vs cs nr er dn out (by omega) (by omega) (by omega)).and (JB a b c d vs cs nr er dn out hp (by omega) (by omega) (by omega))).and (BL w q line)
 have h:ou a b c d vs cs nr er dn out:=h;by_cases f: ¬dP w q line
 .refine base.nm fun n ⟨⟨e,g⟩,i⟩=> ?_
  rw [BD,e,g,i,aB h,az f];rfl
 have f:dP w q line:=Ø f;rw [aB f,Y];by_cases hw:w<0
 .refine base.nm fun n ⟨⟨e,g⟩,i⟩=> ?_
  rw [BD,e,g,i,aB h,aB f,hJ hw,js,if_pos (Or.inl hw)];rfl
 have t:0<=w/\w<=2/\1<=q/\q<=100000/\line.length<=60:=by
  rcases f with⟨k, -⟩|⟨p1,p2,p3,p4,p5, -⟩
  .omega
  .exact⟨p1,p2,p3,p4,p5⟩
 obtain⟨dz,dN⟩:=mD (dn:=dn) (w:=w) t.1 (by omega)
 by_cases u:q<=ij dn w
 .refine base.nm fun n ⟨⟨e,g⟩,i⟩=> ?_
  rw [BD,e,g,i,aB h,aB f,hL hw,dz,js,if_pos (Or.inr u)];simp only [Z,Ê,ez,hJ u];rfl
 have r: ¬(w<0\/q<=ij dn w):=by omega
 have z:decide ((0:Int)<=w/\w<(dn.length:Int))=true:=hJ (by omega)
 refine(base.and (aDS a b c d vs cs nr er line hp s p (by omega))).nm fun n ⟨⟨⟨e,g⟩,i⟩,e3⟩=> ?_
 rw [BD,e,g,i,aB h,aB f,hL hw,dz];simp only [Z,Ê,ez,hL u,z,dN,Y,e3];rw [js,if_neg r];dsimp only
 by_cases j:er=0
 .subst j
  have hr:=KD (line:=line) s.2.2.2.2.2.2.2.2 p (by omega)
  have hlen:wrap .i64 ((out.length:Int)+((fQ d vs cs nr line).2.2.2.2.length:Int))=(out.length:Int)+((fQ d vs cs nr line).2.2.2.2.length:Int):=by have:=hr.2;rw [Á];omega
  rw [if_neg (by simp),if_neg (by simp),hlen]
  by_cases hb:1500<out.length+(fQ d vs cs nr line).2.2.2.2.length
  .rw [if_pos hb,hJ (by omega)];rfl
  .rw [if_neg hb,hL (by omega),mP (by omega)];rfl
 .rw [if_pos j,if_pos j]
  dsimp only
  rw [show wrap .i64 ((out.length:Int)+(([]:O).length:Int))=(out.length:Int) by rw [Á];simp;omega,hL (by omega),mP (by simp;omega),Ð];rfl
theorem aEa (a b:af) (c d:ae) (l:List lv) (hp:iM a b c d) (h:ja a b c d) (t:l.length<=1048576) (g: ∀x∈l,x.2.2.length<=1048576):W fun n=>Gk n a b c d l=some (qT a.length c d l):=by
 have k:=Oc t (fun (m:MT) (x:lv)=>cond (bo (dP x.1 x.2.1 x.2.2)) (js d m x) m) (po a b c d) (KI h) (fun s x z g=>by
   by_cases f:dP x.1 x.2.1 x.2.2
   .rw [aB f];exact KJ g f
   .rw [az f];exact g) (r:=fun m=>(Sum.inl (0,0,([]:O),m):Sum _ MT)) (L:=fun n m i (s:MT)=>vo n m s.1 s.2.1 s.2.2.1 s.2.2.2.1 s.2.2.2.2.1 s.2.2.2.2.2 a b c d 0 0 ([]:O) i l) (fun s p i hi=>by
   by_cases f:dP l[i].1 l[i].2.1 l[i].2.2
   .refine((wJ l[i].1 l[i].2.1 l[i].2.2 (g _ (Æ hi))).and (aDY a b c d s l[i] p f)).mono fun n ⟨j,q⟩ m=> ?_
    rw [IZ,bu hi,bg hi];simp only [Y,Z,j,q,aB f]
   .refine(wJ l[i].1 l[i].2.1 l[i].2.2 (g _ (Æ hi))).mono fun n j m=> ?_
    rw [IZ,bu hi,bg hi];simp only [Y,Z,j,az f,ez]) (fun n m s=>by rw [IZ,ck];rfl)
 refine(((Jz a b c d hp).and (aDT a b c d h)).and k).nm fun n ⟨⟨j,q⟩,u⟩=> ?_
 rw [apY,j,aB h,q];simp only [Ê,ez,Z,u];rfl
theorem aEb (a b:af) (c d:ae) (l:List lv) (hp:iM a b c d) (h:ja a b c d) (q:l.length<=1048576):W fun n=>HJ n a b c d l=some (qT a.length c d l):=by
 have k:=Oc q (fun (m:MT) (x:lv)=>cond (bo (dP x.1 x.2.1 x.2.2)) (js d m x) m) (po a b c d) (KI h) (fun s x u p=>by
   by_cases f:dP x.1 x.2.1 x.2.2
   .rw [aB f];exact KJ p f
   .rw [az f];exact p) (r:=fun m=>(Sum.inl (0,0,([]:O),m):Sum _ MT)) (L:=fun n m i (s:MT)=>Ax n m s.1 s.2.1 s.2.2.1 s.2.2.2.1 s.2.2.2.2.1 s.2.2.2.2.2 a b c d 0 0 ([]:O) i l l.length) (fun s g i hi=>by
   refine(aDZ a b c d s l[i] hp g).mono fun n j m=> ?_
   rw [RA,bu hi,bg hi];simp only [Y,Z,j]) (fun n m s=>by rw [RA,ck];rfl)
 refine((aDU a b c d hp h).and k).nm fun n ⟨j,t⟩=> ?_
 rw [auY,j];simp only [Z,t];rfl
theorem VX {a b:af} {c d:ae} (h:ja a b c d) (l:List lv):po a b c d (qT a.length c d l):=Em l _ (KI h) fun s x i g=>by
 by_cases f:dP x.1 x.2.1 x.2.2
 .rw [aB f];exact KJ g f
 .rw [az f];exact g
end
def wW (sent b dn:ah) (i:Nat):Prop:= ¬ij sent i<ij b i/\ ¬ij dn i<ij b i
def VY (sent b dn:ah) (l:List lv):Prop:=(∀i,i<3->wW sent b dn i)/\ ∀c∈l,0<=c.1-> ¬ij sent c.1<c.2.1
theorem aEc (j:af) (u:af) (s:ae) (t:ae) (z:Int) (x5:cj) (x6:bn) (x7:Int) (x8:O) (g:ah) (f:ah) (d:ae) (h:wL j u s t z x5 x6 x7 x8 g f d):W fun n=>IL n j u s t z x5 x6 x7 x8 g f d=some (bo (mg j u s t z x5 x6 x7 x8 g f d/\VY g f (qT j.length s t d).2.2.2.2.1 d)):=by
 have hw:=aBo j u s t z x5 x6 x7 x8 g f d h;obtain⟨hp, -, -, -, -,ao,aq⟩:=h;by_cases hg:mg j u s t z x5 x6 x7 x8 g f d
 .have hd:=(VX hg.1 d).2.2.2.1
  have al:=(aEa j u s t d hp hg.1 ao aq);have hs:g.length=3:=hg.2.2.2.2.2.1.1;have ha:f.length=3:=hg.2.2.2.2.2.2.1.1;have hc: ∀c∈d,dP c.1 c.2.1 c.2.2:=hg.2.2.2.2.2.2.2.2.2.2
  generalize qT j.length s t d=y at hd al |-
  have k0:=jD (len:=3) (by omega) (q:=wW g f y.2.2.2.2.1) (r:=false) (b:=(j,u,s,t,z,x5,x6,x7,x8,g,f,d)) (L:=fun n m i=>wq n m y.1 y.2.1 y.2.2.1 y.2.2.2.1 y.2.2.2.2.1 y.2.2.2.2.2 j u s t z x5 x6 x7 x8 g f d i) (W.of fun n m i hi=>by
   obtain⟨z1,n1⟩:=mD (dn:=g) (w:=(i:Int)) (by omega) (by omega)
   obtain⟨z2,n2⟩:=mD (dn:=f) (w:=(i:Int)) (by omega) (by omega)
   obtain⟨z3,n3⟩:=mD (dn:=y.2.2.2.2.1) (w:=(i:Int)) (by omega) (by omega)
   rw [Sk,hJ (by omega),z1,z2,n3,hJ (by omega)]
   simp only [Y,Z,bL,fU];exact dZ (by unfold wW;omega)) (fun n m=>by rw [Sk];rfl)
  have k1:=kc ao (p:=fun c=>0<=c.1-> ¬ij g c.1<c.2.1) (r:=false) (b:=()) (L:=fun n m i=>sF n m j u s t z x5 x6 x7 x8 g f d i) (W.of fun n m i hi=>by
   have av:=hc _ (Æ hi);rw [Sl,bu hi,bg hi];simp only [Y,Z];by_cases h0:0<=d[i].1
   .obtain⟨z1,n1⟩:=mD (dn:=g) (w:=d[i].1) h0 (by unfold dP at av;omega)
    rw [hJ h0,z1];simp only [Y,Z,bL];exact dZ (by simp [h0])
   .rw [hL h0,aB (fun k=>absurd k h0)];rfl) (fun n m=>by rw [Sl,ck];rfl)
  refine(hw.and (al.and (k0.and k1))).nm fun n ⟨e,e1,e2,e3⟩=> ?_
  rw [Sj,e,e1,aB hg];simp only [Z,Ê,ez,show wq n n y.1 y.2.1 y.2.2.1 y.2.2.2.1 y.2.2.2.2.1 y.2.2.2.2.2 j u s t z x5 x6 x7 x8 g f d 0=_ from e2,show sF n n j u s t z x5 x6 x7 x8 g f d 0=_ from e3,cz,cT,gX];exact cG ⟨fun k=>⟨hg,k⟩,fun k=>k.2⟩
 .refine hw.nm fun n e=> ?_
  rw [Sj,e,az hg,az (fun k=>hg k.1)];rfl
theorem aEd (j:af) (u:af) (s:ae) (t:ae) (z:Int) (x5:cj) (x6:bn) (x7:Int) (x8:O) (g:ah) (f:ah) (d:ae) (h:wL j u s t z x5 x6 x7 x8 g f d):W fun n=>IM n j u s t z x5 x6 x7 x8 g f d=some (bo (mg j u s t z x5 x6 x7 x8 g f d/\VY g f (qT j.length s t d).2.2.2.2.1 d)):=by
 have hw:=aBp j u s t z x5 x6 x7 x8 g f d h;obtain⟨hp, -, -, -, -,ao,av⟩:=h;by_cases hg:mg j u s t z x5 x6 x7 x8 g f d
 .have hd:=(VX hg.1 d).2.2.2.1
  have al:=(aEb j u s t d hp hg.1 ao);have hs:g.length=3:=hg.2.2.2.2.2.1.1;have ha:f.length=3:=hg.2.2.2.2.2.2.1.1;have hc: ∀c∈d,dP c.1 c.2.1 c.2.2:=hg.2.2.2.2.2.2.2.2.2.2
  generalize qT j.length s t d=y at hd al |-
  have k0:=jD (len:=3) (by omega) (q:=wW g f y.2.2.2.2.1) (r:=false) (b:=(j,u,s,t,z,x5,x6,x7,x8,g,f,d)) (L:=fun n m i=>wx n m y.1 y.2.1 y.2.2.1 y.2.2.2.1 y.2.2.2.2.1 y.2.2.2.2.2 j u s t z x5 x6 x7 x8 g f d i) (W.of fun n m i hi=>by
   obtain⟨z1,n1⟩:=mD (dn:=g) (w:=(i:Int)) (by omega) (by omega)
   obtain⟨z2,n2⟩:=mD (dn:=f) (w:=(i:Int)) (by omega) (by omega)
   obtain⟨z3,n3⟩:=mD (dn:=y.2.2.2.2.1) (w:=(i:Int)) (by omega) (by omega)
   rw [Sn,hJ (by omega),z1,z2,n3,hJ (by omega)]
   simp only [Y,Z,bL,fU];exact dZ (by unfold wW;omega)) (fun n m=>by rw [Sn];rfl)
  have k1:=kc ao (p:=fun c=>0<=c.1-> ¬ij g c.1<c.2.1) (r:=false) (b:=()) (L:=fun n m i=>sG n m j u s t z x5 x6 x7 x8 g f d i d d.length) (W.of fun n m i hi=>by
   have au:=hc _ (Æ hi);rw [Sp,bu hi,bg hi];simp only [Y,Z];by_cases h0:0<=d[i].1
   .obtain⟨z1,n1⟩:=mD (dn:=g) (w:=d[i].1) h0 (by unfold dP at au;omega)
    rw [hJ h0,z1];simp only [Y,Z,bL];exact dZ (by simp [h0])
   .rw [hL h0,aB (fun k=>absurd k h0)];rfl) (fun n m=>by rw [Sp,ck];rfl)
  refine(hw.and (al.and (k0.and k1))).nm fun n ⟨e,e1,e2,e3⟩=> ?_
  rw [Sm,e,e1,aB hg];simp only [Z,Ê,ez,show wx n n y.1 y.2.1 y.2.2.1 y.2.2.2.1 y.2.2.2.2.1 y.2.2.2.2.2 j u s t z x5 x6 x7 x8 g f d 0=_ from e2,show sG n n j u s t z x5 x6 x7 x8 g f d 0 d d.length=_ from e3,cz,cT,gX];exact cG ⟨fun k=>⟨hg,k⟩,fun k=>k.2⟩
 .refine hw.nm fun n e=> ?_
  rw [Sm,e,az hg,az (fun k=>hg k.1)];rfl
end Go.Proofs.YtfpfjmahdneehaaGreatDoor
