/- A verified evaluator of the machine's code, part 3: no program in sight. -/
import Derived.Test.YtfpfjmahdneehaaGreatDoorEv2
open Bool renaming and_eq_true->À,or_eq_false_iff->Ð,not_eq_true'->Ø,or_eq_true->õ,false_or->ý
open Array renaming getD_eq_getD_getElem?->Á,getElem?_setIfInBounds_ne->Ô,getElem?_setIfInBounds_self_of_lt->Ù,mem_toList_iff->Û,getElem?_eq_getElem->Ü,replicate->æ,all_eq_true'->ÿ,ext'->Č
open List renaming append_assoc->Â,nodup_append->Ã,getD_eq_getElem?_getD->Æ,mem_cons->Ç,mem_map->È,mem_append->É,append_nil->Ë,getElem?_eq_getElem->Í,all_eq_true->Î,map_cons->Ï,nodup_iff_pairwise_ne->Ó,map_congr_left->Õ,getElem?_eq_none->Ö,reverse_reverse->Ú,mem_filterMap->ß,pairwise_map->à,nil_append->ä,replicate->è,sublist_append_right->ê,sublist_append_left->í,elem_eq_mem->ð,cons_append->ñ,map_map->ó,reverse_singleton->ô,singleton_append->ö,mem_append_left->ø,mem_of_getElem?->ù,pairwise_append->ú,mapM_cons->û,getElem?_range->ü,pairwise_cons->Ā,range->ā,ext_getElem?->Ă,getElem?_map->ă,length_cons->Ą,mem_filter->ą,mem_range->ć,all_cons->Ĉ
open Nat renaming eq_of_beq_eq_true->Ä,le_of_ble_eq_true->á,beq->ç,lt_of_lt_of_le->é,le_refl->ì,le_trans->ĉ,zero_add->Ċ,blt->Ď
open Option.some renaming injEq->Å,inj->Þ
open Go.Region renaming ready->Ê,binds->Ò,wanted->ï
open Go.Region.linearise renaming go->Ì
open Option renaming bind_eq_some_iff->Ñ,getD_some->â,isSome_iff_exists->î,map_eq_some_iff->ò,isNone_some->þ,map_some->Ć
open List.Pairwise renaming imp_of_mem->Ý
open Prod.mk renaming injEq->ã
open List.cons renaming injEq->å
open Classical renaming byContradiction->ë,choose_spec->ċ,choose->č
namespace Go.Ev
theorem tU: ∀xs b:List DV,pI xs b=xs.reverse++b
 | [],b=>rfl
 |x::xs,b=>by rw [pI,tU xs];simp
section
variable (H:Heap) (R:Nat→Prop) (B:Nat→Nat→Prop) (nal:Bool)
def bS (bl:Nat->Nat):Env->List (Nat×List CK)->List DV->Env->Prop
 |_,[],ds,A=>ds=[]/\A=[]
 |L,(m,ks)::rest,ds,A=> ∃arr ty frz d1 d2 A1 A2,ds=d1++d2/\A=A1++A2/\H (bl m)=some (.cells arr ty frz)/\il arr.size frz/\
   bq H R B nal L (nH m) 0 ks d1 arr.toList A1/\bS bl (L++A1) rest d2 A2
def dR (val:Nat->Value):Env->List (Nat×bk)->List DV->Env->Prop
 |_,[],ds,A=>ds=[]/\A=[]
 |L,(t,k)::rest,ds,A=> ∃d1 d2 A1 A2,ds=d1++d2/\A=A1++A2/\bU H R B nal L (fE t) k d1 (val t) A1/\dR val (L++A1) rest d2 A2
end
section
variable {H:Heap} {R R':Nat→Prop} {B B':Nat→Nat→Prop} {nal:Bool}
theorem bS.mono (d: ∀b,R b->R' b) (f: ∀m g,B m g->B' m g) {bl:Nat->Nat}: ∀ {bx:List (Nat×List CK)} {L:Env} {ds:List DV} {A:Env},bS H R B nal bl L bx ds A->bS H R' B' nal bl L bx ds A
 | [],_,_,_,h=>h
 |(m,ks)::rest,_,_,_,h=>by
  simp only [bS]at h |-;obtain⟨arr,ty,frz,d1,d2,A1,A2,i,j,k,p,q,r⟩:=h;exact⟨arr,ty,frz,d1,d2,A1,A2,i,j,k,p,q.mono d f,r.mono d f⟩
theorem dR.mono (d: ∀b,R b->R' b) (f: ∀m g,B m g->B' m g) {val:Nat->Value}: ∀ {ts:List (Nat×bk)} {L:Env} {ds:List DV} {A:Env},dR H R B nal val L ts ds A->dR H R' B' nal val L ts ds A
 | [],_,_,_,h=>h
 |(m,ks)::rest,_,_,_,h=>by
  simp only [dR]at h |-;obtain⟨d1,d2,A1,A2,i,j,k,p⟩:=h;exact⟨d1,d2,A1,A2,i,j,k.mono d f,p.mono d f⟩
end
section
variable {w0 w:World} {F R:Nat→Prop} {si:St} {θ:Asg} {β:Type} {y:β}
theorem LZ (q:Inv w0 F R si θ w) (val:Nat->Value): ∀(ks:List bk) {t:Nat} {sc st':St} {l:Log} {fps:List Nat} {s:CS} {L:Env} {cs:List TV} {K:CS->M β},bJ w0 F R θ w si sc fps->eW si θ s L->(∀i c,cs[i]? =some c->aU (hp w) R si θ c (val (t+i)))->
  (pE t ks cs s K).run sc=some (y,st',l)->gq w0 F R θ w si fps s L K y st' (fun s' ds A=>dR (hp w) (Rl R θ s'.cv) (Bl θ s'.bm) false val L (gp t ks) ds A/\cs.length=ks.length)
 | [],t,sc,st',l,fps,s,L,cs,K,b,d,f,h=>by
  cases cs with
  |cons _ _=>simp [pE,M.run]at h
  |nil=>
   simp only [pE]at h;exact jz b d h ⟨by simp only [gp,dR];exact⟨trivial,trivial⟩,rfl⟩
 |k::ks,t,sc,st',l,fps,s,L,cs,K,b,d,f,h=>by
  cases cs with
  |nil=>simp [pE,M.run]at h
  |cons c cs=>
   simp only [pE]at h;obtain⟨s1,r,A1,d1,l1,h,g,u,z,c1,r1⟩:=Dd q k b d (f 0 c rfl) h;obtain⟨s2,j,A2,d2,l2,h,m,e2,p,c2,r2,r3⟩:=LZ q val ks (t:=t+1) g c1 (fun i c' hi=>by
    have:=f (i+1) c' (by simpa using hi)
    rwa [Nat.add_assoc,Nat.add_comm 1 i]) h
   refine⟨s2,j,A1++A2,d1++d2,l2,h,by rw [Env.dj,<-Â];exact m,by rw [e2,u];simp,z.trans p,by rw [<-Â];exact c2, ?_,by simp [r3]⟩
   simp only [gp,dR];exact⟨d1,d2,A1,A2,rfl,rfl,r1.mono p.rl p.bl,r2⟩
theorem Ma (m:Inv w0 F R si θ w) (val:Nat->Value) {tmps:Nat->TV} (p: ∀t,aU (hp w) R si θ (tmps t) (val t)): ∀(ks:List (Nat×bk)) {sc st':St} {l:Log} {fps:List Nat} {s:CS} {L:Env} {K:CS->M β},bJ w0 F R θ w si sc fps->eW si θ s L->
  (tJ tmps ks s K).run sc=some (y,st',l)->gq w0 F R θ w si fps s L K y st' (fun s' ds A=>dR (hp w) (Rl R θ s'.cv) (Bl θ s'.bm) false val L ks ds A)
 | [],sc,st',l,fps,s,L,K,b,d,h=>by
  simp only [tJ]at h;exact jz b d h (by simp only [dR];exact⟨trivial,trivial⟩)
 |(t,k)::ks,sc,st',l,fps,s,L,K,b,d,h=>by
  simp only [tJ]at h;obtain⟨s1,q,A1,d1,l1,h,f,r,u,c1,z⟩:=Dd m k b d (p t) h;obtain⟨s2,g,A2,d2,l2,h,i,e2,j,c2,r2⟩:=Ma m val p ks f c1 h;refine⟨s2,g,A1++A2,d1++d2,l2,h,by rw [Env.dj,<-Â];exact i,by rw [e2,r];simp,u.trans j,by rw [<-Â];exact c2, ?_⟩
  simp only [dR];exact⟨d1,d2,A1,A2,rfl,rfl,z.mono j.rl j.bl,r2⟩
def fr (θ:Asg) (bm:List (Nat×Nat)) (m:Nat):Nat:=θ.bx ((look m bm).getD 0)
theorem bS.ext {H:Heap} {B:Nat->Nat->Prop} {nal:Bool} {bl jW:Nat->Nat}: ∀ {bx:List (Nat×List CK)} {L:Env} {ds:List DV} {A:Env},(∀p∈bx,jW p.1=bl p.1)->bS H R B nal bl L bx ds A->bS H R B nal jW L bx ds A
 | [],_,_,_,_,h=>h
 |(m,ks)::rest,_,_,_,he,h=>by
  simp only [bS]at h |-;obtain⟨arr,ty,frz,d1,d2,A1,A2,b,d,f,g,i,j⟩:=h;exact⟨arr,ty,frz,d1,d2,A1,A2,b,d,by rw [he (m,ks) (by simp)];exact f,g,i,j.ext (fun p hp=>he p (by simp [hp]))⟩
theorem Df (j:Inv w0 F R si θ w): ∀(bx:List (Nat×List CK)) {sc st':St} {l:Log} {fps:List Nat} {s:CS} {L:Env} {K:CS->M β},bJ w0 F R θ w si sc fps->eW si θ s L->
  (qX bx s K).run sc=some (y,st',l)->gq w0 F R θ w si fps s L K y st' (fun s' ds A=>bS (hp w) (Rl R θ s'.cv) (Bl θ s'.bm) false (fr θ s'.bm) L bx ds A/\ ∀p∈bx,∃b,look p.1 s'.bm=some b/\(si.boxes b).isSome=true)
 | [],sc,st',l,fps,s,L,K,g,k,h=>by
  simp only [qX]at h;exact jz g k h ⟨by simp only [bS];exact⟨trivial,trivial⟩,by simp⟩
 |(m,ks)::rest,sc,st',l,fps,s,L,K,g,k,h=>by
  simp only [qX]at h;cases q:look m s.bm with
  |none=>simp [q,M.run]at h
  |some b=>
   simp only [q]at h;obtain⟨cs,l1,d,h⟩:=M.pQ h;rw [g.boxes]at d;obtain⟨arr,ty,frz,k1,k2,k3⟩:=j.boxes b cs d;obtain⟨s1,ae,A1,d1,l1,h,r,e1,z,c1,r1⟩:=pV j ks g k k3 h;obtain⟨s2,t,A2,d2,l2,h,u,e2,i,c2,r2,r3⟩:=Df j rest r c1 h;have f:look m s2.bm=some b:=i.bm m b (z.bm m b q);refine⟨s2,t,A1++A2,d1++d2,l2,h,by rw [Env.dj,<-Â];exact u,by rw [e2,e1];simp,z.trans i,by rw [<-Â];exact c2, ?_,fun p hp=> ?_⟩
   .simp only [bS]
    exact⟨arr,ty,frz,d1,d2,A1,A2,rfl,rfl,by simpa [fr,f]using k1,k2,r1.mono i.rl i.bl,r2⟩
   .rcases Ç.1 hp with rfl|hp
    .exact⟨b,f,by simp [d]⟩
    .exact r3 p hp
theorem Dg (p:Inv w0 F R si θ w): ∀(ks:List CK) (cs:List Cell) {vs:List Value} {sc st':St} {l:Log} {fps:List Nat} {s:CS} {L:Env} {K:CS->M β},bJ w0 F R θ w si sc fps->eW si θ s L->aI (hp w) R si θ cs vs->
  (mI ks cs s K).run sc=some (y,st',l)-> ∃s' f t,(K s').run f=some (y,st',t)/\bJ w0 F R θ w si f fps/\s'.dv=s.dv/\fT s s'/\eW si θ s' L
 |k::ks,c::cs,vs,sc,st',l,fps,s,L,K,b,d,g,h=>by
  simp only [aI]at g;obtain⟨v,z,rfl,hv,i⟩:=g;cases k with
  |pb m off=>
   simp only [mI]at h;obtain⟨s1,ae,A1,d1,t,h,j,e1,x1,c1,u⟩:=xE p (.pb m off) b d hv.1 h;simp only [aq]at u;obtain⟨rfl,rfl, -⟩:=u;simp only [Env.fps,List.flatMap_nil,Ë]at j;simp only [Ë]at c1;obtain⟨s2,q,l2,h,r,e2,x2,c2⟩:=Dg p ks cs j c1 i h;exact⟨s2,q,l2,h,r,by rw [e2,e1];rfl,x1.trans x2,c2⟩
  |_=>simp only [mI]at h;exact Dg p ks cs b d i h
 | [],[],vs,sc,st',l,fps,s,L,K,b,d,g,h=>by simp only [mI]at h;exact⟨s,sc,l,h,b,rfl,fT.refl s,d⟩
 | [],_::_,vs,sc,st',l,fps,s,L,K,b,d,g,h=>by simp only [mI]at h;exact⟨s,sc,l,h,b,rfl,fT.refl s,d⟩
 |k::_,[],vs,sc,st',l,fps,s,L,K,b,d,g,h=>by
  cases k<;>simp only [mI]at h<;>exact⟨s,sc,l,h,b,rfl,fT.refl s,d⟩
theorem Mb (i:Inv w0 F R si θ w): ∀(bx:List (Nat×List CK)) {sc st':St} {l:Log} {fps:List Nat} {s:CS} {L:Env} {K:CS->M β},bJ w0 F R θ w si sc fps->eW si θ s L->
  (tE bx s K).run sc=some (y,st',l)-> ∃s' f j,(K s').run f=some (y,st',j)/\bJ w0 F R θ w si f fps/\s'.dv=s.dv/\fT s s'/\eW si θ s' L
 | [],sc,st',l,fps,s,L,K,k,p,h=>by simp only [tE]at h;exact⟨s,sc,l,h,k,rfl,fT.refl s,p⟩
 |(m,ks)::rest,sc,st',l,fps,s,L,K,k,p,h=>by
  simp only [tE]at h;obtain⟨s1,q,j,h,d,u,z,c1⟩:=Mb i rest k p h;cases hb:look m s1.bm with
  |none=>simp only [hb]at h;exact⟨s1,q,j,h,d,u,z,c1⟩
  |some b=>
   simp only [hb]at h;obtain⟨cs,l2,g,h⟩:=M.pQ h;rw [d.boxes]at g;obtain⟨arr,ty,frz,k1,k2,k3⟩:=i.boxes b cs g;obtain⟨s2,r,l3,h,t,e2,x2,c2⟩:=Dg i ks cs d c1 k3 h;exact⟨s2,r,l3,h,t,e2.trans u,z.trans x2,c2⟩
end
end Go.Ev
namespace Go.Ev
section
variable {w0 w:World} {F R:Nat→Prop} {st:St} {θ:Asg}
theorem Inv.XB (h:Inv w0 F R st θ w) {b g:Nat} (hb:st.boxes b=none) {cs:List Cell} {arr:Array Value} {ty:TypeId} {frz:Nat×Nat} (hg:hp w g=some (.cells arr ty frz)) (hz:il arr.size frz)
  (hr:aI (hp w) R st θ cs arr.toList) (t: ¬cU st θ g) (hF:F g\/w0.heap.size<=g):
  Inv w0 F R {st with boxes:=aS st.boxes b (some cs)} {θ with bx:=aS θ.bx b g} w/\Step R st θ (hp w) {st with boxes:=aS st.boxes b (some cs)} {θ with bx:=aS θ.bx b g} (hp w):=by
 have u: ∀b',(st.boxes b').isSome=true->b'≠b:=fun b' m e=>by subst e;simp [hb]at m
 have s:Step R st θ (hp w) {st with boxes:=aS st.boxes b (some cs)} {θ with bx:=aS θ.bx b g} (hp w):=by
  refine⟨fun _ _=>rfl,fun b' m=> ?_,fun k=>.inl ⟨rfl,fun hk=>⟨rfl,rfl,fun _ _=>rfl⟩⟩⟩
  simp only [aX _ _ (u b' m)];exact⟨m,trivial⟩
 refine⟨h.next s (ì _) rfl rfl rfl (fun _ _ e=>absurd rfl e) ?_ (fun k d hd=>.inl ⟨hd,rfl,rfl,fun _ _=>rfl⟩) ?_ ?_ h.oo ?_,s⟩
 .intro b' ak f
  by_cases e:b'=b
  .subst e
   simp only [bB,Å]at f;subst f;exact .inr ⟨arr,ty,frz,by simp only [bB];exact hg,hz,aI.step s _ _ hr⟩
  .simp only [aX _ _ e]at f
   exact .inl ⟨f,rfl⟩
 .intro p z i q e
  by_cases j:p=b<;>by_cases r:z=b
  .rw [j,r]
  .subst j
   simp only [aX _ _ r,bB]at q e;exact absurd (.inl ⟨z,q,e.symm⟩) t
  .subst r
   simp only [aX _ _ j,bB]at i e;exact absurd (.inl ⟨p,i,e⟩) t
  .simp only [aX _ _ j,aX _ _ r]at i q e
   exact h.bb p z i q e
 .intro p k i hk
  by_cases j:p=b
  .subst j
   simp only [bB];intro ad;exact t (.inr ⟨k,hk,ad⟩)
  .simp only [aX _ _ j]at i |-
   exact h.bo p k i hk
 .rintro g' (⟨p,i,rfl⟩|⟨k,hk,ae⟩)
  .by_cases j:p=b
   .subst j;simp only [bB];exact hF
   .simp only [aX _ _ j]at i |-
    exact h.own _ (.inl ⟨p,i,rfl⟩)
  .exact h.own _ (.inr ⟨k,hk,ae⟩)
theorem Inv.drop (h:Inv w0 F R st θ w) (θ':Asg):Inv w0 F R eC θ' w where
 size:=h.size
 same:=h.same
 os:=h.os
 tape:=h.tape
 out:=h.out
 rd:=h.rd
 boxes:=fun b cs f=>by simp [eC]at f
 aj:=fun k d hd=>by simp [eC]at hd
 bb:=fun b b' f=>by simp [eC]at f
 bo:=fun b k f=>by simp [eC]at f
 oo:=fun k k' g hk=>by simp [eC]at hk
 own:=fun g i=>by
  rcases i with⟨b,f, -⟩|⟨k,hk, -⟩
  .simp [eC]at f
  .simp [eC]at hk
theorem Mc {θ:Asg} {g:Nat}: ¬cU eC θ g:=by
 rintro(⟨b,d, -⟩|⟨k,hk, -⟩)
 .simp [eC]at d
 .simp [eC]at hk
end
section
variable {w0 w:World} {F R:Nat→Prop} {B:Nat→Nat→Prop} {nal:Bool} {β:Type} {bl:Nat→Nat}
structure mK (w0:World) (F R:Nat->Prop) (nal:Bool) (bl:Nat->Nat) (w:World) (su:St) (θ:Asg) (L:Env):Prop where
 inv:Inv w0 F R su θ w
 env:nal=false-> ∀e∈L,(su.aj e.1).bj.isSome=true/\θ.ob e.1=e.2.1/\θ.fp e.1=e.2.2
 bx: ∀m,(su.boxes m).isSome=true->θ.bx m=bl m
theorem mK.u (d: ∀m g,B m g->bl m=g) {su:St} {θ:Asg} {L:Env} (h:mK w0 F R nal bl w su θ L):iu w0 F R B nal su.boxes w su θ L:=
 ⟨h.inv,h.env,fun m g f b=>⟨b,(h.bx m b).trans (d m g f)⟩⟩
theorem fe.sub {st:St} {θ:Asg} {l l':List Nat} (h:fe w0 F st θ l) (b:l'.Sublist l):fe w0 F st θ l':=
 ⟨h.nodup.sublist b,fun g d=>h.free g (b.subset d)⟩
theorem Me (hB: ∀m g,B m g->bl m=g): ∀(bx:List (Nat×List CK)) {su st':St} {θ:Asg} {L:Env} {ds rest:List DV} {A:Env} {K:List DV->M β} {y:β} {l:Log},mK w0 F R nal bl w su θ L->bS (hp w) R B nal bl L bx ds A->fe w0 F su θ (A.fps++bx.map fun p=>bl p.1)->
  (tL bx (ds++rest) K).run su=some (y,st',l)-> ∃j θ' l1,(K rest).run j=some (y,st',l1)/\mK w0 F R nal bl w j θ' (L++A)/\(∀p∈bx,(j.boxes p.1).isSome=true)/\(∀m,(su.boxes m).isSome=true->(j.boxes m).isSome=true)/\
   ∀g,cU j θ' g->cU su θ g\/g∈A.fps\/g∈bx.map fun p=>bl p.1
 | [],su,st',θ,L,ds,rest,A,K,y,l,hu,hk,t,h=>by
  simp only [bS]at hk;obtain⟨rfl,rfl⟩:=hk;simp only [ä,tL]at h;exact⟨su,θ,l,h,by simpa using hu,by simp,fun _ h=>h,fun _ h=>.inl h⟩
 |(b,ks)::bx,su,st',θ,L,ds,rest,A,K,y,l,hu,hk,t,h=>by
  simp only [bS]at hk;obtain⟨arr,ty,frz,d1,d2,A1,A2,rfl,rfl,h1,h2,h3,h4⟩:=hk;simp only [tL,Â]at h;rw [Env.dj]at t;simp only [Ï]at t;have ah:fe w0 F (su.de su.boxes) θ A1.fps:=t.sub (by simp [Â])
  obtain⟨cs,f,θ1,l1,h,b1,t1,u1,s1,r1,x1,o1⟩:=pX ks (hu.u hB) h3 ah h;obtain⟨ai,l2,h⟩:=M.Lk h;have aj:Inv w0 F R f θ1 w:=by
   have:=u1.inv;rwa [<-b1]at this
  have z: ∀g,cU f θ1 g->cU su θ g\/g∈A1.fps:=fun g d=>o1 g (by rw [<-b1];exact d)
  have ak:aI (hp w) R f θ1 cs arr.toList:=by rw [<-b1]at r1;exact r1
  have ae: ¬cU f θ1 (bl b):=fun i=>by
   rcases z _ i with i|i
   .exact(t.free (bl b) (by simp)).1 i
   .have:=t.nodup
    rw [Â]at this;exact(Ã.1 this).2.2 _ i _ (by simp) rfl
  obtain⟨i1,i2⟩:=aj.XB ai h1 h2 ak ae (t.free (bl b) (by simp)).2
  have al:mK w0 F R nal bl w {f with boxes:=aS f.boxes b (some cs)} {θ1 with bx:=aS θ1.bx b (bl b)} (L++A1):=by
   refine⟨i1,u1.env,fun m hm=> ?_⟩
   by_cases e:m=b
   .subst e;simp [bB]
   .simp only [aX _ _ e]at hm |-
    rw [x1];exact hu.bx m (by rw [<-b1];exact hm)
  have q: ∀g,cU {f with boxes:=aS f.boxes b (some cs)} {θ1 with bx:=aS θ1.bx b (bl b)} g->cU su θ g\/g∈A1.fps\/g=bl b:=by
   rintro g (⟨b',af,e⟩|⟨k,hk,d⟩)
   .by_cases e':b'=b
    .subst e';simp only [bB]at e;exact .inr (.inr e.symm)
    .simp only [aX _ _ e']at af e
     exact(z g (.inl ⟨b',af,e⟩)).imp id .inl
   .exact(z g (.inr ⟨k,hk,d⟩)).imp id .inl
  have ao:fe w0 F {f with boxes:=aS f.boxes b (some cs)} {θ1 with bx:=aS θ1.bx b (bl b)} (A2.fps++bx.map fun p=>bl p.1):=by
   have r:(A2.fps++bx.map fun p=>bl p.1).Sublist (A1.fps++A2.fps++(bl b::bx.map fun p=>bl p.1)):=by
    rw [Â];exact(List.Sublist.append_left (List.sublist_cons_self _ _) _).trans (ê _ _)
   have s:=t.nodup;refine⟨s.sublist r,fun g d=>⟨fun i=> ?_,(t.free g (r.subset d)).2⟩⟩
   rcases q g i with i|i|i
   .exact(t.free g (r.subset d)).1 i
   .rw [Â]at s
    refine(Ã.1 s).2.2 g i g ?_ rfl
    rcases É.1 d with d|d
    .simp [d]
    .exact É.2 (.inr (List.mem_cons_of_mem _ d))
   .subst i
    rw [Â]at s;have h2:=(Ã.1 s).2.1;rcases É.1 d with d|d
    .exact(Ã.1 h2).2.2 _ d _ (by simp) rfl
    .exact(List.nodup_cons.1 (Ã.1 h2).2.1).1 d
  obtain⟨aq,ar,l3,h,n2,q1,q2,q3⟩:=Me hB bx al h4 ao h;refine⟨aq,ar,l3,h,by rw [<-Â];exact n2,fun p hp=> ?_,fun m hm=>q2 m ?_,fun g d=> ?_⟩
  .rcases Ç.1 hp with rfl|hp
   .exact q2 _ (by simp [bB])
   .exact q1 p hp
  .by_cases e:m=b
   .subst e;simp [bB]
   .simp only [aX _ _ e];rw [b1];exact hm
  .rw [Env.dj]
   simp only [Ï,Ç,É];rcases q3 g d with d|d|d
   .rcases q g d with d|d|d
    .exact .inl d
    .exact .inr (.inl (.inl d))
    .exact .inr (.inr (.inl d))
   .exact .inr (.inl (.inr d))
   .exact .inr (.inr (.inr d))
theorem Mf (hB: ∀m g,B m g->bl m=g) (val:Nat->Value): ∀(ts:List (Nat×bk)) {su st':St} {θ:Asg} {L:Env} {f:Nat->TV} {ds rest:List DV} {A:Env} {K:(Nat->TV)->M β} {y:β} {l:Log},mK w0 F R nal bl w su θ L->dR (hp w) R B nal val L ts ds A->fe w0 F su θ A.fps->(∀t,aU (hp w) R su θ (f t) (val t))->
  (tK ts f (ds++rest) K).run su=some (y,st',l)-> ∃j d θ' l1,(K j).run d=some (y,st',l1)/\mK w0 F R nal bl w d θ' (L++A)/\d.boxes=su.boxes/\(∀t,aU (hp w) R d θ' (j t) (val t))
 | [],su,st',θ,L,f,ds,rest,A,K,y,l,hu,hk,p,q,h=>by
  simp only [dR]at hk;obtain⟨rfl,rfl⟩:=hk;simp only [tK]at h;exact⟨f,su,θ,l,h,by simpa using hu,rfl,q⟩
 |(t,k)::ts,su,st',θ,L,f,ds,rest,A,K,y,l,hu,hk,p,q,h=>by
  simp only [dR]at hk;obtain⟨d1,d2,A1,A2,rfl,rfl,h1,h2⟩:=hk;simp only [tK,Â]at h;obtain⟨x,b,θ1,l1,h,i,t1,u1,s1,r1,x1,o1⟩:=LY k (hu.u hB) h1 (p.left (A2:=A2)) h;have r:=p.split (A1:=A1) (A2:=A2) (st1:=b) (θ1:=θ1) (fun g hg=>o1 g (by rw [<-i];exact hg))
  have n1:mK w0 F R nal bl w b θ1 (L++A1):=by
   refine⟨by have:=u1.inv;rwa [<-i]at this,u1.env,fun m hm=> ?_⟩
   rw [x1];exact hu.bx m (by rw [<-i];exact hm)
  have e1:b.de su.boxes=b:=by rw [<-i];rfl
  have s:Step R su θ (hp w) b θ1 (hp w):=by rw [e1]at s1;exact s1
  obtain⟨j,z,ad,l2,h,n2,b2,r2⟩:=Mf hB val ts n1 h2 r (f:=aS f t x) (fun t'=>by
   by_cases e:t'=t
   .subst e;rw [bB];rw [<-i]at r1;exact r1
   .rw [aX _ _ e];exact aU.step s _ _ (q t')) h
  exact⟨j,z,ad,l2,h,by rw [<-Â];exact n2,b2.trans i,r2⟩
theorem XC (hB: ∀m g,B m g->bl m=g) (val:Nat->Value) {g:cH} {dB dT:List DV} {AB AT:Env} {tW:Asg} {K:(Nat->TV)->M β} {y:β} {st':St} {l:Log} (hI:Inv w0 F R eC tW w) (q:bS (hp w) R B nal bl [] g.boxes dB AB) (r:dR (hp w) R B nal val AB g.tmps dT AT)
  (hn:((AB++AT).fps++g.boxes.map fun p=>bl p.1).Nodup) (ho: ∀b∈(AB++AT).fps++g.boxes.map fun p=>bl p.1,F b\/w0.heap.size<=b)
  (h:(CI g (dB++dT) K).run eC=some (y,st',l)):
  ∃f su θ' l1,(K f).run su=some (y,st',l1)/\Inv w0 F R su θ' w/\(∀t,aU (hp w) R su θ' (f t) (val t))/\ ∀p∈g.boxes,(su.boxes p.1).isSome=true/\θ'.bx p.1=bl p.1:=by
 have n0:mK w0 F R nal bl w eC tW []:=⟨hI,fun _ e he=>by simp at he,fun m hm=>by simp [eC]at hm⟩
 have i:(AB.fps++g.boxes.map fun p=>bl p.1).Sublist ((AB++AT).fps++g.boxes.map fun p=>bl p.1):=by
  rw [Env.dj];exact List.Sublist.append_right (í _ _) _
 simp only [CI]at h;obtain⟨su,θ1,l1,h,n1,q1,q2,q3⟩:=Me hB g.boxes n0 q ⟨hn.sublist i,fun b j=>⟨Mc,ho b (i.subset j)⟩⟩ h
 have s:fe w0 F su θ1 AT.fps:=by
  have d:=hn;rw [Env.dj]at d;refine⟨d.sublist ((ê _ _).trans (í _ _)),fun b j=>⟨fun u=> ?_,ho b (by rw [Env.dj];simp [j])⟩⟩
  rcases q3 b u with k|k|k
  .exact Mc k
  .exact(Ã.1 (Ã.1 d).1).2.2 b k b j rfl
  .exact(Ã.1 d).2.2 b (by simp [j]) b k rfl
 rw [<-Ë dT]at h;obtain⟨f,z,ad,l2,h,n2,b2,r2⟩:=Mf hB val g.tmps n1 (by simpa using r) s (fun t=>lH _) h
 exact⟨f,z,ad,l2,h,n2.inv,r2,fun p hp=>⟨by rw [b2];exact q1 p hp,n2.bx p.1 (by rw [b2];exact q1 p hp)⟩⟩
end
end Go.Ev
namespace Go.Ev
mutual
def oe (pb:Bool):CK->Bool
 |.al _=>false
 |.gs _ _=>false
 |.pb _ _=>pb
 |.fn _ a b=>oh pb a&&oh pb b
 |_=>true
def oh (pb:Bool):List CK->Bool
 | []=>true
 |c::cs=>oe pb c&&oh pb cs
end
def okV (pb:Bool):bk->Bool
 |.one c=>oe pb c
 |.agg cs=>oh pb cs
 |.aP vs=>pY vs
where
 pY:List bk->Bool
  | []=>true
  |.one c::r=>oe pb c&&pY r
  |.agg cs::r=>oh pb cs&&pY r
  |.aP _::_=>false
def xH (pb:Bool):List bk->Bool
 | []=>true
 |c::cs=>okV pb c&&xH pb cs
def okB (pb:Bool):List (Nat×List CK)->Bool
 | []=>true
 |(_,ks)::r=>oh pb ks&&okB pb r
def dL:List (Nat×List CK)->List (List CK)->List (Nat×List CK)
 |(m,_)::bx,ks::r=>(m,ks)::dL bx r
 |_,_=>[]
section
variable {H:Heap} {R R':Nat→Prop} {B B':Nat→Nat→Prop} {pb:Bool}
theorem aC.ft {d:aY} {v:Value} {fp:List Nat} (h:aC H R true d v fp):aC H R' true d v fp:=by
 revert h
 refine aY.rec (motive_1:=fun d=> ∀(v:Value) (fp:List Nat),aC H R true d v fp->aC H R' true d v fp)
  (motive_2:=fun ds=> ∀(vs:List Value) (fp:List Nat),ar H R true ds vs fp->ar H R' true ds vs fp) ?_ ?_ ?_ ?_ ?_ ?_ d v fp
 .intro x v fp h;simpa only [aC]using h
 .intro k m v fp h;simpa only [aC]using h
 .intro x v fp h;simpa only [aC]using h
 .intro sz cs ih v fp h
  simp only [aC]at h |-;obtain⟨a,len,cap,b,f,i,j,s,h⟩:=h;refine⟨a,len,cap,b,f,i,j,s, ?_⟩
  rcases h with⟨-,h|⟨g,cur,ty,frz,fps,k1,k2,k3,t,u,z⟩⟩|⟨h, -⟩
  .exact .inl ⟨trivial,.inl h⟩
  .exact .inl ⟨trivial,.inr ⟨g,cur,ty,frz,fps,k1,k2,k3,t,u,ih _ _ z⟩⟩
  .simp at h
 .intro vs fp h;simpa only [ar]using h
 .intro d ds p q vs fp h
  simp only [ar]at h |-;obtain⟨v,r,f1,f2,b,f,i,j⟩:=h;exact⟨v,r,f1,f2,b,f,p _ _ i,q _ _ j⟩
mutual
theorem aq.up (d:pb=true-> ∀m g,B m g->B' m g): ∀(k:CK) {L L':Env} {nm:Nat} {ds:List DV} {v:Value} {A:Env} {nal:Bool},oe pb k=true->aq H R B nal L nm k ds v A->aq H R B' true L' nm k ds v A
 |.undef,_,_,_,_,_,_,_,_,h=>by simpa only [aq]using h
 |.bool,_,_,_,_,_,_,_,_,h=>by simpa only [aq]using h
 |.int _,_,_,_,_,_,_,_,_,h=>by simpa only [aq]using h
 |.str,_,_,_,_,_,_,_,_,h=>by simpa only [aq]using h
 |.er,_,_,_,_,_,_,_,_,h=>by simpa only [aq]using h
 |.sh _,_,_,_,_,_,_,_,_,h=>by simpa only [aq]using h
 |.own _,_,_,_,_,_,_,_,_,h=>by simpa only [aq]using h
 |.nl,_,_,_,_,_,_,_,_,h=>by simpa only [aq]using h
 |.al _,_,_,_,_,_,_,_,hk,_=>by simp [oe]at hk
 |.gs _ _,_,_,_,_,_,_,_,hk,_=>by simp [oe]at hk
 |.pb _ _,_,_,_,_,_,_,_,hk,h=>by
  simp only [oe]at hk;simp only [aq]at h |-;obtain⟨i,p,g,q,r⟩:=h;exact⟨i,p,g,d hk _ _ q,r⟩
 |.eT,_,_,_,_,_,_,_,_,h=>by simpa only [aq]using h
 |.fl,_,_,_,_,_,_,_,_,h=>by simpa only [aq]using h
 |.fn f a b,_,_,_,_,_,_,_,hk,h=>by
  simp only [oe,À]at hk;simp only [aq]at h |-;obtain⟨u,vb,d1,d2,A1,A2,i,p,q,r,s⟩:=h;exact⟨u,vb,d1,d2,A1,A2,i,p,q,bq.up d a hk.1 r,bq.up d b hk.2 s⟩
theorem bq.up (d:pb=true-> ∀m g,B m g->B' m g): ∀(ks:List CK) {L L':Env} {nm:Nat->Nat} {j:Nat} {ds:List DV} {vs:List Value} {A:Env} {nal:Bool},oh pb ks=true->bq H R B nal L nm j ks ds vs A->bq H R B' true L' nm j ks ds vs A
 | [],_,_,_,_,_,_,_,_,_,h=>by simpa only [bq]using h
 |c::cs,_,_,_,_,_,_,_,_,hk,h=>by
  simp only [oh,À]at hk;simp only [bq]at h |-;obtain⟨v,t,d1,d2,A1,A2,i,p,q,r,s,z⟩:=h;exact⟨v,t,d1,d2,A1,A2,i,p,q,r,aq.up d c hk.1 s,bq.up d cs hk.2 z⟩
end
theorem cr.up (d:pb=true-> ∀m g,B m g->B' m g): ∀(ks:List bk) {L L':Env} {nm:Nat->Nat} {j:Nat} {ds:List DV} {vs:List Value} {A:Env} {nal:Bool},okV.pY pb ks=true->cr H R B nal L nm j ks ds vs A->cr H R B' true L' nm j ks ds vs A
 | [],_,_,_,_,_,_,_,_,_,h=>by simpa only [cr]using h
 |.one c::cs,_,_,_,_,_,_,_,_,hk,h=>by
  simp only [okV.pY,À]at hk;simp only [cr]at h |-;obtain⟨v,b,d1,d2,A1,A2,f,i,k,r,p,q⟩:=h;exact⟨v,b,d1,d2,A1,A2,f,i,k,r,aq.up d c hk.1 p,cr.up d cs hk.2 q⟩
 |.agg s::cs,_,_,_,_,_,_,_,_,hk,h=>by
  simp only [okV.pY,À]at hk;simp only [cr]at h |-;obtain⟨v,b,d1,d2,A1,A2,f,i,k,p,q⟩:=h;exact⟨v,b,d1,d2,A1,A2,f,i,k,bq.up d s hk.1 p,cr.up d cs hk.2 q⟩
 |.aP _::_,_,_,_,_,_,_,_,_,hk,_=>by simp [okV.pY]at hk
theorem bU.up (b:pb=true-> ∀m g,B m g->B' m g) {k:bk} {L L':Env} {nm:Nat->Nat} {ds:List DV} {v:Value} {A:Env} {nal:Bool} (hk:okV pb k=true) (h:bU H R B nal L nm k ds v A):bU H R B' true L' nm k ds v A:=by
 cases k with
 |one c=>simp only [okV]at hk;simp only [bU]at h |-;exact⟨h.1,aq.up b c hk h.2⟩
 |agg ks=>simp only [okV]at hk;simp only [bU]at h |-;obtain⟨arr,d,f⟩:=h;exact⟨arr,d,bq.up b ks hk f⟩
 |aP ks=>simp only [okV]at hk;simp only [bU]at h |-;obtain⟨arr,d,f⟩:=h;exact⟨arr,d,cr.up b ks hk f⟩
theorem bS.up (b:pb=true-> ∀m g,B m g->B' m g) {bl:Nat->Nat}: ∀ {bx:List (Nat×List CK)} {L L':Env} {ds:List DV} {A:Env} {nal:Bool},okB pb bx=true->bS H R B nal bl L bx ds A->bS H R B' true bl L' bx ds A
 | [],_,_,_,_,_,_,h=>h
 |(m,ks)::rest,_,_,_,_,_,hk,h=>by
  simp only [okB,À]at hk;simp only [bS]at h |-;obtain⟨arr,ty,frz,d1,d2,A1,A2,d,f,i,j,k,p⟩:=h;exact⟨arr,ty,frz,d1,d2,A1,A2,d,f,i,j,bq.up b ks hk.1 k,bS.up b hk.2 p⟩
mutual
def kG (N:List Nat):CK->Bool
 |.al _=>false
 |.gs _ _=>false
 |.pb m _=>N.elem m
 |.fn _ a b=>lJ N a&&lJ N b
 |_=>true
def lJ (N:List Nat):List CK->Bool
 | []=>true
 |c::cs=>kG N c&&lJ N cs
end
mutual
theorem aq.rp {N:List Nat} {bm:List (Nat×Nat)} (d: ∀m∈N,∀g,B m g-> ∀b,look m bm=some b->B' b g): ∀(k:CK) {L L':Env} {nm:Nat} {ds:List DV} {v:Value} {A:Env} {nal:Bool},kG N k=true->aq H R B nal L nm k ds v A->aq H R B' true L' nm (iY bm k) ds v A
 |.undef,_,_,_,_,_,_,_,_,h=>by simpa only [iY,aq]using h
 |.bool,_,_,_,_,_,_,_,_,h=>by simpa only [iY,aq]using h
 |.int _,_,_,_,_,_,_,_,_,h=>by simpa only [iY,aq]using h
 |.str,_,_,_,_,_,_,_,_,h=>by simpa only [iY,aq]using h
 |.er,_,_,_,_,_,_,_,_,h=>by simpa only [iY,aq]using h
 |.sh _,_,_,_,_,_,_,_,_,h=>by simpa only [iY,aq]using h
 |.own _,_,_,_,_,_,_,_,_,h=>by simpa only [iY,aq]using h
 |.nl,_,_,_,_,_,_,_,_,h=>by simpa only [iY,aq]using h
 |.al _,_,_,_,_,_,_,_,hk,_=>by simp [kG]at hk
 |.gs _ _,_,_,_,_,_,_,_,hk,_=>by simp [kG]at hk
 |.pb m _,_,_,_,_,_,_,_,hk,h=>by
  simp only [kG,ð,decide_eq_true_eq]at hk;simp only [aq]at h;obtain⟨i,p,g,q,r⟩:=h;simp only [iY];cases e:look m bm with
  |none=>simp only [aq];exact⟨i,p⟩
  |some b=>simp only [aq];exact⟨i,p,g,d m hk g q b e,r⟩
 |.eT,_,_,_,_,_,_,_,_,h=>by simpa only [iY,aq]using h
 |.fl,_,_,_,_,_,_,_,_,h=>by simpa only [iY,aq]using h
 |.fn f a b,_,_,_,_,_,_,_,hk,h=>by
  simp only [kG,À]at hk;simp only [iY,aq]at h |-;obtain⟨u,vb,d1,d2,A1,A2,i,p,q,r,s⟩:=h;exact⟨u,vb,d1,d2,A1,A2,i,p,q,bq.rp d a hk.1 r,bq.rp d b hk.2 s⟩
theorem bq.rp {N:List Nat} {bm:List (Nat×Nat)} (d: ∀m∈N,∀g,B m g-> ∀b,look m bm=some b->B' b g): ∀(ks:List CK) {L L':Env} {nm:Nat->Nat} {j:Nat} {ds:List DV} {vs:List Value} {A:Env} {nal:Bool},lJ N ks=true->bq H R B nal L nm j ks ds vs A->bq H R B' true L' nm j (mJ bm ks) ds vs A
 | [],_,_,_,_,_,_,_,_,_,h=>by simpa only [mJ,bq]using h
 |c::cs,_,_,_,_,_,_,_,_,hk,h=>by
  simp only [lJ,À]at hk;simp only [mJ,bq]at h |-;obtain⟨v,t,d1,d2,A1,A2,i,p,q,r,s,z⟩:=h;exact⟨v,t,d1,d2,A1,A2,i,p,q,r,aq.rp d c hk.1 s,bq.rp d cs hk.2 z⟩
end
mutual
theorem aq.mL {N:List Nat} (d: ∀m∈N,∀g,B m g->B' m g): ∀(k:CK) {L L':Env} {nm:Nat} {ds:List DV} {v:Value} {A:Env} {nal:Bool},kG N k=true->aq H R B nal L nm k ds v A->aq H R B' true L' nm k ds v A
 |.undef,_,_,_,_,_,_,_,_,h=>by simpa only [aq]using h
 |.bool,_,_,_,_,_,_,_,_,h=>by simpa only [aq]using h
 |.int _,_,_,_,_,_,_,_,_,h=>by simpa only [aq]using h
 |.str,_,_,_,_,_,_,_,_,h=>by simpa only [aq]using h
 |.er,_,_,_,_,_,_,_,_,h=>by simpa only [aq]using h
 |.sh _,_,_,_,_,_,_,_,_,h=>by simpa only [aq]using h
 |.own _,_,_,_,_,_,_,_,_,h=>by simpa only [aq]using h
 |.nl,_,_,_,_,_,_,_,_,h=>by simpa only [aq]using h
 |.al _,_,_,_,_,_,_,_,hk,_=>by simp [kG]at hk
 |.gs _ _,_,_,_,_,_,_,_,hk,_=>by simp [kG]at hk
 |.pb m _,_,_,_,_,_,_,_,hk,h=>by
  simp only [kG,ð,decide_eq_true_eq]at hk;simp only [aq]at h |-;obtain⟨i,p,g,q,r⟩:=h;exact⟨i,p,g,d m hk g q,r⟩
 |.eT,_,_,_,_,_,_,_,_,h=>by simpa only [aq]using h
 |.fl,_,_,_,_,_,_,_,_,h=>by simpa only [aq]using h
 |.fn f a b,_,_,_,_,_,_,_,hk,h=>by
  simp only [kG,À]at hk;simp only [aq]at h |-;obtain⟨u,vb,d1,d2,A1,A2,i,p,q,r,s⟩:=h;exact⟨u,vb,d1,d2,A1,A2,i,p,q,bq.mL d a hk.1 r,bq.mL d b hk.2 s⟩
theorem bq.mL {N:List Nat} (d: ∀m∈N,∀g,B m g->B' m g): ∀(ks:List CK) {L L':Env} {nm:Nat->Nat} {j:Nat} {ds:List DV} {vs:List Value} {A:Env} {nal:Bool},lJ N ks=true->bq H R B nal L nm j ks ds vs A->bq H R B' true L' nm j ks ds vs A
 | [],_,_,_,_,_,_,_,_,_,h=>by simpa only [bq]using h
 |c::cs,_,_,_,_,_,_,_,_,hk,h=>by
  simp only [lJ,À]at hk;simp only [bq]at h |-;obtain⟨v,t,d1,d2,A1,A2,i,p,q,r,s,z⟩:=h;exact⟨v,t,d1,d2,A1,A2,i,p,q,r,aq.mL d c hk.1 s,bq.mL d cs hk.2 z⟩
end
theorem bS.mL {N:List Nat} (b: ∀m∈N,∀g,B m g->B' m g) {bl:Nat->Nat}: ∀ {bx:List (Nat×List CK)} {bO:List (List CK)} {L L':Env} {ds:List DV} {A:Env} {nal:Bool},bO.all (lJ N)=true->bS H R B nal bl L (dL bx bO) ds A->bS H R B' true bl L' (dL bx bO) ds A
 | [],_,_,_,_,_,_,_,h=>by simpa only [dL,bS]using h
 |_::_,[],_,_,_,_,_,_,h=>by simpa only [dL,bS]using h
 |(m,_)::bx,ks::bO,_,_,_,_,_,hk,h=>by
  simp only [Ĉ,À]at hk;simp only [dL,bS]at h |-;obtain⟨arr,ty,frz,d1,d2,A1,A2,d,f,i,j,k,p⟩:=h;exact⟨arr,ty,frz,d1,d2,A1,A2,d,f,i,j,bq.mL b ks hk.1 k,bS.mL b hk.2 p⟩
theorem dR.up (b:pb=true-> ∀m g,B m g->B' m g) {val:Nat->Value}: ∀ {ks:List bk} {t:Nat} {L L':Env} {ds:List DV} {A:Env} {nal:Bool},xH pb ks=true->dR H R B nal val L (gp t ks) ds A->dR H R B' true val L' (gp t ks) ds A
 | [],_,_,_,_,_,_,_,h=>h
 |k::rest,_,_,_,_,_,_,hk,h=>by
  simp only [xH,À]at hk;simp only [gp,dR]at h |-;obtain⟨d1,d2,A1,A2,d,f,i,j⟩:=h;exact⟨d1,d2,A1,A2,d,f,i.up b hk.1,dR.up b hk.2 j⟩
mutual
theorem aq.ft: ∀(k:CK) {L:Env} {nm:Nat} {ds:List DV} {v:Value} {A:Env},tF k=false->aq H R B true L nm k ds v A->aq H R' B true L nm k ds v A
 |.undef,_,_,_,_,_,_,h=>by simpa only [aq]using h
 |.bool,_,_,_,_,_,_,h=>by simpa only [aq]using h
 |.int _,_,_,_,_,_,_,h=>by simpa only [aq]using h
 |.str,_,_,_,_,_,_,h=>by simpa only [aq]using h
 |.er,_,_,_,_,_,_,h=>by simpa only [aq]using h
 |.sh _,_,_,_,_,_,hk,_=>by simp [tF]at hk
 |.own _,_,_,_,_,_,_,h=>by
  simp only [aq]at h |-;obtain⟨x,fp,d,g,i,m⟩:=h;exact⟨x,fp,d,g,i.ft,m⟩
 |.nl,_,_,_,_,_,_,h=>by simpa only [aq]using h
 |.al _,_,_,_,_,_,_,h=>by simpa only [aq]using h
 |.gs _ _,_,_,_,_,_,_,h=>by simpa only [aq]using h
 |.pb _ _,_,_,_,_,_,_,h=>by simpa only [aq]using h
 |.eT,_,_,_,_,_,_,h=>by simpa only [aq]using h
 |.fl,_,_,_,_,_,_,h=>by simpa only [aq]using h
 |.fn f a b,_,_,_,_,_,hk,h=>by
  simp only [tF,Ð]at hk;simp only [aq]at h |-;obtain⟨r,vb,d1,d2,A1,A2,d,g,i,m,p⟩:=h;exact⟨r,vb,d1,d2,A1,A2,d,g,i,bq.ft a hk.1 m,bq.ft b hk.2 p⟩
theorem bq.ft: ∀(ks:List CK) {L:Env} {nm:Nat->Nat} {j:Nat} {ds:List DV} {vs:List Value} {A:Env},pH ks=false->bq H R B true L nm j ks ds vs A->bq H R' B true L nm j ks ds vs A
 | [],_,_,_,_,_,_,_,h=>by simpa only [bq]using h
 |c::cs,_,_,_,_,_,_,hk,h=>by
  simp only [pH,Ð]at hk;simp only [bq]at h |-;obtain⟨v,q,d1,d2,A1,A2,d,g,i,m,p,s⟩:=h;exact⟨v,q,d1,d2,A1,A2,d,g,i,m,aq.ft c hk.1 p,bq.ft cs hk.2 s⟩
end
theorem cr.ft: ∀(ks:List bk) {L:Env} {nm:Nat->Nat} {j:Nat} {ds:List DV} {vs:List Value} {A:Env},tG ks=false->cr H R B true L nm j ks ds vs A->cr H R' B true L nm j ks ds vs A
 | [],_,_,_,_,_,_,_,h=>by simpa only [cr]using h
 |.one c::cs,_,_,_,_,_,_,hk,h=>by
  simp only [tG,nS,Ð]at hk;simp only [cr]at h |-;obtain⟨v,b,d1,d2,A1,A2,d,f,g,m,i,k⟩:=h;exact⟨v,b,d1,d2,A1,A2,d,f,g,m,aq.ft c hk.1 i,cr.ft cs hk.2 k⟩
 |.agg p::cs,_,_,_,_,_,_,hk,h=>by
  simp only [tG,nS,Ð]at hk;simp only [cr]at h |-;obtain⟨v,b,d1,d2,A1,A2,d,f,g,i,k⟩:=h;exact⟨v,b,d1,d2,A1,A2,d,f,g,bq.ft p hk.1 i,cr.ft cs hk.2 k⟩
 |.aP _::_,_,_,_,_,_,_,_,h=>by simp only [cr]at h
theorem bU.ft {k:bk} {L:Env} {nm:Nat->Nat} {ds:List DV} {v:Value} {A:Env} (hk:nS k=false) (h:bU H R B true L nm k ds v A):bU H R' B true L nm k ds v A:=by
 cases k with
 |one c=>simp only [nS]at hk;simp only [bU]at h |-;exact⟨h.1,aq.ft c hk h.2⟩
 |agg ks=>simp only [nS]at hk;simp only [bU]at h |-;obtain⟨arr,b,d⟩:=h;exact⟨arr,b,bq.ft ks hk d⟩
 |aP ks=>simp only [nS]at hk;simp only [bU]at h |-;obtain⟨arr,b,d⟩:=h;exact⟨arr,b,cr.ft ks hk d⟩
theorem bS.ft {bl:Nat->Nat}: ∀ {bx:List (Nat×List CK)} {b:List (List CK)} {L:Env} {ds:List DV} {A:Env},xi b=false->bS H R B true bl L (dL bx b) ds A->bS H R' B true bl L (dL bx b) ds A
 | [],_,_,_,_,_,h=>by simpa only [dL,bS]using h
 |_::_,[],_,_,_,_,h=>by simpa only [dL,bS]using h
 |(m,_)::rest,ks::b,_,_,_,hk,h=>by
  simp only [xi,Ð]at hk;simp only [dL,bS]at h |-;obtain⟨arr,ty,frz,d1,d2,A1,A2,d,f,g,i,j,k⟩:=h;exact⟨arr,ty,frz,d1,d2,A1,A2,d,f,g,i,bq.ft ks hk.1 j,bS.ft hk.2 k⟩
end
def eO (bl:Nat->Nat) (m g:Nat):Prop:=bl m=g
def rq (_ _:Nat):Prop:=False
structure bE where
 n:Nat
 w:World
structure oi (gl:bE) (w:World) (F:Nat->Prop):Prop where
 size:gl.n<=w.heap.size
 at_: ∀b,b<gl.n-> ¬F b/\hp w b=hp gl.w b
structure pZ (gl:bE) (E:Entry) (w:World) (F R:Nat->Prop) (bl:Nat->Nat) (val:Nat->Value) (dB dA:List DV) (AB AA:Env):Prop where
 kb:bS (hp w) R (eO bl) true bl [] E.bx dB AB
 kt:dR (hp w) R (eO bl) true val AB (gp 0 E.ins) dA AA
 nd:((AB++AA).fps++E.bx.map fun p=>bl p.1).Nodup
 own: ∀b∈(AB++AA).fps++E.bx.map fun p=>bl p.1,F b
 rd: ∀b,R b->b<w.heap.size/\ ¬F b
 gl:oi gl w F
structure iw (E:Entry) (w w':World) (F R:Nat->Prop) (bl:Nat->Nat) (r:bN E.bH) (u:Value):Prop where
 size:w.heap.size<=w'.heap.size
 same: ∀b,b<w.heap.size-> ¬F b->hp w' b=hp w b
 os:w'.os=w.os
 tape:w'.tape=w.tape
 out:w'.output=w.output
 res: ∃d1 A1 d2 A2,lD E.bH r=d1++d2/\bU (hp w') R rq true [] (fE 9000) E.outs d1 u A1/\bS (hp w') R (eO bl) true bl A1 (dL E.bx E.bO) d2 A2/\
  ((A1++A2).fps++E.bx.map fun p=>bl p.1).Nodup/\ ∀b∈(A1++A2).fps,F b\/w.heap.size<=b
def cX (P:Program) (gl:bE) (E:Entry) (ds:List DV) (r:bN E.bH):Prop:=
 ∀(w:World) (F R:Nat->Prop) (bl:Nat->Nat) (args:Array Value) (dB dA:List DV) (AB AA:Env),ds=dB++dA->args.size=E.ins.length->pZ gl E w F R bl (fun i=>args.getD i undef) dB dA AB AA->
  Calls P E.f args w fun
   |.returned u,w'=>match E.back with
    |none=>iw E w w' F R bl r u
    |some t=>u=.tuple #[]/\iw E w w' F R bl r (args.getD t undef)
   |_,_=>False
def jX (E:Entry):Bool:=
 xH true E.ins&&(okB true E.bx&&(okV false E.outs&&(E.bO.all (lJ (E.bx.map (·.1)))&&(decide ((E.bx.map (·.1)).Nodup)&&(ç E.bx.length E.bO.length&&(E.back.isNone||(E.bx.isEmpty&&E.fn.results.isEmpty)))))))
end Go.Ev
namespace Go.Ev
section
variable {w0 w w':World} {F R:Nat→Prop} {st st':St} {θ:Asg} {β:Type} {y:β} {l:Log}
theorem Mg: ∀ {cv:List Nat} {k:M β} {l:Log},(Ev.alive cv k).run st=some (y,st',l)->(∀n∈cv,(st.aj n).bj.isSome=true)/\ ∃b,k.run st=some (y,st',b)
 | [],k,l,h=>⟨by simp,l,h⟩
 |n::r,k,l,h=>by
  simp only [Ev.alive]at h;obtain⟨b,h⟩:=M.fH h;obtain⟨d,h⟩:=M.aN h;obtain⟨f,g⟩:=Mg h;refine⟨fun m hm=> ?_,g⟩
  rcases Ç.1 hm with rfl|hm
  .exact d
  .exact f m hm
theorem Inv.XD (m:Inv w0 F R st θ w) {Fc:Nat->Prop} {Bb:Nat->Option (List Cell)}
  (z:w.heap.size<=w'.heap.size) (ad:w'.os=w.os) (ae:w'.tape=w.tape) (q:w'.output=w.output)
  (f: ∀g,g<w.heap.size-> ¬Fc g->hp w' g=hp w g) (af: ∀g,Fc g->F g\/w0.heap.size<=g) (ag: ∀g,R g-> ¬Fc g) (ah: ∀k g,(st.aj k).bj.isSome=true->g∈θ.fp k-> ¬Fc g)
  (hB: ∀b,(Bb b=st.boxes b/\((st.boxes b).isSome=true-> ¬Fc (θ.bx b)))\/
   ((st.boxes b).isSome=true/\ ∃arr ty frz,Bb b=some (è arr.size .undef)/\hp w' (θ.bx b)=some (.cells arr ty frz)/\il arr.size frz/\ ∀v∈arr.toList,cC v=true)):
  Inv w0 F R (st.de Bb) θ w'/\Step R st θ (hp w) (st.de Bb) θ (hp w'):=by
 have hR: ∀g,R g->hp w' g=hp w g:=fun g p=>f g (é (m.rd g p).1 m.size) (ag g p)
 have hO: ∀k,(st.aj k).bj.isSome=true-> ∀g∈θ.fp k,hp w' g=hp w g:=fun k hk g p=>f g (m.jT (.inr ⟨k,hk,p⟩)) (ah k g hk p)
 have j: ∀b,(Bb b).isSome=true->(st.boxes b).isSome=true:=fun b r=>by
  rcases hB b with⟨e, -⟩|⟨h, -⟩
  .rw [<-e];exact r
  .exact h
 have s:Step R st θ (hp w) (st.de Bb) θ (hp w'):=by
  refine⟨hR,fun b r=>⟨?_,rfl⟩,fun k=>.inl ⟨rfl,fun hk=>⟨rfl,rfl,hO k hk⟩⟩⟩
  rcases hB b with⟨e, -⟩|⟨h,arr,ty,frz,e, -⟩
  .show(Bb b).isSome=true
   rw [e];exact r
  .show(Bb b).isSome=true
   rw [e];rfl
 refine⟨m.next s z ad ae q (fun g p e=>ë fun hn=>e (f g p fun hf=>hn (af g hf))) ?_ (fun k d hd=>.inl ⟨hd,rfl,rfl,hO k (î.2 ⟨_,hd⟩)⟩)
  (fun b b' t h2=>m.bb b b' (j b t) (j b' h2)) (fun b k t=>m.bo b k (j b t)) m.oo ?_,s⟩
 .intro b cs i
  have i:Bb b=some cs:=i;rcases hB b with⟨e,hn⟩|⟨h,arr,ty,frz,e,t,h2,h3⟩
  .rw [e]at i
   exact .inl ⟨i,f _ (m.jT (.inl ⟨b,by simp [i],rfl⟩)) (hn (by simp [i]))⟩
  .rw [e]at i
   cases i;refine .inr ⟨arr,ty,frz,t,h2, ?_⟩
   have: ∀vs:List Value,(∀v∈vs,cC v=true)->aI (hp w') R (st.de Bb) θ (è vs.length .undef) vs:=by
    intro vs;induction vs with
    |nil=>intro _;simp [aI]
    |cons v vs ih=>
     intro hv;simp only [Ą,List.replicate_succ,aI];exact⟨v,vs,rfl,⟨by simp [ax],hv v (by simp)⟩,ih (fun u hu=>hv u (by simp [hu]))⟩
   have:=this arr.toList h3;rwa [Array.length_toList]at this
 .rintro g (⟨b,r,rfl⟩|⟨k,hk,p⟩)
  .exact m.own _ (.inl ⟨b,j b r,rfl⟩)
  .exact m.own _ (.inr ⟨k,hk,p⟩)
theorem iu.any {B:Nat->Nat->Prop} {Bb:Nat->Option (List Cell)} {su:St} {L:Env} (h:iu w0 F R B true Bb w su θ L) (L':Env):iu w0 F R B true Bb w su θ L':=⟨h.inv,by simp,h.bx⟩
theorem Mh {bm:List (Nat×Nat)} {bl:Nat->Nat} {N:List Nat}: ∀(bx:List (Nat×List CK)) (bO:List (List CK)) {su st':St} {θ:Asg} {Bb:Nat->Option (List Cell)} {L:Env} {ds rest:List DV} {A:Env} {k:M β} {l:Log},iu w0 F R rq true Bb w su θ L->bO.all (lJ N)=true->(∀p∈bx,p.1∈N)->bS (hp w) R (eO bl) true bl L (dL bx bO) ds A->fe w0 F (su.de Bb) θ A.fps->
  (∀m∈N,∀b,look m bm=some b->(Bb b).isSome=true/\θ.bx b=bl m)->(pG bx bO bm (ds++rest) k).run su=some (y,st',l)->
  ∃f θ' j l1,k.run f=some (y,st',l1)/\f.tmps=su.tmps/\Inv w0 F R (f.de j) θ' w/\Step R (su.de Bb) θ (hp w) (f.de j) θ' (hp w)/\(∀b,Bb b=su.boxes b->j b=f.boxes b)/\(∀p∈bx,∀b,look p.1 bm=some b->j b=f.boxes b)/\(bx=[]->f=su)
 | [],[],su,st',θ,Bb,L,ds,rest,A,k,l,hu,s,hN,hk,z,q,h=>by
  simp only [pG]at h;exact⟨su,θ,Bb,l,h,rfl,hu.inv,Step.refl _ _ _ _,fun _ h=>h,by simp,fun _=>rfl⟩
 | [],_::_,su,st',θ,Bb,L,ds,rest,A,k,l,hu,s,hN,hk,z,q,h=>by simp [pG,M.run]at h
 |_::_,[],su,st',θ,Bb,L,ds,rest,A,k,l,hu,s,hN,hk,z,q,h=>by simp [pG,M.run]at h
 |(m,k0)::bx,ks::bO,su,st',θ,Bb,L,ds,rest,A,k,l,hu,s,hN,hk,z,q,h=>by
  simp only [dL,bS]at hk;obtain⟨arr,ty,frz,d1,d2,A1,A2,rfl,rfl,h1,h2,h3,h4⟩:=hk;simp only [pG]at h;cases r:look m bm with
  |none=>simp [r,M.run]at h
  |some b=>
   simp only [r,Â]at h;simp only [Ĉ,À]at s;have h3:=bq.rp (bm:=bm) (B':=fun b g=> ∃m∈N,look m bm=some b/\bl m=g) (L':=L) (fun m hm g t b q=>⟨m,hm,q,t⟩) ks s.1 h3
   have hu:iu w0 F R (fun b g=> ∃m∈N,look m bm=some b/\bl m=g) true Bb w su θ L:=⟨hu.inv,by simp,fun b g t _=>by
    obtain⟨m,hm,e1,e2⟩:=t;exact⟨(q m hm b e1).1,by rw [(q m hm b e1).2,e2]⟩⟩
   obtain⟨ai,aj,ak⟩:=bq.gW (mJ bm ks) h3 L (nH b) 0;rw [Env.dj,<-ak,<-Env.dj]at z;obtain⟨cs,i,θ1,l1,h,b1,t1,u1,s1,r1,x1,o1⟩:=pX (mJ bm ks) hu aj z.left h;obtain⟨cs0,l2,bn,h⟩:=M.Lj h;obtain⟨al,ao⟩:=q m (hN (m,k0) (by simp)) b r
   obtain⟨c0,ae⟩:=î.1 al;obtain⟨i1,i2⟩:=u1.inv.Lf (b:=b) (cs0:=c0) (cs:=cs) (arr:=arr) (ty:=ty) (frz:=frz) (w':=w) ae rfl rfl rfl rfl (by rw [x1,ao];exact h1) h2 (fun _ _=>rfl) r1
   have u:=z.split (A1:=ai) (A2:=A2) (st1:=i.de Bb) (θ1:=θ1) o1;have af: ∀g,cU ((i.de Bb).de (aS Bb b (some cs))) θ1 g->cU (i.de Bb) θ1 g:=by
    rintro g (⟨b',d,e⟩|t)
    .by_cases e':b'=b
     .subst e';exact .inl ⟨b',by show(Bb b').isSome=true;rw [ae];rfl,e⟩
     .have ag:(aS Bb b (some cs) b').isSome=true:=d
      rw [aX _ _ e']at ag;exact .inl ⟨b',ag,e⟩
    .exact .inr t
   have u2:iu w0 F R rq true (aS Bb b (some cs)) w {i with boxes:=aS i.boxes b (some cs)} θ1 (L++A1):=⟨i1,by simp,fun m g hm=>hm.elim⟩
   obtain⟨aq,ar,au,l3,h,t2,j1,j2,j3,j4, -⟩:=Mh bx bO u2 s.2 (fun p hp=>hN p (by simp [hp])) h4 ⟨u.nodup,fun g t=>⟨fun s=>(u.free g t).1 (af g s),(u.free g t).2⟩⟩ (fun m' av b' d=>by
    obtain⟨q1,q2⟩:=q m' av b' d;refine⟨?_,by rw [x1];exact q2⟩
    by_cases e:b'=b
    .subst e;simp [bB]
    .rw [aX _ _ e];exact q1) h
   refine⟨aq,ar,au,l3,h,t2.trans t1,j1,(s1.trans i2).trans j2,fun b' d=>j3 b' ?_,fun p hp b' d=> ?_,fun e=>by cases e⟩
   .by_cases e:b'=b
    .subst e;simp [bB]
    .simp only [aX _ _ e];rw [d,b1]
   .rcases Ç.1 hp with rfl|hp
    .have:b'=b:=by
      have e:look m bm=some b':=d;rw [r]at e;exact(Þ e).symm
     subst this;exact j3 b' (by simp [bB])
    .exact j4 p hp b' d
end
end Go.Ev
namespace Go.Ev
section
variable {P:Program} {w0 w:World} {F R:Nat→Prop} {st st':St} {θ:Asg} {l:Log}
theorem bS.blocks {H:Heap} {R:Nat->Prop} {B:Nat->Nat->Prop} {nal:Bool} {bl:Nat->Nat}: ∀ {bx:List (Nat×List CK)} {d:List (List CK)} {L:Env} {ds:List DV} {A:Env},bx.length=d.length->bS H R B nal bl L (dL bx d) ds A->
  ∀p∈bx,∃arr ty frz,H (bl p.1)=some (.cells arr ty frz)/\il arr.size frz/\ ∀v∈arr.toList,cC v=true
 | [],_,_,_,_,_,_=>by simp
 |(m,g)::bx,[],_,_,_,f,_=>by simp at f
 |(m,g)::bx,ks::d,_,_,_,f,h=>by
  simp only [dL,bS]at h;obtain⟨arr,ty,frz,d1,d2,A1,A2, -, -,i,k,q,r⟩:=h;intro p hp;rcases Ç.1 hp with rfl|hp
  .refine⟨arr,ty,frz,i,k, ?_⟩
   have: ∀(ks:List CK) (L:Env) (j:Nat) (ds:List DV) (vs:List Value) (A:Env),bq H R B nal L (nH m) j ks ds vs A-> ∀v∈vs,cC v=true:=by
    intro ks;induction ks with
    |nil=>intro L j ds vs A h v b;simp only [bq]at h;rw [h.2.1]at b;cases b
    |cons c cs ih=>
     intro L j ds vs A h v b;simp only [bq]at h;obtain⟨v0,s,d1,d2,A1,A2, -,rfl, -,t, -,u⟩:=h;rcases Ç.1 b with rfl|b
     .exact t
     .exact ih _ _ _ _ _ u v b
   exact this _ _ _ _ _ _ q
  .exact bS.blocks (by simpa using f) r p hp
def tX (E:Entry) (vals:Array Value) (u b:Value):Prop:=
 match E.back with
 |none=>b=u
 |some t=>u=.tuple #[]/\b=vals.getD t undef
theorem bJ.less {θ:Asg} {w:World} {st sc:St} {f g:List Nat} (h:bJ w0 F R θ w st sc (f++g)):bJ w0 F R θ w st sc f:=
 ⟨h.inv,h.step,h.boxes,h.tmps,h.pS,(Ã.1 h.nodup).1,fun b d=>h.was b (ø _ d),fun b d=>h.free b (ø _ d)⟩
theorem Dh {β:Type} {θ:Asg} {w:World} {st st':St} {f:Nat->Nat} {k:M β} {y:β}: ∀(j:Nat) {sc:St} {fps:List Nat} {l:Log},bJ w0 F R θ w st sc fps->(tH f j k).run sc=some (y,st',l)->
  ∃g b p,k.run g=some (y,st',p)/\bJ w0 F R θ w st g (fps++b)
 |0,sc,fps,l,i,h=>⟨sc,[],l,h,by rw [Ë];exact i⟩
 |j+1,sc,fps,l,i,h=>by
  simp only [tH]at h;obtain⟨p,h⟩:=M.fH h;cases hd:(sc.aj (f j)).bj with
  |none=>simp only [hd]at h;exact Dh j i h
  |some d=>
   simp only [hd]at h;obtain⟨r,h⟩:=M.oa h;obtain⟨g,b,q,h,m⟩:=Dh j (i.trans (bJ.kill i.inv hd)) h;exact⟨g,θ.fp (f j)++b,q,h,by rw [<-Â];exact m⟩
theorem Di {β:Type} {θ:Asg} {w:World} {st st':St} {bm:List (Nat×Nat)} {k:M β} {y:β}: ∀(bx:List (Nat×List CK)) {sc:St} {fps:List Nat} {l:Log},bJ w0 F R θ w st sc fps->(tI bx bm k).run sc=some (y,st',l)->
  ∃d f q,k.run d=some (y,st',q)/\bJ w0 F R θ w st d (fps++f)
 | [],sc,fps,l,g,h=>⟨sc,[],l,h,by rw [Ë];exact g⟩
 |(m,ks)::r,sc,fps,l,g,h=>by
  simp only [tI]at h;cases s:look m bm with
  |none=>simp only [s]at h;exact Di r g h
  |some b=>
   simp only [s]at h;obtain⟨t,f1,q,h,i⟩:=Dh ks.length g h;obtain⟨j,f2,u,h,p⟩:=Di r i h;exact⟨j,f1++f2,u,h,by rw [<-Â];exact p⟩
theorem Mi {β:Type} {tab:Nat->Entry} {D:(e:Nat)->List DV->Option (bN (tab e).bH)} {e:Nat} {bg:List TV} {d:Nat} {K:TV->M β} {y:β} {vals:Array Value}
  {gl:bE} (bh:oi gl w0 F) (hD: ∀e ds r,D e ds=some r->cX P gl (tab e) ds r) (hE:jX (tab e)=true) (hI:Inv w0 F R st θ w) (hv: ∀i c,bg[i]? =some c->aU (hp w) R st θ c (vals.getD i undef)) (hlen:bg.length=vals.size)
  (h:(xk tab D e bg d K).run st=some (y,st',l)):
  Calls P (tab e).f vals w fun
   |.returned u,w'=> ∃uv st2 θ' v l2,tX (tab e) vals u uv/\(K v).run st2=some (y,st',l2)/\Inv w0 F R st2 θ' w'/\Step R st θ (hp w) st2 θ' (hp w')/\aU (hp w') R st2 θ' v uv/\
     ((tab e).bx=[]->st2.boxes=st.boxes/\ ∀b,(st.boxes b).isSome=true->hp w' (θ.bx b)=hp w (θ.bx b))
   |_,_=>False:=by
 unfold xk at h;have cc:=hE;simp only [jX,À,Î]at cc;obtain⟨c5,c6,eo,c7,au,bk, -⟩:=cc;have au:((tab e).bx.map (·.1)).Nodup:=of_decide_eq_true au
 have bk:=Ä bk;have c0:eW st θ ⟨[],[],[],true,[]⟩ []:=⟨fun m n v wv h=>by simp [lE]at h,fun m b h=>by simp [look]at h,fun m m' b h=>by simp [look]at h⟩
 obtain⟨s1,er,AA,dA,l1,h,cf,e1,x1,c1,r1,bn⟩:=LZ hI (fun i=>vals.getD i undef) (tab e).ins (t:=0) (bJ.refl hI) c0 (fun i c hi=>by simpa using hv i c hi) h
 obtain⟨av,ea,et,h,cg,ch,aw,bp⟩:=Mb hI (tab e).bx cf c1 h;have r1:=r1.mono aw.rl aw.bl;rw [<-ch]at e1;have x1:=x1.trans aw;clear c1 cf aw ch;obtain⟨s2,eb,AB,dB,l2,h,a6,e2,x2,c2,r2,da⟩:=Df hI (tab e).bx (s:={av with dv:=[]}) cg ⟨bp.used,bp.bm,bp.inj⟩ h
 obtain⟨ae,ef,lf,h,z⟩:=Di (tab e).bx a6 h;have z:=z.less;clear a6;obtain⟨ao,h⟩:=M.aN h;obtain⟨cj,l3,h⟩:=Mg h;obtain⟨r,hr,h⟩:=M.eI h;simp only [Ë]at e1 e2;rw [e1,e2,tU,tU,Ú,Ú,Ë]at hr;simp only [ä]at z c2 r2;have ck:fT av s2:=⟨x2.bm,x2.cv,x2.iW,x2.pT⟩;let Fc:Nat->Prop:=fun b=>b∈AA.fps++AB.fps\/ ∃p∈(tab e).bx,b=fr θ s2.bm p.1
 have ad: ∀p∈(tab e).bx,∃b,look p.1 s2.bm=some b/\(ae.boxes b).isSome=true/\fr θ s2.bm p.1=θ.bx b:=fun p hp=>by
  obtain⟨b,j,hs⟩:=da p hp;exact⟨b,j,by rw [z.boxes];exact hs,by simp [fr,j]⟩
 have cl: ∀b,Fc b->cU st θ b:=fun b j=>by
  rcases j with j|⟨p,hp,rfl⟩
  .exact z.was b j
  .obtain⟨b',h1,h2,h3⟩:=ad p hp
   rw [h3];exact z.owned (.inl ⟨b',h2,rfl⟩)
 have bq: ∀b,Fc b->F b\/w0.heap.size<=b:=fun b j=>hI.own b (cl b j)
 have a7: ∀b,R b-> ¬Fc b:=fun b j hf=>hI.tO (cl b hf) j
 have aq: ∀k g,(ae.aj k).bj.isSome=true->g∈θ.fp k-> ¬Fc g:=fun k g hk hg hf=>by
  rcases hf with hf|⟨p,hp,rfl⟩
  .exact z.free g hf (.inr ⟨k,hk,hg⟩)
  .obtain⟨b',h1,h2,h3⟩:=ad p hp
   rw [h3]at hg;exact z.inv.bo b' k h2 hk hg
 have db:pZ gl (tab e) w Fc (Rl R θ s2.cv) (fr θ s2.bm) (fun i=>vals.getD i undef) dB dA AB AA:=by
  have hB:(true=true-> ∀m g,Bl θ s2.bm m g->eO (fr θ s2.bm) m g):=fun _ m g ⟨b,h1,h2⟩=>by simp [eO,fr,h1,h2]
  have cm:oi gl w Fc:=⟨ĉ bh.size hI.size,fun b j=>by
   obtain⟨g1,g2⟩:=bh.at_ b j;have dc:b<w0.heap.size:=é j bh.size;refine⟨fun hf=> ?_,(hI.same b dc g1).trans g2⟩
   rcases bq b hf with h|h
   .exact g1 h
   .omega⟩
  refine⟨r2.up hB c6,dR.up hB c5 (r1.mono ck.rl ck.bl), ?_,fun b j=> ?_,fun b j=> ?_,cm⟩
  .rw [Env.dj]
   refine Ã.2 ⟨List.perm_append_comm.nodup_iff.1 z.nodup, ?_,fun b j c hc e=> ?_⟩
   .rw [Ó,à]
    rw [Ó,à]at au;refine Ý ?_ au
    intro p q hp hq dd heq;obtain⟨b1,h1,h2,h3⟩:=ad p hp;obtain⟨b2,h4,h5,h6⟩:=ad q hq;rw [h3,h6]at heq;have:=z.inv.bb b1 b2 h2 h5 heq;subst this;exact dd (c2.inj _ _ _ h1 h4)
   .subst e
    obtain⟨p,hp,rfl⟩:=È.1 hc;obtain⟨b',h1,h2,h3⟩:=ad p hp;refine z.free _ (by rw [É]at j |-;exact j.symm) (.inl ⟨b',h2,h3.symm⟩)
  .rcases É.1 j with j|j
   .rw [Env.dj,É]at j
    exact .inl (É.2 j.symm)
   .obtain⟨p,hp,rfl⟩:=È.1 j
    exact .inr ⟨p,hp,rfl⟩
  .rcases j with j|⟨n,hn,j⟩
   .exact⟨é (hI.rd b j).1 hI.size,a7 b j⟩
   .exact⟨z.inv.jT (.inr ⟨n,cj n hn,j⟩),aq n b (cj n hn) j⟩
 have br:=hD e _ r hr w Fc (Rl R θ s2.cv) (fr θ s2.bm) vals dB dA AB AA rfl (by rw [<-bn,hlen]) db
 refine br.mono fun en w' ho=> ?_
 cases en with
 |panicked _=>exact ho
 |outgrown=>exact ho
 |returned u0=>
  obtain⟨u,df,ho⟩: ∃u,tX (tab e) vals u0 u/\iw (tab e) w w' Fc (Rl R θ s2.cv) (fr θ s2.bm) r u:=by
   simp only at ho;unfold tX;cases j:(tab e).back with
   |none=>rw [j]at ho;exact⟨u0,rfl,ho⟩
   |some t=>rw [j]at ho;exact⟨_,⟨ho.1,rfl⟩,ho.2⟩
  obtain⟨o1,o2,o3,o4,o5,d1,A1,d2,A2,dh,k1,k2,cn,a8⟩:=ho;have di:bU (hp w') R rq true [] (fE 9000) (tab e).outs d1 u A1/\bS (hp w') R (eO (fr θ s2.bm)) true (fr θ s2.bm) A1 (dL (tab e).bx (tab e).bO) d2 A2:=by
   rw [õ]at ao;rcases ao with hl|hl
   .have hl:s2.cv=[]:=by simpa using hl
    have cp: ∀b,Rl R θ s2.cv b->R b:=fun b j=>by
     rw [hl]at j;exact j.resolve_right (by rintro⟨n,hn, -⟩;cases hn)
    exact⟨k1.mono cp (fun _ _ h=>h),k2.mono cp (fun _ _ h=>h)⟩
   .rw [Ø,Ð]at hl
    exact⟨k1.ft hl.1,k2.ft hl.2⟩
  obtain⟨k1,k2⟩:=di;let ps:List Nat:=(tab e).bx.filterMap fun p=>look p.1 s2.bm
  let Bb:Nat->Option (List Cell):=fun b=>if b∈ps then(match hp w' (θ.bx b)with|some (.cells arr _ _)=>some (è arr.size .undef)|_=>none)else ae.boxes b
  have cq:=bS.blocks bk k2;have hB: ∀b,(Bb b=ae.boxes b/\b∉ps)\/((ae.boxes b).isSome=true/\ ∃arr ty frz,Bb b=some (è arr.size .undef)/\hp w' (θ.bx b)=some (.cells arr ty frz)/\il arr.size frz/\ ∀v∈arr.toList,cC v=true):=by
   intro b;by_cases j:b∈ps
   .right
    obtain⟨p,hp,ar⟩:=ß.1 j;obtain⟨b',h1,h2,h3⟩:=ad p hp;rw [ar]at h1;cases h1;obtain⟨arr,ty,frz,j1,j2,j3⟩:=cq p hp;rw [h3]at j1;exact⟨h2,arr,ty,frz,by simp [Bb,j,j1],j1,j2,j3⟩
   .left;exact⟨by simp [Bb,j],j⟩
  have bw:=z.inv.XD (w':=w') (Fc:=Fc) (Bb:=Bb) o1 o3 o4 o5 o2 bq a7 aq (fun b=>(hB b).imp (fun ⟨h1,h2⟩=>⟨h1,fun hs hf=>by
   rcases hf with hf|⟨p,hp,he⟩
   .exact z.free _ hf (.inl ⟨b,hs,rfl⟩)
   .obtain⟨b',j1,j2,j3⟩:=ad p hp
    rw [j3]at he;have:=z.inv.bb b b' hs j2 he;subst this;exact h2 (ß.2 ⟨p,hp,j1⟩)⟩) id)
  obtain⟨i1,i2⟩:=bw;rw [dh]at h;obtain⟨dk,dm,dn⟩:=k1.gW [] (fE d);have bz: ∀g,cU (ae.de Bb) θ g->cU ae θ g:=by
   rintro g (⟨b,j,e⟩|hg)
   .have j:(Bb b).isSome=true:=j
    rcases hB b with⟨h1, -⟩|⟨h1, -⟩
    .exact .inl ⟨b,by rw [<-h1];exact j,e⟩
    .exact .inl ⟨b,h1,e⟩
   .exact .inr hg
  have ca:fe w0 F (ae.de Bb) θ (Env.fps (A1++A2)):=by
   refine⟨(Ã.1 cn).1,fun g hg=>⟨fun ho=> ?_, ?_⟩⟩
   .have ho:=bz g ho
    rcases a8 g hg with hf|ct
    .rcases hf with hf|⟨p,hp,rfl⟩
     .exact z.free g hf ho
     .exact(Ã.1 cn).2.2 _ hg _ (È.2 ⟨p,hp,rfl⟩) rfl
    .have:=z.inv.jT ho
     omega
   .rcases a8 g hg with hf|ct
    .exact bq g hf
    .exact .inr (ĉ z.inv.size ct)
  have ai:fe w0 F (ae.de Bb) θ (Env.fps (dk++A2)):=by
   rw [Env.dj,dn,<-Env.dj];exact ca
  have u0:iu w0 F R rq true Bb w' ae θ []:=⟨i1,by simp,fun m g hm=>hm.elim⟩
  obtain⟨x,dp,θ1,l4,h,b1,t1,u1,av,dq,xb,dr⟩:=LY (tab e).outs u0 dm ai.left h;have az:=ai.split (st1:=dp.de Bb) (θ1:=θ1) dr;rw [<-Ë d2]at h;obtain⟨a1,dt,cu,l5,h,t2,j1,j2,j3,j4,j5⟩:=Mh (bl:=fr θ s2.bm) (N:=(tab e).bx.map (·.1)) (tab e).bx (tab e).bO (u1.any A1) (Î.2 c7) (fun p hp=>È.2 ⟨p,hp,rfl⟩) k2 az (fun m hm b ar=>by
   obtain⟨p,hp,rfl⟩:=È.1 hm;obtain⟨b',q1,q2,q3⟩:=ad p hp;rw [ar]at q1;cases q1;refine⟨?_,by rw [xb,q3]⟩
   rcases hB b with⟨h1, -⟩|⟨-,arr,ty,frz,h1, -⟩
   .rw [h1];exact q2
   .rw [h1];rfl) h
  have du:cu=a1.boxes:=by
   funext b
   by_cases j:b∈ps
   .obtain⟨p,hp,ar⟩:=ß.1 j
    exact j4 p hp b ar
   .exact j3 b (by rw [b1];simp [Bb,j])
  have dw:a1.de cu=a1:=by rw [du];rfl
  rw [dw]at j1 j2;refine⟨u,a1,dt,x,l5,df,h,j1,((z.step.trans i2).trans av).trans j2,aU.step j2 _ _ dq,fun bf=>⟨?_,fun b j=> ?_⟩⟩
  .rw [j5 bf,b1,z.boxes]
  .refine o2 _ (hI.jT (.inl ⟨b,j,rfl⟩)) fun hf=> ?_
   rcases hf with hf|⟨p,hp, -⟩
   .exact z.free _ hf (.inl ⟨b,by rw [z.boxes];exact j,rfl⟩)
   .rw [bf]at hp;cases hp
theorem XE (hI:Inv w0 F R st θ w) {n v:Nat} {d0:DV} (hd:(st.aj n).bj=some d0) (hv:v=(st.aj n).aG) {u:Value} (ha:θ.ob n=u) {st2:St} {θ':Asg} {w':World} (ae:Inv w0 F R st2 θ' w') (hs:Step R st θ (hp w) st2 θ' (hp w'))
  (ah:st2.boxes=st.boxes) (ai: ∀b,(st.boxes b).isSome=true->hp w' (θ.bx b)=hp w (θ.bx b)) {r y:TV} (hr:aU (hp w') R st2 θ' r u) (h:(CH n v (st.aj n).wv d0 r).run st2=some (y,st',l)):
  ∃p,Inv w0 F R st' p w'/\Step R st θ (hp w) st' p (hp w')/\y=.aP []:=by
 unfold CH at h;split at h
 .rename_i c
  simp only [aU]at hr;obtain⟨x,st3,fps,l1,h,f,ak,af⟩:=tR ae hr.1 h;obtain⟨hlen,h⟩:=M.aN h;have hlen:=Ä hlen;obtain⟨l2,h⟩:=M.fH h;obtain⟨al,h⟩:=M.aN h;obtain⟨l3,h⟩:=M.oa h;obtain⟨rfl,rfl⟩:=M.gF h;have s3:=hs.trans f.step;let p:Asg:=⟨θ'.bx,aS θ'.ob n u,aS θ'.fp n fps⟩
  have q:Step R st θ (hp w) {st3 with aj:=aS st3.aj n ⟨v,(st.aj n).wv+1,some ⟨d0.c,x⟩⟩} p (hp w'):=by
   refine⟨s3.rd,fun b t=>s3.bx b t,fun k=> ?_⟩
   by_cases e:k=n
   .subst e
    refine .inr (.inr ⟨by simp only [bB];exact hv,by simp only [bB];omega,by rw [hd];rfl,fun d' h'=> ?_⟩)
    simp only [bB,Å]at h';subst h';exact⟨by show aS θ'.ob k u k=θ.ob k;rw [bB,ha],d0,hd,rfl,hlen⟩
   .have:=s3.ob k
    show(aS st3.aj n _ k=st.aj k/\(_->aS θ'.ob n u k=θ.ob k/\aS θ'.fp n fps k=θ.fp k/\_))\/_;simp only [aX _ _ e];rcases this with h|h|⟨h1,h2,h3,h4⟩
    .exact .inl h
    .exact .inr (.inl h)
    .refine .inr (.inr ⟨h1,h2,h3,fun d' h'=> ?_⟩)
     obtain⟨q1,q2⟩:=h4 d' h';refine⟨?_,q2⟩
     show aS θ'.ob n u k=θ.ob k;rw [aX _ _ e];exact q1
  have m: ∀g∈fps,¬cU st3 θ' g:=f.free
  refine⟨p,⟨f.inv.size,f.inv.same,f.inv.os,f.inv.tape,f.inv.out,f.inv.rd,fun b cs s=> ?_,fun k d hk=> ?_,fun b b'=>f.inv.bb b b',fun b k t hk=> ?_,fun k k' g hk z i j=> ?_,fun g i=> ?_⟩,q,rfl⟩
  .have s:st3.boxes b=some cs:=s
   rw [f.boxes,ah]at s;obtain⟨arr,ty,frz,k1,k2,k3⟩:=hI.boxes b cs s;have t:(st.boxes b).isSome=true:=by rw [s];rfl
   refine⟨arr,ty,frz, ?_,k2,aI.step q _ _ k3⟩
   show hp w' (θ'.bx b)=_;rw [(hs.bx b t).2,ai b t];exact k1
  .by_cases e:k=n
   .subst e
    simp only [bB,Å]at hk;subst hk;refine⟨ak, ?_, ?_⟩
    .show aC (hp w') R true _ (aS θ'.ob k u k) (aS θ'.fp k fps k)
     rw [bB,bB];exact af
    .show(aS θ'.fp k fps k).Nodup
     rw [bB];exact f.nodup
   .simp only [aX _ _ e]at hk
    obtain⟨q1,q2,q3⟩:=f.inv.aj k d hk;refine⟨q1, ?_, ?_⟩
    .show aC (hp w') R true _ (aS θ'.ob n u k) (aS θ'.fp n fps k)
     rw [aX _ _ e,aX _ _ e];exact q2
    .show(aS θ'.fp n fps k).Nodup
     rw [aX _ _ e];exact q3
  .show θ'.bx b∉aS θ'.fp n fps k
   by_cases e:k=n
   .subst e
    rw [bB];exact fun hm=>m _ hm (.inl ⟨b,t,rfl⟩)
   .rw [aX _ _ e]
    simp only [aX _ _ e]at hk;exact f.inv.bo b k t hk
  .have i:g∈aS θ'.fp n fps k:=i
   have j:g∈aS θ'.fp n fps k':=j;by_cases e:k=n<;>by_cases e':k'=n
   .rw [e,e']
   .subst e
    rw [bB]at i;rw [aX _ _ e']at j;simp only [aX _ _ e']at z;exact absurd (.inr ⟨k',z,j⟩) (m _ i)
   .subst e'
    rw [bB]at j;rw [aX _ _ e]at i;simp only [aX _ _ e]at hk;exact absurd (.inr ⟨k,hk,i⟩) (m _ j)
   .rw [aX _ _ e]at i
    rw [aX _ _ e']at j;simp only [aX _ _ e]at hk;simp only [aX _ _ e']at z;exact f.inv.oo k k' g hk z i j
  .rcases i with⟨b,t,e⟩|⟨k,hk,i⟩
   .exact f.inv.own g (.inl ⟨b,t,e⟩)
   .have i:g∈aS θ'.fp n fps k:=i
    by_cases e:k=n
    .subst e
     rw [bB]at i;exact ae.own g (f.was g i)
    .rw [aX _ _ e]at i
     simp only [aX _ _ e]at hk;exact f.inv.own g (.inr ⟨k,hk,i⟩)
 .simp [M.run]at h
theorem XF {tab:Nat->Entry} {gV:FuncId->List Nat} {D:(e:Nat)->List DV->Option (bN (tab e).bH)} {f:FuncId} {j:List TV} {d:Nat} {v:TV} {vals:Array Value}
  {gl:bE} (m:oi gl w0 F) (hD: ∀e ds r,D e ds=some r->cX P gl (tab e) ds r) (hE: ∀e,jX (tab e)=true) (hI:Inv w0 F R st θ w) (hv: ∀i c,j[i]? =some c->aU (hp w) R st θ c (vals.getD i undef)) (hlen:j.length=vals.size)
  (h:(pJ tab gV D f j d).run st=some (v,st',l)):
  Calls P f vals w fun
   |.returned u,w'=> ∃θ',Inv w0 F R st' θ' w'/\Step R st θ (hp w) st' θ' (hp w')/\aU (hp w') R st' θ' v u
   |_,_=>False:=by
 unfold pJ at h;split at h
 .simp [M.run]at h
 rename_i e he;obtain⟨hf,h⟩:=M.aN h;have hf:=Ä hf;rw [<-hf];split at h
 .rename_i s
  refine(Mi m hD (hE e) hI hv hlen h).mono fun en w' k=> ?_
  cases en with
  |panicked _=>exact k
  |outgrown=>exact k
  |returned u=>
   obtain⟨uv,st2,θ',x,l2,g,h2,h3,h4,h5, -⟩:=k;obtain⟨rfl,rfl⟩:=M.gF h2;unfold tX at g;rw [s]at g;simp only at g;subst g;exact⟨θ',h3,h4,h5⟩
 .rename_i t s
  split at h
  .rename_i n aG ht
   obtain⟨l1,h⟩:=M.fH h;split at h
   .rename_i d0 hd
    obtain⟨b,h⟩:=M.aN h;have b:=Ä b;have z:=hv t _ ht;simp only [aU,ax]at z;have z:=(z.1.2 b (by rw [hd];rfl)).symm
    have p:(tab e).bx=[]:=by
     have q:=hE e;simp only [jX,À,Î]at q;have:=q.2.2.2.2.2.2;rw [s]at this;simp only [þ,ý,À,List.isEmpty_iff]at this;exact this.1
    refine(Mi m hD (hE e) hI hv hlen h).mono fun en w' k=> ?_
    cases en with
    |panicked _=>exact k
    |outgrown=>exact k
    |returned u=>
     obtain⟨uv,st2,θ',x,l2,g,h2,h3,h4,h5,h6⟩:=k;unfold tX at g;rw [s]at g;obtain⟨rfl,rfl⟩:=g;obtain⟨al,ao⟩:=h6 p;obtain⟨aq,q1,q2,rfl⟩:=XE hI hd b z h3 h4 al ao h5 h2;exact⟨aq,q1,q2,by simp only [aU,bT];exact⟨#[],rfl,rfl⟩⟩
   .simp [M.run]at h
  .simp [M.run]at h
end
end Go.Ev
namespace Go.Ev
def rz (P:Program) (w0:World) (F R:Nat->Prop) (st:St) (θ:Asg) (w:World) (o:Oper) (a:Act) (v:TV) (st':St):Prop:=
 ∀(K:Act->World->Prop) (Q:Exit->Act->World->Prop),(∀u w' θ',Inv w0 F R st' θ' w'->Step R st θ (hp w) st' θ' (hp w')->aU (hp w') R st' θ' v u->K (a.put o.dst u) w')->o.wp P a w K Q
section
variable {P:Program} {T:TypeId→Option TyI} {w0 w:World} {F R:Nat→Prop} {st st':St} {θ:Asg} {a:Act} {o:Oper} {v:TV} {l:Log}
theorem aV.ok (h:aV P w0 F R st θ w o a v st'):rz P w0 F R st θ w o a v st':=by
 intro K Q d;obtain⟨u,w',θ',b,f,g,i⟩:=h.out;unfold Oper.wp;rcases b with b|⟨b,rfl⟩
 .rw [b,Oper.upon_value]
  exact d u w' θ' f g i
 .rw [b,Oper.upon_skip]
  exact d _ w' θ' f g i
theorem XG {f:FuncId} {vals:Array Value} (he:(execOp a.eval o).run P w=.ok (.enter f vals) w)
  (b:Calls P f vals w fun
   |.returned u,w'=> ∃θ',Inv w0 F R st' θ' w'/\Step R st θ (hp w) st' θ' (hp w')/\aU (hp w') R st' θ' v u
   |_,_=>False):rz P w0 F R st θ w o a v st':=by
 intro K Q d;unfold Oper.wp;rw [he,Oper.upon_enter];refine b.mono fun e w' h=> ?_
 cases e with
 |returned u=>obtain⟨θ',g,i,j⟩:=h;exact d u w' θ' g i j
 |panicked _=>exact h.elim
 |outgrown=>exact h.elim
def Enters (P:Program) (f:FuncId):Prop:= ∃fn,P.funcs[f]? =some fn/\(fn.name== "runtime.NumGoroutine")=false/\fn.body.isNone=false
theorem XH {f:FuncId} (h:Enters P f) (vals:Array Value):(callFunc f vals).run P w=.ok (.enter f vals) w:=by
 obtain⟨fn,i,j,k⟩:=h;have d: ¬fn.name= "runtime.NumGoroutine" :=by simpa using j
 cases g:fn.body with
 |none=>simp [g]at k
 |some b=>simp [callFunc,i,d,g]
theorem aI.vs {H:Heap}: ∀ {cs:List Cell} {vs:List Value},aI H R st θ cs vs->bT H R st θ (cs.map .one) vs
 | [],vs,h=>by simp only [aI]at h;simp [bT,h]
 |c::cs,vs,h=>by
  simp only [aI]at h;obtain⟨v,b,rfl,d,f⟩:=h;simp only [Ï,bT];exact⟨v,b,rfl,⟨d.1,.inr d.2⟩,f.vs⟩
theorem bT.append {H:Heap}: ∀ {cs ds:List TV} {vs us:List Value},bT H R st θ cs vs->bT H R st θ ds us->bT H R st θ (cs++ds) (vs++us)
 | [],ds,vs,us,h,k=>by simp only [bT]at h;subst h;simpa using k
 |c::cs,ds,vs,us,h,k=>by
  simp only [bT]at h;obtain⟨v,b,rfl,d,f⟩:=h;simp only [ñ,bT];exact⟨v,b++us,rfl,d,f.append k⟩
theorem bT.length {H:Heap}: ∀ {cs:List TV} {vs:List Value},bT H R st θ cs vs->cs.length=vs.length
 | [],vs,h=>by simp only [bT]at h;simp [h]
 |c::cs,vs,h=>by
  simp only [bT]at h;obtain⟨v,b,rfl, -,d⟩:=h;simp [d.length]
theorem XI {tab:Nat->Entry} {gV:FuncId->List Nat} {D:(e:Nat)->List DV->Option (bN (tab e).bH)} (j:Ok P T) {gl:bE} (ar:oi gl w0 F) (hD: ∀e ds r,D e ds=some r->cX P gl (tab e) ds r) (hE: ∀e,jX (tab e)=true) (hF: ∀e,Enters P (tab e).f)
  (hI:Inv w0 F R st θ w) (k:Tm (hp w) R st θ a) (h:(dp T (pJ tab gV D) (bD st) o).run st=some (v,st',l)):rz P w0 F R st θ w o a v st':=by
 have ai: ∀(f:FuncId) (ak:List TV) (vals:List Value) (d:Nat),bT (hp w) R st θ ak vals->(execOp a.eval o).run P w=(callFunc f vals.toArray).run P w->(pJ tab gV D f ak d).run st=some (v,st',l)->rz P w0 F R st θ w o a v st':=by
  intro f ak vals d hr he h;have au:Enters P f:=by
   have h':=h;unfold pJ at h';split at h'
   .simp [M.run]at h'
   .rename_i e _
    obtain⟨hf, -⟩:=M.aN h';rw [<-Ä hf];exact hF e
  refine XG (f:=f) (vals:=vals.toArray) (by rw [he,XH au]) (XF ar hD hE hI (fun i c hi=> ?_) (by simpa using hr.length) h)
  obtain⟨u,hu,av⟩:=hr.get hi;have:vals.toArray.getD i undef=u:=by simp [Á,hu]
  rw [this];exact av
 cases hop:o.op with
 |move x=>simp only [dp,hop]at h;exact(Lu hI k (.inl hop) h).ok
 |assign x=>simp only [dp,hop]at h;exact(Lu hI k (.inr hop) h).ok
 |pick c x y=>
  simp only [dp,hop]at h;split at h
  .rename_i b hb;exact(WL hI k hop hb h).ok
  .simp [M.run]at h
 |alloc t=>
  simp only [dp,hop]at h;split at h
  .rename_i i hi;exact(WM j hI hop hi h).ok
  .simp [M.run]at h
 |box t x=>
  simp only [dp,hop]at h;split at h
  .exact(WN hI k hop h).ok
  .simp [M.run]at h
 |build t parts=>
  simp only [dp,hop]at h;split at h
  .rename_i fs sz bd z c q hi;exact(Xo j hI k hop hi rfl h).ok
  .simp [M.run]at h
 |buildSlice t len parts=>
  simp only [dp,hop]at h;split at h
  .rename_i c hc;exact(Xn j hI k hop hc h).ok
  .simp [M.run]at h
 |load t x=>
  simp only [dp,hop]at h;split at h
  .rename_i i hi;exact(WK j hI k hop hi h).ok
  .simp [M.run]at h
 |store t x y=>
  simp only [dp,hop]at h;split at h
  .rename_i i hi;exact(Xi j hI k hop hi h).ok
  .simp [M.run]at h
 |nilCheck x=>
  simp only [dp,hop]at h;split at h
  all_goals first
   |(rename_i hx;exact(WO hI k hop hx trivial h).ok)
   |simp [M.run]at h
 |binOp op t x y t'=>
  simp only [dp,hop]at h;exact(WH j hI k hop h).ok
 |unOp op t x=>
  simp only [dp,hop]at h;split at h
  .rename_i hx;exact(WQ hI k hop hx h).ok
  .rename_i hx;exact(WR hI k hop hx h).ok
  .simp [M.run]at h
 |convert s t x=>
  simp only [dp,hop]at h;split at h
  .rename_i h1 h2 h3;exact(WT j hI k hop h1 h2 h3 h).ok
  .rename_i h1 h2 h3
   split at h
   .rename_i c hc;exact(Xq j hI k hop h1 hc h3 h).ok
   .simp [M.run]at h
  .rename_i h1 h2 h3;exact(Xp j hI k hop h2 h3 h).ok
  .rename_i h1 h2 h3;exact(WU j hI k hop h1 h2 h3 h).ok
  .simp [M.run]at h
 |makeFunc fn x y=>
  cases fn with
  |func f=>
   simp only [dp,hop]at h;split at h
   .rename_i h1 h2;exact(Xd hI k hop h1 h2 h).ok
   .simp [M.run]at h
  |_=>simp [dp,hop,M.run]at h
 |makeSlice t x y=>
  simp only [dp,hop]at h;split at h
  .rename_i h1 h2 h3;exact(Xr j hI k hop h1 h2 h3 h).ok
  .simp [M.run]at h
 |slice t x lo hi mx=>
  cases mx with
  |some m=>
   cases lo with
   |some _=>simp [dp,hop,M.run]at h
   |none=>
    cases hi with
    |none=>simp [dp,hop,M.run]at h
    |some hi=>
     simp only [dp,hop]at h;split at h
     .rename_i h1 h2 h3;exact(Xc j hI k hop h1 h2 h3 h).ok
     .simp [M.run]at h
  |none=>simp only [dp,hop]at h;exact(Xb j hI k hop h).ok
 |fieldAddr s x f=>
  simp only [dp,hop]at h;split at h
  .rename_i hi
   split at h
   .rename_i hf;exact(WX j hI k hop hi rfl hf h).ok
   .simp [M.run]at h
  .simp [M.run]at h
 |field s x f=>
  simp only [dp,hop]at h;split at h
  .rename_i hi hx
   split at h
   .rename_i hf
    split at h
    .rename_i ti aw;exact(WY j hI k hop hi rfl hf aw hx h).ok
    .simp [M.run]at h
   .simp [M.run]at h
  .simp [M.run]at h
 |indexAddr t x i=>simp only [dp,hop]at h;exact(Xa j hI k hop h).ok
 |index t x i=>simp only [dp,hop]at h;exact(WV j hI k hop h).ok
 |extract x i=>
  simp only [dp,hop]at h;split at h
  .rename_i vs hx
   split at h
   .rename_i y hy;exact(WZ hI k hop hx hy h).ok
   .simp [M.run]at h
  .simp [M.run]at h
 |call c=>
  simp only [dp,hop]at h;split at h
  .rename_i hc
   split at h
   .rename_i h1 h2;exact(WW j hI k hop hc h1 h2 h).ok
   .simp [M.run]at h
  .rename_i hc
   split at h
   .rename_i h1 h2
    split at h
    .rename_i ct ay;exact(Xw j hI k hop hc h1 h2 ay h).ok
    .simp [M.run]at h
   .simp [M.run]at h
  .rename_i hc
   split at h
   .rename_i h1
    split at h
    .rename_i h2 h3;exact(Xe hI k hop hc h1 h2 h3 h).ok
    .simp [M.run]at h
   .simp [M.run]at h
  .rename_i hc
   split at h
   .rename_i h1
    split at h
    .rename_i h2 h3;exact(Xf hI k hop hc h1 h2 h3 h).ok
    .simp [M.run]at h
   .simp [M.run]at h
  .rename_i f hc
   refine ai f _ (c.args.toList.map a.eval) _ (xC k _) ?_ h
   have hm:(c.args.toList.map a.eval).toArray=c.args.map a.eval:=Č (by simp)
   rw [hm];simp [execOp,hop,resolve,hc,Act.eval,Deferred.ofValue,invoke]
  .rename_i g bf hc
   split at h
   .rename_i f p q hx
    have hr:=(dK k hx (by simp)).1
    simp only [ax]at hr;obtain⟨va,vb,e,h1,h2⟩:=hr;refine ai f _ (va.toList++(c.args.toList.map a.eval++vb.toList)) _ (h1.vs.append ((xC k _).append h2.vs)) ?_ h
    have hm:(va.toList++(c.args.toList.map a.eval++vb.toList)).toArray=va++c.args.map a.eval++vb:=Č (by simp)
    rw [hm];simp [execOp,hop,resolve,hc,e,Deferred.ofValue,invoke]
   .simp [M.run]at h
  .simp [M.run]at h
 |_=>simp [dp,hop,M.run]at h
end
end Go.Ev
namespace Go.Ev
def jA (all:Array Oper) (o:Oper) (st:St):Option Bool:=
 match o.guard with
 |none=>some true
 |some (j,want)=>match(all[j]?).bind (·.dst)with
  |some t=>match st.tmps t with
   |.one (.b x)=>some (x==want)
   |.aP []=>some false
   |_=>none
  |none=>none
def jY (opf:(Operand->TV)->Oper->M TV) (all:Array Oper) (o:Oper) (st:St):Option (St×Log):=
 match jA all o st with
 |some true=>((opf (bD st) o).run st).map fun r=>(r.2.1.put o.dst r.1,r.2.2)
 |some false=>some (st.put o.dst (.aP []),.none)
 |none=>none
def gu (opf:(Operand->TV)->Oper->M TV) (all:Array Oper):List Oper->St->List Log->St->Prop
 | [],st,ls,st'=>ls=[]/\st'=st
 |o::rest,st,ls,st'=> ∃st1 l b,ls=l::b/\jY opf all o st=some (st1,l)/\gu opf all rest st1 b st'
theorem XJ {α:Type} (f:Nat->α) (k:Nat):aS f k (f k)=f:=by
 funext i
 by_cases h:i=k
 .subst h;rw [bB]
 .rw [aX _ _ h]
theorem Dj {st:St} {t:Nat} {x:Bool} (h:st.tmps t=.one (.b x)):iV st t x=st:=by
 unfold iV;rw [<-h,XJ]
section
variable {R':Type} {opf:(Operand→TV)→Oper→M TV} {all:Array Oper}
theorem XK {o:Oper} {st:St} {yes no:St->Option R'} {r:R'} (h:CF all o st yes no=some r):
  (jA all o st=some true/\yes st=some r)\/(jA all o st=some false/\no st=some r):=by
 unfold CF at h;split at h
 .rename_i b
  exact .inl ⟨by simp [jA,b],h⟩
 .rename_i j want b
  split at h
  .rename_i t f
   split at h
   .rename_i x d
    have hw:jA all o st=some (x==want):=by simp [jA,b,f,d]
    cases x<;>cases want<;>simp only [Y,ez]at h<;>rw [Dj d]at h<;>rw [hw]
    .exact .inl ⟨rfl,h⟩
    .exact .inr ⟨rfl,h⟩
    .exact .inr ⟨rfl,h⟩
    .exact .inl ⟨rfl,h⟩
   .rename_i d
    exact .inr ⟨by simp [jA,b,f,d],h⟩
   .cases h
  .cases h
def mM:List Log->List Log->Prop
 | [],[]=>True
 |l::ls,l'::ls'=>l.sub l'/\mM ls ls'
 |_,_=>False
theorem xI: ∀(rest:List Oper) {st:St} {acc:List Log} {K:St->List Log->Option R'} {r:R'},mH opf all rest st acc K=some r->
  ∃st' ls ls',gu opf all rest st ls st'/\mM ls ls'/\K st' (ls'.reverse++acc)=some r
 | [],st,acc,K,r,h=>by
  simp only [mH]at h;exact⟨st,[],[],⟨rfl,rfl⟩,trivial,h⟩
 |o::rest,st,acc,K,r,h=>by
  simp only [mH]at h;rcases XK h with⟨hw,h⟩|⟨hw,h⟩
  .obtain⟨v,st1,i,l',b,h, -,j⟩:=M.jP _ _ _ _ _ h
   obtain⟨st',ls,ls',d,f,g⟩:=xI rest h;refine⟨st',i::ls,l'::ls',⟨_,i,ls,rfl, ?_,d⟩,⟨j,f⟩,by simpa using g⟩
   simp [jY,hw,b]
  .obtain⟨st',ls,ls',d,f,g⟩:=xI rest h
   refine⟨st',.none::ls,.none::ls',⟨_,.none,ls,rfl, ?_,d⟩,⟨⟨fun _ h=>h,fun _ h=>h⟩,f⟩,by simpa using g⟩
   simp [jY,hw]
end
section
variable {P:Program} {w0 w:World} {F R:Nat→Prop} {st st':St} {θ:Asg} {a:Act} {opf:(Operand→TV)→Oper→M TV} {all:Array Oper} {Q:Exit→Act→World→Prop}
theorem Tm.step {H H':Heap} {st':St} {θ':Asg} (s:Step R st θ H st' θ' H') (b:st'.tmps=st.tmps) (h:Tm H R st θ a):Tm H' R st' θ' a:=fun t=>by
 rw [b];exact aU.step s _ _ (h t)
theorem iy (st:St) (d:Option Nat) (v:TV):(st.put d v).boxes=st.boxes/\(st.put d v).aj=st.aj:=by cases d<;>exact⟨rfl,rfl⟩
theorem xJ (H:Heap) (st:St) (θ:Asg) (d:Option Nat) (x:TV):Step R st θ H (st.put d x) θ H:=
 ⟨fun _ _=>rfl,fun b f=>⟨by rw [(iy st d x).1];exact f,rfl⟩,fun k=>.inl ⟨by rw [(iy st d x).2],fun _=>⟨rfl,rfl,fun _ _=>rfl⟩⟩⟩
theorem Inv.put (h:Inv w0 F R st θ w) (d:Option Nat) (x:TV):Inv w0 F R (st.put d x) θ w:=by
 have e:=iy st d x;refine h.next (xJ (hp w) st θ d x) (ì _) rfl rfl rfl (fun _ _ e=>absurd rfl e) (fun b cs f=>.inl ⟨by rw [<-e.1];exact f,rfl⟩) (fun k dd hd=>.inl ⟨by rw [<-e.2];exact hd,rfl,rfl,fun _ _=>rfl⟩) ?_ ?_ ?_ ?_
 .rw [e.1];exact h.bb
 .rw [e.1,e.2];exact h.bo
 .rw [e.2];exact h.oo
 .rintro g (⟨b,j,i⟩|⟨k,hk,i⟩)
  .rw [e.1]at j;exact h.own g (.inl ⟨b,j,i⟩)
  .rw [e.2]at hk;exact h.own g (.inr ⟨k,hk,i⟩)
theorem Tm.put {H:Heap} (h:Tm H R st θ a) {d:Option Nat} {x:TV} {u:Value} (b:aU H R st θ x u) (hd: ∀t,d=some t->t<a.tmps.size):Tm H R (st.put d x) θ (a.put d u):=by
 intro t;refine aU.step (xJ H st θ d x) _ _ ?_
 cases d with
 |none=>exact h t
 |some d=>
  simp only [St.put,Act.put];by_cases e:t=d
  .subst e
   have:=hd t rfl;rw [bB,Á,Ù this]
   exact b
  .rw [aX _ _ e,Á,Ô (fun h=>e h.symm),<-Á]
   exact h t
theorem Mj {H:Heap} (p:Tm H R st θ a) {o:Oper} {x:Bool} (h:jA all o st=some x):ï o (yielded all a.tmps)=x:=by
 unfold jA at h;split at h
 .rename_i g
  cases h;simp [ï,g]
 .rename_i j want g
  split at h
  .rename_i t r
   split at h
   .rename_i b k
    cases h;have f:=p t;rw [k]at f;simp only [aU,ax]at f;have d:=f.1;have m:a.tmps[t]? =some (.bool b):=by
     rw [Á]at d;cases i:a.tmps[t]? with
     |none=>rw [i]at d;simp [undef]at d
     |some q=>rw [i]at d;simp at d;rw [d]
    simp [ï,g,yielded,r,m]
   .rename_i k
    cases h;have f:=p t;rw [k]at f;simp only [aU,bT]at f;obtain⟨arr,d,s⟩:=f;have hy:yielded all a.tmps j=none:=by
     unfold yielded;rw [r];simp only [Z];cases i:a.tmps[t]? with
     |none=>rfl
     |some q=>
      rw [Á,i]at d;simp only [â]at d;rw [d]
    simp [ï,g,hy]
   .cases h
  .cases h
theorem XL (H:Heap) (R:Nat->Prop) (st:St) (θ:Asg):aU H R st θ (.aP []) undef:=by
 simp only [aU,bT];exact⟨#[],rfl,rfl⟩
structure Nt where
 n:Nat
 keep:List (Nat×Value)
def Sz (nt:Nt) (a:Act):Prop:=a.tmps.size=nt.n/\ ∀p∈nt.keep,a.tmps.getD p.1 undef=p.2
def Nt.ok (nt:Nt) (t:Nat):Prop:=t<nt.n/\ ∀p∈nt.keep,t≠p.1
theorem Sz.put {nt:Nt} {a:Act} (h:Sz nt a) {d:Option Nat} (hd: ∀t,d=some t->nt.ok t) (u:Value):Sz nt (a.put d u):=by
 cases d with
 |none=>exact h
 |some t=>
  refine⟨by rw [<-h.1];simp [Act.put],fun p hp=> ?_⟩
  rw [<-h.2 p hp];have b:=(hd t rfl).2 p hp;simp only [Act.put,Á,Ô b]
theorem xK (hop: ∀ {st st':St} {θ:Asg} {w:World} {a:Act} {o:Oper} {v:TV} {l:Log},Inv w0 F R st θ w->Tm (hp w) R st θ a->(opf (bD st) o).run st=some (v,st',l)->rz P w0 F R st θ w o a v st') {n:Nt}:
  ∀(j:List Nat) {ops:List Oper} {st:St} {ls:List Log} {θ:Asg} {w:World} {a:Act},j.map (all[·]?)=ops.map some->gu opf all ops st ls st'->Inv w0 F R st θ w->Tm (hp w) R st θ a->Sz n a->(∀o∈ops,∀t,o.dst=some t->n.ok t)->
   (∀θ' q w',Inv w0 F R st' θ' w'->Step R st θ (hp w) st' θ' (hp w')->Tm (hp w') R st' θ' q->Sz n q->q.defers=a.defers->Q .normal q w')->wpOps P all Q j a w
 | [],ops,st,ls,θ,w,a,hm,h,r,d,s,hd,z=>by
  cases ops with
  |cons _ _=>simp at hm
  |nil=>
   obtain⟨-,rfl⟩:=h;simp only [wpOps];exact z θ a w r (Step.refl _ _ _ _) d s rfl
 |i::j,ops,st,ls,θ,w,a,hm,h,r,d,s,hd,z=>by
  cases ops with
  |nil=>simp at hm
  |cons o ops=>
   simp only [Ï,å]at hm;obtain⟨st1,l,ao,rfl,he,h⟩:=h;simp only [wpOps,hm.1];have k: ∀t,o.dst=some t->t<a.tmps.size:=fun t ht=>by rw [s.1];exact(hd o (by simp) t ht).1
   have m: ∀u,Sz n (a.put o.dst u):=fun u=>s.put (hd o (by simp)) u
   have p: ∀u,(a.put o.dst u).defers=a.defers:=fun u=>by cases o.dst<;>rfl
   unfold jY at he;split at he
   .rename_i hw
    obtain⟨⟨v,eC,l0⟩,b,he⟩:=ò.1 he;simp only [ã]at he;obtain⟨rfl,rfl⟩:=he;rw [if_pos (Mj d hw)];left
    refine hop r d b _ _ fun u w' θ' h1 h2 h3=> ?_
    have hk:=(M.gU _ _ _ _ _ b).1;have ad:=(d.step h2 hk).put h3 k;refine xK hop j hm.2 h (h1.put o.dst v) ad (m u) (fun o' f=>hd o' (by simp [f])) fun g a2 w2 j1 j2 j3 j4 j5=>z g a2 w2 j1 ((h2.trans (xJ _ _ _ _ _)).trans j2) j3 j4 (j5.trans (p u))
   .rename_i hw
    simp only [Å,ã]at he;obtain⟨rfl,rfl⟩:=he;rw [if_neg (by rw [Mj d hw];simp)]
    refine xK hop j hm.2 h (r.put o.dst _) (d.put (XL (hp w) R st θ) k) (m _) (fun o' f=>hd o' (by simp [f])) fun g a2 w2 j1 j2 j3 j4 j5=>z g a2 w2 j1 ((xJ _ _ _ _ _).trans j2) j3 j4 (j5.trans (p _))
   .cases he
end
end Go.Ev
namespace Go.Ev
theorem Dk {xs b:List Nat} (h:nQ xs b=true): ∀n,n∈xs->n∉b:=by
 intro n d hm;simp only [nQ,Î]at h;have:=h n d;simp at this
 exact this hm
theorem St.ext' {s t:St} (b:s.tmps=t.tmps) (d:s.boxes=t.boxes) (f:s.aj=t.aj):s=t:=by
 cases s;cases t;simp_all
section
variable {opf:(Operand→TV)→Oper→M TV} {all:Array Oper}
def lK (opf:(Operand->TV)->Oper->M TV) (all:Array Oper) (o:Oper) (st:St):Option (M TV):=
 match jA all o st with
 |some true=>some (opf (bD st) o)
 |some false=>some (.ret (.aP []))
 |none=>none
theorem Dl {o:Oper} {st s1:St} {l:Log} (h:jY opf all o st=some (s1,l)): ∃m v d,lK opf all o st=some m/\m.run st=some (v,d,l)/\s1=d.put o.dst v:=by
 unfold jY at h;split at h
 .rename_i hw
  obtain⟨⟨v,eC,f⟩,b,he⟩:=ò.1 h;simp only [ã]at he;obtain⟨rfl,rfl⟩:=he;exact⟨_,v,eC,by simp [lK,hw],b,rfl⟩
 .rename_i hw
  simp only [Å,ã]at h;obtain⟨rfl,rfl⟩:=h;exact⟨.ret (.aP []),.aP [],st,by simp [lK,hw],rfl,rfl⟩
 .cases h
theorem Ml {o:Oper} {st d:St} {l:Log} {m:M TV} {v:TV} (h:lK opf all o st=some m) (b:m.run st=some (v,d,l)):jY opf all o st=some (d.put o.dst v,l):=by
 unfold lK at h;unfold jY;split at h
 .rename_i hw
  cases h;simp [b]
 .rename_i hw
  cases h;simp only [M.run,Å,ã]at b;obtain⟨rfl,rfl,rfl⟩:=b;simp
 .cases h
theorem Mm (f: ∀(ρ b:Operand->TV) (o:Oper),(∀x∈o.op.operands.toList,ρ x=b x)->opf ρ o=opf b o) {o:Oper} {st st':St} (h: ∀t∈pC o all,st.tmps t=st'.tmps t):lK opf all o st=lK opf all o st':=by
 have i:opf (bD st) o=opf (bD st') o:=f _ _ _ fun x k=>by
  cases x with
  |tmp t=>exact h t (by simp only [pC,É];left;exact ß.2 ⟨_,k,rfl⟩)
  |_=>rfl
 have m:jA all o st=jA all o st':=by
  unfold jA;cases p:o.guard with
  |none=>rfl
  |some g=>
   obtain⟨j,want⟩:=g;cases d:(all[j]?).bind (·.dst)with
   |none=>simp only [d]
   |some t=>
    have:=h t (by simp only [pC,p,É];right;simp [d])
    simp only [d,this]
 unfold lK;rw [i,m]
theorem xL (s:St) (d:Option Nat) (v:TV):(s.put d v).tmps=match d with|some d=>aS s.tmps d v|none=>s.tmps:=by cases d<;>rfl
theorem Dm {s:St} {d:Option Nat} {v:TV} {t:Nat} (h: ∀d',d=some d'->d'≠t):(s.put d v).tmps t=s.tmps t:=by
 cases d with
 |none=>rfl
 |some d=>exact aX _ _ (fun e=>h d rfl e.symm)
theorem Dn {s s':St} {n:Nat} (d:Option Nat) (v:TV) (h:same s s' n):same s (s'.put d v) n:=by
 obtain⟨f,g⟩:=h;exact⟨fun b i=>by rw [(iy s' d v).1];exact f b i,fun k hk=>by rw [(iy s' d v).2];exact g k hk⟩
theorem Mn {s s':St} {n:Nat} (d:Option Nat) (v:TV) (h:same s s' n):same (s.put d v) s' n:=by
 obtain⟨f,g⟩:=h;exact⟨fun b i=>by rw [(iy s d v).1];exact f b i,fun k hk=>by rw [(iy s d v).2];exact g k hk⟩
theorem same.symm {s s':St} {n:Nat} (h:same s s' n):same s' s n:=⟨fun b d=>(h.1 b d).symm,fun k hk=>(h.2 k hk).symm⟩
theorem XM {p q:Oper} {lp lq:Log} (h:indep all p q lp lq=true):(∀d,p.dst=some d->d∉pC q all/\q.dst≠some d)/\(∀d,q.dst=some d->d∉pC p all)/\nQ lp.wr lq.rd=true/\nQ lp.wr lq.wr=true/\nQ lq.wr lp.rd=true:=by
 simp only [indep,À]at h;obtain⟨⟨⟨⟨b,f⟩,g⟩,i⟩,j⟩:=h;refine⟨fun d hd=> ?_,fun d hd=> ?_,g,i,j⟩
 .rw [hd]at b
  simp only [À,Ø]at b;refine⟨fun hm=> ?_,fun e=> ?_⟩
  .have:=b.1;simp at this;exact this hm
  .have:=b.2;rw [e]at this;simp at this
 .rw [hd]at f
  simp at f
  exact f
theorem XN (hc: ∀(ρ ad:Operand->TV) (o:Oper),(∀x∈o.op.operands.toList,ρ x=ad x)->opf ρ o=opf ad o) {p q:Oper} {st s1 s2:St} {lp lq ae af:Log} (h1:jY opf all p st=some (s1,lp)) (h2:jY opf all q s1=some (s2,lq))
  (hi:indep all p q ae af=true) (hp:lp.sub ae) (hq:lq.sub af): ∃ag,jY opf all q st=some (ag,lq)/\jY opf all p ag=some (s2,lp):=by
 obtain⟨i1,i2,i3,i4,i5⟩:=XM hi;have d3: ∀n,n∈lp.wr->n∉lq.rd:=fun n j hm=>Dk i3 n (hp.2 n j) (hq.1 n hm)
 have d4: ∀n,n∈lp.wr->n∉lq.wr:=fun n j hm=>Dk i4 n (hp.2 n j) (hq.2 n hm)
 have d5: ∀n,n∈lq.wr->n∉lp.rd:=fun n j hm=>Dk i5 n (hq.2 n j) (hp.1 n hm)
 obtain⟨mp,vp,sp,e1,r1,rfl⟩:=Dl h1;obtain⟨mq,vq,sq,e2,r2,rfl⟩:=Dl h2;obtain⟨ah,ai⟩:=M.gU _ _ _ _ _ r1;obtain⟨aw,aj⟩:=M.gU _ _ _ _ _ r2;have ax:lK opf all q st=some mq:=by
  rw [<-e2];refine Mm hc fun t ht=> ?_
  rw [Dm (fun d hd=>fun e=>(i1 d hd).1 (e▸ht)),ah]
 obtain⟨f,ak,s⟩:=M.mF _ _ _ _ _ r2 st (fun n j=>by
  have u:n∉lp.wr:=fun hw=>j.elim (d3 n hw) (d4 n hw)
  exact Mn _ _ (ai n u).symm)
 obtain⟨r, -⟩:=M.gU _ _ _ _ _ ak;refine⟨_,Ml ax ak, ?_⟩
 have az:lK opf all p (f.put q.dst vq)=some mp:=by
  rw [<-e1];refine(Mm hc fun t ht=> ?_).symm
  rw [Dm (fun d hd=>fun e=>i2 d hd (e▸ht)),r]
 obtain⟨a6,al,ao⟩:=M.mF _ _ _ _ _ r1 (f.put q.dst vq) (fun n j=>by
  have u:n∉lq.wr:=fun hw=>j.elim (d5 n hw) (fun h=>d4 n h hw)
  exact Dn _ _ ((s n).2 u))
 obtain⟨aq, -⟩:=M.gU _ _ _ _ _ al;have ar:=Ml az al;rw [ar];congr 2
 have g: ∀n,same (sq.put q.dst vq) (a6.put p.dst vp) n:=by
  intro n;refine Mn _ _ (Dn _ _ ?_)
  by_cases m:n∈lp.wr
  .have i:=d4 n m
   have z:=(ao n).1 m;have a2:=aj n i;exact⟨fun b g=>by rw [z.1 b g,a2.1 b g,(iy sp _ _).1],fun k hk=>by rw [z.2 k hk,a2.2 k hk,(iy sp _ _).2]⟩
  .have z:=(ao n).2 m
   by_cases i:n∈lq.wr
   .have a2:=(s n).1 i
    exact⟨fun b g=>by rw [z.1 b g,(iy f _ _).1,a2.1 b g],fun k hk=>by rw [z.2 k hk,(iy f _ _).2,a2.2 k hk]⟩
   .have a2:=(s n).2 i
    have a3:=aj n i;have a4:=ai n m;exact⟨fun b g=>by rw [z.1 b g,(iy f _ _).1,a2.1 b g,a3.1 b g,(iy sp _ _).1,a4.1 b g],fun k hk=>by rw [z.2 k hk,(iy f _ _).2,a2.2 k hk,a3.2 k hk,(iy sp _ _).2,a4.2 k hk]⟩
 refine St.ext' ?_ (funext fun b=>(g (2*b)).1 b rfl) (funext fun k=>(g (2*k+1)).2 k rfl)
 rw [xL,xL,aq,aw,xL,xL,r,ah];cases a7:p.dst with
 |none=>rfl
 |some d=>
  cases a8:q.dst with
  |none=>rfl
  |some d'=>exact Wm _ _ _ (fun e=>(i1 d a7).2 (by rw [a8,e]))
theorem bubble (i: ∀(ρ b:Operand->TV) (o:Oper),(∀x∈o.op.operands.toList,ρ x=b x)->opf ρ o=opf b o) {o:Oper} {l l':Log} (j:l.sub l'): ∀(pre:List (Oper×Log×Log)) {post:List Oper} {st st':St} {ls:List Log},gu opf all (pre.map (·.1)++o::post) st (pre.map (·.2.1)++l::ls) st'->
  (∀x∈pre,x.2.1.sub x.2.2/\indep all x.1 o x.2.2 l'=true)->gu opf all (o::(pre.map (·.1)++post)) st (l::(pre.map (·.2.1)++ls)) st'
 | [],post,st,st',ls,h,_=>h
 |(p,lp,d)::pre,post,st,st',ls,h,k=>by
  simp only [Ï,ñ,gu]at h;obtain⟨s1,m,q,e,r,s⟩:=h;simp only [å]at e;obtain⟨rfl,rfl⟩:=e;have ih:=bubble i j pre s (fun x f=>k x (by simp [f]))
  simp only [gu]at ih;obtain⟨s2,m,t,e,u,z⟩:=ih;simp only [å]at e;obtain⟨rfl,rfl⟩:=e;obtain⟨q1,q2⟩:=k (p,lp,d) (by simp)
  obtain⟨g,j1,j2⟩:=XN i r u q2 q1 j;simp only [Ï,ñ,gu];exact⟨g,l,_,rfl,j1,s2,lp,_,rfl,j2,z⟩
end
end Go.Ev
namespace Go.Ev
section
variable {opf:(Operand→TV)→Oper→M TV} {all:Array Oper}
structure Mo (all:Array Oper) (f:Nat->Oper×Log×Log) (m:Nat->Nat):Prop where
 ops: ∀i,i<all.size->all[i]? =some (f i).1
 pairs: ∀i j,i<j->j<all.size->(m j).testBit i=true\/indep all (f i).1 (f j).1 (f i).2.2 (f j).2.2=true
 mM: ∀i,i<all.size->(f i).2.1.sub (f i).2.2
 Mp: ∀j,j<all.size-> ∀e∈(f j).1.after.toList,Ò .any e=true->e.on<j
 bits: ∀j,j<all.size-> ∀p,(m j).testBit p=true-> ∃e∈(f j).1.after.toList,Ò .any e=true/\(p=e.on\/(m e.on).testBit p=true)
theorem XO {listed:Array Bool} {i j:Nat} (d:Bool) (hi:i<listed.size):(listed.setIfInBounds i true).getD j d=if j=i then true else listed.getD j d:=by
 by_cases h:j=i
 .subst h
  rw [if_pos rfl,Á,Ù hi]
  rfl
 .rw [if_neg h,Á,Ô (fun e=>h e.symm),<-Á]
theorem Mq (hc: ∀(ρ al:Operand->TV) (o:Oper),(∀x∈o.op.operands.toList,ρ x=al x)->opf ρ o=opf al o) {f:Nat->Oper×Log×Log} {m:Nat->Nat} (r:Mo all f m):
  ∀(fuel t:Nat) {listed:Array Bool} {rem:List Nat} {st st':St},rem.Pairwise (·< ·)->(∀i∈rem,i<all.size)->listed.size=all.size->(∀i,i<all.size->(listed.getD i true=false↔i∈rem))->
   (∀j,j<all.size->j∉rem-> ∀p,(m j).testBit p=true->p∉rem)->rem.length<=fuel->gu opf all (rem.map fun i=>(f i).1) st (rem.map fun i=>(f i).2.1) st'->
   ∃ls,gu opf all ((Ì .any all fuel t listed []).map fun i=>(f i).1) st ls st'/\ ∀i∈Ì .any all fuel t listed [],i<all.size
 |0,t,listed,rem,st,st',hp,hr,hs,hl,af,hf,h=>by
  have:rem=[]:=List.eq_nil_of_length_eq_zero (by omega)
  subst this;exact⟨_,by simpa [Ì]using h,by simp [Ì]⟩
 |fuel+1,t,listed,rem,st,st',hp,hr,hs,hl,af,hf,h=>by
  have s: ∀i,i∈Ê .any all listed->i∈rem/\ ∀e∈(f i).1.after.toList,Ò .any e=true->e.on∉rem:=by
   intro i hi;simp only [Ê,ą,ć,À,Ø]at hi;obtain⟨g,h1,h2⟩:=hi;refine⟨(hl i g).1 h1,fun e he q hm=> ?_⟩
   rw [r.ops i g]at h2;simp only [Ć,â,ÿ]at h2;have h3:=h2 e (by simpa using he)
   rw [q]at h3;simp only [Bool.not_true,ý]at h3;have aq:=hr _ hm;have h4:=(hl e.on aq).2 hm;rw [Á]at h3 h4;have:listed[e.on]? =some listed[e.on]:=Ü (by omega)
   rw [this]at h3 h4;simp only [â]at h3 h4;rw [h3]at h4;cases h4
  simp only [Ì];change ∃ls,gu opf all ((match (Ê .any all listed)[t%(Ê .any all listed).length]? with
   |some i=>Ì .any all fuel (t/(Ê .any all listed).length) (listed.setIfInBounds i true) [i]
   |none=>[].reverse).map fun i=>(f i).1) st ls st'/\ ∀i∈(match (Ê .any all listed)[t%(Ê .any all listed).length]? with
   |some i=>Ì .any all fuel (t/(Ê .any all listed).length) (listed.setIfInBounds i true) [i]
   |none=>[].reverse),i<all.size
  cases hi:(Ê .any all listed)[t%(Ê .any all listed).length]? with
  |none=>
   have au:Ê .any all listed=[]:=by
    cases hq:Ê .any all listed with
    |nil=>rfl
    |cons x xs=>
     rw [hq]at hi;have g:t%(x::xs).length<(x::xs).length:=Nat.mod_lt _ (by simp)
     rw [Í g]at hi
     cases hi
   have av:rem=[]:=by
    cases rem with
    |nil=>rfl
    |cons x xs=>
     exfalso
     have hx:=hr x (by simp)
     have:x∈Ê .any all listed:=by
      simp only [Ê,ą,ć,À,Ø];refine⟨hx,(hl x hx).2 (by simp), ?_⟩
      rw [r.ops x hx];simp only [Ć,â,ÿ];intro e he;cases q:Ò .any e with
      |false=>rfl
      |true=>
       have g:=r.Mp x hx e (by simpa using he) q
       have a1:e.on∉x::xs:=fun hm=>by
        rcases Ç.1 hm with h|h
        .omega
        .have:=(Ā.1 hp).1 _ h;omega
       have h5:listed.getD e.on true≠false:=fun h=>a1 ((hl e.on (by omega)).1 h)
       rw [Á]at h5 |-;have h6:listed[e.on]? =some listed[e.on]:=Ü (by omega)
       rw [h6]at h5 |-;simpa using h5
     rw [au]at this;cases this
   subst av;exact⟨_,by simpa using h,by simp⟩
  |some i=>
   obtain⟨aw,a7⟩:=s i (ù hi);have d:=hr i aw;obtain⟨pre,post,rfl⟩:=List.append_of_mem aw;obtain⟨p1,p2,p3⟩:=ú.1 hp;obtain⟨p4,p5⟩:=Ā.1 p2;have k: ∀p,(m i).testBit p=true->p∉pre++i::post:=by
    intro p u;obtain⟨e,he,q,ag⟩:=r.bits i d p u;have ax:=a7 e he q;rcases ag with rfl|ag
    .exact ax
    .exact af e.on (Nat.lt_trans (r.Mp i d e he q) d) ax p ag
   have ad:=bubble (opf:=opf) (all:=all) hc (o:=(f i).1) (l:=(f i).2.1) (l':=(f i).2.2) (r.mM i d) (pre.map f) (post:=post.map fun i=>(f i).1) (ls:=post.map fun i=>(f i).2.1) (st:=st) (st':=st')
    (by simpa [ó,Function.comp_def]using h) (fun x hx=>by
     obtain⟨j,hj,rfl⟩:=È.1 hx;refine⟨r.mM j (hr j (by simp [hj])), ?_⟩
     exact(r.pairs j i (p3 j hj i (by simp)) d).resolve_left (fun q=>k j q (by simp [hj])))
   simp only [gu]at ad;obtain⟨s1,l1,bt,e,h1,h2⟩:=ad;simp only [å]at e;obtain⟨rfl,rfl⟩:=e;have z: ∀j,j∈pre++post↔j∈pre++i::post/\j≠i:=by
    intro j;simp only [É,Ç];constructor
    .rintro(h|h)
     .exact⟨.inl h,fun e=>by have:=p3 j h i (by simp);omega⟩
     .exact⟨.inr (.inr h),fun e=>by have:=p4 j h;omega⟩
    .rintro⟨h|h|h,bd⟩
     .exact .inl h
     .exact absurd h bd
     .exact .inr h
   obtain⟨ay,k1,k2⟩:=Mq hc r fuel (t/(Ê .any all listed).length) (listed:=listed.setIfInBounds i true) (rem:=pre++post) (st:=s1) (st':=st')
    (ú.2 ⟨p1,p5,fun a ha b q=>p3 a ha b (by simp [q])⟩) (fun j hj=>hr j ((z j).1 hj).1) (by simpa using hs)
    (fun j hj=>by
     rw [XO _ (by omega),z]
     by_cases e:j=i
     .subst e;simp
     .simp only [ne_eq,e,not_false_eq_true,and_true];exact hl j hj)
    (fun j hj bf p u bg=>by
     have ae:=(z p).1 bg;by_cases e:j=i
     .subst e;exact k p u ae.1
     .exact af j hj (fun hm=>bf ((z j).2 ⟨hm,e⟩)) p u ae.1)
    (by simp only [List.length_append,Ą]at hf |-;omega)
    (by simpa [ó,Function.comp_def]using h2)
   refine⟨(f i).2.1::ay, ?_, ?_⟩
   .dsimp only
    rw [linearise_go_acc,ô,ö,Ï];exact⟨s1,_,ay,rfl,h1,k1⟩
   .dsimp only
    rw [linearise_go_acc,ô,ö];intro j hj;rcases Ç.1 hj with rfl|hj
    .exact d
    .exact k2 j hj
end
end Go.Ev
namespace Go.Ev
theorem Mr {T:TypeId->Option TyI} {call:FuncId->List TV->Nat->M TV} (ρ g:Operand->TV) (o:Oper) (h: ∀x∈o.op.operands.toList,ρ x=g x):dp T call ρ o=dp T call g o:=by
 obtain⟨dst,op,type,pos,after,guard⟩:=o;have pairs: ∀j:Array (Nat×Operand),(∀x∈j.map (·.2),ρ x=g x)->(j.toList.map fun p=>(p.1,ρ p.2))=(j.toList.map fun p=>(p.1,g p.2)):=fun j hp=>
  Õ fun p hm=>by rw [hp p.2 (Array.mem_map.2 ⟨p,by simpa using hm,rfl⟩)]
 cases op<;>simp only [Op.operands]at h<;>simp only [dp]
 case build t j=>rw [pairs j fun x i=>h x (by simpa using i)]
 case buildSlice t n j=>rw [pairs j fun x i=>h x (by simpa using i)]
 case makeFunc fn first captured=>
  have s:first.toList.map ρ=first.toList.map g:=Õ fun x i=>h x (by simp [Û.1 i])
  have u:captured.toList.map ρ=captured.toList.map g:=Õ fun x i=>h x (by simp [Û.1 i])
  cases fn<;>simp only [s,u]
 case slice t x lo hi mx=>cases lo<;>cases hi<;>cases mx<;>simp_all
 case call c=>
  have d: ∀x∈c.args.toList,ρ x=g x:=fun x i=>h x (by simp [Call.operands,Û.1 i])
  have q:c.args.toList.map ρ=c.args.toList.map g:=Õ d;cases z:c.callee with
  |invoke r m=>rfl
  |value f=>
   have hf:ρ f=g f:=h f (by simp [Call.operands,z])
   cases f<;>simp only [q,hf]
  |builtin b=>
   cases b<;>try rfl
   case len=>
    revert d
    cases c.args.toList with
    |nil=>intro _;rfl
    |cons x xs=>intro d;cases xs<;>cases c.argTypes.toList<;>first|rfl|simp only [d x (by simp)]
   case append=>
    revert d
    cases c.args.toList with
    |nil=>intro _;rfl
    |cons x xs=>
     intro d;cases xs with
     |nil=>rfl
     |cons y k=>
      cases c.argTypes.toList with
      |nil=>cases k<;>rfl
      |cons t ts=>
       cases ts with
       |nil=>cases k<;>rfl
       |cons t2 ts=>cases k<;>cases ts<;>first|rfl|simp only [d x (by simp),d y (by simp)]
   case min=>
    revert d
    cases c.args.toList with
    |nil=>intro _;rfl
    |cons x xs=>
     intro d;cases xs with
     |nil=>rfl
     |cons y k=>cases k<;>first|rfl|simp only [d x (by simp),d y (by simp)]
   case max=>
    revert d
    cases c.args.toList with
    |nil=>intro _;rfl
    |cons x xs=>
     intro d;cases xs with
     |nil=>rfl
     |cons y k=>cases k<;>first|rfl|simp only [d x (by simp),d y (by simp)]
 all_goals (first|rfl|(simp_all;done))
theorem Ms {acc:List Nat} {p:Nat}: ∀(es:List Edge) (s:Nat),(es.foldl (fun s e=>cond (Ò .any e) (s |||2^e.on |||acc.getD e.on 0) s) s).testBit p=true->
  s.testBit p=true\/ ∃e∈es,Ò .any e=true/\(p=e.on\/(acc.getD e.on 0).testBit p=true)
 | [],s,h=>.inl h
 |e::es,s,h=>by
  simp only [List.foldl_cons]at h;rcases Ms es _ h with h|⟨d,f,g,i⟩
  .cases b:Ò .any e with
   |false=>rw [b]at h;exact .inl h
   |true=>
    rw [b]at h;simp only [Y,Nat.testBit_or,õ,Nat.testBit_two_pow,decide_eq_true_eq]at h;rcases h with(h|h)|h
    .exact .inl h
    .exact .inr ⟨e,by simp,b,.inl h.symm⟩
    .exact .inr ⟨e,by simp,b,.inr h⟩
  .exact .inr ⟨d,by simp [f],g,i⟩
theorem Mt: ∀(ops:List Oper) (acc:List Nat) (k:Nat) (o:Oper),ops[k]? =some o-> ∃m,(jw ops acc)[k]? =some m/\
  ((∀e∈o.after.toList,Ò .any e=true->e.on<acc.length+k)-> ∀p,m.testBit p=true-> ∃e∈o.after.toList,Ò .any e=true/\(p=e.on\/((acc++jw ops acc).getD e.on 0).testBit p=true))
 | [],_,k,o,h=>by simp at h
 |i::ops,acc,0,o,h=>by
  simp only [List.getElem?_cons_zero,Å]at h
  subst h;refine⟨_,rfl,fun f p hp=> ?_⟩
  rcases Ms _ _ hp with h|⟨e,b,d,g⟩
  .simp at h
  .refine⟨e,b,d,g.imp id fun h=> ?_⟩
   have:=f e b d;rwa [Æ,List.getElem?_append_left (by omega),<-Æ]
 |i::ops,acc,k+1,o,h=>by
  obtain⟨m,b,d⟩:=Mt ops (acc++[_]) k o (by simpa using h)
  refine⟨m,by simp only [jw,List.getElem?_cons_succ];exact b,fun f p hp=> ?_⟩
  obtain⟨e,g,j,q⟩:=d (fun e he r=>by have:=f e he r;simp;omega) p hp
  refine⟨e,g,j,q.imp id fun h=> ?_⟩
  simp only [jw];simpa using h
end Go.Ev
namespace Go.Ev
theorem Mu {all:Array Oper} {x:Oper} {g:Log} {i:Nat}: ∀(os:List Oper) (ls:List Log) (ms:List Nat),xg all x g i os ls ms=true-> ∀(k:Nat) (o:Oper) (l:Log) (m:Nat),os[k]? =some o->ls[k]? =some l->ms[k]? =some m->m.testBit i=true\/indep all x o g l=true
 |o::os,l::ls,m::ms,h,k,j,l',m',b,d,f=>by
  simp only [xg,À,õ]at h;cases k with
  |zero=>simp at b d f;subst b d f;exact h.1
  |succ k=>exact Mu os ls ms h.2 k j l' m' (by simpa using b) (by simpa using d) (by simpa using f)
 | [],_,_,_,k,o,l,m,b,_,_=>by simp at b
 |_::_,[],_,_,k,o,l,m,_,d,_=>by simp at d
 |_::_,_::_,[],_,k,o,l,m,_,_,f=>by simp at f
theorem Mv {all:Array Oper}: ∀(os:List Oper) (ls:List Log) (ms:List Nat) (i:Nat),xh all i os ls ms=true-> ∀(j:Nat) (o:Oper) (l:Log) (m:Nat),os[j]? =some o->ls[j]? =some l->ms[j]? =some m->
  CG (i+j) o=true/\ ∀(k:Nat) (b:Oper) (l':Log) (m':Nat),j<k->os[k]? =some b->ls[k]? =some l'->ms[k]? =some m'->m'.testBit (i+j)=true\/indep all o b l l'=true
 |o::os,l::ls,m::ms,i,h,j,p,q,m1,d,f,g=>by
  simp only [xh,À]at h;cases j with
  |zero=>
   simp at d f g
   subst d f g;refine⟨h.1.1,fun k b l' m' hk k1 k2 k3=> ?_⟩
   cases k with
   |zero=>omega
   |succ k=>exact Mu os ls ms h.1.2 k b l' m' (by simpa using k1) (by simpa using k2) (by simpa using k3)
  |succ j=>
   obtain⟨q1,q2⟩:=Mv os ls ms (i+1) h.2 j p q m1 (by simpa using d) (by simpa using f) (by simpa using g)
   rw [show i+(j+1)=i+1+j from by omega]
   refine⟨q1,fun k b l' m' hk k1 k2 k3=> ?_⟩
   cases k with
   |zero=>omega
   |succ k=>exact q2 k b l' m' (by omega) (by simpa using k1) (by simpa using k2) (by simpa using k3)
 | [],_,_,_,_,j,o,l,m,d,_,_=>by simp at d
 |_::_,[],_,_,_,j,o,l,m,_,f,_=>by simp at f
 |_::_,_::_,[],_,_,j,o,l,m,_,_,g=>by simp at g
theorem Mw: ∀(ops:List Oper) (acc:List Nat),(jw ops acc).length=ops.length
 | [],_=>rfl
 |o::ops,acc=>by simp [jw,Mw ops]
theorem Dp: ∀ {ls ls':List Log},mM ls ls'->ls.length=ls'.length/\ ∀(i:Nat) (l:Log),ls[i]? =some l-> ∃l':Log,ls'[i]? =some l'/\l.sub l'
 | [],[],_=>⟨rfl,by simp⟩
 | [],_::_,h=>h.elim
 |_::_,[],h=>h.elim
 |l::ls,l'::ls',h=>by
  obtain⟨d,f⟩:=Dp h.2;refine⟨by simp [d],fun i x b=> ?_⟩
  cases i with
  |zero=>simp at b;subst b;exact⟨l',rfl,h.1⟩
  |succ i=>simpa using f i x (by simpa using b)
theorem gu.length {opf:(Operand->TV)->Oper->M TV} {all:Array Oper}: ∀ {ops:List Oper} {st st':St} {ls:List Log},gu opf all ops st ls st'->ls.length=ops.length
 | [],_,_,_,h=>by rw [h.1];rfl
 |o::ops,st,st',ls,h=>by
  obtain⟨s1,l,b,rfl, -,d⟩:=h;simp [gu.length d]
def jB (all:Array Oper) (ls ls':List Log) (i:Nat):Oper×Log×Log:=(all.getD i default,ls.getD i .none,ls'.getD i .none)
theorem XP {all:Array Oper} {ls ls':List Log} (hl:ls.length=all.size) (q:mM ls ls') (h:nR all ls'=true):Mo all (jB all ls ls') (fun i=>(jw all.toList []).getD i 0):=by
 obtain⟨ae,q⟩:=Dp q;have ho: ∀i,i<all.size->all[i]? =some (jB all ls ls' i).1:=fun i hi=>by simp [jB,Á,Ü hi]
 have r: ∀i,i<all.size->(jw all.toList [])[i]? =some ((jw all.toList []).getD i 0):=fun i hi=>by
  have:i<(jw all.toList []).length:=by rw [Mw];simpa using hi
  simp [Æ,Í this]
 have s: ∀i,i<all.size->ls'[i]? =some (jB all ls ls' i).2.2:=fun i hi=>by
  have:i<ls'.length:=by omega
  simp [jB,Æ,Í this]
 have d: ∀i,i<all.size->all.toList[i]? =some (jB all ls ls' i).1:=fun i hi=>by simpa using ho i hi
 have b:=fun i (hi:i<all.size)=>Mv all.toList ls' (jw all.toList []) 0 h i _ _ _ (d i hi) (s i hi) (r i hi)
 have g: ∀j,j<all.size-> ∀e∈(jB all ls ls' j).1.after.toList,Ò .any e=true->e.on<j:=fun j hj e he f=>by
  have:=(b j hj).1;rw [Ċ]at this;simp only [CG,Î]at this;have:=this e he;rw [f]at this;have h3:Ď e.on j=true:=by simpa using this
  exact á h3
 refine⟨ho,fun i j t hj=> ?_,fun i hi=> ?_,g,fun j hj p hp=> ?_⟩
 .have:=(b i (by omega)).2 j _ _ _ t (d j hj) (s j hj) (r j hj)
  rwa [Ċ]at this
 .have u:ls[i]? =some (jB all ls ls' i).2.1:=by
   have:i<ls.length:=by omega
   simp [jB,Æ,Í this]
  obtain⟨l',k,z⟩:=q i _ u;rw [s i hi]at k;cases k;exact z
 .obtain⟨m,k,z⟩:=Mt all.toList [] j _ (d j hj)
  rw [r j hj]at k;cases k;have:=z (fun e he f=>by have:=g j hj e he f;simp;omega) p hp
  simpa using this
end Go.Ev
namespace Go.Ev
theorem Mx {α:Type} (l:List α) (d:α):(ā l.length).map (fun i=>l.getD i d)=l:=by
 apply Ă
 intro i;simp only [ă]
 by_cases h:i<l.length
 .rw [ü h]
  simp [Æ,Í h]
 .rw [Ö (by simpa using h),Ö (by omega)]
  rfl
section
variable {P:Program} {w0 w:World} {F R:Nat→Prop} {st st':St} {θ:Asg} {a:Act} {opf:(Operand→TV)→Oper→M TV} {ops:Array Oper} {Q:Exit→Act→World→Prop} {ls ls':List Log}
def tY (P:Program) (opf:(Operand->TV)->Oper->M TV) (w0:World) (F R:Nat->Prop):Prop:=
 ∀ {st st':St} {θ:Asg} {w:World} {a:Act} {o:Oper} {v:TV} {l:Log},Inv w0 F R st θ w->Tm (hp w) R st θ a->(opf (bD st) o).run st=some (v,st',l)->rz P w0 F R st θ w o a v st'
theorem My (d:P.follows .mixedOrders=true) (hop:tY P opf w0 F R) (hc: ∀(ρ f:Operand->TV) (o:Oper),(∀x∈o.op.operands.toList,ρ x=f x)->opf ρ o=opf f o) {id:Nat} {draw:Bool} {n:Nt}
  (m:gu opf ops ops.toList st ls st') (g:mM ls ls') (hd:draw=true->nR ops ls'=true) (s:Inv w0 F R st θ w) (u:Tm (hp w) R st θ a) (z:Sz n a) (b: ∀o∈ops.toList,∀t,o.dst=some t->n.ok t)
  (hQ: ∀θ' k w',Inv w0 F R st' θ' w'->Step R st θ (hp w) st' θ' (hp w')->Tm (hp w') R st' θ' k->Sz n k->k.defers=a.defers->Q .normal k w'):(Code.region id ops draw).wp P Q a w:=by
 have hlen:ls.length=ops.size:=by simpa using m.length
 cases draw with
 |false=>
  refine wp_region (xK hop _ ?_ m s u z b hQ)
  apply Ă
  intro i;simp only [ă]
  by_cases h:i<ops.size
  .rw [ü h]
   simp [h]
  .rw [Ö (by simpa using h),Ö (by simpa using h)]
   rfl
 |true=>
  refine wp_region_draw fun t=> ?_
  have p:Inv w0 F R st θ {w with drawn:=w.drawn+1}:=(s.world (w':={w with drawn:=w.drawn+1}) (ì _) rfl rfl rfl (fun _ _=>rfl)).1
  simp only [Region.schedule,d,Bool.true_or,if_true];have q:=XP hlen g (hd rfl);have e1:(ā ops.size).map (fun i=>(jB ops ls ls' i).1)=ops.toList:=by
   have:=Mx ops.toList default;simpa [jB,Á,Æ]using this
  have e2:(ā ops.size).map (fun i=>(jB ops ls ls' i).2.1)=ls:=by
   have:=Mx ls .none;rw [hlen]at this;exact this
  obtain⟨ai,h1,h2⟩:=Mq hc q ops.size t (listed:=æ ops.size false) (rem:=ā ops.size) (st:=st) (st':=st') List.pairwise_lt_range (fun i hi=>by simpa using hi) (by simp)
   (fun i hi=>by simp [Á,hi]) (fun j hj r=>absurd (by simpa using hj) r) (by simp) (by rw [e1,e2];exact m)
  refine xK hop _ (ops:=(Ì .any ops ops.size t (æ ops.size false) []).map fun i=>(jB ops ls ls' i).1) ?_ h1 p u z (fun o ho=> ?_) hQ
  .rw [ó]
   exact Õ fun i hi=>q.ops i (h2 i hi)
  .obtain⟨i,hi,rfl⟩:=È.1 ho
   have:=q.ops i (h2 i hi);exact b _ (Û.2 (Array.mem_of_getElem? this))
end
end Go.Ev
namespace Go.Ev
section
variable {R:Nat→Prop} {st st' s2:St} {θ θ':Asg} {H H':Heap}
structure Old (st st':St):Prop where
 bx: ∀b,(st.boxes b).isSome=true->st'.boxes b=st.boxes b
 ob: ∀k,(st.aj k).bj.isSome=true->st'.aj k=st.aj k
mutual
theorem ax.forget (j:Old st st') (m:s2.boxes=st.boxes) (hk:s2.aj=st.aj): ∀(c:Cell) (v0 v:Value),ax H R st θ c v0->ax H' R st' θ' c v->ax H' R s2 θ' c v
 |.undef,_,_,_,_=>by simp [ax]
 |.b _,_,_,_,h=>by simpa only [ax]using h
 |.i _ _,_,_,_,h=>by simpa only [ax]using h
 |.s _,_,_,_,h=>by simpa only [ax]using h
 |.sh _ _,_,_,_,h=>by simpa only [ax]using h
 |.kC _ _,_,_,_,h=>by simpa only [ax]using h
 |.nl,_,_,_,h=>by simpa only [ax]using h
 |.z0,_,_,_,h=>by simpa only [ax]using h
 |.ob k aG vw,v0,v,g,h=>by
  simp only [ax]at g h |-;rw [hk];refine⟨g.1,fun e hd=> ?_⟩
  have:=j.ob k hd;rw [this]at h;exact h.2 e hd
 |.gs k aG wv pl c x,v0,v,g,h=>by
  simp only [ax]at g h |-;rw [hk];refine⟨g.1,g.2.1,fun e=>⟨(g.2.2 e).1,fun r d hd=> ?_⟩⟩
  have:=j.ob k (by simp [hd])
  rw [this]at h;exact(h.2.2 e).2 r d hd
 |.eT,_,_,_,h=>by simpa only [ax]using h
 |.pb b off,v0,v,g,h=>by
  simp only [ax]at g h |-;rw [m];exact⟨g.1,h.2⟩
 |.pe k aG i off,v0,v,g,h=>by
  simp only [ax]at g h |-;rw [hk];refine⟨h.1,g.2.1,fun e d hd=> ?_⟩
  have:=j.ob k (by simp [hd])
  rw [this]at h;exact h.2.2 e d hd
 |.pr _ _ _,_,_,_,h=>by simpa only [ax]using h
 |.fl,_,_,_,h=>by simpa only [ax]using h
 |.pg k aG wv ts x off,v0,v,g,h=>by
  simp only [ax]at g h |-;rw [hk];refine⟨h.1,g.2.1,fun e=>⟨(g.2.2 e).1,fun r hd=> ?_⟩⟩
  have:=j.ob k hd;rw [this]at h;exact(h.2.2 e).2 r hd
 |.fn f a b,v0,v,g,h=>by
  simp only [ax]at g h |-;obtain⟨va,vb,rfl,q,t⟩:=h;obtain⟨ae,af, -,k1,k2⟩:=g;exact⟨va,vb,rfl,aI.forget j m hk a _ _ k1 q,aI.forget j m hk b _ _ k2 t⟩
 |.er _,_,_,_,h=>by simpa only [ax]using h
theorem aI.forget (j:Old st st') (m:s2.boxes=st.boxes) (hk:s2.aj=st.aj): ∀(cs:List Cell) (p vs:List Value),aI H R st θ cs p->aI H' R st' θ' cs vs->aI H' R s2 θ' cs vs
 | [],_,_,_,h=>by simpa only [aI]using h
 |c::cs,p,vs,g,h=>by
  simp only [aI]at g h |-;obtain⟨v,u,rfl,q,t⟩:=h;obtain⟨v0,z, -,k1,k2⟩:=g;exact⟨v,u,rfl,⟨ax.forget j m hk c _ _ k1.1 q.1,q.2⟩,aI.forget j m hk cs _ _ k2 t⟩
end
mutual
theorem aU.forget (d:Old st st') (f:s2.boxes=st.boxes) (hk:s2.aj=st.aj): ∀(c:TV) (v0 v:Value),aU H R st θ c v0->aU H' R st' θ' c v->aU H' R s2 θ' c v
 |.one c,v0,v,b,h=>by
  simp only [aU]at b h |-;exact⟨ax.forget d f hk c _ _ b.1 h.1,h.2⟩
 |.agg cs,v0,v,b,h=>by
  simp only [aU]at b h |-;obtain⟨arr,rfl,h⟩:=h;obtain⟨g, -,b⟩:=b;exact⟨arr,rfl,aI.forget d f hk cs _ _ b h⟩
 |.aP vs,v0,v,b,h=>by
  simp only [aU]at b h |-;obtain⟨arr,rfl,h⟩:=h;obtain⟨g, -,b⟩:=b;exact⟨arr,rfl,bT.forget d f hk vs _ _ b h⟩
theorem bT.forget (d:Old st st') (f:s2.boxes=st.boxes) (hk:s2.aj=st.aj): ∀(cs:List TV) (i vs:List Value),bT H R st θ cs i->bT H' R st' θ' cs vs->bT H' R s2 θ' cs vs
 | [],_,_,_,h=>by simpa only [bT]using h
 |c::cs,i,vs,b,h=>by
  simp only [bT]at b h |-;obtain⟨v,j,rfl,m,p⟩:=h;obtain⟨v0,k, -,k1,k2⟩:=b;exact⟨v,j,rfl,aU.forget d f hk c _ _ k1 m,bT.forget d f hk cs _ _ k2 p⟩
end
end
section
variable {w0 w w':World} {F R:Nat→Prop} {st st' s2:St} {θ θ':Asg}
theorem Inv.forget (hI:Inv w0 F R st θ w) (f:Inv w0 F R st' θ' w') (s:Step R st θ (hp w) st' θ' (hp w')) (t:Old st st') (u:s2.boxes=st.boxes) (hk:s2.aj=st.aj):
  Inv w0 F R s2 θ' w'/\Step R st θ (hp w) s2 θ' (hp w'):=by
 have m: ∀b,(s2.boxes b).isSome=true->(st'.boxes b).isSome=true:=fun b h=>by rw [u]at h;rw [t.bx b h];exact h
 have p: ∀k,(s2.aj k).bj.isSome=true->(st'.aj k).bj.isSome=true:=fun k h=>by rw [hk]at h;rw [t.ob k h];exact h
 constructor
 .refine⟨f.size,f.same,f.os,f.tape,f.out,f.rd,fun b cs r=> ?_,fun k d hd=> ?_,fun b b' i j=>f.bb b b' (m b i) (m b' j),fun b k i j=>f.bo b k (m b i) (p k j),fun k k' g i j=>f.oo k k' g (p k i) (p k' j), ?_⟩
  .rw [u]at r
   have e:=t.bx b (by simp [r])
   obtain⟨arr,ty,frz,i,j,h3⟩:=f.boxes b cs (e.trans r);obtain⟨z,ag,ad, -, -,k3⟩:=hI.boxes b cs r;exact⟨arr,ty,frz,i,j,aI.forget t u hk cs _ _ k3 h3⟩
  .rw [hk]at hd
   have e:=t.ob k (by simp [hd])
   exact f.aj k d (by rw [e];exact hd)
  .rintro g (⟨b,i,j⟩|⟨k,i,j⟩)
   .exact f.own g (.inl ⟨b,m b i,j⟩)
   .exact f.own g (.inr ⟨k,p k i,j⟩)
 .refine⟨s.rd,fun b h=>⟨by rw [u];exact h,(s.bx b h).2⟩,fun k=>.inl ⟨by rw [hk],fun h=> ?_⟩⟩
  have e:=t.ob k h;rcases s.ob k with⟨-,q⟩|q|⟨-,q, -⟩
  .exact q h
  .rw [e]at q;omega
  .rw [e]at q;omega
end
section
variable {opf:(Operand→TV)→Oper→M TV} {all:Array Oper}
theorem Dq: ∀ {ops:List Oper} {st st':St} {ls:List Log},gu opf all ops st ls st'->(∀n,(∀l∈ls,n∉l.wr)->same st st' n)/\ ∀t,(∀o∈ops,o.dst≠some t)->st'.tmps t=st.tmps t
 | [],st,st',ls,h=>by
  obtain⟨-,rfl⟩:=h;exact⟨fun _ _=>⟨fun _ _=>rfl,fun _ _=>rfl⟩,fun _ _=>rfl⟩
 |o::ops,st,st',ls,h=>by
  obtain⟨s1,l,r,rfl,s,u⟩:=h;obtain⟨m,v,s0,e1,z,rfl⟩:=Dl s;obtain⟨k1,k2⟩:=M.gU _ _ _ _ _ z;obtain⟨j1,j2⟩:=Dq u;refine⟨fun n i=> ?_,fun t j=> ?_⟩
  .have p:=Dn o.dst v (k2 n (i l (by simp)))
   have a2:=j1 n (fun l' f=>i l' (by simp [f]))
   exact⟨fun b q=>(a2.1 b q).trans (p.1 b q),fun k hk=>(a2.2 k hk).trans (p.2 k hk)⟩
  .rw [j2 t (fun o' g=>j o' (by simp [g])),Dm (fun d hd e=>j o (by simp) (by rw [hd,e])),k1]
theorem Dr: ∀(ops:List Oper) (st:St),(wipe st ops).boxes=st.boxes/\(wipe st ops).aj=st.aj/\ ∀t,(wipe st ops).tmps t=.one .undef\/((∀o∈ops,o.dst≠some t)/\(wipe st ops).tmps t=st.tmps t)
 | [],st=>⟨rfl,rfl,fun t=>.inr ⟨by simp,rfl⟩⟩
 |o::ops,st=>by
  cases hd:o.dst with
  |none=>
   obtain⟨f,g,i⟩:=Dr ops st;refine⟨by simp only [wipe,hd];exact f,by simp only [wipe,hd];exact g,fun t=> ?_⟩
   simp only [wipe,hd];refine(i t).imp id fun⟨k1,k2⟩=>⟨fun j b=> ?_,k2⟩
   rcases Ç.1 b with rfl|b
   .rw [hd];simp
   .exact k1 j b
  |some d=>
   obtain⟨f,g,i⟩:=Dr ops {st with tmps:=aS st.tmps d (.one .undef)}
   refine⟨by simp only [wipe,hd];exact f,by simp only [wipe,hd];exact g,fun t=> ?_⟩
   simp only [wipe,hd];rcases i t with k|⟨k1,k2⟩
   .exact .inl k
   .by_cases e:t=d
    .subst e;left;rw [k2];simp [bB]
    .right
     refine⟨fun j b=> ?_,by rw [k2];exact aX _ _ e⟩
     rcases Ç.1 b with rfl|b
     .rw [hd];simp;exact fun h=>e h.symm
     .exact k1 j b
theorem XQ {ops:List Oper} {st st':St} {ls ls':List Log} (p:gu opf all ops st ls st') (d:mM ls ls') (j:pD st ls'=true):Old st st':=by
 obtain⟨f,d⟩:=Dp d;have hw: ∀n,(∃l∈ls,n∈l.wr)->cond (ç (n%2) 0) (st.boxes (n/2)).isNone (st.aj (n/2)).bj.isNone=true:=by
  rintro n ⟨l,f,g⟩
  obtain⟨i,hi,e⟩:=List.mem_iff_getElem.1 f;obtain⟨l',q,r⟩:=d i l (by rw [Í hi,e])
  simp only [pD,Î]at j;exact j l' (ù q) n (r.2 n g)
 have hk:=(Dq p).1;refine⟨fun b m=> ?_,fun k h=> ?_⟩
 .refine(hk (2*b) fun l f g=> ?_).1 b rfl
  have:=hw (2*b) ⟨l,f,g⟩;rw [show 2*b%2=0 from by omega,show 2*b/2=b from by omega]at this
  simp at this
  rw [this]at m;cases m
 .refine(hk (2*k+1) fun l f g=> ?_).2 k rfl
  have:=hw (2*k+1) ⟨l,f,g⟩;rw [show (2*k+1)%2=1 from by omega,show(2*k+1)/2=k from by omega]at this
  simp at this
  rw [this]at h;cases h
end
end Go.Ev
namespace Go.Ev
structure Good (w0:World) (F R:Nat->Prop) (E:Entry) (bl:Nat->Nat) (nt:Nt) (st:St) (θ:Asg) (w:World) (a:Act):Prop where
 inv:Inv w0 F R st θ w
 tm:Tm (hp w) R st θ a
 size:Sz nt a
 defers:a.defers=[]
 pins: ∀p∈E.bx,(st.boxes p.1).isSome=true/\θ.bx p.1=bl p.1
section
variable {P:Program} {w0 w:World} {F R:Nat→Prop} {E:Entry} {bl:Nat→Nat} {nt:Nt} {st st':St} {θ:Asg} {a:Act} {opf:(Operand→TV)→Oper→M TV} {ops:Array Oper} {Q:Exit→Act→World→Prop}
theorem Good.next (h:Good w0 F R E bl nt st θ w a) {θ':Asg} {w':World} {b:Act} (d:Inv w0 F R st' θ' w') (f:Step R st θ (hp w) st' θ' (hp w')) (g:Tm (hp w') R st' θ' b) (i:Sz nt b) (j:b.defers=a.defers):Good w0 F R E bl nt st' θ' w' b:=
 ⟨d,g,i,j.trans h.defers,fun p hp=>by
  obtain⟨k1,k2⟩:=h.pins p hp;obtain⟨k,m⟩:=f.bx p.1 k1;exact⟨k,m.trans k2⟩⟩
theorem XR (b:P.follows .mixedOrders=true) (hop:tY P opf w0 F R) (m: ∀(ρ d:Operand->TV) (o:Oper),(∀x∈o.op.operands.toList,ρ x=d x)->opf ρ o=opf d o) {id:Nat} {draw:Bool} {R':Type} {k:St->Option R'} {r:R'}
  (h:mH opf ops ops.toList st [] (fun st' ls=>cond (!draw||nR ops ls.reverse) (k st') none)=some r) (i:Good w0 F R E bl nt st θ w a) (f: ∀o∈ops.toList,∀t,o.dst=some t->nt.ok t)
  (p: ∀st' θ' j w',k st'=some r->Good w0 F R E bl nt st' θ' w' j->Q .normal j w'):(Code.region id ops draw).wp P Q a w:=by
 obtain⟨st',ls,ls',q,g,hk⟩:=xI _ h;rw [Ë,Ú]at hk;cases hd:(!draw||nR ops ls')with
 |false=>rw [hd]at hk;cases hk
 |true=>
  rw [hd]at hk;simp only [Y]at hk;exact My b hop m q g (fun e=>by rw [e]at hd;simpa using hd) i.inv i.tm i.size f fun θ' j w' s u z h4 h5=>p st' θ' j w' hk (i.next s u z h4 h5)
theorem XS (i:P.follows .mixedOrders=true) (hop:tY P opf w0 F R) (z: ∀(ρ j:Operand->TV) (o:Oper),(∀x∈o.op.operands.toList,ρ x=j x)->opf ρ o=opf j o) {id t:Nat} {draw:Bool} {x:Bool}
  (h:mH opf ops ops.toList st [] (fun st' ls=>cond (pD st ls&&(!draw||nR ops ls.reverse)) (match st'.tmps t with|.one (.b x)=>some x|_=>none) none)=some x) (f:Good w0 F R E bl nt st θ w a) (m: ∀o∈ops.toList,∀t,o.dst=some t->nt.ok t)
  (hQ: ∀θ' p w',Good w0 F R E bl nt (iV (wipe st ops.toList) t x) θ' w' p->Q .normal p w'):(Code.region id ops draw).wp P Q a w:=by
 obtain⟨st',ls,ls',q,d,hk⟩:=xI _ h;rw [Ë,Ú]at hk;cases hd:(pD st ls'.reverse&&(!draw||nR ops ls'))with
 |false=>rw [hd]at hk;cases hk
 |true=>
  rw [hd]at hk;simp only [Y]at hk;simp only [À]at hd;have hx:st'.tmps t=.one (.b x):=by
   split at hk
   .rename_i y hy;rw [hy,Þ hk]
   .cases hk
  have r:pD st ls'=true:=by
   have:=hd.1;simp only [pD,List.all_reverse]at this;exact this
  have hold:=XQ q d r;obtain⟨q1,q2,q3⟩:=Dr ops.toList st;refine My i hop z q d (fun e=>by have:=hd.2;rw [e]at this;simpa using this) f.inv f.tm f.size m fun θ' p w' h1 h2 u h4 h5=> ?_
  obtain⟨i1,i2⟩:=f.inv.forget (s2:=iV (wipe st ops.toList) t x) h1 h2 hold q1 q2;refine hQ θ' p w' (f.next i1 i2 (fun s=> ?_) h4 h5)
  by_cases e:s=t
  .subst e
   have g:=u s;rw [hx]at g;simp only [iV,bB];simp only [aU,ax]at g |-;exact g
  .simp only [iV,aX _ _ e]
   rcases q3 s with k|⟨k1,k2⟩
   .rw [k];exact lH _
   .rw [k2]
    have g:=u s;rw [(Dq q).2 s k1]at g;exact aU.forget (s2:=iV (wipe st ops.toList) t x) hold q1 q2 _ _ _ (f.tm s) g
end
end Go.Ev
namespace Go.Ev
section
variable {P:Program} {Q:Exit→Act→World→Prop} {a:Act} {w:World}
theorem exists_least {p:Nat->Prop} (h: ∃k,p k): ∃k,p k/\ ∀j,p j->k<=j:=by
 obtain⟨k,hk⟩:=h;induction k using Nat.strongRecOn with
 |_ k ih=>
  by_cases b: ∃j,j<k/\p j
  .obtain⟨j,d,f⟩:=b
   exact ih j d f
  .exact⟨k,hk,fun j hj=>ë fun g=>b ⟨j,by omega,hj⟩⟩
open Classical in
noncomputable def least (J:Nat->Act->World->Prop) (a:Act) (w:World):Nat:=if h: ∃k,J k a w then č (exists_least h)else 0
theorem Mz {J:Nat->Act->World->Prop} (h: ∃k,J k a w):J (least J a w) a w/\ ∀j,J j a w->least J a w<=j:=by
 unfold least;rw [dif_pos h];exact ċ (exists_least h)
theorem XT {c:Code} (J:Nat->Act->World->Prop) {b:Nat} (f:J b a w) (round: ∀k a w,J k a w->c.wp P (Exit.then (fun d w'=> ∃k',k'<k/\J k' d w') Q) a w):(Code.loop c).wp P Q a w:=by
 refine wp_loop (I:=fun a w=> ∃k,J k a w) (μ:=least J) ⟨b,f⟩ fun a w h=> ?_
 refine wp_mono (round (least J a w) a w (Mz h).1) fun e d w' he=> ?_
 cases e with
 |normal=>
  obtain⟨k',hk,hj⟩:=he;exact⟨⟨k',hj⟩,Nat.lt_of_le_of_lt ((Mz ⟨k',hj⟩).2 k' hj) hk⟩
 |_=>exact he
end
theorem Ds: ∀ {bz:List CT} {ds:List DV} {x:bN bz},eG bz ds=some x->lD bz x=ds
 | [],[],x,h=>rfl
 | [],_::_,x,h=>by simp [eG]at h
 | [c],[],x,h=>by simp [eG]at h
 | [c],[d],x,h=>by
  simp only [eG]at h;simp only [lD];rw [<-LX h]
 | [c],_::_::_,x,h=>by simp [eG]at h
 |c::f::cs,[],x,h=>by simp [eG]at h
 |c::f::cs,d::ds,x,h=>by
  simp only [eG,Ñ]at h;obtain⟨y,g,z,i,b⟩:=h;simp only [Å]at b;subst b;simp only [lD];rw [Ds i,<-LX g]
end Go.Ev
namespace Go.Ev
theorem Dt {m b:Nat}: ∀ {bx:List (Nat×List CK)},look m (nT bx)=some b->b=m
 | [],h=>by simp [nT,look]at h
 |(a,ks)::r,h=>by
  simp only [nT,look]at h;cases d:ç a m with
  |true=>
   rw [d]at h;simp only [Y,Å]at h;rw [<-h];exact Ä d
  |false=>rw [d]at h;exact Dt h
structure Rd (w0:World) (F R:Nat->Prop) (E:Entry) (bl:Nat->Nat) (nt:Nt) (g:cH) (ds:List DV) (a:Act) (w:World):Prop where
 size:Sz nt a
 defers:a.defers=[]
 bj: ∃nal jW dB dT AB AT tW,ds=dB++dT/\Inv w0 F R eC tW w/\bS (hp w) R (eO jW) nal jW [] g.boxes dB AB/\dR (hp w) R (eO jW) nal (fun t=>a.tmps.getD t undef) AB g.tmps dT AT/\
  ((AB++AT).fps++g.boxes.map fun p=>jW p.1).Nodup/\(∀b∈(AB++AT).fps++g.boxes.map fun p=>jW p.1,F b\/w0.heap.size<=b)/\ ∀p∈E.bx,jW p.1=bl p.1
section
variable {w0 w:World} {F R:Nat→Prop} {E:Entry} {bl:Nat→Nat} {nt:Nt} {st:St} {θ:Asg} {a:Act} {R':Type}
theorem MA {H:Heap} (st:St) (θ:Asg) (f:Nat->TV):Step R st θ H {st with tmps:=f} θ H:=
 ⟨fun _ _=>rfl,fun _ h=>⟨h,rfl⟩,fun _=>.inl ⟨rfl,fun _=>⟨rfl,rfl,fun _ _=>rfl⟩⟩⟩
theorem Inv.tm (h:Inv w0 F R st θ w) (f:Nat->TV):Inv w0 F R {st with tmps:=f} θ w:=
 h.next (MA st θ f) (ì _) rfl rfl rfl (fun _ _ e=>absurd rfl e) (fun _ _ g=>.inl ⟨g,rfl⟩) (fun _ _ hd=>.inl ⟨hd,rfl,rfl,fun _ _=>rfl⟩) h.bb h.bo h.oo h.own
theorem Du {g:cH} {ds:List DV} {K:St->Option R'} {r:R'} (h:Rd w0 F R E bl nt g ds a w) (m: ∀p∈E.bx,p.1∈g.boxes.map (·.1)) (k:qZ g ds K=some r): ∃st θ,K st=some r/\Good w0 F R E bl nt st θ w a:=by
 obtain⟨nal,jW,dB,dT,AB,AT,tW,rfl,s,d,i,u,z,j⟩:=h.bj;unfold qZ at k;obtain⟨f,st1,l0,l',b,hK, -, -⟩:=M.jP _ _ _ _ _ k;obtain⟨f',su,θ',l1,h1,h2,h3,h4⟩:=XC (bl:=jW) (B:=eO jW) (fun _ _ h=>h) (fun t=>a.tmps.getD t undef) s d i u z b
 obtain⟨rfl,rfl⟩:=M.gF h1;have hs:=MA (H:=hp w) (R:=R) st1 θ' f;refine⟨_,θ',hK,h2.tm f,fun t=>aU.step hs _ _ (h3 t),h.size,h.defers,fun p hp=> ?_⟩
 obtain⟨q,hq,e⟩:=È.1 (m p hp);obtain⟨k1,k2⟩:=h4 q hq;rw [<-e];refine⟨k1,k2.trans ?_⟩
 rw [e];exact j p hp
theorem xM: ∀ {bx:List (Nat×List CK)} {p:Nat×List CK},p∈bx->look p.1 (nT bx)=some p.1
 | [],p,h=>by cases h
 |(a,ks)::r,p,h=>by
  simp only [nT,look];cases b:ç a p.1 with
  |true=>simp only [Y];rw [Ä b]
  |false=>
   rcases Ç.1 h with rfl|h
   .simp at b
   .exact xM h
theorem Dv {g:cH} {K:List DV->Option R'} {r:R'} (f:Good w0 F R E bl nt st θ w a) (s:(g.boxes.map (·.1)).Nodup) (hE: ∀p∈E.bx,p.1∈g.boxes.map (·.1)) (hr:pK g st K=some r): ∃ds,K ds=some r/\Rd w0 F R E bl nt g ds a w:=by
 unfold pK at hr;obtain⟨ds,st1,l0,l',k,hK, -, -⟩:=M.jP _ _ _ _ _ hr;unfold Lb at k;have c0:eW st θ ⟨[],[],nT g.boxes,false,[]⟩ []:=⟨fun m n v wv h=>by simp [lE]at h,fun m b h=>.inr rfl,fun m m' b h h'=>by rw [<-Dt h,<-Dt h']⟩
 obtain⟨s1,az,AB,dB,l1,h,ah,e1,u,c1,r1,ai⟩:=Df f.inv g.boxes (bJ.refl f.inv) c0 k;obtain⟨s2,a7,AT,dT,l2,h,i,e2,x2,c2,r2⟩:=Ma f.inv (fun t=>a.tmps.getD t undef) f.tm g.tmps ah c1 h
 obtain⟨rfl,rfl⟩:=M.gF h;have aj:s2.cv=[]:=by rw [x2.pT u.iW,u.pT rfl]
 have z: ∀b,Rl R θ s2.cv b->R b:=fun b j=>by
  rw [aj]at j;exact j.resolve_right (by rintro⟨n,hn, -⟩;cases hn)
 have ad: ∀p∈g.boxes,look p.1 s2.bm=some p.1:=fun p hp=>x2.bm _ _ (u.bm _ _ (xM hp))
 have hB: ∀m b,Bl θ s2.bm m b->eO (fr θ s2.bm) m b:=fun m b ⟨c,h1,h2⟩=>by simp [eO,fr,h1,h2]
 have d: ∀p∈g.boxes,(st.boxes p.1).isSome=true/\fr θ s2.bm p.1=θ.bx p.1:=fun p hp=>by
  obtain⟨b,h1,h2⟩:=ai p hp;rw [u.bm _ _ (xM hp)]at h1;cases h1;exact⟨h2,by simp [fr,ad p hp]⟩
 have al: ∀p∈g.boxes,fr θ s2.bm p.1=fr θ s1.bm p.1:=fun p hp=>by
  simp [fr,ad p hp,u.bm _ _ (xM hp)]
 have ao:([]++Env.fps AB)++Env.fps AT=Env.fps (AB++AT):=by rw [Env.dj];rfl
 rw [ao]at i;refine⟨_,hK,f.size,f.defers,false,fr θ s2.bm,dB,dT,AB,AT,θ, ?_,f.inv.drop θ, ?_, ?_, ?_, ?_, ?_⟩
 .rw [tU,e2,e1];simp
 .exact((r1.mono x2.rl x2.bl).mono z hB).ext al
 .exact r2.mono z hB
 .refine Ã.2 ⟨i.nodup, ?_,fun b j c hc e=> ?_⟩
  .rw [Ó,à]at s |-
   refine Ý ?_ s
   intro p q hp hq aq heq;rw [(d p hp).2,(d q hq).2]at heq;exact aq (f.inv.bb _ _ (d p hp).1 (d q hq).1 heq)
  .subst e
   obtain⟨p,hp,rfl⟩:=È.1 hc;refine i.free _ j (.inl ⟨p.1,by rw [i.boxes];exact(d p hp).1,((d p hp).2).symm⟩)
 .intro b j
  rcases É.1 j with j|j
  .exact f.inv.own b (i.was b j)
  .obtain⟨p,hp,rfl⟩:=È.1 j
   exact f.inv.own _ (.inl ⟨p.1,(d p hp).1,((d p hp).2).symm⟩)
 .intro p hp
  obtain⟨q,hq,e⟩:=È.1 (hE p hp);rw [<-e,(d q hq).2,e];exact(f.pins p hp).2
end
end Go.Ev
namespace Go.Ev
def codeOk (nt:Nat) (d:List Nat):Code->Bool
 |.region _ ops _=>ops.toList.all fun o=>match o.dst with|some t=>Ď t nt&& !d.elem t|none=>true
 |.seq a b=>codeOk nt d a&&codeOk nt d b
 |.cond _ a b=>codeOk nt d a&&codeOk nt d b
 |.block _ c=>codeOk nt d c
 |.loop c=>codeOk nt d c
 |_=>true
def rA (bx:List (Nat×List CK)) (g:cH):Bool:=decide ((g.boxes.map (·.1)).Nodup)&&bx.all fun p=>(g.boxes.map (·.1)).elem p.1
def tZ (bx:List (Nat×List CK)):List (Nat×cH×cH×List CT)->Bool
 | []=>true
 |(_,g,h,_)::r=>(rA bx g&&rA bx h)&&tZ bx r
theorem MB {bx:List (Nat×List CK)} {g:cH} (h:rA bx g=true):(g.boxes.map (·.1)).Nodup/\ ∀p∈bx,p.1∈g.boxes.map (·.1):=by
 simp only [rA,À,Î]at h;exact⟨of_decide_eq_true h.1,fun p hp=>by simpa using h.2 p hp⟩
theorem MC {bx:List (Nat×List CK)} {id:Nat} {g:cH×cH×List CT}: ∀ {l:List (Nat×cH×cH×List CT)},tZ bx l=true->tM id l=some g->rA bx g.1=true/\rA bx g.2.1=true
 | [],_,h=>by simp [tM]at h
 |(a,g1,f,c1)::r,b,h=>by
  simp only [tZ,À]at b;simp only [tM]at h;cases d:ç a id with
  |true=>
   rw [d]at h;simp only [Y,Å]at h;subst h;exact b.1
  |false=>
   rw [d]at h;exact MC b.2 h
structure XU {X R':Type} (G:St->Asg->World->Act->Prop) (Fin:X->Act->World->Prop) (Q:Exit->Act->World->Prop) (ks:Ks X R') (r:R'):Prop where
 nrm: ∀st θ w a,ks.nrm st=some r->G st θ w a->Q .normal a w
 exit: ∀i st θ w a,ks.exit i st=some r->G st θ w a->Q (.exit i) a w
 ret: ∀st θ w a,ks.ret st=some r->G st θ w a->Q .ret a w
 fin: ∀x w a,ks.fin x=some r->Fin x a w->Q .ret a w
section
variable {P:Program} {T:TypeId→Option TyI} {w0:World} {F R:Nat→Prop} {E:Entry} {bl:Nat→Nat} {call:FuncId→List TV→Nat→M TV} {n:Nat} {nt:Nt}
theorem XV {X:Type} {f:(List DV->Option X)->List DV->Option X} {x:X} {body:Code} {Q:Exit->Act->World->Prop} {Rh:List DV->Act->World->Prop}
  (b: ∀self ds a w,f self ds=some x->Rh ds a w->body.wp P (Exit.then (fun i w'=> ∃d,self d=some x/\Rh d i w') Q) a w)
  {id k:Nat} {ds:List DV} {a:Act} {w:World} (h:iter id f k ds=some x) (g:Rh ds a w):(Code.loop body).wp P Q a w:=by
 refine XT (fun k a w=> ∃ds,iter id f k ds=some x/\Rh ds a w) ⟨ds,h,g⟩ fun k a w j=> ?_
 obtain⟨ds,hit,g⟩:=j;cases k with
 |zero=>simp [iter]at hit
 |succ k=>
  simp only [iter]at hit;refine wp_mono (b _ ds a w hit g) fun e i w' he=> ?_
  cases e with
  |normal=>exact⟨k,Nat.lt_succ_self k,he⟩
  |_=>exact he
theorem XW {ops:Array Oper} (h:codeOk nt.n (nt.keep.map (·.1)) (.region 0 ops false)=true): ∀o∈ops.toList,∀t,o.dst=some t->nt.ok t:=by
 simp only [codeOk,Î]at h;intro o b t d;have:=h o b;rw [d]at this;simp only [À,Ø,ð,decide_eq_false_iff_not]at this;refine⟨by simpa using this.1,fun p hp e=>this.2 ?_⟩
 rw [e];exact È.2 ⟨p,hp,rfl⟩
theorem qa (k:P.follows .mixedOrders=true) (hop:tY P (dp T call) w0 F R) (hl:tZ E.bx E.loops=true) {Fin:bN E.bH->Act->World->Prop}
  (m: ∀ {R':Type} (ks:Ks (bN E.bH) R') (st:St) (θ:Asg) (w:World) (a:Act) (r:R'),pO T E ks st=some r->Good w0 F R E bl nt st θ w a-> ∃x,ks.fin x=some r/\Fin x a w):
  ∀(c:Code) {R':Type} {st:St} {ks:Ks (bN E.bH) R'} {r:R'} {θ:Asg} {w:World} {a:Act} {Q:Exit->Act->World->Prop},codeOk nt.n (nt.keep.map (·.1)) c=true->eD T call E n c st ks=some r->Good w0 F R E bl nt st θ w a->XU (Good w0 F R E bl nt) Fin Q ks r->c.wp P Q a w
 |.skip,R',st,ks,r,θ,w,a,Q,hk,h,b,j=>by
  simp only [eD]at h;exact wp_skip (j.nrm _ _ _ _ h b)
 |.region id ops draw,R',st,ks,r,θ,w,a,Q,hk,h,b,j=>by
  simp only [eD]at h;have u:=XW (nt:=nt) (ops:=ops) hk;split at h
  .rw [Ñ]at h
   obtain⟨x,h1,h2⟩:=h;exact XS k hop Mr h1 b u fun θ' a' w' af=>j.nrm _ _ _ _ h2 af
  .exact XR k hop Mr h b u fun st' θ' a' w' h2 af=>j.nrm _ _ _ _ h2 af
 |.seq c d,R',st,ks,r,θ,w,a,Q,hk,h,b,j=>by
  simp only [eD]at h;simp only [codeOk,À]at hk;refine wp_seq (qa k hop hl m c hk.1 h b ⟨fun st θ w a h b=> ?_,fun i st θ w a h b=>j.exit i st θ w a h b,fun st θ w a h b=>j.ret st θ w a h b,fun x w a h hF=>j.fin x w a h hF⟩)
  exact qa k hop hl m d hk.2 h b j
 |.cond c d e,R',st,ks,r,θ,w,a,Q,hk,h,b,j=>by
  simp only [codeOk,À]at hk;cases c with
  |tmp t=>
   simp only [eD]at h;split at h
   .rename_i x z
    have hr:=b.tm t;rw [z]at hr;simp only [aU,ax]at hr;have aj:a.eval (.tmp t)=.bool x:=hr.1;cases x with
    |true=>
     simp only [Y]at h;rw [Dj z]at h;exact wp_cond_true aj (qa k hop hl m d hk.1 h b j)
    |false=>
     simp only [ez]at h;rw [Dj z]at h;exact wp_cond_false aj (qa k hop hl m e hk.2 h b j)
   .cases h
  |const _=>simp [eD]at h
  |global _=>simp [eD]at h
  |func _=>simp [eD]at h
 |.block id c,R',st,ks,r,θ,w,a,Q,hk,h,b,j=>by
  by_cases ak: ∃body,c=.loop body
  .obtain⟨body,rfl⟩:=ak
   simp only [eD]at h;split at h
   .rename_i g hh hc ar
    obtain⟨p,q⟩:=MC hl ar;have p:=MB p;have q:=MB q;obtain⟨ds,h,hR⟩:=Dv b p.1 p.2 h;rw [Ñ]at h;obtain⟨x,hit,z⟩:=h;refine wp_block (XV (Rh:=Rd w0 F R E bl nt g) (fun self ds a w hs hR=> ?_) hit hR)
    obtain⟨st1,θ1,h1,au⟩:=Du hR p.2 hs;have s: ∀(f:bN E.bH) (a:Act) (w:World),x=.inr f->Fin f a w->Q .ret a w:=fun f a w e hf=>by
     subst e;exact j.fin _ _ _ z hf
    refine qa k hop hl m body (by simpa only [codeOk]using hk) h1 au ⟨fun st θ w a h b=> ?_,fun i st θ w a h b=> ?_,fun st θ w a h b=> ?_,fun f w a h hf=> ?_⟩
    .exact Dv b p.1 p.2 h
    .simp only at h
     cases hb:ç i id with
     |false=>rw [hb]at h;cases h
     |true=>
      rw [hb]at h;simp only [Y]at h;obtain⟨ds,h,hR⟩:=Dv b q.1 q.2 h;rw [Ñ]at h;obtain⟨y,hy,h⟩:=h;cases h;simp only [ay]at z;rw [Ds hy]at z;obtain⟨st2,a1,h2,av⟩:=Du hR q.2 z;simp only [Exit.then,Exit.inBlock,Ä hb,if_true]
      exact j.nrm _ _ _ _ h2 av
    .obtain⟨f,hf,hF⟩:=m _ _ _ _ _ _ h b
     simp only [Å]at hf;exact s f a w hf.symm hF
    .simp only [Å]at h
     exact s f a w h.symm hf
   .cases h
  .have h':eD T call E n c st {ks with exit:=fun i st=>cond (ç i id) (ks.nrm st) (ks.exit i st)}=some r:=by
    cases c<;>first|(exact absurd ⟨_,rfl⟩ ak)|(simpa only [eD]using h)
   simp only [codeOk]at hk;refine wp_block (qa k hop hl m c hk h' b ⟨fun st θ w a h b=>j.nrm st θ w a h b,fun i st θ w a h b=> ?_,fun st θ w a h b=>j.ret st θ w a h b,fun x w a h hF=>j.fin x w a h hF⟩)
   simp only [Exit.inBlock];simp only at h;cases hb:ç i id with
   |true=>
    rw [hb]at h;rw [if_pos (Ä hb)];exact j.nrm _ _ _ _ h b
   |false=>
    rw [hb]at h;rw [if_neg (Nat.ne_of_beq_eq_false hb)];exact j.exit _ _ _ _ _ h b
 |.exit id,R',st,ks,r,θ,w,a,Q,hk,h,b,j=>by
  simp only [eD]at h;exact wp_exit (j.exit _ _ _ _ _ h b)
 |.ret,R',st,ks,r,θ,w,a,Q,hk,h,b,j=>by
  simp only [eD]at h;exact wp_ret (j.ret _ _ _ _ h b)
 |.loop _,R',st,ks,r,θ,w,a,Q,hk,h,b,j=>by simp [eD]at h
 |.rangeFunc _ _ _ _,R',st,ks,r,θ,w,a,Q,hk,h,b,j=>by simp [eD]at h
 |.scope _,R',st,ks,r,θ,w,a,Q,hk,h,b,j=>by simp [eD]at h
 |.label _,R',st,ks,r,θ,w,a,Q,hk,h,b,j=>by simp [eD]at h
 |.goto _,R',st,ks,r,θ,w,a,Q,hk,h,b,j=>by simp [eD]at h
 |.refuse _,R',st,ks,r,θ,w,a,Q,hk,h,b,j=>by simp [eD]at h
termination_by c=>SizeOf.sizeOf c
end
end Go.Ev
namespace Go.Ev
section
variable {P:Program} {T:TypeId→Option TyI} {w0 w:World} {F R:Nat→Prop} {si st:St} {θ:Asg} {a:Act} {β:Type} {y:β}
def rB (tmps:Array Value):ResultVar->Sem Value
 |.tmp t=>pure (tmps.getD t undef)
 |.cell a t=>do loadVar t (<-asAddr (tmps.getD a undef))
theorem Dw (d:Ok P T) (j:Inv w0 F R st θ w) (g:Tm (hp w) R st θ a): ∀(rs:List ResultVar) {k:List TV->M (List DV)} {z:List DV} {st':St} {l:Log},(pL T rs st k).run st=some (z,st',l)->
  ∃vs us f,(k vs).run st=some (z,st',f)/\bT (hp w) R st θ vs us/\(rs.mapM (rB a.tmps)).run P w=.ok us w
 | [],k,z,st',l,h=>by
  simp only [pL]at h;exact⟨[],[],l,h,by simp [bT],by simp⟩
 |.tmp t::rs,k,z,st',l,h=>by
  simp only [pL]at h;obtain⟨vs,us,f,m,p,q⟩:=Dw d j g rs h;exact⟨_,a.tmps.getD t undef::us,f,m,by simp only [bT];exact⟨_,_,rfl,g t,p⟩,by simp [û,rB,q]⟩
 |.cell c ty::rs,k,z,st',l,h=>by
  simp only [pL]at h;cases hi:T ty with
  |none=>simp [hi,M.run]at h
  |some i=>
   simp only [hi]at h;split at h
   .rename_i b off hx
    obtain⟨cs,f,hb,h⟩:=M.pQ h;obtain⟨s,h⟩:=M.aN h;have s:=á s;obtain⟨vs,us,f,m,p,q⟩:=Dw d j g rs h;have r:=g c;rw [hx]at r;simp only [aU,ax]at r;obtain⟨arr,af,frz,k1,k2,k3⟩:=j.boxes b cs hb;have hlen:=k3.length;obtain⟨u,q1,q2⟩:=Ls (P:=P) (d.eM ty i hi) k1 (off:=off) (by simp at hlen;omega)
    refine⟨_,u::us,f,m, ?_, ?_⟩
    .simp only [bT]
     exact⟨_,_,rfl,CN ((k3.drop off).take i.size) q2,p⟩
    .simp [û,rB,r.1.2,asAddr,q1,q]
   .simp [M.run]at h
def oj:List Value->Value
 | [u]=>u
 |us=>.tuple us.toArray
theorem MD {fn:Func} {us:List Value} (h:(fn.results.toList.mapM (rB a.tmps)).run P w=.ok us w):(results fn a.tmps).run P w=.ok (oj us) w:=by
 have e:results fn a.tmps=(fn.results.mapM (rB a.tmps) >>=fun vs=>pure (if h:vs.size=1 then vs[0]else .tuple vs)):=by
  unfold results;congr 1
 rw [e];simp only [Array.mapM_eq_mapM_toList,Sem.run_bind,Sem.run_map,h,Result.andThen_ok];match us with
 | []=>simp [oj]
 | [u]=>simp [oj]
 |u::v::us=>simp [oj]
theorem XX {H:Heap}: ∀ {vs:List TV} {us:List Value},bT H R st θ vs us->aU H R st θ (xl vs) (oj us)
 | [],us,h=>by
  simp only [bT]at h;subst h;simp only [xl,aU,bT,oj];exact⟨#[],rfl,rfl⟩
 | [v],us,h=>by
  simp only [bT]at h;obtain⟨u,g,rfl,d,rfl⟩:=h;exact d
 |v::k::vs,us,h=>by
  have f:=h;simp only [bT]at f;obtain⟨u,i,rfl,d,j,b,rfl,m,p⟩:=f;simp only [xl,aU,oj];exact⟨(u::j::b).toArray,rfl,h⟩
theorem ME: ∀ {bx:List (Nat×List CK)} {bO:List (List CK)} {p:Nat×List CK},p∈dL bx bO-> ∃q∈bx,q.1=p.1
 | [],_,p,h=>by simp [dL]at h
 |_::_,[],p,h=>by simp [dL]at h
 |(m,ks)::bx,f::bO,p,h=>by
  simp only [dL,Ç]at h;rcases h with rfl|h
  .exact⟨(m,ks),by simp,rfl⟩
  .obtain⟨q,b,d⟩:=ME h
   exact⟨q,by simp [b],d⟩
theorem MF {z:List DV} (g:Inv w0 F R si θ w): ∀(bx:List (Nat×List CK)) (bO:List (List CK)) {sc st':St} {l:Log} {fps:List Nat} {s:CS} {L:Env} {K:CS->M (List DV)},bJ w0 F R θ w si sc fps->eW si θ s L->
  (pM bx bO s K).run sc=some (z,st',l)->gq w0 F R θ w si fps s L K z st' (fun s' ds A=>bS (hp w) (Rl R θ s'.cv) (Bl θ s'.bm) false θ.bx L (dL bx bO) ds A)
 | [],[],sc,st',l,fps,s,L,K,b,d,h=>by
  simp only [pM]at h;exact jz b d h (by simp only [dL,bS];exact⟨trivial,trivial⟩)
 | [],_::_,sc,st',l,fps,s,L,K,b,d,h=>by simp [pM,M.run]at h
 |_::_,[],sc,st',l,fps,s,L,K,b,d,h=>by simp [pM,M.run]at h
 |(m,k0)::rest,ks::bO,sc,st',l,fps,s,L,K,b,d,h=>by
  simp only [pM]at h;obtain⟨cs,q,f,h⟩:=M.pQ h;rw [b.boxes]at f;obtain⟨arr,ty,frz,k1,k2,k3⟩:=g.boxes m cs f;obtain⟨s1,r,A1,d1,q,h,i,t,u,c1,r1⟩:=pV g ks b d k3 h;obtain⟨s2,j,A2,d2,l2,h,k,e2,p,c2,r2⟩:=MF g rest bO i c1 h;refine⟨s2,j,A1++A2,d1++d2,l2,h,by rw [Env.dj,<-Â];exact k,by rw [e2,t];simp,u.trans p,by rw [<-Â];exact c2, ?_⟩
  simp only [dL,bS];exact⟨arr,ty,frz,d1,d2,A1,A2,rfl,rfl,k1,k2,r1.mono p.rl p.bl,r2⟩
theorem Dx {m b:Nat}: ∀ {bx:List (Nat×List CK)},look m (pN bx)=some b->b=m
 | [],h=>by simp [pN,look]at h
 |(a,_)::bx,h=>by
  simp only [pN,Ï,look]at h;cases e:ç a m with
  |true=>
   rw [e]at h;simp only [Y,Å]at h;rw [<-h,Ä e]
  |false=>rw [e]at h;exact Dx h
theorem MG {m:Nat}: ∀ {bx:List (Nat×List CK)},m∈bx.map (·.1)->look m (pN bx)=some m
 | [],h=>by cases h
 |(a,_)::bx,h=>by
  simp only [pN,Ï,look];cases e:ç a m with
  |true=>rw [Ä e];rfl
  |false=>
   simp only [Ï,Ç]at h;rcases h with rfl|h
   .simp at e
   .exact MG h
def Dy (P:Program) (E:Entry) (w0:World) (F R:Nat->Prop) (bl:Nat->Nat) (nt:Nt) (x:bN E.bH) (a:Act) (w:World):Prop:=
 a.defers=[]/\Sz nt a/\match E.back with
  |none=> ∃u,(results E.fn a.tmps).run P w=.ok u w/\iw E w0 w F R bl x u
  |some t=>(results E.fn a.tmps).run P w=.ok (.tuple #[]) w/\iw E w0 w F R bl x (a.tmps.getD t undef)
theorem Dz {E:Entry} {bl:Nat->Nat} {nt:Nt} (ak:Ok P T) (hE:jX E=true) {R':Type} (ks:Ks (bN E.bH) R') (st:St) (θ:Asg) (w:World) (a:Act) (r:R') (h:pO T E ks st=some r) (d:Good w0 F R E bl nt st θ w a):
  ∃x,ks.fin x=some r/\Dy P E w0 F R bl nt x a w:=by
 unfold pO at h;obtain⟨ds,st1,l0,l',s,hK, -, -⟩:=M.jP _ _ _ _ _ h;rw [Ñ]at hK;obtain⟨x,hx,hK⟩:=hK;unfold Lc at s;obtain⟨vs,us,l1,h1,ae,f⟩:=Dw (P:=P) ak d.inv d.tm _ s;have c0:eW st θ ⟨[],[],pN E.bx,false,[]⟩ []:=⟨fun m n v wv h=>by simp [lE]at h,fun m b h=>.inr rfl,fun m m' b h h'=>(Dx h).symm.trans (Dx h')⟩
 obtain⟨s1,a7,A1,d1,l2,h2,ao,e1,x1,c1,r1⟩:=Dd d.inv E.outs (bJ.refl d.inv) c0 (XX ae) h1;obtain⟨s2,bf,A2,d2,l3,h3,i,e2,x2,c2,r2⟩:=MF d.inv E.bx E.bO ao c1 h2;obtain⟨rfl,rfl⟩:=M.gF h3;have ar:s2.cv=[]:=by rw [x2.pT x1.iW,x1.pT rfl]
 have af: ∀b,Rl R θ s2.cv b->R b:=fun b j=>by
  rw [ar]at j;exact j.resolve_right (by rintro⟨n,hn, -⟩;cases hn)
 simp only [jX,À]at hE;obtain⟨bn,bo,au,av,k,bp,z⟩:=hE;have k:=of_decide_eq_true k;have aw:([]++Env.fps A1)++Env.fps A2=Env.fps (A1++A2):=by rw [Env.dj];rfl
 rw [aw]at i;have k1:=(r1.mono x2.rl x2.bl).mono af (fun _ _ h=>h)
 have k2:=r2.mono af (fun _ _ h=>h)
 have u:iw E w0 w F R bl x (oj us):=by
  refine⟨d.inv.size,d.inv.same,d.inv.os,d.inv.tape,d.inv.out,d1,A1,d2,A2, ?_,bU.up (pb:=false) (fun e=>by cases e) au k1, ?_, ?_, ?_⟩
  .rw [Ds hx,tU,e2,e1];simp
  .refine bS.ext (bl:=θ.bx) (fun p hp=> ?_) (bS.mL (N:=E.bx.map (·.1)) (B':=eO bl) (fun m hm g hg=> ?_) av k2)
   .obtain⟨q,hq,e⟩:=ME hp
    rw [<-e];exact((d.pins q hq).2).symm
   .obtain⟨b,h1,h2⟩:=hg
    rw [x2.bm _ _ (x1.bm _ _ (MG hm))]at h1;obtain⟨q,hq,rfl⟩:=È.1 hm;cases h1;exact(d.pins q hq).2.symm.trans h2
  .refine Ã.2 ⟨i.nodup, ?_,fun b j c hc e=> ?_⟩
   .rw [Ó,à]at k |-
    refine Ý ?_ k
    intro p q hp hq ax heq;rw [<-(d.pins p hp).2,<-(d.pins q hq).2]at heq;exact ax (d.inv.bb _ _ (d.pins p hp).1 (d.pins q hq).1 heq)
   .subst e
    obtain⟨p,hp,rfl⟩:=È.1 hc;exact i.free _ j (.inl ⟨p.1,by rw [i.boxes];exact(d.pins p hp).1,(d.pins p hp).2⟩)
  .intro b j
   exact d.inv.own b (i.was b j)
 refine⟨x,hK,d.defers,d.size, ?_⟩
 cases j:E.back with
 |none=>
  have e:tN E=[]:=by unfold tN;rw [j]
  rw [e,Ë]at f;exact⟨_,MD f,u⟩
 |some t=>
  have e:tN E=[.tmp t]:=by unfold tN;rw [j]
  rw [j]at z;simp only [þ,ý,À,Array.isEmpty_iff]at z;have ag:E.fn.results.toList=[]:=by rw [z.2]
  rw [e,ag,ä]at f;simp only [û,List.mapM_nil,rB,Sem.run_bind,Sem.run_pure,Result.andThen_ok,Result.ok.injEq,and_true]at f;subst f;exact⟨MD (us:=[]) (by rw [ag];simp),u⟩
theorem Inv.init (f: ∀b,R b->b<w.heap.size/\ ¬F b) (θ:Asg):Inv w F R eC θ w:=
 ⟨ì _,fun _ _ _=>rfl,rfl,rfl,rfl,f,fun b cs h=>by simp [eC]at h,fun k d h=>by simp [eC]at h,fun b b' h=>by simp [eC]at h,fun b k h=>by simp [eC]at h,fun k k' g h=>by simp [eC]at h,fun g h=>by
  rcases h with⟨b,h, -⟩|⟨k,h, -⟩<;>simp [eC]at h⟩
def rC (E:Entry):List Nat:=match E.back with|some t=>[t]|none=>[]
def ua (E:Entry):Bool:=(match E.fn.body with|some c=>codeOk E.fn.ntmps (rC E) c|none=>true)&&(tZ E.bx E.loops&&Nat.ble E.ins.length E.fn.ntmps)
theorem XY {E:Entry} {call:FuncId->List TV->Nat->M TV} {n:Nat} (q:Ok P T) (s:P.follows .mixedOrders=true) {gl:bE} (hop: ∀w0 F R,oi gl w0 F->tY P (dp T call) w0 F R) (hE:jX E=true) (u:ua E=true) (hP:P.funcs[E.f]? =some E.fn)
  {ds:List DV} {r:bN E.bH} (h:CJ T call E n ds=some r):cX P gl E ds r:=by
 intro w F R bl args dB dA AB AA af ao g;unfold CJ at h;split at h
 .rename_i c j
  simp only [ua,j,À]at u;obtain⟨f1,f2,f3⟩:=u;have f3:=á f3;have z:=hE;simp only [jX,À]at z;have aq:=of_decide_eq_true z.2.2.2.2.1;refine calls_of_wp hP j ?_
  have k: ∀t,(args++æ (E.fn.ntmps-args.size) undef).getD t undef=args.getD t undef:=fun t=>by
   simp only [Á,Array.getElem?_append]
   split
   .rfl
   .rename_i ar
    rw [Array.getElem?_eq_none (xs:=args) (by omega)]
    simp only [Array.getElem?_replicate]
    split<;>rfl
  let nt:Nt:=⟨E.fn.ntmps,(rC E).map fun t=>(t,args.getD t undef)⟩
  have ag:nt.keep.map (·.1)=rC E:=by
   show((rC E).map fun t=>(t,args.getD t undef)).map (·.1)=rC E
   rw [ó];exact List.map_id _
  have ah:Rd w F R E bl nt ⟨gp 0 E.ins,E.bx⟩ ds {tmps:=args++æ (E.fn.ntmps-args.size) undef,defers:=[]} w:=by
   refine⟨⟨by simp [nt];omega,fun p hp=> ?_⟩,rfl,true,bl,dB,dA,AB,AA,⟨bl,fun _=>undef,fun _=>[]⟩,af,Inv.init g.rd _,g.kb, ?_,g.nd,fun b hb=>.inl (g.own b hb),fun _ _=>rfl⟩
   .obtain⟨t, -,rfl⟩:=È.1 hp
    exact k t
   .simp only [k]
    exact g.kt
  obtain⟨st,θ,h1,m⟩:=Du ah (fun p hp=>È.2 ⟨p,hp,rfl⟩) h
  have d: ∀(x:bN E.bH) (a:Act) (w':World),x=r->Dy P E w F R bl nt x a w'->a.defers=[]/\ ∃v,(results E.fn a.tmps).run P w'=.ok v w'/\(match E.back with
    |none=>iw E w w' F R bl r v
    |some t=>v=.tuple #[]/\iw E w w' F R bl r (args.getD t undef)):=fun x a w' e hf=>by
   subst e;obtain⟨f1,f2,f3⟩:=hf;refine⟨f1, ?_⟩
   cases hb:E.back with
   |none=>rw [hb]at f3;exact f3
   |some t=>
    rw [hb]at f3;have hk:a.tmps.getD t undef=args.getD t undef:=f2.2 (t,args.getD t undef) (by simp [nt,rC,hb])
    simp only [hk]at f3;exact⟨_,f3.1,rfl,f3.2⟩
  refine qa (E:=E) (Fin:=Dy P E w F R bl nt) s (hop w F R g.gl) f2 (fun ks st θ w a r h m=>Dz q hE ks st θ w a r h m) c (by rw [ag];exact f1) h1 m ⟨fun st θ w a h m=> ?_,fun i st θ w a h m=> ?_,fun st θ w a h m=> ?_,fun x w a h hf=> ?_⟩
  .obtain⟨x,hx,hF⟩:=Dz q hE _ _ _ _ _ _ h m
   exact d x a w (Þ hx) hF
  .simp [Ld]at h
  .obtain⟨x,hx,hF⟩:=Dz q hE _ _ _ _ _ _ h m
   exact d x a w (Þ hx) hF
  .exact d x a w (Þ h) hf
 .cases h
structure DA (P:Program) (gl:bE) (T:TypeId->Option TyI) (tab:Nat->Entry):Prop where
 ok:Ok P T
 mix:P.follows .mixedOrders=true
 entry: ∀e,jX (tab e)=true
 fn: ∀e,ua (tab e)=true
 f: ∀e,P.funcs[(tab e).f]? =some (tab e).fn
 name: ∀e,((tab e).fn.name== "runtime.NumGoroutine")=false
 body: ∀e,(tab e).fn.body.isNone=false
 bX: ∀e p,(tab e).bX=some p-> ∀ds r,p ds=some r->cX P gl (tab e) ds r
theorem MH {tab:Nat->Entry} {gV:FuncId->List Nat} {gl:bE} (h:DA P gl T tab): ∀(n e:Nat) (ds:List DV) (r:bN (tab e).bH),D T tab gV n e ds=some r->cX P gl (tab e) ds r
 |0,e,ds,r,b=>by simp [D]at b
 |n+1,e,ds,r,b=>by
  simp only [D]at b;split at b
  .rename_i p hp
   exact h.bX e p hp ds r b
  .refine XY h.ok h.mix (fun w0 F R g=> ?_) (h.entry e) (h.fn e) (h.f e) b
   intro st st' θ w a o v l i j d;exact XI h.ok g (MH h n) h.entry (fun e=>⟨(tab e).fn,h.f e,h.name e,h.body e⟩) i j d
end
end Go.Ev
