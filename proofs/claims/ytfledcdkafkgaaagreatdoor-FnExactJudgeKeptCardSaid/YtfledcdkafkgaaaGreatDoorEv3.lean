/- A verified evaluator of the machine's code, part 3: no program in sight. -/
import Derived.Test.YtfledcdkafkgaaaGreatDoorEv2
open Bool renaming and_eq_true->À,or_eq_false_iff->Ï,not_eq_true'->Ø,false_or->Ý,not_true->Τ,or_eq_true->ζ
open Array renaming getD_eq_getD_getElem?->Á,mem_toList_iff->Ú,getElem?_eq_getElem->Û,getElem?_setIfInBounds_ne->Δ,replicate->Θ,all_eq_true'->τ,ext'->ϙ
open Nat renaming eq_of_beq_eq_true->Â,le_of_ble_eq_true->Ε,beq->Ι,lt_of_lt_of_le->Λ,le_refl->Ξ,le_trans->χ,zero_add->ϗ,blt->ϛ
open List renaming nodup_append->Ã,append_assoc->Ä,append_nil->Æ,getD_eq_getElem?_getD->Ç,mem_map->È,mem_append->É,mem_cons->Ê,getElem?_eq_getElem->Í,all_eq_true->Î,map_cons->Ò,nodup_iff_pairwise_ne->Ó,map_congr_left->Ô,eq_nil_of_length_eq_zero->Õ,getElem?_eq_none->Ö,reverse_reverse->Ù,mem_filterMap->Β,pairwise_map->Γ,isEmpty_iff->Ζ,nil_append->Η,replicate->Κ,sublist_append_right->Μ,sublist_append_left->Ο,elem_eq_mem->Φ,map_map->Ω,reverse_singleton->ε,singleton_append->ι,mem_append_left->κ,mem_of_getElem?->ν,pairwise_append->ξ,mapM_cons->ο,getElem?_range->π,pairwise_cons->υ,range->φ,ext_getElem?->ψ,getElem?_map->ω,length_cons->ϊ,cons_append->ϋ,mem_filter->ό,mem_range->ώ,all_cons->Ϗ
open Option.some renaming injEq->Å,inj->Α
open Go.Region renaming ready->Ë,binds->Ñ,wanted->Υ
open Go.Region.linearise renaming go->Ì
open Option renaming bind_eq_some_iff->Ð,isSome_iff_exists->Ρ,getD_some->Χ,map_eq_some_iff->Ψ,isNone_some->σ,map_some->ύ
open List.Pairwise renaming imp_of_mem->Ü
open Classical renaming byContradiction->Ν,choose_spec->Ϙ,choose->Ϛ
open List.cons renaming injEq->η
open Bool renaming true->å,false->ä
open Option renaming some->ã
namespace Go.Ev
section
variable {w0 w:World} {F R:Nat→Prop} {st:St} {θ:Asg}
theorem Inv.Rg (h:Inv w0 F R st θ w) {b g:Nat} (hb:st.boxes b=none) {cs:List Cell} {arr:Array Value} {ty:TypeId} {frz:Nat×Nat} (hg:hp w g=ã (.cells arr ty frz)) (hz:gM arr.size frz)
  (hr:aJ (hp w) R st θ cs arr.toList) (t: ¬cQ st θ g) (hF:F g\/w0.heap.size<=g):
  Inv w0 F R {st with boxes:=aS st.boxes b (ã cs)} {θ with bx:=aS θ.bx b g} w/\Step R st θ (hp w) {st with boxes:=aS st.boxes b (ã cs)} {θ with bx:=aS θ.bx b g} (hp w):=by
 have u: ∀b',(st.boxes b').isSome=å->b'≠b:=fun b' m e=>by subst e;simp [hb]at m
 have s:Step R st θ (hp w) {st with boxes:=aS st.boxes b (ã cs)} {θ with bx:=aS θ.bx b g} (hp w):=by
  refine⟨fun _ _=>rfl,fun b' m=> ?_,fun k=>.inl ⟨rfl,fun hk=>⟨rfl,rfl,fun _ _=>rfl⟩⟩⟩
  simp only [aY _ _ (u b' m)];exact⟨m,trivial⟩
 refine⟨h.next s (Ξ _) rfl rfl rfl (fun _ _ e=>absurd rfl e) ?_ (fun k d hd=>.inl ⟨hd,rfl,rfl,fun _ _=>rfl⟩) ?_ ?_ h.oo ?_,s⟩
 .intro b' ak f
  by_cases e:b'=b
  .subst e
   simp only [bC,Å]at f;subst f;exact .inr ⟨arr,ty,frz,by simp only [bC];exact hg,hz,aJ.step s _ _ hr⟩
  .simp only [aY _ _ e]at f
   exact .inl ⟨f,rfl⟩
 .intro p z i q e
  by_cases j:p=b<;>by_cases r:z=b
  .rw [j,r]
  .subst j
   simp only [aY _ _ r,bC]at q e;exact absurd (.inl ⟨z,q,e.symm⟩) t
  .subst r
   simp only [aY _ _ j,bC]at i e;exact absurd (.inl ⟨p,i,e⟩) t
  .simp only [aY _ _ j,aY _ _ r]at i q e
   exact h.bb p z i q e
 .intro p k i hk
  by_cases j:p=b
  .subst j
   simp only [bC];intro ad;exact t (.inr ⟨k,hk,ad⟩)
  .simp only [aY _ _ j]at i |-
   exact h.bo p k i hk
 .rintro g' (⟨p,i,rfl⟩|⟨k,hk,ae⟩)
  .by_cases j:p=b
   .subst j;simp only [bC];exact hF
   .simp only [aY _ _ j]at i |-
    exact h.own _ (.inl ⟨p,i,rfl⟩)
  .exact h.own _ (.inr ⟨k,hk,ae⟩)
theorem Inv.drop (h:Inv w0 F R st θ w) (θ':Asg):Inv w0 F R eG θ' w where
 size:=h.size
 same:=h.same
 os:=h.os
 tape:=h.tape
 out:=h.out
 rd:=h.rd
 boxes:=fun b cs f=>by simp [eG]at f
 ar:=fun k d hd=>by simp [eG]at hd
 bb:=fun b b' f=>by simp [eG]at f
 bo:=fun b k f=>by simp [eG]at f
 oo:=fun k k' g hk=>by simp [eG]at hk
 own:=fun g i=>by
  rcases i with⟨b,f, -⟩|⟨k,hk, -⟩
  .simp [eG]at f
  .simp [eG]at hk
theorem Ri {θ:Asg} {g:Nat}: ¬cQ eG θ g:=by
 rintro(⟨b,d, -⟩|⟨k,hk, -⟩)
 .simp [eG]at d
 .simp [eG]at hk
end
section
variable {w0 w:World} {F R:Nat→Prop} {B:Nat→Nat→Prop} {nal:Bool} {β:Type} {bl:Nat→Nat}
structure nZ (w0:World) (F R:Nat->Prop) (nal:Bool) (bl:Nat->Nat) (w:World) (su:St) (θ:Asg) (L:Env):Prop where
 inv:Inv w0 F R su θ w
 env:nal=ä-> ∀e∈L,(su.ar e.1).bj.isSome=å/\θ.ob e.1=e.2.1/\θ.fp e.1=e.2.2
 bx: ∀m,(su.boxes m).isSome=å->θ.bx m=bl m
theorem nZ.u (d: ∀m g,B m g->bl m=g) {su:St} {θ:Asg} {L:Env} (h:nZ w0 F R nal bl w su θ L):jl w0 F R B nal su.boxes w su θ L:=
 ⟨h.inv,h.env,fun m g f b=>⟨b,(h.bx m b).trans (d m g f)⟩⟩
theorem fy.sub {st:St} {θ:Asg} {l l':List Nat} (h:fy w0 F st θ l) (b:l'.Sublist l):fy w0 F st θ l':=
 ⟨h.nodup.sublist b,fun g d=>h.free g (b.subset d)⟩
theorem Rj (hB: ∀m g,B m g->bl m=g): ∀(bx:List (Nat×List CK)) {su st':St} {θ:Asg} {L:Env} {ds rest:List DV} {A:Env} {K:List DV->M β} {y:β} {l:Log},nZ w0 F R nal bl w su θ L->bY (hp w) R B nal bl L bx ds A->fy w0 F su θ (A.fps++bx.map fun p=>bl p.1)->
  (vR bx (ds++rest) K).run su=ã (y,st',l)-> ∃j θ' l1,(K rest).run j=ã (y,st',l1)/\nZ w0 F R nal bl w j θ' (L++A)/\(∀p∈bx,(j.boxes p.1).isSome=å)/\(∀m,(su.boxes m).isSome=å->(j.boxes m).isSome=å)/\
   ∀g,cQ j θ' g->cQ su θ g\/g∈A.fps\/g∈bx.map fun p=>bl p.1
 | [],su,st',θ,L,ds,rest,A,K,y,l,hu,hk,t,h=>by
  simp only [bY]at hk;obtain⟨rfl,rfl⟩:=hk;simp only [Η,vR]at h;exact⟨su,θ,l,h,by simpa using hu,Ż,fun _ h=>h,fun _ h=>.inl h⟩
 |(b,ks)::bx,su,st',θ,L,ds,rest,A,K,y,l,hu,hk,t,h=>by
  simp only [bY]at hk;obtain⟨arr,ty,frz,d1,d2,A1,A2,rfl,rfl,h1,h2,h3,h4⟩:=hk;simp only [vR,Ä]at h;rw [Env.dm]at t;simp only [Ò]at t;have ah:fy w0 F (su.cW su.boxes) θ A1.fps:=t.sub (by simp [Ä])
  obtain⟨cs,f,θ1,l1,h,b1,t1,u1,s1,r1,x1,o1⟩:=rz ks (hu.u hB) h3 ah h;obtain⟨ai,l2,h⟩:=M.GH h;have aj:Inv w0 F R f θ1 w:=by
   have:=u1.inv;rwa [<-b1]at this
  have z: ∀g,cQ f θ1 g->cQ su θ g\/g∈A1.fps:=fun g d=>o1 g (by rw [<-b1];exact d)
  have ak:aJ (hp w) R f θ1 cs arr.toList:=by rw [<-b1]at r1;exact r1
  have ae: ¬cQ f θ1 (bl b):=fun i=>by
   rcases z _ i with i|i
   .exact(t.free (bl b) Ż).1 i
   .have:=t.nodup
    rw [Ä]at this;exact(Ã.1 this).2.2 _ i _ Ż rfl
  obtain⟨i1,i2⟩:=aj.Rg ai h1 h2 ak ae (t.free (bl b) Ż).2
  have al:nZ w0 F R nal bl w {f with boxes:=aS f.boxes b (ã cs)} {θ1 with bx:=aS θ1.bx b (bl b)} (L++A1):=by
   refine⟨i1,u1.env,fun m hm=> ?_⟩
   by_cases e:m=b
   .subst e;simp [bC]
   .simp only [aY _ _ e]at hm |-
    rw [x1];exact hu.bx m (by rw [<-b1];exact hm)
  have q: ∀g,cQ {f with boxes:=aS f.boxes b (ã cs)} {θ1 with bx:=aS θ1.bx b (bl b)} g->cQ su θ g\/g∈A1.fps\/g=bl b:=by
   rintro g (⟨b',af,e⟩|⟨k,hk,d⟩)
   .by_cases e':b'=b
    .subst e';simp only [bC]at e;exact .inr (.inr e.symm)
    .simp only [aY _ _ e']at af e
     exact(z g (.inl ⟨b',af,e⟩)).imp id .inl
   .exact(z g (.inr ⟨k,hk,d⟩)).imp id .inl
  have ao:fy w0 F {f with boxes:=aS f.boxes b (ã cs)} {θ1 with bx:=aS θ1.bx b (bl b)} (A2.fps++bx.map fun p=>bl p.1):=by
   have r:(A2.fps++bx.map fun p=>bl p.1).Sublist (A1.fps++A2.fps++(bl b::bx.map fun p=>bl p.1)):=by
    rw [Ä];exact(List.Sublist.append_left (List.sublist_cons_self _ _) _).trans (Μ _ _)
   have s:=t.nodup;refine⟨s.sublist r,fun g d=>⟨fun i=> ?_,(t.free g (r.subset d)).2⟩⟩
   rcases q g i with i|i|i
   .exact(t.free g (r.subset d)).1 i
   .rw [Ä]at s
    refine(Ã.1 s).2.2 g i g ?_ rfl
    rcases É.1 d with d|d
    .simp [d]
    .exact É.2 (.inr (List.mem_cons_of_mem _ d))
   .subst i
    rw [Ä]at s;have h2:=(Ã.1 s).2.1;rcases É.1 d with d|d
    .exact(Ã.1 h2).2.2 _ d _ Ż rfl
    .exact(List.nodup_cons.1 (Ã.1 h2).2.1).1 d
  obtain⟨aq,ar,l3,h,n2,q1,q2,q3⟩:=Rj hB bx al h4 ao h;refine⟨aq,ar,l3,h,by rw [<-Ä];exact n2,fun p hp=> ?_,fun m hm=>q2 m ?_,fun g d=> ?_⟩
  .rcases Ê.1 hp with rfl|hp
   .exact q2 _ (by simp [bC])
   .exact q1 p hp
  .by_cases e:m=b
   .subst e;simp [bC]
   .simp only [aY _ _ e];rw [b1];exact hm
  .rw [Env.dm]
   simp only [Ò,Ê,É];rcases q3 g d with d|d|d
   .rcases q g d with d|d|d
    .exact .inl d
    .exact .inr (.inl (.inl d))
    .exact .inr (.inr (.inl d))
   .exact .inr (.inl (.inr d))
   .exact .inr (.inr (.inr d))
theorem Rk (hB: ∀m g,B m g->bl m=g) (val:Nat->Value): ∀(ts:List (Nat×bg)) {su st':St} {θ:Asg} {L:Env} {f:Nat->TV} {ds rest:List DV} {A:Env} {K:(Nat->TV)->M β} {y:β} {l:Log},nZ w0 F R nal bl w su θ L->eJ (hp w) R B nal val L ts ds A->fy w0 F su θ A.fps->(∀t,aV (hp w) R su θ (f t) (val t))->
  (vQ ts f (ds++rest) K).run su=ã (y,st',l)-> ∃j d θ' l1,(K j).run d=ã (y,st',l1)/\nZ w0 F R nal bl w d θ' (L++A)/\d.boxes=su.boxes/\(∀t,aV (hp w) R d θ' (j t) (val t))
 | [],su,st',θ,L,f,ds,rest,A,K,y,l,hu,hk,p,q,h=>by
  simp only [eJ]at hk;obtain⟨rfl,rfl⟩:=hk;simp only [vQ]at h;exact⟨f,su,θ,l,h,by simpa using hu,rfl,q⟩
 |(t,k)::ts,su,st',θ,L,f,ds,rest,A,K,y,l,hu,hk,p,q,h=>by
  simp only [eJ]at hk;obtain⟨d1,d2,A1,A2,rfl,rfl,h1,h2⟩:=hk;simp only [vQ,Ä]at h;obtain⟨x,b,θ1,l1,h,i,t1,u1,s1,r1,x1,o1⟩:=Rb k (hu.u hB) h1 (p.left (A2:=A2)) h;have r:=p.split (A1:=A1) (A2:=A2) (st1:=b) (θ1:=θ1) (fun g hg=>o1 g (by rw [<-i];exact hg))
  have n1:nZ w0 F R nal bl w b θ1 (L++A1):=by
   refine⟨by have:=u1.inv;rwa [<-i]at this,u1.env,fun m hm=> ?_⟩
   rw [x1];exact hu.bx m (by rw [<-i];exact hm)
  have e1:b.cW su.boxes=b:=by rw [<-i];rfl
  have s:Step R su θ (hp w) b θ1 (hp w):=by rw [e1]at s1;exact s1
  obtain⟨j,z,ad,l2,h,n2,b2,r2⟩:=Rk hB val ts n1 h2 r (f:=aS f t x) (fun t'=>by
   by_cases e:t'=t
   .subst e;rw [bC];rw [<-i]at r1;exact r1
   .rw [aY _ _ e];exact aV.step s _ _ (q t')) h
  exact⟨j,z,ad,l2,h,by rw [<-Ä];exact n2,b2.trans i,r2⟩
theorem afZ (hB: ∀m g,B m g->bl m=g) (val:Nat->Value) {g:cG} {dB dT:List DV} {AB AT:Env} {wa:Asg} {K:(Nat->TV)->M β} {y:β} {st':St} {l:Log} (hI:Inv w0 F R eG wa w) (q:bY (hp w) R B nal bl [] g.boxes dB AB) (r:eJ (hp w) R B nal val AB g.tmps dT AT)
  (hn:((AB++AT).fps++g.boxes.map fun p=>bl p.1).Nodup) (ho: ∀b∈(AB++AT).fps++g.boxes.map fun p=>bl p.1,F b\/w0.heap.size<=b)
  (h:(GC g (dB++dT) K).run eG=ã (y,st',l)):
  ∃f su θ' l1,(K f).run su=ã (y,st',l1)/\Inv w0 F R su θ' w/\(∀t,aV (hp w) R su θ' (f t) (val t))/\ ∀p∈g.boxes,(su.boxes p.1).isSome=å/\θ'.bx p.1=bl p.1:=by
 have n0:nZ w0 F R nal bl w eG wa []:=⟨hI,fun _ e he=>by simp at he,fun m hm=>by simp [eG]at hm⟩
 have i:(AB.fps++g.boxes.map fun p=>bl p.1).Sublist ((AB++AT).fps++g.boxes.map fun p=>bl p.1):=by
  rw [Env.dm];exact List.Sublist.append_right (Ο _ _) _
 simp only [GC]at h;obtain⟨su,θ1,l1,h,n1,q1,q2,q3⟩:=Rj hB g.boxes n0 q ⟨hn.sublist i,fun b j=>⟨Ri,ho b (i.subset j)⟩⟩ h
 have s:fy w0 F su θ1 AT.fps:=by
  have d:=hn;rw [Env.dm]at d;refine⟨d.sublist ((Μ _ _).trans (Ο _ _)),fun b j=>⟨fun u=> ?_,ho b (by rw [Env.dm];simp [j])⟩⟩
  rcases q3 b u with k|k|k
  .exact Ri k
  .exact(Ã.1 (Ã.1 d).1).2.2 b k b j rfl
  .exact(Ã.1 d).2.2 b ĥ b k rfl
 rw [<-Æ dT]at h;obtain⟨f,z,ad,l2,h,n2,b2,r2⟩:=Rk hB val g.tmps n1 (by simpa using r) s (fun t=>mZ _) h
 exact⟨f,z,ad,l2,h,n2.inv,r2,fun p hp=>⟨by rw [b2];exact q1 p hp,n2.bx p.1 (by rw [b2];exact q1 p hp)⟩⟩
end
end Go.Ev
namespace Go.Ev
mutual
def pO (pb:Bool):CK->Bool
 |.al _=>ä
 |.gs _ _=>ä
 |.pb _ _=>pb
 |.fn _ a b=>pP pb a&&pP pb b
 |_=>å
def pP (pb:Bool):List CK->Bool
 | []=>å
 |c::cs=>pO pb c&&pP pb cs
end
def okV (pb:Bool):bg->Bool
 |.one c=>pO pb c
 |.agg cs=>pP pb cs
 |.aM vs=>rA vs
where
 rA:List bg->Bool
  | []=>å
  |.one c::r=>pO pb c&&rA r
  |.agg cs::r=>pP pb cs&&rA r
  |.aM _::_=>ä
def Aj (pb:Bool):List bg->Bool
 | []=>å
 |c::cs=>okV pb c&&Aj pb cs
def okB (pb:Bool):List (Nat×List CK)->Bool
 | []=>å
 |(_,ks)::r=>pP pb ks&&okB pb r
def dF:List (Nat×List CK)->List (List CK)->List (Nat×List CK)
 |(m,_)::bx,ks::r=>(m,ks)::dF bx r
 |_,_=>[]
section
variable {H:Heap} {R R':Nat→Prop} {B B':Nat→Nat→Prop} {pb:Bool}
theorem aE.fG {d:bf} {v:Value} {fp:List Nat} (h:aE H R å d v fp):aE H R' å d v fp:=by
 revert h
 refine bf.rec (motive_1:=fun d=> ∀(v:Value) (fp:List Nat),aE H R å d v fp->aE H R' å d v fp)
  (motive_2:=fun ds=> ∀(vs:List Value) (fp:List Nat),az H R å ds vs fp->az H R' å ds vs fp) ?_ ?_ ?_ ?_ ?_ ?_ d v fp
 .intro x v fp h;simpa only [aE]using h
 .intro k m v fp h;simpa only [aE]using h
 .intro x v fp h;simpa only [aE]using h
 .intro sz cs ih v fp h
  simp only [aE]at h |-;obtain⟨a,len,cap,b,f,i,j,s,h⟩:=h;refine⟨a,len,cap,b,f,i,j,s, ?_⟩
  rcases h with⟨-,h|⟨g,cur,ty,frz,fps,k1,k2,k3,t,u,z⟩⟩|⟨h, -⟩
  .exact .inl ⟨trivial,.inl h⟩
  .exact .inl ⟨trivial,.inr ⟨g,cur,ty,frz,fps,k1,k2,k3,t,u,ih _ _ z⟩⟩
  .simp at h
 .intro vs fp h;simpa only [az]using h
 .intro d ds p q vs fp h
  simp only [az]at h |-;obtain⟨v,r,f1,f2,b,f,i,j⟩:=h;exact⟨v,r,f1,f2,b,f,p _ _ i,q _ _ j⟩
mutual
theorem ax.up (d:pb=å-> ∀m g,B m g->B' m g): ∀(k:CK) {L L':Env} {nm:Nat} {ds:List DV} {v:Value} {A:Env} {nal:Bool},pO pb k=å->ax H R B nal L nm k ds v A->ax H R B' å L' nm k ds v A
 |.undef,_,_,_,_,_,_,_,_,h=>Ź
 |.bool,_,_,_,_,_,_,_,_,h=>Ź
 |.int _,_,_,_,_,_,_,_,_,h=>Ź
 |.str,_,_,_,_,_,_,_,_,h=>Ź
 |.er,_,_,_,_,_,_,_,_,h=>Ź
 |.sh _,_,_,_,_,_,_,_,_,h=>Ź
 |.own _,_,_,_,_,_,_,_,_,h=>Ź
 |.nl,_,_,_,_,_,_,_,_,h=>Ź
 |.al _,_,_,_,_,_,_,_,hk,_=>by simp [pO]at hk
 |.gs _ _,_,_,_,_,_,_,_,hk,_=>by simp [pO]at hk
 |.pb _ _,_,_,_,_,_,_,_,hk,h=>by
  simp only [pO]at hk;simp only [ax]at h |-;obtain⟨i,p,g,q,r⟩:=h;exact⟨i,p,g,d hk _ _ q,r⟩
 |.ff,_,_,_,_,_,_,_,_,h=>Ź
 |.fE,_,_,_,_,_,_,_,_,h=>Ź
 |.fn f a b,_,_,_,_,_,_,_,hk,h=>by
  simp only [pO,À]at hk;simp only [ax]at h |-;obtain⟨u,vb,d1,d2,A1,A2,i,p,q,r,s⟩:=h;exact⟨u,vb,d1,d2,A1,A2,i,p,q,bq.up d a hk.1 r,bq.up d b hk.2 s⟩
theorem bq.up (d:pb=å-> ∀m g,B m g->B' m g): ∀(ks:List CK) {L L':Env} {nm:Nat->Nat} {j:Nat} {ds:List DV} {vs:List Value} {A:Env} {nal:Bool},pP pb ks=å->bq H R B nal L nm j ks ds vs A->bq H R B' å L' nm j ks ds vs A
 | [],_,_,_,_,_,_,_,_,_,h=>ħ
 |c::cs,_,_,_,_,_,_,_,_,hk,h=>by
  simp only [pP,À]at hk;simp only [bq]at h |-;obtain⟨v,t,d1,d2,A1,A2,i,p,q,r,s,z⟩:=h;exact⟨v,t,d1,d2,A1,A2,i,p,q,r,ax.up d c hk.1 s,bq.up d cs hk.2 z⟩
end
theorem cp.up (d:pb=å-> ∀m g,B m g->B' m g): ∀(ks:List bg) {L L':Env} {nm:Nat->Nat} {j:Nat} {ds:List DV} {vs:List Value} {A:Env} {nal:Bool},okV.rA pb ks=å->cp H R B nal L nm j ks ds vs A->cp H R B' å L' nm j ks ds vs A
 | [],_,_,_,_,_,_,_,_,_,h=>û
 |.one c::cs,_,_,_,_,_,_,_,_,hk,h=>by
  simp only [okV.rA,À]at hk;simp only [cp]at h |-;obtain⟨v,b,d1,d2,A1,A2,f,i,k,r,p,q⟩:=h;exact⟨v,b,d1,d2,A1,A2,f,i,k,r,ax.up d c hk.1 p,cp.up d cs hk.2 q⟩
 |.agg s::cs,_,_,_,_,_,_,_,_,hk,h=>by
  simp only [okV.rA,À]at hk;simp only [cp]at h |-;obtain⟨v,b,d1,d2,A1,A2,f,i,k,p,q⟩:=h;exact⟨v,b,d1,d2,A1,A2,f,i,k,bq.up d s hk.1 p,cp.up d cs hk.2 q⟩
 |.aM _::_,_,_,_,_,_,_,_,_,hk,_=>by simp [okV.rA]at hk
theorem bU.up (b:pb=å-> ∀m g,B m g->B' m g) {k:bg} {L L':Env} {nm:Nat->Nat} {ds:List DV} {v:Value} {A:Env} {nal:Bool} (hk:okV pb k=å) (h:bU H R B nal L nm k ds v A):bU H R B' å L' nm k ds v A:=by
 cases k with
 |one c=>simp only [okV]at hk;simp only [bU]at h |-;exact⟨h.1,ax.up b c hk h.2⟩
 |agg ks=>simp only [okV]at hk;simp only [bU]at h |-;obtain⟨arr,d,f⟩:=h;exact⟨arr,d,bq.up b ks hk f⟩
 |aM ks=>simp only [okV]at hk;simp only [bU]at h |-;obtain⟨arr,d,f⟩:=h;exact⟨arr,d,cp.up b ks hk f⟩
theorem bY.up (b:pb=å-> ∀m g,B m g->B' m g) {bl:Nat->Nat}: ∀ {bx:List (Nat×List CK)} {L L':Env} {ds:List DV} {A:Env} {nal:Bool},okB pb bx=å->bY H R B nal bl L bx ds A->bY H R B' å bl L' bx ds A
 | [],_,_,_,_,_,_,h=>h
 |(m,ks)::rest,_,_,_,_,_,hk,h=>by
  simp only [okB,À]at hk;simp only [bY]at h |-;obtain⟨arr,ty,frz,d1,d2,A1,A2,d,f,i,j,k,p⟩:=h;exact⟨arr,ty,frz,d1,d2,A1,A2,d,f,i,j,bq.up b ks hk.1 k,bY.up b hk.2 p⟩
mutual
def lY (N:List Nat):CK->Bool
 |.al _=>ä
 |.gs _ _=>ä
 |.pb m _=>N.elem m
 |.fn _ a b=>nc N a&&nc N b
 |_=>å
def nc (N:List Nat):List CK->Bool
 | []=>å
 |c::cs=>lY N c&&nc N cs
end
mutual
theorem ax.tj {N:List Nat} {bm:List (Nat×Nat)} (d: ∀m∈N,∀g,B m g-> ∀b,look m bm=ã b->B' b g): ∀(k:CK) {L L':Env} {nm:Nat} {ds:List DV} {v:Value} {A:Env} {nal:Bool},lY N k=å->ax H R B nal L nm k ds v A->ax H R B' å L' nm (jO bm k) ds v A
 |.undef,_,_,_,_,_,_,_,_,h=>Ů
 |.bool,_,_,_,_,_,_,_,_,h=>Ů
 |.int _,_,_,_,_,_,_,_,_,h=>Ů
 |.str,_,_,_,_,_,_,_,_,h=>Ů
 |.er,_,_,_,_,_,_,_,_,h=>Ů
 |.sh _,_,_,_,_,_,_,_,_,h=>Ů
 |.own _,_,_,_,_,_,_,_,_,h=>Ů
 |.nl,_,_,_,_,_,_,_,_,h=>Ů
 |.al _,_,_,_,_,_,_,_,hk,_=>ô
 |.gs _ _,_,_,_,_,_,_,_,hk,_=>ô
 |.pb m _,_,_,_,_,_,_,_,hk,h=>by
  simp only [lY,Φ,decide_eq_true_eq]at hk;simp only [ax]at h;obtain⟨i,p,g,q,r⟩:=h;simp only [jO];cases e:look m bm with
  |none=>simp only [ax];exact⟨i,p⟩
  |some b=>simp only [ax];exact⟨i,p,g,d m hk g q b e,r⟩
 |.ff,_,_,_,_,_,_,_,_,h=>Ů
 |.fE,_,_,_,_,_,_,_,_,h=>Ů
 |.fn f a b,_,_,_,_,_,_,_,hk,h=>by
  simp only [lY,À]at hk;simp only [jO,ax]at h |-;obtain⟨u,vb,d1,d2,A1,A2,i,p,q,r,s⟩:=h;exact⟨u,vb,d1,d2,A1,A2,i,p,q,bq.tj d a hk.1 r,bq.tj d b hk.2 s⟩
theorem bq.tj {N:List Nat} {bm:List (Nat×Nat)} (d: ∀m∈N,∀g,B m g-> ∀b,look m bm=ã b->B' b g): ∀(ks:List CK) {L L':Env} {nm:Nat->Nat} {j:Nat} {ds:List DV} {vs:List Value} {A:Env} {nal:Bool},nc N ks=å->bq H R B nal L nm j ks ds vs A->bq H R B' å L' nm j (nW bm ks) ds vs A
 | [],_,_,_,_,_,_,_,_,_,h=>by simpa only [nW,bq]using h
 |c::cs,_,_,_,_,_,_,_,_,hk,h=>by
  simp only [nc,À]at hk;simp only [nW,bq]at h |-;obtain⟨v,t,d1,d2,A1,A2,i,p,q,r,s,z⟩:=h;exact⟨v,t,d1,d2,A1,A2,i,p,q,r,ax.tj d c hk.1 s,bq.tj d cs hk.2 z⟩
end
mutual
theorem ax.oa {N:List Nat} (d: ∀m∈N,∀g,B m g->B' m g): ∀(k:CK) {L L':Env} {nm:Nat} {ds:List DV} {v:Value} {A:Env} {nal:Bool},lY N k=å->ax H R B nal L nm k ds v A->ax H R B' å L' nm k ds v A
 |.undef,_,_,_,_,_,_,_,_,h=>Ź
 |.bool,_,_,_,_,_,_,_,_,h=>Ź
 |.int _,_,_,_,_,_,_,_,_,h=>Ź
 |.str,_,_,_,_,_,_,_,_,h=>Ź
 |.er,_,_,_,_,_,_,_,_,h=>Ź
 |.sh _,_,_,_,_,_,_,_,_,h=>Ź
 |.own _,_,_,_,_,_,_,_,_,h=>Ź
 |.nl,_,_,_,_,_,_,_,_,h=>Ź
 |.al _,_,_,_,_,_,_,_,hk,_=>ô
 |.gs _ _,_,_,_,_,_,_,_,hk,_=>ô
 |.pb m _,_,_,_,_,_,_,_,hk,h=>by
  simp only [lY,Φ,decide_eq_true_eq]at hk;simp only [ax]at h |-;obtain⟨i,p,g,q,r⟩:=h;exact⟨i,p,g,d m hk g q,r⟩
 |.ff,_,_,_,_,_,_,_,_,h=>Ź
 |.fE,_,_,_,_,_,_,_,_,h=>Ź
 |.fn f a b,_,_,_,_,_,_,_,hk,h=>by
  simp only [lY,À]at hk;simp only [ax]at h |-;obtain⟨u,vb,d1,d2,A1,A2,i,p,q,r,s⟩:=h;exact⟨u,vb,d1,d2,A1,A2,i,p,q,bq.oa d a hk.1 r,bq.oa d b hk.2 s⟩
theorem bq.oa {N:List Nat} (d: ∀m∈N,∀g,B m g->B' m g): ∀(ks:List CK) {L L':Env} {nm:Nat->Nat} {j:Nat} {ds:List DV} {vs:List Value} {A:Env} {nal:Bool},nc N ks=å->bq H R B nal L nm j ks ds vs A->bq H R B' å L' nm j ks ds vs A
 | [],_,_,_,_,_,_,_,_,_,h=>ħ
 |c::cs,_,_,_,_,_,_,_,_,hk,h=>by
  simp only [nc,À]at hk;simp only [bq]at h |-;obtain⟨v,t,d1,d2,A1,A2,i,p,q,r,s,z⟩:=h;exact⟨v,t,d1,d2,A1,A2,i,p,q,r,ax.oa d c hk.1 s,bq.oa d cs hk.2 z⟩
end
theorem bY.oa {N:List Nat} (b: ∀m∈N,∀g,B m g->B' m g) {bl:Nat->Nat}: ∀ {bx:List (Nat×List CK)} {bH:List (List CK)} {L L':Env} {ds:List DV} {A:Env} {nal:Bool},bH.all (nc N)=å->bY H R B nal bl L (dF bx bH) ds A->bY H R B' å bl L' (dF bx bH) ds A
 | [],_,_,_,_,_,_,_,h=>ĵ
 |_::_,[],_,_,_,_,_,_,h=>ĵ
 |(m,_)::bx,ks::bH,_,_,_,_,_,hk,h=>by
  simp only [Ϗ,À]at hk;simp only [dF,bY]at h |-;obtain⟨arr,ty,frz,d1,d2,A1,A2,d,f,i,j,k,p⟩:=h;exact⟨arr,ty,frz,d1,d2,A1,A2,d,f,i,j,bq.oa b ks hk.1 k,bY.oa b hk.2 p⟩
theorem eJ.up (b:pb=å-> ∀m g,B m g->B' m g) {val:Nat->Value}: ∀ {ks:List bg} {t:Nat} {L L':Env} {ds:List DV} {A:Env} {nal:Bool},Aj pb ks=å->eJ H R B nal val L (jk t ks) ds A->eJ H R B' å val L' (jk t ks) ds A
 | [],_,_,_,_,_,_,_,h=>h
 |k::rest,_,_,_,_,_,_,hk,h=>by
  simp only [Aj,À]at hk;simp only [jk,eJ]at h |-;obtain⟨d1,d2,A1,A2,d,f,i,j⟩:=h;exact⟨d1,d2,A1,A2,d,f,i.up b hk.1,eJ.up b hk.2 j⟩
mutual
theorem ax.fG: ∀(k:CK) {L:Env} {nm:Nat} {ds:List DV} {v:Value} {A:Env},vK k=ä->ax H R B å L nm k ds v A->ax H R' B å L nm k ds v A
 |.undef,_,_,_,_,_,_,h=>Ź
 |.bool,_,_,_,_,_,_,h=>Ź
 |.int _,_,_,_,_,_,_,h=>Ź
 |.str,_,_,_,_,_,_,h=>Ź
 |.er,_,_,_,_,_,_,h=>Ź
 |.sh _,_,_,_,_,_,hk,_=>by simp [vK]at hk
 |.own _,_,_,_,_,_,_,h=>by
  simp only [ax]at h |-;obtain⟨x,fp,d,g,i,m⟩:=h;exact⟨x,fp,d,g,i.fG,m⟩
 |.nl,_,_,_,_,_,_,h=>Ź
 |.al _,_,_,_,_,_,_,h=>Ź
 |.gs _ _,_,_,_,_,_,_,h=>Ź
 |.pb _ _,_,_,_,_,_,_,h=>Ź
 |.ff,_,_,_,_,_,_,h=>Ź
 |.fE,_,_,_,_,_,_,h=>Ź
 |.fn f a b,_,_,_,_,_,hk,h=>by
  simp only [vK,Ï]at hk;simp only [ax]at h |-;obtain⟨r,vb,d1,d2,A1,A2,d,g,i,m,p⟩:=h;exact⟨r,vb,d1,d2,A1,A2,d,g,i,bq.fG a hk.1 m,bq.fG b hk.2 p⟩
theorem bq.fG: ∀(ks:List CK) {L:Env} {nm:Nat->Nat} {j:Nat} {ds:List DV} {vs:List Value} {A:Env},qX ks=ä->bq H R B å L nm j ks ds vs A->bq H R' B å L nm j ks ds vs A
 | [],_,_,_,_,_,_,_,h=>ħ
 |c::cs,_,_,_,_,_,_,hk,h=>by
  simp only [qX,Ï]at hk;simp only [bq]at h |-;obtain⟨v,q,d1,d2,A1,A2,d,g,i,m,p,s⟩:=h;exact⟨v,q,d1,d2,A1,A2,d,g,i,m,ax.fG c hk.1 p,bq.fG cs hk.2 s⟩
end
theorem cp.fG: ∀(ks:List bg) {L:Env} {nm:Nat->Nat} {j:Nat} {ds:List DV} {vs:List Value} {A:Env},vL ks=ä->cp H R B å L nm j ks ds vs A->cp H R' B å L nm j ks ds vs A
 | [],_,_,_,_,_,_,_,h=>û
 |.one c::cs,_,_,_,_,_,_,hk,h=>by
  simp only [vL,pB,Ï]at hk;simp only [cp]at h |-;obtain⟨v,b,d1,d2,A1,A2,d,f,g,m,i,k⟩:=h;exact⟨v,b,d1,d2,A1,A2,d,f,g,m,ax.fG c hk.1 i,cp.fG cs hk.2 k⟩
 |.agg p::cs,_,_,_,_,_,_,hk,h=>by
  simp only [vL,pB,Ï]at hk;simp only [cp]at h |-;obtain⟨v,b,d1,d2,A1,A2,d,f,g,i,k⟩:=h;exact⟨v,b,d1,d2,A1,A2,d,f,g,bq.fG p hk.1 i,cp.fG cs hk.2 k⟩
 |.aM _::_,_,_,_,_,_,_,_,h=>by simp only [cp]at h
theorem bU.fG {k:bg} {L:Env} {nm:Nat->Nat} {ds:List DV} {v:Value} {A:Env} (hk:pB k=ä) (h:bU H R B å L nm k ds v A):bU H R' B å L nm k ds v A:=by
 cases k with
 |one c=>simp only [pB]at hk;simp only [bU]at h |-;exact⟨h.1,ax.fG c hk h.2⟩
 |agg ks=>simp only [pB]at hk;simp only [bU]at h |-;obtain⟨arr,b,d⟩:=h;exact⟨arr,b,bq.fG ks hk d⟩
 |aM ks=>simp only [pB]at hk;simp only [bU]at h |-;obtain⟨arr,b,d⟩:=h;exact⟨arr,b,cp.fG ks hk d⟩
theorem bY.fG {bl:Nat->Nat}: ∀ {bx:List (Nat×List CK)} {b:List (List CK)} {L:Env} {ds:List DV} {A:Env},zL b=ä->bY H R B å bl L (dF bx b) ds A->bY H R' B å bl L (dF bx b) ds A
 | [],_,_,_,_,_,h=>ĵ
 |_::_,[],_,_,_,_,h=>ĵ
 |(m,_)::rest,ks::b,_,_,_,hk,h=>by
  simp only [zL,Ï]at hk;simp only [dF,bY]at h |-;obtain⟨arr,ty,frz,d1,d2,A1,A2,d,f,g,i,j,k⟩:=h;exact⟨arr,ty,frz,d1,d2,A1,A2,d,f,g,i,bq.fG ks hk.1 j,bY.fG hk.2 k⟩
end
def eP (bl:Nat->Nat) (m g:Nat):Prop:=bl m=g
def pQ (_ _:Nat):Prop:=False
structure bA where
 n:Nat
 w:World
structure pR (gl:bA) (w:World) (F:Nat->Prop):Prop where
 size:gl.n<=w.heap.size
 at_: ∀b,b<gl.n-> ¬F b/\hp w b=hp gl.w b
structure rB (gl:bA) (E:Entry) (w:World) (F R:Nat->Prop) (bl:Nat->Nat) (val:Nat->Value) (dB dA:List DV) (AB AA:Env):Prop where
 kb:bY (hp w) R (eP bl) å bl [] E.bx dB AB
 kt:eJ (hp w) R (eP bl) å val AB (jk 0 E.ins) dA AA
 nd:((AB++AA).fps++E.bx.map fun p=>bl p.1).Nodup
 own: ∀b∈(AB++AA).fps++E.bx.map fun p=>bl p.1,F b
 rd: ∀b,R b->b<w.heap.size/\ ¬F b
 gl:pR gl w F
structure jP (E:Entry) (w w':World) (F R:Nat->Prop) (bl:Nat->Nat) (r:bK E.bz) (u:Value):Prop where
 size:w.heap.size<=w'.heap.size
 same: ∀b,b<w.heap.size-> ¬F b->hp w' b=hp w b
 os:w'.os=w.os
 tape:w'.tape=w.tape
 out:w'.output=w.output
 res: ∃d1 A1 d2 A2,lg E.bz r=d1++d2/\bU (hp w') R pQ å [] (ft 9000) E.outs d1 u A1/\bY (hp w') R (eP bl) å bl A1 (dF E.bx E.bH) d2 A2/\
  ((A1++A2).fps++E.bx.map fun p=>bl p.1).Nodup/\ ∀b∈(A1++A2).fps,F b\/w.heap.size<=b
def Ha (E:Entry) (w w':World) (F R:Nat->Prop) (_:Nat->Nat) (r:bK E.bz) (u:Value):Prop:=
 ∃g arr ty frz d1 A1,u=.pointer (ã ⟨g,0,none⟩)/\hp w' g=ã (.cells arr ty frz)/\gM arr.size frz/\(F g\/w.heap.size<=g)/\g∉A1.fps/\
  w.heap.size<=w'.heap.size/\(∀b,b<w.heap.size-> ¬F b->hp w' b=hp w b)/\w'.os=w.os/\w'.tape=w.tape/\w'.output=w.output/\
  lg E.bz r=d1/\bU (hp w') R pQ å [] (ft 9000) E.outs d1 (.agg arr) A1/\A1.fps.Nodup/\ ∀b∈A1.fps,F b\/w.heap.size<=b
def cR (P:Program) (gl:bA) (E:Entry) (ds:List DV) (r:bK E.bz):Prop:=
 ∀(w:World) (F R:Nat->Prop) (bl:Nat->Nat) (args:Array Value) (dB dA:List DV) (AB AA:Env),ds=dB++dA->args.size=E.ins.length->rB gl E w F R bl (fun i=>args.getD i undef) dB dA AB AA->
  Calls P E.f args w fun
   |.returned u,w'=>match E.back with
    |none=>match E.lj with
     |false=>jP E w w' F R bl r u
     |true=>Ha E w w' F R bl r u
    |some t=>u=.tuple #[]/\jP E w w' F R bl r (args.getD t undef)
   |_,_=>False
def kE (E:Entry):Bool:=
 Aj å E.ins&&(okB å E.bx&&(okV ä E.outs&&(E.bH.all (nc (E.bx.map (·.1)))&&(decide ((E.bx.map (·.1)).Nodup)&&(Ι E.bx.length E.bH.length&&((E.back.isNone||(E.bx.isEmpty&&E.fn.results.isEmpty))&&(!E.lj||(E.bx.isEmpty&&E.back.isNone))))))))
end Go.Ev
namespace Go.Ev
section
variable {w0 w w':World} {F R:Nat→Prop} {st st':St} {θ:Asg} {β:Type} {y:β} {l:Log}
theorem Rm: ∀ {cj:List Nat} {k:M β} {l:Log},(Ev.alive cj k).run st=ã (y,st',l)->(∀n∈cj,(st.ar n).bj.isSome=å)/\ ∃b,k.run st=ã (y,st',b)
 | [],k,l,h=>⟨Ż,l,h⟩
 |n::r,k,l,h=>by
  simp only [Ev.alive]at h;obtain⟨b,h⟩:=M.fR h;obtain⟨d,h⟩:=M.aP h;obtain⟨f,g⟩:=Rm h;refine⟨fun m hm=> ?_,g⟩
  rcases Ê.1 hm with rfl|hm
  .exact d
  .exact f m hm
theorem Inv.agA (m:Inv w0 F R st θ w) {Fc:Nat->Prop} {Bb:Nat->Option (List Cell)}
  (z:w.heap.size<=w'.heap.size) (ad:w'.os=w.os) (ae:w'.tape=w.tape) (q:w'.output=w.output)
  (f: ∀g,g<w.heap.size-> ¬Fc g->hp w' g=hp w g) (af: ∀g,Fc g->F g\/w0.heap.size<=g) (ag: ∀g,R g-> ¬Fc g) (ah: ∀k g,(st.ar k).bj.isSome=å->g∈θ.fp k-> ¬Fc g)
  (hB: ∀b,(Bb b=st.boxes b/\((st.boxes b).isSome=å-> ¬Fc (θ.bx b)))\/
   ((st.boxes b).isSome=å/\ ∃arr ty frz,Bb b=ã (Κ arr.size .undef)/\hp w' (θ.bx b)=ã (.cells arr ty frz)/\gM arr.size frz/\ ∀v∈arr.toList,cx v=å)):
  Inv w0 F R (st.cW Bb) θ w'/\Step R st θ (hp w) (st.cW Bb) θ (hp w'):=by
 have hR: ∀g,R g->hp w' g=hp w g:=fun g p=>f g (Λ (m.rd g p).1 m.size) (ag g p)
 have hO: ∀k,(st.ar k).bj.isSome=å-> ∀g∈θ.fp k,hp w' g=hp w g:=fun k hk g p=>f g (m.kz (.inr ⟨k,hk,p⟩)) (ah k g hk p)
 have j: ∀b,(Bb b).isSome=å->(st.boxes b).isSome=å:=fun b r=>by
  rcases hB b with⟨e, -⟩|⟨h, -⟩
  .rw [<-e];exact r
  .exact h
 have s:Step R st θ (hp w) (st.cW Bb) θ (hp w'):=by
  refine⟨hR,fun b r=>⟨?_,rfl⟩,fun k=>.inl ⟨rfl,fun hk=>⟨rfl,rfl,hO k hk⟩⟩⟩
  rcases hB b with⟨e, -⟩|⟨h,arr,ty,frz,e, -⟩
  .show(Bb b).isSome=å
   rw [e];exact r
  .show(Bb b).isSome=å
   rw [e];rfl
 refine⟨m.next s z ad ae q (fun g p e=>Ν fun hn=>e (f g p fun hf=>hn (af g hf))) ?_ (fun k d hd=>.inl ⟨hd,rfl,rfl,hO k (Ρ.2 ⟨_,hd⟩)⟩)
  (fun b b' t h2=>m.bb b b' (j b t) (j b' h2)) (fun b k t=>m.bo b k (j b t)) m.oo ?_,s⟩
 .intro b cs i
  have i:Bb b=ã cs:=i;rcases hB b with⟨e,hn⟩|⟨h,arr,ty,frz,e,t,h2,h3⟩
  .rw [e]at i
   exact .inl ⟨i,f _ (m.kz (.inl ⟨b,Ĥ,rfl⟩)) (hn Ĥ)⟩
  .rw [e]at i
   cases i;refine .inr ⟨arr,ty,frz,t,h2, ?_⟩
   have: ∀vs:List Value,(∀v∈vs,cx v=å)->aJ (hp w') R (st.cW Bb) θ (Κ vs.length .undef) vs:=by
    intro vs;induction vs with
    |nil=>intro _;simp [aJ]
    |cons v vs ih=>
     intro hv;simp only [ϊ,List.replicate_succ,aJ];exact⟨v,vs,rfl,⟨Ś,hv v Ż⟩,ih (fun u hu=>hv u (by simp [hu]))⟩
   have:=this arr.toList h3;rwa [Array.length_toList]at this
 .rintro g (⟨b,r,rfl⟩|⟨k,hk,p⟩)
  .exact m.own _ (.inl ⟨b,j b r,rfl⟩)
  .exact m.own _ (.inr ⟨k,hk,p⟩)
theorem jl.any {B:Nat->Nat->Prop} {Bb:Nat->Option (List Cell)} {su:St} {L:Env} (h:jl w0 F R B å Bb w su θ L) (L':Env):jl w0 F R B å Bb w su θ L':=⟨h.inv,Ż,h.bx⟩
theorem Rn {bm:List (Nat×Nat)} {bl:Nat->Nat} {N:List Nat}: ∀(bx:List (Nat×List CK)) (bH:List (List CK)) {su st':St} {θ:Asg} {Bb:Nat->Option (List Cell)} {L:Env} {ds rest:List DV} {A:Env} {k:M β} {l:Log},jl w0 F R pQ å Bb w su θ L->bH.all (nc N)=å->(∀p∈bx,p.1∈N)->bY (hp w) R (eP bl) å bl L (dF bx bH) ds A->fy w0 F (su.cW Bb) θ A.fps->
  (∀m∈N,∀b,look m bm=ã b->(Bb b).isSome=å/\θ.bx b=bl m)->(qW bx bH bm (ds++rest) k).run su=ã (y,st',l)->
  ∃f θ' i l1,k.run f=ã (y,st',l1)/\f.tmps=su.tmps/\Inv w0 F R (f.cW i) θ' w/\Step R (su.cW Bb) θ (hp w) (f.cW i) θ' (hp w)/\(∀b,Bb b=su.boxes b->i b=f.boxes b)/\(∀p∈bx,∀b,look p.1 bm=ã b->i b=f.boxes b)/\(bx=[]->f=su/\θ'=θ/\i=Bb)
 | [],[],su,st',θ,Bb,L,ds,rest,A,k,l,hu,s,hN,hk,z,q,h=>by
  simp only [qW]at h;exact⟨su,θ,Bb,l,h,rfl,hu.inv,Step.refl _ _ _ _,fun _ h=>h,Ż,fun _=>⟨rfl,rfl,rfl⟩⟩
 | [],_::_,su,st',θ,Bb,L,ds,rest,A,k,l,hu,s,hN,hk,z,q,h=>by simp [qW,M.run]at h
 |_::_,[],su,st',θ,Bb,L,ds,rest,A,k,l,hu,s,hN,hk,z,q,h=>by simp [qW,M.run]at h
 |(m,k0)::bx,ks::bH,su,st',θ,Bb,L,ds,rest,A,k,l,hu,s,hN,hk,z,q,h=>by
  simp only [dF,bY]at hk;obtain⟨arr,ty,frz,d1,d2,A1,A2,rfl,rfl,h1,h2,h3,h4⟩:=hk;simp only [qW]at h;cases r:look m bm with
  |none=>simp [r,M.run]at h
  |some b=>
   simp only [r,Ä]at h;simp only [Ϗ,À]at s;have h3:=bq.tj (bm:=bm) (B':=fun b g=> ∃m∈N,look m bm=ã b/\bl m=g) (L':=L) (fun m hm g t b q=>⟨m,hm,q,t⟩) ks s.1 h3
   have hu:jl w0 F R (fun b g=> ∃m∈N,look m bm=ã b/\bl m=g) å Bb w su θ L:=⟨hu.inv,Ż,fun b g t _=>by
    obtain⟨m,hm,e1,e2⟩:=t;exact⟨(q m hm b e1).1,by rw [(q m hm b e1).2,e2]⟩⟩
   obtain⟨ai,aj,ak⟩:=bq.iO (nW bm ks) h3 L (pk b) 0;rw [Env.dm,<-ak,<-Env.dm]at z;obtain⟨cs,j,θ1,l1,h,b1,t1,u1,s1,r1,x1,o1⟩:=rz (nW bm ks) hu aj z.left h;obtain⟨cs0,l2,bj,h⟩:=M.Qs h;obtain⟨al,ao⟩:=q m (hN (m,k0) Ż) b r
   obtain⟨c0,ae⟩:=Ρ.1 al;obtain⟨i1,i2⟩:=u1.inv.Qo (b:=b) (cs0:=c0) (cs:=cs) (arr:=arr) (ty:=ty) (frz:=frz) (w':=w) ae rfl rfl rfl rfl (by rw [x1,ao];exact h1) h2 (fun _ _=>rfl) r1
   have u:=z.split (A1:=ai) (A2:=A2) (st1:=j.cW Bb) (θ1:=θ1) o1;have af: ∀g,cQ ((j.cW Bb).cW (aS Bb b (ã cs))) θ1 g->cQ (j.cW Bb) θ1 g:=by
    rintro g (⟨b',d,e⟩|t)
    .by_cases e':b'=b
     .subst e';exact .inl ⟨b',by show(Bb b').isSome=å;rw [ae];rfl,e⟩
     .have ag:(aS Bb b (ã cs) b').isSome=å:=d
      rw [aY _ _ e']at ag;exact .inl ⟨b',ag,e⟩
    .exact .inr t
   have u2:jl w0 F R pQ å (aS Bb b (ã cs)) w {j with boxes:=aS j.boxes b (ã cs)} θ1 (L++A1):=⟨i1,Ż,fun m g hm=>hm.elim⟩
   obtain⟨aq,ar,au,l3,h,t2,j1,j2,j3,j4, -⟩:=Rn bx bH u2 s.2 (fun p hp=>hN p (by simp [hp])) h4 ⟨u.nodup,fun g t=>⟨fun s=>(u.free g t).1 (af g s),(u.free g t).2⟩⟩ (fun m' av b' d=>by
    obtain⟨q1,q2⟩:=q m' av b' d;refine⟨?_,by rw [x1];exact q2⟩
    by_cases e:b'=b
    .subst e;simp [bC]
    .rw [aY _ _ e];exact q1) h
   refine⟨aq,ar,au,l3,h,t2.trans t1,j1,(s1.trans i2).trans j2,fun b' d=>j3 b' ?_,fun p hp b' d=> ?_,fun e=>by cases e⟩
   .by_cases e:b'=b
    .subst e;simp [bC]
    .simp only [aY _ _ e];rw [d,b1]
   .rcases Ê.1 hp with rfl|hp
    .have:b'=b:=by
      have e:look m bm=ã b':=d;rw [r]at e;exact(Α e).symm
     subst this;exact j3 b' (by simp [bC])
    .exact j4 p hp b' d
end
end Go.Ev
namespace Go.Ev
section
variable {P:Program} {w0 w:World} {F R:Nat→Prop} {st st':St} {θ:Asg} {l:Log}
theorem bY.blocks {H:Heap} {R:Nat->Prop} {B:Nat->Nat->Prop} {nal:Bool} {bl:Nat->Nat}: ∀ {bx:List (Nat×List CK)} {d:List (List CK)} {L:Env} {ds:List DV} {A:Env},bx.length=d.length->bY H R B nal bl L (dF bx d) ds A->
  ∀p∈bx,∃arr ty frz,H (bl p.1)=ã (.cells arr ty frz)/\gM arr.size frz/\ ∀v∈arr.toList,cx v=å
 | [],_,_,_,_,_,_=>Ż
 |(m,g)::bx,[],_,_,_,f,_=>by simp at f
 |(m,g)::bx,ks::d,_,_,_,f,h=>by
  simp only [dF,bY]at h;obtain⟨arr,ty,frz,d1,d2,A1,A2, -, -,i,k,q,r⟩:=h;intro p hp;rcases Ê.1 hp with rfl|hp
  .refine⟨arr,ty,frz,i,k, ?_⟩
   have: ∀(ks:List CK) (L:Env) (j:Nat) (ds:List DV) (vs:List Value) (A:Env),bq H R B nal L (pk m) j ks ds vs A-> ∀v∈vs,cx v=å:=by
    intro ks;induction ks with
    |nil=>intro L j ds vs A h v b;simp only [bq]at h;rw [h.2.1]at b;cases b
    |cons c cs ih=>
     intro L j ds vs A h v b;simp only [bq]at h;obtain⟨v0,s,d1,d2,A1,A2, -,rfl, -,t, -,u⟩:=h;rcases Ê.1 b with rfl|b
     .exact t
     .exact ih _ _ _ _ _ u v b
   exact this _ _ _ _ _ _ q
  .exact bY.blocks Ğ r p hp
def wc (E:Entry) (vals:Array Value) (u b:Value):Prop:=
 match E.back with
 |none=>E.lj=ä->b=u
 |some t=>u=.tuple #[]/\b=vals.getD t undef
theorem bL.less {θ:Asg} {w:World} {st sc:St} {f g:List Nat} (h:bL w0 F R θ w st sc (f++g)):bL w0 F R θ w st sc f:=
 ⟨h.inv,h.step,h.boxes,h.tmps,h.rm,(Ã.1 h.nodup).1,fun b d=>h.was b (κ _ d),fun b d=>h.free b (κ _ d)⟩
theorem Hb {β:Type} {θ:Asg} {w:World} {st st':St} {f:Nat->Nat} {k:M β} {y:β}: ∀(j:Nat) {sc:St} {fps:List Nat} {l:Log},bL w0 F R θ w st sc fps->(vN f j k).run sc=ã (y,st',l)->
  ∃g b p,k.run g=ã (y,st',p)/\bL w0 F R θ w st g (fps++b)
 |0,sc,fps,l,i,h=>⟨sc,[],l,h,by rw [Æ];exact i⟩
 |j+1,sc,fps,l,i,h=>by
  simp only [vN]at h;obtain⟨p,h⟩:=M.fR h;cases hd:(sc.ar (f j)).bj with
  |none=>simp only [hd]at h;exact Hb j i h
  |some d=>
   simp only [hd]at h;obtain⟨r,h⟩:=M.pK h;obtain⟨g,b,q,h,m⟩:=Hb j (i.trans (bL.kill i.inv hd)) h;exact⟨g,θ.fp (f j)++b,q,h,by rw [<-Ä];exact m⟩
theorem Hc {β:Type} {θ:Asg} {w:World} {st st':St} {bm:List (Nat×Nat)} {k:M β} {y:β}: ∀(bx:List (Nat×List CK)) {sc:St} {fps:List Nat} {l:Log},bL w0 F R θ w st sc fps->(vO bx bm k).run sc=ã (y,st',l)->
  ∃d f q,k.run d=ã (y,st',q)/\bL w0 F R θ w st d (fps++f)
 | [],sc,fps,l,g,h=>⟨sc,[],l,h,by rw [Æ];exact g⟩
 |(m,ks)::r,sc,fps,l,g,h=>by
  simp only [vO]at h;cases s:look m bm with
  |none=>simp only [s]at h;exact Hc r g h
  |some b=>
   simp only [s]at h;obtain⟨t,f1,q,h,i⟩:=Hb ks.length g h;obtain⟨j,f2,u,h,p⟩:=Hc r i h;exact⟨j,f1++f2,u,h,by rw [<-Ä];exact p⟩
theorem Hd {β:Type} {tab:Nat->Entry} {D:(e:Nat)->List DV->Option (bK (tab e).bz)} {e:Nat} {bs:List TV} {d:Nat} {K:TV->M β} {y:β} {vals:Array Value}
  {gl:bA} (bt:pR gl w0 F) (hD: ∀e ds r,D e ds=ã r->cR P gl (tab e) ds r) (hE:kE (tab e)=å) (hI:Inv w0 F R st θ w) (hv: ∀i c,bs[i]? =ã c->aV (hp w) R st θ c (vals.getD i undef)) (hlen:bs.length=vals.size)
  (h:(vP tab D e bs d K).run st=ã (y,st',l)):
  Calls P (tab e).f vals w fun
   |.returned u,w'=> ∃uv st2 θ' v l2,wc (tab e) vals u uv/\(K v).run st2=ã (y,st',l2)/\Inv w0 F R st2 θ' w'/\Step R st θ (hp w) st2 θ' (hp w')/\aV (hp w') R st2 θ' v uv/\
     ((tab e).bx=[]->st2.boxes=st.boxes/\ ∀b,(st.boxes b).isSome=å->hp w' (θ.bx b)=hp w (θ.bx b))/\
     ((tab e).lj=å-> ∃g arr ty frz,u=.pointer (ã ⟨g,0,none⟩)/\uv=.agg arr/\hp w' g=ã (.cells arr ty frz)/\gM arr.size frz/\ ¬cQ st2 θ' g/\(F g\/w0.heap.size<=g))
   |_,_=>False:=by
 unfold vP at h;have cp:=hE;simp only [kE,À,Î]at cp;obtain⟨dq,dr,ff,dt,a1,ao, -,ah⟩:=cp;have a1:((tab e).bx.map (·.1)).Nodup:=of_decide_eq_true a1
 have ao:=Â ao;have c0:eZ st θ ⟨[],[],[],å,[]⟩ []:=⟨fun m n v wv h=>é,fun m b h=>by simp [look]at h,fun m m' b h=>by simp [look]at h⟩
 obtain⟨s1,fh,AA,dA,l1,h,cq,e1,x1,c1,r1,bu⟩:=Rc hI (fun i=>vals.getD i undef) (tab e).ins (t:=0) (bL.refl hI) c0 (fun i c hi=>by simpa using hv i c hi) h
 obtain⟨a6,et,fj,h,ct,cu,a7,bw⟩:=Rf hI (tab e).bx cq c1 h;have r1:=r1.mono a7.rl a7.bl;rw [<-cu]at e1;have x1:=x1.trans a7;clear c1 cq a7 cu;obtain⟨s2,eu,AB,dB,l2,h,bh,e2,x2,c2,r2,dw⟩:=GY hI (tab e).bx (s:={a6 with dv:=[]}) ct ⟨bw.used,bw.bm,bw.inj⟩ h
 obtain⟨ag,ey,lf,h,z⟩:=Hc (tab e).bx bh h;have z:=z.less;clear bh;obtain⟨aq,h⟩:=M.aP h;obtain⟨cv,l3,h⟩:=Rm h;obtain⟨r,hr,h⟩:=M.eO h;simp only [Æ]at e1 e2;rw [e1,e2,th,th,Ù,Ù,Æ]at hr;simp only [Η]at z c2 r2;have cw:gp a6 s2:=⟨x2.bm,x2.cj,x2.jM,x2.pN⟩;let Fc:Nat->Prop:=fun b=>b∈AA.fps++AB.fps\/ ∃p∈(tab e).bx,b=fi θ s2.bm p.1
 have ad: ∀p∈(tab e).bx,∃b,look p.1 s2.bm=ã b/\(ag.boxes b).isSome=å/\fi θ s2.bm p.1=θ.bx b:=fun p hp=>by
  obtain⟨b,j,hs⟩:=dw p hp;exact⟨b,j,by rw [z.boxes];exact hs,by simp [fi,j]⟩
 have cy: ∀b,Fc b->cQ st θ b:=fun b j=>by
  rcases j with j|⟨p,hp,rfl⟩
  .exact z.was b j
  .obtain⟨b',h1,h2,h3⟩:=ad p hp
   rw [h3];exact z.owned (.inl ⟨b',h2,rfl⟩)
 have bc: ∀b,Fc b->F b\/w0.heap.size<=b:=fun b j=>hI.own b (cy b j)
 have bk: ∀b,R b-> ¬Fc b:=fun b j hf=>hI.vV (cy b hf) j
 have au: ∀k g,(ag.ar k).bj.isSome=å->g∈θ.fp k-> ¬Fc g:=fun k g hk hg hf=>by
  rcases hf with hf|⟨p,hp,rfl⟩
  .exact z.free g hf (.inr ⟨k,hk,hg⟩)
  .obtain⟨b',h1,h2,h3⟩:=ad p hp
   rw [h3]at hg;exact z.inv.bo b' k h2 hk hg
 have dx:rB gl (tab e) w Fc (Rl R θ s2.cj) (fi θ s2.bm) (fun i=>vals.getD i undef) dB dA AB AA:=by
  have hB:(å=å-> ∀m g,Bl θ s2.bm m g->eP (fi θ s2.bm) m g):=fun _ m g ⟨b,h1,h2⟩=>by simp [eP,fi,h1,h2]
  have cz:pR gl w Fc:=⟨χ bt.size hI.size,fun b j=>by
   obtain⟨g1,g2⟩:=bt.at_ b j;have dy:b<w0.heap.size:=Λ j bt.size;refine⟨fun hf=> ?_,(hI.same b dy g1).trans g2⟩
   rcases bc b hf with h|h
   .exact g1 h
   .omega⟩
  refine⟨r2.up hB dr,eJ.up hB dq (r1.mono cw.rl cw.bl), ?_,fun b j=> ?_,fun b j=> ?_,cz⟩
  .rw [Env.dm]
   refine Ã.2 ⟨List.perm_append_comm.nodup_iff.1 z.nodup, ?_,fun b j c hc e=> ?_⟩
   .rw [Ó,Γ]
    rw [Ó,Γ]at a1;refine Ü ?_ a1
    intro p q hp hq dz heq;obtain⟨b1,h1,h2,h3⟩:=ad p hp;obtain⟨b2,h4,h5,h6⟩:=ad q hq;rw [h3,h6]at heq;have:=z.inv.bb b1 b2 h2 h5 heq;subst this;exact dz (c2.inj _ _ _ h1 h4)
   .subst e
    obtain⟨p,hp,rfl⟩:=È.1 hc;obtain⟨b',h1,h2,h3⟩:=ad p hp;refine z.free _ (by rw [É]at j |-;exact j.symm) (.inl ⟨b',h2,h3.symm⟩)
  .rcases É.1 j with j|j
   .rw [Env.dm,É]at j
    exact .inl (É.2 j.symm)
   .obtain⟨p,hp,rfl⟩:=È.1 j
    exact .inr ⟨p,hp,rfl⟩
  .rcases j with j|⟨n,hn,j⟩
   .exact⟨Λ (hI.rd b j).1 hI.size,bk b j⟩
   .exact⟨z.inv.kz (.inr ⟨n,cv n hn,j⟩),au n b (cv n hn) j⟩
 have ca:=hD e _ r hr w Fc (Rl R θ s2.cj) (fi θ s2.bm) vals dB dA AB AA rfl (by rw [<-bu,hlen]) dx
 refine ca.mono fun en w' ho=> ?_
 cases en with
 |panicked _=>exact ho
 |outgrown=>exact ho
 |returned u0=>
  have aw: ∃u d1 A1 d2 A2,wc (tab e) vals u0 u/\(w.heap.size<=w'.heap.size/\(∀b,b<w.heap.size-> ¬Fc b->hp w' b=hp w b)/\w'.os=w.os/\w'.tape=w.tape/\w'.output=w.output)/\
    lg (tab e).bz r=d1++d2/\bU (hp w') (Rl R θ s2.cj) pQ å [] (ft 9000) (tab e).outs d1 u A1/\bY (hp w') (Rl R θ s2.cj) (eP (fi θ s2.bm)) å (fi θ s2.bm) A1 (dF (tab e).bx (tab e).bH) d2 A2/\
    ((A1++A2).fps++(tab e).bx.map fun p=>fi θ s2.bm p.1).Nodup/\(∀b∈(A1++A2).fps,Fc b\/w.heap.size<=b)/\
    ((tab e).lj=å-> ∃g arr ty frz,u0=.pointer (ã ⟨g,0,none⟩)/\u=.agg arr/\hp w' g=ã (.cells arr ty frz)/\gM arr.size frz/\g∉A1.fps/\(Fc g\/w.heap.size<=g)):=by
   simp only at ho;unfold wc;cases j:(tab e).back with
   |none=>
    rw [j]at ho;cases hn:(tab e).lj with
    |false=>
     rw [hn]at ho;obtain⟨o1,o2,o3,o4,o5,d1,A1,d2,A2,p1,p2,p3,p4,p5⟩:=ho;exact⟨u0,d1,A1,d2,A2,fun _=>rfl,⟨o1,o2,o3,o4,o5⟩,p1,p2,p3,p4,p5,fun h=>ņ⟩
    |true=>
     rw [hn]at ho;obtain⟨g,arr,ty,frz,d1,A1,q1,q2,q3,q4,q5,o1,o2,o3,o4,o5,p1,p2,p3,p4⟩:=ho;rw [hn]at ah;simp only [Τ,Ý,À,Ζ]at ah;have cg:=ah.1;have eb:(tab e).bH=[]:=by rw [cg]at ao;exact Õ ao.symm
     exact⟨.agg arr,d1,A1,[],[],(fun h=>ņ),⟨o1,o2,o3,o4,o5⟩,by rw [p1,Æ],p2,by rw [cg,eb];exact⟨rfl,rfl⟩,by rw [cg,Æ];simpa using p3,by rw [Æ];exact p4,fun _=>⟨g,arr,ty,frz,q1,rfl,q2,q3,q5,q4⟩⟩
   |some t=>
    rw [j]at ho;obtain⟨e0,o1,o2,o3,o4,o5,d1,A1,d2,A2,p1,p2,p3,p4,p5⟩:=ho;refine⟨_,d1,A1,d2,A2,⟨e0,rfl⟩,⟨o1,o2,o3,o4,o5⟩,p1,p2,p3,p4,p5,fun h=> ?_⟩
    rw [h,j]at ah;simp at ah
  obtain⟨u,d1,A1,d2,A2,ec,⟨o1,o2,o3,o4,o5⟩,ef,k1,k2,c8,bp,aw⟩:=aw;have eg:bU (hp w') R pQ å [] (ft 9000) (tab e).outs d1 u A1/\bY (hp w') R (eP (fi θ s2.bm)) å (fi θ s2.bm) A1 (dF (tab e).bx (tab e).bH) d2 A2:=by
   rw [ζ]at aq;rcases aq with hl|hl
   .have hl:s2.cj=[]:=by simpa using hl
    have c9: ∀b,Rl R θ s2.cj b->R b:=fun b j=>by
     rw [hl]at j;exact j.resolve_right Ń
    exact⟨k1.mono c9 (fun _ _ h=>h),k2.mono c9 (fun _ _ h=>h)⟩
   .rw [Ø,Ï]at hl
    exact⟨k1.fG hl.1,k2.fG hl.2⟩
  obtain⟨k1,k2⟩:=eg;let ps:List Nat:=(tab e).bx.filterMap fun p=>look p.1 s2.bm
  let Bb:Nat->Option (List Cell):=fun b=>if b∈ps then(match hp w' (θ.bx b)with|some (.cells arr _ _)=>ã (Κ arr.size .undef)|_=>none)else ag.boxes b
  have da:=bY.blocks ao k2;have hB: ∀b,(Bb b=ag.boxes b/\b∉ps)\/((ag.boxes b).isSome=å/\ ∃arr ty frz,Bb b=ã (Κ arr.size .undef)/\hp w' (θ.bx b)=ã (.cells arr ty frz)/\gM arr.size frz/\ ∀v∈arr.toList,cx v=å):=by
   intro b;by_cases j:b∈ps
   .right
    obtain⟨p,hp,ax⟩:=Β.1 j;obtain⟨b',h1,h2,h3⟩:=ad p hp;rw [ax]at h1;cases h1;obtain⟨arr,ty,frz,j1,j2,j3⟩:=da p hp;rw [h3]at j1;exact⟨h2,arr,ty,frz,by simp [Bb,j,j1],j1,j2,j3⟩
   .left;exact⟨by simp [Bb,j],j⟩
  have cl:=z.inv.agA (w':=w') (Fc:=Fc) (Bb:=Bb) o1 o3 o4 o5 o2 bc bk au (fun b=>(hB b).imp (fun ⟨h1,h2⟩=>⟨h1,fun hs hf=>by
   rcases hf with hf|⟨p,hp,he⟩
   .exact z.free _ hf (.inl ⟨b,hs,rfl⟩)
   .obtain⟨b',j1,j2,j3⟩:=ad p hp
    rw [j3]at he;have:=z.inv.bb b b' hs j2 he;subst this;exact h2 (Β.2 ⟨p,hp,j1⟩)⟩) id)
  obtain⟨i1,i2⟩:=cl;rw [ef]at h;obtain⟨eh,ei,dc⟩:=k1.iO [] (ft d);have ay: ∀g,cQ (ag.cW Bb) θ g->cQ ag θ g:=by
   rintro g (⟨b,j,e⟩|hg)
   .have j:(Bb b).isSome=å:=j
    rcases hB b with⟨h1, -⟩|⟨h1, -⟩
    .exact .inl ⟨b,by rw [<-h1];exact j,e⟩
    .exact .inl ⟨b,h1,e⟩
   .exact .inr hg
  have cm:fy w0 F (ag.cW Bb) θ (Env.fps (A1++A2)):=by
   refine⟨(Ã.1 c8).1,fun g hg=>⟨fun ho=> ?_, ?_⟩⟩
   .have ho:=ay g ho
    rcases bp g hg with hf|az
    .rcases hf with hf|⟨p,hp,rfl⟩
     .exact z.free g hf ho
     .exact(Ã.1 c8).2.2 _ hg _ (È.2 ⟨p,hp,rfl⟩) rfl
    .have:=z.inv.kz ho
     omega
   .rcases bp g hg with hf|az
    .exact bc g hf
    .exact .inr (χ z.inv.size az)
  have aj:fy w0 F (ag.cW Bb) θ (Env.fps (eh++A2)):=by
   rw [Env.dm,dc,<-Env.dm];exact cm
  have u0:jl w0 F R pQ å Bb w' ag θ []:=⟨i1,Ż,fun m g hm=>hm.elim⟩
  obtain⟨x,ej,θ1,l4,h,b1,t1,u1,a6,ek,xb,dd⟩:=Rb (tab e).outs u0 ei aj.left h;have bf:=aj.split (st1:=ej.cW Bb) (θ1:=θ1) dd;rw [<-Æ d2]at h;obtain⟨bg,el,de,l5,h,t2,j1,j2,j3,j4,j5⟩:=Rn (bl:=fi θ s2.bm) (N:=(tab e).bx.map (·.1)) (tab e).bx (tab e).bH (u1.any A1) (Î.2 dt) (fun p hp=>È.2 ⟨p,hp,rfl⟩) k2 bf (fun m hm b ax=>by
   obtain⟨p,hp,rfl⟩:=È.1 hm;obtain⟨b',q1,q2,q3⟩:=ad p hp;rw [ax]at q1;cases q1;refine⟨?_,by rw [xb,q3]⟩
   rcases hB b with⟨h1, -⟩|⟨-,arr,ty,frz,h1, -⟩
   .rw [h1];exact q2
   .rw [h1];rfl) h
  have eo:de=bg.boxes:=by
   funext b
   by_cases j:b∈ps
   .obtain⟨p,hp,ax⟩:=Β.1 j
    exact j4 p hp b ax
   .exact j3 b (by rw [b1];simp [Bb,j])
  have df:bg.cW de=bg:=by rw [eo];rfl
  rw [df]at j1 j2;refine⟨u,bg,el,x,l5,ec,h,j1,((z.step.trans i2).trans a6).trans j2,aV.step j2 _ _ ek,fun br=>⟨?_,fun b j=> ?_⟩,fun hn=> ?_⟩
  rotate_left 2
  .obtain⟨g,arr,ty,frz,q1,q2,q3,q4,q5,q6⟩:=aw hn
   refine⟨g,arr,ty,frz,q1,q2,q3,q4,fun ho=> ?_, ?_⟩
   .rw [hn]at ah
    simp only [Τ,Ý,À,Ζ]at ah;obtain⟨e1,e2,e3⟩:=j5 ah.1;rw [<-df,e1,e2,e3]at ho;rcases dd g ho with ho|ho
    .have ho:=ay g ho
     rcases q6 with(hf|⟨p,hp, -⟩)|az
     .exact z.free g hf ho
     .rw [ah.1]at hp;cases hp
     .have:=z.inv.kz ho
      omega
    .rw [dc]at ho
     exact q5 ho
   .rcases q6 with hf|az
    .exact bc g hf
    .exact .inr (χ z.inv.size az)
  .rw [(j5 br).1,b1,z.boxes]
  .refine o2 _ (hI.kz (.inl ⟨b,j,rfl⟩)) fun hf=> ?_
   rcases hf with hf|⟨p,hp, -⟩
   .exact z.free _ hf (.inl ⟨b,by rw [z.boxes];exact j,rfl⟩)
   .rw [br]at hp;cases hp
theorem agB (hI:Inv w0 F R st θ w) {n v:Nat} {d0:DV} (hd:(st.ar n).bj=ã d0) (hv:v=(st.ar n).aH) {u:Value} (ha:θ.ob n=u) {st2:St} {θ':Asg} {w':World} (ae:Inv w0 F R st2 θ' w') (hs:Step R st θ (hp w) st2 θ' (hp w'))
  (ah:st2.boxes=st.boxes) (ai: ∀b,(st.boxes b).isSome=å->hp w' (θ.bx b)=hp w (θ.bx b)) {r y:TV} (hr:aV (hp w') R st2 θ' r u) (h:(GA n v (st.ar n).wv d0 r).run st2=ã (y,st',l)):
  ∃p,Inv w0 F R st' p w'/\Step R st θ (hp w) st' p (hp w')/\y=.aM []:=by
 unfold GA at h;split at h
 .rename_i c
  simp only [aV]at hr;obtain⟨x,st3,fps,l1,h,f,aj,af⟩:=vX ae hr.1 h;obtain⟨hlen,h⟩:=M.aP h;have hlen:=Â hlen;obtain⟨l2,h⟩:=M.fR h;obtain⟨ak,h⟩:=M.aP h;obtain⟨l3,h⟩:=M.pK h;obtain⟨rfl,rfl⟩:=M.gn h;have s3:=hs.trans f.step;let p:Asg:=⟨θ'.bx,aS θ'.ob n u,aS θ'.fp n fps⟩
  have q:Step R st θ (hp w) {st3 with ar:=aS st3.ar n ⟨v,(st.ar n).wv+1,ã ⟨d0.c,x⟩⟩} p (hp w'):=by
   refine⟨s3.rd,fun b t=>s3.bx b t,fun k=> ?_⟩
   by_cases e:k=n
   .subst e
    refine .inr (.inr ⟨by simp only [bC];exact hv,by simp only [bC];omega,by rw [hd];rfl,fun d' h'=> ?_⟩)
    simp only [bC,Å]at h';subst h';exact⟨by show aS θ'.ob k u k=θ.ob k;rw [bC,ha],d0,hd,rfl,hlen⟩
   .have:=s3.ob k
    show(aS st3.ar n _ k=st.ar k/\(_->aS θ'.ob n u k=θ.ob k/\aS θ'.fp n fps k=θ.fp k/\_))\/_;simp only [aY _ _ e];rcases this with h|h|⟨h1,h2,h3,h4⟩
    .exact .inl h
    .exact .inr (.inl h)
    .refine .inr (.inr ⟨h1,h2,h3,fun d' h'=> ?_⟩)
     obtain⟨q1,q2⟩:=h4 d' h';refine⟨?_,q2⟩
     show aS θ'.ob n u k=θ.ob k;rw [aY _ _ e];exact q1
  have m: ∀g∈fps,¬cQ st3 θ' g:=f.free
  refine⟨p,⟨f.inv.size,f.inv.same,f.inv.os,f.inv.tape,f.inv.out,f.inv.rd,fun b cs s=> ?_,fun k d hk=> ?_,fun b b'=>f.inv.bb b b',fun b k t hk=> ?_,fun k k' g hk z i j=> ?_,fun g i=> ?_⟩,q,rfl⟩
  .have s:st3.boxes b=ã cs:=s
   rw [f.boxes,ah]at s;obtain⟨arr,ty,frz,k1,k2,k3⟩:=hI.boxes b cs s;have t:(st.boxes b).isSome=å:=by rw [s];rfl
   refine⟨arr,ty,frz, ?_,k2,aJ.step q _ _ k3⟩
   show hp w' (θ'.bx b)=_;rw [(hs.bx b t).2,ai b t];exact k1
  .by_cases e:k=n
   .subst e
    simp only [bC,Å]at hk;subst hk;refine⟨aj, ?_, ?_⟩
    .show aE (hp w') R å _ (aS θ'.ob k u k) (aS θ'.fp k fps k)
     rw [bC,bC];exact af
    .show(aS θ'.fp k fps k).Nodup
     rw [bC];exact f.nodup
   .simp only [aY _ _ e]at hk
    obtain⟨q1,q2,q3⟩:=f.inv.ar k d hk;refine⟨q1, ?_, ?_⟩
    .show aE (hp w') R å _ (aS θ'.ob n u k) (aS θ'.fp n fps k)
     rw [aY _ _ e,aY _ _ e];exact q2
    .show(aS θ'.fp n fps k).Nodup
     rw [aY _ _ e];exact q3
  .show θ'.bx b∉aS θ'.fp n fps k
   by_cases e:k=n
   .subst e
    rw [bC];exact fun hm=>m _ hm (.inl ⟨b,t,rfl⟩)
   .rw [aY _ _ e]
    simp only [aY _ _ e]at hk;exact f.inv.bo b k t hk
  .have i:g∈aS θ'.fp n fps k:=i
   have j:g∈aS θ'.fp n fps k':=j;by_cases e:k=n<;>by_cases e':k'=n
   .rw [e,e']
   .subst e
    rw [bC]at i;rw [aY _ _ e']at j;simp only [aY _ _ e']at z;exact absurd (.inr ⟨k',z,j⟩) (m _ i)
   .subst e'
    rw [bC]at j;rw [aY _ _ e]at i;simp only [aY _ _ e]at hk;exact absurd (.inr ⟨k,hk,i⟩) (m _ j)
   .rw [aY _ _ e]at i
    rw [aY _ _ e']at j;simp only [aY _ _ e]at hk;simp only [aY _ _ e']at z;exact f.inv.oo k k' g hk z i j
  .rcases i with⟨b,t,e⟩|⟨k,hk,i⟩
   .exact f.inv.own g (.inl ⟨b,t,e⟩)
   .have i:g∈aS θ'.fp n fps k:=i
    by_cases e:k=n
    .subst e
     rw [bC]at i;exact ae.own g (f.was g i)
    .rw [aY _ _ e]at i
     simp only [aY _ _ e]at hk;exact f.inv.own g (.inr ⟨k,hk,i⟩)
 .simp [M.run]at h
theorem Ak {β:Type} {y:β}: ∀(vs:List TV) {k:List (List Cell)->M β} {l:Log},(qY vs k).run st=ã (y,st',l)-> ∃d g,(k d).run st=ã (y,st',g)
 | [],_,l,h=>⟨[],l,h⟩
 |v::vs,k,l,h=>by
  have e:qY (v::vs) k=(match v with|.one (.pb b _)=>.rb b fun cs=>qY vs fun r=>k (cs::r)|_=>qY vs fun r=>k ([]::r)):=by
   cases v with
   |one c=>cases c<;>rfl
   |_=>rfl
  rw [e]at h;split at h
  .obtain⟨cs,g, -,h⟩:=M.nY h
   obtain⟨d,f,h⟩:=Ak vs h;exact⟨_,f,h⟩
  .obtain⟨d,f,h⟩:=Ak vs h
   exact⟨_,f,h⟩
theorem agC {tab:Nat->Entry} {iL:FuncId->List Nat} {D:(e:Nat)->List DV->Option (bK (tab e).bz)} {f:FuncId} {p:List TV} {d:Nat} {v:TV} {vals:Array Value}
  {gl:bA} (s:pR gl w0 F) (hD: ∀e ds r,D e ds=ã r->cR P gl (tab e) ds r) (hE: ∀e,kE (tab e)=å) (hI:Inv w0 F R st θ w) (hv: ∀i c,p[i]? =ã c->aV (hp w) R st θ c (vals.getD i undef)) (hlen:p.length=vals.size)
  (h:(ra tab iL D f p d).run st=ã (v,st',l)):
  Calls P f vals w fun
   |.returned u,w'=> ∃θ',Inv w0 F R st' θ' w'/\Step R st θ (hp w) st' θ' (hp w')/\aV (hp w') R st' θ' v u
   |_,_=>False:=by
 unfold ra at h;obtain⟨bs,l0,h⟩:=Ak p h;split at h
 .simp [M.run]at h
 rename_i e he;obtain⟨hf,h⟩:=M.aP h;have hf:=Â hf;rw [<-hf];split at h
 .rename_i hb
  split at h
  .rename_i hn
   refine(Hd s hD (hE e) hI hv hlen h).mono fun en w' j=> ?_
   cases en with
   |panicked _=>exact j
   |outgrown=>exact j
   |returned u=>
    obtain⟨uv,st2,θ',x,l2,k,m,z,h4,q, -⟩:=j;obtain⟨rfl,rfl⟩:=M.gn m;unfold wc at k;rw [hb]at k;have k:=k hn;subst k;exact⟨θ',z,h4,q⟩
  .rename_i hn
   refine(Hd s hD (hE e) hI hv hlen h).mono fun en w' j=> ?_
   cases en with
   |panicked _=>exact j
   |outgrown=>exact j
   |returned u=>
    obtain⟨uv,st2,θ',x,l2,k,m,z,h4,q, -,h6⟩:=j;obtain⟨g,arr,ty,frz,q1,q2,q3,q4,q5,q6⟩:=h6 hn;subst q2;unfold Qj at m;split at m
    .rename_i cs
     obtain⟨au,l3,m⟩:=M.GH m;obtain⟨rfl,rfl⟩:=M.gn m;simp only [aV]at q;obtain⟨a1,e1,q⟩:=q;cases e1;obtain⟨i1,i2⟩:=z.Rg au q3 q4 q q5 q6;refine⟨_,i1,h4.trans i2, ?_⟩
     rw [q1];simp [aV,aB,bC,cx]
    .simp [M.run]at m
 .rename_i t hb
  split at h
  .rename_i n aH ht
   obtain⟨l1,h⟩:=M.fR h;split at h
   .rename_i d0 hd
    obtain⟨b,h⟩:=M.aP h;have b:=Â b;have ha:=hv t _ ht;simp only [aV,aB]at ha;have ha:=(ha.1.2 b (by rw [hd];rfl)).symm
    have ae:(tab e).bx=[]:=by
     have af:=hE e;simp only [kE,À,Î]at af;have:=af.2.2.2.2.2.2;rw [hb]at this;simp only [σ,Ý,À,Ζ]at this;exact this.1.1
    refine(Hd s hD (hE e) hI hv hlen h).mono fun en w' j=> ?_
    cases en with
    |panicked _=>exact j
    |outgrown=>exact j
    |returned u=>
     obtain⟨uv,st2,θ',x,l2,k,m,z,h4,q,h6, -⟩:=j;unfold wc at k;rw [hb]at k;obtain⟨rfl,rfl⟩:=k;obtain⟨av,aw⟩:=h6 ae;obtain⟨ax,q1,q2,rfl⟩:=agB hI hd b ha z h4 av aw q m;exact⟨ax,q1,q2,by simp only [aV,ch];exact⟨#[],rfl,rfl⟩⟩
   .simp [M.run]at h
  .simp [M.run]at h
end
end Go.Ev
namespace Go.Ev
def tl (P:Program) (w0:World) (F R:Nat->Prop) (st:St) (θ:Asg) (w:World) (o:Oper) (a:Act) (v:TV) (st':St):Prop:=
 ∀(K:Act->World->Prop) (Q:Exit->Act->World->Prop),(∀u w' θ',Inv w0 F R st' θ' w'->Step R st θ (hp w) st' θ' (hp w')->aV (hp w') R st' θ' v u->K (a.put o.dst u) w')->o.wp P a w K Q
section
variable {P:Program} {T:TypeId→Option TyI} {w0 w:World} {F R:Nat→Prop} {st st':St} {θ:Asg} {a:Act} {o:Oper} {v:TV} {l:Log}
theorem aZ.ok (h:aZ P w0 F R st θ w o a v st'):tl P w0 F R st θ w o a v st':=by
 intro K Q d;obtain⟨u,w',θ',b,f,g,i⟩:=h.out;unfold Oper.wp;rcases b with b|⟨b,rfl⟩
 all_goals grind [Oper.upon_value,Oper.upon_skip]
theorem agD {f:FuncId} {vals:Array Value} (he:(execOp a.eval o).run P w=.ok (.enter f vals) w)
  (b:Calls P f vals w fun
   |.returned u,w'=> ∃θ',Inv w0 F R st' θ' w'/\Step R st θ (hp w) st' θ' (hp w')/\aV (hp w') R st' θ' v u
   |_,_=>False):tl P w0 F R st θ w o a v st':=by
 intro K Q d;unfold Oper.wp;rw [he];refine b.mono fun e w' h=> ?_
 grind
def Enters (P:Program) (f:FuncId):Prop:= ∃fn,P.funcs[f]? =ã fn/\(fn.name== "runtime.NumGoroutine")=ä/\fn.body.isNone=ä
theorem agE {f:FuncId} (h:Enters P f) (vals:Array Value):(callFunc f vals).run P w=.ok (.enter f vals) w:=by
 obtain⟨fn,d,g,i⟩:=h;cases j:fn.body with
 |none=>simp_all
 |some b=>simp_all [callFunc]
theorem aJ.vs {H:Heap}: ∀ {cs:List Cell} {vs:List Value},aJ H R st θ cs vs->ch H R st θ (cs.map .one) vs
 | [],vs,h=>by assumption
 |c::cs,vs,h=>by
  obtain⟨v,b,rfl,d,f⟩:=h;exact⟨v,b,rfl,⟨d.1,.inr d.2⟩,f.vs⟩
theorem ch.append {H:Heap}: ∀ {cs ds:List TV} {vs us:List Value},ch H R st θ cs vs->ch H R st θ ds us->ch H R st θ (cs++ds) (vs++us)
 | [],ds,vs,us,h,k=>by simp_all [ch]
 |c::cs,ds,vs,us,h,k=>by
  obtain⟨v,b,rfl,d,f⟩:=h;exact⟨v,b++us,rfl,d,f.append k⟩
theorem ch.length {H:Heap}: ∀ {cs:List TV} {vs:List Value},ch H R st θ cs vs->cs.length=vs.length
 | [],vs,h=>by simp_all [ch]
 |c::cs,vs,h=>by
  obtain⟨v,b,rfl, -,d⟩:=h;simp [d.length]
theorem agF {tab:Nat->Entry} {iL:FuncId->List Nat} {D:(e:Nat)->List DV->Option (bK (tab e).bz)} (k:Ok P T) {gl:bA} (au:pR gl w0 F) (hD: ∀e ds r,D e ds=ã r->cR P gl (tab e) ds r) (hE: ∀e,kE (tab e)=å) (hF: ∀e,Enters P (tab e).f)
  (hI:Inv w0 F R st θ w) (hT:Tm (hp w) R st θ a) (h:(dq T (ra tab iL D) (bE st) o).run st=ã (v,st',l)):tl P w0 F R st θ w o a v st':=by
 have aj: ∀(f:FuncId) (al:List TV) (vals:List Value) (d:Nat),ch (hp w) R st θ al vals->(execOp a.eval o).run P w=(callFunc f vals.toArray).run P w->(ra tab iL D f al d).run st=ã (v,st',l)->tl P w0 F R st θ w o a v st':=by
  intro f al vals d hr he h;have a1:Enters P f:=by
   have h':=h;unfold ra at h';obtain⟨bs,l0,h'⟩:=Ak al h';split at h'
   .grind [M.run]
   .rename_i e _
    obtain⟨hf, -⟩:=M.aP h';grind [Â]
  refine agD (f:=f) (vals:=vals.toArray) (by grind [agE]) (agC au hD hE hI (fun i c hi=> ?_) (by simpa using hr.length) h)
  obtain⟨u,hu,a6⟩:=hr.get hi;simp_all
 cases j:o.op with
 |move x=>simp only [dq,j]at h;exact(QB hI hT (.inl j) h).ok
 |assign x=>simp only [dq,j]at h;exact(QB hI hT (.inr j) h).ok
 |pick c x y=>
  simp only [dq,j]at h;split at h
  .rename_i b hb;exact(aeM hI hT j hb h).ok
  simp_all [M.run]
 |alloc t=>
  simp only [dq,j]at h;split at h
  .rename_i i hi;exact(aeN k hI j hi h).ok
  simp_all [M.run]
 |box t x=>
  simp only [dq,j]at h;split at h
  .exact(aeO hI hT j h).ok
  simp_all [M.run]
 |build t parts=>
  simp only [dq,j]at h;split at h
  .rename_i fs sz a8 z c q hi;exact(afN k hI hT j hi rfl h).ok
  simp_all [M.run]
 |buildSlice t len parts=>
  simp only [dq,j]at h;split at h
  .rename_i c hc;exact(afM k hI hT j hc h).ok
  simp_all [M.run]
 |load t x=>
  simp only [dq,j]at h;split at h
  .rename_i i hi;exact(aeL k hI hT j hi h).ok
  simp_all [M.run]
 |store t x y=>
  simp only [dq,j]at h;split at h
  .rename_i i hi;exact(afH k hI hT j hi h).ok
  simp_all [M.run]
 |nilCheck x=>
  simp only [dq,j]at h;split at h
  all_goals first
   |(rename_i hx;exact(aeP hI hT j hx trivial h).ok)
   |grind [M.run]
 |binOp op t x y t'=>
  simp only [dq,j]at h;exact(aeJ k hI hT j h).ok
 |unOp op t x=>
  simp only [dq,j]at h;split at h
  .rename_i hx;exact(aeQ hI hT j hx h).ok
  .rename_i hx;exact(aeR hI hT j hx h).ok
  simp_all [M.run]
 |convert s t x=>
  simp only [dq,j]at h;split at h
  .rename_i h1 h2 h3;exact(aeS k hI hT j h1 h2 h3 h).ok
  .rename_i h1 h2 h3
   split at h
   .rename_i c hc;exact(afP k hI hT j h1 hc h3 h).ok
   simp_all [M.run]
  .rename_i h1 h2 h3;exact(afO k hI hT j h2 h3 h).ok
  .rename_i h1 h2 h3;exact(aeT k hI hT j h1 h2 h3 h).ok
  simp_all [M.run]
 |makeFunc fn x y=>
  cases fn with
  |func f=>
   simp only [dq,j]at h;split at h
   .rename_i h1 h2;exact(afC hI hT j h1 h2 h).ok
   simp_all [M.run]
  |_=>simp_all [dq,M.run]
 |makeSlice t x y=>
  simp only [dq,j]at h;split at h
  .rename_i h1 h2 h3;exact(afQ k hI hT j h1 h2 h3 h).ok
  simp_all [M.run]
 |slice t x lo hi mx=>
  cases mx with
  |some m=>
   cases lo with
   |some _=>simp_all [dq,M.run]
   |none=>
    cases hi with
    |none=>simp_all [dq,M.run]
    |some hi=>
     simp only [dq,j]at h;split at h
     .rename_i h1 h2 h3;exact(afB k hI hT j h1 h2 h3 h).ok
     simp_all [M.run]
  |none=>simp only [dq,j]at h;exact(afA k hI hT j h).ok
 |fieldAddr s x f=>
  simp only [dq,j]at h;split at h
  .rename_i hi
   split at h
   .rename_i hf;exact(aeW k hI hT j hi rfl hf h).ok
   simp_all [M.run]
  simp_all [M.run]
 |field s x f=>
  simp only [dq,j]at h;split at h
  .rename_i hi hx
   split at h
   .rename_i hf
    split at h
    .rename_i ti av;exact(aeX k hI hT j hi rfl hf av hx h).ok
    simp_all [M.run]
   simp_all [M.run]
  simp_all [M.run]
 |indexAddr t x i=>simp only [dq,j]at h;exact(aeZ k hI hT j h).ok
 |index t x i=>simp only [dq,j]at h;exact(aeU k hI hT j h).ok
 |extract x i=>
  simp only [dq,j]at h;split at h
  .rename_i vs hx
   split at h
   .rename_i y hy;exact(aeY hI hT j hx hy h).ok
   simp_all [M.run]
  simp_all [M.run]
 |call c=>
  simp only [dq,j]at h;split at h
  .rename_i hc
   split at h
   .rename_i h1 h2;exact(aeV k hI hT j hc h1 h2 h).ok
   simp_all [M.run]
  .rename_i hc
   split at h
   .rename_i h1 h2
    split at h
    .rename_i ct aw;exact(afU k hI hT j hc h1 h2 aw h).ok
    simp_all [M.run]
   simp_all [M.run]
  .rename_i hc
   split at h
   .rename_i h1
    split at h
    .rename_i h2 h3;exact(afD hI hT j hc h1 h2 h3 h).ok
    simp_all [M.run]
   simp_all [M.run]
  .rename_i hc
   split at h
   .rename_i h1
    split at h
    .rename_i h2 h3;exact(afE hI hT j hc h1 h2 h3 h).ok
    simp_all [M.run]
   simp_all [M.run]
  .rename_i f hc
   refine aj f _ (c.args.toList.map a.eval) _ (Ad hT _) ?_ h
   have hm:(c.args.toList.map a.eval).toArray=c.args.map a.eval:=ϙ Ż
   simp_all [execOp,resolve,Act.eval,Deferred.ofValue,invoke]
  .rename_i g bb hc
   split at h
   .rename_i f p q hx
    have hr:=(dK hT hx Ż).1
    simp only [aB]at hr;obtain⟨va,vb,e,h1,h2⟩:=hr;refine aj f _ (va.toList++(c.args.toList.map a.eval++vb.toList)) _ (h1.vs.append ((Ad hT _).append h2.vs)) ?_ h
    have hm:(va.toList++(c.args.toList.map a.eval++vb.toList)).toArray=va++c.args.map a.eval++vb:=ϙ Ż
    grind [execOp,resolve,Deferred.ofValue,invoke]
   simp_all [M.run]
  simp_all [M.run]
 |_=>simp_all [dq,M.run]
end
end Go.Ev
namespace Go.Ev
def kF (all:Array Oper) (o:Oper) (st:St):Option Bool:=
 match o.guard with
 |none=>ã å
 |some (j,want)=>match(all[j]?).bind (·.dst)with
  |some t=>match st.tmps t with
   |.one (.b x)=>ã (x==want)
   |.aM []=>ã ä
   |_=>none
  |none=>none
def lu (opf:(Operand->TV)->Oper->M TV) (all:Array Oper) (o:Oper) (st:St):Option (St×Log):=
 match kF all o st with
 |some å=>((opf (bE st) o).run st).map fun r=>(r.2.1.put o.dst r.1,r.2.2)
 |some ä=>ã (st.put o.dst (.aM []),.none)
 |none=>none
def gP (opf:(Operand->TV)->Oper->M TV) (all:Array Oper):List Oper->St->List Log->St->Prop
 | [],st,ls,st'=>ls=[]/\st'=st
 |o::rest,st,ls,st'=> ∃st1 l b,ls=l::b/\lu opf all o st=ã (st1,l)/\gP opf all rest st1 b st'
theorem agG {α:Type} (f:Nat->α) (k:Nat):aS f k (f k)=f:=by
 grind [bC,aY]
theorem He {st:St} {t:Nat} {x:Bool} (h:st.tmps t=.one (.b x)):know st t x=st:=by
 unfold know;rw [<-h,agG]
section
variable {R':Type} {opf:(Operand→TV)→Oper→M TV} {all:Array Oper}
theorem agH {o:Oper} {st:St} {yes no:St->Option R'} {r:R'} (h:Gw all o st yes no=ã r):
  (kF all o st=ã å/\yes st=ã r)\/(kF all o st=ã ä/\no st=ã r):=by
 unfold Gw at h;split at h
 .simp_all [kF]
 .rename_i j want d
  split at h
  .split at h
   .rename_i x b
    have hw:kF all o st=ã (x==want):=by simp_all [kF]
    cases x<;>cases want<;>simp at h<;>rw [He b]at h<;>rw [hw]
    all_goals simp_all
   all_goals simp_all [kF]
  grind
def oc:List Log->List Log->Prop
 | [],[]=>True
 |l::ls,l'::ls'=>l.sub l'/\oc ls ls'
 |_,_=>False
theorem Al: ∀(rest:List Oper) {st:St} {acc:List Log} {K:St->List Log->Option R'} {r:R'},qS opf all rest st acc K=ã r->
  ∃st' ls ls',gP opf all rest st ls st'/\oc ls ls'/\K st' (ls'.reverse++acc)=ã r
 | [],st,acc,K,r,h=>by
  exact⟨st,[],[],⟨rfl,rfl⟩,trivial,h⟩
 |o::rest,st,acc,K,r,h=>by
  rcases agH h with⟨hw,h⟩|⟨hw,h⟩
  .obtain⟨v,st1,f,l',g,h, -,i⟩:=M.kZ _ _ _ _ _ h
   obtain⟨st',ls,ls',b,d,j⟩:=Al rest h;refine⟨st',f::ls,l'::ls',⟨_,f,ls,rfl, ?_,b⟩,⟨i,d⟩,ť⟩
   simp_all [lu]
  .obtain⟨st',ls,ls',b,d,j⟩:=Al rest h
   refine⟨st',.none::ls,.none::ls',⟨_,.none,ls,rfl, ?_,b⟩,⟨⟨fun _ h=>h,fun _ h=>h⟩,d⟩,ť⟩
   grind [lu]
end
section
variable {P:Program} {w0 w:World} {F R:Nat→Prop} {st st':St} {θ:Asg} {a:Act} {opf:(Operand→TV)→Oper→M TV} {all:Array Oper} {Q:Exit→Act→World→Prop}
theorem Tm.step {H H':Heap} {st':St} {θ':Asg} (s:Step R st θ H st' θ' H') (b:st'.tmps=st.tmps) (h:Tm H R st θ a):Tm H' R st' θ' a:=fun t=>by
 rw [b];exact aV.step s _ _ (h t)
theorem jn (st:St) (d:Option Nat) (v:TV):(st.put d v).boxes=st.boxes/\(st.put d v).ar=st.ar:=by cases d<;>exact⟨rfl,rfl⟩
theorem Am (H:Heap) (st:St) (θ:Asg) (d:Option Nat) (x:TV):Step R st θ H (st.put d x) θ H:=
 ⟨fun _ _=>rfl,fun b f=>⟨by simp_all [jn],rfl⟩,fun k=>.inl ⟨by simp [jn],fun _=>⟨rfl,rfl,fun _ _=>rfl⟩⟩⟩
theorem Inv.put (h:Inv w0 F R st θ w) (d:Option Nat) (x:TV):Inv w0 F R (st.put d x) θ w:=by
 have e:=jn st d x;refine h.next (Am (hp w) st θ d x) (Ξ _) rfl rfl rfl (fun _ _ e=>absurd rfl e) (fun b cs j=>.inl ⟨ť,rfl⟩) (fun k dd hd=>.inl ⟨ť,rfl,rfl,fun _ _=>rfl⟩) ?_ ?_ ?_ ?_
 .rw [e.1];exact h.bb
 .rw [e.1,e.2];exact h.bo
 .rw [e.2];exact h.oo
 .rintro g (⟨b,i,f⟩|⟨k,hk,f⟩)
  .rw [e.1]at i;exact h.own g (.inl ⟨b,i,f⟩)
  .rw [e.2]at hk;exact h.own g (.inr ⟨k,hk,f⟩)
theorem Tm.put {H:Heap} (h:Tm H R st θ a) {d:Option Nat} {x:TV} {u:Value} (b:aV H R st θ x u) (hd: ∀t,d=ã t->t<a.tmps.size):Tm H R (st.put d x) θ (a.put d u):=by
 intro t;refine aV.step (Am H st θ d x) _ _ ?_
 cases d with
 |none=>exact h t
 |some d=>
  simp only [St.put,Act.put];by_cases e:t=d
  .simp_all [bC,Á]
  .rw [aY _ _ e,Á,Δ (fun h=>e h.symm),<-Á]
   exact h t
theorem Ro {H:Heap} (g:Tm H R st θ a) {o:Oper} {x:Bool} (h:kF all o st=ã x):Υ o (yielded all a.tmps)=x:=by
 unfold kF at h;split at h
 .simp_all [Υ]
 .rename_i j want p
  split at h
  .rename_i t k
   split at h
   .rename_i b f
    have d:=g t;rw [f]at d;simp only [aV,aB]at d;have i:=d.1;have m:a.tmps[t]? =ã (.bool b):=by
     rw [Á]at i;grind [undef]
    simp_all [Υ,yielded]
   .rename_i f
    have d:=g t;rw [f]at d;obtain⟨arr,i,r⟩:=d;have hy:yielded all a.tmps j=none:=by
     unfold yielded;rw [k];simp
     cases s:a.tmps[t]? with
     |none=>rfl
     |some q=>
      simp_all
    simp_all [Υ]
   grind
  grind
theorem agI (H:Heap) (R:Nat->Prop) (st:St) (θ:Asg):aV H R st θ (.aM []) undef:=by
 exact⟨#[],rfl,rfl⟩
structure Nt where
 n:Nat
 keep:List (Nat×Value)
def Sz (nt:Nt) (a:Act):Prop:=a.tmps.size=nt.n/\ ∀p∈nt.keep,a.tmps.getD p.1 undef=p.2
def Nt.ok (nt:Nt) (t:Nat):Prop:=t<nt.n/\ ∀p∈nt.keep,t≠p.1
theorem Sz.put {nt:Nt} {a:Act} (h:Sz nt a) {d:Option Nat} (hd: ∀t,d=ã t->nt.ok t) (u:Value):Sz nt (a.put d u):=by
 cases d with
 |none=>exact h
 |some t=>
  refine⟨by rw [<-h.1];simp [Act.put],fun p hp=> ?_⟩
  rw [<-h.2 p hp];have b:=(hd t rfl).2 p hp;simp_all [Act.put,Á]
theorem An (d: ∀ {st st':St} {θ:Asg} {w:World} {a:Act} {o:Oper} {v:TV} {l:Log},Inv w0 F R st θ w->Tm (hp w) R st θ a->(opf (bE st) o).run st=ã (v,st',l)->tl P w0 F R st θ w o a v st') {n:Nt}:
  ∀(j:List Nat) {ops:List Oper} {st:St} {ls:List Log} {θ:Asg} {w:World} {a:Act},j.map (all[·]?)=ops.map ã->gP opf all ops st ls st'->Inv w0 F R st θ w->Tm (hp w) R st θ a->Sz n a->(∀o∈ops,∀t,o.dst=ã t->n.ok t)->
   (∀θ' q w',Inv w0 F R st' θ' w'->Step R st θ (hp w) st' θ' (hp w')->Tm (hp w') R st' θ' q->Sz n q->q.defers=a.defers->Q .normal q w')->wpOps P all Q j a w
 | [],ops,st,ls,θ,w,a,hm,g,r,h,s,hd,z=>by
  cases ops with
  |cons _ _=>grind
  |nil=>
   obtain⟨-,rfl⟩:=g;exact z θ a w r (Step.refl _ _ _ _) h s rfl
 |i::j,ops,st,ls,θ,w,a,hm,g,r,h,s,hd,z=>by
  cases ops with
  |nil=>grind
  |cons o ops=>
   simp [Ò]at hm
   obtain⟨st1,l,aq,rfl,he,g⟩:=g;simp [wpOps,hm.1]
   have k: ∀t,o.dst=ã t->t<a.tmps.size:=fun t ht=>by rw [s.1];exact(hd o Ż t ht).1
   have m: ∀u,Sz n (a.put o.dst u):=fun u=>s.put (hd o Ż) u
   have p: ∀u,(a.put o.dst u).defers=a.defers:=fun u=>by cases o.dst<;>rfl
   unfold lu at he;split at he
   .rename_i hw
    obtain⟨⟨v,eG,l0⟩,b,he⟩:=Ψ.1 he;obtain⟨rfl,rfl⟩:=he;rw [if_pos (Ro h hw)];left
    refine d r h b _ _ fun u w' θ' h1 h2 h3=> ?_
    have hk:=(M.iJ _ _ _ _ _ b).1;have ad:=(h.step h2 hk).put h3 k;refine An d j hm.2 g (h1.put o.dst v) ad (m u) (fun o' af=>hd o' Ŵ) fun f a2 w2 j1 j2 j3 j4 j5=>z f a2 w2 j1 ((h2.trans (Am _ _ _ _ _)).trans j2) j3 j4 (j5.trans (p u))
   .obtain⟨rfl,rfl⟩:=he
    rw [if_neg (by grind [Ro])]
    refine An d j hm.2 g (r.put o.dst _) (h.put (agI (hp w) R st θ) k) (m _) (fun o' af=>hd o' Ŵ) fun f a2 w2 j1 j2 j3 j4 j5=>z f a2 w2 j1 ((Am _ _ _ _ _).trans j2) j3 j4 (j5.trans (p _))
   simp_all
end
end Go.Ev
namespace Go.Ev
theorem Hf {xs b:List Nat} (h:pz xs b=å): ∀n,n∈xs->n∉b:=by
 intro n d hm;simp only [pz,Î]at h;have:=h n d;simp at this
 exact this hm
theorem St.ext' {s t:St} (b:s.tmps=t.tmps) (d:s.boxes=t.boxes) (f:s.ar=t.ar):s=t:=by
 cases s;cases t;simp_all
section
variable {opf:(Operand→TV)→Oper→M TV} {all:Array Oper}
def nf (opf:(Operand->TV)->Oper->M TV) (all:Array Oper) (o:Oper) (st:St):Option (M TV):=
 match kF all o st with
 |some å=>ã (opf (bE st) o)
 |some ä=>ã (.ret (.aM []))
 |none=>none
theorem Hg {o:Oper} {st s1:St} {l:Log} (h:lu opf all o st=ã (s1,l)): ∃m v d,nf opf all o st=ã m/\m.run st=ã (v,d,l)/\s1=d.put o.dst v:=by
 unfold lu at h;split at h
 .rename_i hw
  obtain⟨⟨v,eG,f⟩,b,he⟩:=Ψ.1 h;simp only [Prod.mk.injEq]at he;obtain⟨rfl,rfl⟩:=he;exact⟨_,v,eG,by simp [nf,hw],b,rfl⟩
 .rename_i hw
  simp only [Å,Prod.mk.injEq]at h;obtain⟨rfl,rfl⟩:=h;exact⟨.ret (.aM []),.aM [],st,by simp [nf,hw],rfl,rfl⟩
 .cases h
theorem Rp {o:Oper} {st d:St} {l:Log} {m:M TV} {v:TV} (h:nf opf all o st=ã m) (b:m.run st=ã (v,d,l)):lu opf all o st=ã (d.put o.dst v,l):=by
 unfold nf at h;unfold lu;split at h
 .rename_i hw
  cases h;simp [b]
 .rename_i hw
  cases h;simp only [M.run,Å,Prod.mk.injEq]at b;obtain⟨rfl,rfl,rfl⟩:=b;simp
 .cases h
theorem Rq (f: ∀(ρ b:Operand->TV) (o:Oper),(∀x∈o.op.operands.toList,ρ x=b x)->opf ρ o=opf b o) {o:Oper} {st st':St} (h: ∀t∈qT o all,st.tmps t=st'.tmps t):nf opf all o st=nf opf all o st':=by
 have i:opf (bE st) o=opf (bE st') o:=f _ _ _ fun x k=>by
  cases x with
  |tmp t=>exact h t (by simp only [qT,É];left;exact Β.2 ⟨_,k,rfl⟩)
  |_=>rfl
 have m:kF all o st=kF all o st':=by
  unfold kF;cases p:o.guard with
  |none=>rfl
  |some g=>
   obtain⟨j,want⟩:=g;cases d:(all[j]?).bind (·.dst)with
   |none=>simp only [d]
   |some t=>
    have:=h t (by simp only [qT,p,É];right;simp [d])
    simp only [d,this]
 unfold nf;rw [i,m]
theorem Ao (s:St) (d:Option Nat) (v:TV):(s.put d v).tmps=match d with|some d=>aS s.tmps d v|none=>s.tmps:=by cases d<;>rfl
theorem Hh {s:St} {d:Option Nat} {v:TV} {t:Nat} (h: ∀d',d=ã d'->d'≠t):(s.put d v).tmps t=s.tmps t:=by
 cases d with
 |none=>rfl
 |some d=>exact aY _ _ (fun e=>h d rfl e.symm)
theorem Hi {s s':St} {n:Nat} (d:Option Nat) (v:TV) (h:same s s' n):same s (s'.put d v) n:=by
 obtain⟨f,g⟩:=h;exact⟨fun b i=>by rw [(jn s' d v).1];exact f b i,fun k hk=>by rw [(jn s' d v).2];exact g k hk⟩
theorem Rr {s s':St} {n:Nat} (d:Option Nat) (v:TV) (h:same s s' n):same (s.put d v) s' n:=by
 obtain⟨f,g⟩:=h;exact⟨fun b i=>by rw [(jn s d v).1];exact f b i,fun k hk=>by rw [(jn s d v).2];exact g k hk⟩
theorem same.symm {s s':St} {n:Nat} (h:same s s' n):same s' s n:=⟨fun b d=>(h.1 b d).symm,fun k hk=>(h.2 k hk).symm⟩
theorem agJ {p q:Oper} {lp lq:Log} (h:indep all p q lp lq=å):(∀d,p.dst=ã d->d∉qT q all/\q.dst≠ã d)/\(∀d,q.dst=ã d->d∉qT p all)/\pz lp.wr lq.rd=å/\pz lp.wr lq.wr=å/\pz lq.wr lp.rd=å:=by
 simp only [indep,À]at h;obtain⟨⟨⟨⟨b,f⟩,g⟩,i⟩,j⟩:=h;refine⟨fun d hd=> ?_,fun d hd=> ?_,g,i,j⟩
 .rw [hd]at b
  simp only [À,Ø]at b;refine⟨fun hm=> ?_,fun e=> ?_⟩
  .have:=b.1;simp at this;exact this hm
  .have:=b.2;rw [e]at this;simp at this
 .rw [hd]at f
  simp at f
  exact f
theorem agK (hc: ∀(ρ ad:Operand->TV) (o:Oper),(∀x∈o.op.operands.toList,ρ x=ad x)->opf ρ o=opf ad o) {p q:Oper} {st s1 s2:St} {lp lq ae af:Log} (h1:lu opf all p st=ã (s1,lp)) (h2:lu opf all q s1=ã (s2,lq))
  (hi:indep all p q ae af=å) (hp:lp.sub ae) (hq:lq.sub af): ∃ag,lu opf all q st=ã (ag,lq)/\lu opf all p ag=ã (s2,lp):=by
 obtain⟨i1,i2,i3,i4,i5⟩:=agJ hi;have d3: ∀n,n∈lp.wr->n∉lq.rd:=fun n j hm=>Hf i3 n (hp.2 n j) (hq.1 n hm)
 have d4: ∀n,n∈lp.wr->n∉lq.wr:=fun n j hm=>Hf i4 n (hp.2 n j) (hq.2 n hm)
 have d5: ∀n,n∈lq.wr->n∉lp.rd:=fun n j hm=>Hf i5 n (hq.2 n j) (hp.1 n hm)
 obtain⟨mp,vp,sp,e1,r1,rfl⟩:=Hg h1;obtain⟨mq,vq,sq,e2,r2,rfl⟩:=Hg h2;obtain⟨ah,ai⟩:=M.iJ _ _ _ _ _ r1;obtain⟨aw,aj⟩:=M.iJ _ _ _ _ _ r2;have ax:nf opf all q st=ã mq:=by
  rw [<-e2];refine Rq hc fun t ht=> ?_
  rw [Hh (fun d hd=>fun e=>(i1 d hd).1 (e▸ht)),ah]
 obtain⟨f,ak,s⟩:=M.nT _ _ _ _ _ r2 st (fun n j=>by
  have u:n∉lp.wr:=fun hw=>j.elim (d3 n hw) (d4 n hw)
  exact Rr _ _ (ai n u).symm)
 obtain⟨r, -⟩:=M.iJ _ _ _ _ _ ak;refine⟨_,Rp ax ak, ?_⟩
 have az:nf opf all p (f.put q.dst vq)=ã mp:=by
  rw [<-e1];refine(Rq hc fun t ht=> ?_).symm
  rw [Hh (fun d hd=>fun e=>i2 d hd (e▸ht)),r]
 obtain⟨a6,al,ao⟩:=M.nT _ _ _ _ _ r1 (f.put q.dst vq) (fun n j=>by
  have u:n∉lq.wr:=fun hw=>j.elim (d5 n hw) (fun h=>d4 n h hw)
  exact Hi _ _ ((s n).2 u))
 obtain⟨aq, -⟩:=M.iJ _ _ _ _ _ al;have ar:=Rp az al;rw [ar];congr 2
 have g: ∀n,same (sq.put q.dst vq) (a6.put p.dst vp) n:=by
  intro n;refine Rr _ _ (Hi _ _ ?_)
  by_cases m:n∈lp.wr
  .have i:=d4 n m
   have z:=(ao n).1 m;have a2:=aj n i;exact⟨fun b g=>by rw [z.1 b g,a2.1 b g,(jn sp _ _).1],fun k hk=>by rw [z.2 k hk,a2.2 k hk,(jn sp _ _).2]⟩
  .have z:=(ao n).2 m
   by_cases i:n∈lq.wr
   .have a2:=(s n).1 i
    exact⟨fun b g=>by rw [z.1 b g,(jn f _ _).1,a2.1 b g],fun k hk=>by rw [z.2 k hk,(jn f _ _).2,a2.2 k hk]⟩
   .have a2:=(s n).2 i
    have a3:=aj n i;have a4:=ai n m;exact⟨fun b g=>by rw [z.1 b g,(jn f _ _).1,a2.1 b g,a3.1 b g,(jn sp _ _).1,a4.1 b g],fun k hk=>by rw [z.2 k hk,(jn f _ _).2,a2.2 k hk,a3.2 k hk,(jn sp _ _).2,a4.2 k hk]⟩
 refine St.ext' ?_ (funext fun b=>(g (2*b)).1 b rfl) (funext fun k=>(g (2*k+1)).2 k rfl)
 rw [Ao,Ao,aq,aw,Ao,Ao,r,ah];cases a7:p.dst with
 |none=>rfl
 |some d=>
  cases a8:q.dst with
  |none=>rfl
  |some d'=>exact adQ _ _ _ (fun e=>(i1 d a7).2 (by rw [a8,e]))
theorem bubble (i: ∀(ρ b:Operand->TV) (o:Oper),(∀x∈o.op.operands.toList,ρ x=b x)->opf ρ o=opf b o) {o:Oper} {l l':Log} (j:l.sub l'): ∀(pre:List (Oper×Log×Log)) {post:List Oper} {st st':St} {ls:List Log},gP opf all (pre.map (·.1)++o::post) st (pre.map (·.2.1)++l::ls) st'->
  (∀x∈pre,x.2.1.sub x.2.2/\indep all x.1 o x.2.2 l'=å)->gP opf all (o::(pre.map (·.1)++post)) st (l::(pre.map (·.2.1)++ls)) st'
 | [],post,st,st',ls,h,_=>h
 |(p,lp,d)::pre,post,st,st',ls,h,k=>by
  simp only [Ò,ϋ,gP]at h;obtain⟨s1,m,q,e,r,s⟩:=h;simp only [η]at e;obtain⟨rfl,rfl⟩:=e;have ih:=bubble i j pre s (fun x f=>k x ļ)
  simp only [gP]at ih;obtain⟨s2,m,t,e,u,z⟩:=ih;simp only [η]at e;obtain⟨rfl,rfl⟩:=e;obtain⟨q1,q2⟩:=k (p,lp,d) Ż
  obtain⟨g,j1,j2⟩:=agK i r u q2 q1 j;simp only [Ò,ϋ,gP];exact⟨g,l,_,rfl,j1,s2,lp,_,rfl,j2,z⟩
end
end Go.Ev
namespace Go.Ev
section
variable {opf:(Operand→TV)→Oper→M TV} {all:Array Oper}
structure Rs (all:Array Oper) (f:Nat->Oper×Log×Log) (m:Nat->Nat):Prop where
 ops: ∀i,i<all.size->all[i]? =ã (f i).1
 Ap: ∀i j,i<j->j<all.size->(m j).testBit i=å\/indep all (f i).1 (f j).1 (f i).2.2 (f j).2.2=å
 oc: ∀i,i<all.size->(f i).2.1.sub (f i).2.2
 Rt: ∀j,j<all.size-> ∀e∈(f j).1.after.toList,Ñ .any e=å->e.on<j
 bits: ∀j,j<all.size-> ∀p,(m j).testBit p=å-> ∃e∈(f j).1.after.toList,Ñ .any e=å/\(p=e.on\/(m e.on).testBit p=å)
theorem agL {listed:Array Bool} {i j:Nat} (d:Bool) (hi:i<listed.size):(listed.setIfInBounds i å).getD j d=if j=i then å else listed.getD j d:=by
 by_cases h:j=i
 .subst h
  rw [if_pos rfl,Á,Array.getElem?_setIfInBounds_self_of_lt hi]
  rfl
 .rw [if_neg h,Á,Δ (fun e=>h e.symm),<-Á]
theorem Ru (hc: ∀(ρ al:Operand->TV) (o:Oper),(∀x∈o.op.operands.toList,ρ x=al x)->opf ρ o=opf al o) {f:Nat->Oper×Log×Log} {m:Nat->Nat} (r:Rs all f m):
  ∀(fuel t:Nat) {listed:Array Bool} {rem:List Nat} {st st':St},rem.Pairwise (·< ·)->(∀i∈rem,i<all.size)->listed.size=all.size->(∀i,i<all.size->(listed.getD i å=ä↔i∈rem))->
   (∀j,j<all.size->j∉rem-> ∀p,(m j).testBit p=å->p∉rem)->rem.length<=fuel->gP opf all (rem.map fun i=>(f i).1) st (rem.map fun i=>(f i).2.1) st'->
   ∃ls,gP opf all ((Ì .any all fuel t listed []).map fun i=>(f i).1) st ls st'/\ ∀i∈Ì .any all fuel t listed [],i<all.size
 |0,t,listed,rem,st,st',hp,hr,hs,hl,af,hf,h=>by
  have:rem=[]:=Õ ž
  subst this;exact⟨_,by simpa [Ì]using h,by simp [Ì]⟩
 |fuel+1,t,listed,rem,st,st',hp,hr,hs,hl,af,hf,h=>by
  have s: ∀i,i∈Ë .any all listed->i∈rem/\ ∀e∈(f i).1.after.toList,Ñ .any e=å->e.on∉rem:=by
   intro i hi;simp only [Ë,ό,ώ,À,Ø]at hi;obtain⟨g,h1,h2⟩:=hi;refine⟨(hl i g).1 h1,fun e he q hm=> ?_⟩
   rw [r.ops i g]at h2;simp only [ύ,Χ,τ]at h2;have h3:=h2 e (by simpa using he)
   rw [q]at h3;simp only [Τ,Ý]at h3;have aq:=hr _ hm;have h4:=(hl e.on aq).2 hm;rw [Á]at h3 h4;have:listed[e.on]? =ã listed[e.on]:=Û ž
   rw [this]at h3 h4;simp only [Χ]at h3 h4;rw [h3]at h4;cases h4
  simp only [Ì];change ∃ls,gP opf all ((match (Ë .any all listed)[t%(Ë .any all listed).length]? with
   |some i=>Ì .any all fuel (t/(Ë .any all listed).length) (listed.setIfInBounds i å) [i]
   |none=>[].reverse).map fun i=>(f i).1) st ls st'/\ ∀i∈(match (Ë .any all listed)[t%(Ë .any all listed).length]? with
   |some i=>Ì .any all fuel (t/(Ë .any all listed).length) (listed.setIfInBounds i å) [i]
   |none=>[].reverse),i<all.size
  cases hi:(Ë .any all listed)[t%(Ë .any all listed).length]? with
  |none=>
   have au:Ë .any all listed=[]:=by
    cases hq:Ë .any all listed with
    |nil=>rfl
    |cons x xs=>
     rw [hq]at hi;have g:t%(x::xs).length<(x::xs).length:=Nat.mod_lt _ Ż
     rw [Í g]at hi
     cases hi
   have av:rem=[]:=by
    cases rem with
    |nil=>rfl
    |cons x xs=>
     exfalso
     have hx:=hr x Ż
     have:x∈Ë .any all listed:=by
      simp only [Ë,ό,ώ,À,Ø];refine⟨hx,(hl x hx).2 Ż, ?_⟩
      rw [r.ops x hx];simp only [ύ,Χ,τ];intro e he;cases q:Ñ .any e with
      |false=>rfl
      |true=>
       have g:=r.Rt x hx e (by simpa using he) q
       have a1:e.on∉x::xs:=fun hm=>by
        rcases Ê.1 hm with h|h
        .omega
        .have:=(υ.1 hp).1 _ h;omega
       have h5:listed.getD e.on å≠ä:=fun h=>a1 ((hl e.on ž).1 h)
       rw [Á]at h5 |-;have h6:listed[e.on]? =ã listed[e.on]:=Û ž
       rw [h6]at h5 |-;simpa using h5
     rw [au]at this;cases this
   subst av;exact⟨_,Ű,Ż⟩
  |some i=>
   obtain⟨aw,a7⟩:=s i (ν hi);have d:=hr i aw;obtain⟨pre,post,rfl⟩:=List.append_of_mem aw;obtain⟨p1,p2,p3⟩:=ξ.1 hp;obtain⟨p4,p5⟩:=υ.1 p2;have k: ∀p,(m i).testBit p=å->p∉pre++i::post:=by
    intro p u;obtain⟨e,he,q,ag⟩:=r.bits i d p u;have ax:=a7 e he q;rcases ag with rfl|ag
    .exact ax
    .exact af e.on (Nat.lt_trans (r.Rt i d e he q) d) ax p ag
   have ad:=bubble (opf:=opf) (all:=all) hc (o:=(f i).1) (l:=(f i).2.1) (l':=(f i).2.2) (r.oc i d) (pre.map f) (post:=post.map fun i=>(f i).1) (ls:=post.map fun i=>(f i).2.1) (st:=st) (st':=st')
    (by simpa [Ω,Function.comp_def]using h) (fun x hx=>by
     obtain⟨j,hj,rfl⟩:=È.1 hx;refine⟨r.oc j (hr j (by simp [hj])), ?_⟩
     exact(r.Ap j i (p3 j hj i Ż) d).resolve_left (fun q=>k j q (by simp [hj])))
   simp only [gP]at ad;obtain⟨s1,l1,bq,e,h1,h2⟩:=ad;simp only [η]at e;obtain⟨rfl,rfl⟩:=e;have z: ∀j,j∈pre++post↔j∈pre++i::post/\j≠i:=by
    intro j;simp only [É,Ê];constructor
    .rintro(h|h)
     .exact⟨.inl h,fun e=>by have:=p3 j h i Ż;omega⟩
     .exact⟨.inr (.inr h),fun e=>by have:=p4 j h;omega⟩
    .rintro⟨h|h|h,bb⟩
     .exact .inl h
     .exact absurd h bb
     .exact .inr h
   obtain⟨ay,k1,k2⟩:=Ru hc r fuel (t/(Ë .any all listed).length) (listed:=listed.setIfInBounds i å) (rem:=pre++post) (st:=s1) (st':=st')
    (ξ.2 ⟨p1,p5,fun a ha b q=>p3 a ha b Ě⟩) (fun j hj=>hr j ((z j).1 hj).1) (by simpa using hs)
    (fun j hj=>by
     rw [agL _ ž,z]
     by_cases e:j=i
     .subst e;simp
     .simp only [ne_eq,e,not_false_eq_true,and_true];exact hl j hj)
    (fun j hj bc p u bd=>by
     have ae:=(z p).1 bd;by_cases e:j=i
     .subst e;exact k p u ae.1
     .exact af j hj (fun hm=>bc ((z j).2 ⟨hm,e⟩)) p u ae.1)
    (by simp only [List.length_append,ϊ]at hf |-;omega)
    (by simpa [Ω,Function.comp_def]using h2)
   refine⟨(f i).2.1::ay, ?_, ?_⟩
   .dsimp only
    rw [linearise_go_acc,ε,ι,Ò];exact⟨s1,_,ay,rfl,h1,k1⟩
   .dsimp only
    rw [linearise_go_acc,ε,ι];intro j hj;rcases Ê.1 hj with rfl|hj
    .exact d
    .exact k2 j hj
end
end Go.Ev
namespace Go.Ev
theorem Rv {T:TypeId->Option TyI} {call:FuncId->List TV->Nat->M TV} (ρ g:Operand->TV) (o:Oper) (h: ∀x∈o.op.operands.toList,ρ x=g x):dq T call ρ o=dq T call g o:=by
 obtain⟨dst,op,type,pos,after,guard⟩:=o;have Ap: ∀j:Array (Nat×Operand),(∀x∈j.map (·.2),ρ x=g x)->(j.toList.map fun p=>(p.1,ρ p.2))=(j.toList.map fun p=>(p.1,g p.2)):=fun j hp=>
  Ô fun p hm=>by rw [hp p.2 (Array.mem_map.2 ⟨p,Ş,rfl⟩)]
 cases op<;>simp only [Op.operands]at h<;>simp only [dq]
 case build t j=>rw [Ap j fun x i=>h x ü]
 case buildSlice t n j=>rw [Ap j fun x i=>h x ü]
 case makeFunc fn first captured=>
  have s:first.toList.map ρ=first.toList.map g:=Ô fun x i=>h x (by simp [Ú.1 i])
  have u:captured.toList.map ρ=captured.toList.map g:=Ô fun x i=>h x (by simp [Ú.1 i])
  cases fn<;>simp only [s,u]
 case slice t x lo hi mx=>cases lo<;>cases hi<;>cases mx<;>simp_all
 case call c=>
  have d: ∀x∈c.args.toList,ρ x=g x:=fun x i=>h x (by simp [Call.operands,Ú.1 i])
  have q:c.args.toList.map ρ=c.args.toList.map g:=Ô d;cases z:c.callee with
  |invoke r m=>rfl
  |value f=>
   have hf:ρ f=g f:=h f (by simp [Call.operands,z])
   cases f<;>simp only [q,hf]
  |builtin b=>
   cases b<;>try rfl
   case len=>
    revert d
    cases c.args.toList with
    |nil=>intro _;rfl
    |cons x xs=>intro d;cases xs<;>cases c.argTypes.toList<;>first|rfl|simp only [d x Ż]
   case append=>
    revert d
    cases c.args.toList with
    |nil=>intro _;rfl
    |cons x xs=>
     intro d;cases xs with
     |nil=>rfl
     |cons y k=>
      cases c.argTypes.toList with
      |nil=>cases k<;>rfl
      |cons t ts=>
       cases ts with
       |nil=>cases k<;>rfl
       |cons t2 ts=>cases k<;>cases ts<;>first|rfl|simp only [d x Ż,d y Ż]
   case min=>
    revert d
    cases c.args.toList with
    |nil=>intro _;rfl
    |cons x xs=>
     intro d;cases xs with
     |nil=>rfl
     |cons y k=>cases k<;>first|rfl|simp only [d x Ż,d y Ż]
   case max=>
    revert d
    cases c.args.toList with
    |nil=>intro _;rfl
    |cons x xs=>
     intro d;cases xs with
     |nil=>rfl
     |cons y k=>cases k<;>first|rfl|simp only [d x Ż,d y Ż]
 all_goals (first|rfl|(simp_all;done))
theorem Rw {acc:List Nat} {p:Nat}: ∀(es:List Edge) (s:Nat),(es.foldl (fun s e=>cond (Ñ .any e) (s |||2^e.on |||acc.getD e.on 0) s) s).testBit p=å->
  s.testBit p=å\/ ∃e∈es,Ñ .any e=å/\(p=e.on\/(acc.getD e.on 0).testBit p=å)
 | [],s,h=>.inl h
 |e::es,s,h=>by
  simp only [List.foldl_cons]at h;rcases Rw es _ h with h|⟨d,f,g,i⟩
  .cases b:Ñ .any e with
   |false=>rw [b]at h;exact .inl h
   |true=>
    rw [b]at h;simp only [Y,Nat.testBit_or,ζ,Nat.testBit_two_pow,decide_eq_true_eq]at h;rcases h with(h|h)|h
    .exact .inl h
    .exact .inr ⟨e,Ż,b,.inl h.symm⟩
    .exact .inr ⟨e,Ż,b,.inr h⟩
  .exact .inr ⟨d,ļ,g,i⟩
theorem Rx: ∀(ops:List Oper) (acc:List Nat) (k:Nat) (o:Oper),ops[k]? =ã o-> ∃m,(ky ops acc)[k]? =ã m/\
  ((∀e∈o.after.toList,Ñ .any e=å->e.on<acc.length+k)-> ∀p,m.testBit p=å-> ∃e∈o.after.toList,Ñ .any e=å/\(p=e.on\/((acc++ky ops acc).getD e.on 0).testBit p=å))
 | [],_,k,o,h=>by simp at h
 |i::ops,acc,0,o,h=>by
  simp only [List.getElem?_cons_zero,Å]at h
  subst h;refine⟨_,rfl,fun f p hp=> ?_⟩
  rcases Rw _ _ hp with h|⟨e,b,d,g⟩
  .simp at h
  .refine⟨e,b,d,g.imp id fun h=> ?_⟩
   have:=f e b d;rwa [Ç,List.getElem?_append_left ž,<-Ç]
 |i::ops,acc,k+1,o,h=>by
  obtain⟨m,b,d⟩:=Rx ops (acc++[_]) k o Ű
  refine⟨m,by simp only [ky,List.getElem?_cons_succ];exact b,fun f p hp=> ?_⟩
  obtain⟨e,g,j,q⟩:=d (fun e he r=>by have:=f e he r;simp;omega) p hp
  refine⟨e,g,j,q.imp id fun h=> ?_⟩
  simp only [ky];simpa using h
end Go.Ev
namespace Go.Ev
theorem Ry {all:Array Oper} {x:Oper} {g:Log} {i:Nat}: ∀(os:List Oper) (ls:List Log) (ms:List Nat),zJ all x g i os ls ms=å-> ∀(k:Nat) (o:Oper) (l:Log) (m:Nat),os[k]? =ã o->ls[k]? =ã l->ms[k]? =ã m->m.testBit i=å\/indep all x o g l=å
 |o::os,l::ls,m::ms,h,k,j,l',m',b,d,f=>by
  simp only [zJ,À,ζ]at h;cases k with
  |zero=>simp at b d f;subst b d f;exact h.1
  |succ k=>exact Ry os ls ms h.2 k j l' m' ł Ľ Ğ
 | [],_,_,_,k,o,l,m,b,_,_=>by simp at b
 |_::_,[],_,_,k,o,l,m,_,d,_=>by simp at d
 |_::_,_::_,[],_,k,o,l,m,_,_,f=>by simp at f
theorem Rz {all:Array Oper}: ∀(os:List Oper) (ls:List Log) (ms:List Nat) (i:Nat),zK all i os ls ms=å-> ∀(j:Nat) (o:Oper) (l:Log) (m:Nat),os[j]? =ã o->ls[j]? =ã l->ms[j]? =ã m->
  Gx (i+j) o=å/\ ∀(k:Nat) (b:Oper) (l':Log) (m':Nat),j<k->os[k]? =ã b->ls[k]? =ã l'->ms[k]? =ã m'->m'.testBit (i+j)=å\/indep all o b l l'=å
 |o::os,l::ls,m::ms,i,h,j,p,q,m1,d,f,g=>by
  simp only [zK,À]at h;cases j with
  |zero=>
   simp at d f g
   subst d f g;refine⟨h.1.1,fun k b l' m' hk k1 k2 k3=> ?_⟩
   cases k with
   |zero=>omega
   |succ k=>exact Ry os ls ms h.1.2 k b l' m' ġ (by simpa using k2) (by simpa using k3)
  |succ j=>
   obtain⟨q1,q2⟩:=Rz os ls ms (i+1) h.2 j p q m1 Ľ Ğ ŋ
   rw [show i+(j+1)=i+1+j from ž]
   refine⟨q1,fun k b l' m' hk k1 k2 k3=> ?_⟩
   cases k with
   |zero=>omega
   |succ k=>exact q2 k b l' m' ž ġ (by simpa using k2) (by simpa using k3)
 | [],_,_,_,_,j,o,l,m,d,_,_=>by simp at d
 |_::_,[],_,_,_,j,o,l,m,_,f,_=>by simp at f
 |_::_,_::_,[],_,_,j,o,l,m,_,_,g=>by simp at g
theorem RA: ∀(ops:List Oper) (acc:List Nat),(ky ops acc).length=ops.length
 | [],_=>rfl
 |o::ops,acc=>by simp [ky,RA ops]
theorem Hj: ∀ {ls ls':List Log},oc ls ls'->ls.length=ls'.length/\ ∀(i:Nat) (l:Log),ls[i]? =ã l-> ∃l':Log,ls'[i]? =ã l'/\l.sub l'
 | [],[],_=>⟨rfl,Ż⟩
 | [],_::_,h=>h.elim
 |_::_,[],h=>h.elim
 |l::ls,l'::ls',h=>by
  obtain⟨d,f⟩:=Hj h.2;refine⟨ç,fun i x b=> ?_⟩
  cases i with
  |zero=>simp at b;subst b;exact⟨l',rfl,h.1⟩
  |succ i=>simpa using f i x ł
theorem gP.length {opf:(Operand->TV)->Oper->M TV} {all:Array Oper}: ∀ {ops:List Oper} {st st':St} {ls:List Log},gP opf all ops st ls st'->ls.length=ops.length
 | [],_,_,_,h=>by rw [h.1];rfl
 |o::ops,st,st',ls,h=>by
  obtain⟨s1,l,b,rfl, -,d⟩:=h;simp [gP.length d]
def kG (all:Array Oper) (ls ls':List Log) (i:Nat):Oper×Log×Log:=(all.getD i default,ls.getD i .none,ls'.getD i .none)
theorem agM {all:Array Oper} {ls ls':List Log} (hl:ls.length=all.size) (q:oc ls ls') (h:pA all ls'=å):Rs all (kG all ls ls') (fun i=>(ky all.toList []).getD i 0):=by
 obtain⟨ae,q⟩:=Hj q;have ho: ∀i,i<all.size->all[i]? =ã (kG all ls ls' i).1:=fun i hi=>by simp [kG,Á,Û hi]
 have r: ∀i,i<all.size->(ky all.toList [])[i]? =ã ((ky all.toList []).getD i 0):=fun i hi=>by
  have:i<(ky all.toList []).length:=by rw [RA];simpa using hi
  simp [Ç,Í this]
 have s: ∀i,i<all.size->ls'[i]? =ã (kG all ls ls' i).2.2:=fun i hi=>by
  have:i<ls'.length:=ž
  simp [kG,Ç,Í this]
 have d: ∀i,i<all.size->all.toList[i]? =ã (kG all ls ls' i).1:=fun i hi=>by simpa using ho i hi
 have b:=fun i (hi:i<all.size)=>Rz all.toList ls' (ky all.toList []) 0 h i _ _ _ (d i hi) (s i hi) (r i hi)
 have g: ∀j,j<all.size-> ∀e∈(kG all ls ls' j).1.after.toList,Ñ .any e=å->e.on<j:=fun j hj e he f=>by
  have:=(b j hj).1;rw [ϗ]at this;simp only [Gx,Î]at this;have:=this e he;rw [f]at this;have h3:ϛ e.on j=å:=by simpa using this
  exact Ε h3
 refine⟨ho,fun i j t hj=> ?_,fun i hi=> ?_,g,fun j hj p hp=> ?_⟩
 .have:=(b i ž).2 j _ _ _ t (d j hj) (s j hj) (r j hj)
  rwa [ϗ]at this
 .have u:ls[i]? =ã (kG all ls ls' i).2.1:=by
   have:i<ls.length:=ž
   simp [kG,Ç,Í this]
  obtain⟨l',k,z⟩:=q i _ u;rw [s i hi]at k;cases k;exact z
 .obtain⟨m,k,z⟩:=Rx all.toList [] j _ (d j hj)
  rw [r j hj]at k;cases k;have:=z (fun e he f=>by have:=g j hj e he f;simp;omega) p hp
  simpa using this
end Go.Ev
namespace Go.Ev
theorem RB {α:Type} (l:List α) (d:α):(φ l.length).map (fun i=>l.getD i d)=l:=by
 apply ψ
 intro i;simp only [ω]
 by_cases h:i<l.length
 .rw [π h]
  simp [Ç,Í h]
 .rw [Ö Ű,Ö ž]
  rfl
section
variable {P:Program} {w0 w:World} {F R:Nat→Prop} {st st':St} {θ:Asg} {a:Act} {opf:(Operand→TV)→Oper→M TV} {ops:Array Oper} {Q:Exit→Act→World→Prop} {ls ls':List Log}
def wg (P:Program) (opf:(Operand->TV)->Oper->M TV) (w0:World) (F R:Nat->Prop):Prop:=
 ∀ {st st':St} {θ:Asg} {w:World} {a:Act} {o:Oper} {v:TV} {l:Log},Inv w0 F R st θ w->Tm (hp w) R st θ a->(opf (bE st) o).run st=ã (v,st',l)->tl P w0 F R st θ w o a v st'
theorem RC (d:P.follows .mixedOrders=å) (f:wg P opf w0 F R) (hc: ∀(ρ g:Operand->TV) (o:Oper),(∀x∈o.op.operands.toList,ρ x=g x)->opf ρ o=opf g o) {id:Nat} {draw:Bool} {n:Nt}
  (p:gP opf ops ops.toList st ls st') (k:oc ls ls') (hd:draw=å->pA ops ls'=å) (u:Inv w0 F R st θ w) (z:Tm (hp w) R st θ a) (hn:Sz n a) (b: ∀o∈ops.toList,∀t,o.dst=ã t->n.ok t)
  (hQ: ∀θ' m w',Inv w0 F R st' θ' w'->Step R st θ (hp w) st' θ' (hp w')->Tm (hp w') R st' θ' m->Sz n m->m.defers=a.defers->Q .normal m w'):(Code.region id ops draw).wp P Q a w:=by
 have hlen:ls.length=ops.size:=by simpa using p.length
 cases draw with
 |false=>
  refine wp_region (An f _ ?_ p u z hn b hQ)
  apply ψ
  intro i;simp only [ω]
  by_cases h:i<ops.size
  .rw [π h]
   simp [h]
  .rw [Ö Ű,Ö Ű]
   rfl
 |true=>
  refine wp_region_draw fun t=> ?_
  have q:Inv w0 F R st θ {w with drawn:=w.drawn+1}:=(u.world (w':={w with drawn:=w.drawn+1}) (Ξ _) rfl rfl rfl (fun _ _=>rfl)).1
  simp only [Region.schedule,d,Bool.true_or,if_true];have r:=agM hlen k (hd rfl);have e1:(φ ops.size).map (fun i=>(kG ops ls ls' i).1)=ops.toList:=by
   have:=RB ops.toList default;simpa [kG,Á,Ç]using this
  have e2:(φ ops.size).map (fun i=>(kG ops ls ls' i).2.1)=ls:=by
   have:=RB ls .none;rw [hlen]at this;exact this
  obtain⟨aj,h1,h2⟩:=Ru hc r ops.size t (listed:=Θ ops.size ä) (rem:=φ ops.size) (st:=st) (st':=st') List.pairwise_lt_range (fun i hi=>ķ) Ż
   (fun i hi=>by simp [Á,hi]) (fun j hj s=>absurd Ŗ s) Ż (by rw [e1,e2];exact p)
  refine An f _ (ops:=(Ì .any ops ops.size t (Θ ops.size ä) []).map fun i=>(kG ops ls ls' i).1) ?_ h1 q z hn (fun o ho=> ?_) hQ
  .rw [Ω]
   exact Ô fun i hi=>r.ops i (h2 i hi)
  .obtain⟨i,hi,rfl⟩:=È.1 ho
   have:=r.ops i (h2 i hi);exact b _ (Ú.2 (Array.mem_of_getElem? this))
end
end Go.Ev
namespace Go.Ev
section
variable {R:Nat→Prop} {st st' s2:St} {θ θ':Asg} {H H':Heap}
structure Old (st st':St):Prop where
 bx: ∀b,(st.boxes b).isSome=å->st'.boxes b=st.boxes b
 ob: ∀k,(st.ar k).bj.isSome=å->st'.ar k=st.ar k
mutual
theorem aB.forget (j:Old st st') (m:s2.boxes=st.boxes) (hk:s2.ar=st.ar): ∀(c:Cell) (v0 v:Value),aB H R st θ c v0->aB H' R st' θ' c v->aB H' R s2 θ' c v
 |.undef,_,_,_,_=>Ś
 |.b _,_,_,_,h=>ŵ
 |.i _ _,_,_,_,h=>ŵ
 |.s _,_,_,_,h=>ŵ
 |.sh _ _,_,_,_,h=>ŵ
 |.lU _ _,_,_,_,h=>ŵ
 |.nl,_,_,_,h=>ŵ
 |.z0,_,_,_,h=>ŵ
 |.ob k aH vw,v0,v,g,h=>by
  simp only [aB]at g h |-;rw [hk];refine⟨g.1,fun e hd=> ?_⟩
  have:=j.ob k hd;rw [this]at h;exact h.2 e hd
 |.gs k aH wv pl c x,v0,v,g,h=>by
  simp only [aB]at g h |-;rw [hk];refine⟨g.1,g.2.1,fun e=>⟨(g.2.2 e).1,fun r d hd=> ?_⟩⟩
  have:=j.ob k š
  rw [this]at h;exact(h.2.2 e).2 r d hd
 |.ff,_,_,_,h=>ŵ
 |.pb b off,v0,v,g,h=>by
  simp only [aB]at g h |-;rw [m];exact⟨g.1,h.2⟩
 |.pe k aH i off,v0,v,g,h=>by
  simp only [aB]at g h |-;rw [hk];refine⟨h.1,g.2.1,fun e d hd=> ?_⟩
  have:=j.ob k š
  rw [this]at h;exact h.2.2 e d hd
 |.pr _ _ _,_,_,_,h=>ŵ
 |.fE,_,_,_,h=>ŵ
 |.pg k aH wv ts x off,v0,v,g,h=>by
  simp only [aB]at g h |-;rw [hk];refine⟨h.1,g.2.1,fun e=>⟨(g.2.2 e).1,fun r hd=> ?_⟩⟩
  have:=j.ob k hd;rw [this]at h;exact(h.2.2 e).2 r hd
 |.fn f a b,v0,v,g,h=>by
  simp only [aB]at g h |-;obtain⟨va,vb,rfl,q,t⟩:=h;obtain⟨ae,af, -,k1,k2⟩:=g;exact⟨va,vb,rfl,aJ.forget j m hk a _ _ k1 q,aJ.forget j m hk b _ _ k2 t⟩
 |.er _,_,_,_,h=>ŵ
theorem aJ.forget (j:Old st st') (m:s2.boxes=st.boxes) (hk:s2.ar=st.ar): ∀(cs:List Cell) (p vs:List Value),aJ H R st θ cs p->aJ H' R st' θ' cs vs->aJ H' R s2 θ' cs vs
 | [],_,_,_,h=>by simpa only [aJ]using h
 |c::cs,p,vs,g,h=>by
  simp only [aJ]at g h |-;obtain⟨v,u,rfl,q,t⟩:=h;obtain⟨v0,z, -,k1,k2⟩:=g;exact⟨v,u,rfl,⟨aB.forget j m hk c _ _ k1.1 q.1,q.2⟩,aJ.forget j m hk cs _ _ k2 t⟩
end
mutual
theorem aV.forget (d:Old st st') (f:s2.boxes=st.boxes) (hk:s2.ar=st.ar): ∀(c:TV) (v0 v:Value),aV H R st θ c v0->aV H' R st' θ' c v->aV H' R s2 θ' c v
 |.one c,v0,v,b,h=>by
  simp only [aV]at b h |-;exact⟨aB.forget d f hk c _ _ b.1 h.1,h.2⟩
 |.agg cs,v0,v,b,h=>by
  simp only [aV]at b h |-;obtain⟨arr,rfl,h⟩:=h;obtain⟨g, -,b⟩:=b;exact⟨arr,rfl,aJ.forget d f hk cs _ _ b h⟩
 |.aM vs,v0,v,b,h=>by
  simp only [aV]at b h |-;obtain⟨arr,rfl,h⟩:=h;obtain⟨g, -,b⟩:=b;exact⟨arr,rfl,ch.forget d f hk vs _ _ b h⟩
theorem ch.forget (d:Old st st') (f:s2.boxes=st.boxes) (hk:s2.ar=st.ar): ∀(cs:List TV) (i vs:List Value),ch H R st θ cs i->ch H' R st' θ' cs vs->ch H' R s2 θ' cs vs
 | [],_,_,_,h=>by simpa only [ch]using h
 |c::cs,i,vs,b,h=>by
  simp only [ch]at b h |-;obtain⟨v,j,rfl,m,p⟩:=h;obtain⟨v0,k, -,k1,k2⟩:=b;exact⟨v,j,rfl,aV.forget d f hk c _ _ k1 m,ch.forget d f hk cs _ _ k2 p⟩
end
end
section
variable {w0 w w':World} {F R:Nat→Prop} {st st' s2:St} {θ θ':Asg}
theorem Inv.forget (hI:Inv w0 F R st θ w) (f:Inv w0 F R st' θ' w') (s:Step R st θ (hp w) st' θ' (hp w')) (t:Old st st') (u:s2.boxes=st.boxes) (hk:s2.ar=st.ar):
  Inv w0 F R s2 θ' w'/\Step R st θ (hp w) s2 θ' (hp w'):=by
 have m: ∀b,(s2.boxes b).isSome=å->(st'.boxes b).isSome=å:=fun b h=>by rw [u]at h;rw [t.bx b h];exact h
 have p: ∀k,(s2.ar k).bj.isSome=å->(st'.ar k).bj.isSome=å:=fun k h=>by rw [hk]at h;rw [t.ob k h];exact h
 constructor
 .refine⟨f.size,f.same,f.os,f.tape,f.out,f.rd,fun b cs r=> ?_,fun k d hd=> ?_,fun b b' i j=>f.bb b b' (m b i) (m b' j),fun b k i j=>f.bo b k (m b i) (p k j),fun k k' g i j=>f.oo k k' g (p k i) (p k' j), ?_⟩
  .rw [u]at r
   have e:=t.bx b (by simp [r])
   obtain⟨arr,ty,frz,i,j,h3⟩:=f.boxes b cs (e.trans r);obtain⟨z,ag,ad, -, -,k3⟩:=hI.boxes b cs r;exact⟨arr,ty,frz,i,j,aJ.forget t u hk cs _ _ k3 h3⟩
  .rw [hk]at hd
   have e:=t.ob k š
   exact f.ar k d (by rw [e];exact hd)
  .rintro g (⟨b,i,j⟩|⟨k,i,j⟩)
   .exact f.own g (.inl ⟨b,m b i,j⟩)
   .exact f.own g (.inr ⟨k,p k i,j⟩)
 .refine⟨s.rd,fun b h=>⟨by rw [u];exact h,(s.bx b h).2⟩,fun k=>.inl ⟨by rw [hk],fun h=> ?_⟩⟩
  have e:=t.ob k h;rcases s.ob k with⟨-,q⟩|q|⟨-,q, -⟩
  .exact q h
  .rw [e]at q;omega
  .rw [e]at q;omega
end
section
variable {opf:(Operand→TV)→Oper→M TV} {all:Array Oper}
theorem Hk: ∀ {ops:List Oper} {st st':St} {ls:List Log},gP opf all ops st ls st'->(∀n,(∀l∈ls,n∉l.wr)->same st st' n)/\ ∀t,(∀o∈ops,o.dst≠ã t)->st'.tmps t=st.tmps t
 | [],st,st',ls,h=>by
  obtain⟨-,rfl⟩:=h;exact⟨fun _ _=>⟨fun _ _=>rfl,fun _ _=>rfl⟩,fun _ _=>rfl⟩
 |o::ops,st,st',ls,h=>by
  obtain⟨s1,l,r,rfl,s,u⟩:=h;obtain⟨m,v,s0,e1,z,rfl⟩:=Hg s;obtain⟨k1,k2⟩:=M.iJ _ _ _ _ _ z;obtain⟨j1,j2⟩:=Hk u;refine⟨fun n i=> ?_,fun t j=> ?_⟩
  .have p:=Hi o.dst v (k2 n (i l Ż))
   have a2:=j1 n (fun l' f=>i l' ļ)
   exact⟨fun b q=>(a2.1 b q).trans (p.1 b q),fun k hk=>(a2.2 k hk).trans (p.2 k hk)⟩
  .rw [j2 t (fun o' g=>j o' (by simp [g])),Hh (fun d hd e=>j o Ż (by rw [hd,e])),k1]
theorem Hl: ∀(ops:List Oper) (st:St),(iK st ops).boxes=st.boxes/\(iK st ops).ar=st.ar/\ ∀t,(iK st ops).tmps t=.one .undef\/((∀o∈ops,o.dst≠ã t)/\(iK st ops).tmps t=st.tmps t)
 | [],st=>⟨rfl,rfl,fun t=>.inr ⟨Ż,rfl⟩⟩
 |o::ops,st=>by
  cases hd:o.dst with
  |none=>
   obtain⟨f,g,i⟩:=Hl ops st;refine⟨by simp only [iK,hd];exact f,by simp only [iK,hd];exact g,fun t=> ?_⟩
   simp only [iK,hd];refine(i t).imp id fun⟨k1,k2⟩=>⟨fun j b=> ?_,k2⟩
   rcases Ê.1 b with rfl|b
   .rw [hd];simp
   .exact k1 j b
  |some d=>
   obtain⟨f,g,i⟩:=Hl ops {st with tmps:=aS st.tmps d (.one .undef)}
   refine⟨by simp only [iK,hd];exact f,by simp only [iK,hd];exact g,fun t=> ?_⟩
   simp only [iK,hd];rcases i t with k|⟨k1,k2⟩
   .exact .inl k
   .by_cases e:t=d
    .subst e;left;rw [k2];simp [bC]
    .right
     refine⟨fun j b=> ?_,by rw [k2];exact aY _ _ e⟩
     rcases Ê.1 b with rfl|b
     .rw [hd];simp;exact fun h=>e h.symm
     .exact k1 j b
theorem agN {ops:List Oper} {st st':St} {ls ls':List Log} (p:gP opf all ops st ls st') (d:oc ls ls') (j:qU st ls'=å):Old st st':=by
 obtain⟨f,d⟩:=Hj d;have hw: ∀n,(∃l∈ls,n∈l.wr)->cond (Ι (n%2) 0) (st.boxes (n/2)).isNone (st.ar (n/2)).bj.isNone=å:=by
  rintro n ⟨l,f,g⟩
  obtain⟨i,hi,e⟩:=List.mem_iff_getElem.1 f;obtain⟨l',q,r⟩:=d i l (by rw [Í hi,e])
  simp only [qU,Î]at j;exact j l' (ν q) n (r.2 n g)
 have hk:=(Hk p).1;refine⟨fun b m=> ?_,fun k h=> ?_⟩
 .refine(hk (2*b) fun l f g=> ?_).1 b rfl
  have:=hw (2*b) ⟨l,f,g⟩;rw [show 2*b%2=0 from ž,show 2*b/2=b from ž]at this
  simp at this
  rw [this]at m;cases m
 .refine(hk (2*k+1) fun l f g=> ?_).2 k rfl
  have:=hw (2*k+1) ⟨l,f,g⟩;rw [show (2*k+1)%2=1 from ž,show(2*k+1)/2=k from ž]at this
  simp at this
  rw [this]at h;cases h
end
end Go.Ev
namespace Go.Ev
structure Good (w0:World) (F R:Nat->Prop) (E:Entry) (bl:Nat->Nat) (nt:Nt) (st:St) (θ:Asg) (w:World) (a:Act):Prop where
 inv:Inv w0 F R st θ w
 tm:Tm (hp w) R st θ a
 size:Sz nt a
 defers:a.defers=[]
 pins: ∀p∈E.bx,(st.boxes p.1).isSome=å/\θ.bx p.1=bl p.1
section
variable {P:Program} {w0 w:World} {F R:Nat→Prop} {E:Entry} {bl:Nat→Nat} {nt:Nt} {st st':St} {θ:Asg} {a:Act} {opf:(Operand→TV)→Oper→M TV} {ops:Array Oper} {Q:Exit→Act→World→Prop}
theorem Good.next (h:Good w0 F R E bl nt st θ w a) {θ':Asg} {w':World} {b:Act} (d:Inv w0 F R st' θ' w') (f:Step R st θ (hp w) st' θ' (hp w')) (g:Tm (hp w') R st' θ' b) (i:Sz nt b) (j:b.defers=a.defers):Good w0 F R E bl nt st' θ' w' b:=
 ⟨d,g,i,j.trans h.defers,fun p hp=>by
  obtain⟨k1,k2⟩:=h.pins p hp;obtain⟨k,m⟩:=f.bx p.1 k1;exact⟨k,m.trans k2⟩⟩
theorem agO (b:P.follows .mixedOrders=å) (m:wg P opf w0 F R) (p: ∀(ρ d:Operand->TV) (o:Oper),(∀x∈o.op.operands.toList,ρ x=d x)->opf ρ o=opf d o) {id:Nat} {draw:Bool} {R':Type} {k:St->Option R'} {r:R'}
  (h:qS opf ops ops.toList st [] (fun st' ls=>cond (!draw||pA ops ls.reverse) (k st') none)=ã r) (i:Good w0 F R E bl nt st θ w a) (f: ∀o∈ops.toList,∀t,o.dst=ã t->nt.ok t)
  (q: ∀st' θ' j w',k st'=ã r->Good w0 F R E bl nt st' θ' w' j->Q .normal j w'):(Code.region id ops draw).wp P Q a w:=by
 obtain⟨st',ls,ls',s,g,hk⟩:=Al _ h;rw [Æ,Ù]at hk;cases hd:(!draw||pA ops ls')with
 |false=>rw [hd]at hk;cases hk
 |true=>
  rw [hd]at hk;simp only [Y]at hk;exact RC b m p s g (fun e=>by rw [e]at hd;simpa using hd) i.inv i.tm i.size f fun θ' j w' u z h3 h4 h5=>q st' θ' j w' hk (i.next u z h3 h4 h5)
theorem agP (i:P.follows .mixedOrders=å) (q:wg P opf w0 F R) (hc: ∀(ρ j:Operand->TV) (o:Oper),(∀x∈o.op.operands.toList,ρ x=j x)->opf ρ o=opf j o) {id t:Nat} {draw:Bool} {x:Bool}
  (h:qS opf ops ops.toList st [] (fun st' ls=>cond (qU st ls&&(!draw||pA ops ls.reverse)) (match st'.tmps t with|.one (.b x)=>ã x|_=>none) none)=ã x) (f:Good w0 F R E bl nt st θ w a) (m: ∀o∈ops.toList,∀t,o.dst=ã t->nt.ok t)
  (hQ: ∀θ' p w',Good w0 F R E bl nt (know (iK st ops.toList) t x) θ' w' p->Q .normal p w'):(Code.region id ops draw).wp P Q a w:=by
 obtain⟨st',ls,ls',r,d,hk⟩:=Al _ h;rw [Æ,Ù]at hk;cases hd:(qU st ls'.reverse&&(!draw||pA ops ls'))with
 |false=>rw [hd]at hk;cases hk
 |true=>
  rw [hd]at hk;simp only [Y]at hk;simp only [À]at hd;have hx:st'.tmps t=.one (.b x):=by
   split at hk
   .rename_i y hy;rw [hy,Α hk]
   .cases hk
  have u:qU st ls'=å:=by
   have:=hd.1;simp only [qU,List.all_reverse]at this;exact this
  have hold:=agN r d u;obtain⟨q1,q2,q3⟩:=Hl ops.toList st;refine RC i q hc r d (fun e=>by have:=hd.2;rw [e]at this;simpa using this) f.inv f.tm f.size m fun θ' p w' h1 h2 z h4 h5=> ?_
  obtain⟨i1,i2⟩:=f.inv.forget (s2:=know (iK st ops.toList) t x) h1 h2 hold q1 q2;refine hQ θ' p w' (f.next i1 i2 (fun s=> ?_) h4 h5)
  by_cases e:s=t
  .subst e
   have g:=z s;rw [hx]at g;simp only [know,bC];simp only [aV,aB]at g |-;exact g
  .simp only [know,aY _ _ e]
   rcases q3 s with k|⟨k1,k2⟩
   .rw [k];exact mZ _
   .rw [k2]
    have g:=z s;rw [(Hk r).2 s k1]at g;exact aV.forget (s2:=know (iK st ops.toList) t x) hold q1 q2 _ _ _ (f.tm s) g
end
end Go.Ev
namespace Go.Ev
section
variable {P:Program} {Q:Exit→Act→World→Prop} {a:Act} {w:World}
theorem exists_least {p:Nat->Prop} (h: ∃k,p k): ∃k,p k/\ ∀j,p j->k<=j:=by
 obtain⟨k,hk⟩:=h;induction k using Nat.strongRecOn with
 |_ k ih=>
  by_cases b: ∃j,j<k/\p j
  .obtain⟨j,d,f⟩:=b
   exact ih j d f
  .exact⟨k,hk,fun j hj=>Ν fun g=>b ⟨j,ž,hj⟩⟩
open Classical in
noncomputable def least (J:Nat->Act->World->Prop) (a:Act) (w:World):Nat:=if h: ∃k,J k a w then Ϛ (exists_least h)else 0
theorem RD {J:Nat->Act->World->Prop} (h: ∃k,J k a w):J (least J a w) a w/\ ∀j,J j a w->least J a w<=j:=by
 unfold least;rw [dif_pos h];exact Ϙ (exists_least h)
theorem agQ {c:Code} (J:Nat->Act->World->Prop) {b:Nat} (f:J b a w) (round: ∀k a w,J k a w->c.wp P (Exit.then (fun d w'=> ∃k',k'<k/\J k' d w') Q) a w):(Code.loop c).wp P Q a w:=by
 refine wp_loop (I:=fun a w=> ∃k,J k a w) (μ:=least J) ⟨b,f⟩ fun a w h=> ?_
 refine wp_mono (round (least J a w) a w (RD h).1) fun e d w' he=> ?_
 cases e with
 |normal=>
  obtain⟨k',hk,hj⟩:=he;exact⟨⟨k',hj⟩,Nat.lt_of_le_of_lt ((RD ⟨k',hj⟩).2 k' hj) hk⟩
 |_=>exact he
end
theorem Aq: ∀ {bu:List CT} {ds:List DV} {x:bK bu},eI bu ds=ã x->lg bu x=ds
 | [],[],x,h=>rfl
 | [],_::_,x,h=>è
 | [c],[],x,h=>è
 | [c],[d],x,h=>by
  simp only [eI]at h;simp only [lg];rw [<-Ra h]
 | [c],_::_::_,x,h=>è
 |c::f::cs,[],x,h=>è
 |c::f::cs,d::ds,x,h=>by
  simp only [eI,Ð]at h;obtain⟨y,g,z,i,b⟩:=h;simp only [Å]at b;subst b;simp only [lg];rw [Aq i,<-Ra g]
end Go.Ev
namespace Go.Ev
theorem Hm {m b:Nat}: ∀ {bx:List (Nat×List CK)},look m (pC bx)=ã b->b=m
 | [],h=>by simp [pC,look]at h
 |(a,ks)::r,h=>by
  simp only [pC,look]at h;cases d:Ι a m with
  |true=>
   rw [d]at h;simp only [Y,Å]at h;rw [<-h];exact Â d
  |false=>rw [d]at h;exact Hm h
structure Rd (w0:World) (F R:Nat->Prop) (E:Entry) (bl:Nat->Nat) (nt:Nt) (g:cG) (ds:List DV) (a:Act) (w:World):Prop where
 size:Sz nt a
 defers:a.defers=[]
 bj: ∃nal ln dB dT AB AT wa,ds=dB++dT/\Inv w0 F R eG wa w/\bY (hp w) R (eP ln) nal ln [] g.boxes dB AB/\eJ (hp w) R (eP ln) nal (fun t=>a.tmps.getD t undef) AB g.tmps dT AT/\
  ((AB++AT).fps++g.boxes.map fun p=>ln p.1).Nodup/\(∀b∈(AB++AT).fps++g.boxes.map fun p=>ln p.1,F b\/w0.heap.size<=b)/\ ∀p∈E.bx,ln p.1=bl p.1
section
variable {w0 w:World} {F R:Nat→Prop} {E:Entry} {bl:Nat→Nat} {nt:Nt} {st:St} {θ:Asg} {a:Act} {R':Type}
theorem RE {H:Heap} (st:St) (θ:Asg) (f:Nat->TV):Step R st θ H {st with tmps:=f} θ H:=
 ⟨fun _ _=>rfl,fun _ h=>⟨h,rfl⟩,fun _=>.inl ⟨rfl,fun _=>⟨rfl,rfl,fun _ _=>rfl⟩⟩⟩
theorem Inv.tm (h:Inv w0 F R st θ w) (f:Nat->TV):Inv w0 F R {st with tmps:=f} θ w:=
 h.next (RE st θ f) (Ξ _) rfl rfl rfl (fun _ _ e=>absurd rfl e) (fun _ _ g=>.inl ⟨g,rfl⟩) (fun _ _ hd=>.inl ⟨hd,rfl,rfl,fun _ _=>rfl⟩) h.bb h.bo h.oo h.own
theorem Hn {g:cG} {ds:List DV} {K:St->Option R'} {r:R'} (h:Rd w0 F R E bl nt g ds a w) (m: ∀p∈E.bx,p.1∈g.boxes.map (·.1)) (k:sW g ds K=ã r): ∃st θ,K st=ã r/\Good w0 F R E bl nt st θ w a:=by
 obtain⟨nal,ln,dB,dT,AB,AT,wa,rfl,s,d,i,u,z,j⟩:=h.bj;unfold sW at k;obtain⟨f,st1,l0,l',b,hK, -, -⟩:=M.kZ _ _ _ _ _ k;obtain⟨f',su,θ',l1,h1,h2,h3,h4⟩:=afZ (bl:=ln) (B:=eP ln) (fun _ _ h=>h) (fun t=>a.tmps.getD t undef) s d i u z b
 obtain⟨rfl,rfl⟩:=M.gn h1;have hs:=RE (H:=hp w) (R:=R) st1 θ' f;refine⟨_,θ',hK,h2.tm f,fun t=>aV.step hs _ _ (h3 t),h.size,h.defers,fun p hp=> ?_⟩
 obtain⟨q,hq,e⟩:=È.1 (m p hp);obtain⟨k1,k2⟩:=h4 q hq;rw [<-e];refine⟨k1,k2.trans ?_⟩
 rw [e];exact j p hp
theorem Ar: ∀ {bx:List (Nat×List CK)} {p:Nat×List CK},p∈bx->look p.1 (pC bx)=ã p.1
 | [],p,h=>ņ
 |(a,ks)::r,p,h=>by
  simp only [pC,look];cases b:Ι a p.1 with
  |true=>simp only [Y];rw [Â b]
  |false=>
   rcases Ê.1 h with rfl|h
   .simp at b
   .exact Ar h
theorem Ho {g:cG} {K:List DV->Option R'} {r:R'} (f:Good w0 F R E bl nt st θ w a) (s:(g.boxes.map (·.1)).Nodup) (hE: ∀p∈E.bx,p.1∈g.boxes.map (·.1)) (hr:re g st K=ã r): ∃ds,K ds=ã r/\Rd w0 F R E bl nt g ds a w:=by
 unfold re at hr;obtain⟨ds,st1,l0,l',k,hK, -, -⟩:=M.kZ _ _ _ _ _ hr;unfold Qk at k;have c0:eZ st θ ⟨[],[],pC g.boxes,ä,[]⟩ []:=⟨fun m n v wv h=>é,fun m b h=>.inr rfl,fun m m' b h h'=>by rw [<-Hm h,<-Hm h']⟩
 obtain⟨s1,az,AB,dB,l1,h,ah,e1,u,c1,r1,ai⟩:=GY f.inv g.boxes (bL.refl f.inv) c0 k;obtain⟨s2,a7,AT,dT,l2,h,i,e2,x2,c2,r2⟩:=Re f.inv (fun t=>a.tmps.getD t undef) f.tm g.tmps ah c1 h
 obtain⟨rfl,rfl⟩:=M.gn h;have aj:s2.cj=[]:=by rw [x2.pN u.jM,u.pN rfl]
 have z: ∀b,Rl R θ s2.cj b->R b:=fun b j=>by
  rw [aj]at j;exact j.resolve_right Ń
 have ad: ∀p∈g.boxes,look p.1 s2.bm=ã p.1:=fun p hp=>x2.bm _ _ (u.bm _ _ (Ar hp))
 have hB: ∀m b,Bl θ s2.bm m b->eP (fi θ s2.bm) m b:=fun m b ⟨c,h1,h2⟩=>by simp [eP,fi,h1,h2]
 have d: ∀p∈g.boxes,(st.boxes p.1).isSome=å/\fi θ s2.bm p.1=θ.bx p.1:=fun p hp=>by
  obtain⟨b,h1,h2⟩:=ai p hp;rw [u.bm _ _ (Ar hp)]at h1;cases h1;exact⟨h2,by simp [fi,ad p hp]⟩
 have al: ∀p∈g.boxes,fi θ s2.bm p.1=fi θ s1.bm p.1:=fun p hp=>by
  simp [fi,ad p hp,u.bm _ _ (Ar hp)]
 have ao:([]++Env.fps AB)++Env.fps AT=Env.fps (AB++AT):=by rw [Env.dm];rfl
 rw [ao]at i;refine⟨_,hK,f.size,f.defers,ä,fi θ s2.bm,dB,dT,AB,AT,θ, ?_,f.inv.drop θ, ?_, ?_, ?_, ?_, ?_⟩
 .rw [th,e2,e1];simp
 .exact((r1.mono x2.rl x2.bl).mono z hB).ext al
 .exact r2.mono z hB
 .refine Ã.2 ⟨i.nodup, ?_,fun b j c hc e=> ?_⟩
  .rw [Ó,Γ]at s |-
   refine Ü ?_ s
   intro p q hp hq aq heq;rw [(d p hp).2,(d q hq).2]at heq;exact aq (f.inv.bb _ _ (d p hp).1 (d q hq).1 heq)
  .subst e
   obtain⟨p,hp,rfl⟩:=È.1 hc;refine i.free _ j (.inl ⟨p.1,by rw [i.boxes];exact(d p hp).1,((d p hp).2).symm⟩)
 .intro b j
  rcases É.1 j with j|j
  .exact f.inv.own b (i.was b j)
  .obtain⟨p,hp,rfl⟩:=È.1 j
   exact f.inv.own _ (.inl ⟨p.1,(d p hp).1,((d p hp).2).symm⟩)
 .intro p hp
  obtain⟨q,hq,e⟩:=È.1 (hE p hp);rw [<-e,(d q hq).2,e];exact(f.pins p hp).2
end
end Go.Ev
namespace Go.Ev
def codeOk (nt:Nat) (d:List Nat):Code->Bool
 |.region _ ops _=>ops.toList.all fun o=>match o.dst with|some t=>ϛ t nt&& !d.elem t|none=>å
 |.seq a b=>codeOk nt d a&&codeOk nt d b
 |.cond _ a b=>codeOk nt d a&&codeOk nt d b
 |.block _ c=>codeOk nt d c
 |.loop c=>codeOk nt d c
 |_=>å
def tn (bx:List (Nat×List CK)) (g:cG):Bool:=decide ((g.boxes.map (·.1)).Nodup)&&bx.all fun p=>(g.boxes.map (·.1)).elem p.1
def wh (bx:List (Nat×List CK)):List (Nat×cG×cG×List CT)->Bool
 | []=>å
 |(_,g,h,_)::r=>(tn bx g&&tn bx h)&&wh bx r
theorem RF {bx:List (Nat×List CK)} {g:cG} (h:tn bx g=å):(g.boxes.map (·.1)).Nodup/\ ∀p∈bx,p.1∈g.boxes.map (·.1):=by
 simp only [tn,À,Î]at h;exact⟨of_decide_eq_true h.1,fun p hp=>by simpa using h.2 p hp⟩
theorem RG {bx:List (Nat×List CK)} {id:Nat} {g:cG×cG×List CT}: ∀ {l:List (Nat×cG×cG×List CT)},wh bx l=å->vT id l=ã g->tn bx g.1=å/\tn bx g.2.1=å
 | [],_,h=>by simp [vT]at h
 |(a,g1,f,c1)::r,b,h=>by
  simp only [wh,À]at b;simp only [vT]at h;cases d:Ι a id with
  |true=>
   rw [d]at h;simp only [Y,Å]at h;subst h;exact b.1
  |false=>
   rw [d]at h;exact RG b.2 h
structure agR {X R':Type} (G:St->Asg->World->Act->Prop) (Fin:X->Act->World->Prop) (Q:Exit->Act->World->Prop) (ks:Ks X R') (r:R'):Prop where
 iM: ∀st θ w a,ks.iM st=ã r->G st θ w a->Q .normal a w
 exit: ∀i st θ w a,ks.exit i st=ã r->G st θ w a->Q (.exit i) a w
 ret: ∀st θ w a,ks.ret st=ã r->G st θ w a->Q .ret a w
 fin: ∀x w a,ks.fin x=ã r->Fin x a w->Q .ret a w
section
variable {P:Program} {T:TypeId→Option TyI} {w0:World} {F R:Nat→Prop} {E:Entry} {bl:Nat→Nat} {call:FuncId→List TV→Nat→M TV} {n:Nat} {nt:Nt}
theorem agS {X:Type} {f:(List DV->Option X)->List DV->Option X} {x:X} {body:Code} {Q:Exit->Act->World->Prop} {Rh:List DV->Act->World->Prop}
  (b: ∀self ds a w,f self ds=ã x->Rh ds a w->body.wp P (Exit.then (fun i w'=> ∃d,self d=ã x/\Rh d i w') Q) a w)
  {id k:Nat} {ds:List DV} {a:Act} {w:World} (h:iter id f k ds=ã x) (g:Rh ds a w):(Code.loop body).wp P Q a w:=by
 refine agQ (fun k a w=> ∃ds,iter id f k ds=ã x/\Rh ds a w) ⟨ds,h,g⟩ fun k a w j=> ?_
 obtain⟨ds,hit,g⟩:=j;cases k with
 |zero=>simp [iter]at hit
 |succ k=>
  simp only [iter]at hit;refine wp_mono (b _ ds a w hit g) fun e i w' he=> ?_
  cases e with
  |normal=>exact⟨k,Nat.lt_succ_self k,he⟩
  |_=>exact he
theorem agT {ops:Array Oper} (h:codeOk nt.n (nt.keep.map (·.1)) (.region 0 ops ä)=å): ∀o∈ops.toList,∀t,o.dst=ã t->nt.ok t:=by
 simp only [codeOk,Î]at h;intro o b t d;have:=h o b;rw [d]at this;simp only [À,Ø,Φ,decide_eq_false_iff_not]at this;refine⟨by simpa using this.1,fun p hp e=>this.2 ?_⟩
 rw [e];exact È.2 ⟨p,hp,rfl⟩
theorem rC (k:P.follows .mixedOrders=å) (p:wg P (dq T call) w0 F R) (hl:wh E.bx E.loops=å) {Fin:bK E.bz->Act->World->Prop}
  (m: ∀ {R':Type} (ks:Ks (bK E.bz) R') (st:St) (θ:Asg) (w:World) (a:Act) (r:R'),ri T E ks st=ã r->Good w0 F R E bl nt st θ w a-> ∃x,ks.fin x=ã r/\Fin x a w):
  ∀(c:Code) {R':Type} {st:St} {ks:Ks (bK E.bz) R'} {r:R'} {θ:Asg} {w:World} {a:Act} {Q:Exit->Act->World->Prop},codeOk nt.n (nt.keep.map (·.1)) c=å->eH T call E n c st ks=ã r->Good w0 F R E bl nt st θ w a->agR (Good w0 F R E bl nt) Fin Q ks r->c.wp P Q a w
 |.skip,R',st,ks,r,θ,w,a,Q,hk,h,b,j=>by
  simp only [eH]at h;exact wp_skip (j.iM _ _ _ _ h b)
 |.region id ops draw,R',st,ks,r,θ,w,a,Q,hk,h,b,j=>by
  simp only [eH]at h;have z:=agT (nt:=nt) (ops:=ops) hk;split at h
  .rw [Ð]at h
   obtain⟨x,h1,h2⟩:=h;exact agP k p Rv h1 b z fun θ' a' w' ag=>j.iM _ _ _ _ h2 ag
  .exact agO k p Rv h b z fun st' θ' a' w' h2 ag=>j.iM _ _ _ _ h2 ag
 |.seq c d,R',st,ks,r,θ,w,a,Q,hk,h,b,j=>by
  simp only [eH]at h;simp only [codeOk,À]at hk;refine wp_seq (rC k p hl m c hk.1 h b ⟨fun st θ w a h b=> ?_,fun i st θ w a h b=>j.exit i st θ w a h b,fun st θ w a h b=>j.ret st θ w a h b,fun x w a h hF=>j.fin x w a h hF⟩)
  exact rC k p hl m d hk.2 h b j
 |.cond c d e,R',st,ks,r,θ,w,a,Q,hk,h,b,j=>by
  simp only [codeOk,À]at hk;cases c with
  |tmp t=>
   simp only [eH]at h;split at h
   .rename_i x hx
    have hr:=b.tm t;rw [hx]at hr;simp only [aV,aB]at hr;have ak:a.eval (.tmp t)=.bool x:=hr.1;cases x with
    |true=>
     simp only [Y]at h;rw [He hx]at h;exact wp_cond_true ak (rC k p hl m d hk.1 h b j)
    |false=>
     simp only [ez]at h;rw [He hx]at h;exact wp_cond_false ak (rC k p hl m e hk.2 h b j)
   .cases h
  |const _=>simp [eH]at h
  |global _=>simp [eH]at h
  |func _=>simp [eH]at h
 |.block id c,R',st,ks,r,θ,w,a,Q,hk,h,b,j=>by
  by_cases al: ∃body,c=.loop body
  .obtain⟨body,rfl⟩:=al
   simp only [eH]at h;split at h
   .rename_i g hh hc av
    obtain⟨q,s⟩:=RG hl av;have q:=RF q;have s:=RF s;obtain⟨ds,h,hR⟩:=Ho b q.1 q.2 h;rw [Ð]at h;obtain⟨x,hit,hx⟩:=h;refine wp_block (agS (Rh:=Rd w0 F R E bl nt g) (fun self ds a w hs hR=> ?_) hit hR)
    obtain⟨st1,θ1,h1,aw⟩:=Hn hR q.2 hs;have u: ∀(f:bK E.bz) (a:Act) (w:World),x=.inr f->Fin f a w->Q .ret a w:=fun f a w e hf=>by
     subst e;exact j.fin _ _ _ hx hf
    refine rC k p hl m body (by simpa only [codeOk]using hk) h1 aw ⟨fun st θ w a h b=> ?_,fun i st θ w a h b=> ?_,fun st θ w a h b=> ?_,fun f w a h hf=> ?_⟩
    .exact Ho b q.1 q.2 h
    .simp only at h
     cases hb:Ι i id with
     |false=>rw [hb]at h;cases h
     |true=>
      rw [hb]at h;simp only [Y]at h;obtain⟨ds,h,hR⟩:=Ho b s.1 s.2 h;rw [Ð]at h;obtain⟨y,hy,h⟩:=h;cases h;simp only [aq]at hx;rw [Aq hy]at hx;obtain⟨st2,a1,h2,ax⟩:=Hn hR s.2 hx;simp only [Exit.then,Exit.inBlock,Â hb,if_true]
      exact j.iM _ _ _ _ h2 ax
    .obtain⟨f,hf,hF⟩:=m _ _ _ _ _ _ h b
     simp only [Å]at hf;exact u f a w hf.symm hF
    .simp only [Å]at h
     exact u f a w h.symm hf
   .cases h
  .have h':eH T call E n c st {ks with exit:=fun i st=>cond (Ι i id) (ks.iM st) (ks.exit i st)}=ã r:=by
    cases c<;>first|(exact absurd ⟨_,rfl⟩ al)|(simpa only [eH]using h)
   simp only [codeOk]at hk;refine wp_block (rC k p hl m c hk h' b ⟨fun st θ w a h b=>j.iM st θ w a h b,fun i st θ w a h b=> ?_,fun st θ w a h b=>j.ret st θ w a h b,fun x w a h hF=>j.fin x w a h hF⟩)
   simp only [Exit.inBlock];simp only at h;cases hb:Ι i id with
   |true=>
    rw [hb]at h;rw [if_pos (Â hb)];exact j.iM _ _ _ _ h b
   |false=>
    rw [hb]at h;rw [if_neg (Nat.ne_of_beq_eq_false hb)];exact j.exit _ _ _ _ _ h b
 |.exit id,R',st,ks,r,θ,w,a,Q,hk,h,b,j=>by
  simp only [eH]at h;exact wp_exit (j.exit _ _ _ _ _ h b)
 |.ret,R',st,ks,r,θ,w,a,Q,hk,h,b,j=>by
  simp only [eH]at h;exact wp_ret (j.ret _ _ _ _ h b)
 |.loop _,R',st,ks,r,θ,w,a,Q,hk,h,b,j=>Ĩ
 |.rangeFunc _ _ _ _,R',st,ks,r,θ,w,a,Q,hk,h,b,j=>Ĩ
 |.scope _,R',st,ks,r,θ,w,a,Q,hk,h,b,j=>Ĩ
 |.label _,R',st,ks,r,θ,w,a,Q,hk,h,b,j=>Ĩ
 |.goto _,R',st,ks,r,θ,w,a,Q,hk,h,b,j=>Ĩ
 |.refuse _,R',st,ks,r,θ,w,a,Q,hk,h,b,j=>Ĩ
termination_by c=>SizeOf.sizeOf c
end
end Go.Ev
namespace Go.Ev
section
variable {P:Program} {T:TypeId→Option TyI} {w0 w:World} {F R:Nat→Prop} {si st:St} {θ:Asg} {a:Act} {β:Type} {y:β}
def tp (tmps:Array Value):ResultVar->Sem Value
 |.tmp t=>pure (tmps.getD t undef)
 |.cell a t=>do loadVar t (<-asAddr (tmps.getD a undef))
theorem Hp (d:Ok P T) (j:Inv w0 F R st θ w) (g:Tm (hp w) R st θ a): ∀(rs:List ResultVar) {k:List TV->M (List DV)} {z:List DV} {st':St} {l:Log},(rf T rs st k).run st=ã (z,st',l)->
  ∃vs us f,(k vs).run st=ã (z,st',f)/\ch (hp w) R st θ vs us/\(rs.mapM (tp a.tmps)).run P w=.ok us w
 | [],k,z,st',l,h=>by
  simp only [rf]at h;exact⟨[],[],l,h,by simp [ch],Ż⟩
 |.tmp t::rs,k,z,st',l,h=>by
  simp only [rf]at h;obtain⟨vs,us,f,m,p,q⟩:=Hp d j g rs h;exact⟨_,a.tmps.getD t undef::us,f,m,by simp only [ch];exact⟨_,_,rfl,g t,p⟩,by simp [ο,tp,q]⟩
 |.cell c ty::rs,k,z,st',l,h=>by
  simp only [rf]at h;cases hi:T ty with
  |none=>simp [hi,M.run]at h
  |some i=>
   simp only [hi]at h;split at h
   .rename_i b off hx
    obtain⟨cs,f,hb,h⟩:=M.nY h;obtain⟨s,h⟩:=M.aP h;have s:=Ε s;obtain⟨vs,us,f,m,p,q⟩:=Hp d j g rs h;have r:=g c;rw [hx]at r;simp only [aV,aB]at r;obtain⟨arr,af,frz,k1,k2,k3⟩:=j.boxes b cs hb;have hlen:=k3.length;obtain⟨u,q1,q2⟩:=Qz (P:=P) (d.eY ty i hi) k1 (off:=off) (by simp at hlen;omega)
    refine⟨_,u::us,f,m, ?_, ?_⟩
    .simp only [ch]
     exact⟨_,_,rfl,GI ((k3.drop off).take i.size) q2,p⟩
    .simp [ο,tp,r.1.2,asAddr,q1,q]
   .simp [M.run]at h
def pS:List Value->Value
 | [u]=>u
 |us=>.tuple us.toArray
theorem Hq {fn:Func} {us:List Value} (h:(fn.results.toList.mapM (tp a.tmps)).run P w=.ok us w):(results fn a.tmps).run P w=.ok (pS us) w:=by
 have e:results fn a.tmps=(fn.results.mapM (tp a.tmps) >>=fun vs=>pure (if h:vs.size=1 then vs[0]else .tuple vs)):=by
  unfold results;congr 1
 rw [e];simp only [Array.mapM_eq_mapM_toList,Sem.run_bind,Sem.run_map,h,Result.andThen_ok];match us with
 | []=>simp [pS]
 | [u]=>simp [pS]
 |u::v::us=>simp [pS]
theorem agU {H:Heap}: ∀ {vs:List TV} {us:List Value},ch H R st θ vs us->aV H R st θ (zM vs) (pS us)
 | [],us,h=>by
  simp only [ch]at h;subst h;simp only [zM,aV,ch,pS];exact⟨#[],rfl,rfl⟩
 | [v],us,h=>by
  simp only [ch]at h;obtain⟨u,g,rfl,d,rfl⟩:=h;exact d
 |v::k::vs,us,h=>by
  have f:=h;simp only [ch]at f;obtain⟨u,i,rfl,d,j,b,rfl,m,p⟩:=f;simp only [zM,aV,pS];exact⟨(u::j::b).toArray,rfl,h⟩
theorem RH: ∀ {bx:List (Nat×List CK)} {bH:List (List CK)} {p:Nat×List CK},p∈dF bx bH-> ∃q∈bx,q.1=p.1
 | [],_,p,h=>by simp [dF]at h
 |_::_,[],p,h=>by simp [dF]at h
 |(m,ks)::bx,f::bH,p,h=>by
  simp only [dF,Ê]at h;rcases h with rfl|h
  .exact⟨(m,ks),Ż,rfl⟩
  .obtain⟨q,b,d⟩:=RH h
   exact⟨q,ũ,d⟩
theorem RI {z:List DV} (g:Inv w0 F R si θ w): ∀(bx:List (Nat×List CK)) (bH:List (List CK)) {sc st':St} {l:Log} {fps:List Nat} {s:CS} {L:Env} {K:CS->M (List DV)},bL w0 F R θ w si sc fps->eZ si θ s L->
  (pD bx bH s K).run sc=ã (z,st',l)->gO w0 F R θ w si fps s L K z st' (fun s' ds A=>bY (hp w) (Rl R θ s'.cj) (Bl θ s'.bm) ä θ.bx L (dF bx bH) ds A)
 | [],[],sc,st',l,fps,s,L,K,b,d,h=>by
  simp only [pD]at h;exact kD b d h (by simp only [dF,bY];exact⟨trivial,trivial⟩)
 | [],_::_,sc,st',l,fps,s,L,K,b,d,h=>by simp [pD,M.run]at h
 |_::_,[],sc,st',l,fps,s,L,K,b,d,h=>by simp [pD,M.run]at h
 |(m,k0)::rest,ks::bH,sc,st',l,fps,s,L,K,b,d,h=>by
  simp only [pD]at h;obtain⟨cs,q,f,h⟩:=M.nY h;rw [b.boxes]at f;obtain⟨arr,ty,frz,k1,k2,k3⟩:=g.boxes m cs f;obtain⟨s1,r,A1,d1,q,h,i,t,u,c1,r1⟩:=rp g ks b d k3 h;obtain⟨s2,j,A2,d2,l2,h,k,e2,p,c2,r2⟩:=RI g rest bH i c1 h;refine⟨s2,j,A1++A2,d1++d2,l2,h,by rw [Env.dm,<-Ä];exact k,by rw [e2,t];simp,u.trans p,ş, ?_⟩
  simp only [dF,bY];exact⟨arr,ty,frz,d1,d2,A1,A2,rfl,rfl,k1,k2,r1.mono p.rl p.bl,r2⟩
theorem wi {m b:Nat}: ∀ {bx:List (Nat×List CK)},look m (pE bx)=ã b->b=m
 | [],h=>by simp [pE,look]at h
 |(a,_)::bx,h=>by
  simp only [pE,Ò,look]at h;cases e:Ι a m with
  |true=>
   rw [e]at h;simp only [Y,Å]at h;rw [<-h,Â e]
  |false=>rw [e]at h;exact wi h
theorem RJ {m:Nat}: ∀ {bx:List (Nat×List CK)},m∈bx.map (·.1)->look m (pE bx)=ã m
 | [],h=>ņ
 |(a,_)::bx,h=>by
  simp only [pE,Ò,look];cases e:Ι a m with
  |true=>rw [Â e];rfl
  |false=>
   simp only [Ò,Ê]at h;rcases h with rfl|h
   .simp at e
   .exact RJ h
def Hr (P:Program) (E:Entry) (w0:World) (F R:Nat->Prop) (bl:Nat->Nat) (nt:Nt) (x:bK E.bz) (a:Act) (w:World):Prop:=
 a.defers=[]/\Sz nt a/\match E.back with
  |none=> ∃u,(results E.fn a.tmps).run P w=.ok u w/\match E.lj with
   |false=>jP E w0 w F R bl x u
   |true=>Ha E w0 w F R bl x u
  |some t=>(results E.fn a.tmps).run P w=.ok (.tuple #[]) w/\jP E w0 w F R bl x (a.tmps.getD t undef)
theorem Hs {E:Entry} {bl:Nat->Nat} {nt:Nt} (bc:Ok P T) (hE:kE E=å) {R':Type} (ks:Ks (bK E.bz) R') (st:St) (θ:Asg) (w:World) (a:Act) (r:R') (h:ri T E ks st=ã r) (d:Good w0 F R E bl nt st θ w a):
  ∃x,ks.fin x=ã r/\Hr P E w0 F R bl nt x a w:=by
 unfold ri at h;obtain⟨ds,st1,l0,l',ah,hK, -, -⟩:=M.kZ _ _ _ _ _ h;rw [Ð]at hK;obtain⟨x,hx,hK⟩:=hK;unfold Ql at ah;obtain⟨vs,us,l1,k,s,f⟩:=Hp (P:=P) bc d.inv d.tm _ ah;cases z:E.lj with
 |true=>
  simp only [kE,À]at hE;obtain⟨bd,bf,aj,av,ad,ak,af,al⟩:=hE;rw [z]at al;simp only [Τ,Ý,À,Ζ,Option.isNone_iff_eq_none]at al;obtain⟨aw,ax⟩:=al;have bg:E.bH=[]:=by rw [aw]at ak;exact Õ (Â ak).symm
  simp only [GD,z]at k;split at k
  .rename_i b
   obtain⟨cs,l2,ay,k⟩:=M.nY k;obtain⟨arr,ty,frz,k1,k2,k3⟩:=d.inv.boxes b cs ay;have c0:eZ st θ ⟨[],[],pE E.bx,ä,[]⟩ []:=⟨fun m n v wv h=>é,fun m b h=>.inr rfl,fun m m' b h h'=>(wi h).symm.trans (wi h')⟩
   obtain⟨s1,bk,A1,d1,l2,h2,i,e1,x1,c1,r1⟩:=Ah d.inv E.outs (bL.refl d.inv) c0 (show aV (hp w) R st θ (.agg cs) (.agg arr) by simp only [aV];exact⟨arr,rfl,k3⟩) k
   rw [aw,bg]at h2;simp only [pD]at h2;obtain⟨rfl,rfl⟩:=M.gn h2;have aq:s1.cj=[]:=x1.pN rfl;have ag: ∀b,Rl R θ s1.cj b->R b:=fun b j=>by
    rw [aq]at j;exact j.resolve_right Ń
   have a1:(st.boxes b).isSome=å:=by rw [ay];rfl
   have bq:us=[.pointer (ã ⟨θ.bx b,0,none⟩)]:=by
    simp only [ch,aV,aB]at s;obtain⟨u,ca,rfl,⟨⟨-,rfl⟩, -⟩,rfl⟩:=s;rfl
   have e:rh E=[]:=by unfold rh;rw [ax]
   rw [e,Æ,bq]at f;refine⟨x,hK,d.defers,d.size, ?_⟩
   rw [ax];refine⟨_,Hq f, ?_⟩
   rw [z];refine⟨θ.bx b,arr,ty,frz,d1,A1,rfl,k1,k2,d.inv.own _ (.inl ⟨b,a1,rfl⟩),fun hm=>i.free _ Ş (.inl ⟨b,by rw [i.boxes];exact a1,rfl⟩),d.inv.size,d.inv.same,d.inv.os,d.inv.tape,d.inv.out, ?_,bU.up (pb:=false) (fun e=>by cases e) aj (r1.mono ag (fun _ _ h=>h)),by simpa using i.nodup,fun c hc=>d.inv.own c (i.was c (by simpa using hc))⟩
   rw [Aq hx,th,e1];simp
  .simp [M.run]at k
 |false=>
 simp only [GD,z]at k;have c0:eZ st θ ⟨[],[],pE E.bx,ä,[]⟩ []:=⟨fun m n v wv h=>é,fun m b h=>.inr rfl,fun m m' b h h'=>(wi h).symm.trans (wi h')⟩
 obtain⟨s1,bk,A1,d1,l2,h2,i,e1,x1,c1,r1⟩:=Ah d.inv E.outs (bL.refl d.inv) c0 (agU s) k;obtain⟨s2,cb,A2,d2,l3,h3,ae,e2,x2,c2,r2⟩:=RI d.inv E.bx E.bH i c1 h2;obtain⟨rfl,rfl⟩:=M.gn h3;have aq:s2.cj=[]:=by rw [x2.pN x1.jM,x1.pN rfl]
 have ag: ∀b,Rl R θ s2.cj b->R b:=fun b j=>by
  rw [aq]at j;exact j.resolve_right Ń
 simp only [kE,À]at hE;obtain⟨bd,bf,aj,av,ad,ak,af, -⟩:=hE;have ad:=of_decide_eq_true ad;have bs:([]++Env.fps A1)++Env.fps A2=Env.fps (A1++A2):=by rw [Env.dm];rfl
 rw [bs]at ae;have k1:=(r1.mono x2.rl x2.bl).mono ag (fun _ _ h=>h)
 have k2:=r2.mono ag (fun _ _ h=>h)
 have ai:jP E w0 w F R bl x (pS us):=by
  refine⟨d.inv.size,d.inv.same,d.inv.os,d.inv.tape,d.inv.out,d1,A1,d2,A2, ?_,bU.up (pb:=false) (fun e=>by cases e) aj k1, ?_, ?_, ?_⟩
  .rw [Aq hx,th,e2,e1];simp
  .refine bY.ext (bl:=θ.bx) (fun p hp=> ?_) (bY.oa (N:=E.bx.map (·.1)) (B':=eP bl) (fun m hm g hg=> ?_) av k2)
   .obtain⟨q,hq,e⟩:=RH hp
    rw [<-e];exact((d.pins q hq).2).symm
   .obtain⟨b,k,h2⟩:=hg
    rw [x2.bm _ _ (x1.bm _ _ (RJ hm))]at k;obtain⟨q,hq,rfl⟩:=È.1 hm;cases k;exact(d.pins q hq).2.symm.trans h2
  .refine Ã.2 ⟨ae.nodup, ?_,fun b j c hc e=> ?_⟩
   .rw [Ó,Γ]at ad |-
    refine Ü ?_ ad
    intro p q hp hq bt heq;rw [<-(d.pins p hp).2,<-(d.pins q hq).2]at heq;exact bt (d.inv.bb _ _ (d.pins p hp).1 (d.pins q hq).1 heq)
   .subst e
    obtain⟨p,hp,rfl⟩:=È.1 hc;exact ae.free _ j (.inl ⟨p.1,by rw [ae.boxes];exact(d.pins p hp).1,(d.pins p hp).2⟩)
  .intro b j
   exact d.inv.own b (ae.was b j)
 refine⟨x,hK,d.defers,d.size, ?_⟩
 cases j:E.back with
 |none=>
  have e:rh E=[]:=by unfold rh;rw [j]
  rw [e,Æ]at f;exact⟨_,Hq f,by rw [z];exact ai⟩
 |some t=>
  have e:rh E=[.tmp t]:=by unfold rh;rw [j]
  rw [j]at af;simp only [σ,Ý,À,Array.isEmpty_iff]at af;have a6:E.fn.results.toList=[]:=by rw [af.2]
  rw [e,a6,Η]at f;simp only [ο,List.mapM_nil,tp,Sem.run_bind,Sem.run_pure,Result.andThen_ok,Result.ok.injEq,and_true]at f;subst f;exact⟨Hq (us:=[]) (by rw [a6];simp),ai⟩
theorem Inv.init (f: ∀b,R b->b<w.heap.size/\ ¬F b) (θ:Asg):Inv w F R eG θ w:=
 ⟨Ξ _,fun _ _ _=>rfl,rfl,rfl,rfl,f,fun b cs h=>ė,fun k d h=>ė,fun b b' h=>ė,fun b k h=>ė,fun k k' g h=>ė,fun g h=>by
  rcases h with⟨b,h, -⟩|⟨k,h, -⟩<;>simp [eG]at h⟩
def tq (E:Entry):List Nat:=match E.back with|some t=>[t]|none=>[]
def wj (E:Entry):Bool:=(match E.fn.body with|some c=>codeOk E.fn.ntmps (tq E) c|none=>å)&&(wh E.bx E.loops&&Nat.ble E.ins.length E.fn.ntmps)
theorem agV {E:Entry} {call:FuncId->List TV->Nat->M TV} {n:Nat} (q:Ok P T) (s:P.follows .mixedOrders=å) {gl:bA} (af: ∀w0 F R,pR gl w0 F->wg P (dq T call) w0 F R) (hE:kE E=å) (u:wj E=å) (hP:P.funcs[E.f]? =ã E.fn)
  {ds:List DV} {r:bK E.bz} (h:GF T call E n ds=ã r):cR P gl E ds r:=by
 intro w F R bl args dB dA AB AA ag aq g;unfold GF at h;split at h
 .rename_i c j
  simp only [wj,j,À]at u;obtain⟨f1,f2,f3⟩:=u;have f3:=Ε f3;have z:=hE;simp only [kE,À]at z;have ar:=of_decide_eq_true z.2.2.2.2.1;refine calls_of_wp hP j ?_
  have k: ∀t,(args++Θ (E.fn.ntmps-args.size) undef).getD t undef=args.getD t undef:=fun t=>by
   simp only [Á,Array.getElem?_append]
   split
   .rfl
   .rename_i au
    rw [Array.getElem?_eq_none (xs:=args) ž]
    simp only [Array.getElem?_replicate]
    split<;>rfl
  let nt:Nt:=⟨E.fn.ntmps,(tq E).map fun t=>(t,args.getD t undef)⟩
  have ah:nt.keep.map (·.1)=tq E:=by
   show((tq E).map fun t=>(t,args.getD t undef)).map (·.1)=tq E
   rw [Ω];exact List.map_id _
  have ai:Rd w F R E bl nt ⟨jk 0 E.ins,E.bx⟩ ds {tmps:=args++Θ (E.fn.ntmps-args.size) undef,defers:=[]} w:=by
   refine⟨⟨by simp [nt];omega,fun p hp=> ?_⟩,rfl,å,bl,dB,dA,AB,AA,⟨bl,fun _=>undef,fun _=>[]⟩,ag,Inv.init g.rd _,g.kb, ?_,g.nd,fun b hb=>.inl (g.own b hb),fun _ _=>rfl⟩
   .obtain⟨t, -,rfl⟩:=È.1 hp
    exact k t
   .simp only [k]
    exact g.kt
  obtain⟨st,θ,h1,m⟩:=Hn ai (fun p hp=>È.2 ⟨p,hp,rfl⟩) h
  have d: ∀(x:bK E.bz) (a:Act) (w':World),x=r->Hr P E w F R bl nt x a w'->a.defers=[]/\ ∃v,(results E.fn a.tmps).run P w'=.ok v w'/\(match E.back with
    |none=>match E.lj with
     |false=>jP E w w' F R bl r v
     |true=>Ha E w w' F R bl r v
    |some t=>v=.tuple #[]/\jP E w w' F R bl r (args.getD t undef)):=fun x a w' e hf=>by
   subst e;obtain⟨f1,f2,f3⟩:=hf;refine⟨f1, ?_⟩
   cases hb:E.back with
   |none=>rw [hb]at f3;exact f3
   |some t=>
    rw [hb]at f3;have hk:a.tmps.getD t undef=args.getD t undef:=f2.2 (t,args.getD t undef) (by simp [nt,tq,hb])
    simp only [hk]at f3;exact⟨_,f3.1,rfl,f3.2⟩
  refine rC (E:=E) (Fin:=Hr P E w F R bl nt) s (af w F R g.gl) f2 (fun ks st θ w a r h m=>Hs q hE ks st θ w a r h m) c (by rw [ah];exact f1) h1 m ⟨fun st θ w a h m=> ?_,fun i st θ w a h m=> ?_,fun st θ w a h m=> ?_,fun x w a h hf=> ?_⟩
  .obtain⟨x,hx,hF⟩:=Hs q hE _ _ _ _ _ _ h m
   exact d x a w (Α hx) hF
  .simp [Qm]at h
  .obtain⟨x,hx,hF⟩:=Hs q hE _ _ _ _ _ _ h m
   exact d x a w (Α hx) hF
  .exact d x a w (Α h) hf
 .cases h
structure Ht (P:Program) (gl:bA) (T:TypeId->Option TyI) (tab:Nat->Entry):Prop where
 ok:Ok P T
 mix:P.follows .mixedOrders=å
 entry: ∀e,kE (tab e)=å
 fn: ∀e,wj (tab e)=å
 f: ∀e,P.funcs[(tab e).f]? =ã (tab e).fn
 name: ∀e,((tab e).fn.name== "runtime.NumGoroutine")=ä
 body: ∀e,(tab e).fn.body.isNone=ä
 bT: ∀e p,(tab e).bT=ã p-> ∀ds r,p ds=ã r->cR P gl (tab e) ds r
theorem RL {tab:Nat->Entry} {iL:FuncId->List Nat} {gl:bA} (h:Ht P gl T tab): ∀(n e:Nat) (ds:List DV) (r:bK (tab e).bz),D T tab iL n e ds=ã r->cR P gl (tab e) ds r
 |0,e,ds,r,b=>by simp [D]at b
 |n+1,e,ds,r,b=>by
  simp only [D]at b;split at b
  .rename_i p hp
   exact h.bT e p hp ds r b
  .refine agV h.ok h.mix (fun w0 F R g=> ?_) (h.entry e) (h.fn e) (h.f e) b
   intro st st' θ w a o v l i j d;exact agF h.ok g (RL h n) h.entry (fun e=>⟨(tab e).fn,h.f e,h.name e,h.body e⟩) i j d
end
end Go.Ev
