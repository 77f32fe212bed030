/- A verified evaluator of the machine's code, part 3: no program in sight. -/
import Derived.Test.YtfpfjmahdneehaaGreatDoorEv2
namespace Go.Ev
theorem tT: ∀xs ys:List DV,pH xs ys=xs.reverse++ys
 | [],ys=>rfl
 |x::xs,ys=>by rw [pH,tT xs];simp
section
variable (H:Heap) (R:Nat→Prop) (B:Nat→Nat→Prop) (nal:Bool)
def bQ (bl:Nat→Nat):Env→List (Nat×List CK)→List DV→Env→Prop
 |_,[],ds,A=>ds=[]∧A=[]
 |L,(m,ks)::rest,ds,A=> ∃arr ty frz d1 d2 A1 A2,ds=d1++d2∧A=A1++A2∧H (bl m)=some (.cells arr ty frz)∧ig arr.size frz∧
   bn H R B nal L (nH m) 0 ks d1 arr.toList A1∧bQ bl (L++A1) rest d2 A2
def dP (val:Nat→Value):Env→List (Nat×bh)→List DV→Env→Prop
 |_,[],ds,A=>ds=[]∧A=[]
 |L,(t,k)::rest,ds,A=> ∃d1 d2 A1 A2,ds=d1++d2∧A=A1++A2∧bT H R B nal L (fD t) k d1 (val t) A1∧dP val (L++A1) rest d2 A2
end
section
variable {H:Heap} {R R':Nat→Prop} {B B':Nat→Nat→Prop} {nal:Bool}
theorem bQ.mono (d: ∀b,R b→R' b) (f: ∀m g,B m g→B' m g) {bl:Nat→Nat}: ∀ {bx:List (Nat×List CK)} {L:Env} {ds:List DV} {A:Env},bQ H R B nal bl L bx ds A→bQ H R' B' nal bl L bx ds A
 | [],_,_,_,h=>h
 |(m,ks)::rest,_,_,_,h=>by
  simp only [bQ]at h ⊢;obtain⟨arr,ty,frz,d1,d2,A1,A2,i,j,k,p,q,r⟩:=h;exact⟨arr,ty,frz,d1,d2,A1,A2,i,j,k,p,q.mono d f,r.mono d f⟩
theorem dP.mono (d: ∀b,R b→R' b) (f: ∀m g,B m g→B' m g) {val:Nat→Value}: ∀ {ts:List (Nat×bh)} {L:Env} {ds:List DV} {A:Env},dP H R B nal val L ts ds A→dP H R' B' nal val L ts ds A
 | [],_,_,_,h=>h
 |(m,ks)::rest,_,_,_,h=>by
  simp only [dP]at h ⊢;obtain⟨d1,d2,A1,A2,i,j,k,p⟩:=h;exact⟨d1,d2,A1,A2,i,j,k.mono d f,p.mono d f⟩
end
section
variable {w0 w:World} {F R:Nat→Prop} {si:St} {θ:Asg} {β:Type} {y:β}
theorem LN (q:Inv w0 F R si θ w) (val:Nat→Value): ∀(ks:List bh) {t:Nat} {sc st':St} {l:Log} {fps:List Nat} {s:CS} {L:Env} {cs:List TV} {K:CS→M β},bI w0 F R θ w si sc fps→eV si θ s L→(∀i c,cs[i]? =some c→aT (hp w) R si θ c (val (t+i)))→
  (pD t ks cs s K).run sc=some (y,st',l)→gn w0 F R θ w si fps s L K y st' (fun s' ds A=>dP (hp w) (Rl R θ s'.cr) (Bl θ s'.bm) false val L (gm t ks) ds A∧cs.length=ks.length)
 | [],t,sc,st',l,fps,s,L,cs,K,b,d,f,h=>by
  cases cs with
  |cons _ _=>simp [pD,M.run]at h
  |nil=>
   simp only [pD]at h;exact jy b d h ⟨by simp only [gm,dP];exact⟨trivial,trivial⟩,rfl⟩
 |k::ks,t,sc,st',l,fps,s,L,cs,K,b,d,f,h=>by
  cases cs with
  |nil=>simp [pD,M.run]at h
  |cons c cs=>
   simp only [pD]at h;obtain⟨s1,r,A1,d1,l1,h,g,u,z,c1,r1⟩:=CX q k b d (f 0 c rfl) h;obtain⟨s2,j,A2,d2,l2,h,m,e2,p,c2,r2,r3⟩:=LN q val ks (t:=t+1) g c1 (fun i c' hi=>by
    have:=f (i+1) c' (by simpa using hi)
    rwa [Nat.add_assoc,Nat.add_comm 1 i]) h
   refine⟨s2,j,A1++A2,d1++d2,l2,h,by rw [Env.di,←List.append_assoc];exact m,by rw [e2,u];simp,z.trans p,by rw [←List.append_assoc];exact c2, ?_,by simp [r3]⟩
   simp only [gm,dP];exact⟨d1,d2,A1,A2,rfl,rfl,r1.mono p.rl p.bl,r2⟩
theorem LO (m:Inv w0 F R si θ w) (val:Nat→Value) {tmps:Nat→TV} (p: ∀t,aT (hp w) R si θ (tmps t) (val t)): ∀(ks:List (Nat×bh)) {sc st':St} {l:Log} {fps:List Nat} {s:CS} {L:Env} {K:CS→M β},bI w0 F R θ w si sc fps→eV si θ s L→
  (tI tmps ks s K).run sc=some (y,st',l)→gn w0 F R θ w si fps s L K y st' (fun s' ds A=>dP (hp w) (Rl R θ s'.cr) (Bl θ s'.bm) false val L ks ds A)
 | [],sc,st',l,fps,s,L,K,b,d,h=>by
  simp only [tI]at h;exact jy b d h (by simp only [dP];exact⟨trivial,trivial⟩)
 |(t,k)::ks,sc,st',l,fps,s,L,K,b,d,h=>by
  simp only [tI]at h;obtain⟨s1,q,A1,d1,l1,h,f,r,u,c1,z⟩:=CX m k b d (p t) h;obtain⟨s2,g,A2,d2,l2,h,i,e2,j,c2,r2⟩:=LO m val p ks f c1 h;refine⟨s2,g,A1++A2,d1++d2,l2,h,by rw [Env.di,←List.append_assoc];exact i,by rw [e2,r];simp,u.trans j,by rw [←List.append_assoc];exact c2, ?_⟩
  simp only [dP];exact⟨d1,d2,A1,A2,rfl,rfl,z.mono j.rl j.bl,r2⟩
def fl (θ:Asg) (bm:List (Nat×Nat)) (m:Nat):Nat:=θ.bx ((look m bm).getD 0)
theorem bQ.ext {H:Heap} {B:Nat→Nat→Prop} {nal:Bool} {bl jV:Nat→Nat}: ∀ {bx:List (Nat×List CK)} {L:Env} {ds:List DV} {A:Env},(∀p∈bx,jV p.1=bl p.1)→bQ H R B nal bl L bx ds A→bQ H R B nal jV L bx ds A
 | [],_,_,_,_,h=>h
 |(m,ks)::rest,_,_,_,he,h=>by
  simp only [bQ]at h ⊢;obtain⟨arr,ty,frz,d1,d2,A1,A2,b,d,f,g,i,j⟩:=h;exact⟨arr,ty,frz,d1,d2,A1,A2,b,d,by rw [he (m,ks) (by simp)];exact f,g,i,j.ext (fun p hp=>he p (by simp [hp]))⟩
theorem CZ (j:Inv w0 F R si θ w): ∀(bx:List (Nat×List CK)) {sc st':St} {l:Log} {fps:List Nat} {s:CS} {L:Env} {K:CS→M β},bI w0 F R θ w si sc fps→eV si θ s L→
  (qW bx s K).run sc=some (y,st',l)→gn w0 F R θ w si fps s L K y st' (fun s' ds A=>bQ (hp w) (Rl R θ s'.cr) (Bl θ s'.bm) false (fl θ s'.bm) L bx ds A∧ ∀p∈bx,∃b,look p.1 s'.bm=some b∧(si.boxes b).isSome=true)
 | [],sc,st',l,fps,s,L,K,g,k,h=>by
  simp only [qW]at h;exact jy g k h ⟨by simp only [bQ];exact⟨trivial,trivial⟩,by simp⟩
 |(m,ks)::rest,sc,st',l,fps,s,L,K,g,k,h=>by
  simp only [qW]at h;cases q:look m s.bm with
  |none=>simp [q,M.run]at h
  |some b=>
   simp only [q]at h;obtain⟨cs,l1,d,h⟩:=M.pP h;rw [g.boxes]at d;obtain⟨arr,ty,frz,k1,k2,k3⟩:=j.boxes b cs d;obtain⟨s1,ae,A1,d1,l1,h,r,e1,z,c1,r1⟩:=pU j ks g k k3 h;obtain⟨s2,t,A2,d2,l2,h,u,e2,i,c2,r2,r3⟩:=CZ j rest r c1 h;have f:look m s2.bm=some b:=i.bm m b (z.bm m b q);refine⟨s2,t,A1++A2,d1++d2,l2,h,by rw [Env.di,←List.append_assoc];exact u,by rw [e2,e1];simp,z.trans i,by rw [←List.append_assoc];exact c2, ?_,fun p hp=> ?_⟩
   ·simp only [bQ]
    exact⟨arr,ty,frz,d1,d2,A1,A2,rfl,rfl,by simpa [fl,f]using k1,k2,r1.mono i.rl i.bl,r2⟩
   ·rcases List.mem_cons.1 hp with rfl|hp
    ·exact⟨b,f,by simp [d]⟩
    ·exact r3 p hp
theorem Da (p:Inv w0 F R si θ w): ∀(ks:List CK) (cs:List Cell) {vs:List Value} {sc st':St} {l:Log} {fps:List Nat} {s:CS} {L:Env} {K:CS→M β},bI w0 F R θ w si sc fps→eV si θ s L→aH (hp w) R si θ cs vs→
  (mF ks cs s K).run sc=some (y,st',l)→ ∃s' f t,(K s').run f=some (y,st',t)∧bI w0 F R θ w si f fps∧s'.dv=s.dv∧fS s s'∧eV si θ s' L
 |k::ks,c::cs,vs,sc,st',l,fps,s,L,K,b,d,g,h=>by
  simp only [aH]at g;obtain⟨v,z,rfl,hv,i⟩:=g;cases k with
  |pb m off=>
   simp only [mF]at h;obtain⟨s1,ae,A1,d1,t,h,j,e1,x1,c1,u⟩:=xA p (.pb m off) b d hv.1 h;simp only [aq]at u;obtain⟨rfl,rfl, -⟩:=u;simp only [Env.fps,List.flatMap_nil,List.append_nil]at j;simp only [List.append_nil]at c1;obtain⟨s2,q,l2,h,r,e2,x2,c2⟩:=Da p ks cs j c1 i h;exact⟨s2,q,l2,h,r,by rw [e2,e1];rfl,x1.trans x2,c2⟩
  |_=>simp only [mF]at h;exact Da p ks cs b d i h
 | [],[],vs,sc,st',l,fps,s,L,K,b,d,g,h=>by simp only [mF]at h;exact⟨s,sc,l,h,b,rfl,fS.refl s,d⟩
 | [],_::_,vs,sc,st',l,fps,s,L,K,b,d,g,h=>by simp only [mF]at h;exact⟨s,sc,l,h,b,rfl,fS.refl s,d⟩
 |k::_,[],vs,sc,st',l,fps,s,L,K,b,d,g,h=>by
  cases k<;>simp only [mF]at h<;>exact⟨s,sc,l,h,b,rfl,fS.refl s,d⟩
theorem LP (i:Inv w0 F R si θ w): ∀(bx:List (Nat×List CK)) {sc st':St} {l:Log} {fps:List Nat} {s:CS} {L:Env} {K:CS→M β},bI w0 F R θ w si sc fps→eV si θ s L→
  (tD bx s K).run sc=some (y,st',l)→ ∃s' f j,(K s').run f=some (y,st',j)∧bI w0 F R θ w si f fps∧s'.dv=s.dv∧fS s s'∧eV si θ s' L
 | [],sc,st',l,fps,s,L,K,k,p,h=>by simp only [tD]at h;exact⟨s,sc,l,h,k,rfl,fS.refl s,p⟩
 |(m,ks)::rest,sc,st',l,fps,s,L,K,k,p,h=>by
  simp only [tD]at h;obtain⟨s1,q,j,h,d,u,z,c1⟩:=LP i rest k p h;cases hb:look m s1.bm with
  |none=>simp only [hb]at h;exact⟨s1,q,j,h,d,u,z,c1⟩
  |some b=>
   simp only [hb]at h;obtain⟨cs,l2,g,h⟩:=M.pP h;rw [d.boxes]at g;obtain⟨arr,ty,frz,k1,k2,k3⟩:=i.boxes b cs g;obtain⟨s2,r,l3,h,t,e2,x2,c2⟩:=Da i ks cs d c1 k3 h;exact⟨s2,r,l3,h,t,e2.trans u,z.trans x2,c2⟩
end
end Go.Ev
namespace Go.Ev
section
variable {w0 w:World} {F R:Nat→Prop} {st:St} {θ:Asg}
theorem Inv.Xy (h:Inv w0 F R st θ w) {b g:Nat} (hb:st.boxes b=none) {cs:List Cell} {arr:Array Value} {ty:TypeId} {frz:Nat×Nat} (hg:hp w g=some (.cells arr ty frz)) (hz:ig arr.size frz)
  (hr:aH (hp w) R st θ cs arr.toList) (t: ¬cS st θ g) (hF:F g∨w0.heap.size≤g):
  Inv w0 F R {st with boxes:=aR st.boxes b (some cs)} {θ with bx:=aR θ.bx b g} w∧Step R st θ (hp w) {st with boxes:=aR st.boxes b (some cs)} {θ with bx:=aR θ.bx b g} (hp w):=by
 have u: ∀b',(st.boxes b').isSome=true→b'≠b:=fun b' m e=>by subst e;simp [hb]at m
 have s:Step R st θ (hp w) {st with boxes:=aR st.boxes b (some cs)} {θ with bx:=aR θ.bx b g} (hp w):=by
  refine⟨fun _ _=>rfl,fun b' m=> ?_,fun k=>.inl ⟨rfl,fun hk=>⟨rfl,rfl,fun _ _=>rfl⟩⟩⟩
  simp only [aW _ _ (u b' m)];exact⟨m,trivial⟩
 refine⟨h.next s (Nat.le_refl _) rfl rfl rfl (fun _ _ e=>absurd rfl e) ?_ (fun k d hd=>.inl ⟨hd,rfl,rfl,fun _ _=>rfl⟩) ?_ ?_ h.oo ?_,s⟩
 ·intro b' ak f
  by_cases e:b'=b
  ·subst e
   simp only [bA,Option.some.injEq]at f;subst f;exact .inr ⟨arr,ty,frz,by simp only [bA];exact hg,hz,aH.step s _ _ hr⟩
  ·simp only [aW _ _ e]at f
   exact .inl ⟨f,rfl⟩
 ·intro p z i q e
  by_cases j:p=b<;>by_cases r:z=b
  ·rw [j,r]
  ·subst j
   simp only [aW _ _ r,bA]at q e;exact absurd (.inl ⟨z,q,e.symm⟩) t
  ·subst r
   simp only [aW _ _ j,bA]at i e;exact absurd (.inl ⟨p,i,e⟩) t
  ·simp only [aW _ _ j,aW _ _ r]at i q e
   exact h.bb p z i q e
 ·intro p k i hk
  by_cases j:p=b
  ·subst j
   simp only [bA];intro ad;exact t (.inr ⟨k,hk,ad⟩)
  ·simp only [aW _ _ j]at i ⊢
   exact h.bo p k i hk
 ·rintro g' (⟨p,i,rfl⟩|⟨k,hk,ae⟩)
  ·by_cases j:p=b
   ·subst j;simp only [bA];exact hF
   ·simp only [aW _ _ j]at i ⊢
    exact h.own _ (.inl ⟨p,i,rfl⟩)
  ·exact h.own _ (.inr ⟨k,hk,ae⟩)
theorem Inv.drop (h:Inv w0 F R st θ w) (θ':Asg):Inv w0 F R eA θ' w where
 size:=h.size
 same:=h.same
 os:=h.os
 tape:=h.tape
 out:=h.out
 rd:=h.rd
 boxes:=fun b cs f=>by simp [eA]at f
 aj:=fun k d hd=>by simp [eA]at hd
 bb:=fun b b' f=>by simp [eA]at f
 bo:=fun b k f=>by simp [eA]at f
 oo:=fun k k' g hk=>by simp [eA]at hk
 own:=fun g i=>by
  rcases i with⟨b,f, -⟩|⟨k,hk, -⟩
  ·simp [eA]at f
  ·simp [eA]at hk
theorem LQ {θ:Asg} {g:Nat}: ¬cS eA θ g:=by
 rintro(⟨b,d, -⟩|⟨k,hk, -⟩)
 ·simp [eA]at d
 ·simp [eA]at hk
end
section
variable {w0 w:World} {F R:Nat→Prop} {B:Nat→Nat→Prop} {nal:Bool} {β:Type} {bl:Nat→Nat}
structure mH (w0:World) (F R:Nat→Prop) (nal:Bool) (bl:Nat→Nat) (w:World) (su:St) (θ:Asg) (L:Env):Prop where
 inv:Inv w0 F R su θ w
 env:nal=false→ ∀e∈L,(su.aj e.1).bg.isSome=true∧θ.ob e.1=e.2.1∧θ.fp e.1=e.2.2
 bx: ∀m,(su.boxes m).isSome=true→θ.bx m=bl m
theorem mH.u (d: ∀m g,B m g→bl m=g) {su:St} {θ:Asg} {L:Env} (h:mH w0 F R nal bl w su θ L):iq w0 F R B nal su.boxes w su θ L:=
 ⟨h.inv,h.env,fun m g f b=>⟨b,(h.bx m b).trans (d m g f)⟩⟩
theorem fc.sub {st:St} {θ:Asg} {l l':List Nat} (h:fc w0 F st θ l) (b:l'.Sublist l):fc w0 F st θ l':=
 ⟨h.nodup.sublist b,fun g d=>h.free g (b.subset d)⟩
theorem LR (hB: ∀m g,B m g→bl m=g): ∀(bx:List (Nat×List CK)) {su st':St} {θ:Asg} {L:Env} {ds rest:List DV} {A:Env} {K:List DV→M β} {y:β} {l:Log},mH w0 F R nal bl w su θ L→bQ (hp w) R B nal bl L bx ds A→fc w0 F su θ (A.fps++bx.map fun p=>bl p.1)→
  (tK bx (ds++rest) K).run su=some (y,st',l)→ ∃j θ' l1,(K rest).run j=some (y,st',l1)∧mH w0 F R nal bl w j θ' (L++A)∧(∀p∈bx,(j.boxes p.1).isSome=true)∧(∀m,(su.boxes m).isSome=true→(j.boxes m).isSome=true)∧
   ∀g,cS j θ' g→cS su θ g∨g∈A.fps∨g∈bx.map fun p=>bl p.1
 | [],su,st',θ,L,ds,rest,A,K,y,l,hu,hk,t,h=>by
  simp only [bQ]at hk;obtain⟨rfl,rfl⟩:=hk;simp only [List.nil_append,tK]at h;exact⟨su,θ,l,h,by simpa using hu,by simp,fun _ h=>h,fun _ h=>.inl h⟩
 |(b,ks)::bx,su,st',θ,L,ds,rest,A,K,y,l,hu,hk,t,h=>by
  simp only [bQ]at hk;obtain⟨arr,ty,frz,d1,d2,A1,A2,rfl,rfl,h1,h2,h3,h4⟩:=hk;simp only [tK,List.append_assoc]at h;rw [Env.di]at t;simp only [List.map_cons]at t;have ah:fc w0 F (su.cY su.boxes) θ A1.fps:=t.sub (by simp [List.append_assoc])
  obtain⟨cs,f,θ1,l1,h,b1,t1,u1,s1,r1,x1,o1⟩:=pW ks (hu.u hB) h3 ah h;obtain⟨ai,l2,h⟩:=M.KZ h;have aj:Inv w0 F R f θ1 w:=by
   have:=u1.inv;rwa [←b1]at this
  have z: ∀g,cS f θ1 g→cS su θ g∨g∈A1.fps:=fun g d=>o1 g (by rw [←b1];exact d)
  have ak:aH (hp w) R f θ1 cs arr.toList:=by rw [←b1]at r1;exact r1
  have ae: ¬cS f θ1 (bl b):=fun i=>by
   rcases z _ i with i|i
   ·exact(t.free (bl b) (by simp)).1 i
   ·have:=t.nodup
    rw [List.append_assoc]at this;exact(List.nodup_append.1 this).2.2 _ i _ (by simp) rfl
  obtain⟨i1,i2⟩:=aj.Xy ai h1 h2 ak ae (t.free (bl b) (by simp)).2
  have al:mH w0 F R nal bl w {f with boxes:=aR f.boxes b (some cs)} {θ1 with bx:=aR θ1.bx b (bl b)} (L++A1):=by
   refine⟨i1,u1.env,fun m hm=> ?_⟩
   by_cases e:m=b
   ·subst e;simp [bA]
   ·simp only [aW _ _ e]at hm ⊢
    rw [x1];exact hu.bx m (by rw [←b1];exact hm)
  have q: ∀g,cS {f with boxes:=aR f.boxes b (some cs)} {θ1 with bx:=aR θ1.bx b (bl b)} g→cS su θ g∨g∈A1.fps∨g=bl b:=by
   rintro g (⟨b',af,e⟩|⟨k,hk,d⟩)
   ·by_cases e':b'=b
    ·subst e';simp only [bA]at e;exact .inr (.inr e.symm)
    ·simp only [aW _ _ e']at af e
     exact(z g (.inl ⟨b',af,e⟩)).imp id .inl
   ·exact(z g (.inr ⟨k,hk,d⟩)).imp id .inl
  have ao:fc w0 F {f with boxes:=aR f.boxes b (some cs)} {θ1 with bx:=aR θ1.bx b (bl b)} (A2.fps++bx.map fun p=>bl p.1):=by
   have r:(A2.fps++bx.map fun p=>bl p.1).Sublist (A1.fps++A2.fps++(bl b::bx.map fun p=>bl p.1)):=by
    rw [List.append_assoc];exact(List.Sublist.append_left (List.sublist_cons_self _ _) _).trans (List.sublist_append_right _ _)
   have s:=t.nodup;refine⟨s.sublist r,fun g d=>⟨fun i=> ?_,(t.free g (r.subset d)).2⟩⟩
   rcases q g i with i|i|i
   ·exact(t.free g (r.subset d)).1 i
   ·rw [List.append_assoc]at s
    refine(List.nodup_append.1 s).2.2 g i g ?_ rfl
    rcases List.mem_append.1 d with d|d
    ·simp [d]
    ·exact List.mem_append.2 (.inr (List.mem_cons_of_mem _ d))
   ·subst i
    rw [List.append_assoc]at s;have h2:=(List.nodup_append.1 s).2.1;rcases List.mem_append.1 d with d|d
    ·exact(List.nodup_append.1 h2).2.2 _ d _ (by simp) rfl
    ·exact(List.nodup_cons.1 (List.nodup_append.1 h2).2.1).1 d
  obtain⟨aq,ar,l3,h,n2,q1,q2,q3⟩:=LR hB bx al h4 ao h;refine⟨aq,ar,l3,h,by rw [←List.append_assoc];exact n2,fun p hp=> ?_,fun m hm=>q2 m ?_,fun g d=> ?_⟩
  ·rcases List.mem_cons.1 hp with rfl|hp
   ·exact q2 _ (by simp [bA])
   ·exact q1 p hp
  ·by_cases e:m=b
   ·subst e;simp [bA]
   ·simp only [aW _ _ e];rw [b1];exact hm
  ·rw [Env.di]
   simp only [List.map_cons,List.mem_cons,List.mem_append];rcases q3 g d with d|d|d
   ·rcases q g d with d|d|d
    ·exact .inl d
    ·exact .inr (.inl (.inl d))
    ·exact .inr (.inr (.inl d))
   ·exact .inr (.inl (.inr d))
   ·exact .inr (.inr (.inr d))
theorem LS (hB: ∀m g,B m g→bl m=g) (val:Nat→Value): ∀(ts:List (Nat×bh)) {su st':St} {θ:Asg} {L:Env} {f:Nat→TV} {ds rest:List DV} {A:Env} {K:(Nat→TV)→M β} {y:β} {l:Log},mH w0 F R nal bl w su θ L→dP (hp w) R B nal val L ts ds A→fc w0 F su θ A.fps→(∀t,aT (hp w) R su θ (f t) (val t))→
  (tJ ts f (ds++rest) K).run su=some (y,st',l)→ ∃j d θ' l1,(K j).run d=some (y,st',l1)∧mH w0 F R nal bl w d θ' (L++A)∧d.boxes=su.boxes∧(∀t,aT (hp w) R d θ' (j t) (val t))
 | [],su,st',θ,L,f,ds,rest,A,K,y,l,hu,hk,p,q,h=>by
  simp only [dP]at hk;obtain⟨rfl,rfl⟩:=hk;simp only [tJ]at h;exact⟨f,su,θ,l,h,by simpa using hu,rfl,q⟩
 |(t,k)::ts,su,st',θ,L,f,ds,rest,A,K,y,l,hu,hk,p,q,h=>by
  simp only [dP]at hk;obtain⟨d1,d2,A1,A2,rfl,rfl,h1,h2⟩:=hk;simp only [tJ,List.append_assoc]at h;obtain⟨x,b,θ1,l1,h,i,t1,u1,s1,r1,x1,o1⟩:=LM k (hu.u hB) h1 (p.left (A2:=A2)) h;have r:=p.split (A1:=A1) (A2:=A2) (st1:=b) (θ1:=θ1) (fun g hg=>o1 g (by rw [←i];exact hg))
  have n1:mH w0 F R nal bl w b θ1 (L++A1):=by
   refine⟨by have:=u1.inv;rwa [←i]at this,u1.env,fun m hm=> ?_⟩
   rw [x1];exact hu.bx m (by rw [←i];exact hm)
  have e1:b.cY su.boxes=b:=by rw [←i];rfl
  have s:Step R su θ (hp w) b θ1 (hp w):=by rw [e1]at s1;exact s1
  obtain⟨j,z,ad,l2,h,n2,b2,r2⟩:=LS hB val ts n1 h2 r (f:=aR f t x) (fun t'=>by
   by_cases e:t'=t
   ·subst e;rw [bA];rw [←i]at r1;exact r1
   ·rw [aW _ _ e];exact aT.step s _ _ (q t')) h
  exact⟨j,z,ad,l2,h,by rw [←List.append_assoc];exact n2,b2.trans i,r2⟩
theorem Xz (hB: ∀m g,B m g→bl m=g) (val:Nat→Value) {g:cG} {dB dT:List DV} {AB AT:Env} {tU:Asg} {K:(Nat→TV)→M β} {y:β} {st':St} {l:Log} (hI:Inv w0 F R eA tU w) (q:bQ (hp w) R B nal bl [] g.boxes dB AB) (r:dP (hp w) R B nal val AB g.tmps dT AT)
  (hn:((AB++AT).fps++g.boxes.map fun p=>bl p.1).Nodup) (ho: ∀b∈(AB++AT).fps++g.boxes.map fun p=>bl p.1,F b∨w0.heap.size≤b)
  (h:(CB g (dB++dT) K).run eA=some (y,st',l)):
  ∃f su θ' l1,(K f).run su=some (y,st',l1)∧Inv w0 F R su θ' w∧(∀t,aT (hp w) R su θ' (f t) (val t))∧ ∀p∈g.boxes,(su.boxes p.1).isSome=true∧θ'.bx p.1=bl p.1:=by
 have n0:mH w0 F R nal bl w eA tU []:=⟨hI,fun _ e he=>by simp at he,fun m hm=>by simp [eA]at hm⟩
 have i:(AB.fps++g.boxes.map fun p=>bl p.1).Sublist ((AB++AT).fps++g.boxes.map fun p=>bl p.1):=by
  rw [Env.di];exact List.Sublist.append_right (List.sublist_append_left _ _) _
 simp only [CB]at h;obtain⟨su,θ1,l1,h,n1,q1,q2,q3⟩:=LR hB g.boxes n0 q ⟨hn.sublist i,fun b j=>⟨LQ,ho b (i.subset j)⟩⟩ h
 have s:fc w0 F su θ1 AT.fps:=by
  have d:=hn;rw [Env.di]at d;refine⟨d.sublist ((List.sublist_append_right _ _).trans (List.sublist_append_left _ _)),fun b j=>⟨fun u=> ?_,ho b (by rw [Env.di];simp [j])⟩⟩
  rcases q3 b u with k|k|k
  ·exact LQ k
  ·exact(List.nodup_append.1 (List.nodup_append.1 d).1).2.2 b k b j rfl
  ·exact(List.nodup_append.1 d).2.2 b (by simp [j]) b k rfl
 rw [←List.append_nil dT]at h;obtain⟨f,z,ad,l2,h,n2,b2,r2⟩:=LS hB val g.tmps n1 (by simpa using r) s (fun t=>lE _) h
 exact⟨f,z,ad,l2,h,n2.inv,r2,fun p hp=>⟨by rw [b2];exact q1 p hp,n2.bx p.1 (by rw [b2];exact q1 p hp)⟩⟩
end
end Go.Ev
namespace Go.Ev
mutual
def oe (pb:Bool):CK→Bool
 |.al _=>false
 |.gs _ _=>false
 |.pb _ _=>pb
 |.fn _ a b=>oh pb a&&oh pb b
 |_=>true
def oh (pb:Bool):List CK→Bool
 | []=>true
 |c::cs=>oe pb c&&oh pb cs
end
def okV (pb:Bool):bh→Bool
 |.one c=>oe pb c
 |.agg cs=>oh pb cs
 |.aO vs=>pX vs
where
 pX:List bh→Bool
  | []=>true
  |.one c::r=>oe pb c&&pX r
  |.agg cs::r=>oh pb cs&&pX r
  |.aO _::_=>false
def xD (pb:Bool):List bh→Bool
 | []=>true
 |c::cs=>okV pb c&&xD pb cs
def okB (pb:Bool):List (Nat×List CK)→Bool
 | []=>true
 |(_,ks)::r=>oh pb ks&&okB pb r
def dK:List (Nat×List CK)→List (List CK)→List (Nat×List CK)
 |(m,_)::bx,ks::r=>(m,ks)::dK bx r
 |_,_=>[]
section
variable {H:Heap} {R R':Nat→Prop} {B B':Nat→Nat→Prop} {pb:Bool}
theorem aC.fm {d:aX} {v:Value} {fp:List Nat} (h:aC H R true d v fp):aC H R' true d v fp:=by
 revert h
 refine aX.rec (motive_1:=fun d=> ∀(v:Value) (fp:List Nat),aC H R true d v fp→aC H R' true d v fp)
  (motive_2:=fun ds=> ∀(vs:List Value) (fp:List Nat),ar H R true ds vs fp→ar H R' true ds vs fp) ?_ ?_ ?_ ?_ ?_ ?_ d v fp
 ·intro x v fp h;simpa only [aC]using h
 ·intro k m v fp h;simpa only [aC]using h
 ·intro x v fp h;simpa only [aC]using h
 ·intro sz cs ih v fp h
  simp only [aC]at h ⊢;obtain⟨a,len,cap,b,f,i,j,s,h⟩:=h;refine⟨a,len,cap,b,f,i,j,s, ?_⟩
  rcases h with⟨-,h|⟨g,cur,ty,frz,fps,k1,k2,k3,t,u,z⟩⟩|⟨h, -⟩
  ·exact .inl ⟨trivial,.inl h⟩
  ·exact .inl ⟨trivial,.inr ⟨g,cur,ty,frz,fps,k1,k2,k3,t,u,ih _ _ z⟩⟩
  ·simp at h
 ·intro vs fp h;simpa only [ar]using h
 ·intro d ds p q vs fp h
  simp only [ar]at h ⊢;obtain⟨v,r,f1,f2,b,f,i,j⟩:=h;exact⟨v,r,f1,f2,b,f,p _ _ i,q _ _ j⟩
mutual
theorem aq.up (d:pb=true→ ∀m g,B m g→B' m g): ∀(k:CK) {L L':Env} {nm:Nat} {ds:List DV} {v:Value} {A:Env} {nal:Bool},oe pb k=true→aq H R B nal L nm k ds v A→aq H R B' true L' nm k ds v A
 |.undef,_,_,_,_,_,_,_,_,h=>by simpa only [aq]using h
 |.bool,_,_,_,_,_,_,_,_,h=>by simpa only [aq]using h
 |.int _,_,_,_,_,_,_,_,_,h=>by simpa only [aq]using h
 |.str,_,_,_,_,_,_,_,_,h=>by simpa only [aq]using h
 |.er,_,_,_,_,_,_,_,_,h=>by simpa only [aq]using h
 |.sh _,_,_,_,_,_,_,_,_,h=>by simpa only [aq]using h
 |.own _,_,_,_,_,_,_,_,_,h=>by simpa only [aq]using h
 |.nl,_,_,_,_,_,_,_,_,h=>by simpa only [aq]using h
 |.al _,_,_,_,_,_,_,_,hk,_=>by simp [oe]at hk
 |.gs _ _,_,_,_,_,_,_,_,hk,_=>by simp [oe]at hk
 |.pb _ _,_,_,_,_,_,_,_,hk,h=>by
  simp only [oe]at hk;simp only [aq]at h ⊢;obtain⟨i,p,g,q,r⟩:=h;exact⟨i,p,g,d hk _ _ q,r⟩
 |.nilp,_,_,_,_,_,_,_,_,h=>by simpa only [aq]using h
 |.nilf,_,_,_,_,_,_,_,_,h=>by simpa only [aq]using h
 |.fn f a b,_,_,_,_,_,_,_,hk,h=>by
  simp only [oe,Bool.and_eq_true]at hk;simp only [aq]at h ⊢;obtain⟨u,vb,d1,d2,A1,A2,i,p,q,r,s⟩:=h;exact⟨u,vb,d1,d2,A1,A2,i,p,q,bn.up d a hk.1 r,bn.up d b hk.2 s⟩
theorem bn.up (d:pb=true→ ∀m g,B m g→B' m g): ∀(ks:List CK) {L L':Env} {nm:Nat→Nat} {j:Nat} {ds:List DV} {vs:List Value} {A:Env} {nal:Bool},oh pb ks=true→bn H R B nal L nm j ks ds vs A→bn H R B' true L' nm j ks ds vs A
 | [],_,_,_,_,_,_,_,_,_,h=>by simpa only [bn]using h
 |c::cs,_,_,_,_,_,_,_,_,hk,h=>by
  simp only [oh,Bool.and_eq_true]at hk;simp only [bn]at h ⊢;obtain⟨v,t,d1,d2,A1,A2,i,p,q,r,s,z⟩:=h;exact⟨v,t,d1,d2,A1,A2,i,p,q,r,aq.up d c hk.1 s,bn.up d cs hk.2 z⟩
end
theorem ck.up (d:pb=true→ ∀m g,B m g→B' m g): ∀(ks:List bh) {L L':Env} {nm:Nat→Nat} {j:Nat} {ds:List DV} {vs:List Value} {A:Env} {nal:Bool},okV.pX pb ks=true→ck H R B nal L nm j ks ds vs A→ck H R B' true L' nm j ks ds vs A
 | [],_,_,_,_,_,_,_,_,_,h=>by simpa only [ck]using h
 |.one c::cs,_,_,_,_,_,_,_,_,hk,h=>by
  simp only [okV.pX,Bool.and_eq_true]at hk;simp only [ck]at h ⊢;obtain⟨v,b,d1,d2,A1,A2,f,i,k,r,p,q⟩:=h;exact⟨v,b,d1,d2,A1,A2,f,i,k,r,aq.up d c hk.1 p,ck.up d cs hk.2 q⟩
 |.agg s::cs,_,_,_,_,_,_,_,_,hk,h=>by
  simp only [okV.pX,Bool.and_eq_true]at hk;simp only [ck]at h ⊢;obtain⟨v,b,d1,d2,A1,A2,f,i,k,p,q⟩:=h;exact⟨v,b,d1,d2,A1,A2,f,i,k,bn.up d s hk.1 p,ck.up d cs hk.2 q⟩
 |.aO _::_,_,_,_,_,_,_,_,_,hk,_=>by simp [okV.pX]at hk
theorem bT.up (b:pb=true→ ∀m g,B m g→B' m g) {k:bh} {L L':Env} {nm:Nat→Nat} {ds:List DV} {v:Value} {A:Env} {nal:Bool} (hk:okV pb k=true) (h:bT H R B nal L nm k ds v A):bT H R B' true L' nm k ds v A:=by
 cases k with
 |one c=>simp only [okV]at hk;simp only [bT]at h ⊢;exact⟨h.1,aq.up b c hk h.2⟩
 |agg ks=>simp only [okV]at hk;simp only [bT]at h ⊢;obtain⟨arr,d,f⟩:=h;exact⟨arr,d,bn.up b ks hk f⟩
 |aO ks=>simp only [okV]at hk;simp only [bT]at h ⊢;obtain⟨arr,d,f⟩:=h;exact⟨arr,d,ck.up b ks hk f⟩
theorem bQ.up (b:pb=true→ ∀m g,B m g→B' m g) {bl:Nat→Nat}: ∀ {bx:List (Nat×List CK)} {L L':Env} {ds:List DV} {A:Env} {nal:Bool},okB pb bx=true→bQ H R B nal bl L bx ds A→bQ H R B' true bl L' bx ds A
 | [],_,_,_,_,_,_,h=>h
 |(m,ks)::rest,_,_,_,_,_,hk,h=>by
  simp only [okB,Bool.and_eq_true]at hk;simp only [bQ]at h ⊢;obtain⟨arr,ty,frz,d1,d2,A1,A2,d,f,i,j,k,p⟩:=h;exact⟨arr,ty,frz,d1,d2,A1,A2,d,f,i,j,bn.up b ks hk.1 k,bQ.up b hk.2 p⟩
mutual
def kD (N:List Nat):CK→Bool
 |.al _=>false
 |.gs _ _=>false
 |.pb m _=>N.elem m
 |.fn _ a b=>lG N a&&lG N b
 |_=>true
def lG (N:List Nat):List CK→Bool
 | []=>true
 |c::cs=>kD N c&&lG N cs
end
mutual
theorem aq.rn {N:List Nat} {bm:List (Nat×Nat)} (d: ∀m∈N,∀g,B m g→ ∀b,look m bm=some b→B' b g): ∀(k:CK) {L L':Env} {nm:Nat} {ds:List DV} {v:Value} {A:Env} {nal:Bool},kD N k=true→aq H R B nal L nm k ds v A→aq H R B' true L' nm (iX bm k) ds v A
 |.undef,_,_,_,_,_,_,_,_,h=>by simpa only [iX,aq]using h
 |.bool,_,_,_,_,_,_,_,_,h=>by simpa only [iX,aq]using h
 |.int _,_,_,_,_,_,_,_,_,h=>by simpa only [iX,aq]using h
 |.str,_,_,_,_,_,_,_,_,h=>by simpa only [iX,aq]using h
 |.er,_,_,_,_,_,_,_,_,h=>by simpa only [iX,aq]using h
 |.sh _,_,_,_,_,_,_,_,_,h=>by simpa only [iX,aq]using h
 |.own _,_,_,_,_,_,_,_,_,h=>by simpa only [iX,aq]using h
 |.nl,_,_,_,_,_,_,_,_,h=>by simpa only [iX,aq]using h
 |.al _,_,_,_,_,_,_,_,hk,_=>by simp [kD]at hk
 |.gs _ _,_,_,_,_,_,_,_,hk,_=>by simp [kD]at hk
 |.pb m _,_,_,_,_,_,_,_,hk,h=>by
  simp only [kD,List.elem_eq_mem,decide_eq_true_eq]at hk;simp only [aq]at h;obtain⟨i,p,g,q,r⟩:=h;simp only [iX];cases e:look m bm with
  |none=>simp only [aq];exact⟨i,p⟩
  |some b=>simp only [aq];exact⟨i,p,g,d m hk g q b e,r⟩
 |.nilp,_,_,_,_,_,_,_,_,h=>by simpa only [iX,aq]using h
 |.nilf,_,_,_,_,_,_,_,_,h=>by simpa only [iX,aq]using h
 |.fn f a b,_,_,_,_,_,_,_,hk,h=>by
  simp only [kD,Bool.and_eq_true]at hk;simp only [iX,aq]at h ⊢;obtain⟨u,vb,d1,d2,A1,A2,i,p,q,r,s⟩:=h;exact⟨u,vb,d1,d2,A1,A2,i,p,q,bn.rn d a hk.1 r,bn.rn d b hk.2 s⟩
theorem bn.rn {N:List Nat} {bm:List (Nat×Nat)} (d: ∀m∈N,∀g,B m g→ ∀b,look m bm=some b→B' b g): ∀(ks:List CK) {L L':Env} {nm:Nat→Nat} {j:Nat} {ds:List DV} {vs:List Value} {A:Env} {nal:Bool},lG N ks=true→bn H R B nal L nm j ks ds vs A→bn H R B' true L' nm j (mG bm ks) ds vs A
 | [],_,_,_,_,_,_,_,_,_,h=>by simpa only [mG,bn]using h
 |c::cs,_,_,_,_,_,_,_,_,hk,h=>by
  simp only [lG,Bool.and_eq_true]at hk;simp only [mG,bn]at h ⊢;obtain⟨v,t,d1,d2,A1,A2,i,p,q,r,s,z⟩:=h;exact⟨v,t,d1,d2,A1,A2,i,p,q,r,aq.rn d c hk.1 s,bn.rn d cs hk.2 z⟩
end
mutual
theorem aq.mI {N:List Nat} (d: ∀m∈N,∀g,B m g→B' m g): ∀(k:CK) {L L':Env} {nm:Nat} {ds:List DV} {v:Value} {A:Env} {nal:Bool},kD N k=true→aq H R B nal L nm k ds v A→aq H R B' true L' nm k ds v A
 |.undef,_,_,_,_,_,_,_,_,h=>by simpa only [aq]using h
 |.bool,_,_,_,_,_,_,_,_,h=>by simpa only [aq]using h
 |.int _,_,_,_,_,_,_,_,_,h=>by simpa only [aq]using h
 |.str,_,_,_,_,_,_,_,_,h=>by simpa only [aq]using h
 |.er,_,_,_,_,_,_,_,_,h=>by simpa only [aq]using h
 |.sh _,_,_,_,_,_,_,_,_,h=>by simpa only [aq]using h
 |.own _,_,_,_,_,_,_,_,_,h=>by simpa only [aq]using h
 |.nl,_,_,_,_,_,_,_,_,h=>by simpa only [aq]using h
 |.al _,_,_,_,_,_,_,_,hk,_=>by simp [kD]at hk
 |.gs _ _,_,_,_,_,_,_,_,hk,_=>by simp [kD]at hk
 |.pb m _,_,_,_,_,_,_,_,hk,h=>by
  simp only [kD,List.elem_eq_mem,decide_eq_true_eq]at hk;simp only [aq]at h ⊢;obtain⟨i,p,g,q,r⟩:=h;exact⟨i,p,g,d m hk g q,r⟩
 |.nilp,_,_,_,_,_,_,_,_,h=>by simpa only [aq]using h
 |.nilf,_,_,_,_,_,_,_,_,h=>by simpa only [aq]using h
 |.fn f a b,_,_,_,_,_,_,_,hk,h=>by
  simp only [kD,Bool.and_eq_true]at hk;simp only [aq]at h ⊢;obtain⟨u,vb,d1,d2,A1,A2,i,p,q,r,s⟩:=h;exact⟨u,vb,d1,d2,A1,A2,i,p,q,bn.mI d a hk.1 r,bn.mI d b hk.2 s⟩
theorem bn.mI {N:List Nat} (d: ∀m∈N,∀g,B m g→B' m g): ∀(ks:List CK) {L L':Env} {nm:Nat→Nat} {j:Nat} {ds:List DV} {vs:List Value} {A:Env} {nal:Bool},lG N ks=true→bn H R B nal L nm j ks ds vs A→bn H R B' true L' nm j ks ds vs A
 | [],_,_,_,_,_,_,_,_,_,h=>by simpa only [bn]using h
 |c::cs,_,_,_,_,_,_,_,_,hk,h=>by
  simp only [lG,Bool.and_eq_true]at hk;simp only [bn]at h ⊢;obtain⟨v,t,d1,d2,A1,A2,i,p,q,r,s,z⟩:=h;exact⟨v,t,d1,d2,A1,A2,i,p,q,r,aq.mI d c hk.1 s,bn.mI d cs hk.2 z⟩
end
theorem bQ.mI {N:List Nat} (b: ∀m∈N,∀g,B m g→B' m g) {bl:Nat→Nat}: ∀ {bx:List (Nat×List CK)} {bM:List (List CK)} {L L':Env} {ds:List DV} {A:Env} {nal:Bool},bM.all (lG N)=true→bQ H R B nal bl L (dK bx bM) ds A→bQ H R B' true bl L' (dK bx bM) ds A
 | [],_,_,_,_,_,_,_,h=>by simpa only [dK,bQ]using h
 |_::_,[],_,_,_,_,_,_,h=>by simpa only [dK,bQ]using h
 |(m,_)::bx,ks::bM,_,_,_,_,_,hk,h=>by
  simp only [List.all_cons,Bool.and_eq_true]at hk;simp only [dK,bQ]at h ⊢;obtain⟨arr,ty,frz,d1,d2,A1,A2,d,f,i,j,k,p⟩:=h;exact⟨arr,ty,frz,d1,d2,A1,A2,d,f,i,j,bn.mI b ks hk.1 k,bQ.mI b hk.2 p⟩
theorem dP.up (b:pb=true→ ∀m g,B m g→B' m g) {val:Nat→Value}: ∀ {ks:List bh} {t:Nat} {L L':Env} {ds:List DV} {A:Env} {nal:Bool},xD pb ks=true→dP H R B nal val L (gm t ks) ds A→dP H R B' true val L' (gm t ks) ds A
 | [],_,_,_,_,_,_,_,h=>h
 |k::rest,_,_,_,_,_,_,hk,h=>by
  simp only [xD,Bool.and_eq_true]at hk;simp only [gm,dP]at h ⊢;obtain⟨d1,d2,A1,A2,d,f,i,j⟩:=h;exact⟨d1,d2,A1,A2,d,f,i.up b hk.1,dP.up b hk.2 j⟩
mutual
theorem aq.fm: ∀(k:CK) {L:Env} {nm:Nat} {ds:List DV} {v:Value} {A:Env},tE k=false→aq H R B true L nm k ds v A→aq H R' B true L nm k ds v A
 |.undef,_,_,_,_,_,_,h=>by simpa only [aq]using h
 |.bool,_,_,_,_,_,_,h=>by simpa only [aq]using h
 |.int _,_,_,_,_,_,_,h=>by simpa only [aq]using h
 |.str,_,_,_,_,_,_,h=>by simpa only [aq]using h
 |.er,_,_,_,_,_,_,h=>by simpa only [aq]using h
 |.sh _,_,_,_,_,_,hk,_=>by simp [tE]at hk
 |.own _,_,_,_,_,_,_,h=>by
  simp only [aq]at h ⊢;obtain⟨x,fp,d,g,i,m⟩:=h;exact⟨x,fp,d,g,i.fm,m⟩
 |.nl,_,_,_,_,_,_,h=>by simpa only [aq]using h
 |.al _,_,_,_,_,_,_,h=>by simpa only [aq]using h
 |.gs _ _,_,_,_,_,_,_,h=>by simpa only [aq]using h
 |.pb _ _,_,_,_,_,_,_,h=>by simpa only [aq]using h
 |.nilp,_,_,_,_,_,_,h=>by simpa only [aq]using h
 |.nilf,_,_,_,_,_,_,h=>by simpa only [aq]using h
 |.fn f a b,_,_,_,_,_,hk,h=>by
  simp only [tE,Bool.or_eq_false_iff]at hk;simp only [aq]at h ⊢;obtain⟨r,vb,d1,d2,A1,A2,d,g,i,m,p⟩:=h;exact⟨r,vb,d1,d2,A1,A2,d,g,i,bn.fm a hk.1 m,bn.fm b hk.2 p⟩
theorem bn.fm: ∀(ks:List CK) {L:Env} {nm:Nat→Nat} {j:Nat} {ds:List DV} {vs:List Value} {A:Env},pG ks=false→bn H R B true L nm j ks ds vs A→bn H R' B true L nm j ks ds vs A
 | [],_,_,_,_,_,_,_,h=>by simpa only [bn]using h
 |c::cs,_,_,_,_,_,_,hk,h=>by
  simp only [pG,Bool.or_eq_false_iff]at hk;simp only [bn]at h ⊢;obtain⟨v,q,d1,d2,A1,A2,d,g,i,m,p,s⟩:=h;exact⟨v,q,d1,d2,A1,A2,d,g,i,m,aq.fm c hk.1 p,bn.fm cs hk.2 s⟩
end
theorem ck.fm: ∀(ks:List bh) {L:Env} {nm:Nat→Nat} {j:Nat} {ds:List DV} {vs:List Value} {A:Env},tF ks=false→ck H R B true L nm j ks ds vs A→ck H R' B true L nm j ks ds vs A
 | [],_,_,_,_,_,_,_,h=>by simpa only [ck]using h
 |.one c::cs,_,_,_,_,_,_,hk,h=>by
  simp only [tF,nS,Bool.or_eq_false_iff]at hk;simp only [ck]at h ⊢;obtain⟨v,b,d1,d2,A1,A2,d,f,g,m,i,k⟩:=h;exact⟨v,b,d1,d2,A1,A2,d,f,g,m,aq.fm c hk.1 i,ck.fm cs hk.2 k⟩
 |.agg p::cs,_,_,_,_,_,_,hk,h=>by
  simp only [tF,nS,Bool.or_eq_false_iff]at hk;simp only [ck]at h ⊢;obtain⟨v,b,d1,d2,A1,A2,d,f,g,i,k⟩:=h;exact⟨v,b,d1,d2,A1,A2,d,f,g,bn.fm p hk.1 i,ck.fm cs hk.2 k⟩
 |.aO _::_,_,_,_,_,_,_,_,h=>by simp only [ck]at h
theorem bT.fm {k:bh} {L:Env} {nm:Nat→Nat} {ds:List DV} {v:Value} {A:Env} (hk:nS k=false) (h:bT H R B true L nm k ds v A):bT H R' B true L nm k ds v A:=by
 cases k with
 |one c=>simp only [nS]at hk;simp only [bT]at h ⊢;exact⟨h.1,aq.fm c hk h.2⟩
 |agg ks=>simp only [nS]at hk;simp only [bT]at h ⊢;obtain⟨arr,b,d⟩:=h;exact⟨arr,b,bn.fm ks hk d⟩
 |aO ks=>simp only [nS]at hk;simp only [bT]at h ⊢;obtain⟨arr,b,d⟩:=h;exact⟨arr,b,ck.fm ks hk d⟩
theorem bQ.fm {bl:Nat→Nat}: ∀ {bx:List (Nat×List CK)} {b:List (List CK)} {L:Env} {ds:List DV} {A:Env},xd b=false→bQ H R B true bl L (dK bx b) ds A→bQ H R' B true bl L (dK bx b) ds A
 | [],_,_,_,_,_,h=>by simpa only [dK,bQ]using h
 |_::_,[],_,_,_,_,h=>by simpa only [dK,bQ]using h
 |(m,_)::rest,ks::b,_,_,_,hk,h=>by
  simp only [xd,Bool.or_eq_false_iff]at hk;simp only [dK,bQ]at h ⊢;obtain⟨arr,ty,frz,d1,d2,A1,A2,d,f,g,i,j,k⟩:=h;exact⟨arr,ty,frz,d1,d2,A1,A2,d,f,g,i,bn.fm ks hk.1 j,bQ.fm hk.2 k⟩
end
def eO (bl:Nat→Nat) (m g:Nat):Prop:=bl m=g
def rp (_ _:Nat):Prop:=False
structure bD where
 n:Nat
 w:World
structure oi (gl:bD) (w:World) (F:Nat→Prop):Prop where
 size:gl.n≤w.heap.size
 at_: ∀b,b<gl.n→ ¬F b∧hp w b=hp gl.w b
structure pY (gl:bD) (E:Entry) (w:World) (F R:Nat→Prop) (bl:Nat→Nat) (val:Nat→Value) (dB dA:List DV) (AB AA:Env):Prop where
 kb:bQ (hp w) R (eO bl) true bl [] E.bx dB AB
 kt:dP (hp w) R (eO bl) true val AB (gm 0 E.ins) dA AA
 nd:((AB++AA).fps++E.bx.map fun p=>bl p.1).Nodup
 own: ∀b∈(AB++AA).fps++E.bx.map fun p=>bl p.1,F b
 rd: ∀b,R b→b<w.heap.size∧ ¬F b
 gl:oi gl w F
structure iw (E:Entry) (w w':World) (F R:Nat→Prop) (bl:Nat→Nat) (r:bL E.bG) (u:Value):Prop where
 size:w.heap.size≤w'.heap.size
 same: ∀b,b<w.heap.size→ ¬F b→hp w' b=hp w b
 os:w'.os=w.os
 tape:w'.tape=w.tape
 out:w'.output=w.output
 res: ∃d1 A1 d2 A2,lA E.bG r=d1++d2∧bT (hp w') R rp true [] (fD 9000) E.outs d1 u A1∧bQ (hp w') R (eO bl) true bl A1 (dK E.bx E.bM) d2 A2∧
  ((A1++A2).fps++E.bx.map fun p=>bl p.1).Nodup∧ ∀b∈(A1++A2).fps,F b∨w.heap.size≤b
def cV (P:Program) (gl:bD) (E:Entry) (ds:List DV) (r:bL E.bG):Prop:=
 ∀(w:World) (F R:Nat→Prop) (bl:Nat→Nat) (args:Array Value) (dB dA:List DV) (AB AA:Env),ds=dB++dA→args.size=E.ins.length→pY gl E w F R bl (fun i=>args.getD i undef) dB dA AB AA→
  Calls P E.f args w fun
   |.returned u,w'=>match E.back with
    |none=>iw E w w' F R bl r u
    |some t=>u=.tuple #[]∧iw E w w' F R bl r (args.getD t undef)
   |_,_=>False
def jW (E:Entry):Bool:=
 xD true E.ins&&(okB true E.bx&&(okV false E.outs&&(E.bM.all (lG (E.bx.map (·.1)))&&(decide ((E.bx.map (·.1)).Nodup)&&(Nat.beq E.bx.length E.bM.length&&(E.back.isNone||(E.bx.isEmpty&&E.fn.results.isEmpty)))))))
end Go.Ev
namespace Go.Ev
section
variable {w0 w w':World} {F R:Nat→Prop} {st st':St} {θ:Asg} {β:Type} {y:β} {l:Log}
theorem LU: ∀ {cr:List Nat} {k:M β} {l:Log},(Ev.alive cr k).run st=some (y,st',l)→(∀n∈cr,(st.aj n).bg.isSome=true)∧ ∃b,k.run st=some (y,st',b)
 | [],k,l,h=>⟨by simp,l,h⟩
 |n::r,k,l,h=>by
  simp only [Ev.alive]at h;obtain⟨b,h⟩:=M.fG h;obtain⟨d,h⟩:=M.aL h;obtain⟨f,g⟩:=LU h;refine⟨fun m hm=> ?_,g⟩
  rcases List.mem_cons.1 hm with rfl|hm
  ·exact d
  ·exact f m hm
theorem Inv.XA (m:Inv w0 F R st θ w) {Fc:Nat→Prop} {Bb:Nat→Option (List Cell)}
  (z:w.heap.size≤w'.heap.size) (ad:w'.os=w.os) (ae:w'.tape=w.tape) (q:w'.output=w.output)
  (f: ∀g,g<w.heap.size→ ¬Fc g→hp w' g=hp w g) (af: ∀g,Fc g→F g∨w0.heap.size≤g) (ag: ∀g,R g→ ¬Fc g) (ah: ∀k g,(st.aj k).bg.isSome=true→g∈θ.fp k→ ¬Fc g)
  (hB: ∀b,(Bb b=st.boxes b∧((st.boxes b).isSome=true→ ¬Fc (θ.bx b)))∨
   ((st.boxes b).isSome=true∧ ∃arr ty frz,Bb b=some (List.replicate arr.size .undef)∧hp w' (θ.bx b)=some (.cells arr ty frz)∧ig arr.size frz∧ ∀v∈arr.toList,cz v=true)):
  Inv w0 F R (st.cY Bb) θ w'∧Step R st θ (hp w) (st.cY Bb) θ (hp w'):=by
 have hR: ∀g,R g→hp w' g=hp w g:=fun g p=>f g (Nat.lt_of_lt_of_le (m.rd g p).1 m.size) (ag g p)
 have hO: ∀k,(st.aj k).bg.isSome=true→ ∀g∈θ.fp k,hp w' g=hp w g:=fun k hk g p=>f g (m.jS (.inr ⟨k,hk,p⟩)) (ah k g hk p)
 have j: ∀b,(Bb b).isSome=true→(st.boxes b).isSome=true:=fun b r=>by
  rcases hB b with⟨e, -⟩|⟨h, -⟩
  ·rw [←e];exact r
  ·exact h
 have s:Step R st θ (hp w) (st.cY Bb) θ (hp w'):=by
  refine⟨hR,fun b r=>⟨?_,rfl⟩,fun k=>.inl ⟨rfl,fun hk=>⟨rfl,rfl,hO k hk⟩⟩⟩
  rcases hB b with⟨e, -⟩|⟨h,arr,ty,frz,e, -⟩
  ·show(Bb b).isSome=true
   rw [e];exact r
  ·show(Bb b).isSome=true
   rw [e];rfl
 refine⟨m.next s z ad ae q (fun g p e=>Classical.byContradiction fun hn=>e (f g p fun hf=>hn (af g hf))) ?_ (fun k d hd=>.inl ⟨hd,rfl,rfl,hO k (Option.isSome_iff_exists.2 ⟨_,hd⟩)⟩)
  (fun b b' t h2=>m.bb b b' (j b t) (j b' h2)) (fun b k t=>m.bo b k (j b t)) m.oo ?_,s⟩
 ·intro b cs i
  have i:Bb b=some cs:=i;rcases hB b with⟨e,hn⟩|⟨h,arr,ty,frz,e,t,h2,h3⟩
  ·rw [e]at i
   exact .inl ⟨i,f _ (m.jS (.inl ⟨b,by simp [i],rfl⟩)) (hn (by simp [i]))⟩
  ·rw [e]at i
   cases i;refine .inr ⟨arr,ty,frz,t,h2, ?_⟩
   have: ∀vs:List Value,(∀v∈vs,cz v=true)→aH (hp w') R (st.cY Bb) θ (List.replicate vs.length .undef) vs:=by
    intro vs;induction vs with
    |nil=>intro _;simp [aH]
    |cons v vs ih=>
     intro hv;simp only [List.length_cons,List.replicate_succ,aH];exact⟨v,vs,rfl,⟨by simp [aw],hv v (by simp)⟩,ih (fun u hu=>hv u (by simp [hu]))⟩
   have:=this arr.toList h3;rwa [Array.length_toList]at this
 ·rintro g (⟨b,r,rfl⟩|⟨k,hk,p⟩)
  ·exact m.own _ (.inl ⟨b,j b r,rfl⟩)
  ·exact m.own _ (.inr ⟨k,hk,p⟩)
theorem iq.any {B:Nat→Nat→Prop} {Bb:Nat→Option (List Cell)} {su:St} {L:Env} (h:iq w0 F R B true Bb w su θ L) (L':Env):iq w0 F R B true Bb w su θ L':=⟨h.inv,by simp,h.bx⟩
theorem LV {bm:List (Nat×Nat)} {bl:Nat→Nat} {N:List Nat}: ∀(bx:List (Nat×List CK)) (bM:List (List CK)) {su st':St} {θ:Asg} {Bb:Nat→Option (List Cell)} {L:Env} {ds rest:List DV} {A:Env} {k:M β} {l:Log},iq w0 F R rp true Bb w su θ L→bM.all (lG N)=true→(∀p∈bx,p.1∈N)→bQ (hp w) R (eO bl) true bl L (dK bx bM) ds A→fc w0 F (su.cY Bb) θ A.fps→
  (∀m∈N,∀b,look m bm=some b→(Bb b).isSome=true∧θ.bx b=bl m)→(pF bx bM bm (ds++rest) k).run su=some (y,st',l)→
  ∃f θ' j l1,k.run f=some (y,st',l1)∧f.tmps=su.tmps∧Inv w0 F R (f.cY j) θ' w∧Step R (su.cY Bb) θ (hp w) (f.cY j) θ' (hp w)∧(∀b,Bb b=su.boxes b→j b=f.boxes b)∧(∀p∈bx,∀b,look p.1 bm=some b→j b=f.boxes b)∧(bx=[]→f=su)
 | [],[],su,st',θ,Bb,L,ds,rest,A,k,l,hu,s,hN,hk,z,q,h=>by
  simp only [pF]at h;exact⟨su,θ,Bb,l,h,rfl,hu.inv,Step.refl _ _ _ _,fun _ h=>h,by simp,fun _=>rfl⟩
 | [],_::_,su,st',θ,Bb,L,ds,rest,A,k,l,hu,s,hN,hk,z,q,h=>by simp [pF,M.run]at h
 |_::_,[],su,st',θ,Bb,L,ds,rest,A,k,l,hu,s,hN,hk,z,q,h=>by simp [pF,M.run]at h
 |(m,k0)::bx,ks::bM,su,st',θ,Bb,L,ds,rest,A,k,l,hu,s,hN,hk,z,q,h=>by
  simp only [dK,bQ]at hk;obtain⟨arr,ty,frz,d1,d2,A1,A2,rfl,rfl,h1,h2,h3,h4⟩:=hk;simp only [pF]at h;cases r:look m bm with
  |none=>simp [r,M.run]at h
  |some b=>
   simp only [r,List.append_assoc]at h;simp only [List.all_cons,Bool.and_eq_true]at s;have h3:=bn.rn (bm:=bm) (B':=fun b g=> ∃m∈N,look m bm=some b∧bl m=g) (L':=L) (fun m hm g t b q=>⟨m,hm,q,t⟩) ks s.1 h3
   have hu:iq w0 F R (fun b g=> ∃m∈N,look m bm=some b∧bl m=g) true Bb w su θ L:=⟨hu.inv,by simp,fun b g t _=>by
    obtain⟨m,hm,e1,e2⟩:=t;exact⟨(q m hm b e1).1,by rw [(q m hm b e1).2,e2]⟩⟩
   obtain⟨ai,aj,ak⟩:=bn.gW (mG bm ks) h3 L (nH b) 0;rw [Env.di,←ak,←Env.di]at z;obtain⟨cs,i,θ1,l1,h,b1,t1,u1,s1,r1,x1,o1⟩:=pW (mG bm ks) hu aj z.left h;obtain⟨cs0,l2,bo,h⟩:=M.KY h;obtain⟨al,ao⟩:=q m (hN (m,k0) (by simp)) b r
   obtain⟨c0,ae⟩:=Option.isSome_iff_exists.1 al;obtain⟨i1,i2⟩:=u1.inv.KU (b:=b) (cs0:=c0) (cs:=cs) (arr:=arr) (ty:=ty) (frz:=frz) (w':=w) ae rfl rfl rfl rfl (by rw [x1,ao];exact h1) h2 (fun _ _=>rfl) r1
   have u:=z.split (A1:=ai) (A2:=A2) (st1:=i.cY Bb) (θ1:=θ1) o1;have af: ∀g,cS ((i.cY Bb).cY (aR Bb b (some cs))) θ1 g→cS (i.cY Bb) θ1 g:=by
    rintro g (⟨b',d,e⟩|t)
    ·by_cases e':b'=b
     ·subst e';exact .inl ⟨b',by show(Bb b').isSome=true;rw [ae];rfl,e⟩
     ·have ag:(aR Bb b (some cs) b').isSome=true:=d
      rw [aW _ _ e']at ag;exact .inl ⟨b',ag,e⟩
    ·exact .inr t
   have u2:iq w0 F R rp true (aR Bb b (some cs)) w {i with boxes:=aR i.boxes b (some cs)} θ1 (L++A1):=⟨i1,by simp,fun m g hm=>hm.elim⟩
   obtain⟨aq,ar,au,l3,h,t2,j1,j2,j3,j4, -⟩:=LV bx bM u2 s.2 (fun p hp=>hN p (by simp [hp])) h4 ⟨u.nodup,fun g t=>⟨fun s=>(u.free g t).1 (af g s),(u.free g t).2⟩⟩ (fun m' av b' d=>by
    obtain⟨q1,q2⟩:=q m' av b' d;refine⟨?_,by rw [x1];exact q2⟩
    by_cases e:b'=b
    ·subst e;simp [bA]
    ·rw [aW _ _ e];exact q1) h
   refine⟨aq,ar,au,l3,h,t2.trans t1,j1,(s1.trans i2).trans j2,fun b' d=>j3 b' ?_,fun p hp b' d=> ?_,fun e=>by cases e⟩
   ·by_cases e:b'=b
    ·subst e;simp [bA]
    ·simp only [aW _ _ e];rw [d,b1]
   ·rcases List.mem_cons.1 hp with rfl|hp
    ·have:b'=b:=by
      have e:look m bm=some b':=d;rw [r]at e;exact(Option.some.inj e).symm
     subst this;exact j3 b' (by simp [bA])
    ·exact j4 p hp b' d
end
end Go.Ev
namespace Go.Ev
section
variable {P:Program} {w0 w:World} {F R:Nat→Prop} {st st':St} {θ:Asg} {l:Log}
theorem bQ.blocks {H:Heap} {R:Nat→Prop} {B:Nat→Nat→Prop} {nal:Bool} {bl:Nat→Nat}: ∀ {bx:List (Nat×List CK)} {d:List (List CK)} {L:Env} {ds:List DV} {A:Env},bx.length=d.length→bQ H R B nal bl L (dK bx d) ds A→
  ∀p∈bx,∃arr ty frz,H (bl p.1)=some (.cells arr ty frz)∧ig arr.size frz∧ ∀v∈arr.toList,cz v=true
 | [],_,_,_,_,_,_=>by simp
 |(m,g)::bx,[],_,_,_,f,_=>by simp at f
 |(m,g)::bx,ks::d,_,_,_,f,h=>by
  simp only [dK,bQ]at h;obtain⟨arr,ty,frz,d1,d2,A1,A2, -, -,i,k,q,r⟩:=h;intro p hp;rcases List.mem_cons.1 hp with rfl|hp
  ·refine⟨arr,ty,frz,i,k, ?_⟩
   have: ∀(ks:List CK) (L:Env) (j:Nat) (ds:List DV) (vs:List Value) (A:Env),bn H R B nal L (nH m) j ks ds vs A→ ∀v∈vs,cz v=true:=by
    intro ks;induction ks with
    |nil=>intro L j ds vs A h v b;simp only [bn]at h;rw [h.2.1]at b;cases b
    |cons c cs ih=>
     intro L j ds vs A h v b;simp only [bn]at h;obtain⟨v0,s,d1,d2,A1,A2, -,rfl, -,t, -,u⟩:=h;rcases List.mem_cons.1 b with rfl|b
     ·exact t
     ·exact ih _ _ _ _ _ u v b
   exact this _ _ _ _ _ _ q
  ·exact bQ.blocks (by simpa using f) r p hp
def tW (E:Entry) (vals:Array Value) (u b:Value):Prop:=
 match E.back with
 |none=>b=u
 |some t=>u=.tuple #[]∧b=vals.getD t undef
theorem bI.less {θ:Asg} {w:World} {st sc:St} {f g:List Nat} (h:bI w0 F R θ w st sc (f++g)):bI w0 F R θ w st sc f:=
 ⟨h.inv,h.step,h.boxes,h.tmps,h.pR,(List.nodup_append.1 h.nodup).1,fun b d=>h.was b (List.mem_append_left _ d),fun b d=>h.free b (List.mem_append_left _ d)⟩
theorem Db {β:Type} {θ:Asg} {w:World} {st st':St} {f:Nat→Nat} {k:M β} {y:β}: ∀(j:Nat) {sc:St} {fps:List Nat} {l:Log},bI w0 F R θ w st sc fps→(tG f j k).run sc=some (y,st',l)→
  ∃g b p,k.run g=some (y,st',p)∧bI w0 F R θ w st g (fps++b)
 |0,sc,fps,l,i,h=>⟨sc,[],l,h,by rw [List.append_nil];exact i⟩
 |j+1,sc,fps,l,i,h=>by
  simp only [tG]at h;obtain⟨p,h⟩:=M.fG h;cases hd:(sc.aj (f j)).bg with
  |none=>simp only [hd]at h;exact Db j i h
  |some d=>
   simp only [hd]at h;obtain⟨r,h⟩:=M.oa h;obtain⟨g,b,q,h,m⟩:=Db j (i.trans (bI.kill i.inv hd)) h;exact⟨g,θ.fp (f j)++b,q,h,by rw [←List.append_assoc];exact m⟩
theorem Dc {β:Type} {θ:Asg} {w:World} {st st':St} {bm:List (Nat×Nat)} {k:M β} {y:β}: ∀(bx:List (Nat×List CK)) {sc:St} {fps:List Nat} {l:Log},bI w0 F R θ w st sc fps→(tH bx bm k).run sc=some (y,st',l)→
  ∃d f q,k.run d=some (y,st',q)∧bI w0 F R θ w st d (fps++f)
 | [],sc,fps,l,g,h=>⟨sc,[],l,h,by rw [List.append_nil];exact g⟩
 |(m,ks)::r,sc,fps,l,g,h=>by
  simp only [tH]at h;cases s:look m bm with
  |none=>simp only [s]at h;exact Dc r g h
  |some b=>
   simp only [s]at h;obtain⟨t,f1,q,h,i⟩:=Db ks.length g h;obtain⟨j,f2,u,h,p⟩:=Dc r i h;exact⟨j,f1++f2,u,h,by rw [←List.append_assoc];exact p⟩
theorem LW {β:Type} {tab:Nat→Entry} {D:(e:Nat)→List DV→Option (bL (tab e).bG)} {e:Nat} {bh:List TV} {d:Nat} {K:TV→M β} {y:β} {vals:Array Value}
  {gl:bD} (bj:oi gl w0 F) (hD: ∀e ds r,D e ds=some r→cV P gl (tab e) ds r) (hE:jW (tab e)=true) (hI:Inv w0 F R st θ w) (hv: ∀i c,bh[i]? =some c→aT (hp w) R st θ c (vals.getD i undef)) (hlen:bh.length=vals.size)
  (h:(xf tab D e bh d K).run st=some (y,st',l)):
  Calls P (tab e).f vals w fun
   |.returned u,w'=> ∃uv st2 θ' v l2,tW (tab e) vals u uv∧(K v).run st2=some (y,st',l2)∧Inv w0 F R st2 θ' w'∧Step R st θ (hp w) st2 θ' (hp w')∧aT (hp w') R st2 θ' v uv∧
     ((tab e).bx=[]→st2.boxes=st.boxes∧ ∀b,(st.boxes b).isSome=true→hp w' (θ.bx b)=hp w (θ.bx b))
   |_,_=>False:=by
 unfold xf at h;have cc:=hE;simp only [jW,Bool.and_eq_true,List.all_eq_true]at cc;obtain⟨c6,c7,eo,c8,au,bk, -⟩:=cc;have au:((tab e).bx.map (·.1)).Nodup:=of_decide_eq_true au
 have bk:=Nat.eq_of_beq_eq_true bk;have c0:eV st θ ⟨[],[],[],true,[]⟩ []:=⟨fun m n v wv h=>by simp [lB]at h,fun m b h=>by simp [look]at h,fun m m' b h=>by simp [look]at h⟩
 obtain⟨s1,ep,AA,dA,l1,h,cf,e1,x1,c1,r1,bn⟩:=LN hI (fun i=>vals.getD i undef) (tab e).ins (t:=0) (bI.refl hI) c0 (fun i c hi=>by simpa using hv i c hi) h
 obtain⟨av,ea,et,h,cg,ch,aw,bp⟩:=LP hI (tab e).bx cf c1 h;have r1:=r1.mono aw.rl aw.bl;rw [←ch]at e1;have x1:=x1.trans aw;clear c1 cf aw ch;obtain⟨s2,eb,AB,dB,l2,h,a6,e2,x2,c2,r2,db⟩:=CZ hI (tab e).bx (s:={av with dv:=[]}) cg ⟨bp.used,bp.bm,bp.inj⟩ h
 obtain⟨ae,ef,lf,h,z⟩:=Dc (tab e).bx a6 h;have z:=z.less;clear a6;obtain⟨ao,h⟩:=M.aL h;obtain⟨cj,l3,h⟩:=LU h;obtain⟨r,hr,h⟩:=M.eI h;simp only [List.append_nil]at e1 e2;rw [e1,e2,tT,tT,List.reverse_reverse,List.reverse_reverse,List.append_nil]at hr;simp only [List.nil_append]at z c2 r2;have ck:fS av s2:=⟨x2.bm,x2.cr,x2.iV,x2.pS⟩;let Fc:Nat→Prop:=fun b=>b∈AA.fps++AB.fps∨ ∃p∈(tab e).bx,b=fl θ s2.bm p.1
 have ad: ∀p∈(tab e).bx,∃b,look p.1 s2.bm=some b∧(ae.boxes b).isSome=true∧fl θ s2.bm p.1=θ.bx b:=fun p hp=>by
  obtain⟨b,j,hs⟩:=db p hp;exact⟨b,j,by rw [z.boxes];exact hs,by simp [fl,j]⟩
 have cl: ∀b,Fc b→cS st θ b:=fun b j=>by
  rcases j with j|⟨p,hp,rfl⟩
  ·exact z.was b j
  ·obtain⟨b',h1,h2,h3⟩:=ad p hp
   rw [h3];exact z.owned (.inl ⟨b',h2,rfl⟩)
 have bq: ∀b,Fc b→F b∨w0.heap.size≤b:=fun b j=>hI.own b (cl b j)
 have a7: ∀b,R b→ ¬Fc b:=fun b j hf=>hI.tN (cl b hf) j
 have aq: ∀k g,(ae.aj k).bg.isSome=true→g∈θ.fp k→ ¬Fc g:=fun k g hk hg hf=>by
  rcases hf with hf|⟨p,hp,rfl⟩
  ·exact z.free g hf (.inr ⟨k,hk,hg⟩)
  ·obtain⟨b',h1,h2,h3⟩:=ad p hp
   rw [h3]at hg;exact z.inv.bo b' k h2 hk hg
 have dc:pY gl (tab e) w Fc (Rl R θ s2.cr) (fl θ s2.bm) (fun i=>vals.getD i undef) dB dA AB AA:=by
  have hB:(true=true→ ∀m g,Bl θ s2.bm m g→eO (fl θ s2.bm) m g):=fun _ m g ⟨b,h1,h2⟩=>by simp [eO,fl,h1,h2]
  have cm:oi gl w Fc:=⟨Nat.le_trans bj.size hI.size,fun b j=>by
   obtain⟨g1,g2⟩:=bj.at_ b j;have dd:b<w0.heap.size:=Nat.lt_of_lt_of_le j bj.size;refine⟨fun hf=> ?_,(hI.same b dd g1).trans g2⟩
   rcases bq b hf with h|h
   ·exact g1 h
   ·omega⟩
  refine⟨r2.up hB c7,dP.up hB c6 (r1.mono ck.rl ck.bl), ?_,fun b j=> ?_,fun b j=> ?_,cm⟩
  ·rw [Env.di]
   refine List.nodup_append.2 ⟨List.perm_append_comm.nodup_iff.1 z.nodup, ?_,fun b j c hc e=> ?_⟩
   ·rw [List.nodup_iff_pairwise_ne,List.pairwise_map]
    rw [List.nodup_iff_pairwise_ne,List.pairwise_map]at au;refine List.Pairwise.imp_of_mem ?_ au
    intro p q hp hq de heq;obtain⟨b1,h1,h2,h3⟩:=ad p hp;obtain⟨b2,h4,h5,h6⟩:=ad q hq;rw [h3,h6]at heq;have:=z.inv.bb b1 b2 h2 h5 heq;subst this;exact de (c2.inj _ _ _ h1 h4)
   ·subst e
    obtain⟨p,hp,rfl⟩:=List.mem_map.1 hc;obtain⟨b',h1,h2,h3⟩:=ad p hp;refine z.free _ (by rw [List.mem_append]at j ⊢;exact j.symm) (.inl ⟨b',h2,h3.symm⟩)
  ·rcases List.mem_append.1 j with j|j
   ·rw [Env.di,List.mem_append]at j
    exact .inl (List.mem_append.2 j.symm)
   ·obtain⟨p,hp,rfl⟩:=List.mem_map.1 j
    exact .inr ⟨p,hp,rfl⟩
  ·rcases j with j|⟨n,hn,j⟩
   ·exact⟨Nat.lt_of_lt_of_le (hI.rd b j).1 hI.size,a7 b j⟩
   ·exact⟨z.inv.jS (.inr ⟨n,cj n hn,j⟩),aq n b (cj n hn) j⟩
 have br:=hD e _ r hr w Fc (Rl R θ s2.cr) (fl θ s2.bm) vals dB dA AB AA rfl (by rw [←bn,hlen]) dc
 refine br.mono fun en w' ho=> ?_
 cases en with
 |panicked _=>exact ho
 |outgrown=>exact ho
 |returned u0=>
  obtain⟨u,df,ho⟩: ∃u,tW (tab e) vals u0 u∧iw (tab e) w w' Fc (Rl R θ s2.cr) (fl θ s2.bm) r u:=by
   simp only at ho;unfold tW;cases j:(tab e).back with
   |none=>rw [j]at ho;exact⟨u0,rfl,ho⟩
   |some t=>rw [j]at ho;exact⟨_,⟨ho.1,rfl⟩,ho.2⟩
  obtain⟨o1,o2,o3,o4,o5,d1,A1,d2,A2,dh,k1,k2,cn,a8⟩:=ho;have dj:bT (hp w') R rp true [] (fD 9000) (tab e).outs d1 u A1∧bQ (hp w') R (eO (fl θ s2.bm)) true (fl θ s2.bm) A1 (dK (tab e).bx (tab e).bM) d2 A2:=by
   rw [Bool.or_eq_true]at ao;rcases ao with hl|hl
   ·have hl:s2.cr=[]:=by simpa using hl
    have cp: ∀b,Rl R θ s2.cr b→R b:=fun b j=>by
     rw [hl]at j;exact j.resolve_right (by rintro⟨n,hn, -⟩;cases hn)
    exact⟨k1.mono cp (fun _ _ h=>h),k2.mono cp (fun _ _ h=>h)⟩
   ·rw [Bool.not_eq_true',Bool.or_eq_false_iff]at hl
    exact⟨k1.fm hl.1,k2.fm hl.2⟩
  obtain⟨k1,k2⟩:=dj;let ps:List Nat:=(tab e).bx.filterMap fun p=>look p.1 s2.bm
  let Bb:Nat→Option (List Cell):=fun b=>if b∈ps then(match hp w' (θ.bx b)with|some (.cells arr _ _)=>some (List.replicate arr.size .undef)|_=>none)else ae.boxes b
  have cq:=bQ.blocks bk k2;have hB: ∀b,(Bb b=ae.boxes b∧b∉ps)∨((ae.boxes b).isSome=true∧ ∃arr ty frz,Bb b=some (List.replicate arr.size .undef)∧hp w' (θ.bx b)=some (.cells arr ty frz)∧ig arr.size frz∧ ∀v∈arr.toList,cz v=true):=by
   intro b;by_cases j:b∈ps
   ·right
    obtain⟨p,hp,ar⟩:=List.mem_filterMap.1 j;obtain⟨b',h1,h2,h3⟩:=ad p hp;rw [ar]at h1;cases h1;obtain⟨arr,ty,frz,j1,j2,j3⟩:=cq p hp;rw [h3]at j1;exact⟨h2,arr,ty,frz,by simp [Bb,j,j1],j1,j2,j3⟩
   ·left;exact⟨by simp [Bb,j],j⟩
  have bw:=z.inv.XA (w':=w') (Fc:=Fc) (Bb:=Bb) o1 o3 o4 o5 o2 bq a7 aq (fun b=>(hB b).imp (fun ⟨h1,h2⟩=>⟨h1,fun hs hf=>by
   rcases hf with hf|⟨p,hp,he⟩
   ·exact z.free _ hf (.inl ⟨b,hs,rfl⟩)
   ·obtain⟨b',j1,j2,j3⟩:=ad p hp
    rw [j3]at he;have:=z.inv.bb b b' hs j2 he;subst this;exact h2 (List.mem_filterMap.2 ⟨p,hp,j1⟩)⟩) id)
  obtain⟨i1,i2⟩:=bw;rw [dh]at h;obtain⟨dk,dm,dn⟩:=k1.gW [] (fD d);have bz: ∀g,cS (ae.cY Bb) θ g→cS ae θ g:=by
   rintro g (⟨b,j,e⟩|hg)
   ·have j:(Bb b).isSome=true:=j
    rcases hB b with⟨h1, -⟩|⟨h1, -⟩
    ·exact .inl ⟨b,by rw [←h1];exact j,e⟩
    ·exact .inl ⟨b,h1,e⟩
   ·exact .inr hg
  have ca:fc w0 F (ae.cY Bb) θ (Env.fps (A1++A2)):=by
   refine⟨(List.nodup_append.1 cn).1,fun g hg=>⟨fun ho=> ?_, ?_⟩⟩
   ·have ho:=bz g ho
    rcases a8 g hg with hf|cu
    ·rcases hf with hf|⟨p,hp,rfl⟩
     ·exact z.free g hf ho
     ·exact(List.nodup_append.1 cn).2.2 _ hg _ (List.mem_map.2 ⟨p,hp,rfl⟩) rfl
    ·have:=z.inv.jS ho
     omega
   ·rcases a8 g hg with hf|cu
    ·exact bq g hf
    ·exact .inr (Nat.le_trans z.inv.size cu)
  have ai:fc w0 F (ae.cY Bb) θ (Env.fps (dk++A2)):=by
   rw [Env.di,dn,←Env.di];exact ca
  have u0:iq w0 F R rp true Bb w' ae θ []:=⟨i1,by simp,fun m g hm=>hm.elim⟩
  obtain⟨x,dp,θ1,l4,h,b1,t1,u1,av,dq,xb,dr⟩:=LM (tab e).outs u0 dm ai.left h;have az:=ai.split (st1:=dp.cY Bb) (θ1:=θ1) dr;rw [←List.append_nil d2]at h;obtain⟨a1,dt,cv,l5,h,t2,j1,j2,j3,j4,j5⟩:=LV (bl:=fl θ s2.bm) (N:=(tab e).bx.map (·.1)) (tab e).bx (tab e).bM (u1.any A1) (List.all_eq_true.2 c8) (fun p hp=>List.mem_map.2 ⟨p,hp,rfl⟩) k2 az (fun m hm b ar=>by
   obtain⟨p,hp,rfl⟩:=List.mem_map.1 hm;obtain⟨b',q1,q2,q3⟩:=ad p hp;rw [ar]at q1;cases q1;refine⟨?_,by rw [xb,q3]⟩
   rcases hB b with⟨h1, -⟩|⟨-,arr,ty,frz,h1, -⟩
   ·rw [h1];exact q2
   ·rw [h1];rfl) h
  have du:cv=a1.boxes:=by
   funext b
   by_cases j:b∈ps
   ·obtain⟨p,hp,ar⟩:=List.mem_filterMap.1 j
    exact j4 p hp b ar
   ·exact j3 b (by rw [b1];simp [Bb,j])
  have dw:a1.cY cv=a1:=by rw [du];rfl
  rw [dw]at j1 j2;refine⟨u,a1,dt,x,l5,df,h,j1,((z.step.trans i2).trans av).trans j2,aT.step j2 _ _ dq,fun bf=>⟨?_,fun b j=> ?_⟩⟩
  ·rw [j5 bf,b1,z.boxes]
  ·refine o2 _ (hI.jS (.inl ⟨b,j,rfl⟩)) fun hf=> ?_
   rcases hf with hf|⟨p,hp, -⟩
   ·exact z.free _ hf (.inl ⟨b,by rw [z.boxes];exact j,rfl⟩)
   ·rw [bf]at hp;cases hp
theorem XB (hI:Inv w0 F R st θ w) {n v:Nat} {d0:DV} (hd:(st.aj n).bg=some d0) (hv:v=(st.aj n).aF) {u:Value} (ha:θ.ob n=u) {st2:St} {θ':Asg} {w':World} (ae:Inv w0 F R st2 θ' w') (hs:Step R st θ (hp w) st2 θ' (hp w'))
  (ah:st2.boxes=st.boxes) (ai: ∀b,(st.boxes b).isSome=true→hp w' (θ.bx b)=hp w (θ.bx b)) {r y:TV} (hr:aT (hp w') R st2 θ' r u) (h:(CA n v (st.aj n).wv d0 r).run st2=some (y,st',l)):
  ∃p,Inv w0 F R st' p w'∧Step R st θ (hp w) st' p (hp w')∧y=.aO []:=by
 unfold CA at h;split at h
 ·rename_i c
  simp only [aT]at hr;obtain⟨x,st3,fps,l1,h,f,ak,af⟩:=tQ ae hr.1 h;obtain⟨hlen,h⟩:=M.aL h;have hlen:=Nat.eq_of_beq_eq_true hlen;obtain⟨l2,h⟩:=M.fG h;obtain⟨al,h⟩:=M.aL h;obtain⟨l3,h⟩:=M.oa h;obtain⟨rfl,rfl⟩:=M.gE h;have s3:=hs.trans f.step;let p:Asg:=⟨θ'.bx,aR θ'.ob n u,aR θ'.fp n fps⟩
  have q:Step R st θ (hp w) {st3 with aj:=aR st3.aj n ⟨v,(st.aj n).wv+1,some ⟨d0.c,x⟩⟩} p (hp w'):=by
   refine⟨s3.rd,fun b t=>s3.bx b t,fun k=> ?_⟩
   by_cases e:k=n
   ·subst e
    refine .inr (.inr ⟨by simp only [bA];exact hv,by simp only [bA];omega,by rw [hd];rfl,fun d' h'=> ?_⟩)
    simp only [bA,Option.some.injEq]at h';subst h';exact⟨by show aR θ'.ob k u k=θ.ob k;rw [bA,ha],d0,hd,rfl,hlen⟩
   ·have:=s3.ob k
    show(aR st3.aj n _ k=st.aj k∧(_→aR θ'.ob n u k=θ.ob k∧aR θ'.fp n fps k=θ.fp k∧_))∨_;simp only [aW _ _ e];rcases this with h|h|⟨h1,h2,h3,h4⟩
    ·exact .inl h
    ·exact .inr (.inl h)
    ·refine .inr (.inr ⟨h1,h2,h3,fun d' h'=> ?_⟩)
     obtain⟨q1,q2⟩:=h4 d' h';refine⟨?_,q2⟩
     show aR θ'.ob n u k=θ.ob k;rw [aW _ _ e];exact q1
  have m: ∀g∈fps,¬cS st3 θ' g:=f.free
  refine⟨p,⟨f.inv.size,f.inv.same,f.inv.os,f.inv.tape,f.inv.out,f.inv.rd,fun b cs s=> ?_,fun k d hk=> ?_,fun b b'=>f.inv.bb b b',fun b k t hk=> ?_,fun k k' g hk z i j=> ?_,fun g i=> ?_⟩,q,rfl⟩
  ·have s:st3.boxes b=some cs:=s
   rw [f.boxes,ah]at s;obtain⟨arr,ty,frz,k1,k2,k3⟩:=hI.boxes b cs s;have t:(st.boxes b).isSome=true:=by rw [s];rfl
   refine⟨arr,ty,frz, ?_,k2,aH.step q _ _ k3⟩
   show hp w' (θ'.bx b)=_;rw [(hs.bx b t).2,ai b t];exact k1
  ·by_cases e:k=n
   ·subst e
    simp only [bA,Option.some.injEq]at hk;subst hk;refine⟨ak, ?_, ?_⟩
    ·show aC (hp w') R true _ (aR θ'.ob k u k) (aR θ'.fp k fps k)
     rw [bA,bA];exact af
    ·show(aR θ'.fp k fps k).Nodup
     rw [bA];exact f.nodup
   ·simp only [aW _ _ e]at hk
    obtain⟨q1,q2,q3⟩:=f.inv.aj k d hk;refine⟨q1, ?_, ?_⟩
    ·show aC (hp w') R true _ (aR θ'.ob n u k) (aR θ'.fp n fps k)
     rw [aW _ _ e,aW _ _ e];exact q2
    ·show(aR θ'.fp n fps k).Nodup
     rw [aW _ _ e];exact q3
  ·show θ'.bx b∉aR θ'.fp n fps k
   by_cases e:k=n
   ·subst e
    rw [bA];exact fun hm=>m _ hm (.inl ⟨b,t,rfl⟩)
   ·rw [aW _ _ e]
    simp only [aW _ _ e]at hk;exact f.inv.bo b k t hk
  ·have i:g∈aR θ'.fp n fps k:=i
   have j:g∈aR θ'.fp n fps k':=j;by_cases e:k=n<;>by_cases e':k'=n
   ·rw [e,e']
   ·subst e
    rw [bA]at i;rw [aW _ _ e']at j;simp only [aW _ _ e']at z;exact absurd (.inr ⟨k',z,j⟩) (m _ i)
   ·subst e'
    rw [bA]at j;rw [aW _ _ e]at i;simp only [aW _ _ e]at hk;exact absurd (.inr ⟨k,hk,i⟩) (m _ j)
   ·rw [aW _ _ e]at i
    rw [aW _ _ e']at j;simp only [aW _ _ e]at hk;simp only [aW _ _ e']at z;exact f.inv.oo k k' g hk z i j
  ·rcases i with⟨b,t,e⟩|⟨k,hk,i⟩
   ·exact f.inv.own g (.inl ⟨b,t,e⟩)
   ·have i:g∈aR θ'.fp n fps k:=i
    by_cases e:k=n
    ·subst e
     rw [bA]at i;exact ae.own g (f.was g i)
    ·rw [aW _ _ e]at i
     simp only [aW _ _ e]at hk;exact f.inv.own g (.inr ⟨k,hk,i⟩)
 ·simp [M.run]at h
theorem XC {tab:Nat→Entry} {gV:FuncId→List Nat} {D:(e:Nat)→List DV→Option (bL (tab e).bG)} {f:FuncId} {j:List TV} {d:Nat} {v:TV} {vals:Array Value}
  {gl:bD} (m:oi gl w0 F) (hD: ∀e ds r,D e ds=some r→cV P gl (tab e) ds r) (hE: ∀e,jW (tab e)=true) (hI:Inv w0 F R st θ w) (hv: ∀i c,j[i]? =some c→aT (hp w) R st θ c (vals.getD i undef)) (hlen:j.length=vals.size)
  (h:(pI tab gV D f j d).run st=some (v,st',l)):
  Calls P f vals w fun
   |.returned u,w'=> ∃θ',Inv w0 F R st' θ' w'∧Step R st θ (hp w) st' θ' (hp w')∧aT (hp w') R st' θ' v u
   |_,_=>False:=by
 unfold pI at h;split at h
 ·simp [M.run]at h
 rename_i e he;obtain⟨hf,h⟩:=M.aL h;have hf:=Nat.eq_of_beq_eq_true hf;rw [←hf];split at h
 ·rename_i s
  refine(LW m hD (hE e) hI hv hlen h).mono fun en w' k=> ?_
  cases en with
  |panicked _=>exact k
  |outgrown=>exact k
  |returned u=>
   obtain⟨uv,st2,θ',x,l2,g,h2,h3,h4,h5, -⟩:=k;obtain⟨rfl,rfl⟩:=M.gE h2;unfold tW at g;rw [s]at g;simp only at g;subst g;exact⟨θ',h3,h4,h5⟩
 ·rename_i t s
  split at h
  ·rename_i n aF ht
   obtain⟨l1,h⟩:=M.fG h;split at h
   ·rename_i d0 hd
    obtain⟨b,h⟩:=M.aL h;have b:=Nat.eq_of_beq_eq_true b;have z:=hv t _ ht;simp only [aT,aw]at z;have z:=(z.1.2 b (by rw [hd];rfl)).symm
    have p:(tab e).bx=[]:=by
     have q:=hE e;simp only [jW,Bool.and_eq_true,List.all_eq_true]at q;have:=q.2.2.2.2.2.2;rw [s]at this;simp only [Option.isNone_some,Bool.false_or,Bool.and_eq_true,List.isEmpty_iff]at this;exact this.1
    refine(LW m hD (hE e) hI hv hlen h).mono fun en w' k=> ?_
    cases en with
    |panicked _=>exact k
    |outgrown=>exact k
    |returned u=>
     obtain⟨uv,st2,θ',x,l2,g,h2,h3,h4,h5,h6⟩:=k;unfold tW at g;rw [s]at g;obtain⟨rfl,rfl⟩:=g;obtain⟨al,ao⟩:=h6 p;obtain⟨aq,q1,q2,rfl⟩:=XB hI hd b z h3 h4 al ao h5 h2;exact⟨aq,q1,q2,by simp only [aT,bS];exact⟨#[],rfl,rfl⟩⟩
   ·simp [M.run]at h
  ·simp [M.run]at h
end
end Go.Ev
namespace Go.Ev
def rq (P:Program) (w0:World) (F R:Nat→Prop) (st:St) (θ:Asg) (w:World) (o:Oper) (a:Act) (v:TV) (st':St):Prop:=
 ∀(K:Act→World→Prop) (Q:Exit→Act→World→Prop),(∀u w' θ',Inv w0 F R st' θ' w'→Step R st θ (hp w) st' θ' (hp w')→aT (hp w') R st' θ' v u→K (a.put o.dst u) w')→o.wp P a w K Q
section
variable {P:Program} {T:TypeId→Option TyI} {w0 w:World} {F R:Nat→Prop} {st st':St} {θ:Asg} {a:Act} {o:Oper} {v:TV} {l:Log}
theorem aU.ok (h:aU P w0 F R st θ w o a v st'):rq P w0 F R st θ w o a v st':=by
 intro K Q d;obtain⟨u,w',θ',b,f,g,i⟩:=h.out;unfold Oper.wp;rcases b with b|⟨b,rfl⟩
 ·rw [b,Oper.upon_value]
  exact d u w' θ' f g i
 ·rw [b,Oper.upon_skip]
  exact d _ w' θ' f g i
theorem XD {f:FuncId} {vals:Array Value} (he:(execOp a.eval o).run P w=.ok (.enter f vals) w)
  (b:Calls P f vals w fun
   |.returned u,w'=> ∃θ',Inv w0 F R st' θ' w'∧Step R st θ (hp w) st' θ' (hp w')∧aT (hp w') R st' θ' v u
   |_,_=>False):rq P w0 F R st θ w o a v st':=by
 intro K Q d;unfold Oper.wp;rw [he,Oper.upon_enter];refine b.mono fun e w' h=> ?_
 cases e with
 |returned u=>obtain⟨θ',g,i,j⟩:=h;exact d u w' θ' g i j
 |panicked _=>exact h.elim
 |outgrown=>exact h.elim
def Enters (P:Program) (f:FuncId):Prop:= ∃fn,P.funcs[f]? =some fn∧(fn.name== "runtime.NumGoroutine")=false∧fn.body.isNone=false
theorem XE {f:FuncId} (h:Enters P f) (vals:Array Value):(callFunc f vals).run P w=.ok (.enter f vals) w:=by
 obtain⟨fn,i,j,k⟩:=h;have d: ¬fn.name= "runtime.NumGoroutine" :=by simpa using j
 cases g:fn.body with
 |none=>simp [g]at k
 |some b=>simp [callFunc,i,d,g]
theorem aH.vs {H:Heap}: ∀ {cs:List Cell} {vs:List Value},aH H R st θ cs vs→bS H R st θ (cs.map .one) vs
 | [],vs,h=>by simp only [aH]at h;simp [bS,h]
 |c::cs,vs,h=>by
  simp only [aH]at h;obtain⟨v,b,rfl,d,f⟩:=h;simp only [List.map_cons,bS];exact⟨v,b,rfl,⟨d.1,.inr d.2⟩,f.vs⟩
theorem bS.append {H:Heap}: ∀ {cs ds:List TV} {vs us:List Value},bS H R st θ cs vs→bS H R st θ ds us→bS H R st θ (cs++ds) (vs++us)
 | [],ds,vs,us,h,k=>by simp only [bS]at h;subst h;simpa using k
 |c::cs,ds,vs,us,h,k=>by
  simp only [bS]at h;obtain⟨v,b,rfl,d,f⟩:=h;simp only [List.cons_append,bS];exact⟨v,b++us,rfl,d,f.append k⟩
theorem bS.length {H:Heap}: ∀ {cs:List TV} {vs:List Value},bS H R st θ cs vs→cs.length=vs.length
 | [],vs,h=>by simp only [bS]at h;simp [h]
 |c::cs,vs,h=>by
  simp only [bS]at h;obtain⟨v,b,rfl, -,d⟩:=h;simp [d.length]
theorem XF {tab:Nat→Entry} {gV:FuncId→List Nat} {D:(e:Nat)→List DV→Option (bL (tab e).bG)} (j:Ok P T) {gl:bD} (ar:oi gl w0 F) (hD: ∀e ds r,D e ds=some r→cV P gl (tab e) ds r) (hE: ∀e,jW (tab e)=true) (hF: ∀e,Enters P (tab e).f)
  (hI:Inv w0 F R st θ w) (k:Tm (hp w) R st θ a) (h:(dm T (pI tab gV D) (bC st) o).run st=some (v,st',l)):rq P w0 F R st θ w o a v st':=by
 have ai: ∀(f:FuncId) (ak:List TV) (vals:List Value) (d:Nat),bS (hp w) R st θ ak vals→(execOp a.eval o).run P w=(callFunc f vals.toArray).run P w→(pI tab gV D f ak d).run st=some (v,st',l)→rq P w0 F R st θ w o a v st':=by
  intro f ak vals d hr he h;have au:Enters P f:=by
   have h':=h;unfold pI at h';split at h'
   ·simp [M.run]at h'
   ·rename_i e _
    obtain⟨hf, -⟩:=M.aL h';rw [←Nat.eq_of_beq_eq_true hf];exact hF e
  refine XD (f:=f) (vals:=vals.toArray) (by rw [he,XE au]) (XC ar hD hE hI (fun i c hi=> ?_) (by simpa using hr.length) h)
  obtain⟨u,hu,av⟩:=hr.get hi;have:vals.toArray.getD i undef=u:=by simp [Array.getD_eq_getD_getElem?,hu]
  rw [this];exact av
 cases hop:o.op with
 |move x=>simp only [dm,hop]at h;exact(Li hI k (.inl hop) h).ok
 |assign x=>simp only [dm,hop]at h;exact(Li hI k (.inr hop) h).ok
 |pick c x y=>
  simp only [dm,hop]at h;split at h
  ·rename_i b hb;exact(WH hI k hop hb h).ok
  ·simp [M.run]at h
 |alloc t=>
  simp only [dm,hop]at h;split at h
  ·rename_i i hi;exact(WJ j hI hop hi h).ok
  ·simp [M.run]at h
 |box t x=>
  simp only [dm,hop]at h;split at h
  ·exact(WK hI k hop h).ok
  ·simp [M.run]at h
 |build t parts=>
  simp only [dm,hop]at h;split at h
  ·rename_i fs sz bd z c q hi;exact(Xl j hI k hop hi rfl h).ok
  ·simp [M.run]at h
 |buildSlice t len parts=>
  simp only [dm,hop]at h;split at h
  ·rename_i c hc;exact(Xk j hI k hop hc h).ok
  ·simp [M.run]at h
 |load t x=>
  simp only [dm,hop]at h;split at h
  ·rename_i i hi;exact(WG j hI k hop hi h).ok
  ·simp [M.run]at h
 |store t x y=>
  simp only [dm,hop]at h;split at h
  ·rename_i i hi;exact(Xf j hI k hop hi h).ok
  ·simp [M.run]at h
 |nilCheck x=>
  simp only [dm,hop]at h;split at h
  all_goals first
   |(rename_i hx;exact(WL hI k hop hx trivial h).ok)
   |simp [M.run]at h
 |binOp op t x y t'=>
  simp only [dm,hop]at h;exact(WC j hI k hop h).ok
 |unOp op t x=>
  simp only [dm,hop]at h;split at h
  ·rename_i hx;exact(WM hI k hop hx h).ok
  ·rename_i hx;exact(WN hI k hop hx h).ok
  ·simp [M.run]at h
 |convert s t x=>
  simp only [dm,hop]at h;split at h
  ·rename_i h1 h2 h3;exact(WO j hI k hop h1 h2 h3 h).ok
  ·rename_i h1 h2 h3
   split at h
   ·rename_i c hc;exact(Xn j hI k hop h1 hc h3 h).ok
   ·simp [M.run]at h
  ·rename_i h1 h2 h3;exact(Xm j hI k hop h2 h3 h).ok
  ·rename_i h1 h2 h3;exact(WQ j hI k hop h1 h2 h3 h).ok
  ·simp [M.run]at h
 |makeFunc fn x y=>
  cases fn with
  |func f=>
   simp only [dm,hop]at h;split at h
   ·rename_i h1 h2;exact(Xa hI k hop h1 h2 h).ok
   ·simp [M.run]at h
  |_=>simp [dm,hop,M.run]at h
 |makeSlice t x y=>
  simp only [dm,hop]at h;split at h
  ·rename_i h1 h2 h3;exact(Xo j hI k hop h1 h2 h3 h).ok
  ·simp [M.run]at h
 |slice t x lo hi mx=>
  cases mx with
  |some m=>
   cases lo with
   |some _=>simp [dm,hop,M.run]at h
   |none=>
    cases hi with
    |none=>simp [dm,hop,M.run]at h
    |some hi=>
     simp only [dm,hop]at h;split at h
     ·rename_i h1 h2 h3;exact(WZ j hI k hop h1 h2 h3 h).ok
     ·simp [M.run]at h
  |none=>simp only [dm,hop]at h;exact(WY j hI k hop h).ok
 |fieldAddr s x f=>
  simp only [dm,hop]at h;split at h
  ·rename_i hi
   split at h
   ·rename_i hf;exact(WU j hI k hop hi rfl hf h).ok
   ·simp [M.run]at h
  ·simp [M.run]at h
 |field s x f=>
  simp only [dm,hop]at h;split at h
  ·rename_i hi hx
   split at h
   ·rename_i hf
    split at h
    ·rename_i ti ax;exact(WV j hI k hop hi rfl hf ax hx h).ok
    ·simp [M.run]at h
   ·simp [M.run]at h
  ·simp [M.run]at h
 |indexAddr t x i=>simp only [dm,hop]at h;exact(WX j hI k hop h).ok
 |index t x i=>simp only [dm,hop]at h;exact(WR j hI k hop h).ok
 |extract x i=>
  simp only [dm,hop]at h;split at h
  ·rename_i vs hx
   split at h
   ·rename_i y hy;exact(WW hI k hop hx hy h).ok
   ·simp [M.run]at h
  ·simp [M.run]at h
 |call c=>
  simp only [dm,hop]at h;split at h
  ·rename_i hc
   split at h
   ·rename_i h1 h2;exact(WT j hI k hop hc h1 h2 h).ok
   ·simp [M.run]at h
  ·rename_i hc
   split at h
   ·rename_i h1 h2
    split at h
    ·rename_i ct ay;exact(Xt j hI k hop hc h1 h2 ay h).ok
    ·simp [M.run]at h
   ·simp [M.run]at h
  ·rename_i hc
   split at h
   ·rename_i h1
    split at h
    ·rename_i h2 h3;exact(Xb hI k hop hc h1 h2 h3 h).ok
    ·simp [M.run]at h
   ·simp [M.run]at h
  ·rename_i hc
   split at h
   ·rename_i h1
    split at h
    ·rename_i h2 h3;exact(Xc hI k hop hc h1 h2 h3 h).ok
    ·simp [M.run]at h
   ·simp [M.run]at h
  ·rename_i f hc
   refine ai f _ (c.args.toList.map a.eval) _ (xx k _) ?_ h
   have hm:(c.args.toList.map a.eval).toArray=c.args.map a.eval:=Array.ext' (by simp)
   rw [hm];simp [execOp,hop,resolve,hc,Act.eval,Deferred.ofValue,invoke]
  ·rename_i g bf hc
   split at h
   ·rename_i f p q hx
    have hr:=(dJ k hx (by simp)).1
    simp only [aw]at hr;obtain⟨va,vb,e,h1,h2⟩:=hr;refine ai f _ (va.toList++(c.args.toList.map a.eval++vb.toList)) _ (h1.vs.append ((xx k _).append h2.vs)) ?_ h
    have hm:(va.toList++(c.args.toList.map a.eval++vb.toList)).toArray=va++c.args.map a.eval++vb:=Array.ext' (by simp)
    rw [hm];simp [execOp,hop,resolve,hc,e,Deferred.ofValue,invoke]
   ·simp [M.run]at h
  ·simp [M.run]at h
 |_=>simp [dm,hop,M.run]at h
end
end Go.Ev
namespace Go.Ev
def jz (all:Array Oper) (o:Oper) (st:St):Option Bool:=
 match o.guard with
 |none=>some true
 |some (j,want)=>match(all[j]?).bind (·.dst)with
  |some t=>match st.tmps t with
   |.one (.b x)=>some (x==want)
   |.aO []=>some false
   |_=>none
  |none=>none
def jX (opf:(Operand→TV)→Oper→M TV) (all:Array Oper) (o:Oper) (st:St):Option (St×Log):=
 match jz all o st with
 |some true=>((opf (bC st) o).run st).map fun r=>(r.2.1.put o.dst r.1,r.2.2)
 |some false=>some (st.put o.dst (.aO []),.none)
 |none=>none
def gp (opf:(Operand→TV)→Oper→M TV) (all:Array Oper):List Oper→St→List Log→St→Prop
 | [],st,ls,st'=>ls=[]∧st'=st
 |o::rest,st,ls,st'=> ∃st1 l b,ls=l::b∧jX opf all o st=some (st1,l)∧gp opf all rest st1 b st'
theorem XG {α:Type} (f:Nat→α) (k:Nat):aR f k (f k)=f:=by
 funext i
 by_cases h:i=k
 ·subst h;rw [bA]
 ·rw [aW _ _ h]
theorem Dd {st:St} {t:Nat} {x:Bool} (h:st.tmps t=.one (.b x)):know st t x=st:=by
 unfold know;rw [←h,XG]
section
variable {R':Type} {opf:(Operand→TV)→Oper→M TV} {all:Array Oper}
theorem XH {o:Oper} {st:St} {yes no:St→Option R'} {r:R'} (h:Cy all o st yes no=some r):
  (jz all o st=some true∧yes st=some r)∨(jz all o st=some false∧no st=some r):=by
 unfold Cy at h;split at h
 ·rename_i b
  exact .inl ⟨by simp [jz,b],h⟩
 ·rename_i j want b
  split at h
  ·rename_i t f
   split at h
   ·rename_i x d
    have hw:jz all o st=some (x==want):=by simp [jz,b,f,d]
    cases x<;>cases want<;>simp only [Y,da]at h<;>rw [Dd d]at h<;>rw [hw]
    ·exact .inl ⟨rfl,h⟩
    ·exact .inr ⟨rfl,h⟩
    ·exact .inr ⟨rfl,h⟩
    ·exact .inl ⟨rfl,h⟩
   ·rename_i d
    exact .inr ⟨by simp [jz,b,f,d],h⟩
   ·cases h
  ·cases h
def mJ:List Log→List Log→Prop
 | [],[]=>True
 |l::ls,l'::ls'=>l.sub l'∧mJ ls ls'
 |_,_=>False
theorem xE: ∀(rest:List Oper) {st:St} {acc:List Log} {K:St→List Log→Option R'} {r:R'},mE opf all rest st acc K=some r→
  ∃st' ls ls',gp opf all rest st ls st'∧mJ ls ls'∧K st' (ls'.reverse++acc)=some r
 | [],st,acc,K,r,h=>by
  simp only [mE]at h;exact⟨st,[],[],⟨rfl,rfl⟩,trivial,h⟩
 |o::rest,st,acc,K,r,h=>by
  simp only [mE]at h;rcases XH h with⟨hw,h⟩|⟨hw,h⟩
  ·obtain⟨v,st1,i,l',b,h, -,j⟩:=M.jO _ _ _ _ _ h
   obtain⟨st',ls,ls',d,f,g⟩:=xE rest h;refine⟨st',i::ls,l'::ls',⟨_,i,ls,rfl, ?_,d⟩,⟨j,f⟩,by simpa using g⟩
   simp [jX,hw,b]
  ·obtain⟨st',ls,ls',d,f,g⟩:=xE rest h
   refine⟨st',.none::ls,.none::ls',⟨_,.none,ls,rfl, ?_,d⟩,⟨⟨fun _ h=>h,fun _ h=>h⟩,f⟩,by simpa using g⟩
   simp [jX,hw]
end
section
variable {P:Program} {w0 w:World} {F R:Nat→Prop} {st st':St} {θ:Asg} {a:Act} {opf:(Operand→TV)→Oper→M TV} {all:Array Oper} {Q:Exit→Act→World→Prop}
theorem Tm.step {H H':Heap} {st':St} {θ':Asg} (s:Step R st θ H st' θ' H') (b:st'.tmps=st.tmps) (h:Tm H R st θ a):Tm H' R st' θ' a:=fun t=>by
 rw [b];exact aT.step s _ _ (h t)
theorem iy (st:St) (d:Option Nat) (v:TV):(st.put d v).boxes=st.boxes∧(st.put d v).aj=st.aj:=by cases d<;>exact⟨rfl,rfl⟩
theorem xF (H:Heap) (st:St) (θ:Asg) (d:Option Nat) (x:TV):Step R st θ H (st.put d x) θ H:=
 ⟨fun _ _=>rfl,fun b f=>⟨by rw [(iy st d x).1];exact f,rfl⟩,fun k=>.inl ⟨by rw [(iy st d x).2],fun _=>⟨rfl,rfl,fun _ _=>rfl⟩⟩⟩
theorem Inv.put (h:Inv w0 F R st θ w) (d:Option Nat) (x:TV):Inv w0 F R (st.put d x) θ w:=by
 have e:=iy st d x;refine h.next (xF (hp w) st θ d x) (Nat.le_refl _) rfl rfl rfl (fun _ _ e=>absurd rfl e) (fun b cs f=>.inl ⟨by rw [←e.1];exact f,rfl⟩) (fun k dd hd=>.inl ⟨by rw [←e.2];exact hd,rfl,rfl,fun _ _=>rfl⟩) ?_ ?_ ?_ ?_
 ·rw [e.1];exact h.bb
 ·rw [e.1,e.2];exact h.bo
 ·rw [e.2];exact h.oo
 ·rintro g (⟨b,j,i⟩|⟨k,hk,i⟩)
  ·rw [e.1]at j;exact h.own g (.inl ⟨b,j,i⟩)
  ·rw [e.2]at hk;exact h.own g (.inr ⟨k,hk,i⟩)
theorem Tm.put {H:Heap} (h:Tm H R st θ a) {d:Option Nat} {x:TV} {u:Value} (b:aT H R st θ x u) (hd: ∀t,d=some t→t<a.tmps.size):Tm H R (st.put d x) θ (a.put d u):=by
 intro t;refine aT.step (xF H st θ d x) _ _ ?_
 cases d with
 |none=>exact h t
 |some d=>
  simp only [St.put,Act.put];by_cases e:t=d
  ·subst e
   have:=hd t rfl;rw [bA,Array.getD_eq_getD_getElem?,Array.getElem?_setIfInBounds_self_of_lt this]
   exact b
  ·rw [aW _ _ e,Array.getD_eq_getD_getElem?,Array.getElem?_setIfInBounds_ne (fun h=>e h.symm),←Array.getD_eq_getD_getElem?]
   exact h t
theorem LX {H:Heap} (p:Tm H R st θ a) {o:Oper} {x:Bool} (h:jz all o st=some x):Region.wanted o (yielded all a.tmps)=x:=by
 unfold jz at h;split at h
 ·rename_i g
  cases h;simp [Region.wanted,g]
 ·rename_i j want g
  split at h
  ·rename_i t r
   split at h
   ·rename_i b k
    cases h;have f:=p t;rw [k]at f;simp only [aT,aw]at f;have d:=f.1;have m:a.tmps[t]? =some (.bool b):=by
     rw [Array.getD_eq_getD_getElem?]at d;cases i:a.tmps[t]? with
     |none=>rw [i]at d;simp [undef]at d
     |some q=>rw [i]at d;simp at d;rw [d]
    simp [Region.wanted,g,yielded,r,m]
   ·rename_i k
    cases h;have f:=p t;rw [k]at f;simp only [aT,bS]at f;obtain⟨arr,d,s⟩:=f;have hy:yielded all a.tmps j=none:=by
     unfold yielded;rw [r];simp only [Z];cases i:a.tmps[t]? with
     |none=>rfl
     |some q=>
      rw [Array.getD_eq_getD_getElem?,i]at d;simp only [Option.getD_some]at d;rw [d]
    simp [Region.wanted,g,hy]
   ·cases h
  ·cases h
theorem XI (H:Heap) (R:Nat→Prop) (st:St) (θ:Asg):aT H R st θ (.aO []) undef:=by
 simp only [aT,bS];exact⟨#[],rfl,rfl⟩
structure Nt where
 n:Nat
 keep:List (Nat×Value)
def Sz (nt:Nt) (a:Act):Prop:=a.tmps.size=nt.n∧ ∀p∈nt.keep,a.tmps.getD p.1 undef=p.2
def Nt.ok (nt:Nt) (t:Nat):Prop:=t<nt.n∧ ∀p∈nt.keep,t≠p.1
theorem Sz.put {nt:Nt} {a:Act} (h:Sz nt a) {d:Option Nat} (hd: ∀t,d=some t→nt.ok t) (u:Value):Sz nt (a.put d u):=by
 cases d with
 |none=>exact h
 |some t=>
  refine⟨by rw [←h.1];simp [Act.put],fun p hp=> ?_⟩
  rw [←h.2 p hp];have b:=(hd t rfl).2 p hp;simp only [Act.put,Array.getD_eq_getD_getElem?,Array.getElem?_setIfInBounds_ne b]
theorem xG (hop: ∀ {st st':St} {θ:Asg} {w:World} {a:Act} {o:Oper} {v:TV} {l:Log},Inv w0 F R st θ w→Tm (hp w) R st θ a→(opf (bC st) o).run st=some (v,st',l)→rq P w0 F R st θ w o a v st') {n:Nt}:
  ∀(j:List Nat) {ops:List Oper} {st:St} {ls:List Log} {θ:Asg} {w:World} {a:Act},j.map (all[·]?)=ops.map some→gp opf all ops st ls st'→Inv w0 F R st θ w→Tm (hp w) R st θ a→Sz n a→(∀o∈ops,∀t,o.dst=some t→n.ok t)→
   (∀θ' a' w',Inv w0 F R st' θ' w'→Step R st θ (hp w) st' θ' (hp w')→Tm (hp w') R st' θ' a'→Sz n a'→a'.defers=a.defers→Q .normal a' w')→wpOps P all Q j a w
 | [],ops,st,ls,θ,w,a,hm,h,q,d,r,hd,s=>by
  cases ops with
  |cons _ _=>simp at hm
  |nil=>
   obtain⟨-,rfl⟩:=h;simp only [wpOps];exact s θ a w q (Step.refl _ _ _ _) d r rfl
 |i::j,ops,st,ls,θ,w,a,hm,h,q,d,r,hd,s=>by
  cases ops with
  |nil=>simp at hm
  |cons o ops=>
   simp only [List.map_cons,List.cons.injEq]at hm;obtain⟨st1,l,al,rfl,he,h⟩:=h;simp only [wpOps,hm.1];have k: ∀t,o.dst=some t→t<a.tmps.size:=fun t ht=>by rw [r.1];exact(hd o (by simp) t ht).1
   have m: ∀u,Sz n (a.put o.dst u):=fun u=>r.put (hd o (by simp)) u
   have p: ∀u,(a.put o.dst u).defers=a.defers:=fun u=>by cases o.dst<;>rfl
   unfold jX at he;split at he
   ·rename_i hw
    obtain⟨⟨v,eA,l0⟩,b,he⟩:=Option.map_eq_some_iff.1 he;simp only [Prod.mk.injEq]at he;obtain⟨rfl,rfl⟩:=he;rw [if_pos (LX d hw)];left
    refine hop q d b _ _ fun u w' θ' h1 h2 h3=> ?_
    have hk:=(M.gU _ _ _ _ _ b).1;have z:=(d.step h2 hk).put h3 k;refine xG hop j hm.2 h (h1.put o.dst v) z (m u) (fun o' f=>hd o' (by simp [f])) fun g a2 w2 j1 j2 j3 j4 j5=>s g a2 w2 j1 ((h2.trans (xF _ _ _ _ _)).trans j2) j3 j4 (j5.trans (p u))
   ·rename_i hw
    simp only [Option.some.injEq,Prod.mk.injEq]at he;obtain⟨rfl,rfl⟩:=he;rw [if_neg (by rw [LX d hw];simp)]
    refine xG hop j hm.2 h (q.put o.dst _) (d.put (XI (hp w) R st θ) k) (m _) (fun o' f=>hd o' (by simp [f])) fun g a2 w2 j1 j2 j3 j4 j5=>s g a2 w2 j1 ((xF _ _ _ _ _).trans j2) j3 j4 (j5.trans (p _))
   ·cases he
end
end Go.Ev
namespace Go.Ev
theorem De {xs ys:List Nat} (h:nQ xs ys=true): ∀n,n∈xs→n∉ys:=by
 intro n b hm;simp only [nQ,List.all_eq_true]at h;have:=h n b;simp at this
 exact this hm
theorem St.ext' {s t:St} (b:s.tmps=t.tmps) (d:s.boxes=t.boxes) (f:s.aj=t.aj):s=t:=by
 cases s;cases t;simp_all
section
variable {opf:(Operand→TV)→Oper→M TV} {all:Array Oper}
def lH (opf:(Operand→TV)→Oper→M TV) (all:Array Oper) (o:Oper) (st:St):Option (M TV):=
 match jz all o st with
 |some true=>some (opf (bC st) o)
 |some false=>some (.ret (.aO []))
 |none=>none
theorem Df {o:Oper} {st s1:St} {l:Log} (h:jX opf all o st=some (s1,l)): ∃m v d,lH opf all o st=some m∧m.run st=some (v,d,l)∧s1=d.put o.dst v:=by
 unfold jX at h;split at h
 ·rename_i hw
  obtain⟨⟨v,eA,f⟩,b,he⟩:=Option.map_eq_some_iff.1 h;simp only [Prod.mk.injEq]at he;obtain⟨rfl,rfl⟩:=he;exact⟨_,v,eA,by simp [lH,hw],b,rfl⟩
 ·rename_i hw
  simp only [Option.some.injEq,Prod.mk.injEq]at h;obtain⟨rfl,rfl⟩:=h;exact⟨.ret (.aO []),.aO [],st,by simp [lH,hw],rfl,rfl⟩
 ·cases h
theorem LY {o:Oper} {st d:St} {l:Log} {m:M TV} {v:TV} (h:lH opf all o st=some m) (b:m.run st=some (v,d,l)):jX opf all o st=some (d.put o.dst v,l):=by
 unfold lH at h;unfold jX;split at h
 ·rename_i hw
  cases h;simp [b]
 ·rename_i hw
  cases h;simp only [M.run,Option.some.injEq,Prod.mk.injEq]at b;obtain⟨rfl,rfl,rfl⟩:=b;simp
 ·cases h
theorem LZ (f: ∀(ρ b:Operand→TV) (o:Oper),(∀x∈o.op.operands.toList,ρ x=b x)→opf ρ o=opf b o) {o:Oper} {st st':St} (h: ∀t∈pB o all,st.tmps t=st'.tmps t):lH opf all o st=lH opf all o st':=by
 have i:opf (bC st) o=opf (bC st') o:=f _ _ _ fun x k=>by
  cases x with
  |tmp t=>exact h t (by simp only [pB,List.mem_append];left;exact List.mem_filterMap.2 ⟨_,k,rfl⟩)
  |_=>rfl
 have m:jz all o st=jz all o st':=by
  unfold jz;cases p:o.guard with
  |none=>rfl
  |some g=>
   obtain⟨j,want⟩:=g;cases d:(all[j]?).bind (·.dst)with
   |none=>simp only [d]
   |some t=>
    have:=h t (by simp only [pB,p,List.mem_append];right;simp [d])
    simp only [d,this]
 unfold lH;rw [i,m]
theorem xH (s:St) (d:Option Nat) (v:TV):(s.put d v).tmps=match d with|some d=>aR s.tmps d v|none=>s.tmps:=by cases d<;>rfl
theorem Dg {s:St} {d:Option Nat} {v:TV} {t:Nat} (h: ∀d',d=some d'→d'≠t):(s.put d v).tmps t=s.tmps t:=by
 cases d with
 |none=>rfl
 |some d=>exact aW _ _ (fun e=>h d rfl e.symm)
theorem Dh {s s':St} {n:Nat} (d:Option Nat) (v:TV) (h:same s s' n):same s (s'.put d v) n:=by
 obtain⟨f,g⟩:=h;exact⟨fun b i=>by rw [(iy s' d v).1];exact f b i,fun k hk=>by rw [(iy s' d v).2];exact g k hk⟩
theorem Ma {s s':St} {n:Nat} (d:Option Nat) (v:TV) (h:same s s' n):same (s.put d v) s' n:=by
 obtain⟨f,g⟩:=h;exact⟨fun b i=>by rw [(iy s d v).1];exact f b i,fun k hk=>by rw [(iy s d v).2];exact g k hk⟩
theorem same.symm {s s':St} {n:Nat} (h:same s s' n):same s' s n:=⟨fun b d=>(h.1 b d).symm,fun k hk=>(h.2 k hk).symm⟩
theorem XJ {p q:Oper} {lp lq:Log} (h:indep all p q lp lq=true):(∀d,p.dst=some d→d∉pB q all∧q.dst≠some d)∧(∀d,q.dst=some d→d∉pB p all)∧nQ lp.wr lq.rd=true∧nQ lp.wr lq.wr=true∧nQ lq.wr lp.rd=true:=by
 simp only [indep,Bool.and_eq_true]at h;obtain⟨⟨⟨⟨b,f⟩,g⟩,i⟩,j⟩:=h;refine⟨fun d hd=> ?_,fun d hd=> ?_,g,i,j⟩
 ·rw [hd]at b
  simp only [Bool.and_eq_true,Bool.not_eq_true']at b;refine⟨fun hm=> ?_,fun e=> ?_⟩
  ·have:=b.1;simp at this;exact this hm
  ·have:=b.2;rw [e]at this;simp at this
 ·rw [hd]at f
  simp at f
  exact f
theorem XK (hc: ∀(ρ ad:Operand→TV) (o:Oper),(∀x∈o.op.operands.toList,ρ x=ad x)→opf ρ o=opf ad o) {p q:Oper} {st s1 s2:St} {lp lq ae af:Log} (h1:jX opf all p st=some (s1,lp)) (h2:jX opf all q s1=some (s2,lq))
  (hi:indep all p q ae af=true) (hp:lp.sub ae) (hq:lq.sub af): ∃ag,jX opf all q st=some (ag,lq)∧jX opf all p ag=some (s2,lp):=by
 obtain⟨i1,i2,i3,i4,i5⟩:=XJ hi;have d3: ∀n,n∈lp.wr→n∉lq.rd:=fun n j hm=>De i3 n (hp.2 n j) (hq.1 n hm)
 have d4: ∀n,n∈lp.wr→n∉lq.wr:=fun n j hm=>De i4 n (hp.2 n j) (hq.2 n hm)
 have d5: ∀n,n∈lq.wr→n∉lp.rd:=fun n j hm=>De i5 n (hq.2 n j) (hp.1 n hm)
 obtain⟨mp,vp,sp,e1,r1,rfl⟩:=Df h1;obtain⟨mq,vq,sq,e2,r2,rfl⟩:=Df h2;obtain⟨ah,ai⟩:=M.gU _ _ _ _ _ r1;obtain⟨aw,aj⟩:=M.gU _ _ _ _ _ r2;have ax:lH opf all q st=some mq:=by
  rw [←e2];refine LZ hc fun t ht=> ?_
  rw [Dg (fun d hd=>fun e=>(i1 d hd).1 (e▸ht)),ah]
 obtain⟨f,ak,s⟩:=M.mC _ _ _ _ _ r2 st (fun n j=>by
  have u:n∉lp.wr:=fun hw=>j.elim (d3 n hw) (d4 n hw)
  exact Ma _ _ (ai n u).symm)
 obtain⟨r, -⟩:=M.gU _ _ _ _ _ ak;refine⟨_,LY ax ak, ?_⟩
 have az:lH opf all p (f.put q.dst vq)=some mp:=by
  rw [←e1];refine(LZ hc fun t ht=> ?_).symm
  rw [Dg (fun d hd=>fun e=>i2 d hd (e▸ht)),r]
 obtain⟨a6,al,ao⟩:=M.mC _ _ _ _ _ r1 (f.put q.dst vq) (fun n j=>by
  have u:n∉lq.wr:=fun hw=>j.elim (d5 n hw) (fun h=>d4 n h hw)
  exact Dh _ _ ((s n).2 u))
 obtain⟨aq, -⟩:=M.gU _ _ _ _ _ al;have ar:=LY az al;rw [ar];congr 2
 have g: ∀n,same (sq.put q.dst vq) (a6.put p.dst vp) n:=by
  intro n;refine Ma _ _ (Dh _ _ ?_)
  by_cases m:n∈lp.wr
  ·have i:=d4 n m
   have z:=(ao n).1 m;have a2:=aj n i;exact⟨fun b g=>by rw [z.1 b g,a2.1 b g,(iy sp _ _).1],fun k hk=>by rw [z.2 k hk,a2.2 k hk,(iy sp _ _).2]⟩
  ·have z:=(ao n).2 m
   by_cases i:n∈lq.wr
   ·have a2:=(s n).1 i
    exact⟨fun b g=>by rw [z.1 b g,(iy f _ _).1,a2.1 b g],fun k hk=>by rw [z.2 k hk,(iy f _ _).2,a2.2 k hk]⟩
   ·have a2:=(s n).2 i
    have a3:=aj n i;have a4:=ai n m;exact⟨fun b g=>by rw [z.1 b g,(iy f _ _).1,a2.1 b g,a3.1 b g,(iy sp _ _).1,a4.1 b g],fun k hk=>by rw [z.2 k hk,(iy f _ _).2,a2.2 k hk,a3.2 k hk,(iy sp _ _).2,a4.2 k hk]⟩
 refine St.ext' ?_ (funext fun b=>(g (2*b)).1 b rfl) (funext fun k=>(g (2*k+1)).2 k rfl)
 rw [xH,xH,aq,aw,xH,xH,r,ah];cases a7:p.dst with
 |none=>rfl
 |some d=>
  cases a8:q.dst with
  |none=>rfl
  |some d'=>exact Wj _ _ _ (fun e=>(i1 d a7).2 (by rw [a8,e]))
theorem Mb (i: ∀(ρ b:Operand→TV) (o:Oper),(∀x∈o.op.operands.toList,ρ x=b x)→opf ρ o=opf b o) {o:Oper} {l l':Log} (j:l.sub l'): ∀(pre:List (Oper×Log×Log)) {post:List Oper} {st st':St} {ls:List Log},gp opf all (pre.map (·.1)++o::post) st (pre.map (·.2.1)++l::ls) st'→
  (∀x∈pre,x.2.1.sub x.2.2∧indep all x.1 o x.2.2 l'=true)→gp opf all (o::(pre.map (·.1)++post)) st (l::(pre.map (·.2.1)++ls)) st'
 | [],post,st,st',ls,h,_=>h
 |(p,lp,d)::pre,post,st,st',ls,h,k=>by
  simp only [List.map_cons,List.cons_append,gp]at h;obtain⟨s1,m,q,e,r,s⟩:=h;simp only [List.cons.injEq]at e;obtain⟨rfl,rfl⟩:=e;have ih:=Mb i j pre s (fun x f=>k x (by simp [f]))
  simp only [gp]at ih;obtain⟨s2,m,t,e,u,z⟩:=ih;simp only [List.cons.injEq]at e;obtain⟨rfl,rfl⟩:=e;obtain⟨q1,q2⟩:=k (p,lp,d) (by simp)
  obtain⟨g,j1,j2⟩:=XK i r u q2 q1 j;simp only [List.map_cons,List.cons_append,gp];exact⟨g,l,_,rfl,j1,s2,lp,_,rfl,j2,z⟩
end
end Go.Ev
namespace Go.Ev
section
variable {opf:(Operand→TV)→Oper→M TV} {all:Array Oper}
structure Mc (all:Array Oper) (f:Nat→Oper×Log×Log) (m:Nat→Nat):Prop where
 ops: ∀i,i<all.size→all[i]? =some (f i).1
 pairs: ∀i j,i<j→j<all.size→(m j).testBit i=true∨indep all (f i).1 (f j).1 (f i).2.2 (f j).2.2=true
 mJ: ∀i,i<all.size→(f i).2.1.sub (f i).2.2
 Me: ∀j,j<all.size→ ∀e∈(f j).1.after.toList,Region.binds .any e=true→e.on<j
 bits: ∀j,j<all.size→ ∀p,(m j).testBit p=true→ ∃e∈(f j).1.after.toList,Region.binds .any e=true∧(p=e.on∨(m e.on).testBit p=true)
theorem XL {listed:Array Bool} {i j:Nat} (d:Bool) (hi:i<listed.size):(listed.setIfInBounds i true).getD j d=if j=i then true else listed.getD j d:=by
 by_cases h:j=i
 ·subst h
  rw [if_pos rfl,Array.getD_eq_getD_getElem?,Array.getElem?_setIfInBounds_self_of_lt hi]
  rfl
 ·rw [if_neg h,Array.getD_eq_getD_getElem?,Array.getElem?_setIfInBounds_ne (fun e=>h e.symm),←Array.getD_eq_getD_getElem?]
theorem Mf (hc: ∀(ρ al:Operand→TV) (o:Oper),(∀x∈o.op.operands.toList,ρ x=al x)→opf ρ o=opf al o) {f:Nat→Oper×Log×Log} {m:Nat→Nat} (r:Mc all f m):
  ∀(fuel t:Nat) {listed:Array Bool} {rem:List Nat} {st st':St},rem.Pairwise (·< ·)→(∀i∈rem,i<all.size)→listed.size=all.size→(∀i,i<all.size→(listed.getD i true=false↔i∈rem))→
   (∀j,j<all.size→j∉rem→ ∀p,(m j).testBit p=true→p∉rem)→rem.length≤fuel→gp opf all (rem.map fun i=>(f i).1) st (rem.map fun i=>(f i).2.1) st'→
   ∃ls,gp opf all ((Region.linearise.go .any all fuel t listed []).map fun i=>(f i).1) st ls st'∧ ∀i∈Region.linearise.go .any all fuel t listed [],i<all.size
 |0,t,listed,rem,st,st',hp,hr,hs,hl,af,hf,h=>by
  have:rem=[]:=List.eq_nil_of_length_eq_zero (by omega)
  subst this;exact⟨_,by simpa [Region.linearise.go]using h,by simp [Region.linearise.go]⟩
 |fuel+1,t,listed,rem,st,st',hp,hr,hs,hl,af,hf,h=>by
  have s: ∀i,i∈Region.ready .any all listed→i∈rem∧ ∀e∈(f i).1.after.toList,Region.binds .any e=true→e.on∉rem:=by
   intro i hi;simp only [Region.ready,List.mem_filter,List.mem_range,Bool.and_eq_true,Bool.not_eq_true']at hi;obtain⟨g,h1,h2⟩:=hi;refine⟨(hl i g).1 h1,fun e he q hm=> ?_⟩
   rw [r.ops i g]at h2;simp only [Option.map_some,Option.getD_some,Array.all_eq_true']at h2;have h3:=h2 e (by simpa using he)
   rw [q]at h3;simp only [Bool.not_true,Bool.false_or]at h3;have aq:=hr _ hm;have h4:=(hl e.on aq).2 hm;rw [Array.getD_eq_getD_getElem?]at h3 h4;have:listed[e.on]? =some listed[e.on]:=Array.getElem?_eq_getElem (by omega)
   rw [this]at h3 h4;simp only [Option.getD_some]at h3 h4;rw [h3]at h4;cases h4
  simp only [Region.linearise.go];change ∃ls,gp opf all ((match (Region.ready .any all listed)[t%(Region.ready .any all listed).length]? with
   |some i=>Region.linearise.go .any all fuel (t/(Region.ready .any all listed).length) (listed.setIfInBounds i true) [i]
   |none=>[].reverse).map fun i=>(f i).1) st ls st'∧ ∀i∈(match (Region.ready .any all listed)[t%(Region.ready .any all listed).length]? with
   |some i=>Region.linearise.go .any all fuel (t/(Region.ready .any all listed).length) (listed.setIfInBounds i true) [i]
   |none=>[].reverse),i<all.size
  cases hi:(Region.ready .any all listed)[t%(Region.ready .any all listed).length]? with
  |none=>
   have au:Region.ready .any all listed=[]:=by
    cases hq:Region.ready .any all listed with
    |nil=>rfl
    |cons x xs=>
     rw [hq]at hi;have g:t%(x::xs).length<(x::xs).length:=Nat.mod_lt _ (by simp)
     rw [List.getElem?_eq_getElem g]at hi
     cases hi
   have av:rem=[]:=by
    cases rem with
    |nil=>rfl
    |cons x xs=>
     exfalso
     have hx:=hr x (by simp)
     have:x∈Region.ready .any all listed:=by
      simp only [Region.ready,List.mem_filter,List.mem_range,Bool.and_eq_true,Bool.not_eq_true'];refine⟨hx,(hl x hx).2 (by simp), ?_⟩
      rw [r.ops x hx];simp only [Option.map_some,Option.getD_some,Array.all_eq_true'];intro e he;cases q:Region.binds .any e with
      |false=>rfl
      |true=>
       have g:=r.Me x hx e (by simpa using he) q
       have a1:e.on∉x::xs:=fun hm=>by
        rcases List.mem_cons.1 hm with h|h
        ·omega
        ·have:=(List.pairwise_cons.1 hp).1 _ h;omega
       have h5:listed.getD e.on true≠false:=fun h=>a1 ((hl e.on (by omega)).1 h)
       rw [Array.getD_eq_getD_getElem?]at h5 ⊢;have h6:listed[e.on]? =some listed[e.on]:=Array.getElem?_eq_getElem (by omega)
       rw [h6]at h5 ⊢;simpa using h5
     rw [au]at this;cases this
   subst av;exact⟨_,by simpa using h,by simp⟩
  |some i=>
   obtain⟨aw,a7⟩:=s i (List.mem_of_getElem? hi);have d:=hr i aw;obtain⟨pre,post,rfl⟩:=List.append_of_mem aw;obtain⟨p1,p2,p3⟩:=List.pairwise_append.1 hp;obtain⟨p4,p5⟩:=List.pairwise_cons.1 p2;have k: ∀p,(m i).testBit p=true→p∉pre++i::post:=by
    intro p u;obtain⟨e,he,q,ag⟩:=r.bits i d p u;have ax:=a7 e he q;rcases ag with rfl|ag
    ·exact ax
    ·exact af e.on (Nat.lt_trans (r.Me i d e he q) d) ax p ag
   have ad:=Mb (opf:=opf) (all:=all) hc (o:=(f i).1) (l:=(f i).2.1) (l':=(f i).2.2) (r.mJ i d) (pre.map f) (post:=post.map fun i=>(f i).1) (ls:=post.map fun i=>(f i).2.1) (st:=st) (st':=st')
    (by simpa [List.map_map,Function.comp_def]using h) (fun x hx=>by
     obtain⟨j,hj,rfl⟩:=List.mem_map.1 hx;refine⟨r.mJ j (hr j (by simp [hj])), ?_⟩
     exact(r.pairs j i (p3 j hj i (by simp)) d).resolve_left (fun q=>k j q (by simp [hj])))
   simp only [gp]at ad;obtain⟨s1,l1,bt,e,h1,h2⟩:=ad;simp only [List.cons.injEq]at e;obtain⟨rfl,rfl⟩:=e;have z: ∀j,j∈pre++post↔j∈pre++i::post∧j≠i:=by
    intro j;simp only [List.mem_append,List.mem_cons];constructor
    ·rintro(h|h)
     ·exact⟨.inl h,fun e=>by have:=p3 j h i (by simp);omega⟩
     ·exact⟨.inr (.inr h),fun e=>by have:=p4 j h;omega⟩
    ·rintro⟨h|h|h,bd⟩
     ·exact .inl h
     ·exact absurd h bd
     ·exact .inr h
   obtain⟨ay,k1,k2⟩:=Mf hc r fuel (t/(Region.ready .any all listed).length) (listed:=listed.setIfInBounds i true) (rem:=pre++post) (st:=s1) (st':=st')
    (List.pairwise_append.2 ⟨p1,p5,fun a ha b q=>p3 a ha b (by simp [q])⟩) (fun j hj=>hr j ((z j).1 hj).1) (by simpa using hs)
    (fun j hj=>by
     rw [XL _ (by omega),z]
     by_cases e:j=i
     ·subst e;simp
     ·simp only [ne_eq,e,not_false_eq_true,and_true];exact hl j hj)
    (fun j hj bf p u bg=>by
     have ae:=(z p).1 bg;by_cases e:j=i
     ·subst e;exact k p u ae.1
     ·exact af j hj (fun hm=>bf ((z j).2 ⟨hm,e⟩)) p u ae.1)
    (by simp only [List.length_append,List.length_cons]at hf ⊢;omega)
    (by simpa [List.map_map,Function.comp_def]using h2)
   refine⟨(f i).2.1::ay, ?_, ?_⟩
   ·dsimp only
    rw [linearise_go_acc,List.reverse_singleton,List.singleton_append,List.map_cons];exact⟨s1,_,ay,rfl,h1,k1⟩
   ·dsimp only
    rw [linearise_go_acc,List.reverse_singleton,List.singleton_append];intro j hj;rcases List.mem_cons.1 hj with rfl|hj
    ·exact d
    ·exact k2 j hj
end
end Go.Ev
namespace Go.Ev
theorem Mg {T:TypeId→Option TyI} {call:FuncId→List TV→Nat→M TV} (ρ g:Operand→TV) (o:Oper) (h: ∀x∈o.op.operands.toList,ρ x=g x):dm T call ρ o=dm T call g o:=by
 obtain⟨dst,op,type,pos,after,guard⟩:=o;have pairs: ∀j:Array (Nat×Operand),(∀x∈j.map (·.2),ρ x=g x)→(j.toList.map fun p=>(p.1,ρ p.2))=(j.toList.map fun p=>(p.1,g p.2)):=fun j hp=>
  List.map_congr_left fun p hm=>by rw [hp p.2 (Array.mem_map.2 ⟨p,by simpa using hm,rfl⟩)]
 cases op<;>simp only [Op.operands]at h<;>simp only [dm]
 case build t j=>rw [pairs j fun x i=>h x (by simpa using i)]
 case buildSlice t n j=>rw [pairs j fun x i=>h x (by simpa using i)]
 case makeFunc fn first captured=>
  have q:first.toList.map ρ=first.toList.map g:=List.map_congr_left fun x i=>h x (by simp [Array.mem_toList_iff.1 i])
  have s:captured.toList.map ρ=captured.toList.map g:=List.map_congr_left fun x i=>h x (by simp [Array.mem_toList_iff.1 i])
  cases fn<;>simp only [q,s]
 case slice t x lo hi mx=>cases lo<;>cases hi<;>cases mx<;>simp_all
 case call c=>
  have d: ∀x∈c.args.toList,ρ x=g x:=fun x i=>h x (by simp [Call.operands,Array.mem_toList_iff.1 i])
  have k:c.args.toList.map ρ=c.args.toList.map g:=List.map_congr_left d;cases u:c.callee with
  |invoke r m=>rfl
  |value f=>
   have z:ρ f=g f:=h f (by simp [Call.operands,u])
   cases f<;>simp only [k,z]
  |builtin b=>
   cases b<;>try rfl
   case len=>
    revert d
    cases c.args.toList with
    |nil=>intro _;rfl
    |cons x xs=>intro d;cases xs<;>cases c.argTypes.toList<;>first|rfl|simp only [d x (by simp)]
   case append=>
    revert d
    cases c.args.toList with
    |nil=>intro _;rfl
    |cons x xs=>
     intro d;cases xs with
     |nil=>rfl
     |cons y ys=>
      cases c.argTypes.toList with
      |nil=>cases ys<;>rfl
      |cons t ts=>
       cases ts with
       |nil=>cases ys<;>rfl
       |cons t2 ts=>cases ys<;>cases ts<;>first|rfl|simp only [d x (by simp),d y (by simp)]
   case min=>
    revert d
    cases c.args.toList with
    |nil=>intro _;rfl
    |cons x xs=>
     intro d;cases xs with
     |nil=>rfl
     |cons y ys=>cases ys<;>first|rfl|simp only [d x (by simp),d y (by simp)]
   case max=>
    revert d
    cases c.args.toList with
    |nil=>intro _;rfl
    |cons x xs=>
     intro d;cases xs with
     |nil=>rfl
     |cons y ys=>cases ys<;>first|rfl|simp only [d x (by simp),d y (by simp)]
 all_goals (first|rfl|(simp_all;done))
theorem Mh {acc:List Nat} {p:Nat}: ∀(es:List Edge) (s:Nat),(es.foldl (fun s e=>cond (Region.binds .any e) (s |||2^e.on |||acc.getD e.on 0) s) s).testBit p=true→
  s.testBit p=true∨ ∃e∈es,Region.binds .any e=true∧(p=e.on∨(acc.getD e.on 0).testBit p=true)
 | [],s,h=>.inl h
 |e::es,s,h=>by
  simp only [List.foldl_cons]at h;rcases Mh es _ h with h|⟨d,f,g,i⟩
  ·cases b:Region.binds .any e with
   |false=>rw [b]at h;exact .inl h
   |true=>
    rw [b]at h;simp only [Y,Nat.testBit_or,Bool.or_eq_true,Nat.testBit_two_pow,decide_eq_true_eq]at h;rcases h with(h|h)|h
    ·exact .inl h
    ·exact .inr ⟨e,by simp,b,.inl h.symm⟩
    ·exact .inr ⟨e,by simp,b,.inr h⟩
  ·exact .inr ⟨d,by simp [f],g,i⟩
theorem Mi: ∀(ops:List Oper) (acc:List Nat) (k:Nat) (o:Oper),ops[k]? =some o→ ∃m,(jv ops acc)[k]? =some m∧
  ((∀e∈o.after.toList,Region.binds .any e=true→e.on<acc.length+k)→ ∀p,m.testBit p=true→ ∃e∈o.after.toList,Region.binds .any e=true∧(p=e.on∨((acc++jv ops acc).getD e.on 0).testBit p=true))
 | [],_,k,o,h=>by simp at h
 |i::ops,acc,0,o,h=>by
  simp only [List.getElem?_cons_zero,Option.some.injEq]at h
  subst h;refine⟨_,rfl,fun f p hp=> ?_⟩
  rcases Mh _ _ hp with h|⟨e,b,d,g⟩
  ·simp at h
  ·refine⟨e,b,d,g.imp id fun h=> ?_⟩
   have:=f e b d;rwa [List.getD_eq_getElem?_getD,List.getElem?_append_left (by omega),←List.getD_eq_getElem?_getD]
 |i::ops,acc,k+1,o,h=>by
  obtain⟨m,b,d⟩:=Mi ops (acc++[_]) k o (by simpa using h)
  refine⟨m,by simp only [jv,List.getElem?_cons_succ];exact b,fun f p hp=> ?_⟩
  obtain⟨e,g,j,q⟩:=d (fun e he r=>by have:=f e he r;simp;omega) p hp
  refine⟨e,g,j,q.imp id fun h=> ?_⟩
  simp only [jv];simpa using h
end Go.Ev
namespace Go.Ev
theorem Mj {all:Array Oper} {x:Oper} {g:Log} {i:Nat}: ∀(os:List Oper) (ls:List Log) (ms:List Nat),xa all x g i os ls ms=true→ ∀(k:Nat) (o:Oper) (l:Log) (m:Nat),os[k]? =some o→ls[k]? =some l→ms[k]? =some m→m.testBit i=true∨indep all x o g l=true
 |o::os,l::ls,m::ms,h,k,j,l',m',b,d,f=>by
  simp only [xa,Bool.and_eq_true,Bool.or_eq_true]at h;cases k with
  |zero=>simp at b d f;subst b d f;exact h.1
  |succ k=>exact Mj os ls ms h.2 k j l' m' (by simpa using b) (by simpa using d) (by simpa using f)
 | [],_,_,_,k,o,l,m,b,_,_=>by simp at b
 |_::_,[],_,_,k,o,l,m,_,d,_=>by simp at d
 |_::_,_::_,[],_,k,o,l,m,_,_,f=>by simp at f
theorem Ml {all:Array Oper}: ∀(os:List Oper) (ls:List Log) (ms:List Nat) (i:Nat),xc all i os ls ms=true→ ∀(j:Nat) (o:Oper) (l:Log) (m:Nat),os[j]? =some o→ls[j]? =some l→ms[j]? =some m→
  Cz (i+j) o=true∧ ∀(k:Nat) (b:Oper) (l':Log) (m':Nat),j<k→os[k]? =some b→ls[k]? =some l'→ms[k]? =some m'→m'.testBit (i+j)=true∨indep all o b l l'=true
 |o::os,l::ls,m::ms,i,h,j,p,q,m1,d,f,g=>by
  simp only [xc,Bool.and_eq_true]at h;cases j with
  |zero=>
   simp at d f g
   subst d f g;refine⟨h.1.1,fun k b l' m' hk k1 k2 k3=> ?_⟩
   cases k with
   |zero=>omega
   |succ k=>exact Mj os ls ms h.1.2 k b l' m' (by simpa using k1) (by simpa using k2) (by simpa using k3)
  |succ j=>
   obtain⟨q1,q2⟩:=Ml os ls ms (i+1) h.2 j p q m1 (by simpa using d) (by simpa using f) (by simpa using g)
   rw [show i+(j+1)=i+1+j from by omega]
   refine⟨q1,fun k b l' m' hk k1 k2 k3=> ?_⟩
   cases k with
   |zero=>omega
   |succ k=>exact q2 k b l' m' (by omega) (by simpa using k1) (by simpa using k2) (by simpa using k3)
 | [],_,_,_,_,j,o,l,m,d,_,_=>by simp at d
 |_::_,[],_,_,_,j,o,l,m,_,f,_=>by simp at f
 |_::_,_::_,[],_,_,j,o,l,m,_,_,g=>by simp at g
theorem Mm: ∀(ops:List Oper) (acc:List Nat),(jv ops acc).length=ops.length
 | [],_=>rfl
 |o::ops,acc=>by simp [jv,Mm ops]
theorem Di: ∀ {ls ls':List Log},mJ ls ls'→ls.length=ls'.length∧ ∀(i:Nat) (l:Log),ls[i]? =some l→ ∃l':Log,ls'[i]? =some l'∧l.sub l'
 | [],[],_=>⟨rfl,by simp⟩
 | [],_::_,h=>h.elim
 |_::_,[],h=>h.elim
 |l::ls,l'::ls',h=>by
  obtain⟨d,f⟩:=Di h.2;refine⟨by simp [d],fun i x b=> ?_⟩
  cases i with
  |zero=>simp at b;subst b;exact⟨l',rfl,h.1⟩
  |succ i=>simpa using f i x (by simpa using b)
theorem gp.length {opf:(Operand→TV)→Oper→M TV} {all:Array Oper}: ∀ {ops:List Oper} {st st':St} {ls:List Log},gp opf all ops st ls st'→ls.length=ops.length
 | [],_,_,_,h=>by rw [h.1];rfl
 |o::ops,st,st',ls,h=>by
  obtain⟨s1,l,b,rfl, -,d⟩:=h;simp [gp.length d]
def jA (all:Array Oper) (ls ls':List Log) (i:Nat):Oper×Log×Log:=(all.getD i default,ls.getD i .none,ls'.getD i .none)
theorem XM {all:Array Oper} {ls ls':List Log} (hl:ls.length=all.size) (q:mJ ls ls') (h:nR all ls'=true):Mc all (jA all ls ls') (fun i=>(jv all.toList []).getD i 0):=by
 obtain⟨ae,q⟩:=Di q;have ho: ∀i,i<all.size→all[i]? =some (jA all ls ls' i).1:=fun i hi=>by simp [jA,Array.getD_eq_getD_getElem?,Array.getElem?_eq_getElem hi]
 have r: ∀i,i<all.size→(jv all.toList [])[i]? =some ((jv all.toList []).getD i 0):=fun i hi=>by
  have:i<(jv all.toList []).length:=by rw [Mm];simpa using hi
  simp [List.getD_eq_getElem?_getD,List.getElem?_eq_getElem this]
 have s: ∀i,i<all.size→ls'[i]? =some (jA all ls ls' i).2.2:=fun i hi=>by
  have:i<ls'.length:=by omega
  simp [jA,List.getD_eq_getElem?_getD,List.getElem?_eq_getElem this]
 have d: ∀i,i<all.size→all.toList[i]? =some (jA all ls ls' i).1:=fun i hi=>by simpa using ho i hi
 have b:=fun i (hi:i<all.size)=>Ml all.toList ls' (jv all.toList []) 0 h i _ _ _ (d i hi) (s i hi) (r i hi)
 have g: ∀j,j<all.size→ ∀e∈(jA all ls ls' j).1.after.toList,Region.binds .any e=true→e.on<j:=fun j hj e he f=>by
  have:=(b j hj).1;rw [Nat.zero_add]at this;simp only [Cz,List.all_eq_true]at this;have:=this e he;rw [f]at this;have h3:Nat.blt e.on j=true:=by simpa using this
  exact Nat.le_of_ble_eq_true h3
 refine⟨ho,fun i j t hj=> ?_,fun i hi=> ?_,g,fun j hj p hp=> ?_⟩
 ·have:=(b i (by omega)).2 j _ _ _ t (d j hj) (s j hj) (r j hj)
  rwa [Nat.zero_add]at this
 ·have u:ls[i]? =some (jA all ls ls' i).2.1:=by
   have:i<ls.length:=by omega
   simp [jA,List.getD_eq_getElem?_getD,List.getElem?_eq_getElem this]
  obtain⟨l',k,z⟩:=q i _ u;rw [s i hi]at k;cases k;exact z
 ·obtain⟨m,k,z⟩:=Mi all.toList [] j _ (d j hj)
  rw [r j hj]at k;cases k;have:=z (fun e he f=>by have:=g j hj e he f;simp;omega) p hp
  simpa using this
end Go.Ev
namespace Go.Ev
theorem Mn {α:Type} (l:List α) (d:α):(List.range l.length).map (fun i=>l.getD i d)=l:=by
 apply List.ext_getElem?
 intro i;simp only [List.getElem?_map]
 by_cases h:i<l.length
 ·rw [List.getElem?_range h]
  simp [List.getD_eq_getElem?_getD,List.getElem?_eq_getElem h]
 ·rw [List.getElem?_eq_none (by simpa using h),List.getElem?_eq_none (by omega)]
  rfl
section
variable {P:Program} {w0 w:World} {F R:Nat→Prop} {st st':St} {θ:Asg} {a:Act} {opf:(Operand→TV)→Oper→M TV} {ops:Array Oper} {Q:Exit→Act→World→Prop} {ls ls':List Log}
def tX (P:Program) (opf:(Operand→TV)→Oper→M TV) (w0:World) (F R:Nat→Prop):Prop:=
 ∀ {st st':St} {θ:Asg} {w:World} {a:Act} {o:Oper} {v:TV} {l:Log},Inv w0 F R st θ w→Tm (hp w) R st θ a→(opf (bC st) o).run st=some (v,st',l)→rq P w0 F R st θ w o a v st'
theorem Mp (d:P.follows .mixedOrders=true) (hop:tX P opf w0 F R) (hc: ∀(ρ f:Operand→TV) (o:Oper),(∀x∈o.op.operands.toList,ρ x=f x)→opf ρ o=opf f o) {id:Nat} {draw:Bool} {n:Nt}
  (k:gp opf ops ops.toList st ls st') (g:mJ ls ls') (hd:draw=true→nR ops ls'=true) (r:Inv w0 F R st θ w) (s:Tm (hp w) R st θ a) (u:Sz n a) (b: ∀o∈ops.toList,∀t,o.dst=some t→n.ok t)
  (z: ∀θ' a' w',Inv w0 F R st' θ' w'→Step R st θ (hp w) st' θ' (hp w')→Tm (hp w') R st' θ' a'→Sz n a'→a'.defers=a.defers→Q .normal a' w'):(Code.region id ops draw).wp P Q a w:=by
 have hlen:ls.length=ops.size:=by simpa using k.length
 cases draw with
 |false=>
  refine wp_region (xG hop _ ?_ k r s u b z)
  apply List.ext_getElem?
  intro i;simp only [List.getElem?_map]
  by_cases h:i<ops.size
  ·rw [List.getElem?_range h]
   simp [h]
  ·rw [List.getElem?_eq_none (by simpa using h),List.getElem?_eq_none (by simpa using h)]
   rfl
 |true=>
  refine wp_region_draw fun t=> ?_
  have m:Inv w0 F R st θ {w with drawn:=w.drawn+1}:=(r.world (w':={w with drawn:=w.drawn+1}) (Nat.le_refl _) rfl rfl rfl (fun _ _=>rfl)).1
  simp only [Region.schedule,d,Bool.true_or,if_true];have p:=XM hlen g (hd rfl);have e1:(List.range ops.size).map (fun i=>(jA ops ls ls' i).1)=ops.toList:=by
   have:=Mn ops.toList default;simpa [jA,Array.getD_eq_getD_getElem?,List.getD_eq_getElem?_getD]using this
  have e2:(List.range ops.size).map (fun i=>(jA ops ls ls' i).2.1)=ls:=by
   have:=Mn ls .none;rw [hlen]at this;exact this
  obtain⟨ah,h1,h2⟩:=Mf hc p ops.size t (listed:=Array.replicate ops.size false) (rem:=List.range ops.size) (st:=st) (st':=st') List.pairwise_lt_range (fun i hi=>by simpa using hi) (by simp)
   (fun i hi=>by simp [Array.getD_eq_getD_getElem?,hi]) (fun j hj q=>absurd (by simpa using hj) q) (by simp) (by rw [e1,e2];exact k)
  refine xG hop _ (ops:=(Region.linearise.go .any ops ops.size t (Array.replicate ops.size false) []).map fun i=>(jA ops ls ls' i).1) ?_ h1 m s u (fun o ho=> ?_) z
  ·rw [List.map_map]
   exact List.map_congr_left fun i hi=>p.ops i (h2 i hi)
  ·obtain⟨i,hi,rfl⟩:=List.mem_map.1 ho
   have:=p.ops i (h2 i hi);exact b _ (Array.mem_toList_iff.2 (Array.mem_of_getElem? this))
end
end Go.Ev
namespace Go.Ev
section
variable {R:Nat→Prop} {st st' s2:St} {θ θ':Asg} {H H':Heap}
structure Old (st st':St):Prop where
 bx: ∀b,(st.boxes b).isSome=true→st'.boxes b=st.boxes b
 ob: ∀k,(st.aj k).bg.isSome=true→st'.aj k=st.aj k
mutual
theorem aw.forget (j:Old st st') (m:s2.boxes=st.boxes) (hk:s2.aj=st.aj): ∀(c:Cell) (v0 v:Value),aw H R st θ c v0→aw H' R st' θ' c v→aw H' R s2 θ' c v
 |.undef,_,_,_,_=>by simp [aw]
 |.b _,_,_,_,h=>by simpa only [aw]using h
 |.i _ _,_,_,_,h=>by simpa only [aw]using h
 |.s _,_,_,_,h=>by simpa only [aw]using h
 |.sh _ _,_,_,_,h=>by simpa only [aw]using h
 |.shn _ _,_,_,_,h=>by simpa only [aw]using h
 |.nl,_,_,_,h=>by simpa only [aw]using h
 |.z0,_,_,_,h=>by simpa only [aw]using h
 |.ob k aF vw,v0,v,g,h=>by
  simp only [aw]at g h ⊢;rw [hk];refine⟨g.1,fun e hd=> ?_⟩
  have:=j.ob k hd;rw [this]at h;exact h.2 e hd
 |.gs k aF wv pl c x,v0,v,g,h=>by
  simp only [aw]at g h ⊢;rw [hk];refine⟨g.1,g.2.1,fun e=>⟨(g.2.2 e).1,fun r d hd=> ?_⟩⟩
  have:=j.ob k (by simp [hd])
  rw [this]at h;exact(h.2.2 e).2 r d hd
 |.nilp,_,_,_,h=>by simpa only [aw]using h
 |.pb b off,v0,v,g,h=>by
  simp only [aw]at g h ⊢;rw [m];exact⟨g.1,h.2⟩
 |.pe k aF i off,v0,v,g,h=>by
  simp only [aw]at g h ⊢;rw [hk];refine⟨h.1,g.2.1,fun e d hd=> ?_⟩
  have:=j.ob k (by simp [hd])
  rw [this]at h;exact h.2.2 e d hd
 |.pr _ _ _,_,_,_,h=>by simpa only [aw]using h
 |.nilf,_,_,_,h=>by simpa only [aw]using h
 |.pg k aF wv ts x off,v0,v,g,h=>by
  simp only [aw]at g h ⊢;rw [hk];refine⟨h.1,g.2.1,fun e=>⟨(g.2.2 e).1,fun r hd=> ?_⟩⟩
  have:=j.ob k hd;rw [this]at h;exact(h.2.2 e).2 r hd
 |.fn f a b,v0,v,g,h=>by
  simp only [aw]at g h ⊢;obtain⟨va,vb,rfl,q,t⟩:=h;obtain⟨ae,af, -,k1,k2⟩:=g;exact⟨va,vb,rfl,aH.forget j m hk a _ _ k1 q,aH.forget j m hk b _ _ k2 t⟩
 |.er _,_,_,_,h=>by simpa only [aw]using h
theorem aH.forget (j:Old st st') (m:s2.boxes=st.boxes) (hk:s2.aj=st.aj): ∀(cs:List Cell) (p vs:List Value),aH H R st θ cs p→aH H' R st' θ' cs vs→aH H' R s2 θ' cs vs
 | [],_,_,_,h=>by simpa only [aH]using h
 |c::cs,p,vs,g,h=>by
  simp only [aH]at g h ⊢;obtain⟨v,u,rfl,q,t⟩:=h;obtain⟨v0,z, -,k1,k2⟩:=g;exact⟨v,u,rfl,⟨aw.forget j m hk c _ _ k1.1 q.1,q.2⟩,aH.forget j m hk cs _ _ k2 t⟩
end
mutual
theorem aT.forget (d:Old st st') (f:s2.boxes=st.boxes) (hk:s2.aj=st.aj): ∀(c:TV) (v0 v:Value),aT H R st θ c v0→aT H' R st' θ' c v→aT H' R s2 θ' c v
 |.one c,v0,v,b,h=>by
  simp only [aT]at b h ⊢;exact⟨aw.forget d f hk c _ _ b.1 h.1,h.2⟩
 |.agg cs,v0,v,b,h=>by
  simp only [aT]at b h ⊢;obtain⟨arr,rfl,h⟩:=h;obtain⟨g, -,b⟩:=b;exact⟨arr,rfl,aH.forget d f hk cs _ _ b h⟩
 |.aO vs,v0,v,b,h=>by
  simp only [aT]at b h ⊢;obtain⟨arr,rfl,h⟩:=h;obtain⟨g, -,b⟩:=b;exact⟨arr,rfl,bS.forget d f hk vs _ _ b h⟩
theorem bS.forget (d:Old st st') (f:s2.boxes=st.boxes) (hk:s2.aj=st.aj): ∀(cs:List TV) (i vs:List Value),bS H R st θ cs i→bS H' R st' θ' cs vs→bS H' R s2 θ' cs vs
 | [],_,_,_,h=>by simpa only [bS]using h
 |c::cs,i,vs,b,h=>by
  simp only [bS]at b h ⊢;obtain⟨v,j,rfl,m,p⟩:=h;obtain⟨v0,k, -,k1,k2⟩:=b;exact⟨v,j,rfl,aT.forget d f hk c _ _ k1 m,bS.forget d f hk cs _ _ k2 p⟩
end
end
section
variable {w0 w w':World} {F R:Nat→Prop} {st st' s2:St} {θ θ':Asg}
theorem Inv.forget (hI:Inv w0 F R st θ w) (f:Inv w0 F R st' θ' w') (s:Step R st θ (hp w) st' θ' (hp w')) (t:Old st st') (u:s2.boxes=st.boxes) (hk:s2.aj=st.aj):
  Inv w0 F R s2 θ' w'∧Step R st θ (hp w) s2 θ' (hp w'):=by
 have m: ∀b,(s2.boxes b).isSome=true→(st'.boxes b).isSome=true:=fun b h=>by rw [u]at h;rw [t.bx b h];exact h
 have p: ∀k,(s2.aj k).bg.isSome=true→(st'.aj k).bg.isSome=true:=fun k h=>by rw [hk]at h;rw [t.ob k h];exact h
 constructor
 ·refine⟨f.size,f.same,f.os,f.tape,f.out,f.rd,fun b cs r=> ?_,fun k d hd=> ?_,fun b b' i j=>f.bb b b' (m b i) (m b' j),fun b k i j=>f.bo b k (m b i) (p k j),fun k k' g i j=>f.oo k k' g (p k i) (p k' j), ?_⟩
  ·rw [u]at r
   have e:=t.bx b (by simp [r])
   obtain⟨arr,ty,frz,i,j,h3⟩:=f.boxes b cs (e.trans r);obtain⟨z,ag,ad, -, -,k3⟩:=hI.boxes b cs r;exact⟨arr,ty,frz,i,j,aH.forget t u hk cs _ _ k3 h3⟩
  ·rw [hk]at hd
   have e:=t.ob k (by simp [hd])
   exact f.aj k d (by rw [e];exact hd)
  ·rintro g (⟨b,i,j⟩|⟨k,i,j⟩)
   ·exact f.own g (.inl ⟨b,m b i,j⟩)
   ·exact f.own g (.inr ⟨k,p k i,j⟩)
 ·refine⟨s.rd,fun b h=>⟨by rw [u];exact h,(s.bx b h).2⟩,fun k=>.inl ⟨by rw [hk],fun h=> ?_⟩⟩
  have e:=t.ob k h;rcases s.ob k with⟨-,q⟩|q|⟨-,q, -⟩
  ·exact q h
  ·rw [e]at q;omega
  ·rw [e]at q;omega
end
section
variable {opf:(Operand→TV)→Oper→M TV} {all:Array Oper}
theorem Dj: ∀ {ops:List Oper} {st st':St} {ls:List Log},gp opf all ops st ls st'→(∀n,(∀l∈ls,n∉l.wr)→same st st' n)∧ ∀t,(∀o∈ops,o.dst≠some t)→st'.tmps t=st.tmps t
 | [],st,st',ls,h=>by
  obtain⟨-,rfl⟩:=h;exact⟨fun _ _=>⟨fun _ _=>rfl,fun _ _=>rfl⟩,fun _ _=>rfl⟩
 |o::ops,st,st',ls,h=>by
  obtain⟨s1,l,r,rfl,s,u⟩:=h;obtain⟨m,v,s0,e1,z,rfl⟩:=Df s;obtain⟨k1,k2⟩:=M.gU _ _ _ _ _ z;obtain⟨j1,j2⟩:=Dj u;refine⟨fun n i=> ?_,fun t j=> ?_⟩
  ·have p:=Dh o.dst v (k2 n (i l (by simp)))
   have a2:=j1 n (fun l' f=>i l' (by simp [f]))
   exact⟨fun b q=>(a2.1 b q).trans (p.1 b q),fun k hk=>(a2.2 k hk).trans (p.2 k hk)⟩
  ·rw [j2 t (fun o' g=>j o' (by simp [g])),Dg (fun d hd e=>j o (by simp) (by rw [hd,e])),k1]
theorem Dk: ∀(ops:List Oper) (st:St),(wipe st ops).boxes=st.boxes∧(wipe st ops).aj=st.aj∧ ∀t,(wipe st ops).tmps t=.one .undef∨((∀o∈ops,o.dst≠some t)∧(wipe st ops).tmps t=st.tmps t)
 | [],st=>⟨rfl,rfl,fun t=>.inr ⟨by simp,rfl⟩⟩
 |o::ops,st=>by
  cases hd:o.dst with
  |none=>
   obtain⟨f,g,i⟩:=Dk ops st;refine⟨by simp only [wipe,hd];exact f,by simp only [wipe,hd];exact g,fun t=> ?_⟩
   simp only [wipe,hd];refine(i t).imp id fun⟨k1,k2⟩=>⟨fun j b=> ?_,k2⟩
   rcases List.mem_cons.1 b with rfl|b
   ·rw [hd];simp
   ·exact k1 j b
  |some d=>
   obtain⟨f,g,i⟩:=Dk ops {st with tmps:=aR st.tmps d (.one .undef)}
   refine⟨by simp only [wipe,hd];exact f,by simp only [wipe,hd];exact g,fun t=> ?_⟩
   simp only [wipe,hd];rcases i t with k|⟨k1,k2⟩
   ·exact .inl k
   ·by_cases e:t=d
    ·subst e;left;rw [k2];simp [bA]
    ·right
     refine⟨fun j b=> ?_,by rw [k2];exact aW _ _ e⟩
     rcases List.mem_cons.1 b with rfl|b
     ·rw [hd];simp;exact fun h=>e h.symm
     ·exact k1 j b
theorem XN {ops:List Oper} {st st':St} {ls ls':List Log} (p:gp opf all ops st ls st') (d:mJ ls ls') (j:pC st ls'=true):Old st st':=by
 obtain⟨f,d⟩:=Di d;have hw: ∀n,(∃l∈ls,n∈l.wr)→cond (Nat.beq (n%2) 0) (st.boxes (n/2)).isNone (st.aj (n/2)).bg.isNone=true:=by
  rintro n ⟨l,f,g⟩
  obtain⟨i,hi,e⟩:=List.mem_iff_getElem.1 f;obtain⟨l',q,r⟩:=d i l (by rw [List.getElem?_eq_getElem hi,e])
  simp only [pC,List.all_eq_true]at j;exact j l' (List.mem_of_getElem? q) n (r.2 n g)
 have hk:=(Dj p).1;refine⟨fun b m=> ?_,fun k h=> ?_⟩
 ·refine(hk (2*b) fun l f g=> ?_).1 b rfl
  have:=hw (2*b) ⟨l,f,g⟩;rw [show 2*b%2=0 from by omega,show 2*b/2=b from by omega]at this
  simp at this
  rw [this]at m;cases m
 ·refine(hk (2*k+1) fun l f g=> ?_).2 k rfl
  have:=hw (2*k+1) ⟨l,f,g⟩;rw [show (2*k+1)%2=1 from by omega,show(2*k+1)/2=k from by omega]at this
  simp at this
  rw [this]at h;cases h
end
end Go.Ev
namespace Go.Ev
structure Good (w0:World) (F R:Nat→Prop) (E:Entry) (bl:Nat→Nat) (nt:Nt) (st:St) (θ:Asg) (w:World) (a:Act):Prop where
 inv:Inv w0 F R st θ w
 tm:Tm (hp w) R st θ a
 size:Sz nt a
 defers:a.defers=[]
 pins: ∀p∈E.bx,(st.boxes p.1).isSome=true∧θ.bx p.1=bl p.1
section
variable {P:Program} {w0 w:World} {F R:Nat→Prop} {E:Entry} {bl:Nat→Nat} {nt:Nt} {st st':St} {θ:Asg} {a:Act} {opf:(Operand→TV)→Oper→M TV} {ops:Array Oper} {Q:Exit→Act→World→Prop}
theorem Good.next (h:Good w0 F R E bl nt st θ w a) {θ':Asg} {w':World} {a':Act} (b:Inv w0 F R st' θ' w') (d:Step R st θ (hp w) st' θ' (hp w')) (f:Tm (hp w') R st' θ' a') (g:Sz nt a') (i:a'.defers=a.defers):Good w0 F R E bl nt st' θ' w' a':=
 ⟨b,f,g,i.trans h.defers,fun p hp=>by
  obtain⟨k1,k2⟩:=h.pins p hp;obtain⟨j,k⟩:=d.bx p.1 k1;exact⟨j,k.trans k2⟩⟩
theorem XO (b:P.follows .mixedOrders=true) (hop:tX P opf w0 F R) (j: ∀(ρ d:Operand→TV) (o:Oper),(∀x∈o.op.operands.toList,ρ x=d x)→opf ρ o=opf d o) {id:Nat} {draw:Bool} {R':Type} {k:St→Option R'} {r:R'}
  (h:mE opf ops ops.toList st [] (fun st' ls=>cond (!draw||nR ops ls.reverse) (k st') none)=some r) (i:Good w0 F R E bl nt st θ w a) (f: ∀o∈ops.toList,∀t,o.dst=some t→nt.ok t)
  (m: ∀st' θ' a' w',k st'=some r→Good w0 F R E bl nt st' θ' w' a'→Q .normal a' w'):(Code.region id ops draw).wp P Q a w:=by
 obtain⟨st',ls,ls',p,g,hk⟩:=xE _ h;rw [List.append_nil,List.reverse_reverse]at hk;cases hd:(!draw||nR ops ls')with
 |false=>rw [hd]at hk;cases hk
 |true=>
  rw [hd]at hk;simp only [Y]at hk;exact Mp b hop j p g (fun e=>by rw [e]at hd;simpa using hd) i.inv i.tm i.size f fun θ' a' w' q s u z h5=>m st' θ' a' w' hk (i.next q s u z h5)
theorem XP (i:P.follows .mixedOrders=true) (hop:tX P opf w0 F R) (u: ∀(ρ j:Operand→TV) (o:Oper),(∀x∈o.op.operands.toList,ρ x=j x)→opf ρ o=opf j o) {id t:Nat} {draw:Bool} {x:Bool}
  (h:mE opf ops ops.toList st [] (fun st' ls=>cond (pC st ls&&(!draw||nR ops ls.reverse)) (match st'.tmps t with|.one (.b x)=>some x|_=>none) none)=some x) (f:Good w0 F R E bl nt st θ w a) (m: ∀o∈ops.toList,∀t,o.dst=some t→nt.ok t)
  (z: ∀θ' a' w',Good w0 F R E bl nt (know (wipe st ops.toList) t x) θ' w' a'→Q .normal a' w'):(Code.region id ops draw).wp P Q a w:=by
 obtain⟨st',ls,ls',p,d,hk⟩:=xE _ h;rw [List.append_nil,List.reverse_reverse]at hk;cases hd:(pC st ls'.reverse&&(!draw||nR ops ls'))with
 |false=>rw [hd]at hk;cases hk
 |true=>
  rw [hd]at hk;simp only [Y]at hk;simp only [Bool.and_eq_true]at hd;have hx:st'.tmps t=.one (.b x):=by
   split at hk
   ·rename_i y hy;rw [hy,Option.some.inj hk]
   ·cases hk
  have q:pC st ls'=true:=by
   have:=hd.1;simp only [pC,List.all_reverse]at this;exact this
  have hold:=XN p d q;obtain⟨q1,q2,q3⟩:=Dk ops.toList st;refine Mp i hop u p d (fun e=>by have:=hd.2;rw [e]at this;simpa using this) f.inv f.tm f.size m fun θ' a' w' h1 h2 r h4 h5=> ?_
  obtain⟨i1,i2⟩:=f.inv.forget (s2:=know (wipe st ops.toList) t x) h1 h2 hold q1 q2;refine z θ' a' w' (f.next i1 i2 (fun s=> ?_) h4 h5)
  by_cases e:s=t
  ·subst e
   have g:=r s;rw [hx]at g;simp only [know,bA];simp only [aT,aw]at g ⊢;exact g
  ·simp only [know,aW _ _ e]
   rcases q3 s with k|⟨k1,k2⟩
   ·rw [k];exact lE _
   ·rw [k2]
    have g:=r s;rw [(Dj p).2 s k1]at g;exact aT.forget (s2:=know (wipe st ops.toList) t x) hold q1 q2 _ _ _ (f.tm s) g
end
end Go.Ev
namespace Go.Ev
section
variable {P:Program} {Q:Exit→Act→World→Prop} {a:Act} {w:World}
theorem exists_least {p:Nat→Prop} (h: ∃k,p k): ∃k,p k∧ ∀j,p j→k≤j:=by
 obtain⟨k,hk⟩:=h;induction k using Nat.strongRecOn with
 |_ k ih=>
  by_cases b: ∃j,j<k∧p j
  ·obtain⟨j,d,f⟩:=b
   exact ih j d f
  ·exact⟨k,hk,fun j hj=>Classical.byContradiction fun g=>b ⟨j,by omega,hj⟩⟩
open Classical in
noncomputable def least (J:Nat→Act→World→Prop) (a:Act) (w:World):Nat:=if h: ∃k,J k a w then Classical.choose (exists_least h)else 0
theorem Mq {J:Nat→Act→World→Prop} (h: ∃k,J k a w):J (least J a w) a w∧ ∀j,J j a w→least J a w≤j:=by
 unfold least;rw [dif_pos h];exact Classical.choose_spec (exists_least h)
theorem XQ {c:Code} (J:Nat→Act→World→Prop) {b:Nat} (d:J b a w) (round: ∀k a w,J k a w→c.wp P (Exit.then (fun a' w'=> ∃k',k'<k∧J k' a' w') Q) a w):(Code.loop c).wp P Q a w:=by
 refine wp_loop (I:=fun a w=> ∃k,J k a w) (μ:=least J) ⟨b,d⟩ fun a w h=> ?_
 refine wp_mono (round (least J a w) a w (Mq h).1) fun e a' w' he=> ?_
 cases e with
 |normal=>
  obtain⟨k',hk,hj⟩:=he;exact⟨⟨k',hj⟩,Nat.lt_of_le_of_lt ((Mq ⟨k',hj⟩).2 k' hj) hk⟩
 |_=>exact he
end
theorem Dl: ∀ {bq:List CT} {ds:List DV} {x:bL bq},eF bq ds=some x→lA bq x=ds
 | [],[],x,h=>rfl
 | [],_::_,x,h=>by simp [eF]at h
 | [c],[],x,h=>by simp [eF]at h
 | [c],[d],x,h=>by
  simp only [eF]at h;simp only [lA];rw [←LL h]
 | [c],_::_::_,x,h=>by simp [eF]at h
 |c::f::cs,[],x,h=>by simp [eF]at h
 |c::f::cs,d::ds,x,h=>by
  simp only [eF,Option.bind_eq_some_iff]at h;obtain⟨y,g,z,i,b⟩:=h;simp only [Option.some.injEq]at b;subst b;simp only [lA];rw [Dl i,←LL g]
end Go.Ev
namespace Go.Ev
theorem Dm {m b:Nat}: ∀ {bx:List (Nat×List CK)},look m (nT bx)=some b→b=m
 | [],h=>by simp [nT,look]at h
 |(a,ks)::r,h=>by
  simp only [nT,look]at h;cases d:Nat.beq a m with
  |true=>
   rw [d]at h;simp only [Y,Option.some.injEq]at h;rw [←h];exact Nat.eq_of_beq_eq_true d
  |false=>rw [d]at h;exact Dm h
structure Rd (w0:World) (F R:Nat→Prop) (E:Entry) (bl:Nat→Nat) (nt:Nt) (g:cG) (ds:List DV) (a:Act) (w:World):Prop where
 size:Sz nt a
 defers:a.defers=[]
 bg: ∃nal jV dB dT AB AT tU,ds=dB++dT∧Inv w0 F R eA tU w∧bQ (hp w) R (eO jV) nal jV [] g.boxes dB AB∧dP (hp w) R (eO jV) nal (fun t=>a.tmps.getD t undef) AB g.tmps dT AT∧
  ((AB++AT).fps++g.boxes.map fun p=>jV p.1).Nodup∧(∀b∈(AB++AT).fps++g.boxes.map fun p=>jV p.1,F b∨w0.heap.size≤b)∧ ∀p∈E.bx,jV p.1=bl p.1
section
variable {w0 w:World} {F R:Nat→Prop} {E:Entry} {bl:Nat→Nat} {nt:Nt} {st:St} {θ:Asg} {a:Act} {R':Type}
theorem Mr {H:Heap} (st:St) (θ:Asg) (f:Nat→TV):Step R st θ H {st with tmps:=f} θ H:=
 ⟨fun _ _=>rfl,fun _ h=>⟨h,rfl⟩,fun _=>.inl ⟨rfl,fun _=>⟨rfl,rfl,fun _ _=>rfl⟩⟩⟩
theorem Inv.tm (h:Inv w0 F R st θ w) (f:Nat→TV):Inv w0 F R {st with tmps:=f} θ w:=
 h.next (Mr st θ f) (Nat.le_refl _) rfl rfl rfl (fun _ _ e=>absurd rfl e) (fun _ _ g=>.inl ⟨g,rfl⟩) (fun _ _ hd=>.inl ⟨hd,rfl,rfl,fun _ _=>rfl⟩) h.bb h.bo h.oo h.own
theorem Dn {g:cG} {ds:List DV} {K:St→Option R'} {r:R'} (h:Rd w0 F R E bl nt g ds a w) (m: ∀p∈E.bx,p.1∈g.boxes.map (·.1)) (k:qY g ds K=some r): ∃st θ,K st=some r∧Good w0 F R E bl nt st θ w a:=by
 obtain⟨nal,jV,dB,dT,AB,AT,tU,rfl,s,d,i,u,z,j⟩:=h.bg;unfold qY at k;obtain⟨f,st1,l0,l',b,hK, -, -⟩:=M.jO _ _ _ _ _ k;obtain⟨f',su,θ',l1,h1,h2,h3,h4⟩:=Xz (bl:=jV) (B:=eO jV) (fun _ _ h=>h) (fun t=>a.tmps.getD t undef) s d i u z b
 obtain⟨rfl,rfl⟩:=M.gE h1;have hs:=Mr (H:=hp w) (R:=R) st1 θ' f;refine⟨_,θ',hK,h2.tm f,fun t=>aT.step hs _ _ (h3 t),h.size,h.defers,fun p hp=> ?_⟩
 obtain⟨q,hq,e⟩:=List.mem_map.1 (m p hp);obtain⟨k1,k2⟩:=h4 q hq;rw [←e];refine⟨k1,k2.trans ?_⟩
 rw [e];exact j p hp
theorem xI: ∀ {bx:List (Nat×List CK)} {p:Nat×List CK},p∈bx→look p.1 (nT bx)=some p.1
 | [],p,h=>by cases h
 |(a,ks)::r,p,h=>by
  simp only [nT,look];cases b:Nat.beq a p.1 with
  |true=>simp only [Y];rw [Nat.eq_of_beq_eq_true b]
  |false=>
   rcases List.mem_cons.1 h with rfl|h
   ·simp at b
   ·exact xI h
theorem Dp {g:cG} {K:List DV→Option R'} {r:R'} (f:Good w0 F R E bl nt st θ w a) (s:(g.boxes.map (·.1)).Nodup) (hE: ∀p∈E.bx,p.1∈g.boxes.map (·.1)) (hr:pJ g st K=some r): ∃ds,K ds=some r∧Rd w0 F R E bl nt g ds a w:=by
 unfold pJ at hr;obtain⟨ds,st1,l0,l',k,hK, -, -⟩:=M.jO _ _ _ _ _ hr;unfold KQ at k;have c0:eV st θ ⟨[],[],nT g.boxes,false,[]⟩ []:=⟨fun m n v wv h=>by simp [lB]at h,fun m b h=>.inr rfl,fun m m' b h h'=>by rw [←Dm h,←Dm h']⟩
 obtain⟨s1,ay,AB,dB,l1,h,ah,e1,u,c1,r1,ai⟩:=CZ f.inv g.boxes (bI.refl f.inv) c0 k;obtain⟨s2,a6,AT,dT,l2,h,i,e2,x2,c2,r2⟩:=LO f.inv (fun t=>a.tmps.getD t undef) f.tm g.tmps ah c1 h
 obtain⟨rfl,rfl⟩:=M.gE h;have aj:s2.cr=[]:=by rw [x2.pS u.iV,u.pS rfl]
 have z: ∀b,Rl R θ s2.cr b→R b:=fun b j=>by
  rw [aj]at j;exact j.resolve_right (by rintro⟨n,hn, -⟩;cases hn)
 have ad: ∀p∈g.boxes,look p.1 s2.bm=some p.1:=fun p hp=>x2.bm _ _ (u.bm _ _ (xI hp))
 have hB: ∀m b,Bl θ s2.bm m b→eO (fl θ s2.bm) m b:=fun m b ⟨c,h1,h2⟩=>by simp [eO,fl,h1,h2]
 have d: ∀p∈g.boxes,(st.boxes p.1).isSome=true∧fl θ s2.bm p.1=θ.bx p.1:=fun p hp=>by
  obtain⟨b,h1,h2⟩:=ai p hp;rw [u.bm _ _ (xI hp)]at h1;cases h1;exact⟨h2,by simp [fl,ad p hp]⟩
 have al: ∀p∈g.boxes,fl θ s2.bm p.1=fl θ s1.bm p.1:=fun p hp=>by
  simp [fl,ad p hp,u.bm _ _ (xI hp)]
 have ao:([]++Env.fps AB)++Env.fps AT=Env.fps (AB++AT):=by rw [Env.di];rfl
 rw [ao]at i;refine⟨_,hK,f.size,f.defers,false,fl θ s2.bm,dB,dT,AB,AT,θ, ?_,f.inv.drop θ, ?_, ?_, ?_, ?_, ?_⟩
 ·rw [tT,e2,e1];simp
 ·exact((r1.mono x2.rl x2.bl).mono z hB).ext al
 ·exact r2.mono z hB
 ·refine List.nodup_append.2 ⟨i.nodup, ?_,fun b j c hc e=> ?_⟩
  ·rw [List.nodup_iff_pairwise_ne,List.pairwise_map]at s ⊢
   refine List.Pairwise.imp_of_mem ?_ s
   intro p q hp hq aq heq;rw [(d p hp).2,(d q hq).2]at heq;exact aq (f.inv.bb _ _ (d p hp).1 (d q hq).1 heq)
  ·subst e
   obtain⟨p,hp,rfl⟩:=List.mem_map.1 hc;refine i.free _ j (.inl ⟨p.1,by rw [i.boxes];exact(d p hp).1,((d p hp).2).symm⟩)
 ·intro b j
  rcases List.mem_append.1 j with j|j
  ·exact f.inv.own b (i.was b j)
  ·obtain⟨p,hp,rfl⟩:=List.mem_map.1 j
   exact f.inv.own _ (.inl ⟨p.1,(d p hp).1,((d p hp).2).symm⟩)
 ·intro p hp
  obtain⟨q,hq,e⟩:=List.mem_map.1 (hE p hp);rw [←e,(d q hq).2,e];exact(f.pins p hp).2
end
end Go.Ev
namespace Go.Ev
def codeOk (nt:Nat) (d:List Nat):Code→Bool
 |.region _ ops _=>ops.toList.all fun o=>match o.dst with|some t=>Nat.blt t nt&& !d.elem t|none=>true
 |.seq a b=>codeOk nt d a&&codeOk nt d b
 |.cond _ a b=>codeOk nt d a&&codeOk nt d b
 |.block _ c=>codeOk nt d c
 |.loop c=>codeOk nt d c
 |_=>true
def rz (bx:List (Nat×List CK)) (g:cG):Bool:=decide ((g.boxes.map (·.1)).Nodup)&&bx.all fun p=>(g.boxes.map (·.1)).elem p.1
def tY (bx:List (Nat×List CK)):List (Nat×cG×cG×List CT)→Bool
 | []=>true
 |(_,g,h,_)::r=>(rz bx g&&rz bx h)&&tY bx r
theorem Ms {bx:List (Nat×List CK)} {g:cG} (h:rz bx g=true):(g.boxes.map (·.1)).Nodup∧ ∀p∈bx,p.1∈g.boxes.map (·.1):=by
 simp only [rz,Bool.and_eq_true,List.all_eq_true]at h;exact⟨of_decide_eq_true h.1,fun p hp=>by simpa using h.2 p hp⟩
theorem Mt {bx:List (Nat×List CK)} {id:Nat} {g:cG×cG×List CT}: ∀ {l:List (Nat×cG×cG×List CT)},tY bx l=true→tL id l=some g→rz bx g.1=true∧rz bx g.2.1=true
 | [],_,h=>by simp [tL]at h
 |(a,g1,f,c1)::r,b,h=>by
  simp only [tY,Bool.and_eq_true]at b;simp only [tL]at h;cases d:Nat.beq a id with
  |true=>
   rw [d]at h;simp only [Y,Option.some.injEq]at h;subst h;exact b.1
  |false=>
   rw [d]at h;exact Mt b.2 h
structure XR {X R':Type} (G:St→Asg→World→Act→Prop) (Fin:X→Act→World→Prop) (Q:Exit→Act→World→Prop) (ks:Ks X R') (r:R'):Prop where
 nrm: ∀st θ w a,ks.nrm st=some r→G st θ w a→Q .normal a w
 exit: ∀i st θ w a,ks.exit i st=some r→G st θ w a→Q (.exit i) a w
 ret: ∀st θ w a,ks.ret st=some r→G st θ w a→Q .ret a w
 fin: ∀x w a,ks.fin x=some r→Fin x a w→Q .ret a w
section
variable {P:Program} {T:TypeId→Option TyI} {w0:World} {F R:Nat→Prop} {E:Entry} {bl:Nat→Nat} {call:FuncId→List TV→Nat→M TV} {n:Nat} {nt:Nt}
theorem XS {X:Type} {f:(List DV→Option X)→List DV→Option X} {x:X} {body:Code} {Q:Exit→Act→World→Prop} {Rh:List DV→Act→World→Prop}
  (b: ∀self ds a w,f self ds=some x→Rh ds a w→body.wp P (Exit.then (fun a' w'=> ∃d,self d=some x∧Rh d a' w') Q) a w)
  {id k:Nat} {ds:List DV} {a:Act} {w:World} (h:iter id f k ds=some x) (g:Rh ds a w):(Code.loop body).wp P Q a w:=by
 refine XQ (fun k a w=> ∃ds,iter id f k ds=some x∧Rh ds a w) ⟨ds,h,g⟩ fun k a w i=> ?_
 obtain⟨ds,hit,g⟩:=i;cases k with
 |zero=>simp [iter]at hit
 |succ k=>
  simp only [iter]at hit;refine wp_mono (b _ ds a w hit g) fun e a' w' he=> ?_
  cases e with
  |normal=>exact⟨k,Nat.lt_succ_self k,he⟩
  |_=>exact he
theorem XT {ops:Array Oper} (h:codeOk nt.n (nt.keep.map (·.1)) (.region 0 ops false)=true): ∀o∈ops.toList,∀t,o.dst=some t→nt.ok t:=by
 simp only [codeOk,List.all_eq_true]at h;intro o b t d;have:=h o b;rw [d]at this;simp only [Bool.and_eq_true,Bool.not_eq_true',List.elem_eq_mem,decide_eq_false_iff_not]at this;refine⟨by simpa using this.1,fun p hp e=>this.2 ?_⟩
 rw [e];exact List.mem_map.2 ⟨p,hp,rfl⟩
theorem pZ (k:P.follows .mixedOrders=true) (hop:tX P (dm T call) w0 F R) (hl:tY E.bx E.loops=true) {Fin:bL E.bG→Act→World→Prop}
  (m: ∀ {R':Type} (ks:Ks (bL E.bG) R') (st:St) (θ:Asg) (w:World) (a:Act) (r:R'),pN T E ks st=some r→Good w0 F R E bl nt st θ w a→ ∃x,ks.fin x=some r∧Fin x a w):
  ∀(c:Code) {R':Type} {st:St} {ks:Ks (bL E.bG) R'} {r:R'} {θ:Asg} {w:World} {a:Act} {Q:Exit→Act→World→Prop},codeOk nt.n (nt.keep.map (·.1)) c=true→eB T call E n c st ks=some r→Good w0 F R E bl nt st θ w a→XR (Good w0 F R E bl nt) Fin Q ks r→c.wp P Q a w
 |.skip,R',st,ks,r,θ,w,a,Q,hk,h,b,j=>by
  simp only [eB]at h;exact wp_skip (j.nrm _ _ _ _ h b)
 |.region id ops draw,R',st,ks,r,θ,w,a,Q,hk,h,b,j=>by
  simp only [eB]at h;have u:=XT (nt:=nt) (ops:=ops) hk;split at h
  ·rw [Option.bind_eq_some_iff]at h
   obtain⟨x,h1,h2⟩:=h;exact XP k hop Mg h1 b u fun θ' a' w' af=>j.nrm _ _ _ _ h2 af
  ·exact XO k hop Mg h b u fun st' θ' a' w' h2 af=>j.nrm _ _ _ _ h2 af
 |.seq c d,R',st,ks,r,θ,w,a,Q,hk,h,b,j=>by
  simp only [eB]at h;simp only [codeOk,Bool.and_eq_true]at hk;refine wp_seq (pZ k hop hl m c hk.1 h b ⟨fun st θ w a h b=> ?_,fun i st θ w a h b=>j.exit i st θ w a h b,fun st θ w a h b=>j.ret st θ w a h b,fun x w a h hF=>j.fin x w a h hF⟩)
  exact pZ k hop hl m d hk.2 h b j
 |.cond c d e,R',st,ks,r,θ,w,a,Q,hk,h,b,j=>by
  simp only [codeOk,Bool.and_eq_true]at hk;cases c with
  |tmp t=>
   simp only [eB]at h;split at h
   ·rename_i x z
    have hr:=b.tm t;rw [z]at hr;simp only [aT,aw]at hr;have aj:a.eval (.tmp t)=.bool x:=hr.1;cases x with
    |true=>
     simp only [Y]at h;rw [Dd z]at h;exact wp_cond_true aj (pZ k hop hl m d hk.1 h b j)
    |false=>
     simp only [da]at h;rw [Dd z]at h;exact wp_cond_false aj (pZ k hop hl m e hk.2 h b j)
   ·cases h
  |const _=>simp [eB]at h
  |global _=>simp [eB]at h
  |func _=>simp [eB]at h
 |.block id c,R',st,ks,r,θ,w,a,Q,hk,h,b,j=>by
  by_cases ak: ∃body,c=.loop body
  ·obtain⟨body,rfl⟩:=ak
   simp only [eB]at h;split at h
   ·rename_i g hh hc ar
    obtain⟨p,q⟩:=Mt hl ar;have p:=Ms p;have q:=Ms q;obtain⟨ds,h,hR⟩:=Dp b p.1 p.2 h;rw [Option.bind_eq_some_iff]at h;obtain⟨x,hit,z⟩:=h;refine wp_block (XS (Rh:=Rd w0 F R E bl nt g) (fun self ds a w hs hR=> ?_) hit hR)
    obtain⟨st1,θ1,h1,au⟩:=Dn hR p.2 hs;have s: ∀(f:bL E.bG) (a:Act) (w:World),x=.inr f→Fin f a w→Q .ret a w:=fun f a w e hf=>by
     subst e;exact j.fin _ _ _ z hf
    refine pZ k hop hl m body (by simpa only [codeOk]using hk) h1 au ⟨fun st θ w a h b=> ?_,fun i st θ w a h b=> ?_,fun st θ w a h b=> ?_,fun f w a h hf=> ?_⟩
    ·exact Dp b p.1 p.2 h
    ·simp only at h
     cases hb:Nat.beq i id with
     |false=>rw [hb]at h;cases h
     |true=>
      rw [hb]at h;simp only [Y]at h;obtain⟨ds,h,hR⟩:=Dp b q.1 q.2 h;rw [Option.bind_eq_some_iff]at h;obtain⟨y,hy,h⟩:=h;cases h;simp only [ay]at z;rw [Dl hy]at z;obtain⟨st2,az,h2,av⟩:=Dn hR q.2 z;simp only [Exit.then,Exit.inBlock,Nat.eq_of_beq_eq_true hb,if_true]
      exact j.nrm _ _ _ _ h2 av
    ·obtain⟨f,hf,hF⟩:=m _ _ _ _ _ _ h b
     simp only [Option.some.injEq]at hf;exact s f a w hf.symm hF
    ·simp only [Option.some.injEq]at h
     exact s f a w h.symm hf
   ·cases h
  ·have h':eB T call E n c st {ks with exit:=fun i st=>cond (Nat.beq i id) (ks.nrm st) (ks.exit i st)}=some r:=by
    cases c<;>first|(exact absurd ⟨_,rfl⟩ ak)|(simpa only [eB]using h)
   simp only [codeOk]at hk;refine wp_block (pZ k hop hl m c hk h' b ⟨fun st θ w a h b=>j.nrm st θ w a h b,fun i st θ w a h b=> ?_,fun st θ w a h b=>j.ret st θ w a h b,fun x w a h hF=>j.fin x w a h hF⟩)
   simp only [Exit.inBlock];simp only at h;cases hb:Nat.beq i id with
   |true=>
    rw [hb]at h;rw [if_pos (Nat.eq_of_beq_eq_true hb)];exact j.nrm _ _ _ _ h b
   |false=>
    rw [hb]at h;rw [if_neg (Nat.ne_of_beq_eq_false hb)];exact j.exit _ _ _ _ _ h b
 |.exit id,R',st,ks,r,θ,w,a,Q,hk,h,b,j=>by
  simp only [eB]at h;exact wp_exit (j.exit _ _ _ _ _ h b)
 |.ret,R',st,ks,r,θ,w,a,Q,hk,h,b,j=>by
  simp only [eB]at h;exact wp_ret (j.ret _ _ _ _ h b)
 |.loop _,R',st,ks,r,θ,w,a,Q,hk,h,b,j=>by simp [eB]at h
 |.rangeFunc _ _ _ _,R',st,ks,r,θ,w,a,Q,hk,h,b,j=>by simp [eB]at h
 |.scope _,R',st,ks,r,θ,w,a,Q,hk,h,b,j=>by simp [eB]at h
 |.label _,R',st,ks,r,θ,w,a,Q,hk,h,b,j=>by simp [eB]at h
 |.goto _,R',st,ks,r,θ,w,a,Q,hk,h,b,j=>by simp [eB]at h
 |.refuse _,R',st,ks,r,θ,w,a,Q,hk,h,b,j=>by simp [eB]at h
termination_by c=>SizeOf.sizeOf c
end
end Go.Ev
namespace Go.Ev
section
variable {P:Program} {T:TypeId→Option TyI} {w0 w:World} {F R:Nat→Prop} {si st:St} {θ:Asg} {a:Act} {β:Type} {y:β}
def rA (tmps:Array Value):ResultVar→Sem Value
 |.tmp t=>pure (tmps.getD t undef)
 |.cell a t=>do loadVar t (←asAddr (tmps.getD a undef))
theorem Dq (d:Ok P T) (j:Inv w0 F R st θ w) (g:Tm (hp w) R st θ a): ∀(rs:List ResultVar) {k:List TV→M (List DV)} {z:List DV} {st':St} {l:Log},(pK T rs st k).run st=some (z,st',l)→
  ∃vs us f,(k vs).run st=some (z,st',f)∧bS (hp w) R st θ vs us∧(rs.mapM (rA a.tmps)).run P w=.ok us w
 | [],k,z,st',l,h=>by
  simp only [pK]at h;exact⟨[],[],l,h,by simp [bS],by simp⟩
 |.tmp t::rs,k,z,st',l,h=>by
  simp only [pK]at h;obtain⟨vs,us,f,m,p,q⟩:=Dq d j g rs h;exact⟨_,a.tmps.getD t undef::us,f,m,by simp only [bS];exact⟨_,_,rfl,g t,p⟩,by simp [List.mapM_cons,rA,q]⟩
 |.cell c ty::rs,k,z,st',l,h=>by
  simp only [pK]at h;cases hi:T ty with
  |none=>simp [hi,M.run]at h
  |some i=>
   simp only [hi]at h;split at h
   ·rename_i b off hx
    obtain⟨cs,f,hb,h⟩:=M.pP h;obtain⟨s,h⟩:=M.aL h;have s:=Nat.le_of_ble_eq_true s;obtain⟨vs,us,f,m,p,q⟩:=Dq d j g rs h;have r:=g c;rw [hx]at r;simp only [aT,aw]at r;obtain⟨arr,af,frz,k1,k2,k3⟩:=j.boxes b cs hb;have hlen:=k3.length;obtain⟨u,q1,q2⟩:=Lg (P:=P) (d.eM ty i hi) k1 (off:=off) (by simp at hlen;omega)
    refine⟨_,u::us,f,m, ?_, ?_⟩
    ·simp only [bS]
     exact⟨_,_,rfl,CF ((k3.drop off).take i.size) q2,p⟩
    ·simp [List.mapM_cons,rA,r.1.2,asAddr,q1,q]
   ·simp [M.run]at h
def oj:List Value→Value
 | [u]=>u
 |us=>.tuple us.toArray
theorem Mu {fn:Func} {us:List Value} (h:(fn.results.toList.mapM (rA a.tmps)).run P w=.ok us w):(results fn a.tmps).run P w=.ok (oj us) w:=by
 have e:results fn a.tmps=(fn.results.mapM (rA a.tmps) >>=fun vs=>pure (if h:vs.size=1 then vs[0]else .tuple vs)):=by
  unfold results;congr 1
 rw [e];simp only [Array.mapM_eq_mapM_toList,Sem.run_bind,Sem.run_map,h,Result.andThen_ok];match us with
 | []=>simp [oj]
 | [u]=>simp [oj]
 |u::v::us=>simp [oj]
theorem XU {H:Heap}: ∀ {vs:List TV} {us:List Value},bS H R st θ vs us→aT H R st θ (xg vs) (oj us)
 | [],us,h=>by
  simp only [bS]at h;subst h;simp only [xg,aT,bS,oj];exact⟨#[],rfl,rfl⟩
 | [v],us,h=>by
  simp only [bS]at h;obtain⟨u,g,rfl,d,rfl⟩:=h;exact d
 |v::k::vs,us,h=>by
  have f:=h;simp only [bS]at f;obtain⟨u,i,rfl,d,j,b,rfl,m,p⟩:=f;simp only [xg,aT,oj];exact⟨(u::j::b).toArray,rfl,h⟩
theorem Mv: ∀ {bx:List (Nat×List CK)} {bM:List (List CK)} {p:Nat×List CK},p∈dK bx bM→ ∃q∈bx,q.1=p.1
 | [],_,p,h=>by simp [dK]at h
 |_::_,[],p,h=>by simp [dK]at h
 |(m,ks)::bx,f::bM,p,h=>by
  simp only [dK,List.mem_cons]at h;rcases h with rfl|h
  ·exact⟨(m,ks),by simp,rfl⟩
  ·obtain⟨q,b,d⟩:=Mv h
   exact⟨q,by simp [b],d⟩
theorem Mw {z:List DV} (g:Inv w0 F R si θ w): ∀(bx:List (Nat×List CK)) (bM:List (List CK)) {sc st':St} {l:Log} {fps:List Nat} {s:CS} {L:Env} {K:CS→M (List DV)},bI w0 F R θ w si sc fps→eV si θ s L→
  (pL bx bM s K).run sc=some (z,st',l)→gn w0 F R θ w si fps s L K z st' (fun s' ds A=>bQ (hp w) (Rl R θ s'.cr) (Bl θ s'.bm) false θ.bx L (dK bx bM) ds A)
 | [],[],sc,st',l,fps,s,L,K,b,d,h=>by
  simp only [pL]at h;exact jy b d h (by simp only [dK,bQ];exact⟨trivial,trivial⟩)
 | [],_::_,sc,st',l,fps,s,L,K,b,d,h=>by simp [pL,M.run]at h
 |_::_,[],sc,st',l,fps,s,L,K,b,d,h=>by simp [pL,M.run]at h
 |(m,k0)::rest,ks::bM,sc,st',l,fps,s,L,K,b,d,h=>by
  simp only [pL]at h;obtain⟨cs,q,f,h⟩:=M.pP h;rw [b.boxes]at f;obtain⟨arr,ty,frz,k1,k2,k3⟩:=g.boxes m cs f;obtain⟨s1,r,A1,d1,q,h,i,t,u,c1,r1⟩:=pU g ks b d k3 h;obtain⟨s2,j,A2,d2,l2,h,k,e2,p,c2,r2⟩:=Mw g rest bM i c1 h;refine⟨s2,j,A1++A2,d1++d2,l2,h,by rw [Env.di,←List.append_assoc];exact k,by rw [e2,t];simp,u.trans p,by rw [←List.append_assoc];exact c2, ?_⟩
  simp only [dK,bQ];exact⟨arr,ty,frz,d1,d2,A1,A2,rfl,rfl,k1,k2,r1.mono p.rl p.bl,r2⟩
theorem Dr {m b:Nat}: ∀ {bx:List (Nat×List CK)},look m (pM bx)=some b→b=m
 | [],h=>by simp [pM,look]at h
 |(a,_)::bx,h=>by
  simp only [pM,List.map_cons,look]at h;cases e:Nat.beq a m with
  |true=>
   rw [e]at h;simp only [Y,Option.some.injEq]at h;rw [←h,Nat.eq_of_beq_eq_true e]
  |false=>rw [e]at h;exact Dr h
theorem Mx {m:Nat}: ∀ {bx:List (Nat×List CK)},m∈bx.map (·.1)→look m (pM bx)=some m
 | [],h=>by cases h
 |(a,_)::bx,h=>by
  simp only [pM,List.map_cons,look];cases e:Nat.beq a m with
  |true=>rw [Nat.eq_of_beq_eq_true e];rfl
  |false=>
   simp only [List.map_cons,List.mem_cons]at h;rcases h with rfl|h
   ·simp at e
   ·exact Mx h
def Ds (P:Program) (E:Entry) (w0:World) (F R:Nat→Prop) (bl:Nat→Nat) (nt:Nt) (x:bL E.bG) (a:Act) (w:World):Prop:=
 a.defers=[]∧Sz nt a∧match E.back with
  |none=> ∃u,(results E.fn a.tmps).run P w=.ok u w∧iw E w0 w F R bl x u
  |some t=>(results E.fn a.tmps).run P w=.ok (.tuple #[]) w∧iw E w0 w F R bl x (a.tmps.getD t undef)
theorem Dt {E:Entry} {bl:Nat→Nat} {nt:Nt} (ak:Ok P T) (hE:jW E=true) {R':Type} (ks:Ks (bL E.bG) R') (st:St) (θ:Asg) (w:World) (a:Act) (r:R') (h:pN T E ks st=some r) (d:Good w0 F R E bl nt st θ w a):
  ∃x,ks.fin x=some r∧Ds P E w0 F R bl nt x a w:=by
 unfold pN at h;obtain⟨ds,st1,l0,l',s,hK, -, -⟩:=M.jO _ _ _ _ _ h;rw [Option.bind_eq_some_iff]at hK;obtain⟨x,hx,hK⟩:=hK;unfold KR at s;obtain⟨vs,us,l1,h1,ae,f⟩:=Dq (P:=P) ak d.inv d.tm _ s;have c0:eV st θ ⟨[],[],pM E.bx,false,[]⟩ []:=⟨fun m n v wv h=>by simp [lB]at h,fun m b h=>.inr rfl,fun m m' b h h'=>(Dr h).symm.trans (Dr h')⟩
 obtain⟨s1,a6,A1,d1,l2,h2,ao,e1,x1,c1,r1⟩:=CX d.inv E.outs (bI.refl d.inv) c0 (XU ae) h1;obtain⟨s2,bd,A2,d2,l3,h3,i,e2,x2,c2,r2⟩:=Mw d.inv E.bx E.bM ao c1 h2;obtain⟨rfl,rfl⟩:=M.gE h3;have ar:s2.cr=[]:=by rw [x2.pS x1.iV,x1.pS rfl]
 have af: ∀b,Rl R θ s2.cr b→R b:=fun b j=>by
  rw [ar]at j;exact j.resolve_right (by rintro⟨n,hn, -⟩;cases hn)
 simp only [jW,Bool.and_eq_true]at hE;obtain⟨bk,bn,au,av,k,bo,z⟩:=hE;have k:=of_decide_eq_true k;have aw:([]++Env.fps A1)++Env.fps A2=Env.fps (A1++A2):=by rw [Env.di];rfl
 rw [aw]at i;have k1:=(r1.mono x2.rl x2.bl).mono af (fun _ _ h=>h)
 have k2:=r2.mono af (fun _ _ h=>h)
 have u:iw E w0 w F R bl x (oj us):=by
  refine⟨d.inv.size,d.inv.same,d.inv.os,d.inv.tape,d.inv.out,d1,A1,d2,A2, ?_,bT.up (pb:=false) (fun e=>by cases e) au k1, ?_, ?_, ?_⟩
  ·rw [Dl hx,tT,e2,e1];simp
  ·refine bQ.ext (bl:=θ.bx) (fun p hp=> ?_) (bQ.mI (N:=E.bx.map (·.1)) (B':=eO bl) (fun m hm g hg=> ?_) av k2)
   ·obtain⟨q,hq,e⟩:=Mv hp
    rw [←e];exact((d.pins q hq).2).symm
   ·obtain⟨b,h1,h2⟩:=hg
    rw [x2.bm _ _ (x1.bm _ _ (Mx hm))]at h1;obtain⟨q,hq,rfl⟩:=List.mem_map.1 hm;cases h1;exact(d.pins q hq).2.symm.trans h2
  ·refine List.nodup_append.2 ⟨i.nodup, ?_,fun b j c hc e=> ?_⟩
   ·rw [List.nodup_iff_pairwise_ne,List.pairwise_map]at k ⊢
    refine List.Pairwise.imp_of_mem ?_ k
    intro p q hp hq ax heq;rw [←(d.pins p hp).2,←(d.pins q hq).2]at heq;exact ax (d.inv.bb _ _ (d.pins p hp).1 (d.pins q hq).1 heq)
   ·subst e
    obtain⟨p,hp,rfl⟩:=List.mem_map.1 hc;exact i.free _ j (.inl ⟨p.1,by rw [i.boxes];exact(d.pins p hp).1,(d.pins p hp).2⟩)
  ·intro b j
   exact d.inv.own b (i.was b j)
 refine⟨x,hK,d.defers,d.size, ?_⟩
 cases j:E.back with
 |none=>
  have e:tM E=[]:=by unfold tM;rw [j]
  rw [e,List.append_nil]at f;exact⟨_,Mu f,u⟩
 |some t=>
  have e:tM E=[.tmp t]:=by unfold tM;rw [j]
  rw [j]at z;simp only [Option.isNone_some,Bool.false_or,Bool.and_eq_true,Array.isEmpty_iff]at z;have ag:E.fn.results.toList=[]:=by rw [z.2]
  rw [e,ag,List.nil_append]at f;simp only [List.mapM_cons,List.mapM_nil,rA,Sem.run_bind,Sem.run_pure,Result.andThen_ok,Result.ok.injEq,and_true]at f;subst f;exact⟨Mu (us:=[]) (by rw [ag];simp),u⟩
theorem Inv.init (f: ∀b,R b→b<w.heap.size∧ ¬F b) (θ:Asg):Inv w F R eA θ w:=
 ⟨Nat.le_refl _,fun _ _ _=>rfl,rfl,rfl,rfl,f,fun b cs h=>by simp [eA]at h,fun k d h=>by simp [eA]at h,fun b b' h=>by simp [eA]at h,fun b k h=>by simp [eA]at h,fun k k' g h=>by simp [eA]at h,fun g h=>by
  rcases h with⟨b,h, -⟩|⟨k,h, -⟩<;>simp [eA]at h⟩
def rB (E:Entry):List Nat:=match E.back with|some t=>[t]|none=>[]
def tZ (E:Entry):Bool:=(match E.fn.body with|some c=>codeOk E.fn.ntmps (rB E) c|none=>true)&&(tY E.bx E.loops&&Nat.ble E.ins.length E.fn.ntmps)
theorem XV {E:Entry} {call:FuncId→List TV→Nat→M TV} {n:Nat} (q:Ok P T) (s:P.follows .mixedOrders=true) {gl:bD} (hop: ∀w0 F R,oi gl w0 F→tX P (dm T call) w0 F R) (hE:jW E=true) (u:tZ E=true) (hP:P.funcs[E.f]? =some E.fn)
  {ds:List DV} {r:bL E.bG} (h:CC T call E n ds=some r):cV P gl E ds r:=by
 intro w F R bl args dB dA AB AA af ao g;unfold CC at h;split at h
 ·rename_i c j
  simp only [tZ,j,Bool.and_eq_true]at u;obtain⟨f1,f2,f3⟩:=u;have f3:=Nat.le_of_ble_eq_true f3;have z:=hE;simp only [jW,Bool.and_eq_true]at z;have aq:=of_decide_eq_true z.2.2.2.2.1;refine calls_of_wp hP j ?_
  have k: ∀t,(args++Array.replicate (E.fn.ntmps-args.size) undef).getD t undef=args.getD t undef:=fun t=>by
   simp only [Array.getD_eq_getD_getElem?,Array.getElem?_append]
   split
   ·rfl
   ·rename_i ar
    rw [Array.getElem?_eq_none (xs:=args) (by omega)]
    simp only [Array.getElem?_replicate]
    split<;>rfl
  let nt:Nt:=⟨E.fn.ntmps,(rB E).map fun t=>(t,args.getD t undef)⟩
  have ag:nt.keep.map (·.1)=rB E:=by
   show((rB E).map fun t=>(t,args.getD t undef)).map (·.1)=rB E
   rw [List.map_map];exact List.map_id _
  have ah:Rd w F R E bl nt ⟨gm 0 E.ins,E.bx⟩ ds {tmps:=args++Array.replicate (E.fn.ntmps-args.size) undef,defers:=[]} w:=by
   refine⟨⟨by simp [nt];omega,fun p hp=> ?_⟩,rfl,true,bl,dB,dA,AB,AA,⟨bl,fun _=>undef,fun _=>[]⟩,af,Inv.init g.rd _,g.kb, ?_,g.nd,fun b hb=>.inl (g.own b hb),fun _ _=>rfl⟩
   ·obtain⟨t, -,rfl⟩:=List.mem_map.1 hp
    exact k t
   ·simp only [k]
    exact g.kt
  obtain⟨st,θ,h1,m⟩:=Dn ah (fun p hp=>List.mem_map.2 ⟨p,hp,rfl⟩) h
  have d: ∀(x:bL E.bG) (a:Act) (w':World),x=r→Ds P E w F R bl nt x a w'→a.defers=[]∧ ∃v,(results E.fn a.tmps).run P w'=.ok v w'∧(match E.back with
    |none=>iw E w w' F R bl r v
    |some t=>v=.tuple #[]∧iw E w w' F R bl r (args.getD t undef)):=fun x a w' e hf=>by
   subst e;obtain⟨f1,f2,f3⟩:=hf;refine⟨f1, ?_⟩
   cases hb:E.back with
   |none=>rw [hb]at f3;exact f3
   |some t=>
    rw [hb]at f3;have hk:a.tmps.getD t undef=args.getD t undef:=f2.2 (t,args.getD t undef) (by simp [nt,rB,hb])
    simp only [hk]at f3;exact⟨_,f3.1,rfl,f3.2⟩
  refine pZ (E:=E) (Fin:=Ds P E w F R bl nt) s (hop w F R g.gl) f2 (fun ks st θ w a r h m=>Dt q hE ks st θ w a r h m) c (by rw [ag];exact f1) h1 m ⟨fun st θ w a h m=> ?_,fun i st θ w a h m=> ?_,fun st θ w a h m=> ?_,fun x w a h hf=> ?_⟩
  ·obtain⟨x,hx,hF⟩:=Dt q hE _ _ _ _ _ _ h m
   exact d x a w (Option.some.inj hx) hF
  ·simp [KS]at h
  ·obtain⟨x,hx,hF⟩:=Dt q hE _ _ _ _ _ _ h m
   exact d x a w (Option.some.inj hx) hF
  ·exact d x a w (Option.some.inj h) hf
 ·cases h
structure Du (P:Program) (gl:bD) (T:TypeId→Option TyI) (tab:Nat→Entry):Prop where
 ok:Ok P T
 mix:P.follows .mixedOrders=true
 entry: ∀e,jW (tab e)=true
 fn: ∀e,tZ (tab e)=true
 f: ∀e,P.funcs[(tab e).f]? =some (tab e).fn
 name: ∀e,((tab e).fn.name== "runtime.NumGoroutine")=false
 body: ∀e,(tab e).fn.body.isNone=false
 bW: ∀e p,(tab e).bW=some p→ ∀ds r,p ds=some r→cV P gl (tab e) ds r
theorem My {tab:Nat→Entry} {gV:FuncId→List Nat} {gl:bD} (h:Du P gl T tab): ∀(n e:Nat) (ds:List DV) (r:bL (tab e).bG),D T tab gV n e ds=some r→cV P gl (tab e) ds r
 |0,e,ds,r,b=>by simp [D]at b
 |n+1,e,ds,r,b=>by
  simp only [D]at b;split at b
  ·rename_i p hp
   exact h.bW e p hp ds r b
  ·refine XV h.ok h.mix (fun w0 F R g=> ?_) (h.entry e) (h.fn e) (h.f e) b
   intro st st' θ w a o v l i j d;exact XF h.ok g (My h n) h.entry (fun e=>⟨(tab e).fn,h.f e,h.name e,h.body e⟩) i j d
end
end Go.Ev
