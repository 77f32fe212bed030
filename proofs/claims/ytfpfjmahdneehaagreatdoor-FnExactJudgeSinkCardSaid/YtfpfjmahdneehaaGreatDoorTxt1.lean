/- Texts of the law, part 1. -/
import Derived.Test.YtfpfjmahdneehaaGreatDoorLaw
import Derived.Test.YtfpfjmahdneehaaGreatDoorEv4
open Go.IntKind
namespace Go.Proofs.YtfpfjmahdneehaaGreatDoor
open Go Go.Ev
theorem kY (x:Nd):kM x=cP x:=rfl
theorem wA (ks:List Tr) (i:Nat):lQ ks i=(ks[i]?).map aE:=by
 show(nth ks i).map _=_;unfold nth;congr 1
 funext t
 cases t;rfl
theorem lY {ks:List Tr} {i:Nat} (h:i<ks.length):fN ks (i:Int)=some (aE ks[i]):=by
 have:fN ks (i:Int)=lQ ks i:=rfl;rw [this,wA,List.getElem?_eq_getElem h]
 rfl
def flat (r:Nd×O×Bool):Int×(Int×O×Bool×List Tr×O×Bool):=(r.1.1,r.1.2.1,r.1.2.2.1,r.1.2.2.2.1,r.1.2.2.2.2,r.2)
theorem kZ (s:O) (b:Bool):W fun n=>qz n s b=some (match eP s b with|some c=>(c,true,s,b)|none=>(0,false,s,b)):=by
 refine W.succ (W.of fun n=> ?_)
 rw [asW];cases b
 ·cases s with
  |nil=>rfl
  |cons c r=>
   have e:bE (c::r) (0:Int)=some c:=rfl;have d:((c::r:O)==[])=false:=rfl;rw [e,d];simp only [da,Z,dQ];rfl
 ·cases h:(s==([]:O))
  ·rfl
  ·rfl
theorem lZ (s:O):(s.drop 1).take (s.length-1)=s.tail:=by
 cases s with
 |nil=>rfl
 |cons c r=>simp
theorem aAj (c d:UInt8):(((c.toNat:Int) !=(d.toNat:Int))=true)↔c≠d:=by
 rw [bne_iff_ne,ne_eq,Int.ofNat_inj,UInt8.toNat_inj]
theorem wB (s:O) (b:Bool) (d:UInt8):W fun n=>mZ n s b d=some (if eP s b=some d then(true,s.tail,b)else(false,s,b)):=by
 refine(kZ s b).nm fun n e=> ?_
 rw [asY,e];cases h:eP s b with
 |none=>simp
 |some c=>
  obtain⟨rfl,f⟩:=fJ h;have g:1≤s.length:=by rw [f];simp
  simp only [Z,Bool.not_true,da,lZ];by_cases e:c=d
  ·subst e
   rw [if_pos rfl,show(((c.toNat:Int) !=(c.toNat:Int))=false) by simp]
   simp only [da];rw [ez (by omega)]
   rfl
  ·rw [if_neg (by simpa using e),(aAj c d).2 e]
   rfl
theorem SF (c:UInt8):W fun n=>zU n c=some (gI c):=by
 refine W.succ (W.of fun n=> ?_)
 rw [asZ];unfold gI;simp only [bk];by_cases b:c.toNat=42
 ·rw [if_pos b,aB (by omega)];rfl
 rw [if_neg b,az (P:=(c.toNat:Int)=42) (by omega)]
 by_cases d:c.toNat=43
 ·rw [if_pos d,aB (by omega)];rfl
 rw [if_neg d,az (P:=(c.toNat:Int)=43) (by omega)]
 by_cases f:c.toNat=63
 ·rw [if_pos f,aB (by omega)];rfl
 rw [if_neg f,az (P:=(c.toNat:Int)=63) (by omega)]
 rfl
def cI (p:Nat→Nat→Prop):Prop:= ∃N,∀n m,N≤n→N≤m→p n m
theorem cI.diag {p:Nat→Nat→Prop} (h:cI p):W fun n=>p n n:=by
 obtain⟨N,h⟩:=h;exact⟨N,fun n b=>h n n b b⟩
theorem cI.step {p:Nat→Prop} {q r:Nat→Nat→Prop} (h:W p) (k:cI q) (f: ∀n m,p n→q n m→r n (m+1)):cI r:=by
 obtain⟨N,h⟩:=h;obtain⟨M,k⟩:=k;refine⟨max N M+1,fun n m b hm=> ?_⟩
 obtain⟨m,rfl⟩: ∃m',m=m'+1:=⟨m-1,by omega⟩
 exact f n m (h n (by omega)) (k n m (by omega) (by omega))
theorem cI.stop {p:Nat→Prop} {r:Nat→Nat→Prop} (h:W p) (f: ∀n m,p n→r n (m+1)):cI r:=by
 obtain⟨N,h⟩:=h;refine⟨N+1,fun n m b hm=> ?_⟩
 obtain⟨m,rfl⟩: ∃m',m=m'+1:=⟨m-1,by omega⟩
 exact f n m (h n (by omega))
theorem oS {n:Nat} (h:n≤1000):Nat.ble n big=true:=Nat.ble_eq_true_of_le (by unfold big;omega)
theorem SG (n:Nat) (s:O) (c:UInt8):sr (n+1) s c=some (Lib.indexByte s c):=by kernel_rfl
theorem qI (c:UInt8):wrap .i64 (c.toNat:Int)=(c.toNat:Int):=by have:=c.toNat_lt;rw [IntKind.wrap_i64];omega
theorem Jb (n:Nat) (f:O) (g:Bool) (i k:Int) (p:O) (q:Bool) (r s:Int) (t:O) (u:Bool) (lo hi:UInt8) (has:List Bool) (b:O) (d:Int) (hn:300≤n) (z:has.length=256):
  na n n f g i k p q r s t u (lo.toNat:Int) has b d (hi.toNat:Int)=some (.inl (f,g,i,k,p,q,r,s,t,u,dH has lo.toNat (hi.toNat+1-lo.toNat),b,d)):=by
 have h1:=lo.toNat_lt;have h2:=hi.toNat_lt;refine DQ (hi:=hi.toNat) (L:=fun m j h=>na n m f g i k p q r s t u j h b d (hi.toNat:Int)) (out:=fun h=>(f,g,i,k,p,q,r,s,t,u,h,b,d)) (by omega) (fun m j h hj hh=> ?_) (fun m j h hj=> ?_) _ n lo.toNat has rfl (by omega) z
 ·rw [Rb,ez (by omega),ez (by omega),fe (by omega)]
  rfl
 ·rw [Rb,hJ (by omega)]
  rfl
theorem aAk (n:Nat) (j:300≤n) (rest body:O) (nt:Bool) (z: ∀c∈body,c.toNat≠93) (ad:body.length≤100): ∀k m (i:Nat) has bad,body.length-i≤k→k<m→has.length=256→i≤body.length→
  oL n m rest bad 0 0 [] false 3 0 [] nt has (i:Int) body=some (.inl (rest,(setB (body.drop i) has bad).2,0,0,[],false,3,0,[],nt,(setB (body.drop i) has bad).1)):=by
 intro k;induction k with
 |zero=>
  intro m i has bad hk hm b hi;obtain⟨m,rfl⟩: ∃m',m=m'+1:=⟨m-1,by omega⟩
  obtain rfl:i=body.length:=by omega
  rw [IW,cp,List.drop_eq_nil_of_le (Nat.le_refl _)];rfl
 |succ k ih=>
  intro m i has bad hk hm b hi;obtain⟨m,rfl⟩: ∃m',m=m'+1:=⟨m-1,by omega⟩
  by_cases d:i<body.length
  ·have p:wrap .i64 ((i:Int)+1)=((i+1:Nat):Int):=by rw [IntKind.wrap_i64];omega
   have w2:wrap .i64 ((i:Int)+2)=((i+2:Nat):Int):=by rw [IntKind.wrap_i64];omega
   have w3:wrap .i64 (((i+2:Nat):Int)+1)=((i+3:Nat):Int):=by rw [IntKind.wrap_i64];omega
   have q:body.drop i=body[i]::body.drop (i+1):=List.drop_eq_getElem_cons d;have s:(has.set body[i].toNat true)=dH has body[i].toNat 1:=rfl;have one: ∀f,na n n rest f 0 0 [] false 3 0 [] nt (body[i].toNat:Int) has body (i:Int) (body[i].toNat:Int)=some (.inl (rest,f,0,0,[],false,3,0,[],nt,dH has body[i].toNat 1,body,(i:Int))):=fun f=>by
    have:=Jb n rest f 0 0 [] false 3 0 [] nt body[i] body[i] has body (i:Int) j b;rwa [show body[i].toNat+1-body[i].toNat=1 by omega]at this
   rw [IW,bu d,de d];simp only [Y,Z,p,w2,qI];by_cases g:i+2<body.length
   ·have t:body.drop (i+1)=body[i+1]::body.drop (i+2):=List.drop_eq_getElem_cons (by omega)
    have u:body.drop (i+2)=body[i+2]::body.drop (i+3):=List.drop_eq_getElem_cons g;rw [bu g,de (show i+1<body.length by omega),de g]
    simp only [Y,Z,bk];by_cases hd:body[i+1].toNat=45
    ·have hh:=z _ (List.getElem_mem g)
     rw [aB (by omega),q,t,u,DP _ _ _ _ _ _ ⟨hd,hh⟩]
     simp only [Y];have r:decide ((body[i+2].toNat:Int)<(body[i].toNat:Int))=decide (body[i+2].toNat<body[i].toNat):=by
      rw [bR,bR];exact mO (by omega)
     rw [Jb n rest true 0 0 [] false 3 0 [] nt body[i] body[i+2] has body _ j b,Jb n rest _ 0 0 [] false 3 0 [] nt body[i] body[i+2] has body _ j b];simp only [Z,cO,w3];rw [ih m (i+3) _ true (by omega) (by omega) (by rw [kc];exact b) (by omega),ih m (i+3) _ (decide _) (by omega) (by omega) (by rw [kc];exact b) (by omega),r]
     cases bad<;>rfl
    ·rw [az (by omega),one]
     simp only [da,Z,cO,p];rw [ih m (i+1) _ bad (by omega) (by omega) (by rw [kc];exact b) (by omega),q,t,u,DO _ _ _ _ _ _ (fun h=>hd h.1)]
   ·rw [hJ (by omega),one]
    simp only [da,Z,cO,p];rw [ih m (i+1) _ bad (by omega) (by omega) (by rw [kc];exact b) (by omega),q,uo _ _ _ _ (by simp;omega)]
  ·obtain rfl:i=body.length:=by omega
   rw [IW,cp,List.drop_eq_nil_of_le (Nat.le_refl _)];rfl
theorem wC: ∀(l:O) (has:List Bool) (b:Bool),(setB l has b).1.length=has.length
 | [],_,_=>rfl
 | [lo],has,b=>by simp only [setB,kc]
 | [lo,d],has,b=>by rw [setB,wC [d],kc]
 |lo::d::hi::r,has,b=>by
  rw [setB];split
  ·rw [wC r,kc]
  ·rw [wC (d::hi::r),kc]
theorem SH (s:O):W fun n=>mZ n s false 94=some ((bH s).2,(bH s).1,false):=by
 refine(wB s false 94).mono fun n e=> ?_
 rw [e];cases s with
 |nil=>rfl
 |cons c r=>
  show some (if some c=some (94:UInt8)then(true,r,false)else(false,c::r,false))=some ((if c.toNat=94 then(r,true)else(c::r,false)).2,((if c.toNat=94 then(r,true)else(c::r,false)).1,false))
  by_cases h:c.toNat=94
  ·have:c=94:=UInt8.toNat_inj.1 h
   subst this;rfl
  ·rw [if_neg (fun k=>h (by cases k;rfl)),if_neg h]
theorem aAl (s:O) (hs:s.length≤60):W fun n=>Hd n s false=some ((fH s).1.1,(fH s).1.2.1,(fH s).1.2.2.1,(fH s).1.2.2.2.1,(fH s).2):=by
 have r:=Nr s;have d:=Nl (bH s).1;have t:=mP aJ (bH s).1;by_cases h:((bH s).1.takeWhile aJ).length=(bH s).1.length∨(bH s).1.takeWhile aJ=[]
 ·refine((SH s).and (W.ge 1)).nm fun n ⟨e,u⟩=> ?_
  obtain⟨n,rfl⟩: ∃m,n=m+1:=⟨n-1,by omega⟩
  rw [Ra,show mZ (n+1) s false (UInt8.ofNat (Int.toNat 94))=_ from e];simp only [Z];rw [show sr (n+1) (bH s).1 (UInt8.ofNat (Int.toNat 93))=_ from SG n (bH s).1 93,d];simp only [Z];have f:(if ((bH s).1.takeWhile aJ).length=(bH s).1.length then(-1:Int)else(((bH s).1.takeWhile aJ).length:Int))<1:=by
   rcases h with h|h
   ·rw [if_pos h];omega
   ·rw [h];split<;>simp
  rw [ez f];unfold fH;simp only;rw [if_pos h];rfl
 ·have g: ¬((bH s).1.takeWhile aJ).length=(bH s).1.length:=fun k=>h (.inl k)
  have p:0<((bH s).1.takeWhile aJ).length:=List.length_pos_iff.2 fun k=>h (.inr k)
  have b:=wC ((bH s).1.takeWhile aJ) dE false;have b:(setB ((bH s).1.takeWhile aJ) dE false).1.length=256:=by rw [b,rL]
  have kb:=Nj b (L:=fun n m i o=>so n m ((bH s).1.drop (((bH s).1.takeWhile aJ).length+1)) (setB ((bH s).1.takeWhile aJ) dE false).2 0 0 [] false 3 0 [] (bH s).2 i o (setB ((bH s).1.takeWhile aJ) dE false).1 256) (out:=fun o=>((bH s).1.drop (((bH s).1.takeWhile aJ).length+1),(setB ((bH s).1.takeWhile aJ) dE false).2,0,0,[],false,3,0,[],(bH s).2,o))
   (fun n m i o hi ho=>by
    rw [Rc,ez (by omega),ez (by omega),fe (by omega),Nk i hi]
    simp only [Y,Z];rw [oS (by omega),getD_at (show i<(setB ((bH s).1.takeWhile aJ) dE false).1.length by omega)]
    cases (setB ((bH s).1.takeWhile aJ) dE false).1[i]<;>simp) (fun n m o=>by rw [Rc];rfl)
  refine((SH s).and (kb.and (W.ge 400))).nm fun n ⟨e,z,u⟩=> ?_
  obtain⟨n,rfl⟩: ∃m,n=m+1:=⟨n-1,by omega⟩
  rw [Ra,show mZ (n+1) s false (UInt8.ofNat (Int.toNat 94))=_ from e];simp only [Z];rw [show sr (n+1) (bH s).1 (UInt8.ofNat (Int.toNat 93))=_ from SG n (bH s).1 93,d,if_neg g];simp only [Z];have w1:wrap .i64 ((((bH s).1.takeWhile aJ).length:Int)+1)=((((bH s).1.takeWhile aJ).length+1:Nat):Int):=by rw [IntKind.wrap_i64];omega
  rw [w1,hJ (by omega),ez (by omega),ez (by omega),ez (by unfold big;omega)]
  simp only [Y,da,Int.toNat_natCast,Nat.sub_zero,Nn];have j:(((bH s).1.drop (((bH s).1.takeWhile aJ).length+1)).take ((bH s).1.length-(((bH s).1.takeWhile aJ).length+1)))=(bH s).1.drop (((bH s).1.takeWhile aJ).length+1):=List.take_of_length_le (by simp)
  rw [j];have q:=aAk (n+1) (by omega) ((bH s).1.drop (((bH s).1.takeWhile aJ).length+1)) ((bH s).1.takeWhile aJ) (bH s).2 (DR _) (by omega) ((bH s).1.takeWhile aJ).length (n+1) 0 dE false (by omega) (by omega) rL (by omega)
  rw [List.drop_zero]at q;rw [show oL (n+1) (n+1) ((bH s).1.drop (((bH s).1.takeWhile aJ).length+1)) false 0 0 [] false 3 0 [] (bH s).2 (List.replicate (Int.toNat 256) false) 0 ((bH s).1.takeWhile aJ)=_ from q];simp only [Z,cO,b];rw [show so (n+1) (n+1) _ _ 0 0 [] false 3 0 [] _ 0 [] _ ((256:Nat):Int)=_ from z];unfold fH;simp only;rw [if_neg h];rfl
def aAm (md:Md) (s:O) (b:Bool) (r:Nd×O×Bool):Prop:=
 match md with
 |.pat=>W fun n=>vJ n s b=some (flat r)
 |.part=>W fun n=>zQ n s b=some (flat r)
 |.piece=>W fun n=>Hc n s b=some (flat r)
 |.atom=>W fun n=>zT n s b=some (flat r)
 |.fI ks=>cI fun n m=> ∃d s' b',vK n m s b 0 0 [] false ks=some (.inl (s',b',0,0,[],false,d))∧(gX d,s',b')=r
 |.ff ks=>cI fun n m=> ∃d s' b',zR n m s b 0 0 [] false ks=some (.inl (s',b',0,0,[],false,d))∧(gq d,s',b')=r
 |.iA t=>cI fun n m=>zS n m s b 0 0 [] false t.1 t.2.1 t.2.2.1 t.2.2.2.1 t.2.2.2.2=some (.inr (flat r))
theorem aAn (ks:List Tr) (st:O×Bool):(cond ((ks.length:Int)==(1:Int)) (cond (decide ((0:Int)≤(0:Int)∧(0:Int)<(ks.length:Int))) ((lQ ks 0).bind fun d=>some (d.1,d.2.1,d.2.2.1,d.2.2.2.1,d.2.2.2.2,st.1,st.2)) none) (some ((7:Int),(0:Int),([]:O),false,ks,st.1,st.2)))=some (flat (gX ks,st)):=by
 match ks with
 | []=>rfl
 | [k]=>rw [wA];rfl
 |a::b::r=>
  rw [bk,az (by simp only [List.length_cons];omega)]
  rfl
theorem aAo (ks:List Tr) (st:O×Bool):(cond ((ks.length:Int)==(0:Int)) (some ((11:Int),(0:Int),([]:O),false,([]:List Tr),st.1,st.2)) (cond ((ks.length:Int)==(1:Int)) (cond (decide ((0:Int)≤(0:Int)∧(0:Int)<(ks.length:Int))) ((lQ ks 0).bind fun d=>some (d.1,d.2.1,d.2.2.1,d.2.2.2.1,d.2.2.2.2,st.1,st.2)) none) (some ((6:Int),(0:Int),([]:O),false,ks,st.1,st.2))))=some (flat (gq ks,st)):=by
 match ks with
 | []=>rfl
 | [k]=>rw [wA];rfl
 |a::b::r=>
  rw [bk,bk,az (P:=_=(0:Int)) (by simp only [List.length_cons];omega),az (P:=_=(1:Int)) (by simp only [List.length_cons];omega)]
  rfl
theorem oT:(UInt8.ofNat (Int.toNat 124):UInt8)=124:=rfl
theorem aAp {s:O} {b:Bool} {c:UInt8} (h:eP s b=some c) (k:c.toNat=124):eP s b=some 124:=by
 rw [h];exact congrArg some (UInt8.toNat_inj.1 k)
theorem aAq: ∀f md s b r,iP f md s b=some r→s.length≤60→lL md s b→ke md s→aAm md s b r:=by
 intro f;induction f with
 |zero=>intro md s b r h;simp [iP]at h
 |succ f ih=>
  intro md s b r h hs ae af;cases md with
  |pat=>
   simp only [iP,Option.bind_eq_some_iff]at h;obtain⟨x,z,h2⟩:=h;obtain⟨a1,a2,a3⟩:=eJ _ _ _ _ _ z hs trivial trivial;simp only [dR]at a2;have k1:=ih _ _ _ _ z hs trivial trivial;have k2:=ih _ _ _ _ h2 (by omega) trivial ⟨by simp;omega,by simpa using eW a1⟩
   refine((show W _ from k1).and (cI.diag k2)).nm fun n ⟨e1,p,s',b',g,j⟩=> ?_
   subst j;rw [asU,e1];simp only [Z,flat,kY];rw [show vK n n x.2.1 x.2.2 0 0 [] false [cP (x.1.1,x.1.2.1,x.1.2.2.1,x.1.2.2.2.1,x.1.2.2.2.2)]=_ from g];simp only [Z,cO];exact aAn p (s',b')
  |fI ks=>
   simp only [iP]at h;split at h
   ·rename_i i
    cases h;refine cI.stop (wB s b 124) fun n m e=>⟨ks,s,b, ?_,rfl⟩
    rw [IQ,oT,e,i];rfl
   ·rename_i c i
    obtain⟨rfl,e⟩:=fJ i;have hl:s.length=s.tail.length+1:=by rw [e];simp
    split at h
    ·rename_i u
     simp only [Option.bind_eq_some_iff]at h;obtain⟨x,z,h2⟩:=h;obtain⟨a1,a2,a3⟩:=eJ _ _ _ _ _ z (by omega) trivial trivial
     simp only [dR]at a2;have au:=af.1;have k1:=ih _ _ _ _ z (by omega) trivial trivial
     have k2:=ih _ _ _ _ h2 (by omega) trivial ⟨by simp;omega,by
      intro k hk;rcases List.mem_append.1 hk with hk|hk
      ·exact af.2 k hk
      ·simp at hk;subst hk;exact eW a1⟩
     refine cI.step ((show W _ from k1).and (wB s false 124)) k2 fun n m ⟨e1,g⟩ ⟨p,s',b',j,e4⟩=>⟨p,s',b', ?_,e4⟩
     rw [IQ,oT,g,if_pos (aAp i u)];simp only [Z,Y,e1,flat,kY];rw [oS (by omega)]
     exact j
    ·rename_i u
     cases h;refine cI.stop (wB s false 124) fun n m e=>⟨ks,s,false, ?_,rfl⟩
     rw [IQ,oT,e,if_neg (by rw [i];intro k;cases k;exact u rfl)]
     rfl
  |part=>
   simp only [iP]at h;have k:=ih (.ff []) _ _ _ h hs trivial ⟨by simp;omega,by simp⟩
   refine(cI.diag k).nm fun n ⟨p,s',b',g,j⟩=> ?_
   subst j;rw [asV,g];simp only [Z,cO];exact aAo p (s',b')
  |ff ks=>
   simp only [iP]at h;split at h
   ·rename_i i
    cases h;refine cI.stop (kZ s b) fun n m e=>⟨ks,s,b, ?_,rfl⟩
    rw [IT,e,i];rfl
   ·rename_i c i
    obtain⟨rfl,e⟩:=fJ i;split at h
    ·rename_i u
     cases h;refine cI.stop (kZ s false) fun n m e=>⟨ks,s,false, ?_,rfl⟩
     rw [IT,e,i];simp only [Z,Bool.not_true,da,bk];rcases u with u|u
     ·rw [aB (by omega)];rfl
     ·rw [az (by omega),aB (by omega)];rfl
    ·rename_i u
     simp only [Option.bind_eq_some_iff]at h;obtain⟨x,z,h2⟩:=h;have ag:lL .piece s false:=⟨by rw [e];simp,rfl⟩
     obtain⟨a1,a2,a3⟩:=eJ _ _ _ _ _ z hs ag trivial;simp only [dR]at a2;have au:=af.1;have k1:=ih _ _ _ _ z hs ag trivial;have k2:=ih _ _ _ _ h2 (by omega) trivial ⟨by simp;omega,by
      intro k hk;rcases List.mem_append.1 hk with hk|hk
      ·exact af.2 k hk
      ·simp at hk;subst hk;exact eW a1⟩
     refine cI.step ((show W _ from k1).and (kZ s false)) k2 fun n m ⟨e1,g⟩ ⟨p,s',b',j,e4⟩=>⟨p,s',b', ?_,e4⟩
     rw [IT,g,i];simp only [Z,Bool.not_true,da,bk];rw [az (P:=(c.toNat:Int)=124) (by omega),az (P:=(c.toNat:Int)=41) (by omega)]
     simp only [da,e1,Z,flat,kY];rw [oS (by omega)]
     exact j
  |piece=>
   simp only [iP,Option.bind_eq_some_iff]at h;obtain⟨x,z,h2⟩:=h;obtain⟨a1,a2,a3⟩:=eJ _ _ _ _ _ z hs ae trivial;simp only [dR]at a2;have k1:=ih _ _ _ _ z hs ae trivial;have k2:=ih _ _ _ _ h2 (by omega) trivial a1
   refine((show W _ from k1).and (cI.diag k2)).nm fun n ⟨e1,g⟩=> ?_
   rw [asX,e1];simp only [Z,flat];rw [g];rfl
  |iA t=>
   simp only [iP]at h;split at h
   ·rename_i i
    cases h;refine cI.stop (kZ s b) fun n m e=> ?_
    rw [IU,e,i];rfl
   ·rename_i c i
    obtain⟨rfl,e⟩:=fJ i;have hl:s.length=s.tail.length+1:=by rw [e];simp
    split at h
    ·rename_i u
     cases h;refine cI.stop ((kZ s false).and (SF c)) fun n m ⟨e,g⟩=> ?_
     rw [IU,e,i];simp only [Z,Bool.not_true,da,dQ,g,u];rfl
    ·rename_i u
     have k2:=ih _ _ _ _ h (by omega) trivial ⟨by simp,by simpa using eW af⟩
     refine cI.step ((kZ s false).and (SF c)) k2 fun n m ⟨e,g⟩ j=> ?_
     rw [IU,e,i];simp only [Z,Bool.not_true,da,dQ,g,bk,az u,lZ,kY];rw [ez (by omega)]
     exact j
  |atom=>
   obtain⟨aw,rfl⟩:=ae;cases s with
   |nil=>exact absurd rfl aw
   |cons c rr=>
    simp only [List.length_cons]at hs;have i:eP (c::rr) false=some c:=rfl;simp only [iP]at h;split at h
    ·rename_i u
     simp only [Option.bind_eq_some_iff]at h;obtain⟨x,z,h2⟩:=h;have k1:=ih _ _ _ _ z (by omega) trivial trivial
     cases h2;refine(((show W _ from k1).and (kZ (c::rr) false)).and (wB x.2.1 x.2.2 41)).nm fun n ⟨⟨e1,g⟩,j⟩=> ?_
     rw [oQ,g,i];simp only [Z,lZ,List.tail_cons,bk];rw [ez (by simp only [List.length_cons];omega),aB (by omega)]
     simp only [Y,e1,Z,flat];rw [show mZ n x.2.1 x.2.2 (UInt8.ofNat (Int.toNat 41))=_ from j];unfold gY;cases hx:eP x.2.1 x.2.2 with
     |none=>rfl
     |some d=>
      by_cases hd:d.toNat=41
      ·have:d=41:=UInt8.toNat_inj.1 hd
       subst this;rfl
      ·have: ¬(some d=some (41:UInt8)):=by intro k;cases k;exact hd rfl
       rw [if_neg this];simp only [hd,if_false];rfl
    ·rename_i u
     cases h;have base:=kZ (c::rr) false;have q:bo ((c.toNat:Int)=40)=false:=az (by omega)
     show W fun n=>zT n (c::rr) false=some (flat (kd c rr))
     unfold kd;by_cases c1:c.toNat=46
     ·rw [if_pos c1]
      refine base.nm fun n g=> ?_
      rw [oQ,g,i];simp only [Z,lZ,List.tail_cons,bk,q,aB (show (c.toNat:Int)=46 by omega)]
      rw [ez (by simp only [List.length_cons];omega)]
      rfl
     rw [if_neg c1];have ad:bo ((c.toNat:Int)=46)=false:=az (by omega)
     by_cases c2:c.toNat=94
     ·rw [if_pos c2]
      refine base.nm fun n g=> ?_
      rw [oQ,g,i];simp only [Z,lZ,List.tail_cons,bk,q,ad,aB (show (c.toNat:Int)=94 by omega)]
      rw [ez (by simp only [List.length_cons];omega)]
      rfl
     rw [if_neg c2];have ai:bo ((c.toNat:Int)=94)=false:=az (by omega)
     by_cases c3:c.toNat=36
     ·rw [if_pos c3]
      refine base.nm fun n g=> ?_
      rw [oQ,g,i];simp only [Z,lZ,List.tail_cons,bk,q,ad,ai,aB (show (c.toNat:Int)=36 by omega)]
      rw [ez (by simp only [List.length_cons];omega)]
      rfl
     rw [if_neg c3];have al:bo ((c.toNat:Int)=36)=false:=az (by omega)
     by_cases c4:c.toNat=91
     ·rw [if_pos c4]
      refine(base.and (aAl rr (by omega))).nm fun n ⟨g,j⟩=> ?_
      rw [oQ,g,i];simp only [Z,lZ,List.tail_cons,bk,q,ad,ai,al,aB (show (c.toNat:Int)=91 by omega)]
      rw [ez (by simp only [List.length_cons];omega)]
      simp only [Y,da,j,Z];have hk:(fH rr).1.2.2.2.2=[]:=by
       unfold fH;simp only;split<;>rfl
      unfold flat;rw [hk]
     rw [if_neg c4];have ar:bo ((c.toNat:Int)=91)=false:=az (by omega)
     by_cases c5:c.toNat=92
     ·rw [if_pos c5]
      cases rr with
      |nil=>
       refine(base.and (kZ [] false)).nm fun n ⟨g,j⟩=> ?_
       rw [oQ,g,i];simp only [Z,lZ,List.tail_cons,bk,q,ad,ai,al,ar,aB (show (c.toNat:Int)=92 by omega),j]
       rfl
      |cons d rr=>
       refine(base.and (kZ (d::rr) false)).nm fun n ⟨g,j⟩=> ?_
       rw [oQ,g,i];simp only [Z,lZ,List.tail_cons,bk,q,ad,ai,al,ar,aB (show (c.toNat:Int)=92 by omega),j]
       rw [ez (by simp only [List.length_cons];omega),show eP (d::rr) false=some d from rfl]
       simp only [Y,da,Bool.not_true];rw [ez (by simp only [List.length_cons];omega),show wrap .i64 (d.toNat:Int)=(d.toNat:Int) by have:=d.toNat_lt;rw [IntKind.wrap_i64];omega]
       rfl
     rw [if_neg c5];have ax:bo ((c.toNat:Int)=92)=false:=az (by omega)
     refine base.nm fun n g=> ?_
     rw [oQ,g,i];simp only [Z,lZ,List.tail_cons,bk,q,ad,ai,al,ar,ax];rw [ez (by simp only [List.length_cons];omega)]
     by_cases c6:c.toNat=42
     ·rw [if_pos (.inl c6),aB (by omega)];rfl
     by_cases c7:c.toNat=43
     ·rw [if_pos (.inr (.inl c7)),az (P:=(c.toNat:Int)=42) (by omega),aB (by omega)];rfl
     by_cases c8:c.toNat=63
     ·rw [if_pos (.inr (.inr c8)),az (P:=(c.toNat:Int)=42) (by omega),az (P:=(c.toNat:Int)=43) (by omega),aB (by omega)];rfl
     rw [if_neg (by omega),az (P:=(c.toNat:Int)=42) (by omega),az (P:=(c.toNat:Int)=43) (by omega),az (P:=(c.toNat:Int)=63) (by omega),show wrap .i64 (c.toNat:Int)=(c.toNat:Int) by have:=c.toNat_lt;rw [IntKind.wrap_i64];omega]
     rfl
def eS (t:Nd) (S:O) (a:Int) (bad:Bool):Int×(Int×O×Bool×List Tr×O×Int×Bool):=(t.1,t.2.1,t.2.2.1,t.2.2.2.1,t.2.2.2.2,S,a,bad)
def sK (d:Nat) (st:O×Bool):Prop:=st.2=true∨st.1.length<d
def Sync (d:Nat) (S:O) (r:Nd×O×Bool) (t:Nd) (a:Int) (bad:Bool):Prop:=
 (bad=false∧t=r.1∧r.2.2=false∧ ∃k:Nat,a=k∧k≤S.length∧S.drop k=r.2.1)∨(bad=true∧sK d r.2)
theorem sK.mono {d:Nat} {f md s b r} (h:iP f md s b=some r) (g:s.length≤60) (hp:lL md s b) (i:ke md s) (hd:sK d (s,b)):sK d r.2:=by
 obtain⟨-,j,k⟩:=eJ _ _ _ _ _ h g hp i;rcases hd with hd|hd
 ·exact .inl (k hd)
 ·refine .inr ?_
  have:r.2.1.length≤s.length:=by
   cases md<;>simp only [dR]at j<;>omega
  show r.2.1.length<d;have hd:s.length<d:=hd;omega
theorem la (S:O) (k:Nat) (hk:k≤S.length) (c:UInt8):W fun n=>eR n S (k:Int) false c=some (bo (eP (S.drop k) false=some c),S,(k:Int),false):=by
 refine W.succ (W.of fun n=> ?_)
 rw [Qe];simp only [Bool.not_false,Y];by_cases h:k<S.length
 ·rw [bu h,de h]
  simp only [Y,Z,bk];rw [mO (show ((S[k].toNat:Int)=(c.toNat:Int))↔eP (S.drop k) false=some c by
   rw [List.drop_eq_getElem_cons h];show _↔some S[k]=some c;rw [Int.ofNat_inj,UInt8.toNat_inj];simp)]
 ·rw [hJ (by omega)]
  obtain rfl:k=S.length:=by omega
  rw [List.drop_eq_nil_of_le (Nat.le_refl _)];simp only [da,Z];rw [az (by simp [eP])]
theorem Jc (S:O) (a:Int) (c:UInt8):W fun n=>eR n S a true c=some (false,S,a,true):=by
 refine W.succ (W.of fun n=> ?_)
 rw [Qe];rfl
def Jd (S:O) (r:Nd×O×Bool) (set:O) (nt:Bool) (o c a:Int) (bad:Bool):Prop:=
 (bad=false∧r.1=(o,c,set,nt,[])∧r.2.2=false∧ ∃k:Nat,a=k∧k≤S.length∧S.drop k=r.2.1)∨(bad=true∧r.2.2=true)
theorem Je (n:Nat) (p:O) (q:Int) (r:Bool) (s t:Int) (u:O) (z:Bool) (x7 x8:Int) (x9:O) (b:Bool) (lo hi:UInt8) (has:List Bool) (d:Bool) (f:UInt8) (g:O) (i k:Int) (hn:300≤n) (hl:has.length=256):
  jG n n p q r s t u z x7 x8 x9 b (lo.toNat:Int) has d f g i k (hi.toNat:Int)=some (.inl (p,q,r,s,t,u,z,x7,x8,x9,b,dH has lo.toNat (hi.toNat+1-lo.toNat),d,f,g,i,k)):=by
 have h1:=lo.toNat_lt;have h2:=hi.toNat_lt;refine DQ (hi:=hi.toNat) (L:=fun m j h=>jG n m p q r s t u z x7 x8 x9 b j h d f g i k (hi.toNat:Int)) (out:=fun h=>(p,q,r,s,t,u,z,x7,x8,x9,b,h,d,f,g,i,k)) (by omega) (fun m j h hj hh=> ?_) (fun m j h hj=> ?_) _ n lo.toNat has rfl (by omega) hl
 ·rw [Qg,ez (by omega),ez (by omega),fe (by omega),dQ]
  rfl
 ·rw [Qg,hJ (by omega),dQ]
  rfl
theorem aAr (c:UInt8) (t:O) (has:List Bool) (b:Bool) (h: ∀d hi r,t=d::hi::r→ ¬(d.toNat=45∧hi.toNat≠93)):setB (c::t.takeWhile aJ) has b=setB (t.takeWhile aJ) (dH has c.toNat 1) b:=by
 match t,h with
 | [],_=>exact uo _ _ _ _ (by simp)
 | [d],_=>exact uo _ _ _ _ (by have:=mP aJ [d];simp only [List.length_cons,List.length_nil]at this;omega)
 |d::hi::r,h=>
  have h:=h d hi r rfl;rw [List.takeWhile_cons];by_cases f:aJ d=true
  ·rw [if_pos f,List.takeWhile_cons]
   by_cases g:aJ hi=true
   ·rw [if_pos g,DO _ _ _ _ _ _ h]
   ·rw [if_neg g];rfl
  ·rw [if_neg f];rfl
theorem SI (n:Nat) (hn:300≤n) (S:O) (hS:S.length≤60) (nt:Bool): ∀q m (k:Nat) has bad (mn:Nat),S.length-k≤q→q<m→has.length=256→k≤S.length→mn+(S.length-k)≤200→
  ∃b:Nat,mn≤b∧b≤200∧((S.drop k).takeWhile aJ=[]→b=mn)∧((S.drop k).takeWhile aJ≠ []→mn<b)∧
  gL n m S (k:Int) bad 0 0 [] false 3 0 [] nt has (mn:Int)=some (.inl (S,((k+((S.drop k).takeWhile aJ).length:Nat):Int),(setB ((S.drop k).takeWhile aJ) has bad).2,0,0,[],false,3,0,[],nt,(setB ((S.drop k).takeWhile aJ) has bad).1,(b:Int))):=by
 intro q;induction q with
 |zero=>
  intro m k has bad mn hk hm z aj ak;obtain⟨m,rfl⟩: ∃m',m=m'+1:=⟨m-1,by omega⟩
  obtain rfl:k=S.length:=by omega
  refine⟨mn,Nat.le_refl _,by omega,fun _=>rfl,fun h=>absurd (by rw [List.drop_eq_nil_of_le (Nat.le_refl _)];rfl) h, ?_⟩
  rw [IG,cp,List.drop_eq_nil_of_le (Nat.le_refl _)];rfl
 |succ q ih=>
  intro m k has bad mn hk hm z aj ak;obtain⟨m,rfl⟩: ∃m',m=m'+1:=⟨m-1,by omega⟩
  by_cases s:k<S.length
  ·have w1:wrap .i64 ((k:Int)+1)=((k+1:Nat):Int):=by rw [IntKind.wrap_i64];omega
   have w2:wrap .i64 (((k+1:Nat):Int)+1)=((k+2:Nat):Int):=by rw [IntKind.wrap_i64];omega
   have w3:wrap .i64 (((k+1:Nat):Int)+2)=((k+3:Nat):Int):=by rw [IntKind.wrap_i64];omega
   have wm:wrap .i64 ((mn:Int)+1)=((mn+1:Nat):Int):=by rw [IntKind.wrap_i64];omega
   have e0:S.drop k=S[k]::S.drop (k+1):=List.drop_eq_getElem_cons s;rw [IG,bu s,de s];simp only [Y,Z,w1,w2,w3,qI,cq];by_cases ad:S[k].toNat=93
   ·have f:(S.drop k).takeWhile aJ=[]:=by rw [e0,List.takeWhile_cons,if_neg (by simp [aJ,ad])]
    refine⟨mn,Nat.le_refl _,by omega,fun _=>rfl,fun h=>absurd f h, ?_⟩
    rw [az (P:= ¬(S[k].toNat:Int)=93) (by omega),f]
    rfl
   ·have al:aJ S[k]=true:=by simp [aJ,ad]
    have f:(S.drop k).takeWhile aJ=S[k]::(S.drop (k+1)).takeWhile aJ:=by rw [e0,List.takeWhile_cons,if_pos al]
    have ao:decide ((S[k].toNat:Int)<(S[k].toNat:Int))=false:=hJ (by omega)
    rw [aB (P:= ¬(S[k].toNat:Int)=93) (by omega)]
    simp only [Y,ao,da];have one: ∀x1 g i,jG n n S x1 bad 0 0 [] false 3 0 [] nt (S[k].toNat:Int) has g i S (k:Int) (mn:Int) (S[k].toNat:Int)=some (.inl (S,x1,bad,0,0,[],false,3,0,[],nt,dH has S[k].toNat 1,g,i,S,(k:Int),(mn:Int))):=fun x1 g i=>by
     have:=Je n S x1 bad 0 0 [] false 3 0 [] nt S[k] S[k] has g i S (k:Int) (mn:Int) hn z;rwa [show S[k].toNat+1-S[k].toNat=1 by omega]at this
    have t:(∀d hi r,S.drop (k+1)=d::hi::r→ ¬(d.toNat=45∧hi.toNat≠93))→ ∃b:Nat,mn≤b∧b≤200∧((S.drop k).takeWhile aJ=[]→b=mn)∧((S.drop k).takeWhile aJ≠ []→mn<b)∧
      gL n m S ((k+1:Nat):Int) bad 0 0 [] false 3 0 [] nt (dH has S[k].toNat 1) ((mn+1:Nat):Int)=some (.inl (S,((k+((S.drop k).takeWhile aJ).length:Nat):Int),(setB ((S.drop k).takeWhile aJ) has bad).2,0,0,[],false,3,0,[],nt,(setB ((S.drop k).takeWhile aJ) has bad).1,(b:Int))):=fun u=>by
     obtain⟨b,g1,g2,g3,g4,g5⟩:=ih m (k+1) (dH has S[k].toNat 1) bad (mn+1) (by omega) (by omega) (by rw [kc];exact z) (by omega) (by omega)
     refine⟨b,by omega,g2,fun h=>absurd h (by rw [f];simp),fun _=>by omega, ?_⟩
     rw [g5,f,aAr _ _ _ _ u,List.length_cons,show k+(((S.drop (k+1)).takeWhile aJ).length+1)=k+1+((S.drop (k+1)).takeWhile aJ).length by omega]
    by_cases h2:k+2<S.length
    ·have e1:S.drop (k+1)=S[k+1]::S.drop (k+2):=List.drop_eq_getElem_cons (by omega)
     have e2:S.drop (k+2)=S[k+2]::S.drop (k+3):=List.drop_eq_getElem_cons h2;rw [bu h2,de (show k+1<S.length by omega),de h2]
     simp only [Y,Z,bk,one,cO,wm];by_cases hd:S[k+1].toNat=45
     ·rw [aB (P:=(S[k+1].toNat:Int)=45) (by omega)]
      simp only [Y];by_cases hh:S[k+2].toNat=93
      ·rw [az (P:= ¬(S[k+2].toNat:Int)=93) (by omega)]
       simp only [da];refine t fun d hi r e=> ?_
       rw [e1,e2]at e;cases e;exact fun h=>h.2 hh
      ·rw [aB (P:= ¬(S[k+2].toNat:Int)=93) (by omega)]
       simp only [Y];have aw:aJ S[k+1]=true:=by simp [aJ,hd]
       have ax:aJ S[k+2]=true:=by simp [aJ,hh]
       have ae:(S.drop k).takeWhile aJ=S[k]::S[k+1]::S[k+2]::(S.drop (k+3)).takeWhile aJ:=by
        rw [f,e1,List.takeWhile_cons,if_pos aw,e2,List.takeWhile_cons,if_pos ax]
       have j: ∀bd,bd=(bad||decide (S[k+2].toNat<S[k].toNat))→ ∃b:Nat,mn≤b∧b≤200∧((S.drop k).takeWhile aJ=[]→b=mn)∧((S.drop k).takeWhile aJ≠ []→mn<b)∧
         gL n m S ((k+3:Nat):Int) bd 0 0 [] false 3 0 [] nt (dH has S[k].toNat (S[k+2].toNat+1-S[k].toNat)) ((mn+1:Nat):Int)=some (.inl (S,((k+((S.drop k).takeWhile aJ).length:Nat):Int),(setB ((S.drop k).takeWhile aJ) has bad).2,0,0,[],false,3,0,[],nt,(setB ((S.drop k).takeWhile aJ) has bad).1,(b:Int))):=fun bd ay=>by
        obtain⟨b,g1,g2,g3,g4,g5⟩:=ih m (k+3) (dH has S[k].toNat (S[k+2].toNat+1-S[k].toNat)) bd (mn+1) (by omega) (by omega) (by rw [kc];exact z) (by omega) (by omega)
        refine⟨b,by omega,g2,fun h=>absurd h (by rw [f];simp),fun _=>by omega, ?_⟩
        rw [g5,ae,DP _ _ _ _ _ _ ⟨hd,hh⟩,ay];simp only [List.length_cons];rw [show k+(((S.drop (k+3)).takeWhile aJ).length+1+1+1)=k+3+((S.drop (k+3)).takeWhile aJ).length by omega]
       by_cases p:S[k+2].toNat<S[k].toNat
       ·rw [ez (show (S[k+2].toNat:Int)<(S[k].toNat:Int) by omega),Je n S _ true 0 0 [] false 3 0 [] nt S[k] S[k+2] has _ _ S (k:Int) (mn:Int) hn z]
        simp only [Y,Z,cO,wm];exact j true (by rw [ez p];simp)
       ·rw [hJ (show ¬(S[k+2].toNat:Int)<(S[k].toNat:Int) by omega),Je n S _ bad 0 0 [] false 3 0 [] nt S[k] S[k+2] has _ _ S (k:Int) (mn:Int) hn z]
        simp only [da,Z,cO,wm];exact j bad (by rw [hJ p];simp)
     ·rw [az (P:=(S[k+1].toNat:Int)=45) (by omega)]
      simp only [da];refine t fun d hi r e=> ?_
      rw [e1,e2]at e;cases e;exact fun h=>hd h.1
    ·rw [hJ (by omega)]
     simp only [da,Z,one,cO,wm];refine t fun d hi r e=> ?_
     have:(S.drop (k+1)).length=(d::hi::r).length:=by rw [e]
     simp at this
     omega
  ·obtain rfl:k=S.length:=by omega
   refine⟨mn,Nat.le_refl _,by omega,fun _=>rfl,fun h=>absurd (by rw [List.drop_eq_nil_of_le (Nat.le_refl _)];rfl) h, ?_⟩
   rw [IG,cp,List.drop_eq_nil_of_le (Nat.le_refl _)];rfl
theorem SJ (S:O) (k:Nat) (hk:k≤S.length) (s:S.length≤60) (nt:Bool): ∃(set:O) (a:Int) (bad:Bool),
  ((((S.drop k).takeWhile aJ).length=(S.drop k).length∨(S.drop k).takeWhile aJ=[])∧bad=true∨
   ¬(((S.drop k).takeWhile aJ).length=(S.drop k).length∨(S.drop k).takeWhile aJ=[])∧set=bytesOf (setB ((S.drop k).takeWhile aJ) dE false).1 256∧bad=(setB ((S.drop k).takeWhile aJ) dE false).2∧a=((k+((S.drop k).takeWhile aJ).length+1:Nat):Int))∧
  W fun n=>((gL n n S (k:Int) false 0 0 [] false 3 0 [] nt (List.replicate (Int.toNat (256:Int)) false) 0).bind fun z=>ay z (fun z2=>(cond (decide ((z2.1.length:Int)≤z2.2.1)) (some true) (some (z2.2.2.2.2.2.2.2.2.2.2.2.2==(0:Int))):Option Bool).bind fun j=>cond j ((kQ n n z2.1 (wrap .i64 (z2.2.1+1)) true z2.2.2.2.1 z2.2.2.2.2.1 z2.2.2.2.2.2.1 z2.2.2.2.2.2.2.1 z2.2.2.2.2.2.2.2.1 z2.2.2.2.2.2.2.2.2.1 z2.2.2.2.2.2.2.2.2.2.1 z2.2.2.2.2.2.2.2.2.2.2.1 0 [] z2.2.2.2.2.2.2.2.2.2.2.2.1).bind fun d=>ay d (fun z24=>some (z24.2.2.2.2.2.2.2.1,z24.2.2.2.2.2.2.2.2.1,z24.2.2.2.2.2.2.2.2.2.2.2,z24.2.2.2.2.2.2.2.2.2.2.1,z24.1,z24.2.1,z24.2.2.1)) (fun f=>some f))
   ((kQ n n z2.1 (wrap .i64 (z2.2.1+1)) z2.2.2.1 z2.2.2.2.1 z2.2.2.2.2.1 z2.2.2.2.2.2.1 z2.2.2.2.2.2.2.1 z2.2.2.2.2.2.2.2.1 z2.2.2.2.2.2.2.2.2.1 z2.2.2.2.2.2.2.2.2.2.1 z2.2.2.2.2.2.2.2.2.2.2.1 0 [] z2.2.2.2.2.2.2.2.2.2.2.2.1).bind fun d=>ay d (fun z24=>some (z24.2.2.2.2.2.2.2.1,z24.2.2.2.2.2.2.2.2.1,z24.2.2.2.2.2.2.2.2.2.2.2,z24.2.2.2.2.2.2.2.2.2.2.1,z24.1,z24.2.1,z24.2.2.1)) (fun f=>some f))) (fun w2=>some w2))=some (3,0,set,nt,S,a,bad):=by
 have b:=wC ((S.drop k).takeWhile aJ) dE false;have b:(setB ((S.drop k).takeWhile aJ) dE false).1.length=256:=by rw [b,rL]
 have ae:=mP aJ (S.drop k);have af:(S.drop k).length=S.length-k:=by simp
 have kb: ∀(a:Int) (bad:Bool),W fun n=>kQ n n S a bad 0 0 [] false 3 0 [] nt 0 [] (setB ((S.drop k).takeWhile aJ) dE false).1=some (.inl (S,a,bad,0,0,[],false,3,0,[],nt,bytesOf (setB ((S.drop k).takeWhile aJ) dE false).1 256)):=fun a bad=>
  Nj b (L:=fun n m i o=>kQ n m S a bad 0 0 [] false 3 0 [] nt i o (setB ((S.drop k).takeWhile aJ) dE false).1) (out:=fun o=>(S,a,bad,0,0,[],false,3,0,[],nt,o))
   (fun n m i o hi ho=>by
    rw [Qh,ez (by omega),ez (by omega),fe (by omega),Nk i hi]
    simp only [Y,Z];rw [oS (by omega),getD_at (show i<(setB ((S.drop k).takeWhile aJ) dE false).1.length by omega)]
    cases (setB ((S.drop k).takeWhile aJ) dE false).1[i]<;>simp) (fun n m o=>by rw [Qh];rfl)
 have t:wrap .i64 (((k+((S.drop k).takeWhile aJ).length:Nat):Int)+1)=((k+((S.drop k).takeWhile aJ).length+1:Nat):Int):=by rw [IntKind.wrap_i64];omega
 by_cases h:((S.drop k).takeWhile aJ).length=(S.drop k).length∨(S.drop k).takeWhile aJ=[]
 ·refine⟨bytesOf (setB ((S.drop k).takeWhile aJ) dE false).1 256,((k+((S.drop k).takeWhile aJ).length+1:Nat):Int),true,.inl ⟨h,rfl⟩,((kb ((k+((S.drop k).takeWhile aJ).length+1:Nat):Int) true).and (W.ge 400)).mono fun n ⟨p,hn⟩=> ?_⟩
  obtain⟨g,g1,g2,g3,g4,g5⟩:=SI n (by omega) S s nt S.length n k dE false 0 (by omega) (by omega) rL hk (by omega)
  rw [show gL n n S (k:Int) false 0 0 [] false 3 0 [] nt (List.replicate (Int.toNat 256) false) 0=_ from g5];simp only [Z,cO,t];have r:(cond (decide ((S.length:Int)≤((k+((S.drop k).takeWhile aJ).length:Nat):Int))) (some true) (some ((g:Int)==(0:Int))):Option Bool)=some true:=by
   rcases h with h|h
   ·rw [ez (by omega)];rfl
   ·rw [g3 h]
    cases decide ((S.length:Int)≤((k+((S.drop k).takeWhile aJ).length:Nat):Int))<;>rfl
  rw [r];simp only [Z,Y];rw [p];rfl
 ·refine⟨bytesOf (setB ((S.drop k).takeWhile aJ) dE false).1 256,((k+((S.drop k).takeWhile aJ).length+1:Nat):Int),(setB ((S.drop k).takeWhile aJ) dE false).2,.inr ⟨h,rfl,rfl,rfl⟩,((kb ((k+((S.drop k).takeWhile aJ).length+1:Nat):Int) (setB ((S.drop k).takeWhile aJ) dE false).2).and (W.ge 400)).mono fun n ⟨p,hn⟩=> ?_⟩
  obtain⟨g,g1,g2,g3,g4,g5⟩:=SI n (by omega) S s nt S.length n k dE false 0 (by omega) (by omega) rL hk (by omega)
  rw [show gL n n S (k:Int) false 0 0 [] false 3 0 [] nt (List.replicate (Int.toNat 256) false) 0=_ from g5];simp only [Z,cO,t];have ah: ¬((S.drop k).takeWhile aJ).length=(S.drop k).length:=fun q=>h (.inl q)
  have u:=g4 (fun q=>h (.inr q))
  have r:(cond (decide ((S.length:Int)≤((k+((S.drop k).takeWhile aJ).length:Nat):Int))) (some true) (some ((g:Int)==(0:Int))):Option Bool)=some false:=by
   rw [hJ (by omega),bk,az (by omega)];rfl
  rw [r];simp only [Z,da];rw [p];rfl
theorem aAs (S:O) (k:Nat) (hk:k≤S.length) (m:S.length≤60): ∃set nt o c a bad,Jd S (fH (S.drop k)) set nt o c a bad∧W fun n=>FV n S (k:Int) false=some (o,c,set,nt,S,a,bad):=by
 have fin: ∀(j:Nat) (nt:Bool),j≤S.length→bH (S.drop k)=(S.drop j,nt)→ ∀set a bad,((((S.drop j).takeWhile aJ).length=(S.drop j).length∨(S.drop j).takeWhile aJ=[])∧bad=true∨
   ¬(((S.drop j).takeWhile aJ).length=(S.drop j).length∨(S.drop j).takeWhile aJ=[])∧set=bytesOf (setB ((S.drop j).takeWhile aJ) dE false).1 256∧bad=(setB ((S.drop j).takeWhile aJ) dE false).2∧a=((j+((S.drop j).takeWhile aJ).length+1:Nat):Int))→Jd S (fH (S.drop k)) set nt 3 0 a bad:=by
  intro j nt hj b set a bad h;have p:=mP aJ (S.drop j);have s:(S.drop j).length=S.length-j:=by simp
  unfold fH Jd;rw [b];simp only;rcases h with⟨h,rfl⟩|⟨h,d,f,t⟩
  ·rw [if_pos h]
   exact .inr ⟨rfl,rfl⟩
  ·rw [if_neg h,d,f,t]
   simp only;cases hb:(setB ((S.drop j).takeWhile aJ) dE false).2
   ·refine .inl ⟨rfl,by simp only,rfl,_,rfl, ?_, ?_⟩
    ·have u: ¬((S.drop j).takeWhile aJ).length=(S.drop j).length:=fun q=>h (.inl q)
     omega
    ·rw [List.drop_drop]
     rfl
   ·exact .inr ⟨rfl,rfl⟩
 by_cases h:eP (S.drop k) false=some 94
 ·obtain⟨-,e⟩:=fJ h
  have z:k<S.length:=by
   by_cases h':k<S.length
   ·exact h'
   ·rw [List.drop_eq_nil_of_le (by omega)]at h;cases h
  have b:bH (S.drop k)=(S.drop (k+1),true):=by
   have ht:(S.drop k).tail=S.drop (k+1):=List.tail_drop;rw [e,ht];rfl
  obtain⟨set,a,bad,g,i⟩:=SJ S (k+1) (by omega) m true
  refine⟨set,true,3,0,a,bad,fin (k+1) true (by omega) b set a bad g,(i.and (la S k hk 94)).nm fun n ⟨d,f⟩=> ?_⟩
  rw [Qf,show eR n S (k:Int) false (UInt8.ofNat (Int.toNat 94))=_ from f,aB h];simp only [Z,Y];rw [ez (by unfold big;omega),show wrap .i64 ((k:Int)+1)=((k+1:Nat):Int) by rw [IntKind.wrap_i64];omega]
  exact d
 ·have b:bH (S.drop k)=(S.drop k,false):=by
   cases e:S.drop k with
   |nil=>rfl
   |cons c r=>
    rw [e]at h;show(if c.toNat=94 then(r,true)else(c::r,false))=_
    have hc:c.toNat≠94:=fun q=>h (congrArg some (UInt8.toNat_inj.1 q))
    rw [if_neg hc]
  obtain⟨set,a,bad,g,i⟩:=SJ S k hk m false;refine⟨set,false,3,0,a,bad,fin k false hk b set a bad g,(i.and (la S k hk 94)).nm fun n ⟨d,f⟩=> ?_⟩
  rw [Qf,show eR n S (k:Int) false (UInt8.ofNat (Int.toNat 94))=_ from f,az h];simp only [Z,da];rw [ez (by unfold big;omega)]
  exact d
def aAt (md:Md) (d:Nat) (S:O) (k:Nat) (r:Nd×O×Bool):Prop:=
 match md with
 |.pat=> ∃t a bad,Sync d S r t a bad∧W fun n=>uT n S k false d=some (eS t S a bad)
 |.part=> ∃t a bad,Sync d S r t a bad∧W fun n=>yY n S k false d=some (eS t S a bad)
 |.piece=> ∃t a bad,Sync d S r t a bad∧W fun n=>FU n S k false d=some (eS t S a bad)
 |.atom=> ∃t a bad,Sync d S r t a bad∧W fun n=>uV n S k false d=some (eS t S a bad)
 |.fI ks=> ∃b a bad,Sync d S r (gX b) a bad∧cI fun n m=>qs n m S k false 0 0 [] false d ks=some (.inl (S,a,bad,0,0,[],false,b))
 |.ff ks=> ∃b a bad,Sync d S r (gq b) a bad∧cI fun n m=>uU n m S k false 0 0 [] false d ks=some (.inl (S,a,bad,0,0,[],false,b))
 |.iA t=> ∃f a bad,Sync d S r f a bad∧cI fun n m=>qt n m S k false 0 0 [] false t.1 t.2.1 t.2.2.1 t.2.2.2.1 t.2.2.2.2=some (.inl (S,a,bad,0,0,[],false,f.1,f.2.1,f.2.2.1,f.2.2.2.1,f.2.2.2.2))
theorem SK (ks:List Tr) (S:O) (a:Int) (bad:Bool):(cond ((ks.length:Int)==(1:Int)) (cond (decide ((0:Int)≤(0:Int)∧(0:Int)<(ks.length:Int))) ((lQ ks 0).bind fun d=>some (d.1,d.2.1,d.2.2.1,d.2.2.2.1,d.2.2.2.2,S,a,bad)) none) (some ((7:Int),(0:Int),([]:O),false,ks,S,a,bad)))=some (eS (gX ks) S a bad):=by
 match ks with
 | []=>rfl
 | [k]=>rw [wA];rfl
 |a::b::r=>
  rw [bk,az (by simp only [List.length_cons];omega)]
  rfl
theorem aAu (ks:List Tr) (S:O) (a:Int) (bad:Bool):(cond ((ks.length:Int)==(0:Int)) (some ((11:Int),(0:Int),([]:O),false,([]:List Tr),S,a,bad)) (cond ((ks.length:Int)==(1:Int)) (cond (decide ((0:Int)≤(0:Int)∧(0:Int)<(ks.length:Int))) ((lQ ks 0).bind fun d=>some (d.1,d.2.1,d.2.2.1,d.2.2.2.1,d.2.2.2.2,S,a,bad)) none) (some ((6:Int),(0:Int),([]:O),false,ks,S,a,bad))))=some (eS (gq ks) S a bad):=by
 match ks with
 | []=>rfl
 | [k]=>rw [wA];rfl
 |a::b::r=>
  rw [bk,bk,az (P:=_=(0:Int)) (by simp only [List.length_cons];omega),az (P:=_=(1:Int)) (by simp only [List.length_cons];omega)]
  rfl
theorem wk {k:Nat} (h:k≤1000):wrap .i64 ((k:Int)+(1:Int))=((k+1:Nat):Int):=by rw [IntKind.wrap_i64];omega
theorem drop_tail {S s:O} {k:Nat} (h:S.drop k=s):S.drop (k+1)=s.tail:=by rw [←h,List.tail_drop]
theorem Bv {S:O} {k:Nat} {c:UInt8} {t:O} (h:S.drop k=c::t): ∃hk:k<S.length,S[k]=c:=by
 have hk:k<S.length:=by
  by_cases b:k<S.length
  ·exact b
  ·rw [List.drop_eq_nil_of_le (by omega)]at h;cases h
 refine⟨hk, ?_⟩
 rw [List.drop_eq_getElem_cons hk]at h;exact(List.cons.inj h).1
theorem sL {s:O} {c d:UInt8} (h:eP s false=some c):eP s false=some d↔c.toNat=d.toNat:=by
 rw [h];constructor
 ·intro k;cases k;rfl
 ·intro k;exact congrArg some (UInt8.toNat_inj.1 k)
theorem aAv: ∀f md s r,iP f md s false=some r→ ∀d (S:O) k,S.length≤60→k≤S.length→S.drop k=s→d+s.length≤60→lL md s false→ke md s→aAt md d S k r:=by
 intro f;induction f with
 |zero=>intro md s r h;simp [iP]at h
 |succ f ih=>
  intro md s r h d S k hS hk hd a7 a8 bd;have hs:s.length≤60:=by omega
  have cf:S.length-k=s.length:=by rw [←hd];simp
  cases md with
  |pat=>
   simp only [iP,Option.bind_eq_some_iff]at h;obtain⟨x,h1,h2⟩:=h;obtain⟨a1,a2,a3⟩:=eJ _ _ _ _ _ h1 hs trivial trivial;simp only [dR]at a2;have ae:ke (.fI [cP x.1]) x.2.1:=⟨by simp;omega,by simpa using eW a1⟩
   obtain⟨t,a,bad,z,g⟩:=ih _ _ _ h1 d S k hS hk hd a7 trivial trivial;rcases z with⟨rfl,rfl,hb,k',rfl,ah,af⟩|⟨rfl,j⟩
   ·rw [hb]at h2
    obtain⟨ai,a',u,ad,p⟩:=ih _ _ _ h2 d S k' hS ah af (by omega) trivial ae
    refine⟨gX ai,a',u,ad,(g.and (cI.diag p)).nm fun n ⟨g,p⟩=> ?_⟩
    rw [Qb,g];simp only [Z,eS,kY];rw [show qs n n S k' false 0 0 [] false d [cP (x.1.1,x.1.2.1,x.1.2.2.1,x.1.2.2.2.1,x.1.2.2.2.2)]=_ from p];simp only [Z,cO];exact SK ai S a' u
   ·have b:=j.mono h2 (by omega) trivial ae
    refine⟨gX [cP t],a,true,.inr ⟨rfl,b⟩,((g.and (Jc S a 124)).and (W.ge 1)).nm fun n ⟨⟨g,p⟩,hn⟩=> ?_⟩
    rw [Qb,g];simp only [Z,eS,kY];obtain⟨m,hm⟩: ∃m,n=m+1:=⟨n-1,by omega⟩
    have e3:qs n n S a true 0 0 [] false d [cP (t.1,t.2.1,t.2.2.1,t.2.2.2.1,t.2.2.2.2)]=some (.inl (S,a,true,0,0,[],false,[cP t])):=by
     conv=>lhs;arg 2;rw [hm]
     rw [sE,show eR n S a true (UInt8.ofNat (Int.toNat 124))=_ from p];rfl
    rw [e3];simp only [Z,cO];exact SK [cP t] S a true
  |fI ks=>
   have cl:=bd.1;simp only [iP]at h;split at h
   ·rename_i hn
    cases h;refine⟨ks,k,false,.inl ⟨rfl,rfl,rfl,k,rfl,hk,hd⟩,cI.stop (la S k hk 124) fun n m e=> ?_⟩
    rw [sE,oT,e,hd,hn,az (by simp)]
    rfl
   ·rename_i c hn
    obtain⟨-,e⟩:=fJ hn;have hl:s.length=s.tail.length+1:=by rw [e];simp
    split at h
    ·rename_i hc
     simp only [Option.bind_eq_some_iff]at h;obtain⟨x,h1,h2⟩:=h;obtain⟨a1,a2,a3⟩:=eJ _ _ _ _ _ h1 (by omega) trivial trivial
     simp only [dR]at a2;have ae:ke (.fI (ks++[cP x.1])) x.2.1:=⟨by simp;omega,by
      intro k hk;rcases List.mem_append.1 hk with hk|hk
      ·exact bd.2 k hk
      ·simp at hk;subst hk;exact eW a1⟩
     have bq:eP (S.drop k) false=some 124:=by rw [hd];exact(sL (d:=124) hn).2 hc
     obtain⟨t,a,bad,z,g⟩:=ih _ _ _ h1 d S (k+1) hS (by omega) (drop_tail hd) (by omega) trivial trivial
     rcases z with⟨rfl,rfl,hb,k',rfl,ah,af⟩|⟨rfl,j⟩
     ·rw [hb]at h2
      obtain⟨ai,a',u,ad,p⟩:=ih _ _ _ h2 d S k' hS ah af (by omega) trivial ae
      refine⟨ai,a',u,ad,cI.step ((la S k hk 124).and g) p fun n m ⟨e0,g⟩ p=> ?_⟩
      rw [sE,oT,e0,aB bq];simp only [Z,Y,wk (show k≤1000 by omega),g,eS,kY]
      rw [oS (by omega)]
      exact p
     ·have b:=j.mono h2 (by omega) trivial ae
      have al:cI fun n m=>qs n m S a true 0 0 [] false d (ks++[cP t])=some (.inl (S,a,true,0,0,[],false,ks++[cP t])):=cI.stop (Jc S a 124) fun n m e=>by
       rw [sE,oT,e];rfl
      refine⟨ks++[cP t],a,true,.inr ⟨rfl,b⟩,cI.step ((la S k hk 124).and g) al fun n m ⟨e0,g⟩ p=> ?_⟩
      rw [sE,oT,e0,aB bq];simp only [Z,Y,wk (show k≤1000 by omega),g,eS,kY]
      rw [oS (by omega)]
      exact p
    ·rename_i hc
     cases h;refine⟨ks,k,false,.inl ⟨rfl,rfl,rfl,k,rfl,hk,hd⟩,cI.stop (la S k hk 124) fun n m e=> ?_⟩
     rw [sE,oT,e,hd,az (fun q=>hc ((sL (d:=124) hn).1 q))]
     rfl
  |part=>
   simp only [iP]at h;obtain⟨ai,a,bad,z,e⟩:=ih (.ff []) _ _ h d S k hS hk hd a7 trivial ⟨by simp;omega,by simp⟩
   refine⟨gq ai,a,bad,z,(cI.diag e).nm fun n e=> ?_⟩
   rw [apE,e];simp only [Z,cO];exact aAu ai S a bad
  |ff ks=>
   have cl:=bd.1;simp only [iP]at h;split at h
   ·rename_i hn
    cases h;have cg:s=[]:=by
     cases s with
     |nil=>rfl
     |cons c t=>simp [eP]at hn
    subst cg;refine⟨ks,k,false,.inl ⟨rfl,rfl,rfl,k,rfl,hk,hd⟩,cI.stop (W.ge 0) fun n m _=> ?_⟩
    rw [wj,hJ (by simp at cf;omega)]
    rfl
   ·rename_i c hn
    obtain⟨-,e⟩:=fJ hn;obtain⟨ao,bf⟩:=Bv (hd.trans e);split at h
    ·rename_i hc
     cases h;refine⟨ks,k,false,.inl ⟨rfl,rfl,rfl,k,rfl,hk,hd⟩,cI.stop (W.ge 0) fun n m _=> ?_⟩
     rw [wj,bu ao,de ao,bf];simp only [Bool.not_false,Y,Z,cq];rcases hc with hc|hc
     ·rw [az (P:= ¬(c.toNat:Int)=124) (by omega)];rfl
     ·rw [aB (P:= ¬(c.toNat:Int)=124) (by omega),az (P:= ¬(c.toNat:Int)=41) (by omega)];rfl
    ·rename_i hc
     simp only [Option.bind_eq_some_iff]at h;obtain⟨x,h1,h2⟩:=h;have bg:lL .piece s false:=⟨by rw [e];simp,rfl⟩
     obtain⟨a1,a2,a3⟩:=eJ _ _ _ _ _ h1 hs bg trivial;simp only [dR]at a2;have ae:ke (.ff (ks++[cP x.1])) x.2.1:=⟨by simp;omega,by
      intro k hk;rcases List.mem_append.1 hk with hk|hk
      ·exact bd.2 k hk
      ·simp at hk;subst hk;exact eW a1⟩
     obtain⟨t,a,bad,z,g⟩:=ih _ _ _ h1 d S k hS hk hd a7 bg trivial;rcases z with⟨rfl,rfl,hb,k',rfl,ah,af⟩|⟨rfl,j⟩
     ·rw [hb]at h2
      obtain⟨ai,a',u,ad,p⟩:=ih _ _ _ h2 d S k' hS ah af (by omega) trivial ae
      refine⟨ai,a',u,ad,cI.step g p fun n m g p=> ?_⟩
      rw [wj,bu ao,de ao,bf];simp only [Bool.not_false,Y,Z,cq];rw [aB (P:= ¬(c.toNat:Int)=124) (by omega),aB (P:= ¬(c.toNat:Int)=41) (by omega)]
      simp only [Z,Y,g,eS,kY];rw [oS (by omega)]
      exact p
     ·have b:=j.mono h2 (by omega) trivial ae
      have al:cI fun n m=>uU n m S a true 0 0 [] false d (ks++[cP t])=some (.inl (S,a,true,0,0,[],false,ks++[cP t])):=cI.stop (W.ge 0) fun n m e=>by
       rw [wj];rfl
      refine⟨ks++[cP t],a,true,.inr ⟨rfl,b⟩,cI.step g al fun n m g p=> ?_⟩
      rw [wj,bu ao,de ao,bf];simp only [Bool.not_false,Y,Z,cq];rw [aB (P:= ¬(c.toNat:Int)=124) (by omega),aB (P:= ¬(c.toNat:Int)=41) (by omega)]
      simp only [Z,Y,g,eS,kY];rw [oS (by omega)]
      exact p
  |piece=>
   simp only [iP,Option.bind_eq_some_iff]at h;obtain⟨x,h1,h2⟩:=h;obtain⟨a1,a2,a3⟩:=eJ _ _ _ _ _ h1 hs a8 trivial;simp only [dR]at a2;obtain⟨t,a,bad,z,g⟩:=ih _ _ _ h1 d S k hS hk hd a7 a8 trivial;rcases z with⟨rfl,rfl,hb,k',rfl,ah,af⟩|⟨rfl,j⟩
   ·rw [hb]at h2
    obtain⟨t',a',u,ad,p⟩:=ih _ _ _ h2 d S k' hS ah af (by omega) trivial a1
    refine⟨t',a',u,ad,(g.and (cI.diag p)).nm fun n ⟨g,p⟩=> ?_⟩
    rw [Qc,g];simp only [Z,eS];rw [p];rfl
   ·have b:=j.mono h2 (by omega) trivial a1
    have al:cI fun n m=>qt n m S a true 0 0 [] false t.1 t.2.1 t.2.2.1 t.2.2.2.1 t.2.2.2.2=some (.inl (S,a,true,0,0,[],false,t.1,t.2.1,t.2.2.1,t.2.2.2.1,t.2.2.2.2)):=cI.stop (W.ge 0) fun n m e=>by
     rw [Bp];rfl
    refine⟨t,a,true,.inr ⟨rfl,b⟩,(g.and (cI.diag al)).nm fun n ⟨g,p⟩=> ?_⟩
    rw [Qc,g];simp only [Z,eS];rw [p];rfl
  |iA t=>
   have base:=(la S k hk 42).and ((la S k hk 43).and (la S k hk 63));simp only [iP]at h;split at h
   ·rename_i hn
    cases h;refine⟨t,k,false,.inl ⟨rfl,rfl,rfl,k,rfl,hk,hd⟩,cI.stop base fun n m ⟨g,p,e3⟩=> ?_⟩
    rw [Bp];simp only [Bool.not_false,Y];rw [show eR n S (k:Int) false (UInt8.ofNat (Int.toNat 42))=_ from g,hd,hn,az (by simp)]
    simp only [Z,da];rw [show eR n S (k:Int) false (UInt8.ofNat (Int.toNat 43))=_ from p,hd,hn,az (by simp)]
    simp only [Z,da];rw [show eR n S (k:Int) false (UInt8.ofNat (Int.toNat 63))=_ from e3,hd,hn,az (by simp)]
    rfl
   ·rename_i c hn
    obtain⟨-,e⟩:=fJ hn;have hl:s.length=s.tail.length+1:=by rw [e];simp
    have q1:=sL (d:=42) hn;have q2:=sL (d:=43) hn;have q3:=sL (d:=63) hn;rw [←hd]at q1 q2 q3;split at h
    ·rename_i hc
     cases h;refine⟨t,k,false,.inl ⟨rfl,rfl,rfl,k,rfl,hk,hd⟩,cI.stop base fun n m ⟨g,p,e3⟩=> ?_⟩
     have bt:c.toNat≠42∧c.toNat≠43∧c.toNat≠63:=by
      unfold gI at hc;repeat' split at hc
      all_goals omega
     rw [Bp];simp only [Bool.not_false,Y];rw [show eR n S (k:Int) false (UInt8.ofNat (Int.toNat 42))=_ from g,az (fun q=>bt.1 (q1.1 q))]
     simp only [Z,da];rw [show eR n S (k:Int) false (UInt8.ofNat (Int.toNat 43))=_ from p,az (fun q=>bt.2.1 (q2.1 q))]
     simp only [Z,da];rw [show eR n S (k:Int) false (UInt8.ofNat (Int.toNat 63))=_ from e3,az (fun q=>bt.2.2 (q3.1 q))]
     rfl
    ·rename_i hc
     obtain⟨t',a',u,ad,e4⟩:=ih _ _ _ h d S (k+1) hS (by omega) (drop_tail hd) (by omega) trivial ⟨by simp,by simpa using eW bd⟩
     refine⟨t',a',u,ad,cI.step base e4 fun n m ⟨g,p,e3⟩ e4=> ?_⟩
     rw [Bp];simp only [Bool.not_false,Y];rw [show eR n S (k:Int) false (UInt8.ofNat (Int.toNat 42))=_ from g];simp only [Z,wk (show k≤1000 by omega),kY]
     by_cases c1:c.toNat=42
     ·rw [aB (q1.2 c1)]
      have:gI c=8:=by unfold gI;rw [if_pos c1]
      rw [this]at e4;exact e4
     rw [az (fun q=>c1 (q1.1 q))]
     simp only [da];rw [show eR n S (k:Int) false (UInt8.ofNat (Int.toNat 43))=_ from p];simp only [Z,wk (show k≤1000 by omega)]
     by_cases c2:c.toNat=43
     ·rw [aB (q2.2 c2)]
      have:gI c=9:=by unfold gI;rw [if_neg c1,if_pos c2]
      rw [this]at e4;exact e4
     rw [az (fun q=>c2 (q2.1 q))]
     simp only [da];rw [show eR n S (k:Int) false (UInt8.ofNat (Int.toNat 63))=_ from e3];simp only [Z,wk (show k≤1000 by omega)]
     by_cases c3:c.toNat=63
     ·rw [aB (q3.2 c3)]
      have:gI c=10:=by unfold gI;rw [if_neg c1,if_neg c2,if_pos c3]
      rw [this]at e4;exact e4
     exfalso
     apply hc
     unfold gI;rw [if_neg c1,if_neg c2,if_neg c3]
  |atom=>
   obtain⟨cp, -⟩:=a8;have cr:=h;cases s with
   |nil=>exact absurd rfl cp
   |cons c rr=>
    obtain⟨ao,bf⟩:=Bv hd;simp only [List.length_cons]at hs a7;have aq:S.drop (k+1)=rr:=drop_tail hd;by_cases ct:40<d
    ·refine⟨leaf 0 0,k,true,.inr ⟨rfl,sK.mono cr (by simpa using hs) ⟨by simp,rfl⟩ trivial (.inr (by simp only [List.length_cons];omega))⟩,W.succ (W.of fun n=> ?_)⟩
     rw [Qd,hJ (show ¬(S.length:Int)≤(k:Int) by omega),ez (show (40:Int)<(d:Int) by omega)]
     rfl
    have i: ∀n,uV (n+1) S k false d=_:=fun n=>by
     rw [Qd,hJ (show ¬(S.length:Int)≤(k:Int) by omega),hJ (show ¬(40:Int)<(d:Int) by omega),de ao,bf,wk (show k≤1000 by omega)]
    simp only [iP]at h;split at h
    ·rename_i hc
     simp only [Option.bind_eq_some_iff]at h;obtain⟨x,h1,h2⟩:=h;cases h2;obtain⟨a1,a2,a3⟩:=eJ _ _ _ _ _ h1 (by omega) trivial trivial
     simp only [dR]at a2;obtain⟨t,a,bad,z,g⟩:=ih _ _ _ h1 (d+1) S (k+1) hS (by omega) aq (by omega) trivial trivial
     rcases z with⟨rfl,rfl,hb,k',rfl,ah,af⟩|⟨rfl,j⟩
     ·by_cases bh:eP x.2.1 false=some 41
      ·have bj:gY x=(x.1,x.2.1.tail,false):=by
        unfold gY;rw [hb,bh];rfl
       obtain⟨-,p⟩:=fJ bh;have cy:k'<S.length:=(Bv (af.trans p)).1;refine⟨x.1,((k'+1:Nat):Int),false,.inl ⟨rfl,by rw [bj],by rw [bj],k'+1,rfl,by omega,by rw [bj];exact drop_tail af⟩,(g.and (la S k' ah 41)).nm fun n ⟨g,e3⟩=> ?_⟩
       rw [i];simp only [da,Z,bk];rw [aB (show (c.toNat:Int)=40 by omega),wk (show d≤1000 by omega)]
       simp only [Y,g,Z,eS];rw [show eR n S (k':Int) false (UInt8.ofNat (Int.toNat 41))=_ from e3,af,aB bh];simp only [Z,Bool.not_true,da,wk (show k'≤1000 by omega)]
      ·have bj:(gY x).2.2=true:=by
        unfold gY;rw [hb];split
        ·rename_i dd bw
         split
         ·rename_i hq
          exact absurd ((sL (d:=41) bw).2 hq) bh
         ·rfl
        ·rfl
       refine⟨x.1,((k'+1:Nat):Int),true,.inr ⟨rfl,.inl bj⟩,(g.and (la S k' ah 41)).nm fun n ⟨g,e3⟩=> ?_⟩
       rw [i];simp only [da,Z,bk];rw [aB (show (c.toNat:Int)=40 by omega),wk (show d≤1000 by omega)]
       simp only [Y,g,Z,eS];rw [show eR n S (k':Int) false (UInt8.ofNat (Int.toNat 41))=_ from e3,af,az bh];simp only [Z,Bool.not_false,Y,wk (show k'≤1000 by omega)]
     ·have b:sK d (gY x).2:=by
       unfold gY;split
       ·rename_i dd bw
        obtain⟨hb,p⟩:=fJ bw;split
        ·rcases j with hq|hq
         ·rw [hb]at hq;cases hq
         ·refine .inr ?_
          show x.2.1.tail.length<d;rw [p]at hq;simp only [List.length_cons]at hq;omega
        ·exact .inl rfl
       ·exact .inl rfl
      refine⟨t,wrap .i64 (a+1),true,.inr ⟨rfl,b⟩,(g.and (Jc S a 41)).nm fun n ⟨g,e3⟩=> ?_⟩
      rw [i];simp only [da,Z,bk];rw [aB (show (c.toNat:Int)=40 by omega),wk (show d≤1000 by omega)]
      simp only [Y,g,Z,eS];rw [show eR n S a true (UInt8.ofNat (Int.toNat 41))=_ from e3];rfl
    ·rename_i hc
     cases h;have ar:bo ((c.toNat:Int)=40)=false:=az (by omega)
     show ∃t a bad,Sync d S (kd c rr) t a bad∧W fun n=>uV n S k false d=some (eS t S a bad)
     unfold kd;by_cases c1:c.toNat=46
     ·rw [if_pos c1]
      refine⟨leaf 2 0,((k+1:Nat):Int),false,.inl ⟨rfl,rfl,rfl,k+1,rfl,by omega,aq⟩,W.succ (W.of fun n=> ?_)⟩
      rw [i];simp only [da,Z,bk];rw [ar,aB (show (c.toNat:Int)=46 by omega)]
      rfl
     rw [if_neg c1];have av:bo ((c.toNat:Int)=46)=false:=az (by omega)
     by_cases c2:c.toNat=94
     ·rw [if_pos c2]
      refine⟨leaf 4 0,((k+1:Nat):Int),false,.inl ⟨rfl,rfl,rfl,k+1,rfl,by omega,aq⟩,W.succ (W.of fun n=> ?_)⟩
      rw [i];simp only [da,Z,bk];rw [ar,av,aB (show (c.toNat:Int)=94 by omega)]
      rfl
     rw [if_neg c2];have ax:bo ((c.toNat:Int)=94)=false:=az (by omega)
     by_cases c3:c.toNat=36
     ·rw [if_pos c3]
      refine⟨leaf 5 0,((k+1:Nat):Int),false,.inl ⟨rfl,rfl,rfl,k+1,rfl,by omega,aq⟩,W.succ (W.of fun n=> ?_)⟩
      rw [i];simp only [da,Z,bk];rw [ar,av,ax,aB (show (c.toNat:Int)=36 by omega)]
      rfl
     rw [if_neg c3];have bm:bo ((c.toNat:Int)=36)=false:=az (by omega)
     by_cases c4:c.toNat=91
     ·rw [if_pos c4]
      obtain⟨set,nt,o,cc,a,bad,z,g⟩:=aAs S (k+1) (by omega) hS
      rw [aq]at z;refine⟨(o,cc,set,nt,[]),a,bad, ?_,g.nm fun n g=> ?_⟩
      ·rcases z with⟨h1,h2,h3,h4⟩|⟨h1,h2⟩
       ·exact .inl ⟨h1,h2.symm,h3,h4⟩
       ·exact .inr ⟨h1,.inl h2⟩
      ·rw [i]
       simp only [da,Z,bk];rw [ar,av,ax,bm,aB (show (c.toNat:Int)=91 by omega)]
       simp only [Y,da,g,Z,eS]
     rw [if_neg c4];have bp:bo ((c.toNat:Int)=91)=false:=az (by omega)
     by_cases c5:c.toNat=92
     ·rw [if_pos c5]
      cases rr with
      |nil=>
       have c9:k+1=S.length:=by simp at cf;omega
       refine⟨leaf 0 0,((k+1:Nat):Int),true,.inr ⟨rfl,.inl rfl⟩,W.succ (W.of fun n=> ?_)⟩
       rw [i];simp only [da,Z,bk];rw [ar,av,ax,bm,bp,aB (show (c.toNat:Int)=92 by omega),ez (show (S.length:Int)≤((k+1:Nat):Int) by omega)]
       rfl
      |cons dd rr=>
       obtain⟨ch,cu⟩:=Bv aq;refine⟨leaf 1 dd.toNat,((k+2:Nat):Int),false,.inl ⟨rfl,rfl,rfl,k+2,rfl,by omega,drop_tail aq⟩,W.succ (W.of fun n=> ?_)⟩
       rw [i];simp only [da,Z,bk];rw [ar,av,ax,bm,bp,aB (show (c.toNat:Int)=92 by omega),hJ (show ¬(S.length:Int)≤((k+1:Nat):Int) by omega),de ch,cu,wk (show k+1≤1000 by omega)]
       simp only [Y,da,Z,qI,eS,leaf]
     rw [if_neg c5];have cj:bo ((c.toNat:Int)=92)=false:=az (by omega)
     by_cases c6:c.toNat=42∨c.toNat=43∨c.toNat=63
     ·rw [if_pos c6]
      refine⟨leaf 1 c.toNat,((k+1:Nat):Int),true,.inr ⟨rfl,.inl rfl⟩,W.succ (W.of fun n=> ?_)⟩
      rw [i];simp only [da,Z,bk];rw [ar,av,ax,bm,bp,cj];simp only [da,qI,eS,leaf];rcases c6 with c6|c6|c6
      ·rw [aB (P:=(c.toNat:Int)=42) (by omega)];rfl
      ·rw [az (P:=(c.toNat:Int)=42) (by omega),aB (P:=(c.toNat:Int)=43) (by omega)];rfl
      ·rw [az (P:=(c.toNat:Int)=42) (by omega),az (P:=(c.toNat:Int)=43) (by omega),aB (P:=(c.toNat:Int)=63) (by omega)];rfl
     ·rw [if_neg c6]
      refine⟨leaf 1 c.toNat,((k+1:Nat):Int),false,.inl ⟨rfl,rfl,rfl,k+1,rfl,by omega,aq⟩,W.succ (W.of fun n=> ?_)⟩
      rw [i];simp only [da,Z,bk];rw [ar,av,ax,bm,bp,cj,az (P:=(c.toNat:Int)=42) (by omega),az (P:=(c.toNat:Int)=43) (by omega),az (P:=(c.toNat:Int)=63) (by omega)]
      simp only [da,qI,eS,leaf]
theorem SL {ks:List Tr} (g:ks.length≤1048576) (a0:Int) {L:Nat→Nat→Int→Int→Option (Sum Int Int)}
  (b:W fun n=> ∀m (i:Nat) (a:Int) (h:i<ks.length),L n (m+1) i a=L n m (IntKind.wrap .i64 ((i:Int)+1)) (cond (decide (a<df ks[i])) (df ks[i]) a))
  (he: ∀n m a,L n (m+1) (ks.length:Int) a=some (.inl a)):W fun n=>L n n 0 a0=some (.inl (fT a0 ks)):=by
 have:=jY (len:=ks.length) (L:=fun n m i a=>L n m (i:Int) a) (fun i a=>fT a0 ks=fT a (ks.drop i)) (fun x=>x=.inl (fT a0 ks)) ?_ ?_
 ·exact this.mono fun n h=>by
   obtain⟨x,d,f⟩:=h a0 (by simp)
   rw [←f];exact d
 ·refine b.mono fun n h m i a hi hinv=>.inr ⟨cond (decide (a<df ks[i])) (df ks[i]) a, ?_, ?_⟩
  ·have h:=h m i a hi
   rw [←dx hi (by omega)];exact h
  ·rw [hinv,List.drop_eq_getElem_cons hi,fT]
 ·refine W.of fun n m a hinv=>⟨_,he n m a, ?_⟩
  rw [hinv,List.drop_eq_nil_of_le (Nat.le_refl _),fT]
theorem Jf (t:Tr):df t=IntKind.wrap .i64 (fT 0 (dM t)+1):=by
 cases t;rw [df];rfl
theorem aAw (n:Nat) (a b:Int):qu (n+1) a b=some (cond (decide (a<b)) b a):=by
 rw [Qj];by_cases h:b<a
 ·rw [ez h,hJ (by omega)];rfl
 ·rw [hJ h]
  by_cases k:a<b
  ·rw [ez k];rfl
  ·rw [hJ k,show a=b by omega];rfl
theorem Jg {t:Tr} (h:gZ t):(W fun n=>zV n (aE t).1 (aE t).2.1 (aE t).2.2.1 (aE t).2.2.2.1 (aE t).2.2.2.2=some (df t))∧
  (W fun n=>uW n (aE t).1 (aE t).2.1 (aE t).2.2.1 (aE t).2.2.2.1 (aE t).2.2.2.2=some (df t)):=by
 induction h with
 |mk d hk ih=>
  rename_i t;constructor
  ·have k:=SL (ks:=dM t) (by omega) 0 (L:=fun n m i a=>vL n m i a (dM t) (dM t).length) ((W.all (dM t) fun x b=>(ih x b).1).mono fun n h m i a hi=>by
    rw [Re,bu hi,lY hi];simp only [Y,Z,h _ (List.getElem_mem hi)]) (fun n m a=>by rw [Re,cp];rfl)
   refine k.nm fun n e=> ?_
   rw [atA,Jf,show vL n n 0 0 (aE t).2.2.2.2 (aE t).2.2.2.2.length=_ from e];rfl
  ·have k:=SL (ks:=dM t) (by omega) 0 (L:=fun n m i a=>uX n m (aE t).1 (aE t).2.1 (aE t).2.2.1 (aE t).2.2.2.1 (dM t) i a) (((W.all (dM t) fun x b=>(ih x b).2).and (W.ge 1)).mono fun n ⟨h,f⟩ m i a hi=>by
    obtain⟨n,rfl⟩: ∃q,n=q+1:=⟨n-1,by omega⟩
    rw [Qi,bu hi,lY hi];simp only [Y,Z,h _ (List.getElem_mem hi),aAw]) (fun n m a=>by rw [Qi,cp];rfl)
   refine k.nm fun n e=> ?_
   rw [apF,Jf,show uX n n (aE t).1 (aE t).2.1 (aE t).2.2.1 (aE t).2.2.2.1 (aE t).2.2.2.2 0 0=_ from e];rfl
theorem Jh (s:O) (b:s.length≤60): ∃r,iP 1000 .pat s false=some r:=
 Yw 1000 .pat s false (by simp only [ft];omega) b trivial trivial
theorem Bw {s:O} (b:s.length≤60) {r} (h:iP 1000 .pat s false=some r):gJ s=if r.2.2=false∧r.2.1=[]∧df (cP r.1)≤12 then(r.1.1,r.1.2.1,r.1.2.2.1,r.1.2.2.2.1,r.1.2.2.2.2,true)else(0,0,[],false,[],false):=by
 unfold gJ;rw [if_pos b,h]
theorem Ji {s:O} (b: ¬s.length≤60):gJ s=(0,0,[],false,[],false):=by
 unfold gJ;rw [if_neg b]
theorem SM (s:O):W fun n=>zP n s=some (gJ s):=by
 by_cases b:s.length≤60
 ·obtain⟨r,h⟩:=Jh s b
  have k1:W fun n=>vJ n s false=some (flat r):=aAq _ _ _ _ _ h b trivial trivial
  have d:=(eJ _ _ _ _ _ h b trivial trivial).1;have k2:=(Jg (eW d)).1;rw [Nh]at k2;refine(k1.and k2).nm fun n ⟨f,g⟩=> ?_
  rw [QZ,hJ (by omega),f,Bw b h]
  simp only [da,Z,flat,g,bR];by_cases c:r.2.2=false∧r.2.1=[]∧df (cP r.1)≤12
  ·rw [if_pos c,c.1,c.2.1,az (P:=12<df (cP r.1)) (by omega)]
   rfl
  ·rw [if_neg c]
   cases i:r.2.2
   ·simp only [da]
    cases j:r.2.1 with
    |nil=>
     rw [aB (P:=12<df (cP r.1)) (by
      rcases Classical.em (12<df (cP r.1))with q|q
      ·exact q
      ·exact absurd ⟨i,j,by omega⟩ c)]
     rfl
    |cons a l=>rfl
   ·rfl
 ·refine W.succ (W.of fun n=> ?_)
  rw [QZ,ez (by omega),Ji b]
  rfl
theorem SN (s:O):W fun n=>uR n s=some (gJ s):=by
 by_cases d:s.length≤60
 ·obtain⟨r,h⟩:=Jh s d
  obtain⟨t,a,bad,g,k1⟩:=aAv _ _ _ _ h 0 s 0 d (Nat.zero_le _) rfl (by omega) trivial trivial
  have i:=(eJ _ _ _ _ _ h d trivial trivial).1;have k2:=(Jg (eW i)).2;rw [Nh]at k2;have k1:W fun n=>uT n s 0 false 0=some (eS t s a bad):=k1
  rcases g with⟨rfl,rfl,j,k',rfl,p,f⟩|⟨rfl,b⟩
  ·refine(k1.and k2).nm fun n ⟨k,u⟩=> ?_
   rw [IF,hJ (by omega),k,Bw d h]
   simp only [da,Z,eS,u,bR,cq];by_cases c:r.2.2=false∧r.2.1=[]∧df (cP r.1)≤12
   ·have:k'=s.length:=by
     have:=congrArg List.length (f.trans c.2.1);simp at this
     omega
    rw [if_pos c,az (P:=12<df (cP r.1)) (by omega),az (P:= ¬_=_) (by omega)]
    rfl
   ·rw [if_neg c]
    by_cases m:r.2.1=[]
    ·rw [aB (P:=12<df (cP r.1)) (by
      rcases Classical.em (12<df (cP r.1))with q|q
      ·exact q
      ·exact absurd ⟨j,m,by omega⟩ c)]
     cases bo (¬(k':Int)=(s.length:Int))<;>rfl
    ·have:k'≠s.length:=by
      intro q;apply m
      rw [←f,q,List.drop_eq_nil_of_le (Nat.le_refl _)]
     rw [aB (P:= ¬_=_) (by omega)]
     rfl
  ·refine k1.nm fun n k=> ?_
   have j:r.2.2=true:=by
    rcases b with q|q
    ·exact q
    ·exact absurd q (by omega)
   rw [IF,hJ (by omega),k,Bw d h,if_neg (by rw [j];simp)]
   rfl
 ·refine W.succ (W.of fun n=> ?_)
  rw [IF,ez (by omega),Ji d]
  rfl
theorem Jj (a b:Nat) (h:a+b≤4000000000):wrap .i64 ((a:Int)+(b:Int))=((a+b:Nat):Int):=by rw [IntKind.wrap_i64];omega
theorem mb (a:Nat) (h:a≤4000000000):wrap .i64 ((a:Int)+(1:Int))=((a+1:Nat):Int):=by rw [IntKind.wrap_i64];omega
theorem aAx (a:Nat) (h:a≤4000000000):wrap .i64 ((1:Int)+(a:Int))=((1+a:Nat):Int):=by rw [IntKind.wrap_i64];omega
theorem SO {a b:Nat} (h:a=b):((a:Int)==(b:Int))=true:=by rw [h];simp
theorem SP {a b:Nat} (h: ¬a=b):((a:Int)==(b:Int))=false:=by
 rw [beq_eq_false_iff_ne];omega
theorem mc {a:Nat} {b:Int} (h:(a:Int)=b):((a:Int)==b)=true:=by rw [h];simp
theorem kq {a:Nat} {b:Int} (h: ¬(a:Int)=b):((a:Int)==b)=false:=by
 rw [beq_eq_false_iff_ne];exact h
def gy (c x:UInt8):Bool:=decide (x.toNat=c.toNat)
theorem SQ (n:Nat) (c:UInt8): ∀(l:O) (m:Nat),l.length<m→Ae n m l c=some (.inl (l.dropWhile (gy c)))
 | [],m,h=>by
  obtain⟨m,rfl⟩: ∃m',m=m'+1:=⟨m-1,by omega⟩
  rw [Rm];rfl
 |a::l,m,h=>by
  obtain⟨m,rfl⟩: ∃m',m=m'+1:=⟨m-1,by omega⟩
  simp only [List.length_cons]at h;have d:bE (a::l) (0:Int)=some a:=rfl;have f:((a::l).drop 1).take ((a::l).length-1)=l:=by simp
  rw [Rm,d,ez (by simp only [List.length_cons];omega),List.dropWhile_cons]
  simp only [Y,Z,dQ,f];by_cases b:a.toNat=c.toNat
  ·rw [SO b,ez (by simp only [List.length_cons];omega),if_pos (show gy c a=true from ez b)]
   exact SQ n c l m (by omega)
  ·rw [SP b,if_neg (by unfold gy;simpa using b)]
   rfl
theorem SR (s:O) (c:UInt8):W fun n=>Ad n s c=some (s.dropWhile (gy c)):=by
 refine(W.ge (s.length+1)).nm fun n b=> ?_
 rw [atU,dQ,SQ n c s n (by omega)]
 rfl
theorem SS (s:O) (c:UInt8) (h:c.toNat<128):W fun n=>Ac n s [c]=some (s.dropWhile (gy c)):=by
 refine(SR s c).nm fun n e=> ?_
 have b:bE ([c]:O) (0:Int)=some c:=rfl;have d:(([c]:O)==[])=false:=rfl;have f:((([c]:O).length:Int)==(1:Int))=true:=rfl;rw [atT,b,d,f];cases s with
 |nil=>rfl
 |cons a l=>
  have g:((a::l:O)==[])=false:=rfl;rw [g];simp only [da,Y,Z,dQ,e];rw [ez (by omega)]
  rfl
def oU (c:UInt8) (l:O):O:=(l.reverse.dropWhile (gy c)).reverse
theorem aAy (c:UInt8) (l:O) (b:UInt8):oU c (l++[b])=if b.toNat=c.toNat then oU c l else l++[b]:=by
 unfold oU;simp only [List.reverse_append,List.reverse_cons,List.reverse_nil,List.nil_append,List.singleton_append,List.dropWhile_cons];by_cases h:b.toNat=c.toNat
 ·rw [if_pos h,if_pos (show gy c b=true from ez h)]
 ·rw [if_neg h,if_neg (by unfold gy;simpa using h)]
  simp
theorem SU (n:Nat) (c:UInt8): ∀(k:Nat) (l:O) (m:Nat),l.length=k→k<m→k≤1000000→vQ n m l c=some (.inl (oU c l))
 |0,l,m,d,hm,_=>by
  obtain⟨m,rfl⟩: ∃m',m=m'+1:=⟨m-1,by omega⟩
  obtain rfl:=List.length_eq_zero_iff.1 d;rw [Bs];rfl
 |k+1,l,m,d,hm,hk=>by
  obtain⟨m,rfl⟩: ∃m',m=m'+1:=⟨m-1,by omega⟩
  obtain⟨l',b,rfl⟩: ∃l' b,l=l'++[b]:=by
   have f:l≠ []:=by intro e;rw [e]at d;cases d
   exact⟨l.dropLast,l.getLast f,(List.dropLast_concat_getLast f).symm⟩
  simp only [List.length_append,List.length_cons,List.length_nil]at d;have hw:wrap .i64 (((l'++[b]).length:Int)-(1:Int))=(l'.length:Int):=by
   simp only [List.length_append,List.length_cons,List.length_nil];rw [IntKind.wrap_i64];omega
  have h:bE (l'++[b]) (l'.length:Int)=some b:=by
   rw [de (by simp)]
   simp
  rw [Bs,ez (by simp only [List.length_append,List.length_cons,List.length_nil];omega),hw,h,aAy]
  simp only [Y,Z,dQ];by_cases g:b.toNat=c.toNat
  ·have e:(l'++[b]).take ((Int.toNat (l'.length:Int))-0)=l':=by simp
   rw [SO g,if_pos g,ez (by simp only [List.length_append,List.length_cons,List.length_nil];omega),e]
   exact SU n c k l' m (by omega) (by omega) (by omega)
  ·rw [SP g,if_neg g]
   rfl
theorem SV {p:UInt8→Bool}: ∀l:O,(∀x∈l.dropWhile p,p x=true)↔ ∀x∈l,p x=true
 | []=>Iff.rfl
 |a::l=>by
  rw [List.dropWhile_cons];by_cases h:p a=true
  ·rw [if_pos h,SV l]
   constructor
   ·intro k x b
    rcases List.mem_cons.1 b with rfl|b
    ·exact h
    ·exact k x b
   ·exact fun k x b=>k x (by simp [b])
  ·rw [if_neg h]
theorem SW {p:UInt8→Bool}: ∀l:O,l.dropWhile p=[]↔ ∀x∈l,p x=true
 | []=>by simp
 |a::l=>by
  rw [List.dropWhile_cons];by_cases h:p a=true
  ·rw [if_pos h,SW l]
   constructor
   ·intro k x b
    rcases List.mem_cons.1 b with rfl|b
    ·exact h
    ·exact k x b
   ·exact fun k x b=>k x (by simp [b])
  ·rw [if_neg h]
   constructor
   ·intro k;cases k
   ·exact fun k=>absurd (k a (by simp)) h
theorem aAz (s:O) (d:s.length≤1000000):W fun n=>(Hn n s [32]).bind (fun y=>some (!(y==([]:O))))=some (!bo (∀c∈s,c.toNat=32)):=by
 have f:W fun n=>vP n s 32=some (oU 32 s):=(W.ge (s.length+1)).nm fun n q=>by
  rw [Rp,dQ,SU n 32 _ s n rfl (by omega) d]
  rfl
 refine(f.and (SR (oU 32 s) 32)).nm fun n ⟨e,g⟩=> ?_
 have h:bE ([32]:O) (0:Int)=some 32:=rfl;have i:(([32]:O)==[])=false:=rfl;have j:((([32]:O).length:Int)==(1:Int))=true:=rfl;have k:decide (((32:UInt8).toNat:Int)<(128:Int))=true:=by decide
 rw [atX,h,i,j];cases s with
 |nil=>rw [aB (by simp)];rfl
 |cons a l=>
  have m:((a::l:O)==[])=false:=rfl;have p:((oU 32 (a::l)).dropWhile (gy 32)=[])↔ ∀c∈(a::l),c.toNat=32:=by
   rw [SW];unfold oU;have:(∀x∈((a::l).reverse.dropWhile (gy 32)).reverse,gy 32 x=true)↔ ∀x∈(a::l).reverse.dropWhile (gy 32),gy 32 x=true:=by simp only [List.mem_reverse]
   rw [this,SV];simp only [List.mem_reverse];have b:gy 32=fv:=rfl;rw [b];simp only [fv,decide_eq_true_eq]
  rw [m];simp only [da,Y,Z,dQ,e,g,k];rw [bk,propext p]
theorem aAA (s:O) (k:Nat) (hk:k≤s.length) (q:s.length≤1048576):W fun n=>nc n s (k:Int)=some (((s.drop k).takeWhile bp).length:Int):=by
 have d: ∀i:Nat,i≤s.length→wrap .i64 ((k:Int)+(i:Int))=((k+i:Nat):Int):=fun i hi=>by rw [IntKind.wrap_i64];omega
 have h:=Ng (l:=s.drop k) (β:=Int) (by simp;omega) (p:=bp) (L:=fun n m i=>vO n m i k s) (W.of fun n m i hi=>by
  have b:k+i<s.length:=by simp at hi;omega
  rw [Rn,d i (by omega),bu b,de b]
  simp only [Y,Z,List.getElem_drop];unfold bp;by_cases f:48≤(s[k+i]).toNat
  ·rw [ez (show (48:Int)≤((s[k+i]).toNat:Int) by omega)]
   by_cases g:(s[k+i]).toNat≤57
   ·rw [ez (show ((s[k+i]).toNat:Int)≤(57:Int) by omega),ez ⟨f,g⟩]
    rfl
   ·rw [hJ (show ¬((s[k+i]).toNat:Int)≤(57:Int) by omega),hJ (p:=48≤(s[k+i]).toNat∧(s[k+i]).toNat≤57) (fun h=>g h.2)]
    rfl
  ·rw [hJ (show ¬(48:Int)≤((s[k+i]).toNat:Int) by omega),hJ (p:=48≤(s[k+i]).toNat∧(s[k+i]).toNat≤57) (fun h=>f h.1)]
   rfl) (fun n m=>by
   have j:(k+(s.drop k).length)=s.length:=by simp;omega
   rw [Rn,d _ (by simp),j,cp];rfl)
 refine h.nm fun n h=> ?_
 rw [atV];rw [show vO n n (0:Int) k s=_ from h];rfl
theorem aAB (n:Nat) (s:O):OP (n+1) s=cond (Nat.ble s.length 18) ((Lib.atoi s).map fun x=>(x,false)) none:=by kernel_rfl
theorem aAC {α β:Type} (p:α×β):(some p).bind (fun y=>some (y.1,y.2))=some p:=by cases p;rfl
def ek (w q:O):Nat:=cU w*1000000+dI 100000 q
theorem SX (w q:O):cU w*1000000+dI 100000 q=ek w q:=by unfold ek;exact Eq.refl _
theorem mM {n:Nat} (h:n≤4000000000):Nat.ble n mx=true:=Nat.ble_eq_true_of_le (by unfold mx;omega)
theorem aAD (k:Nat):W fun n=>qA n (k:Int)=some (if 9000000000000<k then((0:Int),false)else((k:Int),true)):=by
 have b:W fun n=>ib n (k:Int)=some (decide (k≤9000000000000)):=W.succ (W.succ (W.of fun n=>by
  rw [IP,oP,ez (by omega)]
  simp only [Y,Z];congr 1
  rw [bR,bR];exact mO (by omega)))
 refine b.nm fun n e=> ?_
 rw [Ro,e];simp only [Z];by_cases h:9000000000000<k
 ·rw [if_pos h,hJ (by omega)];rfl
 ·rw [if_neg h,ez (by omega)];rfl
theorem SY (w q:O) (hw: ∀c∈w,bp c=true) (f: ∀c∈q,bp c=true) (j:q.length≤1000):W fun n=>jH n w q=some (if 9000000000000<ek w q then((0:Int),false)else((ek w q:Int),true)):=by
 refine(((SS w 48 (by decide)).and (aAD (ek w q))).and (W.ge 1)).nm fun n ⟨⟨g,i⟩,k⟩=> ?_
 have d0:w.dropWhile (gy 48)=w.dropWhile iB:=rfl;rw [atW,g,d0];simp only [Z];rw [mM (by omega),ez (by refine⟨by omega, ?_⟩;simp only [List.length_append,List.length_cons,List.length_nil];omega)]
 simp only [Y];by_cases h:7<(w.dropWhile iB).length
 ·have:=Nz w hw h
  rw [ez (by omega),if_pos (by unfold ek;omega)]
  rfl
 ·obtain⟨n,rfl⟩: ∃m,n=m+1:=⟨n-1,by omega⟩
  have b:((q++([48,48,48,48,48,48]:O)).take (6-0)).length=6:=by simp
  have d:(q++([48,48,48,48,48,48]:O)).take (6-0)=(q++fg 6).take 6:=rfl;rw [hJ (by omega),mM (by omega),mM (by rw [b];simp only [List.length_append,List.length_cons,List.length_nil];omega),aAB,d,YC w q hw f]
  rw [show Nat.ble ((([48]:O)++w.dropWhile iB)++(q++fg 6).take 6).length 18=true from Nat.ble_eq_true_of_le (by
   rw [←d,List.length_append,b];simp only [List.length_append,List.length_cons,List.length_nil];omega)]
  simp only [Y,da,Option.map_some,Z];rw [SX,i];exact aAC _
theorem SZ {p:UInt8→Bool} (l:O):l.take (l.takeWhile p).length=l.takeWhile p:=by
 induction l with
 |nil=>rfl
 |cons a l ih=>
  rw [List.takeWhile_cons];by_cases h:p a=true
  ·rw [if_pos h,List.length_cons,List.take_succ_cons,ih]
  ·rw [if_neg h];rfl
theorem aAE {p:UInt8→Bool} (l:O):(l.takeWhile p).length+(l.dropWhile p).length=l.length:=by
 have:=congrArg List.length (List.takeWhile_append_dropWhile (p:=p) (l:=l));rwa [List.length_append]at this
def dY (s:O) (j:Nat):O:=match s.drop j with
 |c::t=>if c.toNat=46 then t.takeWhile bp else []
 | []=>[]
theorem Jk (s:O) (k:Nat) (neg:Bool):jC s k neg=
  (let w:=(s.drop k).takeWhile bp
   let q:=dY s (k+w.length)
   if w=[]∧q=[]then(0,0)else if 9000000000000<ek w q then(0,0)else(cond neg (-(ek w q:Int)) (ek w q:Int),((k+w.length+(if q=[]then 0 else 1+q.length):Nat):Int))):=by
 simp only [←SX];exact Eq.refl _
theorem sM {s:O} {j:Nat} (h:j<s.length) (b:(s[j]).toNat=46):dY s j=(s.drop (j+1)).takeWhile bp:=by
 unfold dY;rw [List.drop_eq_getElem_cons h];simp only [if_pos b]
theorem wD {s:O} {j:Nat} (h: ∀h:j<s.length,¬(s[j]).toNat=46):dY s j=[]:=by
 unfold dY;by_cases hj:j<s.length
 ·rw [List.drop_eq_getElem_cons hj]
  simp only [if_neg (h hj)]
 ·rw [List.drop_eq_nil_of_le (by omega)]
theorem Ta (s:O) (j:Nat): ∀c∈dY s j,bp c=true:=by
 by_cases h: ∃h:j<s.length,(s[j]).toNat=46
 ·obtain⟨h,b⟩:=h
  rw [sM h b];exact DX _
 ·rw [wD (fun hj b=>h ⟨hj,b⟩)]
  intro c b;cases b
theorem qJ (s:O) (k:Nat) (hk:k≤s.length):k+((s.drop k).takeWhile bp).length≤s.length:=by
 have:=mP bp (s.drop k);simp at this
 omega
theorem aAF (l:O):(l==([]:O))=decide (l=[]):=by
 cases l<;>rfl
theorem Bx {s:O} (hs:s.length≤300) {n:Nat}
  (hD: ∀k,k<s.length+1→nc n s (k:Int)=some (((s.drop k).takeWhile bp).length:Int))
  (hM: ∀k,k<s.length+1→jH n ((s.drop k).takeWhile bp) []=some (if 9000000000000<ek ((s.drop k).takeWhile bp) []then((0:Int),false)else((ek ((s.drop k).takeWhile bp) []:Int),true)))
  (ah: ∀k,k<s.length+1→jH n ((s.drop k).takeWhile bp) (dY s (k+((s.drop k).takeWhile bp).length))=some (if 9000000000000<ek ((s.drop k).takeWhile bp) (dY s (k+((s.drop k).takeWhile bp).length))then((0:Int),false)else((ek ((s.drop k).takeWhile bp) (dY s (k+((s.drop k).takeWhile bp).length)):Int),true)))
  {k:Nat} (hk:k≤s.length) (neg:Bool) (fin:Int→Int→Option (Int×Int)) (u: ∀(x k:Nat),x≤9000000000000→fin x k=some (cond neg (-(x:Int)) (x:Int),(k:Int))):
  ((nc n s (k:Int)).bind fun(d:Int)=>cond (decide ((0:Int)≤(k:Int)∧(k:Int)≤(wrap .i64 ((k:Int)+d))∧(wrap .i64 ((k:Int)+d))≤(s.length:Int)))
   ((cond (decide ((wrap .i64 ((k:Int)+d))<(s.length:Int))) ((bE s (wrap .i64 ((k:Int)+d))).bind fun(z:UInt8)=>some (((z).toNat:Int)==(46:Int))) (some false):Option Bool).bind fun(ai:Bool)=>cond ai
    ((nc n s (wrap .i64 ((wrap .i64 ((k:Int)+d))+(1:Int)))).bind fun(g:Int)=>cond (decide ((0:Int)<g))
     (cond (decide ((0:Int)≤(wrap .i64 ((wrap .i64 ((k:Int)+d))+(1:Int)))∧(wrap .i64 ((wrap .i64 ((k:Int)+d))+(1:Int)))≤(wrap .i64 ((wrap .i64 ((wrap .i64 ((k:Int)+d))+(1:Int)))+g))∧(wrap .i64 ((wrap .i64 ((wrap .i64 ((k:Int)+d))+(1:Int)))+g))≤(s.length:Int)))
      ((cond (((s.drop (Int.toNat (k:Int))).take ((Int.toNat (wrap .i64 ((k:Int)+d)))-(Int.toNat (k:Int))):O)==([]:O)) (some (((s.drop (Int.toNat (wrap .i64 ((wrap .i64 ((k:Int)+d))+(1:Int))))).take ((Int.toNat (wrap .i64 ((wrap .i64 ((wrap .i64 ((k:Int)+d))+(1:Int)))+g)))-(Int.toNat (wrap .i64 ((wrap .i64 ((k:Int)+d))+(1:Int))))):O)==([]:O))) (some false):Option Bool).bind fun(i:Bool)=>cond i (some (((0:Int),(0:Int)):(Int×Int)))
       ((jH n ((s.drop (Int.toNat (k:Int))).take ((Int.toNat (wrap .i64 ((k:Int)+d)))-(Int.toNat (k:Int)))) ((s.drop (Int.toNat (wrap .i64 ((wrap .i64 ((k:Int)+d))+(1:Int))))).take ((Int.toNat (wrap .i64 ((wrap .i64 ((wrap .i64 ((k:Int)+d))+(1:Int)))+g)))-(Int.toNat (wrap .i64 ((wrap .i64 ((k:Int)+d))+(1:Int))))))).bind fun(r:(Int×Bool))=>cond (!r.2) (some (((0:Int),(0:Int)):(Int×Int))) (fin r.1 (wrap .i64 ((wrap .i64 ((k:Int)+d))+(wrap .i64 ((1:Int)+g)))))))
      none)
     ((cond (((s.drop (Int.toNat (k:Int))).take ((Int.toNat (wrap .i64 ((k:Int)+d)))-(Int.toNat (k:Int))):O)==([]:O)) (some true) (some false):Option Bool).bind fun(i:Bool)=>cond i (some (((0:Int),(0:Int)):(Int×Int)))
      ((jH n ((s.drop (Int.toNat (k:Int))).take ((Int.toNat (wrap .i64 ((k:Int)+d)))-(Int.toNat (k:Int)))) ([]:O)).bind fun(r:(Int×Bool))=>cond (!r.2) (some (((0:Int),(0:Int)):(Int×Int))) (fin r.1 (wrap .i64 ((k:Int)+d))))))
    ((cond (((s.drop (Int.toNat (k:Int))).take ((Int.toNat (wrap .i64 ((k:Int)+d)))-(Int.toNat (k:Int))):O)==([]:O)) (some true) (some false):Option Bool).bind fun(ad:Bool)=>cond ad (some (((0:Int),(0:Int)):(Int×Int)))
     ((jH n ((s.drop (Int.toNat (k:Int))).take ((Int.toNat (wrap .i64 ((k:Int)+d)))-(Int.toNat (k:Int)))) ([]:O)).bind fun(i:(Int×Bool))=>cond (!i.2) (some (((0:Int),(0:Int)):(Int×Int))) (fin i.1 (wrap .i64 ((k:Int)+d))))))
   none)=some (jC s k neg):=by
 have hw:=qJ s k hk;rw [hD k (by omega),Jk]
 simp only [Z];have m0:=hM k (by omega)
 have m2:=ah k (by omega)
 have t1:(s.drop k).take (((s.drop k).takeWhile bp).length)=(s.drop k).takeWhile bp:=SZ _;revert hw m0 m2 t1
 generalize (s.drop k).takeWhile bp=w
 intro hw m0 m2 t1;have a1:wrap .i64 ((k:Int)+(w.length:Int))=((k+w.length:Nat):Int):=Jj _ _ (by omega)
 have a2:wrap .i64 (((k+w.length:Nat):Int)+1)=((k+w.length+1:Nat):Int):=mb _ (by omega)
 simp only [a1,a2,Int.toNat_natCast,Nat.add_sub_cancel_left,t1,m0,Z,aAF];rw [ez (p:=(0:Int)≤(k:Int)∧_) (by omega)]
 simp only [Y];have base:dY s (k+w.length)=[]→((cond (decide (w=[])) (some true) (some false):Option Bool).bind fun(ad:Bool)=>cond ad (some (((0:Int),(0:Int)):(Int×Int)))
   (cond (!(if 9000000000000<ek w []then((0:Int),false)else((ek w []:Int),true)).2) (some (((0:Int),(0:Int)):(Int×Int))) (fin (if 9000000000000<ek w []then((0:Int),false)else((ek w []:Int),true)).1 ((k+w.length:Nat):Int))))=
   some (if w=[]∧dY s (k+w.length)=[]then(0,0)else if 9000000000000<ek w (dY s (k+w.length))then(0,0)else(cond neg (-(ek w (dY s (k+w.length)):Int)) (ek w (dY s (k+w.length)):Int),((k+w.length+(if dY s (k+w.length)=[]then 0 else 1+(dY s (k+w.length)).length):Nat):Int))):=by
  intro hq;rw [hq];by_cases t:w=[]
  ·rw [ez t,if_pos (c:=w=[]∧([]:O)=[]) ⟨t,rfl⟩,Y,Z,Y]
  ·rw [hJ t,if_neg (c:=w=[]∧([]:O)=[]) (fun h=>t h.1)]
   simp only [da,Z];by_cases hx:9000000000000<ek w []
   ·simp only [if_pos hx,Bool.not_false,Y]
   ·simp only [if_neg hx,Bool.not_true,da]
    rw [u _ _ (Nat.le_of_not_lt hx),if_pos trivial,Nat.add_zero]
 by_cases hd: ∃h:k+w.length<s.length,(s[k+w.length]).toNat=46
 ·obtain⟨f,hc⟩:=hd
  rw [bu f,de f];simp only [Y,Z];rw [mc (b:=46) (by omega)]
  simp only [Y];have aj:=sM f hc;have hq:=qJ s (k+w.length+1) (by omega)
  rw [hD _ (by omega)]
  have t2:(s.drop (k+w.length+1)).take (((s.drop (k+w.length+1)).takeWhile bp).length)=(s.drop (k+w.length+1)).takeWhile bp:=SZ _;rw [←aj]at hq t2 ⊢;revert hq t2 m2 base
  generalize dY s (k+w.length)=q
  intro m2 base hq t2;simp only [Z];have a3:wrap .i64 ((1:Int)+(q.length:Int))=((1+q.length:Nat):Int):=aAx _ (by omega)
  have a4:wrap .i64 (((k+w.length:Nat):Int)+((1+q.length:Nat):Int))=((k+w.length+(1+q.length):Nat):Int):=Jj _ _ (by omega)
  have a5:wrap .i64 (((k+w.length+1:Nat):Int)+(q.length:Int))=((k+w.length+1+q.length:Nat):Int):=Jj _ _ (by omega)
  simp only [a3,a4,a5,Int.toNat_natCast,Nat.add_sub_cancel_left,t2,m2,Z];by_cases m:q=[]
  ·have:=base m
   subst m;rw [hJ (by simp),da]
   exact this
  ·have hlen:0<q.length:=List.length_pos_iff.2 m
   rw [ez (p:=(0:Int)<(q.length:Int)) (by omega),ez (p:=(0:Int)≤((k+w.length+1:Nat):Int)∧_) (by omega),hJ m,if_neg (c:=w=[]∧q=[]) (fun h=>m h.2)]
   have e:(cond (decide (w=[])) (some false) (some false):Option Bool)=some false:=by cases decide (w=[])<;>rfl
   simp only [Y,e,Z,da];by_cases hx:9000000000000<ek w q
   ·simp only [if_pos hx,Bool.not_false,Y]
   ·simp only [if_neg hx,if_neg m,Bool.not_true,da]
    rw [u _ _ (Nat.le_of_not_lt hx)]
 ·have hq:=wD (s:=s) (j:=k+w.length) (fun h hc=>hd ⟨h,hc⟩)
  have e:(cond (decide (((k+w.length:Nat):Int)<(s.length:Int))) ((bE s ((k+w.length:Nat):Int)).bind fun(z:UInt8)=>some (((z).toNat:Int)==(46:Int))) (some false):Option Bool)=some false:=by
   by_cases f:k+w.length<s.length
   ·rw [bu f,de f]
    simp only [Y,Z];rw [kq (b:=46) (fun hc=>hd ⟨f,by omega⟩)]
   ·rw [hJ (by omega)];rfl
  rw [e,Z,da];exact base hq
theorem Jl (s:O):lM s=match s.drop (s.takeWhile fv).length with
 |c::_=>if c.toNat=45 then jC s ((s.takeWhile fv).length+1) true else if c.toNat=43 then jC s ((s.takeWhile fv).length+1) false else jC s (s.takeWhile fv).length false
 | []=>jC s (s.takeWhile fv).length false:=rfl
theorem Tb (x:Nat) (h:x≤9000000000000):wrap .i64 ((0:Int)-(x:Int))= -(x:Int):=by rw [IntKind.wrap_i64];omega
theorem Tc (s:O) (i:s.length≤300):W fun n=>Ab n s=some (lM s):=by
 have hq: ∀j,(dY s j).length≤1000:=fun j=>by
  by_cases h: ∃h:j<s.length,(s[j]).toNat=46
  ·obtain⟨h,z⟩:=h
   rw [sM h z];have:=qJ s (j+1) (by omega)
   omega
  ·rw [wD (fun hj z=>h ⟨hj,z⟩)];simp
 have m:=W.lt (len:=s.length+1) fun k hk=>aAA s k (by omega) (by omega)
 have q:=W.lt (len:=s.length+1) fun k _=>SY ((s.drop k).takeWhile bp) [] (DX _) (by simp) (by simp)
 have h3:=W.lt (len:=s.length+1) fun k _=>SY ((s.drop k).takeWhile bp) (dY s (k+((s.drop k).takeWhile bp).length)) (DX _) (Ta _ _) (hq _)
 refine(((SS s 32 (by decide)).and m).and (q.and h3)).nm fun n ⟨⟨e1,r⟩,t,d⟩=> ?_
 have hp:wrap .i64 ((s.length:Int)-((s.dropWhile (gy 32)).length:Int))=((s.takeWhile fv).length:Int):=by
  have h:=aAE (p:=gy 32) s;have e:s.takeWhile (gy 32)=s.takeWhile fv:=rfl;rw [e]at h;rw [IntKind.wrap_i64];omega
 rw [atS,e1];simp only [Z,hp];have g:=mP fv s;rw [Jl];revert g
 generalize (s.takeWhile fv).length=p
 intro g;by_cases f:p<s.length
 ·have a1:wrap .i64 ((p:Int)+(1:Int))=((p+1:Nat):Int):=mb _ (by omega)
  rw [bu f,de f,List.drop_eq_getElem_cons f];simp only [Y,Z,a1];by_cases m:(s[p]).toNat=45
  ·rw [if_pos m,kq (a:=(s[p]).toNat) (b:=43) (by omega),mc (a:=(s[p]).toNat) (b:=45) (by omega)]
   simp only [Y,da,Z];exact Bx i r t d (k:=p+1) (by omega) true (fun x e=>some (wrap .i64 ((0:Int)-x),e)) (fun x k u=>by rw [Tb x u];rfl)
  ·rw [if_neg m,kq (a:=(s[p]).toNat) (b:=45) (by omega)]
   by_cases q:(s[p]).toNat=43
   ·rw [if_pos q,mc (a:=(s[p]).toNat) (b:=43) (by omega)]
    simp only [Y,da,Z];exact Bx i r t d (k:=p+1) (by omega) false (fun x e=>some (x,e)) (fun x k u=>rfl)
   ·rw [if_neg q,kq (a:=(s[p]).toNat) (b:=43) (by omega)]
    simp only [da,Z];exact Bx i r t d (k:=p) (by omega) false (fun x e=>some (x,e)) (fun x k u=>rfl)
 ·rw [hJ (show ¬((p:Int)<(s.length:Int)) by omega),List.drop_eq_nil_of_le (show s.length≤p by omega)]
  simp only [da,Z];exact Bx i r t d (k:=p) (by omega) false (fun x e=>some (x,e)) (fun x k u=>rfl)
theorem aAG:W fun n=> ∀c,kR n c=some (bp c):=W.succ (W.of fun n c=>by
 rw [apQ];unfold bp;by_cases b:48≤c.toNat
 ·rw [ez (show (48:Int)≤(c.toNat:Int) by omega)]
  simp only [Y,Z];congr 1
  rw [bR,bR];exact mO (by omega)
 ·rw [hJ (show ¬(48:Int)≤(c.toNat:Int) by omega),hJ (p:=48≤c.toNat∧c.toNat≤57) (fun h=>b h.1)]
  rfl)
theorem aAH (n:Nat) {s:O} (g:s.length≤300): ∀(k m i:Nat),s.length-i≤k→k<m→i≤s.length→vj n m (i:Int) s=some (.inl (s,((i+((s.drop i).takeWhile fv).length:Nat):Int))):=by
 intro k;induction k with
 |zero=>
  intro m i hk hm hi;obtain⟨m,rfl⟩: ∃m',m=m'+1:=⟨m-1,by omega⟩
  obtain rfl:i=s.length:=by omega
  rw [II,cp,List.drop_eq_nil_of_le (Nat.le_refl _)];rfl
 |succ k ih=>
  intro m i hk hm hi;obtain⟨m,rfl⟩: ∃m',m=m'+1:=⟨m-1,by omega⟩
  by_cases d:i<s.length
  ·rw [II,bu d,de d,List.drop_eq_getElem_cons d,List.takeWhile_cons]
   simp only [Y,Z];by_cases h:(s[i]).toNat=32
   ·rw [mc (a:=(s[i]).toNat) (b:=32) (by omega),if_pos (show fv s[i]=true from ez h),mb i (by omega),Y,ih m (i+1) (by omega) (by omega) (by omega)]
    have f:i+1+((s.drop (i+1)).takeWhile fv).length=i+(s[i]::(s.drop (i+1)).takeWhile fv).length:=by simp only [List.length_cons];omega
    rw [f]
   ·rw [kq (a:=(s[i]).toNat) (b:=32) (by omega),if_neg (by unfold fv;simpa using h)]
    rfl
  ·obtain rfl:i=s.length:=by omega
   rw [II,cp,List.drop_eq_nil_of_le (Nat.le_refl _)];rfl
theorem aAI {n:Nat} (hd: ∀c,kR n c=some (bp c)) {s:O} (hs:s.length≤300) (neg:Bool): ∀(k m i:Nat) (l:O) (x:Int),s.length-i≤k→k<m→i≤s.length→l.length≤i→PW l x→
  ∃g,PW (l++(s.drop i).takeWhile bp) g∧oG n m (l.length:Int) (i:Int) s x neg=some (.inl (((l++(s.drop i).takeWhile bp).length:Int),s,g,neg,((i+((s.drop i).takeWhile bp).length:Nat):Int))):=by
 intro k;induction k with
 |zero=>
  intro m i l x hk hm hi p f;obtain⟨m,rfl⟩: ∃m',m=m'+1:=⟨m-1,by omega⟩
  obtain rfl:i=s.length:=by omega
  rw [IJ,cp,List.drop_eq_nil_of_le (Nat.le_refl _),List.takeWhile_nil,List.append_nil];exact⟨x,f,rfl⟩
 |succ k ih=>
  intro m i l x hk hm hi p f;obtain⟨m,rfl⟩: ∃m',m=m'+1:=⟨m-1,by omega⟩
  by_cases b:i<s.length
  ·rw [IJ,bu b,de b,List.drop_eq_getElem_cons b,List.takeWhile_cons]
   simp only [Y,Z,dQ,hd];cases h:bp s[i]
   ·rw [if_neg (by simp),List.append_nil]
    exact⟨x,f,rfl⟩
   ·rw [if_pos rfl]
    obtain⟨g,j,d⟩:=ih m (i+1) (l++[s[i]]) _ (by omega) (by omega) (by omega) (by simp;omega) (Yz f h)
    have e:(l++[s[i]])++(s.drop (i+1)).takeWhile bp=l++(s[i]::(s.drop (i+1)).takeWhile bp):=by simp
    rw [e]at j d;have q:(((l++[s[i]]).length:Nat):Int)=((l.length+1:Nat):Int):=by simp
    refine⟨g,j, ?_⟩
    rw [q]at d;have r:i+1+((s.drop (i+1)).takeWhile bp).length=i+(s[i]::(s.drop (i+1)).takeWhile bp).length:=by simp;omega
    rw [r]at d;obtain⟨t,u,_,_⟩:=f;have hb:=(s[i]).toNat_lt;simp only [mb _ (show l.length≤4000000000 by omega),mb _ (show i≤4000000000 by omega),Y]
    by_cases hle:x≤9000000000000
    ·have c1:wrap .i64 (((s[i]).toNat:Int)-48)=((s[i]).toNat:Int)-48:=by rw [IntKind.wrap_i64];omega
     have c2:wrap .i64 ((((s[i]).toNat:Int)-48)*1000000)=(((s[i]).toNat:Int)-48)*1000000:=by rw [IntKind.wrap_i64];omega
     have z:wrap .i64 (10*x)=10*x:=by rw [IntKind.wrap_i64];omega
     have c4:wrap .i64 (10*x+(((s[i]).toNat:Int)-48)*1000000)=10*x+(((s[i]).toNat:Int)-48)*1000000:=by rw [IntKind.wrap_i64];omega
     rw [if_pos hle]at d;rw [ez hle,qI,c1,c2,z,c4];exact d
    ·rw [if_neg hle]at d
     rw [hJ hle];exact d
  ·obtain rfl:i=s.length:=by omega
   rw [IJ,cp,List.drop_eq_nil_of_le (Nat.le_refl _),List.takeWhile_nil,List.append_nil];exact⟨x,f,rfl⟩
theorem aAJ {n:Nat} (hd: ∀c,kR n c=some (bp c)) {s:O} (hs:s.length≤300) (neg:Bool): ∀(k m i a u:Nat) (x:Int),s.length-i≤k→k<m→i≤s.length→a≤i→u≤100000→0≤x→x+(dI u ((s.drop i).takeWhile bp):Int)≤1000000000000000→
  qv n m (i:Int) (a:Int) (u:Int) s x neg=some (.inl (((i+((s.drop i).takeWhile bp).length:Nat):Int),x+(dI u ((s.drop i).takeWhile bp):Int),neg,((a+((s.drop i).takeWhile bp).length:Nat):Int))):=by
 intro k;induction k with
 |zero=>
  intro m i a u x hk hm hi f hu g d;obtain⟨m,rfl⟩: ∃m',m=m'+1:=⟨m-1,by omega⟩
  obtain rfl:i=s.length:=by omega
  rw [IK,cp,List.drop_eq_nil_of_le (Nat.le_refl _),List.takeWhile_nil,dI];simp
 |succ k ih=>
  intro m i a u x hk hm hi f hu g d;obtain⟨m,rfl⟩: ∃m',m=m'+1:=⟨m-1,by omega⟩
  by_cases b:i<s.length
  ·rw [List.drop_eq_getElem_cons b,List.takeWhile_cons]at d ⊢
   rw [IK,bu b,de b];simp only [Y,Z,dQ,hd];cases h:bp s[i]
   ·rw [if_neg (by simp),dI]
    simp
   ·rw [h,if_pos rfl,dI]at d
    rw [if_pos rfl,dI];simp only [bp,decide_eq_true_eq]at h;have j:((s[i]).toNat-48)*u≤9*100000:=Nat.mul_le_mul (by omega) hu
    have ec:(((s[i]).toNat:Int)-48)=(((s[i]).toNat-48:Nat):Int):=by omega
    have c1:wrap .i64 (((s[i]).toNat:Int)-48)=(((s[i]).toNat-48:Nat):Int):=by rw [IntKind.wrap_i64];omega
    have c2:wrap .i64 ((((s[i]).toNat-48:Nat):Int)*(u:Int))=((((s[i]).toNat-48)*u:Nat):Int):=by
     rw [←Int.natCast_mul,IntKind.wrap_i64];omega
    have p:wrap .i64 (x+((((s[i]).toNat-48)*u:Nat):Int))=x+((((s[i]).toNat-48)*u:Nat):Int):=by rw [IntKind.wrap_i64];omega
    have q:wrap .i64 (Int.tdiv (u:Int) 10)=((u/10:Nat):Int):=by
     rw [show Int.tdiv (u:Int) 10=((u/10:Nat):Int)from rfl,IntKind.wrap_i64];omega
    rw [qI,c1,c2,p,q,mb i (by omega),mb a (by omega),Y,ih m (i+1) (a+1) (u/10) _ (by omega) (by omega) (by omega) (by omega) (by omega) (by omega) (by omega)]
    have r:i+1+((s.drop (i+1)).takeWhile bp).length=i+(s[i]::(s.drop (i+1)).takeWhile bp).length:=by simp;omega
    have t:a+1+((s.drop (i+1)).takeWhile bp).length=a+(s[i]::(s.drop (i+1)).takeWhile bp).length:=by simp;omega
    have z:x+((((s[i]).toNat-48)*u:Nat):Int)+(dI (u/10) ((s.drop (i+1)).takeWhile bp):Int)=x+((((s[i]).toNat-48)*u+dI (u/10) ((s.drop (i+1)).takeWhile bp):Nat):Int):=by omega
    rw [r,t,z]
  ·obtain rfl:i=s.length:=by omega
   rw [IK,cp,List.drop_eq_nil_of_le (Nat.le_refl _),List.takeWhile_nil,dI];simp
theorem Td {w q:O} {x:Int} (i:PW w x) (j: ∀c∈q,bp c=true) (neg:Bool) (e:Int) (many:Nat) (hm:many=w.length+q.length):
  ((cond ((many:Int)==(0:Int)) (some true) (some (decide ((9000000000000:Int)<x+(dI 100000 q:Int)))):Option Bool).bind fun(f:Bool)=>cond f (some (((0:Int),(0:Int)):(Int×Int))) (cond neg (some ((wrap .i64 ((0:Int)-(x+(dI 100000 q:Int))),e):(Int×Int))) (some ((x+(dI 100000 q:Int),e):(Int×Int)))))=
  some (if w=[]∧q=[]then(0,0)else if 9000000000000<ek w q then(0,0)else(cond neg (-(ek w q:Int)) (ek w q:Int),e)):=by
 have s:dI 100000 q<1000000:=DW q 5 j;obtain⟨t,u,k,m⟩:=i;by_cases hw:w=[]∧q=[]
 ·obtain⟨rfl,rfl⟩:=hw
  subst hm;rw [if_pos ⟨rfl,rfl⟩,mc (b:=0) (by simp),Y,Z,Y]
 ·have p:many≠0:=by
   intro h;apply hw
   exact⟨List.length_eq_zero_iff.1 (by omega),List.length_eq_zero_iff.1 (by omega)⟩
  rw [if_neg hw,kq (b:=0) (by omega)]
  simp only [da,Z];unfold ek;rcases Nat.lt_or_ge 9000000000000 (cU w*1000000)with d|d
  ·have:=m d
   rw [ez (by omega),if_pos (Nat.lt_of_lt_of_le d (Nat.le_add_right _ _)),Y]
  ·have:=k d
   subst this;by_cases g:9000000000000<cU w*1000000+dI 100000 q
   ·rw [ez (by omega),if_pos g,Y]
   ·have r:((cU w:Int)*1000000+(dI 100000 q:Int))=((cU w*1000000+dI 100000 q:Nat):Int):=by omega
    rw [hJ (by omega),if_neg g,r,Tb _ (Nat.le_of_not_lt g)]
    cases neg<;>simp only [Y,da]
theorem By {s:O} (hs:s.length≤300) {n:Nat} (hn:400≤n) (hd: ∀c,kR n c=some (bp c)) {k:Nat} (hk:k≤s.length) (neg:Bool):
  ((oG n n (0:Int) (k:Int) s (0:Int) neg).bind fun(af:(Sum (Int×O×Int×Bool×Int) (Int×Int)))=>ay af (fun (z44:(Int×O×Int×Bool×Int))=>(cond (decide ((wrap .i64 (z44.2.2.2.2+(1:Int)))<(z44.2.1.length:Int))) ((bE z44.2.1 z44.2.2.2.2).bind fun(j:UInt8)=>cond (((j).toNat:Int)==(46:Int)) ((bE z44.2.1 (wrap .i64 (z44.2.2.2.2+(1:Int)))).bind fun(m:UInt8)=>(kR n ((UInt8.ofNat (Int.toNat ((m).toNat:Int))):UInt8)).bind fun(p:Bool)=>some p) (some false)) (some false):Option Bool).bind fun(ag:Bool)=>cond ag ((qv n n ((wrap .i64 (z44.2.2.2.2+(1:Int))):Int) z44.1 (100000:Int) z44.2.1 z44.2.2.1 z44.2.2.2.1).bind fun(ah:(Sum (Int×Int×Bool×Int) (Int×Int)))=>ay ah (fun (z66:(Int×Int×Bool×Int))=>(cond (z66.2.2.2==(0:Int)) (some true) (some (decide ((9000000000000:Int)<z66.2.1))):Option Bool).bind fun(ai:Bool)=>cond ai (some (((0:Int),(0:Int)):(Int×Int))) (cond z66.2.2.1 (some ((wrap .i64 ((0:Int)-z66.2.1),z66.1):(Int×Int))) (some ((z66.2.1,z66.1):(Int×Int))))) (fun (aj:(Int×Int))=>some (aj:(Int×Int)))) ((cond (z44.1==(0:Int)) (some true) (some (decide ((9000000000000:Int)<z44.2.2.1))):Option Bool).bind fun(r:Bool)=>cond r (some (((0:Int),(0:Int)):(Int×Int))) (cond z44.2.2.2.1 (some ((wrap .i64 ((0:Int)-z44.2.2.1),z44.2.2.2.2):(Int×Int))) (some ((z44.2.2.1,z44.2.2.2.2):(Int×Int)))))) (fun (nj:(Int×Int))=>some (nj:(Int×Int))))=some (jC s k neg):=by
 obtain⟨x,t,e2⟩:=aAI hd hs neg s.length n k [] 0 (by omega) (by omega) hk (by simp) Yy
 rw [List.nil_append]at t e2;rw [show oG n n (0:Int) (k:Int) s (0:Int) neg=_ from e2,Jk];have hw:=qJ s k hk;revert hw t
 generalize (s.drop k).takeWhile bp=w
 intro t hw;simp only [Z,cO,mb _ (show k+w.length≤4000000000 by omega)]
 have base:dY s (k+w.length)=[]→((cond ((w.length:Int)==(0:Int)) (some true) (some (decide ((9000000000000:Int)<x))):Option Bool).bind fun(r:Bool)=>cond r (some (((0:Int),(0:Int)):(Int×Int))) (cond neg (some ((wrap .i64 ((0:Int)-x),((k+w.length:Nat):Int)):(Int×Int))) (some ((x,((k+w.length:Nat):Int)):(Int×Int)))))=
   some (if w=[]∧dY s (k+w.length)=[]then(0,0)else if 9000000000000<ek w (dY s (k+w.length))then(0,0)else(cond neg (-(ek w (dY s (k+w.length)):Int)) (ek w (dY s (k+w.length)):Int),((k+w.length+(if dY s (k+w.length)=[]then 0 else 1+(dY s (k+w.length)).length):Nat):Int))):=by
  intro u;rw [u];have:=Td t (q:=[]) (by simp) neg ((k+w.length:Nat):Int) w.length (by simp)
  rw [show (x+(dI 100000 ([]:O):Int))=x by simp [dI]]at this
  exact this
 by_cases z: ∃h:k+w.length+1<s.length,(s[k+w.length]).toNat=46∧bp s[k+w.length+1]=true
 ·obtain⟨d,f,hg⟩:=z
  have g:=sM (show k+w.length<s.length by omega) f
  have u:=qJ s (k+w.length+1) (by omega)
  have ad:dY s (k+w.length)≠ []:=by
   rw [g,List.drop_eq_getElem_cons d,List.takeWhile_cons,if_pos hg];simp
  have i:=Ta s (k+w.length);have hf:dI 100000 (dY s (k+w.length))<1000000:=DW _ 5 i;rw [bu d,de (show k+w.length<s.length by omega),de d]
  simp only [Y,Z,dQ,hd,hg];rw [mc (a:=(s[k+w.length]).toNat) (b:=46) (by omega)]
  simp only [Y,Z];have h4:=aAJ hd hs neg s.length n (k+w.length+1) w.length 100000 x (by omega) (by omega) (by omega) (by omega) (by omega) t.1 (by rw [←g];have:=t.2.1;omega)
  rw [show qv n n ((k+w.length+1:Nat):Int) (w.length:Int) (100000:Int) s x neg=_ from h4,←g];rw [←g]at u;revert ad i u
  generalize dY s (k+w.length)=q
  intro u ad i;simp only [Z,cO];rw [Td t i neg _ (w.length+q.length) rfl,if_neg ad];rw [show k+w.length+1+q.length=k+w.length+(1+q.length) by omega]
 ·have u:dY s (k+w.length)=[]:=by
   by_cases f: ∃h:k+w.length<s.length,(s[k+w.length]).toNat=46
   ·obtain⟨h,f⟩:=f
    rw [sM h f];by_cases d:k+w.length+1<s.length
    ·rw [List.drop_eq_getElem_cons d,List.takeWhile_cons,if_neg (fun hg=>z ⟨d,f,hg⟩)]
    ·rw [List.drop_eq_nil_of_le (by omega)];rfl
   ·exact wD (fun h hh=>f ⟨h,hh⟩)
  have e:(cond (decide (((k+w.length+1:Nat):Int)<(s.length:Int))) ((bE s ((k+w.length:Nat):Int)).bind fun(j:UInt8)=>cond (((j).toNat:Int)==(46:Int)) ((bE s ((k+w.length+1:Nat):Int)).bind fun(m:UInt8)=>(kR n ((UInt8.ofNat (Int.toNat ((m).toNat:Int))):UInt8)).bind fun(p:Bool)=>some p) (some false)) (some false):Option Bool)=some false:=by
   by_cases d:k+w.length+1<s.length
   ·rw [bu d,de (show k+w.length<s.length by omega),de d]
    simp only [Y,Z,dQ,hd];by_cases f:(s[k+w.length]).toNat=46
    ·rw [mc (a:=(s[k+w.length]).toNat) (b:=46) (by omega)]
     cases hg:bp s[k+w.length+1]
     ·rfl
     ·exact absurd ⟨d,f,hg⟩ z
    ·rw [kq (a:=(s[k+w.length]).toNat) (b:=46) (by omega)];rfl
   ·rw [hJ (by omega)];rfl
  rw [e,Z,da];exact base u
theorem Te (s:O) (f:s.length≤300):W fun n=>zh n s=some (lM s):=by
 refine(aAG.and (W.ge 400)).nm fun n ⟨hd,h⟩=> ?_
 have i:=aAH n f s.length n 0 (by omega) (by omega) (by omega)
 rw [List.drop_zero,Nat.zero_add]at i;rw [apP,show vj n n (0:Int) s=_ from i];simp only [Z,cO];have g:=mP fv s;rw [Jl];revert g
 generalize (s.takeWhile fv).length=p
 intro g;by_cases d:p<s.length
 ·rw [bu d,de d,List.drop_eq_getElem_cons d]
  simp only [Y,Z,mb _ (show p≤4000000000 by omega)]
  by_cases j:(s[p]).toNat=45
  ·rw [if_pos j,mc (a:=(s[p]).toNat) (b:=45) (by omega)]
   simp only [Y,Z];rw [By f h hd (k:=p+1) (by omega) true]
  ·rw [if_neg j,kq (a:=(s[p]).toNat) (b:=45) (by omega)]
   by_cases m:(s[p]).toNat=43
   ·rw [if_pos m,mc (a:=(s[p]).toNat) (b:=43) (by omega)]
    simp only [Y,da,Z];rw [By f h hd (k:=p+1) (by omega) false]
   ·rw [if_neg m,kq (a:=(s[p]).toNat) (b:=43) (by omega)]
    simp only [da,Z];rw [By f h hd (k:=p) (by omega) false]
 ·rw [hJ (show ¬((p:Int)<(s.length:Int)) by omega),List.drop_eq_nil_of_le (show s.length≤p by omega)]
  simp only [da,Z];rw [By f h hd (k:=p) (by omega) false]
theorem Bz (s:O) (k:Nat) (hk:k≤s.length) (neg:Bool): ∃e:Nat,(jC s k neg).2=(e:Int)∧e≤s.length:=by
 rw [Jk];have hw:=qJ s k hk;simp only;split
 ·exact⟨0,rfl,by omega⟩
 split
 ·exact⟨0,rfl,by omega⟩
 refine⟨_,rfl, ?_⟩
 split
 ·omega
 ·rename_i d
  by_cases h: ∃h:k+((s.drop k).takeWhile bp).length<s.length,(s[k+((s.drop k).takeWhile bp).length]).toNat=46
  ·obtain⟨h,b⟩:=h
   rw [sM h b];have:=qJ s (k+((s.drop k).takeWhile bp).length+1) (by omega)
   omega
  ·exact absurd (wD (fun hj b=>h ⟨hj,b⟩)) d
theorem Tf (s:O): ∃e:Nat,(lM s).2=(e:Int)∧e≤s.length:=by
 have b:=mP fv s;rw [Jl];revert b
 generalize (s.takeWhile fv).length=p
 intro b;by_cases d:p<s.length
 ·rw [List.drop_eq_getElem_cons d]
  simp only;split
  ·exact Bz s _ (by omega) _
  split
  ·exact Bz s _ (by omega) _
  ·exact Bz s _ (by omega) _
 ·rw [List.drop_eq_nil_of_le (by omega)]
  exact Bz s _ (by omega) _
theorem Tg (s:O) (f:s.length≤300):W fun n=>Aa n s=some (fw s):=by
 obtain⟨e,he,j⟩:=Tf s;refine((Tc s f).and (aAz (s.drop e) (by simp;omega))).nm fun n ⟨g,h⟩=> ?_
 rw [atQ,g];unfold fw;simp only [Z,he];by_cases i:e=0
 ·subst i
  rfl
 ·have d:(s.drop (Int.toNat (e:Int))).take (s.length-Int.toNat (e:Int))=s.drop e:=by
   rw [Int.toNat_natCast,List.take_of_length_le (by simp)]
  rw [kq (b:=0) (by omega),if_neg (by omega),ez (by omega),d,Int.toNat_natCast]
  simp only [da,Y];rw [h];cases bo (∀c∈s.drop e,c.toNat=32)<;>rfl
theorem aAK (n:Nat) {s:O} (g:s.length≤300) (x:Int): ∀(k m i:Nat),s.length-i≤k→k<m→i≤s.length→zg n m (i:Int) s x=some (cond (bo (∀c∈s.drop i,c.toNat=32)) (.inl x) (.inr (0,false))):=by
 intro k;induction k with
 |zero=>
  intro m i hk hm hi;obtain⟨m,rfl⟩: ∃m',m=m'+1:=⟨m-1,by omega⟩
  obtain rfl:i=s.length:=by omega
  rw [IH,cp,List.drop_eq_nil_of_le (Nat.le_refl _),aB (by simp)]
  rfl
 |succ k ih=>
  intro m i hk hm hi;obtain⟨m,rfl⟩: ∃m',m=m'+1:=⟨m-1,by omega⟩
  by_cases d:i<s.length
  ·rw [IH,bu d,de d,List.drop_eq_getElem_cons d]
   simp only [Y,Z];by_cases h:(s[i]).toNat=32
   ·rw [show (((s[i]).toNat:Int) !=(32:Int))=false by unfold bne;rw [mc (a:=(s[i]).toNat) (b:=32) (by omega)];rfl,mb i (by omega),da,ih m (i+1) (by omega) (by omega) (by omega)]
    have f:(∀c∈s[i]::s.drop (i+1),c.toNat=32)↔ ∀c∈s.drop (i+1),c.toNat=32:=by
     rw [List.forall_mem_cons];exact and_iff_right h
    rw [mO f]
   ·rw [show (((s[i]).toNat:Int) !=(32:Int))=true by unfold bne;rw [kq (a:=(s[i]).toNat) (b:=32) (by omega)];rfl,az (fun k=>h (k _ (List.mem_cons_self ..)))]
    rfl
  ·obtain rfl:i=s.length:=by omega
   rw [IH,cp,List.drop_eq_nil_of_le (Nat.le_refl _),aB (by simp)]
   rfl
theorem Ti (s:O) (d:s.length≤300):W fun n=>vi n s=some (fw s):=by
 obtain⟨e,he,f⟩:=Tf s;refine((Te s d).and (W.ge 400)).nm fun n ⟨g,i⟩=> ?_
 rw [apO,g];unfold fw;simp only [Z,he];by_cases h:e=0
 ·subst h
  rfl
 ·rw [kq (b:=0) (by omega),if_neg (by omega),da,aAK n d _ s.length n e (by omega) (by omega) f,Int.toNat_natCast]
  cases bo (∀c∈s.drop e,c.toNat=32)<;>rfl
theorem dh (x lo hi:Int):W fun n=>cQ n x lo hi=some (bo (In x lo hi)):=by
 refine W.succ (W.of fun n=> ?_)
 rw [oP];simp only [bR,iY,Z,In]
theorem cR (x lo hi:Int):W fun n=>cj n x lo hi=some (bo (In x lo hi)):=by
 refine W.succ (W.of fun n=> ?_)
 rw [wi];simp only [bR,iY,Z,In]
theorem aAL (b:UInt8):W fun n=>FQ n b=some (bo (Letter b)):=by
 refine W.succ (W.of fun n=> ?_)
 rw [aoZ];unfold Letter
 ((try simp only [bR,Z,cZ]);(try simp only [dy]);(repeat' split);all_goals first|rfl|(refine cE ?_;grind)|(refine dC ?_;grind)|(refine dD ?_;grind)|(exfalso;grind))
theorem BA (l:af) (s:O) (f:l.length≤1048576):W fun n=>qq n l s=some (bo (s∈l)):=by
 have h:=jZ f (p:=fun x=>x=s) (r:=fun _=>true) (b:=()) (L:=fun n m i=>yV n m i s l) (W.of fun n m i hi=>by
  rw [PX,bu hi,bj hi];simp only [Y,Z,bk]) (fun n m=>by rw [PX,cp];rfl)
 refine h.nm fun n h=> ?_
 rw [apB];rcases h with⟨⟨x,d,rfl⟩,i,e⟩|⟨d,e⟩
 ·rw [e,aB d];rfl
 ·rw [e,az fun h=>d s h rfl];rfl
theorem Jm (l:af) (s:O) (f:l.length≤1048576):W fun n=>vH n l s=some (bo (s∈l)):=by
 have h:=jZ f (p:=fun x=>s=x) (r:=fun i=>i) (b:=()) (L:=fun n m i=>zJ n m i l s (l.length:Int)) (W.of fun n m i hi=>by
  rw [QV,bu hi,bj hi];simp only [Y,Z,bk]) (fun n m=>by rw [QV,cp];rfl)
 refine W.succ (h.nm fun n h=> ?_)
 rw [asI,asJ];rcases h with⟨⟨x,d,rfl⟩,i,e⟩|⟨d,e⟩
 ·rw [e,aB d]
  simp only [Z,uk,bR,DL]
 ·rw [e,az fun h=>d s h rfl]
  simp only [Z,cO,bR,DM]
theorem Tj:W fun n=>yW n=some iC:=W.succ (W.of fun n=>apC n)
theorem Tk:W fun n=>zI n=some iC:=W.succ (W.of fun n=>asH n)
theorem aAM (s:O):W fun n=>FR n s=some (bo (Key s)):=by
 refine(((BA xT s (by decide)).and (BA iC s (by decide))).and Tj).nm fun n ⟨⟨b,d⟩,f⟩=> ?_
 have b:qq n [[66,69,71,73,78],[112,114,105,110,116],[105,102],[101,108,115,101],[119,104,105,108,101],[110,101,120,116],[100,101,108,101,116,101],[78,82],[78,70]] s=some (bo (s∈xT)):=b;rw [apA,b];simp only [d,f,Z,kG];rfl
theorem aAN (s:O):W fun n=>GV n s=some (bo (Key s)):=by
 refine((Jm iC s (by decide)).and Tk).nm fun n ⟨b,d⟩=> ?_
 rw [asG];simp only [b,d,Z,kG,bk];refine cE ?_
 unfold Key xT;simp only [List.mem_cons,List.mem_nil_iff,or_false,or_assoc]
theorem Tl (s:O) (d:s.length≤1048576):W fun n=>yT n s=some (bo (iZ s)):=by
 have h:=lK d (p:=Letter) (r:=false) (b:=s) (L:=fun n m i=>yU n m i s) ((W.all s fun b _=>aAL b).mono fun n h m i hi=>by
  rw [PV,bu hi,de hi];simp only [Y,Z,dQ,h _ (List.getElem_mem hi),bz];exact eG (by simp)) (fun n m=>by rw [PV,cp];rfl)
 refine((h.and (aAM s)).and (cR s.length 1 8)).nm fun n ⟨⟨f,g⟩,j⟩=> ?_
 rw [aoY,f];simp only [g,j,Z,cC];unfold iZ In
 ((try simp only [bz,Z,cZ]);(try simp only [dy]);(repeat' split);all_goals first|rfl|(refine cE ?_;grind)|(refine dC ?_;grind)|(refine dD ?_;grind)|(exfalso;grind))
theorem aAO (b:UInt8):W fun n=>GU n b=some (bo (Letter b)):=by
 refine W.succ (W.of fun n=> ?_)
 rw [asF];unfold Letter
 ((try simp only [bR,Z,cZ]);(try simp only [dy]);(repeat' split);all_goals first|rfl|(refine cE ?_;grind)|(refine dC ?_;grind)|(refine dD ?_;grind)|(exfalso;grind))
theorem aAP (s:O) (k:Nat) (hk:k≤s.length) (j:s.length≤1048576):W fun n=>zH n s (k:Int)=some (((s.drop k).takeWhile fun b=>bo (Letter b)).length:Int):=by
 have f: ∀i:Nat,i≤s.length→IntKind.wrap .i64 ((k:Int)+(i:Int))=((k+i:Nat):Int):=fun i hi=>by rw [IntKind.wrap_i64];omega
 have h:=Ng (l:=s.drop k) (β:=Int) (by simp;omega) (p:=fun b=>bo (Letter b)) (L:=fun n m i=>vG n m i k s) ((W.all s fun b _=>aAO b).mono fun n h m i hi=>by
  have d:k+i<s.length:=by simp at hi;omega
  rw [QU,f i (by omega),bu d,de d]
  simp only [Y,Z,dQ,h _ (List.getElem_mem d),List.getElem_drop]) (fun n m=>by
   have g:(k+(s.drop k).length)=s.length:=by simp;omega
   rw [QU,f _ (by simp),g,cp];rfl)
 refine h.nm fun n h=> ?_
 rw [asE];rw [show vG n n (0:Int) k s=_ from h];rfl
theorem aAQ (s:O) (f:s.length≤1048576):W fun n=>GR n s=some (bo (iZ s)):=by
 refine(((aAP s 0 (Nat.zero_le _) f).and (aAN s)).and (dh s.length 1 8)).nm fun n ⟨⟨d,g⟩,h⟩=> ?_
 have d:zH n s 0=some ((s.takeWhile fun b=>bo (Letter b)).length:Int):=d
 have i:(((s.takeWhile fun b=>bo (Letter b)).length:Int)=(s.length:Int))↔ ∀b∈s,Letter b:=by
  rw [Int.ofNat_inj,Yt];simp only [rH]
 rw [asD,d];simp only [g,h,Z,bk,i];unfold iZ In
 ((try simp only [bz,Z,cZ]);(try simp only [dy]);(repeat' split);all_goals first|rfl|(refine cE ?_;grind)|(refine dC ?_;grind)|(refine dD ?_;grind)|(exfalso;grind))
theorem Jn (l:List O):kf l 0:=fun _ h=>absurd h (Nat.lt_irrefl _)
theorem Jo {l:List O} {i:Nat} (b:0<i) (h:i<l.length):kf l i↔Op.bytesLess (l[i-1]'(by omega)) l[i]=true:=⟨fun k=>k h b,fun k _ _=>k⟩
theorem Tn (l:af) (d:l.length≤1048576) (g: ∀s∈l,s.length≤1048576):W fun n=>zG n l=some (bo ((∀s∈l,iZ s)∧(∀i,i<l.length→kf l i)∧l.length≤8)):=by
 have h:=kH d (q:=fun i=>At l iZ i∧kf l i) (r:=false) (b:=l) (L:=fun n m i=>sn n m i l l (l.length:Int)) ((W.all l fun s h=>aAQ s (g s h)).mono fun n h m i hi=>by
  rw [QT,bu hi,bj hi];simp only [Y,Z,h _ (List.getElem_mem hi),kJ hi];rcases Nat.eq_zero_or_pos i with rfl|f
  ·rw [hJ (by omega)]
   simp only [da,bz];exact eG (by simp [Jn])
  ·rw [ez (by omega),um f hi d]
   simp only [Y,Z];rw [mN (Op.bytesLess _ _)];simp only [bz,gH];exact eG (by rw [Jo f hi];grind)) (fun n m=>by rw [QT,cp];rfl)
 refine h.nm fun n h=> ?_
 rw [asC,show sn n n (0:Int) l l (l.length:Int)=_ from h];simp only [Z,cC,bR,iY];refine cE ?_
 rw [←qc];grind
theorem iK (x:Int):W fun n=>iH n x=some (bo (aV x)):=by
 refine(cR x (-9000000000000) 9000000000000).nm fun n e=> ?_
 rw [Qa,e];rfl
theorem iL (x:Int):W fun n=>ib n x=some (bo (aV x)):=by
 refine(dh x (-9000000000000) 9000000000000).nm fun n e=> ?_
 rw [IP,e];rfl
theorem aAR (c k:Int) (s:O) (n0 vars cells:Int) (_:s.length≤1048576) (r:1≤n0∧n0≤1048576):W fun n=>FT n c k s n0 vars cells=some (bo (iD c k s n0 vars cells)):=by
 refine((((iK k).and (SN s)).and (Tj.and (BA iC s (by decide)))).and (((cR k 1 3).and (cR k 0 (n0-1))).and ((cR k 0 1).and (cR c 1 36)))).nm fun n ⟨⟨⟨b,d⟩,f,g⟩,⟨i,j⟩,m,p⟩=> ?_
 have hw:wrap .i64 (n0-1)=n0-1:=by rw [IntKind.wrap_i64];omega
 rw [apD,hw];simp only [b,d,f,g,i,j,m,p,Z,bR,bk,iY];rw [mN (gJ s).2.2.2.2.2];simp only [iY,Z,xR];refine cE ?_
 unfold iD In;by_cases h:1≤c∧c≤36
 ·obtain rfl|rfl|rfl|rfl|rfl|rfl|rfl|rfl|rfl|rfl|rfl|rfl|rfl|rfl|rfl|rfl|rfl|rfl|rfl|rfl|rfl|rfl|rfl|rfl|rfl|rfl|rfl|rfl|rfl|rfl|rfl|rfl|rfl|rfl|rfl|rfl:c=1∨c=2∨c=3∨c=4∨c=5∨c=6∨c=7∨c=8∨c=9∨c=10∨c=11∨c=12∨c=13∨c=14∨c=15∨c=16∨c=17∨c=18∨c=19∨c=20∨c=21∨c=22∨c=23∨c=24∨c=25∨c=26∨c=27∨c=28∨c=29∨c=30∨c=31∨c=32∨c=33∨c=34∨c=35∨c=36:=by omega
  all_goals simp
  all_goals grind
 ·have:c≠1∧c≠2∧c≠3∧c≠4∧c≠5∧c≠6∧c≠7∧c≠8∧c≠9∧c≠10∧c≠11∧c≠12∧c≠13∧c≠14∧c≠15∧c≠16∧c≠17∧c≠18∧c≠19∧c≠20∧c≠21∧c≠22∧c≠23∧c≠24∧c≠25∧c≠26∧c≠27∧c≠28∧c≠29∧c≠30∧c≠31∧c≠32∧c≠33∧c≠34∧c≠35∧c≠36:=by omega
  simp [this]
  omega
theorem aAS (s:O) (_:s.length≤1048576):W fun n=>zO n s=some (bo ((gJ s).2.2.2.2.2=true)):=by
 refine(SM s).nm fun n e=> ?_
 rw [asT,e,←mN];rfl
def Tp (c:Int):O:=
 if c=1 then [100]else if c=2∨c=24∨c=25 then [115]else if c=29 then [110,115]else if c=3∨c=4∨c=5∨c=6∨c=7∨c=8∨c=35∨c=30∨c=31∨c=33 then [110]else []
theorem aAT (c:Int):W fun n=>(In c 1 36∧ ∃nm,nm≠ []∧zN n c=some (nm,Tp c))∨(¬In c 1 36∧zN n c=some ([],[])):=by
 refine(dh c 1 36).nm fun n e=> ?_
 have hw:wrap .i64 ((37:Int)-1)=36:=by rw [IntKind.wrap_i64];omega
 rw [asR,hw,e];by_cases h:In c 1 36
 ·left
  rw [aB h];refine⟨h, ?_⟩
  unfold In at h;obtain rfl|rfl|rfl|rfl|rfl|rfl|rfl|rfl|rfl|rfl|rfl|rfl|rfl|rfl|rfl|rfl|rfl|rfl|rfl|rfl|rfl|rfl|rfl|rfl|rfl|rfl|rfl|rfl|rfl|rfl|rfl|rfl|rfl|rfl|rfl|rfl:c=1∨c=2∨c=3∨c=4∨c=5∨c=6∨c=7∨c=8∨c=9∨c=10∨c=11∨c=12∨c=13∨c=14∨c=15∨c=16∨c=17∨c=18∨c=19∨c=20∨c=21∨c=22∨c=23∨c=24∨c=25∨c=26∨c=27∨c=28∨c=29∨c=30∨c=31∨c=32∨c=33∨c=34∨c=35∨c=36:=by omega
  all_goals exact⟨_,by decide,rfl⟩
 ·right
  rw [az h];exact⟨h,rfl⟩
theorem aAU (c k:Int) (s:O) (n0 vars cells:Int) (f:s.length≤1048576) (z:1≤n0∧n0≤1048576):W fun n=>Hb n c k s n0 vars cells=some (bo (iD c k s n0 vars cells)):=by
 refine((((iL k).and (aAS s f)).and (Tk.and (Jm iC s (by decide)))).and (((dh k 1 3).and (dh k 0 (n0-1))).and ((dh k 0 1).and (aAT c)))).nm fun n ⟨⟨⟨g,i⟩,j,m⟩,⟨p,q⟩,r,b⟩=> ?_
 have hw:wrap .i64 (n0-1)=n0-1:=by rw [IntKind.wrap_i64];omega
 rw [asQ,hw];rcases b with⟨h,nm,t,b⟩|⟨h,b⟩
 ·rw [b]
  have d:(nm==([]:O))=false:=by rw [bk,az t]
  simp only [g,i,j,m,p,q,r,Z,d,da];unfold In at h;obtain rfl|rfl|rfl|rfl|rfl|rfl|rfl|rfl|rfl|rfl|rfl|rfl|rfl|rfl|rfl|rfl|rfl|rfl|rfl|rfl|rfl|rfl|rfl|rfl|rfl|rfl|rfl|rfl|rfl|rfl|rfl|rfl|rfl|rfl|rfl|rfl:c=1∨c=2∨c=3∨c=4∨c=5∨c=6∨c=7∨c=8∨c=9∨c=10∨c=11∨c=12∨c=13∨c=14∨c=15∨c=16∨c=17∨c=18∨c=19∨c=20∨c=21∨c=22∨c=23∨c=24∨c=25∨c=26∨c=27∨c=28∨c=29∨c=30∨c=31∨c=32∨c=33∨c=34∨c=35∨c=36:=by omega
  all_goals simp [Tp,bk,cq,bR,bz,rJ,iY,gH,cT,du,uj,iD,In]
  all_goals first
   |(refine mO ?_;grind)
   |(by_cases hk:k=0<;>by_cases u:s=[]<;>simp [hk,u,rI,rJ])
 ·rw [b]
  have: ¬iD c k s n0 vars cells:=by
   unfold In at h;unfold iD;grind
  rw [az this];rfl
theorem Tq (l:ae) (vars cells:Int) (d:l.length≤1048576) (g: ∀o∈l,o.2.2.length≤1048576):W fun n=>yX n l vars cells=some (bo (fx l vars cells)):=by
 by_cases f:0<l.length
 ·have h:=lK d (p:=fun o=>iD o.1 o.2.1 o.2.2 l.length vars cells) (r:=false) (b:=()) (L:=fun n m i=>uQ n m i cells vars l.length l) ((W.all l fun o h=>aAR o.1 o.2.1 o.2.2 l.length vars cells (g o h) (by omega)).mono fun n h m i hi=>by
   rw [PZ,bu hi,bj hi];simp only [Y,Z,h _ (List.getElem_mem hi),bz];exact eG (by simp)) (fun n m=>by rw [PZ,cp];rfl)
  refine(h.and (cR l.length 1 1500)).nm fun n ⟨h,e⟩=> ?_
  rw [PY,e,xS f d,show uQ n n (0:Int) cells vars l.length l=_ from h];simp only [Z,cC,cq];unfold fx In;have j:(∀h:0<l.length,(l[l.length-1]'(by omega)).1=36)↔(l[l.length-1]'(by omega)).1=36:=⟨fun k=>k f,fun k _=>k⟩
  rw [j]
  ((try simp only [bz,Z,cZ,Y,cT]);(try simp only [dy]);(repeat' split);all_goals first|rfl|(refine cE ?_;grind)|(refine dC ?_;grind)|(refine dD ?_;grind)|(exfalso;grind))
 ·refine(cR l.length 1 1500).nm fun n e=> ?_
  rw [PY,e,az (P:=In _ _ _) (by unfold In;omega),az (P:=fx _ _ _) (by unfold fx;omega)]
  rfl
theorem Ts (l:ae) (vars cells:Int) (d:l.length≤1048576) (g: ∀o∈l,o.2.2.length≤1048576):W fun n=>zL n l vars cells=some (bo (fx l vars cells)):=by
 by_cases f:0<l.length
 ·have j:W fun n=> ∀o∈l,Ha n l vars cells o.1 o.2.1 o.2.2=some (bo (¬iD o.1 o.2.1 o.2.2 l.length vars cells),l,vars,cells):=W.all l fun o h=>(aAU o.1 o.2.1 o.2.2 l.length vars cells (g o h) (by omega)).nm fun n e=>by
   rw [asP,e];simp only [Z,bz]
  have h:=jZ d (p:=fun o=> ¬iD o.1 o.2.1 o.2.2 l.length vars cells) (r:=fun i=>(i,l,vars,cells)) (b:=(l,vars,cells)) (L:=fun n m i=>zM n m l vars cells i l (l.length:Int)) (j.mono fun n h m i hi=>by
   rw [QY,bu hi,bj hi];simp only [Y,Z,h _ (List.getElem_mem hi)]) (fun n m=>by rw [QY,cp];rfl)
  have q:W fun n=>GZ n l vars cells l=some (bo (∃o∈l,¬iD o.1 o.2.1 o.2.2 l.length vars cells),l,vars,cells):=W.succ (h.nm fun n h=>by
   rw [asN,asO];refine rK (l:=l) (p:=fun o=> ¬iD o.1 o.2.1 o.2.2 l.length vars cells) (c:=(l,vars,cells)) ?_
   rcases h with⟨h,i,e⟩|⟨h,e⟩
   ·exact .inl ⟨h,i,by rw [e];rfl⟩
   ·exact .inr ⟨h,by rw [e];rfl⟩)
  refine(q.and (dh l.length 1 1500)).nm fun n ⟨h,e⟩=> ?_
  rw [QX,e,xS f d,h];simp only [Z,cq];unfold fx In;have s:(∀h:0<l.length,(l[l.length-1]'(by omega)).1=36)↔(l[l.length-1]'(by omega)).1=36:=⟨fun k=>k f,fun k _=>k⟩
  rw [s]
  ((try simp only [bz,Z,cZ,Y]);(try simp only [dy]);(repeat' split);all_goals first|rfl|(refine cE ?_;grind)|(refine dC ?_;grind)|(refine dD ?_;grind)|(exfalso;grind))
 ·refine(dh l.length 1 1500).nm fun n e=> ?_
  rw [QX,e,az (P:=In _ _ _) (by unfold In;omega),az (P:=fx _ _ _) (by unfold fx;omega)]
  rfl
def iM (vars cells:af) (start main:ae):Prop:=
 (vars.length≤1048576∧ ∀s∈vars,s.length≤1048576)∧(cells.length≤1048576∧ ∀s∈cells,s.length≤1048576)∧(start.length≤1048576∧ ∀o∈start,o.2.2.length≤1048576)∧(main.length≤1048576∧ ∀o∈main,o.2.2.length≤1048576)
theorem wE (a b:af) (c d:ae) (h:iM a b c d):W fun n=>qy n a b c d=some (bo (jD a b c d)):=by
 obtain⟨⟨f,j⟩,⟨g,k⟩,⟨q,t⟩,⟨u,z⟩⟩:=h;have k1:W fun n=> ∀s∈a,GY n a b c d s=some (bo (s∈b),a,b,c,d):=W.all a fun s _=>(Jm b s g).nm fun n e=>by
  rw [asM,e];rfl
 have h:=jZ f (p:=fun s=>s∈b) (r:=fun i=>(i,a,b,c,d)) (b:=(a,b,c,d)) (L:=fun n m i=>zK n m a b c d i a (a.length:Int)) (k1.mono fun n h m i hi=>by
   rw [QW,bu hi,bj hi];simp only [Y,Z,h _ (List.getElem_mem hi)]) (fun n m=>by rw [QW,cp];rfl)
 have k2:W fun n=>GX n a b c d a=some (bo (∃s∈a,s∈b),a,b,c,d):=W.succ (h.nm fun n h=>by
   rw [asK,asL];refine rK (l:=a) (p:=fun s=>s∈b) (c:=(a,b,c,d)) ?_
   rcases h with⟨h,i,e⟩|⟨h,e⟩
   ·exact .inl ⟨h,i,by rw [e];rfl⟩
   ·exact .inr ⟨h,by rw [e];rfl⟩)
 refine(((Tn a f j).and (Tn b g k)).and (k2.and ((Ts c a.length b.length q t).and (Ts d a.length b.length u z)))).nm fun n ⟨⟨e1,e2⟩,e3,e4,e5⟩=> ?_
 rw [asB,e1,e2,e3];simp only [Z,e4,e5];unfold jD
 ((try simp only [bz,Z,cZ]);(try simp only [dy]);(repeat' split);all_goals first|rfl|(refine cE ?_;grind)|(refine dC ?_;grind)|(refine dD ?_;grind)|(exfalso;grind))
theorem Jp (a b:af) (c d:ae) (h:iM a b c d):W fun n=>uP n a b c d=some (bo (jD a b c d)):=by
 obtain⟨⟨j,k⟩,⟨g,p⟩,⟨t,u⟩,⟨z,h8⟩⟩:=h;have k1:=kH j (q:=fun i=>At a iZ i∧At a (fun s=>s∉b) i∧kf a i) (r:=false) (b:=(a,b,c,d)) (L:=fun n m i=>rW n m a b c d i) (((W.all a fun s h=>Tl s (k s h)).and (W.all a fun s _=>BA b s g)).mono fun n ⟨h,h'⟩ m i hi=>by
  rw [PT,bu hi,bj hi];simp only [Y,Z,h _ (List.getElem_mem hi),h' _ (List.getElem_mem hi),kJ hi];rcases Nat.eq_zero_or_pos i with rfl|f
  ·rw [hJ (by omega)]
   simp only [da,bz,gH];exact eG (by have:=Jn a;grind)
  ·rw [ez (by omega),um f hi j]
   simp only [Y,Z];rw [mN (Op.bytesLess _ _)];simp only [bz,gH];exact eG (by rw [Jo f hi];grind)) (fun n m=>by rw [PT,cp];rfl)
 have k2:=kH g (q:=fun i=>At b iZ i∧kf b i) (r:=false) (b:=(a,b,c,d)) (L:=fun n m i=>rX n m a b c d i) ((W.all b fun s h=>Tl s (p s h)).mono fun n h m i hi=>by
  rw [PU,bu hi,bj hi];simp only [Y,Z,h _ (List.getElem_mem hi),kJ hi];rcases Nat.eq_zero_or_pos i with rfl|f
  ·rw [hJ (by omega)]
   simp only [da,bz];exact eG (by simp [Jn])
  ·rw [ez (by omega),um f hi g]
   simp only [Y,Z];rw [mN (Op.bytesLess _ _)];simp only [bz,gH];exact eG (by rw [Jo f hi];grind)) (fun n m=>by rw [PU,cp];rfl)
 refine((k1.and k2).and ((Tq c a.length b.length t u).and (Tq d a.length b.length z h8))).nm fun n ⟨⟨e1,e2⟩,e4,e5⟩=> ?_
 rw [aoX,show rW n n a b c d 0=_ from e1];simp only [Z,cC,show rX n n a b c d 0=_ from e2,e4,e5,bR,iY];unfold jD;have q1:(∀i,i<a.length→At a iZ i∧At a (fun s=>s∉b) i∧kf a i)↔(∀s∈a,iZ s)∧(∀s∈a,s∉b)∧(∀i,i<a.length→kf a i):=by
  rw [←qc,←qc];grind
 have q2:(∀i,i<b.length→At b iZ i∧kf b i)↔(∀s∈b,iZ s)∧(∀i,i<b.length→kf b i):=by
  rw [←qc];grind
 rw [q1,q2]
 ((try simp only [bR,bk,cq,bz,Z,Option.bind_none,cZ,cC,Y,da,cT,du,Bool.not_true,Bool.not_false]);(try simp only [dy]);(repeat' split);all_goals first|rfl|(refine cE ?_;grind)|(refine dC ?_;grind)|(refine dD ?_;grind)|(exfalso;grind))
theorem Jq (n:Nat) (a b:O):Ho (n+1) a b=some (Lib.compareBytes a b):=by kernel_rfl
theorem BB: ∀a b:O,Lib.compareBytes a b<0↔Op.bytesLess a b=true
 | [],[]=>by simp [Lib.compareBytes,Op.bytesLess]
 | [],_::_=>by simp [Lib.compareBytes,Op.bytesLess]
 |_::_,[]=>by simp [Lib.compareBytes,Op.bytesLess]
 |a::x,b::y=>by
  rw [Lib.compareBytes,Op.bytesLess];by_cases h:a<b
  ·simp [h]
  ·rw [if_neg h]
   by_cases k:b<a
   ·rw [if_pos k]
    have:a≠b:=by rintro rfl;exact h k
    simp [h,this]
   ·rw [if_neg k,BB x y]
    have:a=b:=by
     have h:=UInt8.not_lt.1 h;have k:=UInt8.not_lt.1 k;exact UInt8.le_antisymm k h
    simp [this]
theorem Tt (k x:Int) (s:O):W fun n=>zf n k x s=some (bo (gu k x s)):=by
 by_cases f:s.length≤300
 ·refine(((cR k 0 3).and (iK x)).and (Ti s f)).nm fun n ⟨⟨b,d⟩,g⟩=> ?_
  rw [Qu,b];simp only [d,g,Z];rw [mN (fw s).2];have e:fw s=(x,true)↔(fw s).1=x∧(fw s).2=true:=by rw [Prod.ext_iff]
  unfold gu In;rw [e]
  ((try simp only [bR,bk,bz,Z,cZ,Y]);(try simp only [dy]);(repeat' split);all_goals first|rfl|(refine cE ?_;grind)|(refine dC ?_;grind)|(refine dD ?_;grind)|(exfalso;grind))
 ·refine((cR k 0 3).and (iK x)).nm fun n ⟨b,d⟩=> ?_
  rw [Qu,b,az (P:=gu k x s) (by unfold gu;omega),ez (by omega)]
  simp only [d,Z,bz]
  ((try simp only [bk,Z,cZ,Y]);(try simp only [dy]);(repeat' split);all_goals first|rfl|(refine cE ?_;grind)|(refine dC ?_;grind)|(refine dD ?_;grind)|(exfalso;grind))
theorem Tv (k x:Int) (s:O):W fun n=>zZ n k x s=some (bo (gu k x s)):=by
 by_cases d:s.length≤300
 ·refine((iL x).and (Tg s d)).nm fun n ⟨b,f⟩=> ?_
  rw [Rk,b];simp only [f,Z];rw [mN (fw s).2];have e:fw s=(x,true)↔(fw s).1=x∧(fw s).2=true:=by rw [Prod.ext_iff]
  unfold gu;rw [e]
  ((try simp only [bR,bk,bz,Z,cZ,Y]);(try simp only [dy]);(repeat' split);all_goals first|rfl|(refine cE ?_;grind)|(refine dC ?_;grind)|(refine dD ?_;grind)|(exfalso;grind))
 ·refine(iL x).nm fun n b=> ?_
  rw [Rk,b,az (P:=gu k x s) (by unfold gu;omega),ez (by omega)]
  simp only [Z,bz]
  ((try simp only [bk,Z,cZ,Y]);(try simp only [dy]);(repeat' split);all_goals first|rfl|(refine cE ?_;grind)|(refine dC ?_;grind)|(refine dD ?_;grind)|(exfalso;grind))
theorem Tw {l:ai} {cells:Int} (h:0<l.length):ot l cells 0↔0≤l[0].1∧l[0].1<cells∧l[0].2.1.length≤300∧gu l[0].2.2.1 l[0].2.2.2.1 l[0].2.2.2.2:=by
 unfold ot;exact⟨fun k=>⟨(k h).1,(k h).2.1,(k h).2.2.1,(k h).2.2.2.1⟩,fun k _=>⟨k.1,k.2.1,k.2.2.1,k.2.2.2,fun h=>absurd h (Nat.lt_irrefl _)⟩⟩
theorem Tx {l:ai} {cells:Int} {i:Nat} (b:0<i) (h:i<l.length):ot l cells i↔0≤l[i].1∧l[i].1<cells∧l[i].2.1.length≤300∧gu l[i].2.2.1 l[i].2.2.2.1 l[i].2.2.2.2∧dX (l[i-1]'(by omega)).1 (l[i-1]'(by omega)).2.1 l[i].1 l[i].2.1:=by
 unfold ot;exact⟨fun k=>⟨(k h).1,(k h).2.1,(k h).2.2.1,(k h).2.2.2.1,(k h).2.2.2.2 b⟩,fun k _=>⟨k.1,k.2.1,k.2.2.1,k.2.2.2.1,fun _=>k.2.2.2.2⟩⟩
theorem Ty (a:Int) (s:O) (p q:Int) (r:O) (b:Int) (t:O):W fun n=>zi n a s p q r b t=some (bo (dX a s b t)):=by
 refine W.succ (W.of fun n=> ?_)
 rw [apR,mN (Op.bytesLess s t)];unfold dX
 ((try simp only [bR,bk,Z,cZ]);(try simp only [dy]);(repeat' split);all_goals first|rfl|(refine cE ?_;grind)|(refine dC ?_;grind)|(refine dD ?_;grind)|(exfalso;grind))
theorem aAV (a:Int) (s:O) (p q:Int) (r:O) (b:Int) (t:O) (d f:Int) (g:O):W fun n=> ∃v,vR n a s p q r b t d f g=some v∧(0≤v↔ ¬dX a s b t):=by
 refine W.succ (W.succ (W.of fun n=> ?_))
 rw [Rq,Jq];unfold dX;have:=BB s t;by_cases h:a<b
 ·rw [ez h]
  exact⟨-1,rfl,by simp [h]⟩
 ·rw [hJ h]
  by_cases k:b<a
  ·rw [ez k]
   exact⟨1,rfl,by simp [h];omega⟩
  ·rw [hJ k]
   obtain rfl:a=b:=by omega
   refine⟨_,rfl, ?_⟩
   rw [←this];omega
theorem aAW (vs:ae) (cs:ai) (nr err vars cells:Int) (g:vs.length≤1048576) (d:cs.length≤1048576):W fun n=>Gb n vs cs nr err vars cells=some (bo (kh vs cs nr err vars cells)):=by
 have k1:=lK g (p:=fun v=>gu v.1 v.2.1 v.2.2) (r:=false) (b:=(vs,cs,nr,err,cells,vars)) (L:=fun n m i=>vh n m vs cs nr err i cells vars) ((W.all vs fun v _=>Tt v.1 v.2.1 v.2.2).mono fun n h m i hi=>by
  rw [Qs,bu hi,bj hi];simp only [Y,Z,h _ (List.getElem_mem hi),bz];exact eG (by simp)) (fun n m=>by rw [Qs,cp];rfl)
 have k2:=kH d (q:=ot cs cells) (r:=false) (b:=(vs,cs,nr,err,vars)) (L:=fun n m i=>rZ n m vs cs nr err i cells vars) (((W.all cs fun v _=>Tt v.2.2.1 v.2.2.2.1 v.2.2.2.2).and (W.lt (len:=cs.length) fun i hi=>Ty (cs[i-1]'(by omega)).1 (cs[i-1]'(by omega)).2.1 (cs[i-1]'(by omega)).2.2.1 (cs[i-1]'(by omega)).2.2.2.1 (cs[i-1]'(by omega)).2.2.2.2 cs[i].1 cs[i].2.1)).mono fun n ⟨h,j⟩ m i hi=>by
  rw [Qt,bu hi,bj hi];simp only [Y,Z,h _ (List.getElem_mem hi),bR,bz];rcases Nat.eq_zero_or_pos i with rfl|f
  ·rw [Tw hi,az (P:=(0:Int)<((0:Nat):Int)) (by omega)]
   simp only [da,gH];exact eG (by grind)
  ·rw [Tx f hi,aB (P:=(0:Int)<(i:Int)) (by omega),um f hi d]
   simp only [Y,Z,j i hi,bz,gH];exact eG (by grind)) (fun n m=>by rw [Qt,cp];rfl)
 refine((k1.and k2).and ((cR nr 0 1000000).and (cR err 0 7))).nm fun n ⟨⟨k,s⟩,t,u⟩=> ?_
 rw [apN,show vh n n vs cs nr err 0 cells vars=_ from k];simp only [Z,cC,show rZ n n vs cs nr err 0 cells vars=_ from s,t,u];unfold kh
 ((try simp only [bR,bk,Z,cZ]);(try simp only [dy]);(repeat' split);all_goals first|rfl|(refine cE ?_;grind)|(refine dC ?_;grind)|(refine dD ?_;grind)|(exfalso;grind))
theorem Tz (vs:ae) (cs:ai) (nr err vars cells:Int) (g:vs.length≤1048576) (d:cs.length≤1048576):W fun n=>zX n vs cs nr err vars cells=some (bo (kh vs cs nr err vars cells)):=by
 have j:W fun n=> ∀v∈vs,Hm n v.1 v.2.1 v.2.2=some (bo (¬gu v.1 v.2.1 v.2.2)):=W.all vs fun v _=>(Tv v.1 v.2.1 v.2.2).nm fun n e=>by
  rw [atP,e];simp only [Z,bz]
 have h:=jZ g (p:=fun v=> ¬gu v.1 v.2.1 v.2.2) (r:=fun i=>i) (b:=()) (L:=fun n m i=>zY n m i vs (vs.length:Int)) (j.mono fun n h m i hi=>by
   rw [Rj,bu hi,bj hi];simp only [Y,Z,h _ (List.getElem_mem hi)]) (fun n m=>by rw [Rj,cp];rfl)
 have k1:W fun n=>Hl n vs=some (bo (∃v∈vs,¬gu v.1 v.2.1 v.2.2)):=W.succ (h.nm fun n h=>by
   rw [atM,atO];refine DN (l:=vs) (p:=fun v=> ¬gu v.1 v.2.1 v.2.2) ?_
   rcases h with⟨h,i,e⟩|⟨h,e⟩
   ·exact .inl ⟨h,i,by rw [e];rfl⟩
   ·exact .inr ⟨h,by rw [e];rfl⟩)
 have k2:=kH d (q:=ot cs cells) (r:=false) (b:=()) (L:=fun n m i=>sw n m vs cs nr err i cells cs (cs.length:Int)) (((W.all cs fun v _=>Tv v.2.2.1 v.2.2.2.1 v.2.2.2.2).and (W.lt (len:=cs.length) fun i hi=>aAV (cs[i-1]'(by omega)).1 (cs[i-1]'(by omega)).2.1 (cs[i-1]'(by omega)).2.2.1 (cs[i-1]'(by omega)).2.2.2.1 (cs[i-1]'(by omega)).2.2.2.2 cs[i].1 cs[i].2.1 cs[i].2.2.1 cs[i].2.2.2.1 cs[i].2.2.2.2)).mono fun n ⟨h,k⟩ m i hi=>by
  rw [Ri,bu hi,bj hi];simp only [Y,Z,h _ (List.getElem_mem hi),bR,bz];rcases Nat.eq_zero_or_pos i with rfl|f
  ·rw [Tw hi,az (P:=(0:Int)<((0:Nat):Int)) (by omega)]
   simp only [da,gH];exact eG (by grind)
  ·obtain⟨v,e,s⟩:=k i hi
   rw [Tx f hi,aB (P:=(0:Int)<(i:Int)) (by omega),um f hi d]
   simp only [Y,Z,e,s,gH];exact eG (by grind)) (fun n m=>by rw [Ri,cp];rfl)
 refine((k1.and k2).and ((dh nr 0 1000000).and (dh err 0 7))).nm fun n ⟨⟨t,u⟩,z,e4⟩=> ?_
 rw [atL,t];simp only [Z,show sw n n vs cs nr err 0 cells cs cs.length=_ from u,z,e4];unfold kh
 ((try simp only [bR,cq,bz,Z,cZ,cC,Y,cT]);(try simp only [dy]);(repeat' split);all_goals first|rfl|(refine cE ?_;grind)|(refine dC ?_;grind)|(refine dD ?_;grind)|(exfalso;grind))
theorem aAX (n:Nat) (s:O):sv (n+1) s [10]=some (decide (0≤Lib.indexByte s 10)):=by kernel_rfl
theorem sN: ∀(s:O) (c:UInt8), -1≤Lib.indexByte s c∧(0≤Lib.indexByte s c↔c∈s)
 | [],c=>by simp [Lib.indexByte]
 |b::s,c=>by
  have h:=sN s c;rw [Lib.indexByte];by_cases e:b=c
  ·subst e;simp
  ·rw [if_neg (by simpa using e)]
   have d: ¬c=b:=fun k=>e k.symm
   by_cases k:Lib.indexByte s c= -1
   ·rw [if_pos (by simp [k])]
    have: ¬c∈s:=by rw [←h.2];omega
    simp [this,d]
   ·rw [if_neg (by simp [k])]
    have:c∈s:=by rw [←h.2];omega
    simp [this]
    omega
theorem aAY (s:O) (d:s.length≤1048576):W fun n=>Ga n s=some (bo (∀b∈s,b.toNat≠10)):=by
 have h:=lK d (p:=fun b=>b.toNat≠10) (r:=false) (b:=()) (L:=fun n m i=>vf n m i s) (W.of fun n m i hi=>by
  rw [Qq,bu hi,de hi];simp only [Y,Z,bk];exact eG (by omega)) (fun n m=>by rw [Qq,cp];rfl)
 refine h.nm fun n h=> ?_
 rw [apL,show vf n n 0 s=_ from h];simp only [Z,cC,cT]
theorem aAZ (s:O):W fun n=>Hk n s=some (bo (s.length≤60∧ ∀b∈s,b.toNat≠10)):=by
 refine W.succ (W.succ (W.of fun n=> ?_))
 rw [atJ,aAX];have h:=(sN s 10).2;have k:(10:UInt8)∈s↔ ¬ ∀b∈s,b.toNat≠10:=by
  constructor
  ·exact fun h k=>k 10 h rfl
  ·intro h
   simp only [ne_eq,Classical.not_forall,Classical.not_not]at h;obtain⟨b,d,e⟩:=h;have:b=10:=UInt8.toNat_inj.1 e;rwa [←this]
 have hk:(0≤Lib.indexByte s 10)= ¬ ∀b∈s,b.toNat≠10:=propext (h.trans k)
 simp only [bR,hk,Z]
 ((try simp only [bz,Z,cZ]);(try simp only [dy]);(repeat' split);all_goals first|rfl|(refine cE ?_;grind)|(refine dC ?_;grind)|(refine dD ?_;grind)|(exfalso;grind))
theorem wF (w q:Int) (s:O) (b:s.length≤1048576):W fun n=>rY n w q s=some (bo (eD w q s)):=by
 refine(((cR w 0 2).and (cR q 1 100000)).and (aAY s b)).nm fun n ⟨⟨d,f⟩,g⟩=> ?_
 rw [apK];simp only [d,f,g,Z];unfold eD In
 ((try simp only [bR,bk,Z,cZ]);(try simp only [dy]);(repeat' split);all_goals first|rfl|(refine cE ?_;grind)|(refine dC ?_;grind)|(refine dD ?_;grind)|(exfalso;grind))
theorem BD (w q:Int) (s:O):W fun n=>ss n w q s=some (bo (eD w q s)):=by
 refine(((dh w 0 2).and (dh q 1 100000)).and (aAZ s)).nm fun n ⟨⟨b,d⟩,f⟩=> ?_
 rw [atI];simp only [b,d,f,Z];unfold eD In
 ((try simp only [bk,Z,cZ]);(try simp only [dy]);(repeat' split);all_goals first|rfl|(refine cE ?_;grind)|(refine dC ?_;grind)|(refine dD ?_;grind)|(exfalso;grind))
theorem TA {a b:Int} {l:aY} (h:0<l.length):ox a b l=(wrap .i64 (a+l.length),(l[l.length-1]'(by omega)).1):=by
 unfold ox;rw [List.getLast?_eq_getElem?,List.getElem?_eq_getElem (by omega)]
theorem TB (a b:Int) (l:aY) (d:l.length≤1048576):W fun n=>za n a b l=some (ox a b l):=by
 refine W.succ (W.of fun n=> ?_)
 rw [apJ];rcases Nat.eq_zero_or_pos l.length with h|h
 ·obtain rfl:=List.eq_nil_of_length_eq_zero h
  rfl
 ·rw [TA h,xS h d,bk,az (by omega)]
  rfl
theorem TC (a b:Int) (l:aY) (d:l.length≤1048576):W fun n=>zW n a b l=some (ox a b l):=by
 refine W.succ (W.of fun n=> ?_)
 rw [atG];rcases Nat.eq_zero_or_pos l.length with h|h
 ·obtain rfl:=List.eq_nil_of_length_eq_zero h
  rfl
 ·rw [TA h,xS h d,bk,az (by omega)]
  rfl
def oV (l:aY):Prop:=l.length≤1048576∧ ∀e∈l,e.2.2.2.length≤1048576
theorem TD {l:aY} (j:l.length≤1048576) (t0:Int) {L:Nat→Nat→Int→Int→Option (Sum Unit Bool)}
  (d:W fun n=> ∀m (i:Nat) (t:Int) (h:i<l.length),L n (m+1) i t=cond (bo (In l[i].1 t 300∧eD l[i].2.1 l[i].2.2.1 l[i].2.2.2)) (L n m (wrap .i64 ((i:Int)+1)) l[i].1) (some (.inr false)))
  (he: ∀n m t,L n (m+1) (l.length:Int) t=some (.inl ())):W fun n=>L n n 0 t0=some (cond (bo (oy t0 l)) (.inl ()) (.inr false)):=by
 have:=jY (len:=l.length) (L:=fun n m i t=>L n m (i:Int) t) (fun i t=>oy t0 l↔oy t (l.drop i)) (fun x=>x=cond (bo (oy t0 l)) (.inl ()) (.inr false)) ?_ ?_
 ·exact this.mono fun n h=>by
   obtain⟨x,f,g⟩:=h t0 (by simp)
   rw [←g];exact f
 ·refine d.mono fun n h m i t hi hinv=> ?_
  have h:=h m i t hi;rw [List.drop_eq_getElem_cons hi,oy]at hinv;by_cases b:In l[i].1 t 300∧eD l[i].2.1 l[i].2.2.1 l[i].2.2.2
  ·right
   rw [aB b]at h;exact⟨l[i].1,by rw [←dx hi (by omega)];exact h,hinv.trans ⟨fun k=>k.2.2,fun k=>⟨b.1,b.2,k⟩⟩⟩
  ·left
   rw [az b]at h;exact⟨_,h,by rw [az (fun k=>b ⟨(hinv.1 k).1,(hinv.1 k).2.1⟩)];rfl⟩
 ·refine W.of fun n m t hinv=>⟨_,he n m t, ?_⟩
  rw [List.drop_eq_nil_of_le (Nat.le_refl _),oy]at hinv;rw [aB (hinv.2 trivial)];rfl
theorem aBa (a t:Int) (l:aY) (d:oV l):W fun n=>FZ n a t l=some (bo (qd a t l)):=by
 have k:=TD d.1 t (L:=fun n m i b=>ve n m a t l i b) ((W.all l fun e h=>wF e.2.1 e.2.2.1 e.2.2.2 (d.2 e h)).and (W.ge 1) |>.mono fun n ⟨h,q⟩ m i b hi=>by
  obtain⟨n,rfl⟩: ∃k,n=k+1:=⟨n-1,by omega⟩
  have g:cj (n+1) l[i].1 b 300=some (bo (In l[i].1 b 300)):=by
   rw [wi];simp only [bR,iY,Z,In]
  rw [Qp,bu hi,bj hi];simp only [Y,Z,g,h _ (List.getElem_mem hi),bz,gH];exact eG (by grind)) (fun n m b=>by rw [Qp,cp];rfl)
 refine((k.and (cR a 0 300)).and (cR t 0 300)).nm fun n ⟨⟨j,f⟩,p⟩=> ?_
 by_cases h:In a 0 300
 ·have hw:wrap .i64 ((300:Int)-a)=300-a:=by unfold In at h;rw [IntKind.wrap_i64];omega
  rw [Qo,f,hw];simp only [Z,p,show ve n n a t l 0 t=_ from j];unfold qd
  ((try simp only [bR,bz,Z,cZ,cC,Y,cT]);(try simp only [dy]);(repeat' split);all_goals first|rfl|(refine cE ?_;grind)|(refine dC ?_;grind)|(refine dD ?_;grind)|(exfalso;grind))
 ·rw [Qo,f,az h,az (P:=qd a t l) (fun k=>h k.1)]
  rfl
theorem oW (x:Int):W fun n=>lW n x=some (bo (In x 0 300)):=by
 refine(dh x 0 300).nm fun n e=> ?_
 rw [atD,e];rfl
theorem aBb (x:Int):W fun n=>Hh n x=some (bo (In x (-1) 4)):=by
 refine(dh x (-1) 4).nm fun n e=> ?_
 rw [atH,e];rfl
theorem aBd (a t:Int) (l:aY) (d:oV l):W fun n=>Hj n a t l=some (bo (qd a t l)):=by
 have k:=TD d.1 t (L:=fun n m i b=>vM n m i b l l.length) ((W.all l fun e h=>BD e.2.1 e.2.2.1 e.2.2.2).and (W.ge 1) |>.mono fun n ⟨h,q⟩ m i b hi=>by
  obtain⟨n,rfl⟩: ∃k,n=k+1:=⟨n-1,by omega⟩
  have g:cQ (n+1) l[i].1 b 300=some (bo (In l[i].1 b 300)):=by
   rw [oP];simp only [bR,iY,Z,In]
  rw [Rg,bu hi,bj hi];simp only [Y,Z,g,h _ (List.getElem_mem hi),bz,gH];exact eG (by grind)) (fun n m b=>by rw [Rg,cp];rfl)
 refine((k.and (oW a)).and (oW t)).nm fun n ⟨⟨j,f⟩,p⟩=> ?_
 have:=d.1;by_cases h:In a 0 300
 ·have hw:wrap .i64 (a+(l.length:Int))=a+l.length:=by unfold In at h;rw [IntKind.wrap_i64];omega
  rw [Rf,f,hw];simp only [Z,p,show vM n n 0 t l l.length=_ from j];unfold qd
  ((try simp only [bR,bz,Z,cZ,cC,Y,cT]);(try simp only [dy]);(repeat' split);all_goals first|rfl|(refine cE ?_;grind)|(refine dC ?_;grind)|(refine dD ?_;grind)|(exfalso;grind))
 ·rw [Rf,f,az h,az (P:=qd a t l) (fun k=>h k.1)]
  rfl
theorem TE (a b:af) (c d:ae) (vs:ae) (cs:ai) (nr err:Int) (dn:ah) (out:O) (h:iM a b c d) (f:vs.length≤1048576) (g:cs.length≤1048576) (j:dn.length≤1048576):
  W fun n=>zd n a b c d vs cs nr err dn out=some (bo (ou a b c d vs cs nr err dn out)):=by
 have k:=lK j (p:=fun x=>In x 0 100000) (r:=false) (b:=(vs,cs,nr,err,dn,out,a,b,c,d)) (L:=fun n m i=>vg n m vs cs nr err dn out a b c d i) ((W.all dn fun x _=>cR x 0 100000).mono fun n h m i hi=>by
  rw [Qr,bu hi,bj hi];simp only [Y,Z,h _ (List.getElem_mem hi),bz];exact eG (by simp)) (fun n m=>by rw [Qr,cp];rfl)
 refine((k.and (Jp a b c d h)).and (aAW vs cs nr err a.length b.length f g)).nm fun n ⟨⟨q,s⟩,t⟩=> ?_
 rw [apM,show vg n n vs cs nr err dn out a b c d 0=_ from q];simp only [Z,cC,s,t];unfold ou
 ((try simp only [bR,bk,Z,cZ]);(try simp only [dy]);(repeat' split);all_goals first|rfl|(refine cE ?_;grind)|(refine dC ?_;grind)|(refine dD ?_;grind)|(exfalso;grind))
theorem Jr (a b:af) (c d:ae) (vs:ae) (cs:ai) (nr err:Int) (dn:ah) (out:O) (h:iM a b c d) (f:vs.length≤1048576) (g:cs.length≤1048576) (j:dn.length≤1048576):
  W fun n=>vN n a b c d vs cs nr err dn out=some (bo (ou a b c d vs cs nr err dn out)):=by
 have k:W fun n=> ∀v∈dn,Hq n v=some (bo (¬In v 0 100000)):=W.all dn fun v _=>(dh v 0 100000).nm fun n e=>by
  rw [auB,e];simp only [Z,bz]
 have q:=jZ j (p:=fun v=> ¬In v 0 100000) (r:=fun i=>i) (b:=()) (L:=fun n m i=>Af n m i dn (dn.length:Int)) (k.mono fun n h m i hi=>by
   rw [Rr,bu hi,bj hi];simp only [Y,Z,h _ (List.getElem_mem hi)]) (fun n m=>by rw [Rr,cp];rfl)
 have k1:W fun n=>Hp n dn=some (bo (∃v∈dn,¬In v 0 100000)):=W.succ (q.nm fun n h=>by
   rw [atY,auA];refine DN (l:=dn) (p:=fun v=> ¬In v 0 100000) ?_
   rcases h with⟨h,i,e⟩|⟨h,e⟩
   ·exact .inl ⟨h,i,by rw [e];rfl⟩
   ·exact .inr ⟨h,by rw [e];rfl⟩)
 refine((k1.and (wE a b c d h)).and (Tz vs cs nr err a.length b.length f g)).nm fun n ⟨⟨s,t⟩,u⟩=> ?_
 rw [atK,t];simp only [Z,s,u];unfold ou
 ((try simp only [bR,bk,bz,Z,cZ]);(try simp only [dy]);(repeat' split);all_goals first|rfl|(refine cE ?_;grind)|(refine dC ?_;grind)|(refine dD ?_;grind)|(exfalso;grind))
theorem aBe (a b:af) (c d:ae) (tm g ba f:Int) (l:aY) (vs:ae) (cs:ai) (nr err:Int) (dn:ah) (out:O) (h:iM a b c d) (i:oV l) (j:vs.length≤1048576) (k:cs.length≤1048576) (m:dn.length≤1048576):
  W fun n=>FY n a b c d tm g ba f l vs cs nr err dn out=some (bo (uq a b c d tm g ba f l vs cs nr err dn out)):=by
 refine(((TE a b c d vs cs nr err dn out h j k m).and (aBa ba f l i)).and ((TB ba f l i.1).and ((cR tm 0 300).and (cR g (-1) 4)))).nm fun n ⟨⟨p,q⟩,r,s,t⟩=> ?_
 rw [apI,r];simp only [Z,p,q,s,t];unfold uq
 ((try simp only [bR,Z,cZ]);(try simp only [dy]);(repeat' split);all_goals first|rfl|(refine cE ?_;grind)|(refine dC ?_;grind)|(refine dD ?_;grind)|(exfalso;grind))
theorem aBf (a b:af) (c d:ae) (tm g ba f:Int) (l:aY) (vs:ae) (cs:ai) (nr err:Int) (dn:ah) (out:O) (h:iM a b c d) (i:oV l) (j:vs.length≤1048576) (k:cs.length≤1048576) (m:dn.length≤1048576):
  W fun n=>Hg n a b c d tm g ba f l vs cs nr err dn out=some (bo (uq a b c d tm g ba f l vs cs nr err dn out)):=by
 refine(((Jr a b c d vs cs nr err dn out h j k m).and (aBd ba f l i)).and ((TC ba f l i.1).and ((oW tm).and (aBb g)))).nm fun n ⟨⟨p,q⟩,r,s,t⟩=> ?_
 rw [atF,r];simp only [Z,p,q,s,t];unfold uq
 ((try simp only [bR,Z,cZ]);(try simp only [dy]);(repeat' split);all_goals first|rfl|(refine cE ?_;grind)|(refine dC ?_;grind)|(refine dD ?_;grind)|(exfalso;grind))
abbrev qK:Type:=Int×(Int×Int×Int×Int×aY×ae×ai×Int×Int×ah×O×Int×cg×ah×ah×Int×ae×ai×Int×Int×ah×O×bX×Int×bw)
abbrev BE:Type:=Ew
def gA (r:BE) (size:Int):Prop:=DY r.1 r.2.1 r.2.2.1 r.2.2.2.1 r.2.2.2.2.1 r.2.2.2.2.2.1 r.2.2.2.2.2.2.1 r.2.2.2.2.2.2.2.1 r.2.2.2.2.2.2.2.2.2 size
def BF (r:BE):Prop:=oV r.2.2.2.2.2.2.2.1
theorem aBg (l:aY) (d:Int) (f:oV l):W fun n=>Gc n l d=some (bo ((∀e∈l,lN d e)∧l.length≤40)):=by
 have k:=lK f.1 (p:=lN d) (r:=false) (b:=l) (L:=fun n m i=>vk n m i l d) (((W.all l fun e h=>wF e.2.1 e.2.2.1 e.2.2.2 (f.2 e h)).and (W.all l fun e _=>cR e.1 0 d)).mono fun n ⟨h,g⟩ m i hi=>by
  rw [Qv,bu hi,bj hi];simp only [Y,Z,h _ (List.getElem_mem hi),g _ (List.getElem_mem hi),bz,gH];exact eG (by unfold lN;grind)) (fun n m=>by rw [Qv,cp];rfl)
 refine k.nm fun n e=> ?_
 rw [apT,show vk n n 0 l d=_ from e];simp only [Z,cC]
 ((try simp only [bR]);(try simp only [dy]);(repeat' split);all_goals first|rfl|(refine cE ?_;grind)|(refine dC ?_;grind)|(refine dD ?_;grind)|(exfalso;grind))
theorem aBh (l:aY) (d:Int) (f:oV l):W fun n=>Hw n l d=some (bo ((∀e∈l,lN d e)∧l.length≤40)):=by
 have g:W fun n=> ∀e∈l,Hz n d e.1 e.2.1 e.2.2.1 e.2.2.2=some (bo (¬lN d e),d):=W.all l fun e _=>((dh e.1 0 d).and (BD e.2.1 e.2.2.1 e.2.2.2)).nm fun n ⟨j,k⟩=>by
  rw [auO,j];simp only [Z,k,bz,kG];unfold lN;rw [mO (show (¬In e.1 0 d∨ ¬eD e.2.1 e.2.2.1 e.2.2.2)↔ ¬(In e.1 0 d∧eD e.2.1 e.2.2.1 e.2.2.2) by grind)]
 have q:=jZ f.1 (p:=fun e=> ¬lN d e) (r:=fun i=>(i,d)) (b:=d) (L:=fun n m i=>Aj n m d i l (l.length:Int)) (g.mono fun n h m i hi=>by
   rw [Ru,bu hi,bj hi];simp only [Y,Z,h _ (List.getElem_mem hi)]) (fun n m=>by rw [Ru,cp];rfl)
 have k1:W fun n=>Hy n d l=some (bo (∃e∈l,¬lN d e),d):=W.succ (q.nm fun n h=>by
   rw [auM,auN];refine rK (l:=l) (p:=fun e=> ¬lN d e) (c:=d) ?_
   rcases h with⟨h,i,e⟩|⟨h,e⟩
   ·exact .inl ⟨h,i,by rw [e];rfl⟩
   ·exact .inr ⟨h,by rw [e];rfl⟩)
 refine k1.nm fun n e=> ?_
 rw [auL,e];simp only [Z]
 ((try simp only [bR,bz]);(try simp only [dy]);(repeat' split);all_goals first|rfl|(refine cE ?_;grind)|(refine dC ?_;grind)|(refine dD ?_;grind)|(exfalso;grind))
theorem TF (r:BE) (size:Int) (h:BF r):W fun n=>zj n r.1 r.2.1 r.2.2.1 r.2.2.2.1 r.2.2.2.2.1 r.2.2.2.2.2.1 r.2.2.2.2.2.2.1 r.2.2.2.2.2.2.2.1 r.2.2.2.2.2.2.2.2.1 r.2.2.2.2.2.2.2.2.2 size=some (bo (gA r size)):=by
 refine(((((cR r.1 1 5).and (cR size 1 5)).and ((cR r.2.1 0 (wrap .i64 (size-1))).and (cR r.2.2.1 0 (wrap .i64 (size-1))))).and (((cR r.2.2.2.1 0 300).and (cR r.2.2.2.2.1 0 300)).and ((cR r.2.2.2.2.2.1 0 300).and (cR r.2.2.2.2.2.2.1 0 300)))).and (aBg r.2.2.2.2.2.2.2.1 r.2.2.2.1 h)).nm fun n ⟨⟨⟨⟨b,d⟩,f,g⟩,⟨i,j⟩,k,m⟩,p⟩=> ?_
 rw [apS,b];simp only [Z,d,f,g,i,j,k,m,p];unfold gA DY
 ((try simp only [bR,bk,bz,Z,cZ,Y]);(try simp only [dy]);(repeat' split);all_goals first|rfl|(refine cE ?_;grind)|(refine dC ?_;grind)|(refine dD ?_;grind)|(exfalso;grind))
theorem TG (r:BE) (size:Int) (h:BF r):W fun n=>Ai n r.1 r.2.1 r.2.2.1 r.2.2.2.1 r.2.2.2.2.1 r.2.2.2.2.2.1 r.2.2.2.2.2.2.1 r.2.2.2.2.2.2.2.1 r.2.2.2.2.2.2.2.2.1 r.2.2.2.2.2.2.2.2.2 size=some (bo (gA r size)):=by
 refine(((((dh r.1 1 5).and (dh size 1 5)).and ((dh r.2.1 0 (wrap .i64 (size-1))).and (dh r.2.2.1 0 (wrap .i64 (size-1))))).and (((oW r.2.2.2.1).and (oW r.2.2.2.2.1)).and ((oW r.2.2.2.2.2.1).and (oW r.2.2.2.2.2.2.1)))).and (aBh r.2.2.2.2.2.2.2.1 r.2.2.2.1 h)).nm fun n ⟨⟨⟨⟨b,d⟩,f,g⟩,⟨i,j⟩,k,m⟩,p⟩=> ?_
 rw [auK,b];simp only [Z,d,f,g,i,j,k,m,p];unfold gA DY
 ((try simp only [bR,bk,bz,Z,cZ,Y]);(try simp only [dy]);(repeat' split);all_goals first|rfl|(refine cE ?_;grind)|(refine dC ?_;grind)|(refine dD ?_;grind)|(exfalso;grind))
def wG (b:bX) (sure:Int):Prop:=b.length≤80000∧In sure 0 b.length
theorem aBi (b:bX) (s:Int):W fun n=>Gd n b s=some (bo (wG b s)):=by
 refine(cR s 0 b.length).nm fun n e=> ?_
 rw [apU,e];unfold wG
 ((try simp only [bR,Z,cZ]);(try simp only [dy]);(repeat' split);all_goals first|rfl|(refine cE ?_;grind)|(refine dC ?_;grind)|(refine dD ?_;grind)|(exfalso;grind))
theorem aBj (b:bX) (s:Int):W fun n=>Ht n b s=some (bo (wG b s)):=by
 refine(dh s 0 b.length).nm fun n e=> ?_
 rw [auG,e];unfold wG
 ((try simp only [bR,Z,cZ]);(try simp only [dy]);(repeat' split);all_goals first|rfl|(refine cE ?_;grind)|(refine dC ?_;grind)|(refine dD ?_;grind)|(exfalso;grind))
theorem Js (l:ah) (many lo hi:Int) (d:l.length≤1048576):W fun n=>qB n l many lo hi=some (bo ((l.length:Int)=many∧ ∀x∈l,In x lo hi)):=by
 have f:W fun n=> ∀e∈l,Hs n lo hi e=some (bo (¬In e lo hi),lo,hi):=W.all l fun e _=>(dh e lo hi).nm fun n g=>by
  rw [auF,g];simp only [Z,bz]
 have j:=jZ d (p:=fun e=> ¬In e lo hi) (r:=fun i=>(i,lo,hi)) (b:=(lo,hi)) (L:=fun n m i=>Ag n m lo hi i l (l.length:Int)) (f.mono fun n h m i hi=>by
   rw [Rs,bu hi,bj hi];simp only [Y,Z,h _ (List.getElem_mem hi)]) (fun n m=>by rw [Rs,cp];rfl)
 have k1:W fun n=>Hr n lo hi l=some (bo (∃e∈l,¬In e lo hi),lo,hi):=W.succ (j.nm fun n h=>by
   rw [auD,auE];refine rK (l:=l) (p:=fun e=> ¬In e lo hi) (c:=(lo,hi)) ?_
   rcases h with⟨h,i,e⟩|⟨h,e⟩
   ·exact .inl ⟨h,i,by rw [e];rfl⟩
   ·exact .inr ⟨h,by rw [e];rfl⟩)
 refine k1.nm fun n e=> ?_
 rw [auC,e];simp only [Z]
 ((try simp only [bk,bz]);(try simp only [dy]);(repeat' split);all_goals first|rfl|(refine cE ?_;grind)|(refine dC ?_;grind)|(refine dD ?_;grind)|(exfalso;grind))
def Jt (a b:af) (c d:ae) (p:qK):Prop:=uq a b c d p.2.1 p.2.2.1 p.2.2.2.1 p.2.2.2.2.1 p.2.2.2.2.2.1 p.2.2.2.2.2.2.1 p.2.2.2.2.2.2.2.1 p.2.2.2.2.2.2.2.2.1 p.2.2.2.2.2.2.2.2.2.1 p.2.2.2.2.2.2.2.2.2.2.1 p.2.2.2.2.2.2.2.2.2.2.2.1
def Ju (a b:af) (c d:ae) (p:qK):Prop:=ou a b c d p.2.2.2.2.2.2.2.2.2.2.2.2.2.2.2.2.2.1 p.2.2.2.2.2.2.2.2.2.2.2.2.2.2.2.2.2.2.1 p.2.2.2.2.2.2.2.2.2.2.2.2.2.2.2.2.2.2.2.1 p.2.2.2.2.2.2.2.2.2.2.2.2.2.2.2.2.2.2.2.2.1 p.2.2.2.2.2.2.2.2.2.2.2.2.2.2.2.2.2.2.2.2.2.1 p.2.2.2.2.2.2.2.2.2.2.2.2.2.2.2.2.2.2.2.2.2.2.1
def eY (p:qK):Int:=(ox p.2.2.2.1 p.2.2.2.2.1 p.2.2.2.2.2.1).1
def nn (a b:af) (c d:ae) (p:qK) (size:Int):Prop:=
 In size 1 5∧In p.1 0 (wrap .i64 (size-1))∧Jt a b c d p∧p.2.2.1<size∧In p.2.2.2.2.2.2.2.2.2.2.2.2.1 0 2∧(p.2.2.2.2.2.2.2.2.2.2.2.2.2.1.length:Int)=size∧(p.2.2.2.2.2.2.2.2.2.2.2.2.2.2.1.length:Int)=size∧(p.2.2.2.2.2.2.2.2.2.2.2.2.2.2.2.1.length:Int)=size∧
 (∀x∈p.2.2.2.2.2.2.2.2.2.2.2.2.2.2.1,In x 1 (wrap .i64 (eY p+1)))∧(∀x∈p.2.2.2.2.2.2.2.2.2.2.2.2.2.2.2.1,In x 0 (eY p))∧(∀r∈p.2.2.2.2.2.2.2.2.2.2.2.2.2.2.2.2.2.2.2.2.2.2.2.2.2,gA r size∧r.2.1=p.1)∧In p.2.2.2.2.2.2.2.2.2.2.2.2.2.2.2.2.1 p.2.2.2.1 (eY p)∧Ju a b c d p∧wG p.2.2.2.2.2.2.2.2.2.2.2.2.2.2.2.2.2.2.2.2.2.2.2.1 p.2.2.2.2.2.2.2.2.2.2.2.2.2.2.2.2.2.2.2.2.2.2.2.2.1∧p.2.2.2.2.2.2.2.2.2.2.2.2.2.2.2.2.2.2.2.2.2.2.2.2.2.length≤40
def Jv (p:qK):Prop:=oV p.2.2.2.2.2.1∧p.2.2.2.2.2.2.1.length≤1048576∧p.2.2.2.2.2.2.2.1.length≤1048576∧p.2.2.2.2.2.2.2.2.2.2.1.length≤1048576∧p.2.2.2.2.2.2.2.2.2.2.2.2.2.2.1.length≤1048576∧p.2.2.2.2.2.2.2.2.2.2.2.2.2.2.2.1.length≤1048576∧p.2.2.2.2.2.2.2.2.2.2.2.2.2.2.2.2.2.1.length≤1048576∧p.2.2.2.2.2.2.2.2.2.2.2.2.2.2.2.2.2.2.1.length≤1048576∧p.2.2.2.2.2.2.2.2.2.2.2.2.2.2.2.2.2.2.2.2.2.1.length≤1048576∧p.2.2.2.2.2.2.2.2.2.2.2.2.2.2.2.2.2.2.2.2.2.2.2.2.2.length≤1048576∧ ∀r∈p.2.2.2.2.2.2.2.2.2.2.2.2.2.2.2.2.2.2.2.2.2.2.2.2.2,BF r
theorem aBk (a b:af) (c d:ae) (p:qK) (size:Int) (h:iM a b c d) (hp:Jv p):W fun n=>Hf n a b c d p.1 p.2.1 p.2.2.1 p.2.2.2.1 p.2.2.2.2.1 p.2.2.2.2.2.1 p.2.2.2.2.2.2.1 p.2.2.2.2.2.2.2.1 p.2.2.2.2.2.2.2.2.1 p.2.2.2.2.2.2.2.2.2.1 p.2.2.2.2.2.2.2.2.2.2.1 p.2.2.2.2.2.2.2.2.2.2.2.1 p.2.2.2.2.2.2.2.2.2.2.2.2.1 p.2.2.2.2.2.2.2.2.2.2.2.2.2.1 p.2.2.2.2.2.2.2.2.2.2.2.2.2.2.1 p.2.2.2.2.2.2.2.2.2.2.2.2.2.2.2.1 p.2.2.2.2.2.2.2.2.2.2.2.2.2.2.2.2.1 p.2.2.2.2.2.2.2.2.2.2.2.2.2.2.2.2.2.1 p.2.2.2.2.2.2.2.2.2.2.2.2.2.2.2.2.2.2.1 p.2.2.2.2.2.2.2.2.2.2.2.2.2.2.2.2.2.2.2.1 p.2.2.2.2.2.2.2.2.2.2.2.2.2.2.2.2.2.2.2.2.1 p.2.2.2.2.2.2.2.2.2.2.2.2.2.2.2.2.2.2.2.2.2.1 p.2.2.2.2.2.2.2.2.2.2.2.2.2.2.2.2.2.2.2.2.2.2.1 p.2.2.2.2.2.2.2.2.2.2.2.2.2.2.2.2.2.2.2.2.2.2.2.1 p.2.2.2.2.2.2.2.2.2.2.2.2.2.2.2.2.2.2.2.2.2.2.2.2.1 p.2.2.2.2.2.2.2.2.2.2.2.2.2.2.2.2.2.2.2.2.2.2.2.2.2 size=some (bo (nn a b c d p size)):=by
 obtain⟨hl,h6,h7,f,g,j,k,q,s,t,hr⟩:=hp;have k0:W fun n=> ∀r∈p.2.2.2.2.2.2.2.2.2.2.2.2.2.2.2.2.2.2.2.2.2.2.2.2.2,Hv n size p.1 p.2.1 p.2.2.1 p.2.2.2.1 p.2.2.2.2.1 p.2.2.2.2.2.1 p.2.2.2.2.2.2.1 p.2.2.2.2.2.2.2.1 p.2.2.2.2.2.2.2.2.1 p.2.2.2.2.2.2.2.2.2.1 p.2.2.2.2.2.2.2.2.2.2.1 p.2.2.2.2.2.2.2.2.2.2.2.1 p.2.2.2.2.2.2.2.2.2.2.2.2.1 p.2.2.2.2.2.2.2.2.2.2.2.2.2.1 p.2.2.2.2.2.2.2.2.2.2.2.2.2.2.1 p.2.2.2.2.2.2.2.2.2.2.2.2.2.2.2.1 p.2.2.2.2.2.2.2.2.2.2.2.2.2.2.2.2.1 p.2.2.2.2.2.2.2.2.2.2.2.2.2.2.2.2.2.1 p.2.2.2.2.2.2.2.2.2.2.2.2.2.2.2.2.2.2.1 p.2.2.2.2.2.2.2.2.2.2.2.2.2.2.2.2.2.2.2.1 p.2.2.2.2.2.2.2.2.2.2.2.2.2.2.2.2.2.2.2.2.1 p.2.2.2.2.2.2.2.2.2.2.2.2.2.2.2.2.2.2.2.2.2.1 p.2.2.2.2.2.2.2.2.2.2.2.2.2.2.2.2.2.2.2.2.2.2.1 p.2.2.2.2.2.2.2.2.2.2.2.2.2.2.2.2.2.2.2.2.2.2.2.1 p.2.2.2.2.2.2.2.2.2.2.2.2.2.2.2.2.2.2.2.2.2.2.2.2.1 p.2.2.2.2.2.2.2.2.2.2.2.2.2.2.2.2.2.2.2.2.2.2.2.2.2 r.1 r.2.1 r.2.2.1 r.2.2.2.1 r.2.2.2.2.1 r.2.2.2.2.2.1 r.2.2.2.2.2.2.1 r.2.2.2.2.2.2.2.1 r.2.2.2.2.2.2.2.2.1 r.2.2.2.2.2.2.2.2.2=some (bo (¬(gA r size∧r.2.1=p.1)),size,p):=W.all _ fun r hm=>(TG r size (hr r hm)).nm fun n e1=>by
  rw [auJ,e1];simp only [Z,bz,cq,kG];rw [mO (show (¬gA r size∨ ¬r.2.1=p.1)↔ ¬(gA r size∧r.2.1=p.1) by grind)]
 have h':=jZ t (p:=fun r=> ¬(gA r size∧r.2.1=p.1)) (r:=fun i=>(i,size,p)) (b:=(size,p)) (L:=fun n m i=>Ah n m size p.1 p.2.1 p.2.2.1 p.2.2.2.1 p.2.2.2.2.1 p.2.2.2.2.2.1 p.2.2.2.2.2.2.1 p.2.2.2.2.2.2.2.1 p.2.2.2.2.2.2.2.2.1 p.2.2.2.2.2.2.2.2.2.1 p.2.2.2.2.2.2.2.2.2.2.1 p.2.2.2.2.2.2.2.2.2.2.2.1 p.2.2.2.2.2.2.2.2.2.2.2.2.1 p.2.2.2.2.2.2.2.2.2.2.2.2.2.1 p.2.2.2.2.2.2.2.2.2.2.2.2.2.2.1 p.2.2.2.2.2.2.2.2.2.2.2.2.2.2.2.1 p.2.2.2.2.2.2.2.2.2.2.2.2.2.2.2.2.1 p.2.2.2.2.2.2.2.2.2.2.2.2.2.2.2.2.2.1 p.2.2.2.2.2.2.2.2.2.2.2.2.2.2.2.2.2.2.1 p.2.2.2.2.2.2.2.2.2.2.2.2.2.2.2.2.2.2.2.1 p.2.2.2.2.2.2.2.2.2.2.2.2.2.2.2.2.2.2.2.2.1 p.2.2.2.2.2.2.2.2.2.2.2.2.2.2.2.2.2.2.2.2.2.1 p.2.2.2.2.2.2.2.2.2.2.2.2.2.2.2.2.2.2.2.2.2.2.1 p.2.2.2.2.2.2.2.2.2.2.2.2.2.2.2.2.2.2.2.2.2.2.2.1 p.2.2.2.2.2.2.2.2.2.2.2.2.2.2.2.2.2.2.2.2.2.2.2.2.1 p.2.2.2.2.2.2.2.2.2.2.2.2.2.2.2.2.2.2.2.2.2.2.2.2.2 i p.2.2.2.2.2.2.2.2.2.2.2.2.2.2.2.2.2.2.2.2.2.2.2.2.2 (p.2.2.2.2.2.2.2.2.2.2.2.2.2.2.2.2.2.2.2.2.2.2.2.2.2.length:Int)) (k0.mono fun n h m i hi=>by
   rw [Rt,bu hi,bj hi];simp only [Y,Z,h _ (List.getElem_mem hi)]) (fun n m=>by rw [Rt,cp];rfl)
 have k1:W fun n=>Hu n size p.1 p.2.1 p.2.2.1 p.2.2.2.1 p.2.2.2.2.1 p.2.2.2.2.2.1 p.2.2.2.2.2.2.1 p.2.2.2.2.2.2.2.1 p.2.2.2.2.2.2.2.2.1 p.2.2.2.2.2.2.2.2.2.1 p.2.2.2.2.2.2.2.2.2.2.1 p.2.2.2.2.2.2.2.2.2.2.2.1 p.2.2.2.2.2.2.2.2.2.2.2.2.1 p.2.2.2.2.2.2.2.2.2.2.2.2.2.1 p.2.2.2.2.2.2.2.2.2.2.2.2.2.2.1 p.2.2.2.2.2.2.2.2.2.2.2.2.2.2.2.1 p.2.2.2.2.2.2.2.2.2.2.2.2.2.2.2.2.1 p.2.2.2.2.2.2.2.2.2.2.2.2.2.2.2.2.2.1 p.2.2.2.2.2.2.2.2.2.2.2.2.2.2.2.2.2.2.1 p.2.2.2.2.2.2.2.2.2.2.2.2.2.2.2.2.2.2.2.1 p.2.2.2.2.2.2.2.2.2.2.2.2.2.2.2.2.2.2.2.2.1 p.2.2.2.2.2.2.2.2.2.2.2.2.2.2.2.2.2.2.2.2.2.1 p.2.2.2.2.2.2.2.2.2.2.2.2.2.2.2.2.2.2.2.2.2.2.1 p.2.2.2.2.2.2.2.2.2.2.2.2.2.2.2.2.2.2.2.2.2.2.2.1 p.2.2.2.2.2.2.2.2.2.2.2.2.2.2.2.2.2.2.2.2.2.2.2.2.1 p.2.2.2.2.2.2.2.2.2.2.2.2.2.2.2.2.2.2.2.2.2.2.2.2.2 p.2.2.2.2.2.2.2.2.2.2.2.2.2.2.2.2.2.2.2.2.2.2.2.2.2=some (bo (∃r∈p.2.2.2.2.2.2.2.2.2.2.2.2.2.2.2.2.2.2.2.2.2.2.2.2.2,¬(gA r size∧r.2.1=p.1)),size,p):=W.succ (h'.nm fun n h=>by
   rw [auH,auI];refine rK (l:=p.2.2.2.2.2.2.2.2.2.2.2.2.2.2.2.2.2.2.2.2.2.2.2.2.2) (p:=fun r=> ¬(gA r size∧r.2.1=p.1)) (c:=(size,p)) ?_
   rcases h with⟨h,i,e⟩|⟨h,e⟩
   ·exact .inl ⟨h,i,by rw [e];rfl⟩
   ·exact .inr ⟨h,by rw [e];rfl⟩)
 have k2:=aBf a b c d p.2.1 p.2.2.1 p.2.2.2.1 p.2.2.2.2.1 p.2.2.2.2.2.1 p.2.2.2.2.2.2.1 p.2.2.2.2.2.2.2.1 p.2.2.2.2.2.2.2.2.1 p.2.2.2.2.2.2.2.2.2.1 p.2.2.2.2.2.2.2.2.2.2.1 p.2.2.2.2.2.2.2.2.2.2.2.1 h hl h6 h7 f;have k3:=Jr a b c d p.2.2.2.2.2.2.2.2.2.2.2.2.2.2.2.2.2.1 p.2.2.2.2.2.2.2.2.2.2.2.2.2.2.2.2.2.2.1 p.2.2.2.2.2.2.2.2.2.2.2.2.2.2.2.2.2.2.2.1 p.2.2.2.2.2.2.2.2.2.2.2.2.2.2.2.2.2.2.2.2.1 p.2.2.2.2.2.2.2.2.2.2.2.2.2.2.2.2.2.2.2.2.2.1 p.2.2.2.2.2.2.2.2.2.2.2.2.2.2.2.2.2.2.2.2.2.2.1 h k q s;have k4:=TC p.2.2.2.1 p.2.2.2.2.1 p.2.2.2.2.2.1 hl.1;have k5:=Js p.2.2.2.2.2.2.2.2.2.2.2.2.2.2.1 size 1 (wrap .i64 (eY p+1)) g;have k6:=Js p.2.2.2.2.2.2.2.2.2.2.2.2.2.2.2.1 size 0 (eY p) j;have k7:=aBj p.2.2.2.2.2.2.2.2.2.2.2.2.2.2.2.2.2.2.2.2.2.2.2.1 p.2.2.2.2.2.2.2.2.2.2.2.2.2.2.2.2.2.2.2.2.2.2.2.2.1;refine(((k1.and (k2.and k3)).and ((k4.and k5).and (k6.and k7))).and (((dh size 1 5).and (dh p.1 0 (wrap .i64 (size-1)))).and ((dh p.2.2.2.2.2.2.2.2.2.2.2.2.1 0 2).and (dh p.2.2.2.2.2.2.2.2.2.2.2.2.2.2.2.2.1 p.2.2.2.1 (eY p))))).nm fun n ⟨⟨⟨e1,e2,e3⟩,⟨e4,e5⟩,e6,e7⟩,⟨e8,e9⟩,u,z⟩=> ?_
 rw [atE,e8,e4];simp only [Z,show(ox p.2.2.2.1 p.2.2.2.2.1 p.2.2.2.2.2.1).1=eY p from rfl,e1,e2,e3,e5,e6,e7,e9,u,z];clear e1 e2 e3 e4 e5 e6 e7 e8 e9 u z k0 k1 k2 k3 k4 k5 k6 k7 h' hr hl h6 h7 f g j k q s t h;simp only [bR,cq,bz,kG,uj,Z];refine cE ?_
 unfold nn Jt Ju;grind
theorem aBl (a b:af) (c d:ae) (p:qK) (size:Int) (h:iM a b c d) (hp:Jv p):W fun n=>FX n a b c d p.1 p.2.1 p.2.2.1 p.2.2.2.1 p.2.2.2.2.1 p.2.2.2.2.2.1 p.2.2.2.2.2.2.1 p.2.2.2.2.2.2.2.1 p.2.2.2.2.2.2.2.2.1 p.2.2.2.2.2.2.2.2.2.1 p.2.2.2.2.2.2.2.2.2.2.1 p.2.2.2.2.2.2.2.2.2.2.2.1 p.2.2.2.2.2.2.2.2.2.2.2.2.1 p.2.2.2.2.2.2.2.2.2.2.2.2.2.1 p.2.2.2.2.2.2.2.2.2.2.2.2.2.2.1 p.2.2.2.2.2.2.2.2.2.2.2.2.2.2.2.1 p.2.2.2.2.2.2.2.2.2.2.2.2.2.2.2.2.1 p.2.2.2.2.2.2.2.2.2.2.2.2.2.2.2.2.2.1 p.2.2.2.2.2.2.2.2.2.2.2.2.2.2.2.2.2.2.1 p.2.2.2.2.2.2.2.2.2.2.2.2.2.2.2.2.2.2.2.1 p.2.2.2.2.2.2.2.2.2.2.2.2.2.2.2.2.2.2.2.2.1 p.2.2.2.2.2.2.2.2.2.2.2.2.2.2.2.2.2.2.2.2.2.1 p.2.2.2.2.2.2.2.2.2.2.2.2.2.2.2.2.2.2.2.2.2.2.1 p.2.2.2.2.2.2.2.2.2.2.2.2.2.2.2.2.2.2.2.2.2.2.2.1 p.2.2.2.2.2.2.2.2.2.2.2.2.2.2.2.2.2.2.2.2.2.2.2.2.1 p.2.2.2.2.2.2.2.2.2.2.2.2.2.2.2.2.2.2.2.2.2.2.2.2.2 size=some (bo (nn a b c d p size)):=by
 obtain⟨hl,h6,h7,k,s,ak,t,u,z,ad,hr⟩:=hp;have k2:=aBe a b c d p.2.1 p.2.2.1 p.2.2.2.1 p.2.2.2.2.1 p.2.2.2.2.2.1 p.2.2.2.2.2.2.1 p.2.2.2.2.2.2.2.1 p.2.2.2.2.2.2.2.2.1 p.2.2.2.2.2.2.2.2.2.1 p.2.2.2.2.2.2.2.2.2.2.1 p.2.2.2.2.2.2.2.2.2.2.2.1 h hl h6 h7 k;have k3:=TE a b c d p.2.2.2.2.2.2.2.2.2.2.2.2.2.2.2.2.2.1 p.2.2.2.2.2.2.2.2.2.2.2.2.2.2.2.2.2.2.1 p.2.2.2.2.2.2.2.2.2.2.2.2.2.2.2.2.2.2.2.1 p.2.2.2.2.2.2.2.2.2.2.2.2.2.2.2.2.2.2.2.2.1 p.2.2.2.2.2.2.2.2.2.2.2.2.2.2.2.2.2.2.2.2.2.1 p.2.2.2.2.2.2.2.2.2.2.2.2.2.2.2.2.2.2.2.2.2.2.1 h t u z;have k4:=TB p.2.2.2.1 p.2.2.2.2.1 p.2.2.2.2.2.1 hl.1;have k7:=aBi p.2.2.2.2.2.2.2.2.2.2.2.2.2.2.2.2.2.2.2.2.2.2.2.1 p.2.2.2.2.2.2.2.2.2.2.2.2.2.2.2.2.2.2.2.2.2.2.2.2.1;have k8:=(((k2.and k3).and (k4.and k7)).and (((cR size 1 5).and (cR p.1 0 (wrap .i64 (size-1)))).and ((cR p.2.2.2.2.2.2.2.2.2.2.2.2.1 0 2).and (cR p.2.2.2.2.2.2.2.2.2.2.2.2.2.2.2.2.1 p.2.2.2.1 (eY p)))));by_cases hg:(p.2.2.2.2.2.2.2.2.2.2.2.2.2.2.1.length:Int)=size∧(p.2.2.2.2.2.2.2.2.2.2.2.2.2.2.2.1.length:Int)=size
 ·obtain⟨g1,g2⟩:=hg
  have q1:=kH s (q:=fun i=>At p.2.2.2.2.2.2.2.2.2.2.2.2.2.2.1 (fun x=>In x 1 (wrap .i64 (eY p+1))) i∧At p.2.2.2.2.2.2.2.2.2.2.2.2.2.2.2.1 (fun x=>In x 0 (eY p)) i) (r:=false) (b:=(p.1,p.2.1,p.2.2.1,p.2.2.2.1,p.2.2.2.2.1,p.2.2.2.2.2.1,p.2.2.2.2.2.2.1,p.2.2.2.2.2.2.2.1,p.2.2.2.2.2.2.2.2.1,p.2.2.2.2.2.2.2.2.2.1,p.2.2.2.2.2.2.2.2.2.2.1,p.2.2.2.2.2.2.2.2.2.2.2.1,p.2.2.2.2.2.2.2.2.2.2.2.2.1,p.2.2.2.2.2.2.2.2.2.2.2.2.2.1,p.2.2.2.2.2.2.2.2.2.2.2.2.2.2.1,p.2.2.2.2.2.2.2.2.2.2.2.2.2.2.2.1,p.2.2.2.2.2.2.2.2.2.2.2.2.2.2.2.2.1,p.2.2.2.2.2.2.2.2.2.2.2.2.2.2.2.2.2.1,p.2.2.2.2.2.2.2.2.2.2.2.2.2.2.2.2.2.2.1,p.2.2.2.2.2.2.2.2.2.2.2.2.2.2.2.2.2.2.2.1,p.2.2.2.2.2.2.2.2.2.2.2.2.2.2.2.2.2.2.2.2.1,p.2.2.2.2.2.2.2.2.2.2.2.2.2.2.2.2.2.2.2.2.2.1,p.2.2.2.2.2.2.2.2.2.2.2.2.2.2.2.2.2.2.2.2.2.2.1,p.2.2.2.2.2.2.2.2.2.2.2.2.2.2.2.2.2.2.2.2.2.2.2.1,p.2.2.2.2.2.2.2.2.2.2.2.2.2.2.2.2.2.2.2.2.2.2.2.2.1,p.2.2.2.2.2.2.2.2.2.2.2.2.2.2.2.2.2.2.2.2.2.2.2.2.2,a,b,c,d,size,eY p)) (L:=fun n m i=>uZ n m p.1 p.2.1 p.2.2.1 p.2.2.2.1 p.2.2.2.2.1 p.2.2.2.2.2.1 p.2.2.2.2.2.2.1 p.2.2.2.2.2.2.2.1 p.2.2.2.2.2.2.2.2.1 p.2.2.2.2.2.2.2.2.2.1 p.2.2.2.2.2.2.2.2.2.2.1 p.2.2.2.2.2.2.2.2.2.2.2.1 p.2.2.2.2.2.2.2.2.2.2.2.2.1 p.2.2.2.2.2.2.2.2.2.2.2.2.2.1 p.2.2.2.2.2.2.2.2.2.2.2.2.2.2.1 p.2.2.2.2.2.2.2.2.2.2.2.2.2.2.2.1 p.2.2.2.2.2.2.2.2.2.2.2.2.2.2.2.2.1 p.2.2.2.2.2.2.2.2.2.2.2.2.2.2.2.2.2.1 p.2.2.2.2.2.2.2.2.2.2.2.2.2.2.2.2.2.2.1 p.2.2.2.2.2.2.2.2.2.2.2.2.2.2.2.2.2.2.2.1 p.2.2.2.2.2.2.2.2.2.2.2.2.2.2.2.2.2.2.2.2.1 p.2.2.2.2.2.2.2.2.2.2.2.2.2.2.2.2.2.2.2.2.2.1 p.2.2.2.2.2.2.2.2.2.2.2.2.2.2.2.2.2.2.2.2.2.2.1 p.2.2.2.2.2.2.2.2.2.2.2.2.2.2.2.2.2.2.2.2.2.2.2.1 p.2.2.2.2.2.2.2.2.2.2.2.2.2.2.2.2.2.2.2.2.2.2.2.2.1 p.2.2.2.2.2.2.2.2.2.2.2.2.2.2.2.2.2.2.2.2.2.2.2.2.2 a b c d i (eY p) size) (((W.all p.2.2.2.2.2.2.2.2.2.2.2.2.2.2.1 fun x _=>cR x 1 (wrap .i64 (eY p+1))).and (W.all p.2.2.2.2.2.2.2.2.2.2.2.2.2.2.2.1 fun x _=>cR x 0 (eY p))).mono fun n ⟨h,h'⟩ m i hi=>by
   have g:i<p.2.2.2.2.2.2.2.2.2.2.2.2.2.2.2.1.length:=by omega
   rw [Qm,ez (by omega),bj hi,bj g]
   simp only [Y,Z,h _ (List.getElem_mem hi),h' _ (List.getElem_mem g),bz,gH,kJ hi,kJ g];exact eG (by grind)) (fun n m=>by rw [Qm,hJ (by omega)];rfl)
  have q2:=lK ad (p:=fun r=>gA r size∧r.2.1=p.1) (r:=false) (b:=(p.1,p.2.1,p.2.2.1,p.2.2.2.1,p.2.2.2.2.1,p.2.2.2.2.2.1,p.2.2.2.2.2.2.1,p.2.2.2.2.2.2.2.1,p.2.2.2.2.2.2.2.2.1,p.2.2.2.2.2.2.2.2.2.1,p.2.2.2.2.2.2.2.2.2.2.1,p.2.2.2.2.2.2.2.2.2.2.2.1,p.2.2.2.2.2.2.2.2.2.2.2.2.1,p.2.2.2.2.2.2.2.2.2.2.2.2.2.1,p.2.2.2.2.2.2.2.2.2.2.2.2.2.2.1,p.2.2.2.2.2.2.2.2.2.2.2.2.2.2.2.1,p.2.2.2.2.2.2.2.2.2.2.2.2.2.2.2.2.1,p.2.2.2.2.2.2.2.2.2.2.2.2.2.2.2.2.2.1,p.2.2.2.2.2.2.2.2.2.2.2.2.2.2.2.2.2.2.1,p.2.2.2.2.2.2.2.2.2.2.2.2.2.2.2.2.2.2.2.1,p.2.2.2.2.2.2.2.2.2.2.2.2.2.2.2.2.2.2.2.2.1,p.2.2.2.2.2.2.2.2.2.2.2.2.2.2.2.2.2.2.2.2.2.1,p.2.2.2.2.2.2.2.2.2.2.2.2.2.2.2.2.2.2.2.2.2.2.1,p.2.2.2.2.2.2.2.2.2.2.2.2.2.2.2.2.2.2.2.2.2.2.2.1,p.2.2.2.2.2.2.2.2.2.2.2.2.2.2.2.2.2.2.2.2.2.2.2.2.1,p.2.2.2.2.2.2.2.2.2.2.2.2.2.2.2.2.2.2.2.2.2.2.2.2.2,a,b,c,d,eY p)) (L:=fun n m i=>vd n m p.1 p.2.1 p.2.2.1 p.2.2.2.1 p.2.2.2.2.1 p.2.2.2.2.2.1 p.2.2.2.2.2.2.1 p.2.2.2.2.2.2.2.1 p.2.2.2.2.2.2.2.2.1 p.2.2.2.2.2.2.2.2.2.1 p.2.2.2.2.2.2.2.2.2.2.1 p.2.2.2.2.2.2.2.2.2.2.2.1 p.2.2.2.2.2.2.2.2.2.2.2.2.1 p.2.2.2.2.2.2.2.2.2.2.2.2.2.1 p.2.2.2.2.2.2.2.2.2.2.2.2.2.2.1 p.2.2.2.2.2.2.2.2.2.2.2.2.2.2.2.1 p.2.2.2.2.2.2.2.2.2.2.2.2.2.2.2.2.1 p.2.2.2.2.2.2.2.2.2.2.2.2.2.2.2.2.2.1 p.2.2.2.2.2.2.2.2.2.2.2.2.2.2.2.2.2.2.1 p.2.2.2.2.2.2.2.2.2.2.2.2.2.2.2.2.2.2.2.1 p.2.2.2.2.2.2.2.2.2.2.2.2.2.2.2.2.2.2.2.2.1 p.2.2.2.2.2.2.2.2.2.2.2.2.2.2.2.2.2.2.2.2.2.1 p.2.2.2.2.2.2.2.2.2.2.2.2.2.2.2.2.2.2.2.2.2.2.1 p.2.2.2.2.2.2.2.2.2.2.2.2.2.2.2.2.2.2.2.2.2.2.2.1 p.2.2.2.2.2.2.2.2.2.2.2.2.2.2.2.2.2.2.2.2.2.2.2.2.1 p.2.2.2.2.2.2.2.2.2.2.2.2.2.2.2.2.2.2.2.2.2.2.2.2.2 a b c d i size (eY p)) ((W.all p.2.2.2.2.2.2.2.2.2.2.2.2.2.2.2.2.2.2.2.2.2.2.2.2.2 fun r hm=>TF r size (hr r hm)).mono fun n h m i hi=>by
   rw [Qn,bu hi,bj hi];simp only [Y,Z,h _ (List.getElem_mem hi),bz,cq,gH];exact eG (by grind)) (fun n m=>by rw [Qn,cp];rfl)
  refine(k8.and (q1.and q2)).nm fun n ⟨⟨⟨⟨e2,e3⟩,e4,e7⟩,⟨e8,e9⟩,f,j⟩,e5,e6⟩=> ?_
  rw [Ql,e8,e4];simp only [Z,show(ox p.2.2.2.1 p.2.2.2.2.1 p.2.2.2.2.2.1).1=eY p from rfl,show uZ n n p.1 p.2.1 p.2.2.1 p.2.2.2.1 p.2.2.2.2.1 p.2.2.2.2.2.1 p.2.2.2.2.2.2.1 p.2.2.2.2.2.2.2.1 p.2.2.2.2.2.2.2.2.1 p.2.2.2.2.2.2.2.2.2.1 p.2.2.2.2.2.2.2.2.2.2.1 p.2.2.2.2.2.2.2.2.2.2.2.1 p.2.2.2.2.2.2.2.2.2.2.2.2.1 p.2.2.2.2.2.2.2.2.2.2.2.2.2.1 p.2.2.2.2.2.2.2.2.2.2.2.2.2.2.1 p.2.2.2.2.2.2.2.2.2.2.2.2.2.2.2.1 p.2.2.2.2.2.2.2.2.2.2.2.2.2.2.2.2.1 p.2.2.2.2.2.2.2.2.2.2.2.2.2.2.2.2.2.1 p.2.2.2.2.2.2.2.2.2.2.2.2.2.2.2.2.2.2.1 p.2.2.2.2.2.2.2.2.2.2.2.2.2.2.2.2.2.2.2.1 p.2.2.2.2.2.2.2.2.2.2.2.2.2.2.2.2.2.2.2.2.1 p.2.2.2.2.2.2.2.2.2.2.2.2.2.2.2.2.2.2.2.2.2.1 p.2.2.2.2.2.2.2.2.2.2.2.2.2.2.2.2.2.2.2.2.2.2.1 p.2.2.2.2.2.2.2.2.2.2.2.2.2.2.2.2.2.2.2.2.2.2.2.1 p.2.2.2.2.2.2.2.2.2.2.2.2.2.2.2.2.2.2.2.2.2.2.2.2.1 p.2.2.2.2.2.2.2.2.2.2.2.2.2.2.2.2.2.2.2.2.2.2.2.2.2 a b c d 0 (eY p) size=_ from e5,cC,show vd n n p.1 p.2.1 p.2.2.1 p.2.2.2.1 p.2.2.2.2.1 p.2.2.2.2.2.1 p.2.2.2.2.2.2.1 p.2.2.2.2.2.2.2.1 p.2.2.2.2.2.2.2.2.1 p.2.2.2.2.2.2.2.2.2.1 p.2.2.2.2.2.2.2.2.2.2.1 p.2.2.2.2.2.2.2.2.2.2.2.1 p.2.2.2.2.2.2.2.2.2.2.2.2.1 p.2.2.2.2.2.2.2.2.2.2.2.2.2.1 p.2.2.2.2.2.2.2.2.2.2.2.2.2.2.1 p.2.2.2.2.2.2.2.2.2.2.2.2.2.2.2.1 p.2.2.2.2.2.2.2.2.2.2.2.2.2.2.2.2.1 p.2.2.2.2.2.2.2.2.2.2.2.2.2.2.2.2.2.1 p.2.2.2.2.2.2.2.2.2.2.2.2.2.2.2.2.2.2.1 p.2.2.2.2.2.2.2.2.2.2.2.2.2.2.2.2.2.2.2.1 p.2.2.2.2.2.2.2.2.2.2.2.2.2.2.2.2.2.2.2.2.1 p.2.2.2.2.2.2.2.2.2.2.2.2.2.2.2.2.2.2.2.2.2.1 p.2.2.2.2.2.2.2.2.2.2.2.2.2.2.2.2.2.2.2.2.2.2.1 p.2.2.2.2.2.2.2.2.2.2.2.2.2.2.2.2.2.2.2.2.2.2.2.1 p.2.2.2.2.2.2.2.2.2.2.2.2.2.2.2.2.2.2.2.2.2.2.2.2.1 p.2.2.2.2.2.2.2.2.2.2.2.2.2.2.2.2.2.2.2.2.2.2.2.2.2 a b c d 0 size (eY p)=_ from e6,e2,e3,e7,e9,f,j];have q3:(∀i,i<p.2.2.2.2.2.2.2.2.2.2.2.2.2.2.1.length→At p.2.2.2.2.2.2.2.2.2.2.2.2.2.2.1 (fun x=>In x 1 (wrap .i64 (eY p+1))) i∧At p.2.2.2.2.2.2.2.2.2.2.2.2.2.2.2.1 (fun x=>In x 0 (eY p)) i)↔(∀x∈p.2.2.2.2.2.2.2.2.2.2.2.2.2.2.1,In x 1 (wrap .i64 (eY p+1)))∧(∀x∈p.2.2.2.2.2.2.2.2.2.2.2.2.2.2.2.1,In x 0 (eY p)):=by
   rw [←qc,←qc,show p.2.2.2.2.2.2.2.2.2.2.2.2.2.2.2.1.length=p.2.2.2.2.2.2.2.2.2.2.2.2.2.2.1.length by omega]
   grind
  rw [q3];clear e2 e3 e4 e5 e6 e7 e8 e9 f j k2 k3 k4 k7 k8 q1 q2 q3 hr hl h6 h7 k s ak t u z ad h;simp only [bR,cq,bz,kG,iY,uj,Z];refine cE ?_
  unfold nn Jt Ju;grind
 ·refine k8.nm fun n ⟨⟨⟨e2,e3⟩,e4,e7⟩,⟨e8,e9⟩,f,j⟩=> ?_
  rw [Ql,e8];have hf: ¬nn a b c d p size:=by unfold nn;grind
  rw [az hf];simp only [Z,e2,e9,f,cq,bz,bR];have: ∀x:Option Bool,cond (bo (¬(p.2.2.2.2.2.2.2.2.2.2.2.2.2.2.1.length:Int)=size)) (some true) (some (bo (¬(p.2.2.2.2.2.2.2.2.2.2.2.2.2.2.2.1.length:Int)=size)))=some true:=fun _=>by
   rw [kG,aB (by grind)]
  simp only [this none];cases bo (¬In size 1 5)<;>cases bo (¬In p.1 0 (wrap .i64 (size-1)))<;>try rfl
  all_goals simp only [da]
  all_goals simp only [Z,Y,Bool.cond_self]
theorem aBm (a:Int) (s:O):W fun n=>FW n a s=some (bo (In a 0 300∧s.length≤1500)):=by
 refine(cR a 0 300).nm fun n e=> ?_
 rw [apG,e]
 ((try simp only [bR,Z,cZ]);(try simp only [dy]);(repeat' split);all_goals first|rfl|(refine cE ?_;grind)|(refine dC ?_;grind)|(refine dD ?_;grind)|(exfalso;grind))
theorem aBn (a:Int) (s:O):W fun n=>He n a s=some (bo (In a 0 300∧s.length≤1500)):=by
 refine(oW a).nm fun n e=> ?_
 rw [atB,e]
 ((try simp only [bR,Z,cZ]);(try simp only [dy]);(repeat' split);all_goals first|rfl|(refine cE ?_;grind)|(refine dC ?_;grind)|(refine dD ?_;grind)|(exfalso;grind))
def sO (l:ah):Prop:=l.length=3∧ ∀x∈l,In x 0 100000
theorem TH (l:ah) (d:l.length≤1048576):W fun n=>yZ n l=some (bo (sO l)):=by
 have k:=lK d (p:=fun x=>In x 0 100000) (r:=false) (b:=l) (L:=fun n m i=>uY n m i l) ((W.all l fun x _=>cR x 0 100000).mono fun n h m i hi=>by
  rw [Qk,bu hi,bj hi];simp only [Y,Z,h _ (List.getElem_mem hi),bz];exact eG (by simp)) (fun n m=>by rw [Qk,cp];rfl)
 refine k.nm fun n e=> ?_
 rw [apH,show uY n n 0 l=_ from e];simp only [Z,cC];unfold sO
 ((try simp only [bk]);(try simp only [dy]);(repeat' split);all_goals first|rfl|(refine cE ?_;grind)|(refine dC ?_;grind)|(refine dD ?_;grind)|(exfalso;grind))
theorem TI (l:ah) (b:l.length≤1048576):W fun n=>qB n l 3 0 100000=some (bo (sO l)):=by
 refine(Js l 3 0 100000 b).mono fun n e=> ?_
 rw [e];refine cE ?_
 unfold sO;grind
def me (h:af) (j:af) (k:ae) (m:ae) (d:Int) (f:cu) (q:bw) (s:Int) (t:O) (u:ah) (g:ah) (b:ae):Prop:=
 jD h j k m∧In d 1 5∧(f.length:Int)=d∧q.length≤40∧(In s 0 300∧t.length≤1500)∧sO u∧sO g∧b.length≤300∧
 (∀i,i<f.length→At f (fun p=>p.1=(i:Int)∧nn h j k m p d) i)∧(∀r∈q,gA r d)∧ ∀c∈b,eD c.1 c.2.1 c.2.2
def wH (h:af) (i:af) (j:ae) (k:ae) (_:Int) (f:cu) (g:bw) (_:Int) (_:O) (m:ah) (d:ah) (b:ae):Prop:=
 iM h i j k∧(f.length≤1048576∧ ∀p∈f,Jv p)∧(g.length≤1048576∧ ∀r∈g,BF r)∧m.length≤1048576∧d.length≤1048576∧(b.length≤1048576∧ ∀c∈b,c.2.2.length≤1048576)
theorem aBo (j:af) (k:af) (s:ae) (t:ae) (g:Int) (u:cu) (z:bw) (x7:Int) (x8:O) (x9:ah) (d:ah) (f:ae) (h:wH j k s t g u z x7 x8 x9 d f):W fun n=>FP n j k s t g u z x7 x8 x9 d f=some (bo (me j k s t g u z x7 x8 x9 d f)):=by
 obtain⟨hp,⟨h5,ak⟩,⟨h6,al⟩,h9,ao,aq,aj⟩:=h;have k8:=(((Jp j k s t hp).and (cR g 1 5)).and ((aBm x7 x8).and ((TH x9 h9).and (TH d ao))));by_cases hg:(u.length:Int)=g
 ·have q1:=kH h5 (q:=fun i=>At u (fun p=>p.1=(i:Int)∧nn j k s t p g) i) (r:=false) (b:=(j,k,s,t,g,u,z,x7,x8,x9,d,f)) (L:=fun n m i=>uM n m j k s t g u z x7 x8 x9 d f i) ((W.all u fun p hm=>aBl j k s t p g hp (ak p hm)).mono fun n h m i hi=>by
   rw [PQ,ez (by omega),bj hi]
   simp only [Y,Z,h _ (List.getElem_mem hi),cq,bz,gH,kJ hi];exact eG (by grind)) (fun n m=>by rw [PQ,hJ (by omega)];rfl)
  have q2:=lK h6 (p:=fun r=>gA r g) (r:=false) (b:=(j,k,s,t,g,u,z,x7,x8,x9,d,f)) (L:=fun n m i=>uN n m j k s t g u z x7 x8 x9 d f i) ((W.all z fun r hm=>TF r g (al r hm)).mono fun n h m i hi=>by
   rw [PR,bu hi,bj hi];simp only [Y,Z,h _ (List.getElem_mem hi),bz];exact eG (by simp)) (fun n m=>by rw [PR,cp];rfl)
  have q3:=lK aq (p:=fun c=>eD c.1 c.2.1 c.2.2) (r:=false) (b:=()) (L:=fun n m i=>uO n m j k s t g u z x7 x8 x9 d f i) ((W.all f fun c hm=>wF c.1 c.2.1 c.2.2 (aj c hm)).mono fun n h m i hi=>by
   rw [PS,bu hi,bj hi];simp only [Y,Z,h _ (List.getElem_mem hi),bz];exact eG (by simp)) (fun n m=>by rw [PS,cp];rfl)
  refine(k8.and (q1.and (q2.and q3))).nm fun n ⟨⟨⟨e1,e2⟩,e3,e4,e5⟩,e6,e7,e8⟩=> ?_
  rw [PN,e1];simp only [Z,e2,e3,e4,e5,show uM n n j k s t g u z x7 x8 x9 d f 0=_ from e6,cC,show uN n n j k s t g u z x7 x8 x9 d f 0=_ from e7,show uO n n j k s t g u z x7 x8 x9 d f 0=_ from e8];clear e1 e2 e3 e4 e5 e6 e7 e8 k8 q1 q2 q3 h5 ak h6 al h9 ao aq aj hp;simp only [cq,bR,bz,kG,iY,cT,uj,Z];refine cE ?_
  unfold me;grind
 ·refine k8.nm fun n ⟨⟨e1,e2⟩,e3,e4,e5⟩=> ?_
  have hf: ¬me j k s t g u z x7 x8 x9 d f:=by unfold me;grind
  rw [PN,e1,az hf];simp only [Z,e2,cq,aB hg,Y,Bool.cond_self]
theorem aBp (s:af) (t:af) (u:ae) (z:ae) (g:Int) (j:cu) (k:bw) (x7:Int) (x8:O) (x9:ah) (f:ah) (d:ae) (h:wH s t u z g j k x7 x8 x9 f d):W fun n=>GQ n s t u z g j k x7 x8 x9 f d=some (bo (me s t u z g j k x7 x8 x9 f d)):=by
 obtain⟨hp,⟨h5,ak⟩,⟨h6,al⟩,h9,ao,aq,ar⟩:=h;have k0:W fun n=> ∀r∈k,HB n s t u z g j k x7 x8 x9 f d r.1 r.2.1 r.2.2.1 r.2.2.2.1 r.2.2.2.2.1 r.2.2.2.2.2.1 r.2.2.2.2.2.2.1 r.2.2.2.2.2.2.2.1 r.2.2.2.2.2.2.2.2.1 r.2.2.2.2.2.2.2.2.2=some (bo (¬gA r g),s,t,u,z,g,j,k,x7,x8,x9,f,d):=W.all _ fun r hm=>(TG r g (al r hm)).nm fun n e1=>by
  rw [auR,e1];simp only [Z,bz]
 have h':=jZ h6 (p:=fun r=> ¬gA r g) (r:=fun i=>(i,s,t,u,z,g,j,k,x7,x8,x9,f,d)) (b:=(s,t,u,z,g,j,k,x7,x8,x9,f,d)) (L:=fun n m i=>Ak n m s t u z g j k x7 x8 x9 f d i k (k.length:Int)) (k0.mono fun n h m i hi=>by
   rw [Rv,bu hi,bj hi];simp only [Y,Z,h _ (List.getElem_mem hi)]) (fun n m=>by rw [Rv,cp];rfl)
 have k1:W fun n=>HA n s t u z g j k x7 x8 x9 f d k=some (bo (∃r∈k,¬gA r g),s,t,u,z,g,j,k,x7,x8,x9,f,d):=W.succ (h'.nm fun n h=>by
   rw [auP,auQ];refine rK (l:=k) (p:=fun r=> ¬gA r g) (c:=(s,t,u,z,g,j,k,x7,x8,x9,f,d)) ?_
   rcases h with⟨h,i,e⟩|⟨h,e⟩
   ·exact .inl ⟨h,i,by rw [e];rfl⟩
   ·exact .inr ⟨h,by rw [e];rfl⟩)
 have au:W fun n=> ∀c∈d,HD n c.1 c.2.1 c.2.2=some (bo (¬eD c.1 c.2.1 c.2.2)):=W.all _ fun c hm=>(BD c.1 c.2.1 c.2.2).nm fun n e1=>by
  rw [auU,e1];simp only [Z,bz]
 have av:=jZ aq (p:=fun c=> ¬eD c.1 c.2.1 c.2.2) (r:=fun i=>i) (b:=()) (L:=fun n m i=>Al n m i d (d.length:Int)) (au.mono fun n h m i hi=>by
   rw [Rw,bu hi,bj hi];simp only [Y,Z,h _ (List.getElem_mem hi)]) (fun n m=>by rw [Rw,cp];rfl)
 have k2:W fun n=>HC n d=some (bo (∃c∈d,¬eD c.1 c.2.1 c.2.2)):=W.succ (av.nm fun n h=>by
   rw [auS,auT];refine DN (l:=d) (p:=fun c=> ¬eD c.1 c.2.1 c.2.2) ?_
   rcases h with⟨h,i,e⟩|⟨h,e⟩
   ·exact .inl ⟨h,i,by rw [e];rfl⟩
   ·exact .inr ⟨h,by rw [e];rfl⟩)
 have q1:=kH h5 (q:=fun i=>At j (fun p=>p.1=(i:Int)∧nn s t u z p g) i) (r:=false) (b:=(s,t,u,z,g,j,k,x7,x8,x9,f,d)) (L:=fun n m i=>vF n m s t u z g j k x7 x8 x9 f d i j (j.length:Int)) ((W.all j fun p hm=>aBk s t u z p g hp (ak p hm)).mono fun n h m i hi=>by
   rw [QS,bu hi,bj hi];simp only [Y,Z,h _ (List.getElem_mem hi),cq,bz,gH,kJ hi];exact eG (by grind)) (fun n m=>by rw [QS,cp];rfl)
 have k8:=(((wE s t u z hp).and (dh g 1 5)).and ((aBn x7 x8).and ((TI x9 h9).and (TI f ao))));refine(k8.and (q1.and (k1.and k2))).nm fun n ⟨⟨⟨e1,e2⟩,e3,e4,e5⟩,e6,e7,e8⟩=> ?_
 rw [asA,e1];simp only [Z,e2,e3,show vF n n s t u z g j k x7 x8 x9 f d 0 j j.length=_ from e6,cC,e4,e5,e7,e8];clear e1 e2 e3 e4 e5 e6 e7 e8 k8 q1 k0 au k1 k2 h' av h5 ak h6 al h9 ao aq ar hp;simp only [cq,bR,bz,kG,iY,uj,Z];refine cE ?_
 unfold me;grind
theorem TJ {k:Nat} (hk:k≤9223372036854775807):W fun n=>zp n (k:Int)=some (Lib.decDigits k):=by
 refine W.succ ((W.ge (k+1)).mono fun n f=> ?_)
 rw [aqI];by_cases b:k=0
 ·subst b
  rw [ez (by omega),Lib.decDigits_one (by omega)]
  rfl
 ·have h:=Yi (L:=fun m x acc=>zq n m x acc) (fun m k acc g d=>by
   rw [Qy,ez (by omega),Nat.ble_eq_true_of_le d];rfl) (fun m acc=>by rw [Qy];rfl) k n [] (by omega) (by simp [mx];omega)
  rw [hJ (by omega)]
  simp only [da,h,Z,ay,List.append_nil,dd,if_neg b]
theorem TK (n:Nat) (x:Int):kV (n+1) x=some (Lib.itoa x):=by kernel_rfl
def ld:O→O:=fun l=>(l.reverse.dropWhile (·==48)).reverse
theorem TL (l:O) (b:UInt8):ld (l++[b])=if b=48 then ld l else l++[b]:=by
 unfold ld;simp only [List.reverse_append,List.reverse_cons,List.reverse_nil,List.nil_append,List.singleton_append,List.dropWhile_cons];by_cases h:b=48
 ·simp [h]
 ·simp [h]
theorem Jw (l:O):(ld l).length≤l.length:=by
 unfold ld;simp only [List.length_reverse];have:=(List.dropWhile_sublist (l:=l.reverse) (p:=(·==48))).length_le
 simpa using this
theorem TM (l:O) (b:UInt8) (h:l.length+1≤1000000):bE (l++[b]) (wrap .i64 (((l++[b]).length:Int)-(1:Int)))=some b:=by
 have e:wrap .i64 (((l++[b]).length:Int)-(1:Int))=(l.length:Int):=by
  simp only [List.length_append,List.length_cons,List.length_nil];rw [IntKind.wrap_i64];omega
 rw [e];unfold bE nth;rw [ez (by omega)]
 simp
theorem TN (l:O) (b:UInt8) (h:l.length+1≤1000000):wrap .i64 (((l++[b]).length:Int)-(1:Int))=(l.length:Int):=by
 simp only [List.length_append,List.length_cons,List.length_nil];rw [IntKind.wrap_i64];omega
theorem TO {l:O} (h:l≠ []): ∃l' b,l=l'++[b]:=⟨l.dropLast,l.getLast h,(List.dropLast_concat_getLast h).symm⟩
theorem TP (n:Nat): ∀(k:Nat) (l:O) (m:Nat),l.length=k→k<m→k≤1000000→vQ n m l 48=some (.inl (ld l))
 |0,l,m,d,hm,_=>by
  obtain⟨m,rfl⟩: ∃m',m=m'+1:=⟨m-1,by omega⟩
  obtain rfl:=List.length_eq_zero_iff.1 d;rw [Bs];rfl
 |k+1,l,m,d,hm,hk=>by
  obtain⟨m,rfl⟩: ∃m',m=m'+1:=⟨m-1,by omega⟩
  obtain⟨l',b,rfl⟩:=TO (l:=l) (by intro e;rw [e]at d;cases d)
  simp only [List.length_append,List.length_cons,List.length_nil]at d;rw [Bs,ez (by simp only [List.length_append,List.length_cons,List.length_nil];omega),TM l' b (by omega),TN l' b (by omega),TL]
  simp only [Y,Z];by_cases f:b=48
  ·subst f
   rw [show ((((48:UInt8)).toNat:Int)==(((48:UInt8)).toNat:Int))=true from rfl,ez (by simp only [List.length_append,List.length_cons,List.length_nil];omega)]
   simp only [Y,if_true];have e:(l'++[(48:UInt8)]).take ((Int.toNat (l'.length:Int))-0)=l':=by simp
   rw [e];exact TP n k l' m (by omega) (by omega) (by omega)
  ·have e:(((b).toNat:Int)==(((48:UInt8)).toNat:Int))=false:=by
    rw [beq_eq_false_iff_ne];intro h;exact f (UInt8.toNat_inj.1 (by omega))
   rw [e,if_neg f];rfl
theorem TQ (n:Nat) (a:Int) (q:O): ∀(k:Nat) (l:O) (m:Nat),l.length=k→k<m→k≤1000000→(∃b∈l,b≠48)→zo n m l a q=some (.inl (a,ld l,q))
 |0,l,m,d,hm,_,j=>by
  obtain rfl:=List.length_eq_zero_iff.1 d;obtain⟨b,f, -⟩:=j;cases f
 |k+1,l,m,d,hm,hk,j=>by
  obtain⟨m,rfl⟩: ∃m',m=m'+1:=⟨m-1,by omega⟩
  obtain⟨l',b,rfl⟩:=TO (l:=l) (by intro e;rw [e]at d;cases d)
  simp only [List.length_append,List.length_cons,List.length_nil]at d;rw [aqG,TM l' b (by omega),TN l' b (by omega),TL]
  simp only [Z];by_cases f:b=48
  ·subst f
   rw [show ((((48:UInt8)).toNat:Int)==(48:Int))=true from rfl,ez (by simp only [List.length_append,List.length_cons,List.length_nil];omega)]
   simp only [Y,if_true];have e:(l'++[(48:UInt8)]).take ((Int.toNat (l'.length:Int))-0)=l':=by simp
   rw [e];refine TQ n a q k l' m (by omega) (by omega) (by omega) ?_
   obtain⟨c,g,i⟩:=j;rcases List.mem_append.1 g with g|g
   ·exact⟨c,g,i⟩
   ·exact absurd (by simpa using g) i
  ·have e:(((b).toNat:Int)==(48:Int))=false:=by
    rw [beq_eq_false_iff_ne];intro h;exact f (UInt8.toNat_inj.1 (show b.toNat=48 by omega))
   rw [e,if_neg f];rfl
theorem sP {k:Nat} (h: ¬k<10):Lib.decDigits k=Lib.decDigits (k/10)++[UInt8.ofNat (48+k%10)]:=by
 rw [Lib.decDigits,dif_neg h]
theorem seven {k:Nat} (h:1000000≤k) (p:k<2000000): ∃l,Lib.decDigits k=49::l∧l.length=6∧(k≠1000000→ ∃b∈l,b≠48):=by
 refine⟨[UInt8.ofNat (48+k/10/10/10/10/10%10),UInt8.ofNat (48+k/10/10/10/10%10),UInt8.ofNat (48+k/10/10/10%10),UInt8.ofNat (48+k/10/10%10),UInt8.ofNat (48+k/10%10),UInt8.ofNat (48+k%10)], ?_,rfl,fun g=> ?_⟩
 ·rw [sP (k:=k) (by omega),sP (k:=k/10) (by omega),sP (k:=k/10/10) (by omega),sP (k:=k/10/10/10) (by omega),sP (k:=k/10/10/10/10) (by omega),sP (k:=k/10/10/10/10/10) (by omega)]
  have e:k/10/10/10/10/10/10=1:=by omega
  rw [e,Lib.decDigits_one (by omega)]
  rfl
 ·apply Classical.byContradiction
  intro i;have d: ∀x,x<10→UInt8.ofNat (48+x)=48→x=0:=fun x q he=>by
   have:=congrArg UInt8.toNat he;simp only [UInt8.toNat_ofNat',UInt8.reduceToNat]at this;omega
  have f: ∀b∈[UInt8.ofNat (48+k/10/10/10/10/10%10),UInt8.ofNat (48+k/10/10/10/10%10),UInt8.ofNat (48+k/10/10/10%10),UInt8.ofNat (48+k/10/10%10),UInt8.ofNat (48+k/10%10),UInt8.ofNat (48+k%10)],b=48:=fun b j=>Classical.byContradiction fun h=>i ⟨b,j,h⟩
  simp only [List.mem_cons,List.mem_nil_iff,or_false,forall_eq_or_imp,forall_eq]at f;obtain⟨z5,z4,z3,z2,m,z0⟩:=f;have r:=d _ (by omega) z5
  have s:=d _ (by omega) z4
  have t:=d _ (by omega) z3
  have u:=d _ (by omega) z2
  have z:=d _ (by omega) m
  have y0:=d _ (by omega) z0
  omega
def lg (k:Nat):O:=if k%1000000=0 then Lib.decDigits (k/1000000)else(Lib.decDigits (k/1000000)++[46])++ld ((Lib.decDigits (1000000+k%1000000)).drop 1)
def lh (a:Int):O:=if a< -9000000000000∨9000000000000<a then []else if a<0 then 45::lg a.natAbs else lg a.natAbs
theorem aBq (x lo hi:Int):W fun n=>cj n x lo hi=some (decide (lo≤x)&&decide (x≤hi)):=by
 refine W.succ (W.of fun n=> ?_)
 rw [wi];cases decide (lo≤x)<;>rfl
theorem aBr (x lo hi:Int):W fun n=>cQ n x lo hi=some (decide (lo≤x)&&decide (x≤hi)):=by
 refine W.succ (W.of fun n=> ?_)
 rw [oP];cases decide (lo≤x)<;>rfl
theorem TR (x:Int):W fun n=>iH n x=some (decide (-9000000000000≤x)&&decide (x≤9000000000000)):=
 W.succ ((aBq x _ _).mono fun n h=>by rw [Qa,h];rfl)
theorem TS (x:Int):W fun n=>ib n x=some (decide (-9000000000000≤x)&&decide (x≤9000000000000)):=
 W.succ ((aBr x _ _).mono fun n h=>by rw [IP,h];rfl)
theorem Jx {x:Int} (b: -9000000000000≤x):W fun n=>vr n x=some (x.natAbs:Int):=by
 refine W.succ (W.of fun n=> ?_)
 rw [aqH];by_cases h:x<0
 ·rw [ez h]
  have hw:wrap .i64 ((0:Int)-x)=(x.natAbs:Int):=by rw [IntKind.wrap_i64];omega
  rw [hw];rfl
 ·rw [hJ h]
  have hw:x=(x.natAbs:Int):=by omega
  simp only [da];rw [←hw]
theorem BG {k:Nat} (h:k≤9223372036854775807):(Lib.decDigits k).length≤21:=by
 have:=Lib.itoa_length_le (k:Int) (by omega) (by omega)
 rwa [DG]at this
theorem BH {k:Nat} (h:k≤9223372036854775807):wrap .i64 ((k:Nat):Int)=(k:Int):=by rw [IntKind.wrap_i64];omega
theorem aBs {l:O} (b:l.length=6):W fun n=>sy n l ([48]:O)=some (ld l):=by
 have d:W fun n=>vP n l 48=some (ld l):=by
  refine W.succ ((W.ge 8).mono fun n f=> ?_)
  rw [Rp];have:=TP n 6 l n b (by omega) (by omega)
  have e:UInt8.ofNat (Int.toNat (((48:UInt8)).toNat:Int))=48:=rfl;rw [e,this];rfl
 refine W.succ (d.mono fun n h=> ?_)
 rw [avK];have e:(l==([]:O))=false:=by
  cases l with
  |nil=>cases b
  |cons _ _=>rfl
 have g1:(([48]:O)==([]:O))=false:=rfl;have g2:((([48]:O).length:Int)==(1:Int))=true:=rfl;have g3:bE ([48]:O) (0:Int)=some 48:=rfl;have g4:(decide (((48:UInt8).toNat:Int)<(128:Int)))=true:=by decide
 have g5:UInt8.ofNat (Int.toNat (((48:UInt8)).toNat:Int))=48:=rfl;rw [e,g1];simp only [da,Z];rw [g2];simp only [Y];rw [g3];simp only [Z];rw [g4];simp only [Y];rw [g5,h];rfl
theorem oX {n:Nat} (h:n≤1000):Nat.ble n mx=true:=Nat.ble_eq_true_of_le (by unfold mx;omega)
theorem aBt {l:O}:((49::l:O).drop 1).take ((49::l:O).length-1)=l:=by simp
theorem aBu (a:Int):W fun n=>Gh n a=some (lh a):=by
 by_cases d: -9000000000000≤a∧a≤9000000000000
 ·have hk:a.natAbs≤9000000000000:=by omega
  refine W.succ (((((TR a).and (Jx d.1)).and ((TJ (k:=a.natAbs/1000000) (by omega)).and (TJ (k:=1000000+a.natAbs%1000000) (by omega)))).and (W.ge 8)).mono fun n ⟨⟨⟨f,h⟩,i,j⟩,q⟩=> ?_)
  rw [Qx,f,ez d.1,ez d.2];simp only [Z,Bool.and_self,Bool.not_true,da,h];have d1:Int.tdiv (a.natAbs:Int) (1000000:Int)=((a.natAbs/1000000:Nat):Int):=rfl;have d2:Int.tmod (a.natAbs:Int) (1000000:Int)=((a.natAbs%1000000:Nat):Int):=rfl;have d3:((1000000:Int)+((a.natAbs%1000000:Nat):Int))=((1000000+a.natAbs%1000000:Nat):Int):=by omega
  rw [d1,d2,BH (by omega),d3,BH (by omega),i]
  simp only [Z,j];have r:=BG (k:=a.natAbs/1000000) (by omega)
  have m:lh a=if a<0 then 45::lg a.natAbs else lg a.natAbs:=by unfold lh;rw [if_neg (by omega)]
  rw [m];unfold lg;by_cases g:a.natAbs%1000000=0
  ·rw [hJ (by omega),if_pos g]
   simp only [da];by_cases b:a<0
   ·rw [ez b,if_pos b,oX (by omega)];rfl
   ·rw [hJ b,if_neg b];rfl
  ·rw [ez (by omega),if_neg g]
   obtain⟨l,s1,s2,p⟩:=seven (k:=1000000+a.natAbs%1000000) (by omega) (by omega)
   rw [s1];simp only [Y];rw [ez (by simp only [List.length_cons];omega),aBt,TQ n a _ 6 l n s2 (by omega) (by omega) (p (by omega))]
   simp only [Y,Z,ay];have s:=Jw l;rw [oX (by omega),oX (by simp only [List.length_append,List.length_cons,List.length_nil];omega)]
   simp only [Y,List.drop_succ_cons,List.drop_zero];by_cases b:a<0
   ·rw [ez b,if_pos b,oX (by simp only [List.length_append,List.length_cons,List.length_nil];omega)];rfl
   ·rw [hJ b,if_neg b];rfl
 ·refine W.succ ((TR a).mono fun n f=> ?_)
  rw [Qx,f];have e:(decide (-9000000000000≤a)&&decide (a≤9000000000000))=false:=by
   simp only [Bool.and_eq_false_iff,decide_eq_false_iff_not];omega
  rw [e,lh,if_pos (by omega)]
  rfl
theorem TT (n:Nat) (k:Nat) (hk:k≤9000000000000) (pre:O) (hp:pre.length≤1)
  (i:kV n ((k/1000000:Nat):Int)=some (Lib.decDigits (k/1000000))) (j:kV n ((1000000+k%1000000:Nat):Int)=some (Lib.decDigits (1000000+k%1000000)))
  (d:sy n ((Lib.decDigits (1000000+k%1000000)).drop 1) [48]=some (ld ((Lib.decDigits (1000000+k%1000000)).drop 1))):
  ((kV n ((wrap .i64 (Int.tdiv (k:Int) (1000000:Int))):Int)).bind fun(b:O)=>cond (Nat.ble (pre.length+b.length) mx) (cond (decide ((0:Int)<(Int.tmod (k:Int) (1000000:Int)))) ((kV n ((wrap .i64 ((1000000:Int)+(Int.tmod (k:Int) (1000000:Int)))):Int)).bind fun(f:O)=>cond (decide ((0:Int)≤(1:Int)∧(1:Int)≤(f.length:Int))) ((sy n (((f.drop 1).take (f.length-1)):O) ([48]:O)).bind fun(g:O)=>cond (Nat.ble (1+g.length) mx) (cond (Nat.ble ((pre++b).length+(([46]:O)++g).length) mx) (some (((pre++b)++(([46]:O)++g)):O)) (none)) (none)) (none)) (some ((pre++b):O))) (none))=some (pre++lg k):=by
 have d1:Int.tdiv (k:Int) (1000000:Int)=((k/1000000:Nat):Int):=rfl;have d2:Int.tmod (k:Int) (1000000:Int)=((k%1000000:Nat):Int):=rfl;have d3:((1000000:Int)+((k%1000000:Nat):Int))=((1000000+k%1000000:Nat):Int):=by omega
 have p:=BG (k:=k/1000000) (by omega)
 rw [d1,d2,BH (by omega),d3,BH (by omega),i]
 simp only [Z,j];rw [oX (by omega)]
 unfold lg;by_cases h:k%1000000=0
 ·rw [hJ (by omega),if_pos h];rfl
 ·rw [ez (by omega),if_neg h]
  obtain⟨l,s1,s2,q⟩:=seven (k:=1000000+k%1000000) (by omega) (by omega)
  rw [s1]at d ⊢;simp only [List.drop_succ_cons,List.drop_zero]at d ⊢;simp only [Y];have m:l.take ((49::l:O).length-1)=l:=by simp
  rw [ez (by simp only [List.length_cons];omega),m,d]
  simp only [Y,Z];have r:=Jw l;rw [oX (by omega),oX (by simp only [List.length_append,List.length_cons,List.length_nil];omega)]
  simp only [Y,List.append_assoc]
theorem aBv (a:Int):W fun n=>HH n a=some (lh a):=by
 by_cases b: -9000000000000≤a∧a≤9000000000000
 ·have hk:a.natAbs≤9000000000000:=by omega
  obtain⟨l,s1,s2,q⟩:=seven (k:=1000000+a.natAbs%1000000) (by omega) (by omega)
  have j:=aBs (l:=(Lib.decDigits (1000000+a.natAbs%1000000)).drop 1) (by rw [s1];exact s2)
  refine W.succ ((((TS a).and j).and (W.ge 8)).mono fun n ⟨⟨f,g⟩,r⟩=> ?_)
  obtain⟨n,rfl⟩: ∃m,n=m+1:=⟨n-1,by omega⟩
  have h:kV (n+1) ((a.natAbs/1000000:Nat):Int)=some (Lib.decDigits (a.natAbs/1000000)):=by rw [TK,DG]
  have i:kV (n+1) ((1000000+a.natAbs%1000000:Nat):Int)=some (Lib.decDigits (1000000+a.natAbs%1000000)):=by rw [TK,DG]
  rw [Rz,f,ez b.1,ez b.2];simp only [Z,Bool.and_self,Bool.not_true,da];have p:lh a=if a<0 then 45::lg a.natAbs else lg a.natAbs:=by unfold lh;rw [if_neg (by omega)]
  rw [p];by_cases d:a<0
  ·rw [ez d,if_pos d]
   have hw:wrap .i64 (0-a)=(a.natAbs:Int):=by rw [IntKind.wrap_i64];omega
   rw [hw];exact TT (n+1) a.natAbs hk [45] (by simp) h i g
  ·rw [hJ d,if_neg d]
   obtain⟨k,rfl⟩: ∃k:Nat,a=k:=⟨a.natAbs,by omega⟩
   simp only [Int.natAbs_natCast]at h i g hk ⊢;exact TT (n+1) k hk [] (by simp) h i g
 ·refine W.succ ((TS a).mono fun n f=> ?_)
  rw [Rz,f];have e:(decide (-9000000000000≤a)&&decide (a≤9000000000000))=false:=by
   simp only [Bool.and_eq_false_iff,decide_eq_false_iff_not];omega
  rw [e,lh,if_pos (by omega)]
  rfl
def sQ (b d:Int) (f:O):O:=if b=1 then lh d else f
theorem aBw (b d:Int) (g:O):W fun n=>gb n b d g=some (sQ b d g):=by
 refine W.succ ((aBu d).mono fun n h=> ?_)
 rw [aqF,h,sQ];by_cases f:b=1
 ·subst f;rfl
 ·have e:(b==(1:Int))=false:=by simpa using f
  rw [e,if_neg f];rfl
theorem aBx (b d:Int) (g:O):W fun n=>gO n b d g=some (sQ b d g):=by
 refine W.succ ((aBv d).mono fun n h=> ?_)
 rw [avJ,h,sQ];by_cases f:b=1
 ·subst f;rfl
 ·have e:(b==(1:Int))=false:=by simpa using f
  rw [e,if_neg f];rfl
theorem wu (x:Int):wrap .u64 x=x%18446744073709551616:=by rw [IntKind.wrap_u64]
theorem BI (x:Nat) (h:x<18446744073709551616):(BitVec.ofInt 64 (x:Int)).toNat=x:=by
 rw [BitVec.toNat_ofInt];omega
theorem sR (m k:Nat):((m/k:Nat):Int)=Int.tdiv (m:Int) (k:Int):=Int.ofNat_tdiv m k
theorem aBy (a b n:Int):(a-b%n)%n=(a-b)%n:=by simp
theorem aBz (x:Nat) (h:x<18446744073709551616):fE .and .u64 (x:Int) (4294967295:Int)=((x%4294967296:Nat):Int):=by
 show wrap .u64 (((BitVec.ofInt 64 (x:Int) &&&BitVec.ofInt 64 ((4294967295:Nat):Int)).toNat:Nat):Int)=_;rw [BitVec.toNat_and,BI x h,BI _ (by omega),show(4294967295:Nat)=2^32-1 from rfl,Nat.and_two_pow_sub_one_eq_mod,wu]
 omega
theorem aBA (a b:Nat) (d:a<1048576) (f:b<17592186044416):fE .or .u64 ((a*17592186044416:Nat):Int) (b:Int)=((a*17592186044416+b:Nat):Int):=by
 show wrap .u64 (((BitVec.ofInt 64 ((a*17592186044416:Nat):Int) |||BitVec.ofInt 64 (b:Int)).toNat:Nat):Int)=_
 rw [BitVec.toNat_or,BI _ (by omega),BI b (by omega)]
 have e:a*17592186044416=a <<<44:=by rw [Nat.shiftLeft_eq]
 rw [e,←Nat.shiftLeft_add_eq_or_of_lt (by omega) a,←e,wu]
 omega
theorem aBB (n m:Nat) (a b c d e f g q:Int) (i:0≤q∧q<4294967296):wc n (m+1) a b c d 0 e f g q=some (.inl (a,b,c,q,d,0,e,f)):=by
 have h: ¬wrap .u64 (wrap .u64 (4294967296*g)+e)<wrap .u64 (q*0):=by rw [Int.mul_zero,wu,wu,wu];omega
 rw [awX,hJ (show ¬(4294967296:Int)≤q by omega),hJ h]
 rfl
theorem aBC (n m:Nat) (a b c d e f g q:Int) (i:0≤q∧q<4294967296):we n (m+1) a b c d e f g q 0=some (.inl (a,b,q,c,d,e)):=by
 have h: ¬wrap .u64 (wrap .u64 (4294967296*g)+c)<wrap .u64 (q*0):=by rw [Int.mul_zero,wu,wu,wu];omega
 rw [awY,hJ (show ¬(4294967296:Int)≤q by omega),hJ h]
 rfl
theorem aBD (n:Nat):Ie (n+2) 1000000=some 44:=by rw [awZ];kernel_rfl
theorem aBE (N V Q R Q2 d u x:Nat) (g:N*4096=u*4294967296+V) (i:4096000000*Q+R=u) (j:x=R*4294967296+V) (b:4096000000*Q2+d=x) (k:d<4096000000):Q*4294967296+Q2=N/1000000:=by
 obtain⟨T,f⟩: ∃T,T=Q*4294967296+Q2:=⟨_,rfl⟩
 have h:N*4096=T*4096000000+d:=by
  rw [g,←i,f,Nat.add_mul,Nat.add_assoc,←j,←b,Nat.add_mul,Nat.mul_comm 4096000000 Q,Nat.mul_comm 4096000000 Q2,Nat.mul_assoc,Nat.mul_assoc,Nat.mul_comm 4096000000 4294967296,Nat.add_assoc]
 rw [←f];clear f g i j b;omega
theorem aBF (h l u v x:Nat) (hu:u=h*17592186044416+l/1048576) (i:v=l%1048576*17592186044416) (f:x=u%4096000000*4294967296+v/4294967296) (j:h<1000000) (k:l<18446744073709551616):
  wrap .u64 (wrap .u64 (((u/4096000000:Nat):Int)*4294967296)+((x/4096000000:Nat):Int))=(((h*18446744073709551616+l)/1000000:Nat):Int):=by
 have d:u/4096000000<4294967296:=by omega
 have b:x/4096000000<4294967296:=by omega
 have g:(h*18446744073709551616+l)*4096=u*4294967296+v/4294967296:=by omega
 rw [←aBE _ _ _ _ _ _ u x g (Nat.div_add_mod u 4096000000) f (Nat.div_add_mod x 4096000000) (Nat.mod_lt x (by omega))]
 generalize u/4096000000=Q at d ⊢
 generalize x/4096000000=Q2 at b ⊢
 rw [wu,wu];omega
theorem nj:wrap .u64 (44:Int)=44:=by decide +kernel
theorem TU:wrap .u64 ((64:Int)-44)=20:=by decide +kernel
theorem m44:(2:Int)^(min (Int.toNat (44:Int)) (IntKind.bits .u64))=17592186044416:=by decide +kernel
theorem m20:(2:Int)^(min (Int.toNat (20:Int)) (IntKind.bits .u64))=1048576:=by decide +kernel
theorem m32:(2:Int)^(min (Int.toNat (32:Int)) (IntKind.bits .u64))=4294967296:=by decide +kernel
theorem wy:wrap .u64 ((1000000:Int)*17592186044416)=17592186044416000000:=by decide +kernel
theorem wy1:Int.fdiv (17592186044416000000:Int) 4294967296=4096000000:=by decide +kernel
theorem wy0:fE .and .u64 (17592186044416000000:Int) 4294967295=0:=by decide +kernel
theorem TW:((4096000000:Int) !=0)=true:=by decide
theorem TX (m k:Nat) (hk:0<k):Int.fdiv (m:Int) (k:Int)=((m/k:Nat):Int):=by rw [Int.fdiv_eq_ediv_of_nonneg _ (by omega)];exact(Int.natCast_ediv m k).symm
theorem aBJ (h l:Nat) (b:h<1000000) (d:l<18446744073709551616):W fun n=> ∃r,Ic n (h:Int) (l:Int) 1000000=some ((((h*18446744073709551616+l)/1000000:Nat):Int),r):=by
 refine W.succ ((W.ge 2).mono fun n z=> ?_)
 obtain⟨n,rfl⟩: ∃m,n=m+2:=⟨n-2,by omega⟩
 rw [awW];by_cases f:h=0
 ·subst f
  refine⟨Int.tmod (l:Int) 1000000, ?_⟩
  have e:wrap .u64 (Int.tdiv (l:Int) 1000000)=((l/1000000:Nat):Int):=by
   rw [show (Int.tdiv (l:Int) (1000000:Int))=((l/1000000:Nat):Int)from(sR l 1000000).symm,wu];omega
  rw [e,Nat.zero_mul,Nat.zero_add,show((1000000:Int)==(0:Int))=false from by decide,hJ (by omega),show(((0:Nat):Int)==(0:Int))=true from by decide,show((1000000:Int) !=(0:Int))=true from by decide]
  rw [da,da,Y,Y,Y]
 ·have g:((h:Int)==(0:Int))=false:=by simp;omega
  rw [show ((1000000:Int)==(0:Int))=false from by decide,hJ (by omega),g,aBD,da,da,da,Z]
  rw [ez (show (0:Int)≤wrap .u64 44 by rw [nj];omega),ez (show (0:Int)≤wrap .u64 (64-wrap .u64 44) by rw [nj,TU];omega),Y,Y,Y,Y]
  rw [nj,TU,m44,m20,m32,wy,wy1,wy0,TW,Y];obtain⟨u,hu⟩: ∃u:Nat,u=h*17592186044416+l/1048576:=⟨_,rfl⟩
  obtain⟨v,i⟩: ∃v:Nat,v=l%1048576*17592186044416:=⟨_,rfl⟩
  have j:wrap .u64 ((l:Int)*17592186044416)=(v:Int):=by rw [wu];omega
  have k:wrap .u64 ((h:Int)*17592186044416)=((h*17592186044416:Nat):Int):=by rw [wu];omega
  have p:Int.fdiv (l:Int) 1048576=((l/1048576:Nat):Int):=TX l 1048576 (by omega)
  have q:Int.fdiv (v:Int) 4294967296=((v/4294967296:Nat):Int):=TX v 4294967296 (by omega)
  rw [j,k,p,q,aBz v (by omega),aBA h _ (by omega) (by omega),←hu]
  have q1:wrap .u64 (Int.tdiv (u:Int) 4096000000)=((u/4096000000:Nat):Int):=by
   rw [show (Int.tdiv (u:Int) (4096000000:Int))=((u/4096000000:Nat):Int)from(sR u 4096000000).symm,wu];omega
  rw [q1,aBB _ _ _ _ _ _ _ _ _ _ (by omega),Z,cO,TW,Y]
  obtain⟨x,s⟩: ∃x:Nat,x=u%4096000000*4294967296+v/4294967296:=⟨_,rfl⟩
  have t:wrap .u64 (wrap .u64 (wrap .u64 ((u:Int)*4294967296)+((v/4294967296:Nat):Int))-wrap .u64 (((u/4096000000:Nat):Int)*17592186044416000000))=(x:Int):=by
   rw [wu,wu,wu,wu,Int.emod_add_emod,Int.emod_sub_emod,aBy,show((u:Int)*4294967296+((v/4294967296:Nat):Int)-((u/4096000000:Nat):Int)*17592186044416000000)=(x:Int) by omega]
   exact Int.emod_eq_of_lt (by omega) (by omega)
  rw [t];have q2:wrap .u64 (Int.tdiv (x:Int) 4096000000)=((x/4096000000:Nat):Int):=by
   rw [show (Int.tdiv (x:Int) (4096000000:Int))=((x/4096000000:Nat):Int)from(sR x 4096000000).symm,wu];omega
  rw [q2,aBC _ _ _ _ _ _ _ _ _ _ (by omega),Z,cO,ez (by omega),Y,aBF h l u v x hu i s b d]
  exact⟨_,rfl⟩
theorem wI (x:Int):W fun n=>mX n x=some (lO x):=by
 refine(iK x).nm fun n e=> ?_
 rw [aqM,e];by_cases h:aV x
 ·rw [aB h,uu h];rfl
 ·rw [az h,uw h];rfl
theorem aBK (a b:Int):W fun n=>Gi n a b=some (fV a b):=by
 refine(((iK a).and (iK b)).and (wI (a+b))).nm fun n ⟨⟨h,g⟩,i⟩=> ?_
 rw [aqL,h];by_cases d:aV a
 ·by_cases f:aV b
  ·have hw:wrap .i64 (a+b)=a+b:=by have:=eE d;have:=eE f;rw [IntKind.wrap_i64];omega
   simp only [Z,g,aB d,aB f,hw,i,Bool.not_true,da,fV,aB (And.intro d f),Y]
  ·simp only [Z,g,aB d,az f,fV,az (fun k:aV a∧aV b=>f k.2),Bool.not_true,Bool.not_false,da,Y]
 ·simp only [Z,az d,fV,az (fun k:aV a∧aV b=>d k.1),Bool.not_false,da,Y]
theorem aBL (a b:Int):W fun n=>Gj n a b=some (ja a b):=by
 refine(((iK a).and (iK b)).and (wI (a-b))).nm fun n ⟨⟨h,g⟩,i⟩=> ?_
 rw [aqO,h];by_cases d:aV a
 ·by_cases f:aV b
  ·have hw:wrap .i64 (a-b)=a-b:=by have:=eE d;have:=eE f;rw [IntKind.wrap_i64];omega
   simp only [Z,g,aB d,aB f,hw,i,Bool.not_true,da,ja,aB (And.intro d f),Y]
  ·simp only [Z,g,aB d,az f,ja,az (fun k:aV a∧aV b=>f k.2),Bool.not_true,Bool.not_false,da,Y]
 ·simp only [Z,az d,ja,az (fun k:aV a∧aV b=>d k.1),Bool.not_false,da,Y]
theorem TY (a b:Int):W fun n=>Gl n a b=some (hC a b):=by
 refine(((iK a).and (iK b)).and (wI (Int.tdiv (a*1000000) b))).nm fun n ⟨⟨i,h⟩,j⟩=> ?_
 rw [aqP,i];by_cases d:aV a
 ·by_cases f:aV b
  ·by_cases g:b=0
   ·have z0:(b==(0:Int))=true:=by simpa using g
    simp only [Z,h,aB d,aB f,hC,az (fun k:aV a∧aV b∧b≠0=>k.2.2 g),Bool.not_true,da,Y,z0]
   ·have hw:wrap .i64 (a*1000000)=a*1000000:=by have:=eE d;rw [IntKind.wrap_i64];omega
    have m:wrap .i64 (Int.tdiv (a*1000000) b)=Int.tdiv (a*1000000) b:=by
     have q:=eE d;have r:=Int.natAbs_tdiv_le_natAbs (a*1000000) b;rw [IntKind.wrap_i64];omega
    have p:(b==(0:Int))=false:=by simpa using g
    have z2:(b !=(0:Int))=true:=by simpa using g
    simp only [Z,h,aB d,aB f,hw,m,j,p,z2,Bool.not_true,da,hC,aB (And.intro d (And.intro f g)),Y]
  ·simp only [Z,h,aB d,az f,hC,az (fun k:aV a∧aV b∧b≠0=>f k.2.1),Bool.not_true,Bool.not_false,da,Y]
 ·simp only [Z,az d,hC,az (fun k:aV a∧aV b∧b≠0=>d k.1),Bool.not_false,da,Y]
theorem Jy (x:Int):W fun n=>qA n x=some (lO x):=by
 refine(iL x).nm fun n e=> ?_
 rw [Ro,e];by_cases h:aV x
 ·rw [aB h,uu h];rfl
 ·rw [az h,uw h];rfl
theorem Ua (a b:Int):W fun n=>As n a b=some (fV a b):=by
 refine(((iL a).and (iL b)).and (Jy (a+b))).nm fun n ⟨⟨h,g⟩,i⟩=> ?_
 rw [avI,h];by_cases d:aV a
 ·by_cases f:aV b
  ·have hw:wrap .i64 (a+b)=a+b:=by have:=eE d;have:=eE f;rw [IntKind.wrap_i64];omega
   simp only [Z,g,aB d,aB f,hw,i,Bool.not_true,da,fV,aB (And.intro d f),Y]
  ·simp only [Z,g,aB d,az f,fV,az (fun k:aV a∧aV b=>f k.2),Bool.not_true,Bool.not_false,da,Y]
 ·simp only [Z,az d,fV,az (fun k:aV a∧aV b=>d k.1),Bool.not_false,da,Y]
theorem aBM (a b:Int):W fun n=>HZ n a b=some (ja a b):=by
 refine(((iL a).and (iL b)).and (Jy (a-b))).nm fun n ⟨⟨h,g⟩,i⟩=> ?_
 rw [awU,h];by_cases d:aV a
 ·by_cases f:aV b
  ·have hw:wrap .i64 (a-b)=a-b:=by have:=eE d;have:=eE f;rw [IntKind.wrap_i64];omega
   simp only [Z,g,aB d,aB f,hw,i,Bool.not_true,da,ja,aB (And.intro d f),Y]
  ·simp only [Z,g,aB d,az f,ja,az (fun k:aV a∧aV b=>f k.2),Bool.not_true,Bool.not_false,da,Y]
 ·simp only [Z,az d,ja,az (fun k:aV a∧aV b=>d k.1),Bool.not_false,da,Y]
theorem aBN (a b:Int):W fun n=>Ig n a b=some (hC a b):=by
 refine(((iL a).and (iL b)).and (Jy (Int.tdiv (a*1000000) b))).nm fun n ⟨⟨i,h⟩,j⟩=> ?_
 rw [axA,i];by_cases d:aV a
 ·by_cases f:aV b
  ·by_cases g:b=0
   ·have z0:(b==(0:Int))=true:=by simpa using g
    simp only [Z,h,aB d,aB f,hC,az (fun k:aV a∧aV b∧b≠0=>k.2.2 g),Bool.not_true,da,Y,z0]
   ·have hw:wrap .i64 (a*1000000)=a*1000000:=by have:=eE d;rw [IntKind.wrap_i64];omega
    have m:wrap .i64 (Int.tdiv (a*1000000) b)=Int.tdiv (a*1000000) b:=by
     have q:=eE d;have r:=Int.natAbs_tdiv_le_natAbs (a*1000000) b;rw [IntKind.wrap_i64];omega
    have p:(b==(0:Int))=false:=by simpa using g
    have z2:(b !=(0:Int))=true:=by simpa using g
    simp only [Z,h,aB d,aB f,hw,m,j,p,z2,Bool.not_true,da,hC,aB (And.intro d (And.intro f g)),Y]
  ·simp only [Z,h,aB d,az f,hC,az (fun k:aV a∧aV b∧b≠0=>f k.2.1),Bool.not_true,Bool.not_false,da,Y]
 ·simp only [Z,az d,hC,az (fun k:aV a∧aV b∧b≠0=>d k.1),Bool.not_false,da,Y]
theorem aBO {a:Int} (h:aV a):W fun n=>GD n a=some (jb a):=by
 refine(W.ge 0).nm fun n _=> ?_
 have d:=eE h;have f:=Int.mul_tdiv_add_tmod a 1000000;have g:=xU a;have b:wrap .i64 (Int.tdiv a 1000000)=Int.tdiv a 1000000:=by rw [IntKind.wrap_i64];omega
 have hw:wrap .i64 (Int.tdiv a 1000000*1000000)=jb a:=by rw [IntKind.wrap_i64];unfold jb;omega
 rw [arQ,b,hw]
theorem Ub {a:Int} (h:aV a):W fun n=>Aw n a=some (jb a):=by
 refine(W.ge 0).nm fun n _=> ?_
 have b:=eE h;have d:=xU a;have hw:wrap .i64 (a-Int.tmod a 1000000)=jb a:=by rw [IntKind.wrap_i64];unfold jb;omega
 rw [avV,hw]
def aG (v:V):O:=sQ v.1 v.2.1 v.2.2
theorem aBP (a:Int):(lh a).length≤60:=by
 have key: ∀k:Nat,k≤9000000000000→(lg k).length≤59:=by
  intro k hk;have d:=BG (k:=k/1000000) (by omega)
  have f:=BG (k:=1000000+k%1000000) (by omega)
  have b:=Jw ((Lib.decDigits (1000000+k%1000000)).drop 1);unfold lg;split
  ·omega
  ·simp only [List.length_append,List.length_cons,List.length_nil,List.length_drop]at b ⊢
   omega
 unfold lh;split
 ·simp
 split
 ·have:=key a.natAbs (by omega);simp only [List.length_cons];omega
 ·have:=key a.natAbs (by omega);omega
theorem kr {v:V} (h:bP v):(aG v).length≤300:=by
 unfold aG sQ;split
 ·have:=aBP v.2.1;omega
 ·exact h.2.1
def dj (v:V):O:=(aG v).take 300
theorem Jz: ∀a b:O,Lib.compareBytes a b=0↔a=b
 | [],[]=>by simp [Lib.compareBytes]
 | [],_::_=>by simp [Lib.compareBytes]
 |_::_,[]=>by simp [Lib.compareBytes]
 |a::x,b::y=>by
  rw [Lib.compareBytes];by_cases h:a<b
  ·simp [h];rintro rfl;exact absurd h (UInt8.lt_irrefl _)
  ·rw [if_neg h]
   by_cases k:b<a
   ·simp [k];rintro rfl;exact absurd k (UInt8.lt_irrefl _)
   ·rw [if_neg k,Jz x y]
    have:a=b:=UInt8.le_antisymm (UInt8.not_lt.1 k) (UInt8.not_lt.1 h);simp [this]
noncomputable def fO (a b:V):Int:=if a.1=2∨b.1=2 then Lib.compareBytes (aG a) (aG b)else if aI a<aI b then -1 else if aI b<aI a then 1 else 0
theorem JA (b:Bool):W fun n=>sj n b=some (cond b 1 0):=W.succ (W.of fun n=>by rw [arP];cases b<;>rfl)
theorem jJ (x:Int):W fun n=>gf n x=some (nV x):=W.succ (W.of fun n=>aqN n x)
theorem mf (x:Int):W fun n=>iI n x=some (nV x):=W.succ (W.of fun n=>Ry n x)
theorem qL (s:O):W fun n=>ni n s=some (tV s):=W.succ (W.of fun n=>avT n s)
theorem BJ (b:Bool):W fun n=>sg n b=some (bV b):=by
 refine((JA b).and (jJ (cond b 1000000 0))).nm fun n ⟨d,f⟩=> ?_
 rw [arO,d];have hw:IntKind.wrap .i64 ((1000000:Int)*cond b 1 0)=cond b 1000000 0:=by cases b<;>decide
 simp only [Z,hw,f];rfl
theorem wJ (b:Bool):W fun n=>qE n b=some (bV b):=by
 refine((mf 1000000).and (mf 0)).nm fun n ⟨d,f⟩=> ?_
 rw [awR,d,f];cases b<;>rfl
theorem jk {v:V} (h:v.2.2.length≤300):W fun n=>gM n v.1 v.2.1 v.2.2=some (aI v):=by
 refine(Te v.2.2 h).nm fun n e=> ?_
 rw [aqK,e];unfold aI;cases v.1==1<;>cases v.1==3<;>cases v.1==2<;>rfl
theorem iN (v:V):W fun n=>gb n v.1 v.2.1 v.2.2=some (aG v):=aBw v.1 v.2.1 v.2.2
theorem JB (v:V):W fun n=>vo n v.1 v.2.1 v.2.2=some (gK v):=W.succ (W.of fun n=>by
 rw [aqD];unfold gK;cases v.1==1<;>cases v.1==3<;>cases v.1==2<;>rfl)
theorem np {v:V} (h:v.2.2.length≤300):W fun n=>kT n v.1 v.2.1 v.2.2=some (aI v):=by
 refine(Tc v.2.2 h).nm fun n e=> ?_
 rw [avH,e];unfold aI;cases v.1==1<;>cases v.1==3<;>cases v.1==2<;>rfl
theorem mg (v:V):W fun n=>gO n v.1 v.2.1 v.2.2=some (aG v):=aBx v.1 v.2.1 v.2.2
theorem JC (v:V):W fun n=>vT n v.1 v.2.1 v.2.2=some (gK v):=W.succ (W.of fun n=>by
 rw [avE];unfold gK;cases v.1==1<;>cases v.1==3<;>cases v.1==2<;>rfl)
theorem aBQ (s:O):s.take (300-0)=s.take 300:=rfl
theorem JD (s:O):W fun n=>vy n s=some (mR s):=by
 refine(Ti (s.take 300) (by simp;omega)).nm fun n e=> ?_
 rw [aqT,mR];by_cases h:300<s.length
 ·rw [ez (by omega),ez (by omega),aBQ,e]
  simp only [Y,Z];cases (fw (s.take 300)).2<;>rfl
 ·have b:s.take 300=s:=List.take_of_length_le (by omega)
  rw [b]at e ⊢;rw [hJ (by omega),e]
  simp only [da,Z];cases (fw s).2<;>rfl
theorem aBR (s:O):(cond (decide ((300:Int)<(s.length:Int))) (300:Int) (s.length:Int))=((min 300 s.length:Nat):Int):=by
 by_cases h:300<s.length
 ·rw [ez (by omega)];simp only [Y];omega
 ·rw [hJ (by omega)];simp only [da];omega
theorem Uc (s:O):W fun n=>oM n s=some (s.take 300):=W.succ (W.of fun n=>by
 rw [avL,aBR,ez (by omega)]
 simp only [Y,Int.toNat_natCast,Nat.sub_zero];congr 1
 rw [List.take_eq_take_iff];omega)
theorem JE (s:O):W fun n=>vY n s=some (mR s):=by
 refine(((Uc s).and (Tg (s.take 300) (by simp;omega))).and (qL (s.take 300))).nm fun n ⟨⟨b,d⟩,f⟩=> ?_
 rw [avW,b];simp only [Z,d,f,mR];cases (fw (s.take 300)).2<;>rfl
theorem BK (v:V):W fun n=>sa n v.1 v.2.1 v.2.2=some (dj v):=by
 refine(iN v).nm fun n e=> ?_
 rw [aqQ,e];simp only [Z,dj];by_cases h:300<(aG v).length
 ·rw [ez (by omega),ez (by omega)];rfl
 ·rw [hJ (by omega),List.take_of_length_le (by omega)];rfl
theorem aBS {a b:V} (p:bP a) (q:bP b):W fun n=>GI n a.1 a.2.1 a.2.2 b.1 b.2.1 b.2.2=some (fO a b):=by
 refine(((((iN a).and (iN b)).and (jk p.2.1)).and (jk q.2.1)).and ((JA (decide (aI b<aI a))).and (JA (!(Op.bytesLess (aG a) (aG b)||aG a==aG b))))).nm fun n ⟨⟨⟨⟨r,s⟩,t⟩,u⟩,e5,e6⟩=> ?_
 rw [arW,r];simp only [Z,s];have hB:=DH (aG a) (aG b);have j:=BB (aG a) (aG b);have m:=Jz (aG a) (aG b);have f:(cond (Op.bytesLess (aG a) (aG b)) (some (-1:Int)) ((sj n (!(Op.bytesLess (aG a) (aG b)||aG a==aG b))).bind fun y=>some y))=some (Lib.compareBytes (aG a) (aG b)):=by
  rw [e6];cases d:Op.bytesLess (aG a) (aG b)
  ·have h1: ¬Lib.compareBytes (aG a) (aG b)<0:=by rw [j,d];simp
   by_cases he:aG a=aG b
   ·have:Lib.compareBytes (aG a) (aG b)=0:=m.2 he
    simp [he]
    rw [he]at this;exact this.symm
   ·have g:Lib.compareBytes (aG a) (aG b)≠0:=fun k=>he (m.1 k)
    have:Lib.compareBytes (aG a) (aG b)=1:=by omega
    have z:(aG a==aG b)=false:=by simpa using he
    simp [z,this]
  ·have h1:=j.2 d
   have:Lib.compareBytes (aG a) (aG b)= -1:=by omega
   simp [this]
 unfold fO;by_cases g:a.1=2
 ·have z:(a.1 !=(2:Int))=false:=by simpa using g
  rw [z,if_pos (.inl g),←f];rfl
 ·have z:(a.1 !=(2:Int))=true:=by simpa using g
  rw [z];by_cases i:b.1=2
  ·have z:(b.1 !=(2:Int))=false:=by simpa using i
   rw [z,if_pos (.inr i),←f];rfl
  ·have z:(b.1 !=(2:Int))=true:=by simpa using i
   rw [z,if_neg (by rintro(k|k)<;>contradiction)]
   simp only [Y,Z,t,u,e5];by_cases d:aI a<aI b
   ·rw [if_pos d,ez d];rfl
   ·rw [if_neg d,hJ d]
    by_cases h:aI b<aI a
    ·rw [if_pos h,ez h];rfl
    ·rw [if_neg h,hJ h];rfl
theorem aBT {a b:V} (i:bP a) (j:bP b):W fun n=>Ih n a.1 a.2.1 a.2.2 b.1 b.2.1 b.2.2=some (fO a b):=by
 refine(((((mg a).and (mg b)).and (np i.2.1)).and (np j.2.1)).and (W.ge 1)).nm fun n ⟨⟨⟨⟨p,q⟩,r⟩,s⟩,t⟩=> ?_
 obtain⟨n,rfl⟩: ∃m,n=m+1:=⟨n-1,by omega⟩
 rw [axB,p,r];simp only [Z,q,s,Jq];unfold fO;by_cases g:a.1=2
 ·have z:(a.1==(2:Int))=true:=by simpa using g
  rw [z,if_pos (.inl g)];rfl
 ·have z:(a.1==(2:Int))=false:=by simpa using g
  rw [z];by_cases h:b.1=2
  ·have z:(b.1==(2:Int))=true:=by simpa using h
   rw [z,if_pos (.inr h)];rfl
  ·have z:(b.1==(2:Int))=false:=by simpa using h
   rw [z,if_neg (by rintro(k|k)<;>contradiction)]
   simp only [da,Z];by_cases d:aI a<aI b
   ·rw [if_pos d,ez d];rfl
   ·rw [if_neg d,hJ d]
    by_cases f:aI b<aI a
    ·rw [if_pos f,ez f];rfl
    ·rw [if_neg f,hJ f];rfl
theorem BL {α f:Type} {l:List α} (t:l.length≤1048576) {p:α→Bool} {r:Int→f} {b:f} {L:Nat→Nat→Int→Option f}
  (g:W fun n=> ∀m (i:Nat),(h:i<l.length)→L n (m+1) (i:Int)=cond (p l[i]) (some (r i)) (L n m (wrap .i64 ((i:Int)+(1:Int)))))
  (he: ∀n m,L n (m+1) (l.length:Int)=some b):W fun n=>L n n 0=some (match l.findIdx? p with|some i=>r i|none=>b):=by
 have:=jY (len:=l.length) (L:=fun n m i (_:Unit)=>L n m (i:Int)) (fun i _=> ∀j (hj:j<l.length),j<i→p l[j]=false) (fun x=>x=match l.findIdx? p with|some i=>r i|none=>b) ?_ ?_
 ·exact this.mono fun n h=>by
   obtain⟨x,k,q⟩:=h () (fun j _ hj=>absurd hj (Nat.not_lt_zero _))
   rw [←q];exact k
 ·refine g.mono fun n h m i _ hi hinv=> ?_
  have h:=h m i hi;cases d:p l[i]with
  |true=>
   left
   rw [d]at h;have e:l.findIdx? p=some i:=by
    rw [List.findIdx?_eq_some_iff_getElem]
    exact⟨hi,d,fun j hj=>by rw [hinv j (by omega) hj];simp⟩
   exact⟨_,h,by rw [e]⟩
  |false=>
   right
   rw [d]at h;refine⟨(),by rw [←dx hi (by omega)];exact h,fun j hj s=> ?_⟩
   by_cases e:j=i
   ·subst e;exact d
   ·exact hinv j hj (by omega)
 ·refine W.of fun n m _ hinv=>⟨_,he n m, ?_⟩
  have e:l.findIdx? p=none:=by
   rw [List.findIdx?_eq_none_iff]
   intro x g;obtain⟨j,hj,rfl⟩:=List.mem_iff_getElem.1 g;exact hinv j hj hj
  rw [e]
def nq (nm:Int) (key:O) (c:VC):Bool:=cond (c.1==nm) (c.2.1==key) false
def fA (cs:List VC) (nm:Int) (key:O):Option Nat:=cs.findIdx? (nq nm key)
def wK:Option Nat→Int
 |some i=>i
 |none=> -1
def fB (cs:List VC) (nm:Int) (key:O):V:=match fA cs nm key with
 |some i=>match cs[i]? with|some c=>c.2.2|none=>v0
 |none=>v0
def ns (cs:List VC) (nm:Int) (key:O):List VC:=match fA cs nm key with
 |some i=>cs.take i++cs.drop (i+1)
 |none=>cs
noncomputable def gh (cs:List VC) (nm:Int) (key:O):Nat:=match cs.findIdx? (fun c=>bo (¬dX c.1 c.2.1 nm key))with|some i=>i|none=>cs.length
noncomputable def lj (cs:List VC) (nm:Int) (key:O) (v:V):Option (List VC):=match fA cs nm key with
 |some i=>match cs[i]? with|some c=>some (cs.set i (c.1,c.2.1,v))|none=>none
 |none=>if 40≤cs.length then none else some (cs.take (gh cs nm key)++((nm,key,v)::cs.drop (gh cs nm key)))
theorem oY {cs:List VC} {nm:Int} {key:O} {i:Nat} (h:fA cs nm key=some i):i<cs.length∧ ∀h:i<cs.length,cs[i].1=nm∧cs[i].2.1=key:=by
 unfold fA at h;obtain⟨d,b, -⟩:=List.findIdx?_eq_some_iff_getElem.1 h
 refine⟨d,fun _=> ?_⟩
 unfold nq at b;cases e:cs[i].1==nm with
 |true=>rw [e]at b;exact⟨by simpa using e,by simpa using b⟩
 |false=>rw [e]at b;cases b
theorem JF (cs:List VC) (nm:Int) (key:O):gh cs nm key≤cs.length:=by
 unfold gh;split
 ·rename_i i h
  obtain⟨b, -, -⟩:=List.findIdx?_eq_some_iff_getElem.1 h
  omega
 ·exact Nat.le_refl _
theorem JG (vs:ae) (cs:ai) (nr er nm:Int) (key:O) (d:cs.length≤1048576):W fun n=>mY n vs cs nr er nm key=some (wK (fA cs nm key)):=by
 have k:=BL d (p:=nq nm key) (r:=Sum.inr) (b:=.inl ()) (L:=fun n m i=>sb n m vs cs nr er i key nm) (W.of fun n m i hi=>by
  rw [Qz,bu hi,bj hi];simp only [Y,Z,nq];cases cs[i].1==nm<;>cases cs[i].2.1==key<;>rfl) (fun n m=>by rw [Qz,cp];rfl)
 refine k.nm fun n e=> ?_
 rw [aqS,show sb n n vs cs nr er 0 key nm=_ from e];unfold fA;cases cs.findIdx? (nq nm key)<;>rfl
theorem JH (vs:ae) (cs:ai) (nr er nm:Int) (key:O) (d:cs.length≤1048576):W fun n=>nh n vs cs nr er nm key=some (wK (fA cs nm key)):=by
 have k:=BL d (p:=nq nm key) (r:=fun i=>.inr (i,nm,key)) (b:=.inl (nm,key)) (L:=fun n m i=>vV n m nm key i cs cs.length) ((W.ge 1).mono fun n f m i hi=>by
  obtain⟨n,rfl⟩: ∃k,n=k+1:=⟨n-1,by omega⟩
  rw [RB,bu hi,bj hi];simp only [Y,Z,avO,nq];cases cs[i].1==nm<;>cases cs[i].2.1==key<;>rfl) (fun n m=>by rw [RB,cp];rfl)
 refine(k.nm (q:=fun n=>HJ n nm key cs=some (wK (fA cs nm key),nm,key)) fun n e=> ?_).nm fun n e=> ?_
 ·rw [avN,show vV n n nm key 0 cs cs.length=_ from e]
  unfold fA;cases cs.findIdx? (nq nm key)<;>rfl
 ·rw [avM,e];rfl
theorem Ud (vs:ae) (cs:ai) (nr er nm:Int) (key:O) (b:cs.length≤1048576):W fun n=>zr n vs cs nr er nm key=some (fB cs nm key):=by
 refine(JG vs cs nr er nm key b).nm fun n e=> ?_
 rw [aqR,e];unfold fB;cases h:fA cs nm key with
 |none=>rfl
 |some i=>
  have hi:=(oY h).1;simp only [wK,Z];rw [hJ (by omega),bj hi,List.getElem?_eq_getElem hi];rfl
theorem Ue (vs:ae) (cs:ai) (nr er nm:Int) (key:O) (b:cs.length≤1048576):W fun n=>Av n vs cs nr er nm key=some (fB cs nm key):=by
 refine(JH vs cs nr er nm key b).nm fun n e=> ?_
 rw [avR,e];unfold fB;cases h:fA cs nm key with
 |none=>rfl
 |some i=>
  have hi:=(oY h).1;simp only [wK,Z];rw [hJ (by omega),bj hi,List.getElem?_eq_getElem hi];rfl
theorem cx {k:Nat} (h:k≤4000000):Nat.ble k big=true:=Nat.ble_eq_true_of_le (by unfold big;omega)
theorem qM (vs:ae) (cs:ai) (nr er:Int) (b:vs.length≤1048576) (d:cs.length≤1048576):W fun n=>oH n vs cs nr er=some (vs,cs,nr,er):=W.succ (W.of fun n=>by
 rw [aqA,cx (by omega),cx (by omega)];rfl)
theorem Uf (n:Nat) (vs:ae):Ao (n+1) vs=cond (Nat.ble (List.length vs) big) (some vs) none:=by kernel_rfl
theorem aBU (n:Nat) (cs:ai):OW (n+1) cs=cond (Nat.ble (List.length cs) big) (some cs) none:=by kernel_rfl
theorem aBV (n:Nat) (cs:ai) (i j:Int):OY (n+1) cs i j=cond (decide (0≤i∧i≤j∧j≤(List.length cs:Int))) (some (cs.take i.toNat++cs.drop j.toNat)) none:=by kernel_rfl
theorem aBW (n:Nat) (cs:ai) (i:Int) (v:ai):Au (n+1) cs i v=cond (decide (0≤i∧i≤(List.length cs:Int))&&Nat.ble (List.length cs+List.length v) big) (some (cs.take i.toNat++(v++cs.drop i.toNat))) none:=by kernel_rfl
theorem sS (vs:ae) (cs:ai) (nr er:Int) (b:vs.length≤1048576) (d:cs.length≤1048576):W fun n=>nf n vs cs nr er=some (vs,cs,nr,er):=by
 refine(W.ge 1).nm fun n f=> ?_
 obtain⟨n,rfl⟩: ∃k,n=k+1:=⟨n-1,by omega⟩
 rw [auZ,Uf,cx (by omega)]
 simp only [Y,Z,aBU];rw [cx (by omega)];rfl
theorem jK {i:Nat} (h:i≤1048576):wrap .i64 ((i:Int)+1)=((i+1:Nat):Int):=by rw [IntKind.wrap_i64];omega
theorem BM {α:Type} (l:List α) (k:Nat):(l.drop k).take (l.length-k)=l.drop k:=List.take_of_length_le (by simp)
theorem aBX (vs:ae) (cs:ai) (nr er nm:Int) (key:O) (j:vs.length≤1048576) (d:cs.length≤1048576):W fun n=>Gn n vs cs nr er nm key=some (vs,ns cs nm key,nr,er):=by
 refine((qM vs cs nr er j d).and (JG vs cs nr er nm key d)).nm fun n ⟨f,g⟩=> ?_
 cases h:fA cs nm key with
 |none=>
  have b:mY n vs cs nr er nm key=some (-1:Int):=by rw [g,h];rfl
  rw [QD,f];simp only [Z,b];rw [hJ (by omega),ns,h];rfl
 |some i=>
  have b:mY n vs cs nr er nm key=some (i:Int):=by rw [g,h];rfl
  rw [QD,f];simp only [Z,b];have hi:=(oY h).1;have k:wrap .i64 ((i:Int)+1)=((i+1:Nat):Int):=jK (by omega)
  simp only [k];rw [ez (by omega),ez (by omega),ez (by omega)]
  simp only [Y,Int.toNat_natCast,Nat.sub_zero,List.drop_zero,BM,ns,h];rw [cx (by simp;omega),cx (by simp;omega)];rfl
theorem aBY (vs:ae) (cs:ai) (nr er nm:Int) (key:O) (j:vs.length≤1048576) (d:cs.length≤1048576):W fun n=>HM n vs cs nr er nm key=some (vs,ns cs nm key,nr,er):=by
 refine(((sS vs cs nr er j d).and (JH vs cs nr er nm key d)).and (W.ge 1)).nm fun n ⟨⟨f,g⟩,p⟩=> ?_
 obtain⟨n,rfl⟩: ∃k,n=k+1:=⟨n-1,by omega⟩
 cases h:fA cs nm key with
 |none=>
  have b:nh (n+1) vs cs nr er nm key=some (-1:Int):=by rw [g,h];rfl
  rw [RD,f];simp only [Z,b];rw [hJ (by omega),ns,h];rfl
 |some i=>
  have b:nh (n+1) vs cs nr er nm key=some (i:Int):=by rw [g,h];rfl
  rw [RD,f];simp only [Z,b];have hi:=(oY h).1;have m:wrap .i64 ((i:Int)+1)=((i+1:Nat):Int):=jK (by omega)
  simp only [m];rw [ez (by omega),aBV,ez (by omega)]
  simp only [Y,Int.toNat_natCast,Z];rw [ns,h]
theorem aBZ (a:Int) (s:O) (p q:Int) (r:O) (b:Int) (t:O) (d f:Int) (g:O):W fun n=> ∃v,vR n a s p q r b t d f g=some v∧(0<v↔ ¬dX a s b t∧ ¬(a=b∧s=t)):=by
 refine W.succ (W.succ (W.of fun n=> ?_))
 rw [Rq,Jq];unfold dX;have i:=BB s t;have j:=Jz s t;by_cases h:a<b
 ·rw [ez h]
  exact⟨-1,rfl,by simp [h]⟩
 ·rw [hJ h]
  by_cases k:b<a
  ·rw [ez k]
   exact⟨1,rfl,by simp [h];omega⟩
  ·rw [hJ k]
   obtain rfl:a=b:=by omega
   refine⟨_,rfl, ?_⟩
   rw [←i,←j];omega
theorem Ug (_:ae) (cs:ai) (_ _ nm:Int) (key:O) (v:V) {i:Nat} (h:fA cs nm key=some i): ∃c,cs[i]? =some c∧lj cs nm key v=some (cs.set i (c.1,c.2.1,v)):=by
 have hi:=(oY h).1;refine⟨cs[i],List.getElem?_eq_getElem hi, ?_⟩
 unfold lj;rw [h];simp only [List.getElem?_eq_getElem hi]
def mh (vs:ae) (cs:ai) (nr er:Int) (o:Option (List VC)):ae×(ai×Int×Int×Bool):=match o with
 |some l=>(vs,l,nr,er,true)
 |none=>(vs,cs,nr,er,false)
theorem aCa (cs:List VC) (nm:Int) (key:O) {b:Type} (r:Int→b):(match cs.findIdx? (fun c=>bo (¬dX c.1 c.2.1 nm key))with|some i=>r i|none=>r cs.length)=r (gh cs nm key):=by
 unfold gh;cases cs.findIdx? (fun c=>bo (¬dX c.1 c.2.1 nm key))<;>rfl
theorem Uh (vs:ae) (cs:ai) (nr er nm:Int) (key:O) (v:V) (s:vs.length≤1048576) (g:cs.length≤1048576):W fun n=>Gm n vs cs nr er nm key v.1 v.2.1 v.2.2=some (mh vs cs nr er (lj cs nm key v)):=by
 have k:=BL g (p:=fun c=>bo (¬dX c.1 c.2.1 nm key)) (r:=fun i=>Sum.inl (0,0,vs,cs,nr,er,vs,cs,nr,er,v.1,v.2.1,v.2.2,i,key,nm)) (b:=Sum.inl (0,0,vs,cs,nr,er,vs,cs,nr,er,v.1,v.2.1,v.2.2,(cs.length:Int),key,nm)) (L:=fun n m i=>vx n m 0 0 vs cs nr er vs cs nr er v.1 v.2.1 v.2.2 i key nm) ((W.all cs fun c _=>Ty c.1 c.2.1 c.2.2.1 c.2.2.2.1 c.2.2.2.2 nm key).mono fun n h m i hi=>by
  rw [QC,bu hi,bj hi];simp only [Y,Z,h _ (List.getElem_mem hi)];exact eG (by simp)) (fun n m=>by rw [QC,cp];rfl)
 refine(((qM vs cs nr er s g).and (JG vs cs nr er nm key g)).and k).nm fun n ⟨⟨j,q⟩,t⟩=> ?_
 cases h:fA cs nm key with
 |some i=>
  have d:mY n vs cs nr er nm key=some (i:Int):=by rw [q,h];rfl
  rw [QB,j];simp only [Z,d];have hi:=(oY h).1;obtain⟨c,u,hp⟩:=Ug vs cs nr er nm key v h;rw [ez (by omega),ez (by omega),hp]
  simp only [Y,aM,nth,Int.toNat_natCast,u,Z,mh]
 |none=>
  have d:mY n vs cs nr er nm key=some (-1:Int):=by rw [q,h];rfl
  rw [QB,j];simp only [Z,d];rw [hJ (by omega)]
  unfold lj;rw [h];simp only [da];by_cases f:40≤cs.length
  ·rw [ez (by omega),if_pos f];rfl
  ·rw [hJ (by omega),if_neg f,show vx n n 0 0 vs cs nr er vs cs nr er v.1 v.2.1 v.2.2 0 key nm=_ from t,aCa cs nm key fun i=>Sum.inl (0,0,vs,cs,nr,er,vs,cs,nr,er,v.1,v.2.1,v.2.2,i,key,nm)]
   have z:=JF cs nm key;simp only [da,Z,ay];rw [ez (by omega)]
   simp only [Y,Int.toNat_natCast,Nat.sub_zero,List.drop_zero,BM];rw [cx (by simp;omega),cx (by simp;omega),cx (by simp;omega)]
   simp only [Y,mh,List.append_assoc,List.cons_append,List.nil_append]
theorem aCb {α:Type} (l:List α) (p q:α→Bool) (h: ∀x∈l,p x=q x):l.findIdx? p=l.findIdx? q:=by
 induction l with
 |nil=>rfl
 |cons a l ih=>rw [List.findIdx?_cons,List.findIdx?_cons,h a (by simp),ih fun x b=>h x (by simp [b])]
theorem Ui {cs:List VC} {nm:Int} {key:O} (h:fA cs nm key=none): ∀c∈cs,¬(c.1=nm∧c.2.1=key):=by
 unfold fA at h;rw [List.findIdx?_eq_none_iff]at h
 rintro c b ⟨d,f⟩
 have:=h c b;simp [nq,d,f]at this
theorem Uj (vs:ae) (cs:ai) (nr er nm:Int) (key:O) (v:V) (z:vs.length≤1048576) (q:cs.length≤1048576):W fun n=>HI n vs cs nr er nm key v.1 v.2.1 v.2.2=some (mh vs cs nr er (lj cs nm key v)):=by
 have hq: ∀c:VC,W fun n=>HL n nm key v.1 v.2.1 v.2.2 c.1 c.2.1 c.2.2.1 c.2.2.2.1 c.2.2.2.2=some (bo (¬dX c.1 c.2.1 nm key∧ ¬(c.1=nm∧c.2.1=key)),nm,key,v.1,v.2.1,v.2.2):=fun c=>by
  refine(aBZ c.1 c.2.1 c.2.2.1 c.2.2.2.1 c.2.2.2.2 nm key v.1 v.2.1 v.2.2).nm fun n ⟨x,e,hx⟩=> ?_
  rw [avQ,e];simp only [Z,bR];rw [propext hx]
 have k:=BL q (p:=fun c=>bo (¬dX c.1 c.2.1 nm key∧ ¬(c.1=nm∧c.2.1=key))) (r:=fun i=>Sum.inr (i,nm,key,v.1,v.2.1,v.2.2)) (b:=Sum.inl (nm,key,v.1,v.2.1,v.2.2)) (L:=fun n m i=>vW n m nm key v.1 v.2.1 v.2.2 i cs cs.length) ((W.all cs fun c _=>hq c).mono fun n h m i hi=>by
  rw [RC,bu hi,bj hi];simp only [Y,Z,h _ (List.getElem_mem hi)]) (fun n m=>by rw [RC,cp];rfl)
 have k2:W fun n=>HK n nm key v.1 v.2.1 v.2.2 cs=some (match cs.findIdx? (fun c=>bo (¬dX c.1 c.2.1 nm key∧ ¬(c.1=nm∧c.2.1=key)))with|some i=>((i:Int),nm,key,v.1,v.2.1,v.2.2)|none=>((-1:Int),nm,key,v.1,v.2.1,v.2.2)):=k.nm fun n e=>by
  rw [avP,show vW n n nm key v.1 v.2.1 v.2.2 0 cs cs.length=_ from e];cases cs.findIdx? (fun c=>bo (¬dX c.1 c.2.1 nm key∧ ¬(c.1=nm∧c.2.1=key)))<;>rfl
 refine((((sS vs cs nr er z q).and (JH vs cs nr er nm key q)).and k2).and (W.ge 1)).nm fun n ⟨⟨⟨t,u⟩,e3⟩,hn⟩=> ?_
 obtain⟨n,rfl⟩: ∃k,n=k+1:=⟨n-1,by omega⟩
 cases h:fA cs nm key with
 |some i=>
  have d:nh (n+1) vs cs nr er nm key=some (i:Int):=by rw [u,h];rfl
  rw [RA,t];simp only [Z,d];have hi:=(oY h).1;obtain⟨c,s,hp⟩:=Ug vs cs nr er nm key v h;rw [ez (by omega),ez (by omega),hp]
  simp only [Y,aM,nth,Int.toNat_natCast,s,Z,mh]
 |none=>
  have d:nh (n+1) vs cs nr er nm key=some (-1:Int):=by rw [u,h];rfl
  rw [RA,t];simp only [Z,d];rw [hJ (by omega)]
  unfold lj;rw [h];simp only [da];by_cases g:40≤cs.length
  ·rw [ez (by omega),if_pos g];rfl
  ·rw [hJ (by omega),if_neg g,e3,aCb cs _ (fun c=>bo (¬dX c.1 c.2.1 nm key)) fun c s=>mO ⟨fun k=>k.1,fun k=>⟨k,Ui h c s⟩⟩]
   simp only [da,Z];have f:=JF cs nm key;have fin: ∀j:Nat,j≤cs.length→((Au (n+1) cs (j:Int) [(nm,key,v.1,v.2.1,v.2.2)]).bind fun y=>some (vs,y,nr,er,true))=some (mh vs cs nr er (some (cs.take j++((nm,key,v)::cs.drop j)))):=fun j hj=>by
    rw [aBW,ez (by omega),cx (by simp;omega)]
    rfl
   unfold gh at f ⊢;revert f
   cases cs.findIdx? (fun c=>bo (¬dX c.1 c.2.1 nm key))with
   |none=>
    intro f;simp only;rw [ez (by omega)]
    exact fin cs.length f
   |some j=>
    intro f;simp only;rw [hJ (by omega)]
    exact fin j f
theorem aCc {line:O} {i:Nat} (h:i<line.length) (cur:O):aP cur (line.drop i)=cond (line[i]==32) (cond (List.isEmpty cur) (aP [] (line.drop (i+1))) (cur::aP [] (line.drop (i+1)))) (aP (cur++[line[i]]) (line.drop (i+1))):=by
 rw [List.drop_eq_getElem_cons h,aP]
theorem aCd {line:O} {i f:Nat} (h:i<line.length) (b:f≤i):(line.drop f).take (i-f)++[line[i]]=(line.drop f).take (i+1-f):=by
 rw [show i+1-f=(i-f)+1 by omega,xN (l:=line.drop f) (i:=i-f) (by simp;omega)]
 congr 2
 simp only [List.getElem_drop];congr 1;omega
theorem Uk {line:O} {i f:Nat} (h:i≤line.length) (d:f≤i):List.isEmpty ((line.drop f).take (i-f))=decide (f=i):=by
 by_cases e:f=i
 ·subst e;simp
 ·have:0<((line.drop f).take (i-f)).length:=by simp;omega
  cases b:(line.drop f).take (i-f)with
  |nil=>rw [b]at this;simp at this
  |cons _ _=>simp [e]
theorem Ul (line:O) (hl:line.length≤1000000):W fun n=>GM n line=some (aP [] line):=by
 have:=jY (len:=line.length+1) (L:=fun n m i (s:Nat×af)=>gN n m (i:Int) (s.1:Int) line s.2)
  (fun i s=>s.2.length≤i∧((i≤line.length∧s.1≤i∧s.2++aP ((line.drop s.1).take (i-s.1)) (line.drop i)=aP [] line)∨(i=line.length+1∧s.2=aP [] line)))
  (fun x=>x=.inl (aP [] line)) ?_ ?_
 ·refine(this.mono fun n h=> ?_).nm (p:=fun n=>gN n n 0 0 line []=some (.inl (aP [] line))) fun n e=> ?_
  ·obtain⟨x,r,t⟩:=h (0,[]) ⟨by simp,.inl ⟨by omega,by simp,by simp⟩⟩
   rw [←t];exact r
  ·rw [arZ,e];rfl
 ·refine W.of fun n m i ⟨f,l⟩ hi hinv=> ?_
  right
  obtain⟨hlen,hinv⟩:=hinv;obtain⟨r,t,h3⟩:=hinv.resolve_right (by rintro⟨h, -⟩;omega)
  have hw:wrap .i64 ((i:Int)+1)=((i+1:Nat):Int):=jK (by omega)
  have u:l.length≤i:=hlen;have g:f≤i:=t;have b:l++aP ((line.drop f).take (i-f)) (line.drop i)=aP [] line:=h3;have put:f<i→(cond (decide ((0:Int)≤(f:Int)∧(f:Int)≤(i:Int)∧(i:Int)≤(line.length:Int))) (cond (Nat.ble (l.length+1) big) (gN n m ((i+1:Nat):Int) ((i+1:Nat):Int) line (l++[(line.drop (Int.toNat (f:Int))).take ((Int.toNat (i:Int))-(Int.toNat (f:Int)))])) none) none)=gN n m ((i+1:Nat):Int) ((i+1:Nat):Int) line (l++[(line.drop f).take (i-f)]):=fun j=>by
   rw [ez (by omega),cx (by omega)];rfl
  by_cases d:i<line.length
  ·rw [aCc d,Uk r g]at b
   by_cases q:line[i]=32
   ·have z:(((line[i]).toNat:Int) !=(32:Int))=false:=by rw [q];rfl
    rw [q]at b;by_cases j:f<i
    ·refine⟨(i+1,l++[(line.drop f).take (i-f)]), ?_,by simp;omega,.inl ⟨by omega,by simp, ?_⟩⟩
     ·show gN n (m+1) (i:Int) (f:Int) line l=_
      rw [sI,ez (by omega),ez (by omega),de d]
      simp only [Y,Z,z,da,hw];rw [ez (by omega),Y,put j]
     ·rw [hJ (by omega)]at b
      rw [←b];simp
    ·refine⟨(i+1,l), ?_,by simp;omega,.inl ⟨by omega,by simp, ?_⟩⟩
     ·show gN n (m+1) (i:Int) (f:Int) line l=_
      rw [sI,ez (by omega),ez (by omega),de d]
      simp only [Y,Z,z,da,hw];rw [hJ (by omega),da]
     ·rw [ez (by omega)]at b
      rw [←b];simp
   ·have z:(((line[i]).toNat:Int) !=(32:Int))=true:=by
     have:(line[i]).toNat≠32:=fun k=>q (UInt8.toNat_inj.1 (by rw [k];rfl))
     simp;omega
    have zb:(line[i]==32)=false:=by simpa using q
    refine⟨(f,l), ?_,by simp;omega,.inl ⟨by omega,by simp;omega, ?_⟩⟩
    ·show gN n (m+1) (i:Int) (f:Int) line l=_
     rw [sI,ez (by omega),ez (by omega),de d]
     simp only [Y,Z,z,hw]
    ·rw [zb,da,aCd d g]at b
     exact b
  ·obtain rfl:i=line.length:=by omega
   rw [List.drop_eq_nil_of_le (Nat.le_refl _),aP,Uk (Nat.le_refl _) g]at b;by_cases j:f<line.length
   ·refine⟨(line.length+1,l++[(line.drop f).take (line.length-f)]), ?_,by simp;omega,.inr ⟨rfl, ?_⟩⟩
    ·show gN n (m+1) (line.length:Int) (f:Int) line l=_
     rw [sI,ez (by omega),hJ (by omega)]
     simp only [Y,da,hw];rw [ez (by omega),Y,put j]
    ·rw [hJ (by omega)]at b
     rw [←b];rfl
   ·refine⟨(line.length+1,l), ?_,by simp;omega,.inr ⟨rfl, ?_⟩⟩
    ·show gN n (m+1) (line.length:Int) (f:Int) line l=_
     rw [sI,ez (by omega),hJ (by omega)]
     simp only [Y,da,hw];rw [hJ (by omega),da]
    ·rw [ez (by omega)]at b
     rw [←b];simp
 ·refine W.of fun n m ⟨f,l⟩ hinv=>⟨.inl l, ?_, ?_⟩
  ·show gN n (m+1) ((line.length+1:Nat):Int) (f:Int) line l=_
   rw [sI,hJ (by omega)];rfl
  ·rcases hinv.2 with⟨h, -⟩|⟨-,h⟩
   ·omega
   ·have h:l=aP [] line:=h
    rw [h]
theorem aCe (n:Nat) (line:O):Ax (n+1) line=cond (Nat.ble (List.length (α:=UInt8) line) 4000000000) (some (aP [] line)) none:=by kernel_rfl
theorem JI (line:O) (b:line.length≤1000000):W fun n=>Ax n line=some (aP [] line):=W.succ (W.of fun n=>by
 rw [aCe,Nat.ble_eq_true_of_le (by omega)];rfl)
noncomputable def jL (line:O) (fs:List O) (k:Int):V:=if k=0 then mR line else if 1≤k∧k≤fs.length then(match fs[(k-1).toNat]? with|some s=>mR s|none=>v0)else mR []
theorem JJ {x:Int} (h:aV x):wrap .i64 (Int.tdiv x 1000000)=Int.tdiv x 1000000∧ -9000000≤Int.tdiv x 1000000∧Int.tdiv x 1000000≤9000000:=by
 have b:=eE h;have d:=Int.mul_tdiv_add_tmod x 1000000;have f:=xU x;refine⟨?_,by omega,by omega⟩
 rw [IntKind.wrap_i64];omega
theorem aCf {x:Int}:Int.tdiv (jb x) 1000000=Int.tdiv x 1000000:=by
 have b:=Int.mul_tdiv_add_tmod x 1000000;have e:jb x=1000000*Int.tdiv x 1000000:=by unfold jb;omega
 rw [e,Int.mul_tdiv_cancel_left _ (by omega)]
def cM (v:Int):Int:=Int.tdiv v 1000000
theorem BN {v:V} (h:bP v):W fun n=>vX n v.1 v.2.1 v.2.2=some (cM (aI v)):=by
 refine((np h.2.1).and (Ub (jE h))).nm fun n ⟨b,d⟩=> ?_
 rw [avU,b];simp only [Z,d];rw [aCf,(JJ (jE h)).1];rfl
theorem Um {fs:List O} {k:Int} (hk:1≤k∧k≤fs.length) (b:fs.length≤1048576):wrap .i64 (k-1)=k-1∧ ∃s,fs[(k-1).toNat]? =some s:=by
 refine⟨by rw [IntKind.wrap_i64];omega,fs[(k-1).toNat]'(by omega),List.getElem?_eq_getElem (by omega)⟩
theorem aCg (line:O) (k:Int) (h:line.length≤1000000) (j:(aP [] line).length≤1048576):W fun n=>HO n line k=some (jL line (aP [] line) k):=by
 by_cases hk:1≤k∧k≤(aP [] line).length
 ·obtain⟨hw,s,i⟩:=Um hk j
  refine(((JI line h).and (dh k 1 ((aP [] line).length:Int))).and (JE s)).nm fun n ⟨⟨d,f⟩,g⟩=> ?_
  have z:(k==(0:Int))=false:=by simp;omega
  rw [RE,z,d];simp only [da,Z,f,aB (show In k 1 _ from hk),Y,hw,aM,nth,i,g];rw [ez (by omega),jL,if_neg (by omega),if_pos hk,i];rfl
 ·refine((((JI line h).and (dh k 1 ((aP [] line).length:Int))).and (JE line)).and (JE [])).nm fun n ⟨⟨⟨d,f⟩,g⟩,m⟩=> ?_
  rw [RE,d,g,jL];by_cases b:k=0
  ·rw [if_pos b,b];rfl
  ·have z:(k==(0:Int))=false:=by simpa using b
   rw [z,if_neg b,if_neg hk];simp only [da,Z,f,az (show ¬In k 1 _ from hk),m]
theorem aCh (vs:ae) (cs:ai) (nr er:Int) (a b:af) (line:O) (fs:af) (out:O) (fu:Int) (dn:Bool) {v:V} (h:bP v) (p:fs.length≤1048576):W fun n=>Gp n vs cs nr er a b line fs out fu dn v.1 v.2.1 v.2.2=some ((jL line fs (cM (aI v))).1,(jL line fs (cM (aI v))).2.1,(jL line fs (cM (aI v))).2.2,vs,cs,nr,er,a,b,line,fs,out,fu,dn):=by
 have hw:=(JJ (jE h)).1;have f:Int.tdiv (aI v) 1000000=cM (aI v):=rfl;rw [f]at hw;by_cases hk:1≤cM (aI v)∧cM (aI v)≤fs.length
 ·obtain⟨g,s,m⟩:=Um hk p
  refine(((jk h.2.1).and (cR (cM (aI v)) 1 (fs.length:Int))).and (JD s)).nm fun n ⟨⟨i,j⟩,k⟩=> ?_
  have z:(cM (aI v)==(0:Int))=false:=by simp;omega
  rw [QE,i];simp only [Z,f,hw,z,da,j,aB (show In (cM (aI v)) 1 _ from hk),Bool.not_true,g,aM,nth,m,k];rw [ez (by omega),jL,if_neg (by omega),if_pos hk,m];rfl
 ·refine((((jk h.2.1).and (cR (cM (aI v)) 1 (fs.length:Int))).and (JD line)).and (JD [])).nm fun n ⟨⟨⟨i,j⟩,k⟩,q⟩=> ?_
  rw [QE,i];simp only [Z,f,hw,k,j,az (show ¬In (cM (aI v)) 1 _ from hk),q];rw [jL];by_cases d:cM (aI v)=0
  ·rw [if_pos d,d];rfl
  ·have z:(cM (aI v)==(0:Int))=false:=by simpa using d
   rw [z,if_neg d,if_neg hk];rfl
theorem aCi (line:O) (fs:List O) (k:Int):bP (jL line fs k):=by
 unfold jL;split
 ·exact Ea _
 split
 ·split
  ·exact Ea _
  ·exact rN
 ·exact Ea _
theorem sU: ∀(s cur:O),(aP cur s).length≤s.length+1
 | [],cur=>by rw [aP];cases List.isEmpty cur<;>simp
 |b::s,cur=>by
  rw [aP];have d:=sU s [];have f:=sU s (cur++[b]);cases b==32<;>cases List.isEmpty cur<;>simp only [Y,da,List.length_cons]<;>omega
theorem aCj (n:Nat) (a b:Int):Ib (n+1) a b=some (a*b/18446744073709551616,a*b%18446744073709551616):=by kernel_rfl
theorem Un {a:Int} (h:aV a):W fun n=>AU n a=some (a.natAbs:Int):=W.succ (W.of fun n=>by
 have d:=eE h;rw [awV];by_cases b:a<0
 ·rw [ez b]
  simp only [Y];have:wrap .u64 (wrap .i64 (0-a))=(a.natAbs:Int):=by rw [wu,IntKind.wrap_i64];omega
  rw [this]
 ·rw [hJ b]
  simp only [da];have:wrap .u64 a=(a.natAbs:Int):=by rw [wu];omega
  rw [this])
theorem sign_eq (a b:Int):(!((decide (a<(0:Int)))==(decide (b<(0:Int)))))= !decide (a<0↔b<0):=by
 by_cases d:a<0<;>by_cases f:b<0<;>simp [d,f]
theorem aCk (a b:Int) (d:aV a) (f:aV b):a.natAbs*b.natAbs≤81000000000000000000000000:=by
 have g:=eE d;have h:=eE f;exact Nat.mul_le_mul (show a.natAbs≤9000000000000 by omega) (show b.natAbs≤9000000000000 by omega)
theorem aCl (a b:Int):W fun n=>Ia n a b=some (fK a b):=by
 by_cases d: ¬aV a
 ·refine(iL a).nm fun n g=> ?_
  rw [Bt,g,az d,fK,az fun k=>d k.1];rfl
 have d:=Classical.not_not.1 d;by_cases f: ¬aV b
 ·refine((iL a).and (iL b)).nm fun n ⟨g,j⟩=> ?_
  rw [Bt,g,aB d];simp only [Z,j];rw [az f,fK,az fun k=>f k.2.1];rfl
 have f:=Classical.not_not.1 f;have hp:=aCk a b d f;obtain⟨p,h⟩: ∃p,p=a.natAbs*b.natAbs:=⟨_,rfl⟩
 have t:fW a b=p/1000000:=by rw [fW,h]
 have u: ∀n,Ib (n+1) (a.natAbs:Int) (b.natAbs:Int)=some (((p/18446744073709551616:Nat):Int),((p%18446744073709551616:Nat):Int)):=fun n=>by
  rw [aCj,←Int.natCast_mul,←h];rfl
 rw [←h]at hp;have base:=(((iL a).and (iL b)).and ((Un d).and (Un f))).and (W.ge 1);by_cases hh:p/18446744073709551616<1000000
 ·refine(base.and (aBJ _ (p%18446744073709551616) hh (Nat.mod_lt _ (by omega)))).nm fun n ⟨⟨⟨⟨g,j⟩,s,i⟩,hn⟩,r,z⟩=> ?_
  obtain⟨n,rfl⟩: ∃m,n=m+1:=⟨n-1,by omega⟩
  rw [show p/18446744073709551616*18446744073709551616+p%18446744073709551616=p by rw [Nat.mul_comm];exact Nat.div_add_mod p _,←t]at z
  rw [Bt,g,aB d];simp only [Z,j];rw [aB f];simp only [Bool.not_true,da,Z,s,i,u];rw [hJ (by omega),da,z,Z,sign_eq]
  by_cases hm:fW a b≤9000000000000
  ·rw [hJ (by omega),da,fK,aB ⟨d,f,hm⟩,Y]
   have w1:wrap .i64 ((fW a b:Nat):Int)=(fW a b:Int):=by rw [IntKind.wrap_i64];omega
   have w2:wrap .i64 (0-(fW a b:Int))= -(fW a b:Int):=by rw [IntKind.wrap_i64];omega
   rw [w1,w2];by_cases q:(a<0↔b<0)
   ·rw [ez q,if_pos q];rfl
   ·rw [hJ q,if_neg q];rfl
  ·rw [ez (by omega),Y,fK,az fun k=>hm k.2.2];rfl
 ·refine base.nm fun n ⟨⟨⟨g,j⟩,s,i⟩,hn⟩=> ?_
  obtain⟨n,rfl⟩: ∃m,n=m+1:=⟨n-1,by omega⟩
  rw [Bt,g,aB d];simp only [Z,j];rw [aB f];simp only [Bool.not_true,da,Z,s,i,u];rw [ez (by omega),Y,fK,az fun k=>absurd k.2.2 (by rw [t];omega)];rfl
theorem aCm (x y:Nat):x*y/1000000=x/1000000*y+x%1000000*y/1000000:=by
 have h:x*y=1000000*(x/1000000*y)+x%1000000*y:=by
  rw [←Nat.mul_assoc,←Nat.add_mul,Nat.div_add_mod]
 rw [h,Nat.mul_add_div (by omega)]
theorem aCn (a b:Int):W fun n=>Gk n a b=some (fK a b):=by
 by_cases d: ¬aV a
 ·refine(iK a).nm fun n g=> ?_
  rw [IM,g,az d,fK,az fun k=>d k.1];rfl
 have d:=Classical.not_not.1 d;by_cases f: ¬aV b
 ·refine((iK a).and (iK b)).nm fun n ⟨g,i⟩=> ?_
  rw [IM,g,aB d];simp only [Z,i];rw [az f,fK,az fun k=>f k.2.1];rfl
 have f:=Classical.not_not.1 f;have j:=eE d;have m:=eE f;obtain⟨x,s⟩: ∃x,x=a.natAbs:=⟨_,rfl⟩
 obtain⟨y,hy⟩: ∃y,y=b.natAbs:=⟨_,rfl⟩
 have t:x≤9000000000000:=by omega
 have p:y≤9000000000000:=by omega
 have u:fW a b=x/1000000*y+x%1000000*y/1000000:=by rw [fW,←s,←hy,aCm]
 have hr:x%1000000*y≤8999991000000000000:=by
  have:x%1000000*y≤999999*9000000000000:=Nat.mul_le_mul (by omega) p
  omega
 refine(((((iK a).and (iK b)).and (Jx j.1)).and (Jx m.1)).and ((wI (fW a b:Int)).and (wI (-(fW a b:Int))))).nm fun n ⟨⟨⟨⟨g,i⟩,e3⟩,q⟩,e4,e5⟩=> ?_
 rw [IM,g,aB d];simp only [Z,i];rw [aB f];simp only [Bool.not_true,da,Z,e3,q,←s,←hy];have t1:Int.tdiv (x:Int) 1000000=((x/1000000:Nat):Int):=(sR x 1000000).symm;have t2:Int.tmod (x:Int) 1000000=((x%1000000:Nat):Int):=(Int.ofNat_tmod x 1000000).symm;have t3:wrap .i64 ((x/1000000:Nat):Int)=((x/1000000:Nat):Int):=by rw [IntKind.wrap_i64];omega
 have t4:wrap .i64 (((x%1000000:Nat):Int)*(y:Int))=((x%1000000*y:Nat):Int):=by rw [←Int.natCast_mul,IntKind.wrap_i64];omega
 have t5:wrap .i64 (Int.tdiv ((x%1000000*y:Nat):Int) 1000000)=((x%1000000*y/1000000:Nat):Int):=by
  rw [show Int.tdiv ((x%1000000*y:Nat):Int) (1000000:Int)=((x%1000000*y/1000000:Nat):Int)from(sR _ 1000000).symm,IntKind.wrap_i64];omega
 have fin: ∀(hw:x/1000000*y≤9000000000000),(cond (!decide (a<0↔b<0)) ((mX n (wrap .i64 ((0:Int)-(wrap .i64 ((wrap .i64 (((x/1000000:Nat):Int)*(y:Int)))+((x%1000000*y/1000000:Nat):Int)))))).bind fun z=>some (z.1,z.2)) ((mX n (wrap .i64 ((wrap .i64 (((x/1000000:Nat):Int)*(y:Int)))+((x%1000000*y/1000000:Nat):Int)))).bind fun z=>some (z.1,z.2)))=some (fK a b):=fun hw=>by
  have w1:wrap .i64 (((x/1000000:Nat):Int)*(y:Int))=((x/1000000*y:Nat):Int):=by rw [←Int.natCast_mul,IntKind.wrap_i64];omega
  have w2:wrap .i64 (((x/1000000*y:Nat):Int)+((x%1000000*y/1000000:Nat):Int))=(fW a b:Int):=by rw [u,IntKind.wrap_i64];omega
  have w3:wrap .i64 ((0:Int)-(fW a b:Int))= -(fW a b:Int):=by rw [IntKind.wrap_i64];omega
  rw [w1,w2,w3,e4,e5];by_cases hm:fW a b≤9000000000000
  ·rw [fK,aB ⟨d,f,hm⟩,Y,uu (fU (by omega)),uu (fU (by omega))]
   by_cases h:(a<0↔b<0)
   ·rw [ez h,if_pos h];rfl
   ·rw [hJ h,if_neg h];rfl
  ·rw [fK,az fun k=>hm k.2.2,uw (fun k=>hm (by have:=eE k;omega)),uw (fun k=>hm (by have:=eE k;omega))]
   cases decide (a<0↔b<0)<;>rfl
 simp only [t1,t2,t3,t4,t5,sign_eq];by_cases r:0<y
 ·obtain⟨k,hk⟩: ∃k:Nat,k=9000000000000/y:=⟨_,rfl⟩
  have aj:k≤9000000000000:=hk▸Nat.div_le_self _ _;have td:Int.tdiv (9000000000000:Int) (y:Int)=(k:Int):=hk▸(sR 9000000000000 y).symm;have d1:wrap .i64 (Int.tdiv 9000000000000 (y:Int))=(k:Int):=by rw [td,IntKind.wrap_i64];omega
  have k1:k*y≤9000000000000:=hk▸Nat.div_mul_le_self 9000000000000 y;have k2:9000000000000<y*k+y:=by
   have m:=Nat.div_add_mod 9000000000000 y;have h3:=Nat.mod_lt 9000000000000 r;rw [←hk]at m;omega
  have z:((y:Int) !=(0:Int))=true:=by simp;omega
  rw [ez (show (0:Int)<(y:Int) by omega),z]
  simp only [Y,Z,d1];by_cases hw:x/1000000≤k
  ·rw [hJ (show ¬(k:Int)<((x/1000000:Nat):Int) by omega),da]
   exact fin (Nat.le_trans (Nat.mul_le_mul_right y hw) k1)
  ·rw [ez (show (k:Int)<((x/1000000:Nat):Int) by omega),Y,fK,az fun c=> ?_]
   ·rfl
   ·have j:(k+1)*y≤x/1000000*y:=Nat.mul_le_mul_right y (by omega)
    rw [Nat.add_mul,Nat.mul_comm k y]at j;have:=c.2.2;omega
 ·obtain rfl:y=0:=by omega
  rw [hJ (by omega)]
  simp only [da,Z];exact fin (by omega)
def gP:Sum Int V→Int
 |.inl c=>c
 |.inr _=>0
def oZ (r:Int×Bool):Sum Int V:=cond r.2 (.inr (nV r.1)) (.inl 1)
noncomputable def cJ (op x y:Int):Sum Int V:=if op=0 then oZ (fV x y)else if op=1 then oZ (ja x y)else if op=2 then oZ (fK x y)else if y=0 then .inl 2 else if op=4 then .inr (nV (Int.tmod x y))else oZ (hC x y)
def nu (k c:Int):Bool:=if k=0 then decide (c<0)else if k=1 then decide (c≤0)else if k=2 then decide (0<c)else if k=3 then decide (0≤c)else if k=4 then c==0 else c !=0
noncomputable def dO (c:Int) (a b:V):Sum Int V:=if c≤16 then cJ (c-12) (aI a) (aI b)else if c=17 then(if 300<(aG a++aG b).length then .inl 3 else .inr (tV (aG a++aG b)))else .inr (bV (nu (c-18) (fO a b)))
theorem Uo (vs:ae) (cs:ai) (nr er:Int) (a b:af) (line:O) (fs:af) (out:O) (fu:Int) (dn:Bool) (c:Int):W fun n=>ia n vs cs nr er a b line fs out fu dn c=some (vs,cs,nr,cond (er==0) c er,a,b,line,fs,out,fu,dn):=W.succ (W.of fun n=>by
 rw [aqB];cases er==0<;>rfl)
theorem ku (vs:ae) (cs:ai) (nr:Int) (a b:af) (line:O) (fs:af) (out:O) (fu:Int) (dn:Bool) (c:Int):W fun n=>ia n vs cs nr 0 a b line fs out fu dn c=some (vs,cs,nr,c,a,b,line,fs,out,fu,dn):=Uo vs cs nr 0 a b line fs out fu dn c
theorem JK (vs:ae) (cs:ai) (nr:Int) (a b:af) (line:O) (fs:af) (out:O) (fu:Int) (dn:Bool) (op x y:Int) (h:0≤op∧op≤4):W fun n=> ∃v:V,vu n vs cs nr 0 a b line fs out fu dn op x y=some (v.1,v.2.1,v.2.2,vs,cs,nr,gP (cJ op x y),a,b,line,fs,out,fu,dn)∧ ∀w,cJ op x y=.inr w→v=w:=by
 by_cases i:op=0
 ·subst i
  refine(((aBK x y).and (ku vs cs nr a b line fs out fu dn 1)).and (jJ (fV x y).1)).nm fun n ⟨⟨d,f⟩,g⟩=> ?_
  rw [sG,show((0:Int)==(0:Int))=true from rfl,d,cJ,if_pos rfl];simp only [Y,Z,f,g];obtain⟨p,q⟩:=fV x y;cases q
  ·exact⟨nV p,rfl,fun w k=>by cases k⟩
  ·exact⟨nV p,rfl,fun w k=>by cases k;rfl⟩
 by_cases j:op=1
 ·subst j
  refine(((aBL x y).and (ku vs cs nr a b line fs out fu dn 1)).and (jJ (ja x y).1)).nm fun n ⟨⟨d,f⟩,g⟩=> ?_
  rw [sG,show((1:Int)==(0:Int))=false from rfl,show((1:Int)==(1:Int))=true from rfl,d,cJ,if_neg (show ¬(1:Int)=0 by omega),if_pos rfl]
  simp only [Y,da,Z,f,g];obtain⟨p,q⟩:=ja x y;cases q
  ·exact⟨nV p,rfl,fun w k=>by cases k⟩
  ·exact⟨nV p,rfl,fun w k=>by cases k;rfl⟩
 by_cases m:op=2
 ·subst m
  refine(((aCn x y).and (ku vs cs nr a b line fs out fu dn 1)).and (jJ (fK x y).1)).nm fun n ⟨⟨d,f⟩,g⟩=> ?_
  rw [sG,show((2:Int)==(0:Int))=false from rfl,show((2:Int)==(1:Int))=false from rfl,show((2:Int)==(2:Int))=true from rfl,d,cJ,if_neg (show ¬(2:Int)=0 by omega),if_neg (show ¬(2:Int)=1 by omega),if_pos rfl]
  simp only [Y,da,Z,f,g];obtain⟨p,q⟩:=fK x y;cases q
  ·exact⟨nV p,rfl,fun w k=>by cases k⟩
  ·exact⟨nV p,rfl,fun w k=>by cases k;rfl⟩
 have z0:(op==(0:Int))=false:=by simpa using i
 have r:(op==(1:Int))=false:=by simpa using j
 have z2:(op==(2:Int))=false:=by simpa using m
 by_cases hy:y=0
 ·subst hy
  refine(ku vs cs nr a b line fs out fu dn 2).nm fun n f=> ?_
  rw [sG,z0,r,z2,cJ,if_neg i,if_neg j,if_neg m,if_pos rfl];simp only [da,f];exact⟨v0,rfl,fun w k=>by cases k⟩
 have u:(y==(0:Int))=false:=by simpa using hy
 have s:(y !=(0:Int))=true:=by simpa using hy
 by_cases t:op=4
 ·subst t
  refine((TY x y).and (jJ (Int.tmod x y))).nm fun n ⟨d,g⟩=> ?_
  rw [sG,z0,r,z2,u,s,d,cJ,if_neg i,if_neg j,if_neg m,if_neg hy,if_pos rfl];simp only [da,Z,g];exact⟨nV _,rfl,fun w k=>by cases k;rfl⟩
 ·have z4:(op==(4:Int))=false:=by simpa using t
  refine(((TY x y).and (ku vs cs nr a b line fs out fu dn 1)).and (jJ (hC x y).1)).nm fun n ⟨⟨d,f⟩,g⟩=> ?_
  rw [sG,z0,r,z2,u,d,cJ,if_neg i,if_neg j,if_neg m,if_neg hy,if_neg t];simp only [da,Z,z4,f,g];obtain⟨p,q⟩:=hC x y;cases q
  ·exact⟨nV p,rfl,fun w k=>by cases k⟩
  ·exact⟨nV p,rfl,fun w k=>by cases k;rfl⟩
theorem aCo (op x y:Int) (h:0≤op∧op≤4):W fun n=> ∃k:Int,HY n (op+9) x y=some (k,gP (cJ op x y))∧ ∀w,cJ op x y=.inr w→nV k=w:=by
 by_cases d:op=0
 ·subst d
  refine(Ua x y).nm fun n b=> ?_
  rw [sJ,show((0:Int)+9==(9:Int))=true from rfl,b,cJ,if_pos rfl];simp only [Y,Z];obtain⟨p,q⟩:=fV x y;cases q
  ·exact⟨0,rfl,fun w k=>by cases k⟩
  ·exact⟨p,rfl,fun w k=>by cases k;rfl⟩
 by_cases f:op=1
 ·subst f
  refine(aBM x y).nm fun n b=> ?_
  rw [sJ,show((1:Int)+9==(9:Int))=false from rfl,show((1:Int)+9==(10:Int))=true from rfl,b,cJ,if_neg (show ¬(1:Int)=0 by omega),if_pos rfl]
  simp only [Y,da,Z];obtain⟨p,q⟩:=ja x y;cases q
  ·exact⟨0,rfl,fun w k=>by cases k⟩
  ·exact⟨p,rfl,fun w k=>by cases k;rfl⟩
 by_cases g:op=2
 ·subst g
  refine(aCl x y).nm fun n b=> ?_
  rw [sJ,show((2:Int)+9==(9:Int))=false from rfl,show((2:Int)+9==(10:Int))=false from rfl,show((2:Int)+9==(11:Int))=true from rfl,b,cJ,if_neg (show ¬(2:Int)=0 by omega),if_neg (show ¬(2:Int)=1 by omega),if_pos rfl]
  simp only [Y,da,Z];obtain⟨p,q⟩:=fK x y;cases q
  ·exact⟨0,rfl,fun w k=>by cases k⟩
  ·exact⟨p,rfl,fun w k=>by cases k;rfl⟩
 have z0:(op+9==(9:Int))=false:=by simp;omega
 have i:(op+9==(10:Int))=false:=by simp;omega
 have z2:(op+9==(11:Int))=false:=by simp;omega
 by_cases hy:y=0
 ·subst hy
  refine(W.ge 0).nm fun n _=> ?_
  rw [sJ,z0,i,z2,cJ,if_neg d,if_neg f,if_neg g,if_pos rfl];exact⟨0,rfl,fun w k=>by cases k⟩
 have m:(y==(0:Int))=false:=by simpa using hy
 have j:(y !=(0:Int))=true:=by simpa using hy
 by_cases r:op=4
 ·subst r
  refine(W.ge 0).nm fun n _=> ?_
  rw [sJ,z0,i,z2,m,j,cJ,if_neg d,if_neg f,if_neg g,if_neg hy,if_pos rfl];exact⟨Int.tmod x y,rfl,fun w k=>by cases k;rfl⟩
 ·have z4:(op+9==(13:Int))=false:=by simp;omega
  refine(aBN x y).nm fun n b=> ?_
  rw [sJ,z0,i,z2,m,z4,b,cJ,if_neg d,if_neg f,if_neg g,if_neg hy,if_neg r];simp only [da,Z];obtain⟨p,q⟩:=hC x y;cases q
  ·exact⟨0,rfl,fun w k=>by cases k⟩
  ·exact⟨p,rfl,fun w k=>by cases k;rfl⟩
theorem Up {a b:V} (d:bP a) (f:bP b):Nat.ble ((aG a).length+(aG b).length) mx=true:=by
 have g:=kr d;have h:=kr f;exact oX (by omega)
theorem aCp (vs:ae) (cs:ai) (nr:Int) (a b:af) (line:O) (fs:af) (out:O) (fu:Int) (dn:Bool) {x y:V} (d:bP x) (hy:bP y):W fun n=> ∃v:V,Gq n vs cs nr 0 a b line fs out fu dn x.1 x.2.1 x.2.2 y.1 y.2.1 y.2.2=some (v.1,v.2.1,v.2.2,vs,cs,nr,gP (dO 17 x y),a,b,line,fs,out,fu,dn)∧ ∀w,dO 17 x y=.inr w→v=w:=by
 refine(((iN x).and (iN y)).and (ku vs cs nr a b line fs out fu dn 3)).nm fun n ⟨⟨f,g⟩,i⟩=> ?_
 rw [aqU,f,Z,g,Z,Up d hy,Y,dO,if_neg (by omega),if_pos rfl]
 by_cases h:300<(aG x++aG y).length
 ·rw [ez (by omega),if_pos h,Y,i]
  exact⟨v0,rfl,fun w k=>by cases k⟩
 ·rw [hJ (by omega),if_neg h]
  exact⟨tV (aG x++aG y),rfl,fun w k=>by cases k;rfl⟩
theorem aCq (k:Int) {x y:V} (b:bP x) (hy:bP y) (hk:0≤k∧k≤5):W fun n=>GH n k x.1 x.2.1 x.2.2 y.1 y.2.1 y.2.2=some (bV (nu k (fO x y))):=by
 refine((aBS b hy).and (BJ (nu k (fO x y)))).nm fun n ⟨d,f⟩=> ?_
 rw [arV,d,Z,ez (show 0≤k∧k<6 by omega),Y]
 have e:aM [decide (fO x y<0),decide (fO x y≤0),decide (0<fO x y),decide (0≤fO x y),fO x y==0,fO x y !=0] (Int.toNat k)=some (nu k (fO x y)):=by
  generalize fO x y=c
  obtain rfl|rfl|rfl|rfl|rfl|rfl:k=0∨k=1∨k=2∨k=3∨k=4∨k=5:=by omega
  all_goals rfl
 rw [e,Z,f];rfl
theorem aCr (k c:Int) (hk:0≤k∧k≤5):W fun n=>Ii n (k+15) c=some (nu k c):=W.succ (W.of fun n=>by
 rw [axC];obtain rfl|rfl|rfl|rfl|rfl|rfl:k=0∨k=1∨k=2∨k=3∨k=4∨k=5:=by omega
 all_goals rfl)
theorem Uq (c:Int) {x y:V} (i:bP x) (hy:bP y) (s:12≤c∧c≤23):W fun n=> ∃v:V,HX n (c-12+9) x.1 x.2.1 x.2.2 y.1 y.2.1 y.2.2=some (v.1,v.2.1,v.2.2,gP (dO c x y))∧ ∀w,dO c x y=.inr w→v=w:=by
 by_cases j:c≤16
 ·refine((((dh (c-12+9) 9 13).and (np i.2.1)).and (np hy.2.1)).and (aCo (c-12) (aI x) (aI y) (by omega))).nm fun n ⟨⟨⟨b,d⟩,f⟩,k,g,q⟩=> ?_
  have r:iI (n) k=some (nV k):=by
   cases n with
   |zero=>cases b
   |succ n=>exact Ry n k
  rw [IZ,b,Z,aB (show In (c-12+9) 9 13 from⟨by omega,by omega⟩),Y,d,Z,f,Z,g,Z,r,dO,if_pos j]
  exact⟨nV k,rfl,q⟩
 have m: ¬In (c-12+9) 9 13:=fun k=>by have:=k.2;omega
 by_cases p:c=17
 ·subst p
  refine((((dh ((17:Int)-12+9) 9 13).and (mg x)).and (mg y)).and (qL (aG x++aG y))).nm fun n ⟨⟨⟨b,d⟩,f⟩,g⟩=> ?_
  rw [IZ,b,Z,az m,da,show((17:Int)-12+9==14)=true from rfl,Y,d,Z,f,Z,Up i hy,Y,dO,if_neg j,if_pos rfl];by_cases h:300<(aG x++aG y).length
  ·rw [ez (by omega),if_pos h]
   exact⟨v0,rfl,fun w k=>by cases k⟩
  ·rw [hJ (by omega),if_neg h,g]
   exact⟨tV (aG x++aG y),rfl,fun w k=>by cases k;rfl⟩
 ·refine((((dh (c-12+9) 9 13).and (aBT i hy)).and (aCr (c-18) (fO x y) (by omega))).and (wJ (nu (c-18) (fO x y)))).nm fun n ⟨⟨⟨b,d⟩,f⟩,g⟩=> ?_
  have z:(c-12+9==(14:Int))=false:=by simp;omega
  rw [IZ,b,Z,az m,da,z,da,d,Z,show c-12+9=c-18+15 by omega,f,Z,g,dO,if_neg j,if_neg p]
  exact⟨bV (nu (c-18) (fO x y)),rfl,fun w k=>by cases k;rfl⟩
theorem BO {r:Int×Bool} (h:aV r.1) {w:V} (e:oZ r=.inr w):bP w:=by
 obtain⟨p,q⟩:=r;cases q
 ·cases e
 ·cases e;exact lP h
theorem aCs {op x y:Int} (b:aV x) {w:V} (e:cJ op x y=.inr w):bP w:=by
 unfold cJ at e;split at e
 ·exact BO (YD x y) e
 split at e
 ·exact BO (YE x y) e
 split at e
 ·exact BO (YG x y) e
 split at e
 ·cases e
 split at e
 ·cases e
  refine lP (fU ?_)
  have d:=eE b;have f:(Int.tmod x y).natAbs≤x.natAbs:=by rw [Int.natAbs_tmod];exact Nat.mod_le _ _
  omega
 ·exact BO (YF x y) e
theorem JL {β:Type} {f:UInt8→UInt8} {len:Nat} (d:len≤1048576) {L:Nat→Int→O→Option (Sum O β)}
  (b: ∀m (i:Nat) (l:O) (h:i<l.length),l.length=len→L (m+1) (i:Int) l=L m (wrap .i64 ((i:Int)+(1:Int))) (l.set i (f l[i])))
  (he: ∀m (l:O),l.length=len→L (m+1) (len:Int) l=some (.inl l)): ∀k m (i:Nat) (l:O),l.length=len→i+k=len→k<m→L m (i:Int) l=some (.inl (l.take i++(l.drop i).map f))
 |0,m,i,l,e,h,hm=>by
  obtain⟨m,rfl⟩: ∃m',m=m'+1:=⟨m-1,by omega⟩
  obtain rfl:i=len:=by omega
  rw [he m l e,List.take_of_length_le (by omega),List.drop_of_length_le (by omega)];simp
 |k+1,m,i,l,e,h,hm=>by
  obtain⟨m,rfl⟩: ∃m',m=m'+1:=⟨m-1,by omega⟩
  have hi:i<l.length:=by omega
  rw [b m i l hi e,dx (len:=len) (by omega) (by omega),JL d b he k m (i+1) (l.set i (f l[i])) (by simp [e]) (by omega) (by omega)]
  congr 2
  rw [List.drop_set_of_lt (by omega),List.drop_eq_getElem_cons hi,List.map_cons,List.take_set,xN hi,List.set_append_right _ _ (by simp;omega)]
  simp [Nat.min_eq_left (Nat.le_of_lt hi)]
def nw (p q c:UInt8):UInt8:=if p.toNat≤c.toNat∧c.toNat<p.toNat+26 then UInt8.ofNat (c.toNat-p.toNat+q.toNat)else c
def mj (p q:UInt8) (s:O):O:=s.map (nw p q)
theorem BP {l:O} {i:Nat} (h:i<l.length):l.set i l[i]=l:=by simp
theorem Ur {p:UInt8} (hp:p.toNat≤200):wrap .u8 ((p.toNat:Int)+26)=(p.toNat:Int)+26:=by rw [IntKind.wrap_u8];omega
theorem Us {p q c:UInt8} (_:p.toNat≤200) (d:q.toNat≤200) (h:p.toNat≤c.toNat) (b:c.toNat<p.toNat+26):UInt8.ofNat (Int.toNat (wrap .u8 ((wrap .u8 ((c.toNat:Int)-(p.toNat:Int)))+(q.toNat:Int))))=nw p q c:=by
 rw [nw,if_pos ⟨h,b⟩];congr 1
 rw [IntKind.wrap_u8,IntKind.wrap_u8];omega
theorem Ut (s:O) (p q:UInt8) (hp:p.toNat≤200) (b:q.toNat≤200) (d:s.length≤1048576):W fun n=>sk n s p q=some (mj p q s):=by
 refine((W.ge (s.length+1)).and (W.ge 1)).nm fun n ⟨k,_⟩=> ?_
 have key:=JL (f:=nw p q) d (L:=fun m i l=>oK n m i q p l)
  (fun m i l h e=>by
   show oK n (m+1) (i:Int) q p l=_;rw [QP,dQ,dQ,bu h,ez (show (0:Int)≤(i:Int)∧(i:Int)<(l.length:Int) by omega),fe h]
   simp only [Y,Z];by_cases g:p.toNat≤(l[i]).toNat
   ·rw [ez (by omega),Y,Ur hp]
    by_cases j:(l[i]).toNat<p.toNat+26
    ·rw [ez (by omega),Y,Us hp b g j];rfl
    ·rw [hJ (by omega),da,nw,if_neg (by omega),BP h]
   ·rw [hJ (by omega),da,nw,if_neg (by omega),BP h])
  (fun m l e=>by
   show oK n (m+1) (s.length:Int) q p l=_;rw [QP,e,cp,da]) s.length n 0 s rfl (by omega) (by omega)
 rw [arT,dQ,dQ,cx (by omega),Y]
 refine(congrArg (fun o=>Option.bind o _) key).trans ?_
 simp [ay,mj]
theorem Uu (s:O) (p q:UInt8) (hp:p.toNat≤200) (b:q.toNat≤200) (d:s.length≤1048576):W fun n=>sD n s p q=some (mj p q s):=by
 refine((W.ge (s.length+1)).and (W.ge 1)).nm fun n ⟨k,_⟩=> ?_
 have key:=JL (f:=nw p q) d (L:=fun m i l=>oO n m i q p l (s.length:Int))
  (fun m i l h e=>by
   show oO n (m+1) (i:Int) q p l (s.length:Int)=_;rw [RR,dQ,dQ,←e,bu h,ez (show (0:Int)≤(i:Int)∧(i:Int)<(l.length:Int) by omega),fe h]
   simp only [Y,Z];by_cases g:p.toNat≤(l[i]).toNat
   ·rw [ez (by omega),Y,Ur hp]
    by_cases j:(l[i]).toNat<p.toNat+26
    ·rw [ez (by omega),Y,Us hp b g j];rfl
    ·rw [hJ (by omega),da,nw,if_neg (by omega),BP h]
   ·rw [hJ (by omega),da,nw,if_neg (by omega),BP h])
  (fun m l e=>by
   show oO n (m+1) (s.length:Int) q p l (s.length:Int)=_;rw [RR,cp,da]) s.length n 0 s rfl (by omega) (by omega)
 rw [awS,dQ,dQ,cx (by omega),Y]
 refine(congrArg (fun o=>Option.bind o _) key).trans ?_
 simp [ay,mj]
theorem sV: ∀(t s:O), -1≤cH t s∧cH t s≤s.length
 |t,[]=>by rw [cH];cases List.isPrefixOf t ([]:O)<;>simp
 |t,b::s=>by
  have ih:=sV t s;rw [cH];cases List.isPrefixOf t (b::s)
  ·simp only [da,List.length_cons]
   by_cases h:0≤cH t s
   ·rw [ez h,Y];omega
   ·rw [hJ h,da];omega
  ·simp only [Y];omega
theorem Uv {t s:O} (h:s.length<t.length):List.isPrefixOf t s=false:=by
 cases e:List.isPrefixOf t s
 ·rfl
 ·have:=(List.isPrefixOf_iff_prefix.1 e).length_le;omega
theorem aCt (t s:O):List.isPrefixOf t s=(s.take t.length==t):=by
 rw [Bool.eq_iff_iff,List.isPrefixOf_iff_prefix,beq_iff_eq];exact⟨fun h=>(List.prefix_iff_eq_take.1 h).symm,fun h=>List.prefix_iff_eq_take.2 h.symm⟩
theorem Uw: ∀(t s:O),s.length<t.length→cH t s= -1
 |t,[],h=>by rw [cH,Uv h];rfl
 |t,b::s,h=>by rw [cH,Uv h,Uw t s (by simp at h;omega)];rfl
theorem aCu {t s:O} {i:Nat} (h:i<s.length) (hp:List.isPrefixOf t (s.drop i)=false):cH t (s.drop i)=cond (decide (0≤cH t (s.drop (i+1)))) (cH t (s.drop (i+1))+1) (-1):=by
 rw [List.drop_eq_getElem_cons h]at hp ⊢;rw [cH,hp,da]
theorem Ux {t s:O} (hp:List.isPrefixOf t s=true):cH t s=0:=by
 cases s with
 |nil=>rw [cH,hp];rfl
 |cons b s=>rw [cH,hp];rfl
theorem Uy {t s:O} (f:s.length≤1048576) (g:t.length≤1048576) (n:Nat): ∀k m (i:Nat),s.length-i=k→k<m→i≤s.length+1→
  zF n m (i:Int) t s=some (cond (decide (0≤cH t (s.drop i))&&decide (i≤s.length)) (.inr ((i:Int)+cH t (s.drop i)+1)) (.inl ()))
 |k,0,i,e,hm,hi=>by omega
 |k,m+1,i,e,hm,hi=>by
  have hw:wrap .i64 ((i:Int)+(t.length:Int))=((i+t.length:Nat):Int):=by rw [IntKind.wrap_i64];omega
  rw [arS,hw];by_cases h:i+t.length≤s.length
  ·have p:=sV t (s.drop i)
   rw [ez (by omega),Y,ez (by omega),Y,ez (show i≤s.length by omega),Bool.and_true]
   have j:(s.drop (Int.toNat (i:Int))).take (Int.toNat ((i+t.length:Nat):Int)-Int.toNat (i:Int))=(s.drop i).take t.length:=by
    rw [Int.toNat_natCast,Int.toNat_natCast,Nat.add_sub_cancel_left]
   rw [j,←aCt,dx (len:=i+1) (by omega) (by omega)]
   cases hp:List.isPrefixOf t (s.drop i)
   ·rw [da]
    by_cases b:i<s.length
    ·rw [Uy f g n (s.length-(i+1)) m (i+1) rfl (by omega) (by omega),aCu b hp,ez (show i+1≤s.length by omega),Bool.and_true]
     by_cases d:0≤cH t (s.drop (i+1))
     ·rw [ez d,Y,Y,ez (by omega),Y]
      congr 2;omega
     ·rw [hJ d,da,da];rfl
    ·have:t=[]:=List.eq_nil_of_length_eq_zero (by omega)
     subst this;cases hp
   ·rw [Ux hp,Y]
    congr 2
  ·rw [hJ (show ¬((i+t.length:Nat):Int)≤(s.length:Int) by omega),da]
   by_cases b:i≤s.length
   ·rw [Uw t (s.drop i) (by simp;omega)];rfl
   ·rw [hJ b,Bool.and_false];rfl
theorem aCv (s t:O) (d:s.length≤1048576) (f:t.length≤1048576):W fun n=>GF n s t=some (cH t s+1):=by
 refine(W.ge (s.length+1)).nm fun n g=> ?_
 rw [arR,show(0:Int)=((0:Nat):Int)from rfl,Uy d f n (s.length-0) n 0 rfl (by omega) (by omega),Z]
 have h:=sV t s;rw [ez (show 0≤s.length by omega),Bool.and_true,List.drop_zero]
 by_cases b:0≤cH t s
 ·rw [ez b,Y,uk];congr 1;omega
 ·rw [hJ b,da,cO];congr 1;omega
theorem aCw (n:Nat) (s t:O):HW (n+1) s t=cond (Nat.ble (List.length (α:=UInt8) s) 4000000000) (some (cH t s)) none:=by kernel_rfl
theorem aCx (s t:O) (b:s.length≤1048576):W fun n=>HW n s t=some (cH t s):=W.succ (W.of fun n=>by
 rw [aCw,Nat.ble_eq_true_of_le (by omega)];rfl)
def nx (s:O) (f t:Int):O:=if min t (s.length:Int)<max f 1 then []else(s.drop (max f 1-1).toNat).take ((min t (s.length:Int)).toNat-(max f 1-1).toNat)
theorem aCy (s:O) (f t:Int):(nx s f t).length≤s.length:=by
 unfold nx;split
 ·simp
 ·simp only [List.length_take,List.length_drop];omega
theorem JM (s:O) (f t:Int):cond (decide (min t (s.length:Int)<max f 1)) (some []) (cond (decide (0≤max f 1-1∧max f 1-1≤min t (s.length:Int)∧min t (s.length:Int)≤(s.length:Int))) (some ((s.drop (Int.toNat (max f 1-1))).take (Int.toNat (min t (s.length:Int))-Int.toNat (max f 1-1)))) none)=some (nx s f t):=by
 rw [nx];by_cases h:min t (s.length:Int)<max f 1
 ·rw [ez h,if_pos h];rfl
 ·rw [hJ h,if_neg h,da,ez (by omega),Y]
theorem Uz (s:O) (f t:Int) (_:s.length≤1048576) (j: -100000000≤f∧f≤100000000):W fun n=>AS n s f t=some (nx s f t):=W.succ (W.of fun n=>by
 have b:cond (decide ((s.length:Int)<t)) (s.length:Int) t=min t (s.length:Int):=by
  by_cases h:(s.length:Int)<t
  ·rw [ez h,Y];omega
  ·rw [hJ h,da];omega
 have d:cond (decide (f<1)) 1 f=max f 1:=by
  by_cases h:f<1
  ·rw [ez h,Y];omega
  ·rw [hJ h,da];omega
 have g:wrap .i64 (max f 1-1)=max f 1-1:=by rw [IntKind.wrap_i64];omega
 rw [awT,b,d,g,JM])
theorem UA (x y:Int):W fun n=>zl n x y=some (min y x):=W.succ (W.of fun n=>by
 rw [apZ];by_cases h:x<y
 ·rw [ez h,Y];congr 1;omega
 ·rw [hJ h,da];congr 1;omega)
theorem UB (x y:Int):W fun n=>qu n x y=some (max x y):=W.succ (W.of fun n=>by
 rw [Qj];by_cases h:y<x
 ·rw [ez h,Y];congr 1;omega
 ·rw [hJ h,da];congr 1;omega)
def ag (l:List V) (i:Nat):V:=l.getD i v0
theorem jl {l:List V} {i:Nat} (h:i<l.length):ax l (i:Int)=some (ag l i):=by
 rw [bj h,ag];simp [h]
theorem eK {l:List V} (b: ∀v∈l,bP v) (i:Nat):bP (ag l i):=by
 by_cases h:i<l.length
 ·have e:ag l i=l[i]:=by rw [ag];simp [h]
  rw [e];exact b _ (List.getElem_mem h)
 ·have e:ag l i=v0:=by rw [ag];simp [h]
  rw [e];exact rN
def wL:O:=[108,101,110,103,116,104]
def JN:O:=[115,117,98,115,116,114]
def BQ:O:=[105,110,100,101,120]
def BR:O:=[105,110,116]
def BS:O:=[117,112,112,101,114]
def BT:O:=[108,111,119,101,114]
noncomputable def sW (l:List V):Int:=if l.length=3 then cM (aI (ag l 1))+cM (aI (ag l 2))-1 else((aG (ag l 0)).length:Int)
noncomputable def iO (nm:O) (l:List V):V:=
 if nm=wL then nV (1000000*((aG (ag l 0)).length:Int))else if nm=BR then nV (jb (aI (ag l 0)))else if nm=BQ then nV (1000000*(cH (aG (ag l 1)) (aG (ag l 0))+1))
 else if nm=BS then tV (mj 97 65 (aG (ag l 0)))else if nm=BT then tV (mj 65 97 (aG (ag l 0)))else tV (nx (aG (ag l 0)) (cM (aI (ag l 1))) (sW l))
theorem JO {nm:O} (h:nm∈iC):nm=wL∨nm=JN∨nm=BQ∨nm=BR∨nm=BS∨nm=BT:=by
 simpa [iC,wL,JN,BQ,BR,BS,BT]using h
theorem BU {v:V} (h:bP v):wrap .i64 (Int.tdiv (aI v) 1000000)=cM (aI v)∧ -9000000≤cM (aI v)∧cM (aI v)≤9000000:=JJ (jE h)
theorem aCz (l:List V) (b: ∀v∈l,bP v) (h2:2≤l.length∧l.length≤3):W fun n=>GG n l=some (nx (aG (ag l 0)) (cM (aI (ag l 1))) (sW l)):=by
 have p:=eK b 0;have d:=eK b 1;have g:=eK b 2;obtain⟨q,b1⟩:=BU d;obtain⟨r,b2⟩:=BU g;have hl:=kr p;have t:wrap .i64 (wrap .i64 (cM (aI (ag l 1))+cM (aI (ag l 2)))-1)=cM (aI (ag l 1))+cM (aI (ag l 2))-1:=by rw [IntKind.wrap_i64,IntKind.wrap_i64];omega
 have base:=((((iN (ag l 0)).and (jk d.2.1)).and (jk g.2.1)).and (UB (cM (aI (ag l 1))) 1)).and (UA ((aG (ag l 0)).length:Int) (cM (aI (ag l 1))+cM (aI (ag l 2))-1));refine base.nm fun n ⟨⟨⟨⟨u,e2⟩,e3⟩,h⟩,e5⟩=> ?_
 have a0:ax l 0=some (ag l 0):=jl (i:=0) (by omega)
 have a1:ax l 1=some (ag l 1):=jl (i:=1) (by omega)
 rw [arU,sW,a0,Z,u,Z,a1,Z,e2,Z,q];generalize cM (aI (ag l 1))=f at*
 generalize aG (ag l 0)=s at*
 have j:wrap .i64 (max f 1-1)=max f 1-1:=by rw [IntKind.wrap_i64];omega
 by_cases m:l.length=3
 ·have a2:ax l 2=some (ag l 2):=jl (i:=2) (by omega)
  have z:((l.length:Int)==3)=true:=by simp;omega
  rw [z,Y,a2,Z,e3,Z,r,t,e5,Z,h,Z,j,JM,if_pos m]
 ·have z:((l.length:Int)==3)=false:=by simp;omega
  have k:=JM s f (s.length:Int);rw [Int.min_self]at k;rw [z,da,h,Z,j,k,if_neg m]
theorem UC {a b:O} (h:a≠b):(a==b)=false:=by simpa using h
theorem UD (nm:O) (l:List V) (f: ∀v∈l,bP v) (p:1≤l.length∧l.length≤3) (k:l.length=1→nm=wL∨nm=BR∨nm=BS∨nm=BT) (q:nm∈iC):W fun n=>vD n nm l=some (iO nm l):=by
 have g:=eK f 0;have r:=eK f 1;have u:=kr g;have z:=kr r;have a0:ax l 0=some (ag l 0):=jl (i:=0) (by omega)
 rcases JO q with rfl|rfl|rfl|rfl|rfl|rfl
 ·refine((iN (ag l 0)).and (jJ (1000000*((aG (ag l 0)).length:Int)))).nm fun n ⟨d,b⟩=> ?_
  have w:wrap .i64 (1000000*((aG (ag l 0)).length:Int))=1000000*((aG (ag l 0)).length:Int):=by rw [IntKind.wrap_i64];omega
  rw [sH,show(wL==([108,101,110,103,116,104]:O))=true from rfl,Y,a0,Z,d,Z,w,b,iO,if_pos rfl];rfl
 ·have m:2≤l.length:=by
   by_cases h:l.length=1
   ·rcases k h with h|h|h|h<;>exact absurd h (by decide)
   ·omega
  refine(aCz l f ⟨m,p.2⟩).nm fun n d=> ?_
  rw [sH,d];rfl
 ·have m:2≤l.length:=by
   by_cases h:l.length=1
   ·rcases k h with h|h|h|h<;>exact absurd h (by decide)
   ·omega
  have s:ax l 1=some (ag l 1):=jl (i:=1) (by omega)
  have hb:=sV (aG (ag l 1)) (aG (ag l 0));have w:wrap .i64 (1000000*(cH (aG (ag l 1)) (aG (ag l 0))+1))=1000000*(cH (aG (ag l 1)) (aG (ag l 0))+1):=by rw [IntKind.wrap_i64];omega
  refine((((iN (ag l 0)).and (iN (ag l 1))).and (aCv (aG (ag l 0)) (aG (ag l 1)) (by omega) (by omega))).and (jJ (1000000*(cH (aG (ag l 1)) (aG (ag l 0))+1)))).nm fun n ⟨⟨⟨d,b⟩,j⟩,t⟩=> ?_
  rw [sH,a0,s];simp only [Z,d,b,j,w,t];rfl
 ·refine(((jk g.2.1).and (aBO (jE g))).and (jJ (jb (aI (ag l 0))))).nm fun n ⟨⟨d,b⟩,j⟩=> ?_
  rw [sH,a0];simp only [Z,d,b,j];rfl
 ·refine((iN (ag l 0)).and (Ut (aG (ag l 0)) 97 65 (by decide) (by decide) (by omega))).nm fun n ⟨d,b⟩=> ?_
  rw [sH,a0];have b:sk n (aG (ag l 0)) ((UInt8.ofNat (Int.toNat 97)):UInt8) ((UInt8.ofNat (Int.toNat 65)):UInt8)=_:=b;simp only [Z,d,b];rfl
 ·refine((iN (ag l 0)).and (Ut (aG (ag l 0)) 65 97 (by decide) (by decide) (by omega))).nm fun n ⟨d,b⟩=> ?_
  rw [sH,a0];have b:sk n (aG (ag l 0)) ((UInt8.ofNat (Int.toNat 65)):UInt8) ((UInt8.ofNat (Int.toNat 97)):UInt8)=_:=b;simp only [Z,d,b];rfl
theorem BV {l:List V} (_:1≤l.length) (i:Nat):ag (l++[v0]) i=ag l i:=by
 unfold ag;by_cases h:i<l.length
 ·simp [List.getElem?_append_left h]
 ·simp only [List.getD_eq_getElem?_getD]
  rw [List.getElem?_append_right (by omega),List.getElem?_eq_none (show l.length≤i by omega)]
  cases i-l.length<;>simp
theorem aCA {l:List V} {nm:O} (b:l.length=1):iO nm (l++[v0])=iO nm l:=by
 unfold iO sW;rw [BV (by omega),BV (by omega),BV (by omega),if_neg (show ¬(l++[v0]).length=3 by simp;omega),if_neg (show ¬l.length=3 by omega)]
theorem aCB {l:List V} (b: ∀v∈l,bP v): ∀v∈l++[v0],bP v:=fun v h=>by
 rcases List.mem_append.1 h with h|h
 ·exact b v h
 ·rw [List.mem_singleton.1 h];exact rN
theorem aCC (nm:O) (l:List V) (g: ∀v∈l,bP v) (j:1≤l.length∧l.length≤3) (f:nm∈iC):W fun n=>GC n nm l=some (iO nm l):=by
 by_cases b:l.length=1∧(nm=BQ∨nm=JN)
 ·refine(UD nm (l++[v0]) (aCB g) (by simp;omega) (fun h=>absurd h (by rw [List.length_append,List.length_singleton];omega)) f).nm fun n d=> ?_
  have d:vD n nm (l++[(0,0,[])])=some (iO nm (l++[v0])):=d;rw [QO,ez (show (l.length:Int)<2 by omega),Y]
  have k:(cond (nm==([105,110,100,101,120]:O)) (some true) (some (nm==([115,117,98,115,116,114]:O))))=some true:=by
   rcases b.2 with rfl|rfl<;>rfl
  rw [k,Z,Y,cx (by omega),Y,cx (by omega),Y,d,aCA b.1];rfl
 ·refine(UD nm l g j (fun h=> ?_) f).nm fun n d=> ?_
  ·rcases JO f with k|k|k|k|k|k
   ·exact .inl k
   ·exact absurd ⟨h,.inr k⟩ b
   ·exact absurd ⟨h,.inl k⟩ b
   ·exact .inr (.inl k)
   ·exact .inr (.inr (.inl k))
   ·exact .inr (.inr (.inr k))
  ·rw [QO]
   by_cases i:l.length=1
   ·have k1:(nm==([105,110,100,101,120]:O))=false:=UC fun k=>b ⟨i,.inl k⟩
    have k2:(nm==([115,117,98,115,116,114]:O))=false:=UC fun k=>b ⟨i,.inr k⟩
    rw [ez (show (l.length:Int)<2 by omega),k1,k2]
    simp only [Y,da,Z,d]
   ·rw [hJ (show ¬(l.length:Int)<2 by omega)]
    simp only [da,Z,d]
def iQ (l:List V):List V:=if l.length=1 then l++[v0]else l
theorem aCD {l:List V} (h:1≤l.length):2≤(iQ l).length∧((iQ l).length=3↔l.length=3)∧(l.length≤3→(iQ l).length≤3):=by
 unfold iQ;split
 ·simp;omega
 ·omega
theorem aCE (l:List V) (nm:O) (d:1≤l.length∧l.length≤3):W fun n=>AR n n 0 0 [] l nm=some (.inl (0,0,[],iQ l,nm)):=by
 refine(W.ge 2).mono fun n f=> ?_
 obtain⟨n,rfl⟩: ∃k,n=k+2:=⟨n-2,by omega⟩
 rw [RQ,iQ];by_cases h:l.length=1
 ·have b:Ao (n+2) l=some l:=by rw [Uf,cx (by omega)];rfl
  rw [ez (by omega),Y,b,Z,cx (by omega),Y,RQ,hJ (by simp;omega),if_pos h];rfl
 ·rw [hJ (by omega),if_neg h];rfl
theorem aCF {l:List V} (b:1≤l.length) (i:Nat):ag (iQ l) i=ag l i:=by
 unfold iQ;split
 ·exact BV b i
 ·rfl
theorem at0 {l:List V} {i:Nat} (h:i<(iQ l).length) (b:1≤l.length):aM (iQ l) i=some (ag l i):=by
 have k:=fe h;rw [Int.toNat_natCast]at k;rw [k,←aCF b,ag];simp [h]
theorem aCG (nm:O) (l:List V) (m: ∀v∈l,bP v) (j:1≤l.length∧l.length≤3) (u:nm∈iC):W fun n=>HV n nm l=some (iO nm l):=by
 have p:=eK m 0;have k:=eK m 1;have s:=eK m 2;have l0:=kr p;have l1:=kr k;have hp:=aCD j.1;have a0:=at0 (l:=l) (i:=0) (by omega) j.1
 have q:=at0 (l:=l) (i:=1) (by omega) j.1
 have g0:decide ((0:Int)≤0∧(0:Int)<((iQ l).length:Int))=true:=ez (by omega)
 have g1:decide ((0:Int)≤1∧(1:Int)<((iQ l).length:Int))=true:=ez (by omega)
 have base:=(aCE l nm j).and (mg (ag l 0));rcases JO u with rfl|rfl|rfl|rfl|rfl|rfl
 ·refine(base.and (mf (1000000*((aG (ag l 0)).length:Int)))).nm fun n ⟨⟨d,f⟩,b⟩=> ?_
  have w:wrap .i64 (((aG (ag l 0)).length:Int)*1000000)=1000000*((aG (ag l 0)).length:Int):=by rw [IntKind.wrap_i64];omega
  rw [qH,d,Z,cO,g0,Y,a0,Z,f,Z,w,b];rfl
 ·obtain⟨w1,b1⟩:=BU k
  obtain⟨w2,b2⟩:=BU s;by_cases t:l.length=3
  ·have a2:=at0 (l:=l) (i:=2) (by omega) j.1
   have g2:decide ((0:Int)≤2∧(2:Int)<((iQ l).length:Int))=true:=ez (by omega)
   have z:wrap .i64 (wrap .i64 (cM (aI (ag l 1))+cM (aI (ag l 2)))-1)=cM (aI (ag l 1))+cM (aI (ag l 2))-1:=by rw [IntKind.wrap_i64,IntKind.wrap_i64];omega
   refine((((base.and (BN k)).and (BN s)).and (Uz (aG (ag l 0)) (cM (aI (ag l 1))) (cM (aI (ag l 1))+cM (aI (ag l 2))-1) (by omega) (by omega))).and (qL (nx (aG (ag l 0)) (cM (aI (ag l 1))) (cM (aI (ag l 1))+cM (aI (ag l 2))-1)))).nm fun n ⟨⟨⟨⟨⟨d,f⟩,b⟩,g⟩,h⟩,r⟩=> ?_
   rw [qH,d,Z,cO,g0,Y,a0,Z,f,Z];simp only [g1,g2,q,a2,Z,b,g,z,h,r,Y];rw [ez (show (2:Int)<((iQ l).length:Int) by omega),iO,sW,if_pos t];rfl
  ·refine(((base.and (BN k)).and (Uz (aG (ag l 0)) (cM (aI (ag l 1))) ((aG (ag l 0)).length:Int) (by omega) (by omega))).and (qL (nx (aG (ag l 0)) (cM (aI (ag l 1))) ((aG (ag l 0)).length:Int)))).nm fun n ⟨⟨⟨⟨d,f⟩,b⟩,h⟩,r⟩=> ?_
   rw [qH,d,Z,cO,g0,Y,a0,Z,f,Z];simp only [g1,q,Z,b,h,r,Y];rw [hJ (show ¬(2:Int)<((iQ l).length:Int) by omega),iO,sW,if_neg t];rfl
 ·have hb:=sV (aG (ag l 1)) (aG (ag l 0))
  have w0:wrap .i64 (cH (aG (ag l 1)) (aG (ag l 0))+1)=cH (aG (ag l 1)) (aG (ag l 0))+1:=by rw [IntKind.wrap_i64];omega
  have w:wrap .i64 ((cH (aG (ag l 1)) (aG (ag l 0))+1)*1000000)=1000000*(cH (aG (ag l 1)) (aG (ag l 0))+1):=by rw [IntKind.wrap_i64];omega
  refine(((base.and (mg (ag l 1))).and (aCx (aG (ag l 0)) (aG (ag l 1)) (by omega))).and (mf (1000000*(cH (aG (ag l 1)) (aG (ag l 0))+1)))).nm fun n ⟨⟨⟨⟨d,f⟩,b⟩,g⟩,h⟩=> ?_
  rw [qH,d,Z,cO,g0,Y,a0,Z,f,Z];simp only [g1,q,Z,b,g,w0,w,h,Y];rfl
 ·refine(((base.and (np p.2.1)).and (Ub (jE p))).and (mf (jb (aI (ag l 0))))).nm fun n ⟨⟨⟨⟨d,f⟩,b⟩,g⟩,h⟩=> ?_
  rw [qH,d,Z,cO,g0,Y,a0,Z,f,Z];simp only [Z,b,g,h,Y];rfl
 ·refine((base.and (Uu (aG (ag l 0)) 97 65 (by decide) (by decide) (by omega))).and (qL (mj 97 65 (aG (ag l 0))))).nm fun n ⟨⟨⟨d,f⟩,b⟩,g⟩=> ?_
  have b:sD n (aG (ag l 0)) ((UInt8.ofNat (Int.toNat 97)):UInt8) ((UInt8.ofNat (Int.toNat 65)):UInt8)=_:=b;rw [qH,d,Z,cO,g0,Y,a0,Z,f,Z];simp only [Z,b,g];rfl
 ·refine((base.and (Uu (aG (ag l 0)) 65 97 (by decide) (by decide) (by omega))).and (qL (mj 65 97 (aG (ag l 0))))).nm fun n ⟨⟨⟨d,f⟩,b⟩,g⟩=> ?_
  have b:sD n (aG (ag l 0)) ((UInt8.ofNat (Int.toNat 65)):UInt8) ((UInt8.ofNat (Int.toNat 97)):UInt8)=_:=b;rw [qH,d,Z,cO,g0,Y,a0,Z,f,Z];simp only [Z,b,g];rfl
theorem aCH (nm:O) {l:List V} (d: ∀v∈l,bP v):bP (iO nm l):=by
 have f:=eK d 0;have g:=eK d 1;have b:=kr f;unfold iO;split
 ·exact lP (fU (by omega))
 split
 ·exact lP (YH (jE f))
 split
 ·have h:=sV (aG (ag l 1)) (aG (ag l 0))
  exact lP (fU (by omega))
 split
 ·exact rO (by simpa [mj]using b)
 split
 ·exact rO (by simpa [mj]using b)
 ·exact rO (Nat.le_trans (aCy _ _ _) b)
theorem UE {s:O} (h:jF s) {i:Nat} (d:1≤i) (b:i<s.length): ¬(s[i]).toNat≤(s[i-1]'(by omega)).toNat:=by
 have:=List.pairwise_iff_getElem.1 h (i-1) i (by omega) b (by omega)
 omega
theorem UF {s:O} {i:Nat} (b:1≤i) (d:i<s.length) (f:s.length≤1048576):bE s (wrap .i64 ((i:Int)-1))=some (s[i-1]'(by omega)):=by
 rw [show wrap .i64 ((i:Int)-1)=((i-1:Nat):Int) by rw [IntKind.wrap_i64];omega,de (by omega)]
theorem UG {s:O} (d:s.length≤1048576) (h:jF s) (n:Nat): ∀k m (i:Nat),s.length-i=k→k<m→1≤i→zv n m (i:Int) s=some (.inl ())
 |k,0,i,e,hm,hi=>by omega
 |k,m+1,i,e,hm,hi=>by
  rw [arC];by_cases b:i<s.length
  ·rw [bu b,UF hi b d,de b]
   simp only [Y,Z];have k:=UE h hi b;rw [hJ (by omega),da,dx b (by omega)]
   exact UG d h n _ m (i+1) rfl (by omega) (by omega)
  ·rw [hJ (by omega)];rfl
theorem aCI {s:O} (b:s.length≤1048576) (h:jF s):W fun n=>sd n s=some true:=by
 refine(W.ge (s.length+1)).nm fun n d=> ?_
 rw [arB,show(1:Int)=((1:Nat):Int)from rfl,UG b h n _ n 1 rfl (by omega) (by omega)];rfl
theorem JP {s:O} (d:s.length≤1048576) (h:jF s) (n:Nat) (o c:Int) (neg:Bool) (ks:aS): ∀k m (i:Nat),s.length-i=k→k<m→i≤s.length→wa n m o c s neg ks (i:Int) (s.length:Int)=some (.inl (o,c,s,neg,ks))
 |k,0,i,e,hm,hi=>by omega
 |k,m+1,i,e,hm,hi=>by
  rw [awH];by_cases b:i<s.length
  ·rw [bu b,Y,dx b (by omega)]
   by_cases f:0<i
   ·rw [ez (show (0:Int)<(i:Int) by omega),UF f b d,de b]
    simp only [Y,Z];have k:=UE h f b;rw [hJ (by omega),da]
    exact JP d h n o c neg ks _ m (i+1) rfl (by omega) (by omega)
   ·rw [hJ (show ¬(0:Int)<(i:Int) by omega),da]
    exact JP d h n o c neg ks _ m (i+1) rfl (by omega) (by omega)
  ·rw [hJ (by omega)];rfl
theorem UH (t q:O): ∀p:O,0≤cH t (p++(t++q))
 | []=>by
  rw [Ux]
  ·exact Int.le_refl _
  ·rw [List.nil_append,List.isPrefixOf_iff_prefix];exact List.prefix_append _ _
 |b::p=>by
  have ih:=UH t q p;rw [List.cons_append,cH];cases List.isPrefixOf t (b::(p++(t++q)))
  ·rw [da,ez ih,Y];omega
  ·exact Int.le_refl _
theorem aCJ (n:Nat) (s:O):sv (n+1) s [93]=some (decide (0≤Lib.indexByte s 93)):=by kernel_rfl
theorem aCK (n:Nat) (s:O):sv (n+1) s [92,93,94]=cond (Nat.ble (List.length (α:=UInt8) s) 4000000000) (some (decide (0≤cH [92,93,94] s))) none:=by kernel_rfl
theorem JQ {s:O} (h:jF s):s.length≤256:=by
 have key: ∀(l:O) (k:Nat),jF l→(∀b∈l,k≤b.toNat)→l.length+k≤256∨l=[]:=by
  intro l;induction l with
  |nil=>intro k _ _;exact .inr rfl
  |cons a l ih=>
   intro k d f;have m:=a.toNat_lt;have hk:=f a (by simp)
   obtain⟨g,i⟩:=List.pairwise_cons.1 d;rcases ih (a.toNat+1) i (fun b j=>g b j)with h|h
   ·left;simp only [List.length_cons];omega
   ·left;rw [h];simp only [List.length_cons,List.length_nil];omega
 rcases key s 0 h (fun _ _=>by omega)with h|h
 ·omega
 ·rw [h];simp
theorem aCL {s:O} {neg:Bool} (h:xW s neg) (o c:Int) (ks:aS):W fun n=>AF n o c s neg ks=some true:=by
 obtain⟨f,d,g,b⟩:=h;have m:=JQ d;refine(W.ge (s.length+2)).nm fun n r=> ?_
 obtain⟨n,rfl⟩: ∃q,n=q+1:=⟨n-1,by omega⟩
 have i:(s==([]:O))=false:=by simpa using f
 rw [awG,show(0:Int)=((0:Nat):Int)from rfl,JP (by omega) d (n+1) o c neg ks _ (n+1) 0 rfl (by omega) (by omega),Z,cO]
 dsimp only
 rw [aCJ,aCK,Nat.ble_eq_true_of_le (by omega),i]
 have k:(cond (decide (0≤Lib.indexByte s 93)) (some (!decide (0≤cH [92,93,94] s))) (some false):Option Bool)=some false:=by
  by_cases hm:(93:UInt8)∈s
  ·obtain⟨p,q,e⟩:=g hm
   rw [ez ((sN s 93).2.2 hm),Y,e,ez (UH _ _ _)];rfl
  ·rw [hJ (fun k=>hm ((sN s 93).2.1 k))];rfl
 simp only [Z,Y]at k ⊢;rw [k];rcases b with rfl|b
 ·rfl
 ·have j:(s==([94]:O))=false:=by simpa using b
  rw [j];cases neg<;>rfl
theorem JR: ∀(ks:List Tr) (a:Int),0≤a→(∀k∈ks,0≤df k∧df k≤eb k)→a≤fT a ks∧(∀k∈ks,df k≤fT a ks)∧fT a ks≤a+cw ks
 | [],a,f,h=>by rw [fT,cw];exact⟨Int.le_refl _,fun k hk=>(by cases hk),by omega⟩
 |t::r,a,f,h=>by
  have g:=h t (by simp)
  rw [fT,cw];have key: ∀b:Int,a≤b→df t≤b→b≤a+eb t→a≤fT b r∧(∀k∈t::r,df k≤fT b r)∧fT b r≤a+((eb t+cw r:Nat):Int):=fun b d i j=>by
   obtain⟨i1,i2,i3⟩:=JR r b (by omega) (fun k hk=>h k (by simp [hk]))
   refine⟨by omega,fun k hk=> ?_,by omega⟩
   rcases List.mem_cons.1 hk with rfl|hk
   ·omega
   ·exact i2 k hk
  by_cases d:a<df t
  ·rw [ez d,Y];exact key _ (by omega) (by omega) (by omega)
  ·rw [hJ d,da];exact key _ (by omega) (by omega) (by omega)
theorem BW: ∀ {ks:List Tr} {k:Tr},k∈ks→eb k≤cw ks
 |a::r,k,h=>by
  rw [cw];rcases List.mem_cons.1 h with rfl|h
  ·omega
  ·have:=BW h;omega
theorem JS {t:Tr} (h:fL t):eb t≤1000000→1≤df t∧df t≤eb t∧df t=fT 0 (dM t)+1:=by
 induction h with
 |mk h k ih=>
  rename_i t;intro d;rw [Ec]at d ⊢;obtain⟨i1,i2,i3⟩:=JR (dM t) 0 (Int.le_refl _) (fun x b=>by
   have:=BW b;have:=ih x b (by omega)
   omega)
  have e:df t=fT 0 (dM t)+1:=by rw [Jf,IntKind.wrap_i64];omega
  rw [e];omega
theorem aCM {t:Tr} (h:fL t) (d:eb t≤1000000) {x:Tr} (b:x∈dM t):df x+1≤df t:=by
 obtain⟨-, -,e⟩:=JS h d;obtain⟨h,k⟩:=h;rw [Ec]at d;have:=(JR (dM t) 0 (Int.le_refl _) (fun x b=>by
   have f:=BW b;have:=JS (k x b) (by omega)
   omega)).2.1 x b
 omega
theorem UI {o c:Int} {s:O} {neg:Bool} {ks:List Tr} (d:ks.length≤1048576) {n:Nat} (h: ∀x∈ks,vA n (aE x).1 (aE x).2.1 (aE x).2.2.1 (aE x).2.2.2.1 (aE x).2.2.2.2=some true): ∀k m (i:Nat),ks.length-i=k→k<m→i≤ks.length→zu n m o c s neg ks (i:Int)=some (.inl (o,c,s,neg,ks))
 |k,0,i,e,hm,hi=>by omega
 |k,m+1,i,e,hm,hi=>by
  rw [arA];by_cases b:i<ks.length
  ·rw [bu b,Y,lY b,Z,h _ (List.getElem_mem b),dx b (by omega)]
   exact UI d h _ m (i+1) rfl (by omega) (by omega)
  ·rw [hJ (by omega)];rfl
theorem aCN {o c:Int} {s:O} {neg:Bool} {k:Nat} (h:Eb o c s neg k) {n:Nat} (hu:jF s→sd n s=some true) (i: ∀x lo hi:Int,cj n x lo hi=some (bo (In x lo hi))):
  cond (o==(1:Int)) (((cj n c 0 255).bind fun f=>cond f (cond (s==([]:O)) (cond (!neg) (some ((k:Int)==(0:Int))) (some false)) (some false)) (some false)).bind fun d=>some d) (cond (o==(3:Int)) ((cond (c==(0:Int)) (cond (!(s==([]:O))) ((sd n s).bind fun f=>cond f (some ((k:Int)==(0:Int))) (some false)) (some false)) (some false)).bind fun d=>some d) (cond (o==(6:Int)) ((cond (c==(0:Int)) (cond (s==([]:O)) (cond (!neg) (some (decide ((2:Int)≤(k:Int)))) (some false)) (some false)) (some false)).bind fun d=>some d) (cond (o==(7:Int)) ((cond (c==(0:Int)) (cond (s==([]:O)) (cond (!neg) (some (decide ((2:Int)≤(k:Int)))) (some false)) (some false)) (some false)).bind fun d=>some d) (cond (o==(8:Int)) ((cond (c==(0:Int)) (cond (s==([]:O)) (cond (!neg) (some ((k:Int)==(1:Int))) (some false)) (some false)) (some false)).bind fun d=>some d) (cond (o==(9:Int)) ((cond (c==(0:Int)) (cond (s==([]:O)) (cond (!neg) (some ((k:Int)==(1:Int))) (some false)) (some false)) (some false)).bind fun d=>some d) (cond (o==(10:Int)) ((cond (c==(0:Int)) (cond (s==([]:O)) (cond (!neg) (some ((k:Int)==(1:Int))) (some false)) (some false)) (some false)).bind fun d=>some d) (((cj n o 2 11).bind fun f=>cond f (cond (c==(0:Int)) (cond (s==([]:O)) (cond (!neg) (some ((k:Int)==(0:Int))) (some false)) (some false)) (some false)) (some false)).bind fun d=>some d)))))))=some true:=by
 rcases h with⟨rfl,a,b,rfl,rfl,rfl⟩|⟨rfl,rfl,⟨a,b, -⟩,rfl⟩|⟨g,rfl,rfl,rfl,hk⟩|⟨g,rfl,rfl,rfl,rfl⟩|⟨g,rfl,rfl,rfl,rfl⟩
 ·rw [i,aB ⟨a,b⟩];rfl
 ·have j:(s==([]:O))=false:=by simpa using a
  rw [hu b,j];rfl
 ·have e:decide ((2:Int)≤(k:Int))=true:=ez (by omega)
  rcases g with rfl|rfl<;>rw [e]<;>rfl
 ·rcases g with rfl|rfl|rfl<;>rfl
 ·rcases g with rfl|rfl|rfl|rfl<;>rw [i,i,aB (show In _ 2 11 from⟨by omega,by omega⟩)]<;>rfl
theorem UJ:W fun n=> ∀x lo hi:Int,cj n x lo hi=some (bo (In x lo hi)):=W.succ (W.of fun n x lo hi=>by
 obtain⟨N,h⟩:=cR x lo hi;rw [←h (max N (n+1)) (Nat.le_max_left _ _)];obtain⟨q,b⟩: ∃q,max N (n+1)=q+1:=⟨max N (n+1)-1,by omega⟩
 rw [b,wi,wi])
theorem aCO {t:Tr} (h:fL t) (g:gZ t):W fun n=>vA n (aE t).1 (aE t).2.1 (aE t).2.2.1 (aE t).2.2.2.1 (aE t).2.2.2.2=some true:=by
 induction h with
 |mk h k ih=>
  rename_i t;obtain⟨p,hk⟩:=g;have b:W fun n=>jF (aE t).2.2.1→sd n (aE t).2.2.1=some true:=by
   by_cases d:jF (aE t).2.2.1
   ·exact(aCI (by have:=JQ d;omega) d).mono fun n e _=>e
   ·exact W.of fun n k=>absurd k d
  refine((((W.all (dM t) fun x f=>ih x f (hk x f)).and b).and UJ).and (W.ge ((dM t).length+1))).nm fun n ⟨⟨⟨i,j⟩,m⟩,q⟩=> ?_
  rw [aqZ,show(0:Int)=((0:Nat):Int)from rfl,show(aE t).2.2.2.2=dM t from rfl,UI (by omega) i _ n 0 rfl (by omega) (by omega),Z,cO]
  exact aCN h j m
theorem UK {ks:List Tr} (f:ks.length≤1048576) (d:Int) {n:Nat} (h: ∀x∈ks,AE n d (aE x).1 (aE x).2.1 (aE x).2.2.1 (aE x).2.2.2.1 (aE x).2.2.2.2=some (false,d)): ∀k m (i:Nat),ks.length-i=k→k<m→i≤ks.length→Az n m d (i:Int) ks (ks.length:Int)=some (.inl d)
 |k,0,i,e,hm,hi=>by omega
 |k,m+1,i,e,hm,hi=>by
  rw [awE];by_cases b:i<ks.length
  ·rw [bu b,Y,lY b,Z,h _ (List.getElem_mem b),dx b (by omega)]
   exact UK f d h _ m (i+1) rfl (by omega) (by omega)
  ·rw [hJ (by omega)];rfl
theorem aCP {t:Tr} (h:fL t) (hs:gZ t): ∀d:Int,eb t≤1000000→df t≤d→d≤100→W fun n=>Ay n (aE t).1 (aE t).2.1 (aE t).2.2.1 (aE t).2.2.2.1 (aE t).2.2.2.2 d=some true:=by
 induction h with
 |mk h k ih=>
  rename_i t;intro d m hd u;obtain⟨hl,hk⟩:=hs;have hr:fL t:=.mk h k;obtain⟨d1, -, -⟩:=JS hr m;have hw:wrap .i64 (d-1)=d-1:=by rw [IntKind.wrap_i64];omega
  have g:W fun n=> ∀x∈dM t,AE n d (aE x).1 (aE x).2.1 (aE x).2.2.1 (aE x).2.2.2.1 (aE x).2.2.2.2=some (false,d):=by
   refine W.all (dM t) fun x j=> ?_
   have ah:=aCM hr m j;have ai:=BW j;rw [Ec]at m;refine(ih x j (hk x j) (d-1) (by omega) (by omega) (by omega)).nm fun n e=> ?_
   rw [awF,hw,e];rfl
  have p:W fun n=>jh n d (dM t)=some (false,d):=by
   refine W.succ ((g.and (W.ge ((dM t).length+1))).nm fun n ⟨q,e2⟩=> ?_)
   rw [awC,awD,show(0:Int)=((0:Nat):Int)from rfl,UK (by omega) d q _ n 0 rfl (by omega) (by omega)];rfl
  have f:W fun n=>xW (aE t).2.2.1 (aE t).2.2.2.1→AF n (aE t).1 (aE t).2.1 (aE t).2.2.1 (aE t).2.2.2.1 (aE t).2.2.2.2=some true:=by
   by_cases ha:xW (aE t).2.2.1 (aE t).2.2.2.1
   ·exact(aCL ha _ _ _).mono fun n e _=>e
   ·exact W.of fun n k=>absurd k ha
  refine((p.and f).and (dh (aE t).2.1 0 255)).nm fun n ⟨⟨q,e2⟩,e3⟩=> ?_
  have z:(d==(0:Int))=false:=by simp;omega
  have r:jh n d (aE t).2.2.2.2=some (false,d):=q;rw [awB,z,r,e3];have hlen:(dM t).length=(aE t).2.2.2.2.length:=rfl;rw [hlen]at h;generalize (aE t).2.2.2.2.length=kl at*
  generalize (aE t).1=o at*
  generalize (aE t).2.1=c at*
  generalize (aE t).2.2.1=s at*
  generalize (aE t).2.2.2.1=neg at*
  rcases h with⟨rfl,a,b,rfl,rfl,rfl⟩|⟨rfl,rfl,f,rfl⟩|⟨i,rfl,rfl,rfl,al⟩|⟨i,rfl,rfl,rfl,rfl⟩|⟨i,rfl,rfl,rfl,rfl⟩
  ·rw [aB ⟨a,b⟩];rfl
  ·rw [e2 f];rfl
  ·have e:decide ((1:Int)<(kl:Int))=true:=ez (by omega)
   rcases i with rfl|rfl<;>rw [e]<;>rfl
  ·rcases i with rfl|rfl|rfl<;>rfl
  ·rcases i with rfl|rfl|rfl|rfl<;>rfl
theorem aCQ {t:Tr} (h:fL t) (b:gZ t) (_:eb t≤1000000) (hd:df t≤12):W fun n=>Gt n (aE t).1 (aE t).2.1 (aE t).2.2.1 (aE t).2.2.2.1 (aE t).2.2.2.2=some true:=by
 refine((Jg b).2.and (aCO h b)).nm fun n ⟨d,f⟩=> ?_
 rw [aqY,d,Z,ez hd,Y,f];rfl
theorem aCR {t:Tr} (h:fL t) (b:gZ t) (d:eb t≤1000000) (hd:df t≤12):W fun n=>HR n (aE t).1 (aE t).2.1 (aE t).2.2.1 (aE t).2.2.2.1 (aE t).2.2.2.2=some true:=by
 refine(aCP h b 12 d hd (by omega)).nm fun n f=> ?_
 rw [awA,f];rfl
def pl (o a b:Int):Pl:=(o,0,[],false,a,b)
theorem mm {α:Type} (l:List α) (x y:α) (r:List α):(l++x::r).set l.length y=l++y::r:=by
 rw [List.set_append_right _ _ (Nat.le_refl _),Nat.sub_self];rfl
theorem jM {α:Type} (l:List α) (x:α) (r:List α):aM (l++x::r) l.length=some x:=by
 show(l++x::r)[l.length]? =some x;rw [List.getElem?_append_right (Nat.le_refl _),Nat.sub_self];rfl
theorem ny {α:Type} (l:List α) (x:α) (r:List α):decide ((0:Int)≤(l.length:Int)∧(l.length:Int)<((l++x::r).length:Int))=true:=ez (by simp;omega)
theorem wM (l:List Pl) (o:Int) (b:l.length≤1048576):W fun n=>lV n l o=some (l++[pl o 0 0]):=W.succ (W.of fun n=>by
 rw [Bq,cx (by omega)];rfl)
def jm (S:Tr→Nat→List Pl):List Tr→Nat→List Pl
 | [],_=>[]
 |k::r,b=>S k b++jm S r (b+(S k b).length)
def dF (S:Tr→Nat→List Pl) (e:Int):List Tr→Nat→List Pl
 | [],_=>[]
 |k::r,b=>pl 7 ((b+1:Nat):Int) ((b+2+(S k (b+1)).length:Nat):Int)::(S k (b+1)++pl 6 e 0::dF S e r (b+2+(S k (b+1)).length))
def ic (S:Tr→Nat→List Pl):List Tr→Nat→List Int
 | [],_=>[]
 |k::r,b=>((b+1+(S k (b+1)).length:Nat):Int)::ic S r (b+2+(S k (b+1)).length)
def jn (t:Tr) (S:Nat→List Pl):Prop:=
 (∀b,(S b).length+2≤5*eb t)∧ ∀l:List Pl,l.length+6*eb t≤1000000→
  (W fun n=>lU n l (aE t).1 (aE t).2.1 (aE t).2.2.1 (aE t).2.2.2.1 (aE t).2.2.2.2=some (l++S l.length))∧
  (W fun n=>jI n l (aE t).1 (aE t).2.1 (aE t).2.2.1 (aE t).2.2.2.1 (aE t).2.2.2.2=some (l++S l.length))
theorem UL {S:Tr→Nat→List Pl}: ∀(ks:List Tr) (b:Nat),(∀k∈ks,jn k (S k))→(jm S ks b).length≤5*cw ks
 | [],b,h=>by simp [jm]
 |k::r,b,h=>by
  have d:=(h k (by simp)).1 b
  have f:=UL r (b+(S k b).length) (fun k hk=>h k (by simp [hk]))
  rw [jm,cw,List.length_append];omega
theorem JT {S:Tr→Nat→List Pl} {e:Int}: ∀(ks:List Tr) (b:Nat),(∀k∈ks,jn k (S k))→(dF S e ks b).length≤5*cw ks
 | [],b,h=>by simp [dF]
 |k::r,b,h=>by
  have d:=(h k (by simp)).1 (b+1)
  have f:=JT (S:=S) (e:=e) r (b+2+(S k (b+1)).length) (fun k hk=>h k (by simp [hk]))
  rw [dF,cw,List.length_cons,List.length_append,List.length_cons];omega
theorem drop_cons {ks r:List Tr} {k:Tr} {i:Nat} (h:ks.drop i=k::r): ∃hi:i<ks.length,ks[i]=k∧ks.drop (i+1)=r:=by
 have hi:i<ks.length:=by
  by_cases c:i<ks.length
  ·exact c
  ·rw [List.drop_of_length_le (by omega)]at h;cases h
 rw [List.drop_eq_getElem_cons hi]at h;exact⟨hi,(List.cons.inj h).1,(List.cons.inj h).2⟩
theorem drop_nil {ks:List Tr} {i:Nat} (h:ks.drop i=[]):ks.length≤i:=List.drop_eq_nil_iff.1 h
theorem UM {S:Tr→Nat→List Pl} {o c:Int} {s:O} {neg:Bool} {ks:List Tr} (f:ks.length≤1048576): ∀(r:List Tr) (i:Nat) (l:List Pl),ks.drop i=r→i≤ks.length→(∀k∈r,jn k (S k))→l.length+6*cw r≤1000000→
  W fun n=> ∀m,r.length<m→zw n m o c s neg ks (i:Int) l=some (.inl (l++jm S r l.length))
 | [],i,l,e,hi,h,d=>W.of fun n m hm=>by
  obtain⟨m,rfl⟩: ∃q,m=q+1:=⟨m-1,by simp at hm;omega⟩
  have:=drop_nil e;rw [QF,hJ (by omega),da,jm,List.append_nil]
 |k::r,i,l,e,hi,h,d=>by
  obtain⟨b,g,j⟩:=drop_cons e;rw [cw]at d;have hk:=h k (by simp)
  have u:=hk.1 l.length;have ih:=UM (o:=o) (c:=c) (s:=s) (neg:=neg) f r (i+1) (l++S k l.length) j (by omega) (fun k hk=>h k (by simp [hk])) (by rw [List.length_append];omega)
  refine((hk.2 l (by omega)).1.and ih).mono fun n ⟨p,t⟩ m hm=> ?_
  obtain⟨m,rfl⟩: ∃q,m=q+1:=⟨m-1,by simp at hm;omega⟩
  rw [QF,bu b,Y,lY b,g,Z,p,Z,dx b (by omega),t m (by simpa using hm),jm,List.length_append,List.append_assoc]
theorem UN {S:Tr→Nat→List Pl} {ks:List Tr} (f:ks.length≤1048576): ∀(r:List Tr) (i:Nat) (l:List Pl),ks.drop i=r→i≤ks.length→(∀k∈r,jn k (S k))→l.length+6*cw r≤1000000→
  W fun n=> ∀m,r.length<m→AG n m (i:Int) l ks (ks.length:Int)=some (.inl (l++jm S r l.length))
 | [],i,l,e,hi,h,d=>W.of fun n m hm=>by
  obtain⟨m,rfl⟩: ∃q,m=q+1:=⟨m-1,by simp at hm;omega⟩
  have:=drop_nil e;rw [RF,hJ (by omega),da,jm,List.append_nil]
 |k::r,i,l,e,hi,h,d=>by
  obtain⟨b,g,j⟩:=drop_cons e;rw [cw]at d;have hk:=h k (by simp)
  have t:=hk.1 l.length;have ih:=UN f r (i+1) (l++S k l.length) j (by omega) (fun k hk=>h k (by simp [hk])) (by rw [List.length_append];omega)
  refine((hk.2 l (by omega)).2.and ih).mono fun n ⟨p,s⟩ m hm=> ?_
  obtain⟨m,rfl⟩: ∃q,m=q+1:=⟨m-1,by simp at hm;omega⟩
  rw [RF,bu b,Y,lY b,g,Z,p,Z,dx b (by omega),s m (by simpa using hm),jm,List.length_append,List.append_assoc]
theorem UO (S:Tr→Nat→List Pl) (k:Tr) (r:List Tr) (l:List Pl) (e:Int):(l++pl 7 ((l.length+1:Nat):Int) ((l.length+2+(S k (l.length+1)).length:Nat):Int)::(S k (l.length+1)++[pl 6 e 0]))++dF S e r (l++pl 7 ((l.length+1:Nat):Int) ((l.length+2+(S k (l.length+1)).length:Nat):Int)::(S k (l.length+1)++[pl 6 e 0])).length=l++dF S e (k::r) l.length:=by
 have b:(l++pl 7 ((l.length+1:Nat):Int) ((l.length+2+(S k (l.length+1)).length:Nat):Int)::(S k (l.length+1)++[pl 6 e 0])).length=l.length+2+(S k (l.length+1)).length:=by simp;omega
 rw [b,dF];simp
theorem UP {S:Tr→Nat→List Pl} {ks:List Tr} (hl:ks.length≤1048576) (j:ks≠ []): ∀(r:List Tr) (i:Nat) (l:List Pl) (J:List Int),(ks.dropLast).drop i=r→i≤ks.dropLast.length→(∀k∈r,jn k (S k))→l.length+6*cw r+6≤1000000→J.length+r.length≤1048576→
  W fun n=> ∀m,r.length<m→zx n m (i:Int) J ks l=some (.inl (J++ic S r l.length,ks,l++dF S 0 r l.length))
 | [],i,l,J,e,hi,h,p,t=>W.of fun n m hm=>by
  obtain⟨m,rfl⟩: ∃q,m=q+1:=⟨m-1,by simp at hm;omega⟩
  have u:=drop_nil e;have z:0<ks.length:=List.length_pos_iff.2 j;have h3:ks.dropLast.length=ks.length-1:=List.length_dropLast;have hw:wrap .i64 ((ks.length:Int)-1)=((ks.length-1:Nat):Int):=by rw [IntKind.wrap_i64];omega
  rw [QG,hw,hJ (by omega),da,dF,ic,List.append_nil,List.append_nil]
 |k::r,i,l,J,e,hi,h,p,t=>by
  obtain⟨u,z,h3⟩:=drop_cons e;have h4:ks.dropLast.length=ks.length-1:=List.length_dropLast;have hw:wrap .i64 ((ks.length:Int)-1)=((ks.length-1:Nat):Int):=by rw [IntKind.wrap_i64];omega
  have h5:ks[i]'(by omega)=k:=by rw [←z,List.getElem_dropLast]
  rw [cw]at p;have hk:=h k (by simp)
  have hb:=hk.1 (l.length+1);obtain⟨s,g⟩: ∃s,s=S k (l.length+1):=⟨_,rfl⟩
  have ai:s.length+2≤5*eb k:=g▸hb;have p1:=wM l 7 (by omega)
  have p2:=wM (l++[pl 7 0 0]++s) 6 (by simp;omega)
  have d:=(hk.2 (l++[pl 7 0 0]) (by simp;omega)).1
  rw [show (l++[pl 7 0 0]).length=l.length+1 by simp,←g]at d
  simp only [List.length_cons]at t;have f:(l++pl 7 ((l.length+1:Nat):Int) ((l.length+2+s.length:Nat):Int)::(s++[pl 6 0 0])).length=l.length+2+s.length:=by simp;omega
  have ih:=UP hl j r (i+1) (l++pl 7 ((l.length+1:Nat):Int) ((l.length+2+s.length:Nat):Int)::(s++[pl 6 0 0])) (J++[((l.length+1+s.length:Nat):Int)]) h3 (by omega) (fun k hk=>h k (by simp [hk])) (by rw [f];omega) (by simp;omega)
  refine(((p1.and p2).and d).and ih).mono fun n ⟨⟨⟨e1,e2⟩,e3⟩,e4⟩ m hm=> ?_
  obtain⟨m,rfl⟩: ∃q,m=q+1:=⟨m-1,by simp at hm;omega⟩
  have hr:l++[pl 7 0 0]++s++[pl 6 0 0]=l++pl 7 0 0::(s++[pl 6 0 0]):=by simp
  have hlen:(l++[pl 7 0 0]++s).length=l.length+1+s.length:=by simp;omega
  rw [QG,hw,ez (show (i:Int)<((ks.length-1:Nat):Int) by omega),Y,e1,Z,lY (show i<ks.length by omega),h5,Z,e3,Z,cx (by omega),Y,e2,Z,hr,ny,Y,Int.toNat_natCast,jM,Z,mm,ny,Y,jM,Z,mm,dx u (by omega),jK (by omega),hlen]
  have k1:=e4 m (by simpa using hm)
  have b:((l++((pl 7 0 0).1,(pl 7 0 0).2.1,(pl 7 0 0).2.2.1,(pl 7 0 0).2.2.2.1,((l.length+1:Nat):Int),(pl 7 0 0).2.2.2.2.2)::(s++[pl 6 0 0])).length:Int)=((l.length+2+s.length:Nat):Int):=by simp;omega
  rw [b];refine k1.trans ?_
  have ho:=UO S k r l 0;rw [←g]at ho;rw [ho,f,ic,←g];simp
theorem UQ {S:Tr→Nat→List Pl} {ks:List Tr} (hl:ks.length≤1048576) (zs:List Tr): ∀(r:List Tr) (i:Nat) (l:List Pl) (J:List Int),ks.drop i=r→i≤ks.length→(∀k∈r,jn k (S k))→l.length+6*cw r+6≤1000000→J.length+r.length≤1048576→
  W fun n=> ∀m,r.length<m→AH n m (i:Int) J l ks zs (ks.length:Int)=some (.inl (J++ic S r l.length,zs,l++dF S 0 r l.length))
 | [],i,l,J,e,hi,h,t,u=>W.of fun n m hm=>by
  obtain⟨m,rfl⟩: ∃q,m=q+1:=⟨m-1,by simp at hm;omega⟩
  have g:=drop_nil e;rw [RG,hJ (by omega),da,dF,ic,List.append_nil,List.append_nil]
 |k::r,i,l,J,e,hi,h,t,u=>by
  obtain⟨g,h2,h3⟩:=drop_cons e;rw [cw]at t;have hk:=h k (by simp)
  have hb:=hk.1 (l.length+1);obtain⟨s,j⟩: ∃s,s=S k (l.length+1):=⟨_,rfl⟩
  have ah:s.length+2≤5*eb k:=j▸hb;have d:=(hk.2 (l++[pl 7 ((l.length+1:Nat):Int) 0]) (by simp;omega)).2
  rw [show (l++[pl 7 ((l.length+1:Nat):Int) 0]).length=l.length+1 by simp,←j]at d
  simp only [List.length_cons]at u;have f:(l++pl 7 ((l.length+1:Nat):Int) ((l.length+2+s.length:Nat):Int)::(s++[pl 6 0 0])).length=l.length+2+s.length:=by simp;omega
  have ih:=UQ hl zs r (i+1) (l++pl 7 ((l.length+1:Nat):Int) ((l.length+2+s.length:Nat):Int)::(s++[pl 6 0 0])) (J++[((l.length+1+s.length:Nat):Int)]) h3 (by omega) (fun k hk=>h k (by simp [hk])) (by rw [f];omega) (by simp;omega)
  refine(d.and ih).mono fun n ⟨e3,e4⟩ m hm=> ?_
  obtain⟨m,rfl⟩: ∃q,m=q+1:=⟨m-1,by simp at hm;omega⟩
  have p:jI n (l++[((7:Int),(0:Int),([]:O),false,((l.length+1:Nat):Int),(0:Int))]) (aE k).1 (aE k).2.1 (aE k).2.2.1 (aE k).2.2.2.1 (aE k).2.2.2.2=some (l++[pl 7 ((l.length+1:Nat):Int) 0]++s):=e3;have hr:l++[pl 7 ((l.length+1:Nat):Int) 0]++s++[((6:Int),(0:Int),([]:O),false,(0:Int),(0:Int))]=l++pl 7 ((l.length+1:Nat):Int) 0::(s++[pl 6 0 0]):=by simp [pl]
  have hlen:(l++[pl 7 ((l.length+1:Nat):Int) 0]++s).length=l.length+1+s.length:=by simp;omega
  have b:((l++pl 7 ((l.length+1:Nat):Int) 0::(s++[pl 6 0 0])).length:Int)=((l.length+2+s.length:Nat):Int):=by simp;omega
  rw [RG,bu g,Y,lY g,h2,Z,cx (by omega),Y,jK (by omega),p,Z,cx (by omega),Y,hlen,cx (by omega),Y,hr,ny,Y,Int.toNat_natCast,jM,Z,mm,b,dx g (by omega)]
  have k1:=e4 m (by simpa using hm)
  refine k1.trans ?_
  have z:=UO S k r l 0;rw [←j]at z;rw [z,f,ic,←j];simp
theorem JU {S:Tr→Nat→List Pl} {δ:Type} {z:List Pl} {J:List Int} {L:Nat→Int→List Pl→Option (Sum (List Pl) δ)} {e:Nat} (h:J.length≤1048576)
  (hx: ∀m (i:Nat) (l:List Pl) (j:Nat) (x:Pl),l.length=e→J[i]? =some (j:Int)→l[j]? =some x→L (m+1) (i:Int) l=L m ((i+1:Nat):Int) (l.set j (x.1,x.2.1,x.2.2.1,x.2.2.2.1,(e:Int),x.2.2.2.2.2)))
  (he: ∀m (i:Nat) l,J.length≤i→L (m+1) (i:Int) l=some (.inl l)): ∀(r:List Tr) (i m:Nat) (l:List Pl),J.drop i=ic S r l.length→r.length<m→(l++(dF S 0 r l.length++z)).length=e→
  L m (i:Int) (l++(dF S 0 r l.length++z))=some (.inl (l++(dF S (e:Int) r l.length++z)))
 | [],i,m,l,f,hm,hlen=>by
  obtain⟨m,rfl⟩: ∃q,m=q+1:=⟨m-1,by simp at hm;omega⟩
  rw [ic]at f;rw [he m i _ (List.drop_eq_nil_iff.1 f),dF,dF]
 |k::r,i,m,l,f,hm,hlen=>by
  obtain⟨m,rfl⟩: ∃q,m=q+1:=⟨m-1,by simp at hm;omega⟩
  obtain⟨s,p⟩: ∃s,s=S k (l.length+1):=⟨_,rfl⟩
  rw [ic]at f;rw [dF,←p]at hlen ⊢;rw [dF,←p];rw [←p]at f;have hi:J[i]? =some ((l.length+1+s.length:Nat):Int):=by
   have:=congrArg (fun q=>q[0]?) f
   simpa using this
  have hd:J.drop (i+1)=ic S r (l.length+2+s.length):=by
   have:=congrArg List.tail f;rw [List.tail_drop]at this;exact this
  have b: ∀t:Int,l++(pl 7 ((l.length+1:Nat):Int) ((l.length+2+s.length:Nat):Int)::(s++pl 6 t 0::dF S 0 r (l.length+2+s.length))++z)=(l++pl 7 ((l.length+1:Nat):Int) ((l.length+2+s.length:Nat):Int)::s)++pl 6 t 0::(dF S 0 r (l.length+2+s.length)++z):=fun t=>by simp
  have d: ∀q:List Pl,(l++pl 7 ((l.length+1:Nat):Int) ((l.length+2+s.length:Nat):Int)::s)++pl 6 (e:Int) 0::q=(l++pl 7 ((l.length+1:Nat):Int) ((l.length+2+s.length:Nat):Int)::(s++[pl 6 (e:Int) 0]))++q:=fun q=>by simp
  have hp:(l++pl 7 ((l.length+1:Nat):Int) ((l.length+2+s.length:Nat):Int)::s).length=l.length+1+s.length:=by simp;omega
  have g:(l++pl 7 ((l.length+1:Nat):Int) ((l.length+2+s.length:Nat):Int)::(s++[pl 6 (e:Int) 0])).length=l.length+2+s.length:=by simp;omega
  have u:=hx m i (l++(pl 7 ((l.length+1:Nat):Int) ((l.length+2+s.length:Nat):Int)::(s++pl 6 0 0::dF S 0 r (l.length+2+s.length))++z)) (l.length+1+s.length) (pl 6 0 0) hlen hi (by
   rw [b 0,←hp];exact jM _ _ _)
  rw [u,b 0,←hp,mm];have ih:=JU h hx he r (i+1) m (l++pl 7 ((l.length+1:Nat):Int) ((l.length+2+s.length:Nat):Int)::(s++[pl 6 (e:Int) 0])) (by rw [g];exact hd) (by simpa using hm) (by
   rw [g,←d];rw [b 0]at hlen;simpa using hlen)
  rw [g]at ih;rw [show ((pl 6 0 0).1,(pl 6 0 0).2.1,(pl 6 0 0).2.2.1,(pl 6 0 0).2.2.2.1,(e:Int),(pl 6 0 0).2.2.2.2.2)=pl 6 (e:Int) 0 from rfl,d];refine ih.trans ?_
  simp
end Go.Proofs.YtfpfjmahdneehaaGreatDoor
