/- Texts of the law, part 2. -/
import Derived.Test.YtfpfjmahdneehaaGreatDoorTxt1
import Derived.Test.YtfpfjmahdneehaaGreatDoorEv4
open Go.IntKind
namespace Go.Proofs.YtfpfjmahdneehaaGreatDoor
open Go Go.Ev
def qN (S:Tr→Nat→List Pl) (ks:List Tr) (b:Nat):Nat:=b+(dF S 0 ks.dropLast b).length
def JV (S:Tr→Nat→List Pl) (ks:List Tr) (z:Tr) (b:Nat):Nat:=qN S ks b+(S z (qN S ks b)).length
def qO (S:Tr→Nat→List Pl) (ks:List Tr) (z:Tr) (b:Nat):List Pl:=dF S (JV S ks z b:Int) ks.dropLast b++S z (qN S ks b)
theorem aCS {S:Tr→Nat→List Pl} {z:List Pl} {J:List Int} {e:Nat} (b:J.length≤1048576) (n:Nat) (r:List Tr) (m:Nat) (l:List Pl) (f:J=ic S r l.length) (hm:r.length<m) (he:(l++(dF S 0 r l.length++z)).length=e):
  oJ n m 0 (l++(dF S 0 r l.length++z)) J=some (.inl (l++(dF S (e:Int) r l.length++z))):=by
 refine JU (S:=S) (z:=z) (J:=J) (e:=e) (L:=fun m i l=>oJ n m i l J) b (fun m i l j x g hi hj=> ?_) (fun m i l hi=> ?_) r 0 m l (by rw [List.drop_zero];exact f) hm he
 ·show oJ n (m+1) (i:Int) l J=oJ n m ((i+1:Nat):Int) _ J
  obtain⟨d, -⟩:=List.getElem?_eq_some_iff.1 hi
  obtain⟨k, -⟩:=List.getElem?_eq_some_iff.1 hj
  have h:aM J (Int.toNat (i:Int))=some (j:Int):=by rw [Int.toNat_natCast];exact hi
  have a2:aM l (Int.toNat (j:Int))=some x:=by rw [Int.toNat_natCast];exact hj
  rw [QH,bu d,Y,ez (by omega),Y,h,Z,ez (by omega),Y,a2,Z,dx d (by omega),g,Int.toNat_natCast]
 ·show oJ n (m+1) (i:Int) l J=_
  rw [QH,hJ (by omega),da]
theorem aCT {S:Tr→Nat→List Pl} {z:List Pl} {J:List Int} {e:Nat} (b:J.length≤1048576) (n:Nat) (r:List Tr) (m:Nat) (l:List Pl) (f:J=ic S r l.length) (hm:r.length<m) (he:(l++(dF S 0 r l.length++z)).length=e):
  oN n m 0 (l++(dF S 0 r l.length++z)) J (J.length:Int)=some (.inl (l++(dF S (e:Int) r l.length++z))):=by
 refine JU (S:=S) (z:=z) (J:=J) (e:=e) (L:=fun m i l=>oN n m i l J (J.length:Int)) b (fun m i l j x g hi hj=> ?_) (fun m i l hi=> ?_) r 0 m l (by rw [List.drop_zero];exact f) hm he
 ·show oN n (m+1) (i:Int) l J (J.length:Int)=oN n m ((i+1:Nat):Int) _ J (J.length:Int)
  obtain⟨d, -⟩:=List.getElem?_eq_some_iff.1 hi
  obtain⟨k, -⟩:=List.getElem?_eq_some_iff.1 hj
  have h:aM J (Int.toNat (i:Int))=some (j:Int):=by rw [Int.toNat_natCast];exact hi
  have a2:aM l (Int.toNat (j:Int))=some x:=by rw [Int.toNat_natCast];exact hj
  rw [RH,bu d,Y,ez (by omega),Y,h,Z,ez (by omega),Y,a2,Z,dx d (by omega),g,Int.toNat_natCast]
 ·show oN n (m+1) (i:Int) l J (J.length:Int)=_
  rw [RH,hJ (by omega),da]
theorem UR {S:Tr→Nat→List Pl}: ∀(r:List Tr) (b:Nat),(ic S r b).length=r.length
 | [],_=>rfl
 |k::r,b=>by rw [ic,List.length_cons,List.length_cons,UR r]
theorem JW: ∀(a b:List Tr),cw (a++b)=cw a+cw b
 | [],b=>by simp [cw]
 |k::a,b=>by rw [List.cons_append,cw,cw,JW a b];omega
theorem aCU {S:Tr→Nat→List Pl} {ks:List Tr} {z:Tr} (b:ks=ks.dropLast++[z]) (h: ∀k∈ks,jn k (S k)) (hl:ks.length≤1048575) (l:List Pl) (hz:l.length+6*cw ks+6≤1000000):
  (W fun n=>Gu n l ks=some (l++qO S ks z l.length))∧(W fun n=>HS n l ks=some (l++qO S ks z l.length)):=by
 have q:ks≠ []:=by rw [b];simp
 have hlen:ks.length=ks.dropLast.length+1:=by
  conv=>lhs;rw [b]
  simp
 have ae:cw ks=cw ks.dropLast+eb z:=by
  conv=>lhs;rw [b]
  rw [JW,qf]
 have d: ∀k∈ks.dropLast,jn k (S k):=fun k hk=>h k ((List.dropLast_sublist _).subset hk)
 have i:jn z (S z):=h z (by rw [b];simp)
 have hb:=JT (S:=S) (e:=0) ks.dropLast l.length d;have af:=i.1 (qN S ks l.length);have u:(l++dF S 0 ks.dropLast l.length).length=qN S ks l.length:=by rw [List.length_append];rfl
 have f:=i.2 (l++dF S 0 ks.dropLast l.length) (by rw [List.length_append];omega)
 rw [u]at f;have g:ks[ks.length-1]'(by omega)=z:=by
  rw [←List.getLast_eq_getElem q];have:ks.getLast? =some z:=by rw [b];simp
  rw [List.getLast?_eq_some_getLast q]at this
  exact Option.some.inj this
 have hw:wrap .i64 ((ks.length:Int)-1)=((ks.length-1:Nat):Int):=by rw [IntKind.wrap_i64];omega
 have j:fN ks (wrap .i64 ((ks.length:Int)-1))=some (aE z):=by rw [hw,lY (by omega),g]
 have m:(ic S ks.dropLast l.length).length≤1048576:=by rw [UR];omega
 have hE:(l++(dF S 0 ks.dropLast l.length++S z (qN S ks l.length))).length=JV S ks z l.length:=by
  rw [←List.append_assoc,List.length_append,u];rfl
 constructor
 ·have p:=UP (S:=S) (by omega) q ks.dropLast 0 l [] (by rw [List.drop_zero]) (by omega) d (by omega) (by simp;omega)
  refine((p.and f.1).and (W.ge (ks.length+1))).nm fun n ⟨⟨r,s⟩,e3⟩=> ?_
  rw [arD,show(0:Int)=((0:Nat):Int)from rfl,r n (by omega),Z,cO]
  dsimp only
  rw [j,Z,s,Z,List.append_assoc,show((0:Nat):Int)=0 from rfl,aCS (S:=S) (by simpa using m) n ks.dropLast n l (by simp) (by omega) hE,Z,cO]
  rfl
 ·have t:(ks.drop 0).take (Int.toNat (wrap .i64 ((ks.length:Int)-1))-0)=ks.dropLast:=by
   rw [hw,Int.toNat_natCast,List.drop_zero,Nat.sub_zero,List.dropLast_eq_take]
  have p:=UQ (S:=S) (ks:=ks.dropLast) (by omega) ks ks.dropLast 0 l [] (by rw [List.drop_zero]) (by omega) d (by omega) (by simp;omega)
  refine((p.and f.2).and (W.ge (ks.length+1))).nm fun n ⟨⟨r,s⟩,e3⟩=> ?_
  rw [awI,t,hw,ez (by omega),Y,show(0:Int)=((0:Nat):Int)from rfl,r n (by omega),Z,cO]
  dsimp only
  rw [j,Z,s,Z,List.append_assoc,show((0:Nat):Int)=0 from rfl,aCT (S:=S) (by simpa using m) n ks.dropLast n l (by simp) (by omega) hE,Z,cO]
  rfl
def Sh (S:Nat→List Pl):Prop:= ∀b,∀p∈S b,p.2.2.1.length≤256
theorem mo (o a b:Int):(pl o a b).2.2.1.length≤256:=by simp [pl]
theorem US {S:Tr→Nat→List Pl}: ∀(ks:List Tr) (b:Nat),(∀k∈ks,Sh (S k))→ ∀p∈jm S ks b,p.2.2.1.length≤256
 | [],b,h,p,hp=>by cases hp
 |k::r,b,h,p,hp=>by
  rw [jm]at hp;rcases List.mem_append.1 hp with hp|hp
  ·exact h k (by simp) _ p hp
  ·exact US r _ (fun k hk=>h k (by simp [hk])) p hp
theorem UT {S:Tr→Nat→List Pl} {e:Int}: ∀(ks:List Tr) (b:Nat),(∀k∈ks,Sh (S k))→ ∀p∈dF S e ks b,p.2.2.1.length≤256
 | [],b,h,p,hp=>by cases hp
 |k::r,b,h,p,hp=>by
  rw [dF]at hp;rcases List.mem_cons.1 hp with rfl|hp
  ·exact mo _ _ _
  rcases List.mem_append.1 hp with hp|hp
  ·exact h k (by simp) _ p hp
  rcases List.mem_cons.1 hp with rfl|hp
  ·exact mo _ _ _
  ·exact UT r _ (fun k hk=>h k (by simp [hk])) p hp
theorem wN {t:Tr} {p:Pl} (d:eb t=1) (f: ∀n (l:List Pl),l.length≤1000000→lU (n+2) l (aE t).1 (aE t).2.1 (aE t).2.2.1 (aE t).2.2.2.1 (aE t).2.2.2.2=some (l++[p]))
  (g: ∀n (l:List Pl),l.length≤1000000→jI (n+2) l (aE t).1 (aE t).2.1 (aE t).2.2.1 (aE t).2.2.2.1 (aE t).2.2.2.2=some (l++[p])):jn t (fun _=>[p]):=by
 refine⟨fun b=>by simp [d],fun l h=>⟨W.succ (W.succ (W.of fun n=>f n l (by omega))),W.succ (W.succ (W.of fun n=>g n l (by omega)))⟩⟩
theorem aCV {t:Tr} (h:fL t) (ay:gZ t): ∃S,jn t S∧Sh S:=by
 induction h with
 |mk h k ih=>
  rename_i t;obtain⟨hl,hk⟩:=ay;obtain⟨S,ak⟩: ∃S:Tr→Nat→List Pl,∀x,x∈dM t→jn x (S x)∧Sh (S x):=by
   have key: ∀x:Tr,∃s:Nat→List Pl,x∈dM t→jn x s∧Sh s:=fun x=>by
    by_cases hx:x∈dM t
    ·obtain⟨s,hs⟩:=ih x hx (hk x hx)
     exact⟨s,fun _=>hs⟩
    ·exact⟨fun _=>[],fun c=>absurd c hx⟩
   obtain⟨S,hS⟩:=Classical.axiomOfChoice key;exact⟨S,hS⟩
  have hS: ∀x,x∈dM t→jn x (S x):=fun x hx=>(ak x hx).1
  have af: ∀x,x∈dM t→Sh (S x):=fun x hx=>(ak x hx).2
  clear ih hk k ak;obtain⟨⟨o,c,s,neg⟩,ks⟩:=t;have az:dM (.mk (o,c,s,neg) ks)=ks:=rfl;rw [az]at hl hS af h;have d:eb (.mk (o,c,s,neg) ks)=1+cw ks:=by rw [eb]
  have f:aE (.mk (o,c,s,neg) ks)=(o,c,s,neg,ks):=rfl;rw [f]at h;dsimp only at h
  have a6: ∀ai:1≤ks.length,∀hc:ks.length=1,∃z,ks=[z]:=fun _ hc=>List.length_eq_one_iff.1 hc
  rcases h with⟨rfl,a,b,rfl,rfl,h0⟩|⟨rfl,rfl,au,h0⟩|⟨ho,rfl,rfl,rfl,aj⟩|⟨ho,rfl,rfl,rfl,aj⟩|⟨ho,rfl,rfl,rfl,h0⟩
  ·have:=List.eq_nil_of_length_eq_zero h0;subst this
   refine⟨_,wN (p:=(1,c,[],false,0,0)) (by rw [d,cw]) (fun n l hl=> ?_) (fun n l hl=> ?_),fun b p hp=>by rw [List.mem_singleton.1 hp];simp⟩
   ·rw [kW,cx (by omega)];rfl
   ·rw [kX,cx (by omega)];rfl
  ·have:=List.eq_nil_of_length_eq_zero h0;subst this
   refine⟨_,wN (p:=(3,0,s,neg,0,0)) (by rw [d,cw]) (fun n l hl=> ?_) (fun n l hl=> ?_),fun b p hp=>by rw [List.mem_singleton.1 hp];exact JQ au.2.1⟩
   ·rw [kW,cx (by omega)];rfl
   ·rw [kX,cx (by omega)];rfl
  ·rcases ho with rfl|rfl
   ·refine⟨fun b=>jm S ks b,⟨fun b=>(by have:=UL ks b hS;rw [d];show(jm S ks b).length+2≤_;omega),fun l hz=>⟨?_, ?_⟩⟩,fun b=>US ks b af⟩
    ·rw [d]at hz
     refine((UM (S:=S) (o:=6) (c:=0) (s:=[]) (neg:=false) (ks:=ks) (by omega) ks 0 l (by rw [List.drop_zero]) (by omega) hS (by omega)).and (W.ge (ks.length+1))).nm fun n ⟨r,q⟩=> ?_
     rw [kW,f];have r:=r n (by omega)
     simp only [Int.reduceBEq,Y,da];rw [show (0:Int)=((0:Nat):Int)from rfl]at*;rw [r];rfl
    ·rw [d]at hz
     refine((UN (S:=S) (ks:=ks) (by omega) ks 0 l (by rw [List.drop_zero]) (by omega) hS (by omega)).and (W.ge (ks.length+1))).nm fun n ⟨r,q⟩=> ?_
     rw [kX,f];have r:=r n (by omega)
     simp only [Int.reduceBEq,Y,da];rw [show (0:Int)=((0:Nat):Int)from rfl]at*;rw [r];rfl
   ·have ai:ks≠ []:=fun e=>by rw [e]at aj;simp at aj
    have hd:ks=ks.dropLast++[ks.getLast ai]:=(List.dropLast_concat_getLast ai).symm;generalize ks.getLast ai=z at hd
    refine⟨fun b=>qO S ks z b,⟨fun b=> ?_,fun l hz=> ?_⟩,fun b p hp=> ?_⟩
    ·have h1:=JT (S:=S) (e:=(JV S ks z b:Int)) ks.dropLast b (fun k hk=>hS k ((List.dropLast_sublist _).subset hk))
     have h2:=(hS z (by rw [hd];simp)).1 (qN S ks b)
     have h3:cw ks=cw ks.dropLast+eb z:=by
      conv=>lhs;rw [hd]
      rw [JW,qf]
     show(qO S ks z b).length+2≤_;rw [qO,List.length_append,d];omega
    ·rw [d]at hz
     obtain⟨p1,p2⟩:=aCU (S:=S) (ks:=ks) (z:=z) hd hS (by omega) l (by omega)
     constructor
     ·refine p1.nm fun n r=> ?_
      rw [kW,f];simp only [Int.reduceBEq,Y,da,r,Z]
     ·refine p2.nm fun n r=> ?_
      rw [kX,f];simp only [Int.reduceBEq,Y,da,r,Z]
    ·have hp:p∈qO S ks z b:=hp
     rw [qO]at hp;rcases List.mem_append.1 hp with hp|hp
     ·exact UT _ _ (fun k hk=>af k ((List.dropLast_sublist _).subset hk)) p hp
     ·exact af z (by rw [hd];simp) _ p hp
  ·obtain⟨z,rfl⟩:=List.length_eq_one_iff.1 aj
   have m:=hS z (by simp)
   have ao:=af z (by simp)
   have u:fN [z] (0:Int)=some (aE z):=lY (ks:=[z]) (i:=0) (by simp)
   rw [qf]at d;rcases ho with rfl|rfl|rfl
   ·refine⟨fun b=>pl 7 ((b+1:Nat):Int) ((b+2+(S z (b+1)).length:Nat):Int)::(S z (b+1)++[pl 6 (b:Int) 0]),⟨fun b=> ?_,fun l hz=> ?_⟩,fun b p hp=>(by
    rcases List.mem_cons.1 hp with rfl|hp
    ·exact mo _ _ _
    rcases List.mem_append.1 hp with hp|hp
    ·exact ao _ p hp
    ·rw [List.mem_singleton.1 hp];exact mo _ _ _)⟩
    ·have:=m.1 (b+1)
     rw [d];simp;omega
    ·rw [d]at hz
     have hb:=m.1 (l.length+1);obtain⟨s,hs⟩: ∃s,s=S z (l.length+1):=⟨_,rfl⟩
     dsimp only
     rw [←hs]at hb ⊢;constructor
     ·have p1:=wM l 7 (by omega)
      have g:=(m.2 (l++[pl 7 0 0]) (by simp;omega)).1
      rw [show (l++[pl 7 0 0]).length=l.length+1 by simp,←hs]at g
      have hr:l++[pl 7 0 0]++s++[((6:Int),(0:Int),([]:O),false,(l.length:Int),(0:Int))]=l++pl 7 0 0::(s++[pl 6 (l.length:Int) 0]):=by simp [pl]
      have hlen:(l++[pl 7 0 0]++s).length=l.length+1+s.length:=by simp;omega
      have j:((l++((pl 7 0 0).1,(pl 7 0 0).2.1,(pl 7 0 0).2.2.1,(pl 7 0 0).2.2.2.1,((l.length+1:Nat):Int),(pl 7 0 0).2.2.2.2.2)::(s++[pl 6 (l.length:Int) 0])).length:Int)=((l.length+2+s.length:Nat):Int):=by simp;omega
      refine(p1.and g).nm fun n ⟨r,q⟩=> ?_
      rw [kW,f];simp only [Int.reduceBEq,Y,da];rw [r,Z,u,Z,q,Z,hlen,cx (by omega),Y,hr,ny,Y,Int.toNat_natCast,jM,Z,mm,ny,Y,jM,Z,mm,jK (by omega),j]
      rfl
     ·have g:=(m.2 (l++[pl 7 ((l.length+1:Nat):Int) 0]) (by simp;omega)).2
      rw [show (l++[pl 7 ((l.length+1:Nat):Int) 0]).length=l.length+1 by simp,←hs]at g
      have hr:l++[pl 7 ((l.length+1:Nat):Int) 0]++s++[((6:Int),(0:Int),([]:O),false,(l.length:Int),(0:Int))]=l++pl 7 ((l.length+1:Nat):Int) 0::(s++[pl 6 (l.length:Int) 0]):=by simp [pl]
      have hlen:(l++[pl 7 ((l.length+1:Nat):Int) 0]++s).length=l.length+1+s.length:=by simp;omega
      have j:((l++pl 7 ((l.length+1:Nat):Int) 0::(s++[pl 6 (l.length:Int) 0])).length:Int)=((l.length+2+s.length:Nat):Int):=by simp;omega
      refine g.nm fun n q=> ?_
      have q:jI n (l++[((7:Int),(0:Int),([]:O),false,((l.length+1:Nat):Int),(0:Int))]) (aE z).1 (aE z).2.1 (aE z).2.2.1 (aE z).2.2.2.1 (aE z).2.2.2.2=some (l++[pl 7 ((l.length+1:Nat):Int) 0]++s):=q;rw [kX,f];simp only [Int.reduceBEq,Y,da];rw [cx (by omega),Y,u,Z,jK (by omega),q,Z,hlen,cx (by omega),Y,hr,ny,Y,Int.toNat_natCast,jM,Z,mm,j]
      rfl
   ·refine⟨fun b=>S z b++[pl 7 (b:Int) ((b+(S z b).length+1:Nat):Int)],⟨fun b=> ?_,fun l hz=> ?_⟩,fun b p hp=>(by
    rcases List.mem_append.1 hp with hp|hp
    ·exact ao _ p hp
    ·rw [List.mem_singleton.1 hp];exact mo _ _ _)⟩
    ·have:=m.1 b
     rw [d];simp;omega
    ·rw [d]at hz
     have hb:=m.1 l.length;have g:=m.2 l (by omega)
     obtain⟨s,hs⟩: ∃s,s=S z l.length:=⟨_,rfl⟩
     dsimp only
     rw [←hs]at hb g ⊢;have hlen:(l++s).length=l.length+s.length:=by simp
     constructor
     ·refine g.1.nm fun n q=> ?_
      rw [kW,f];simp only [Int.reduceBEq,Y,da];rw [u,Z,q,Z,hlen,cx (by omega),Y,jK (by omega),List.append_assoc]
      rfl
     ·refine g.2.nm fun n q=> ?_
      rw [kX,f];simp only [Int.reduceBEq,Y,da];rw [u,Z,q,Z,hlen,cx (by omega),Y,jK (by omega),List.append_assoc]
      rfl
   ·refine⟨fun b=>pl 7 ((b+1:Nat):Int) ((b+1+(S z (b+1)).length:Nat):Int)::S z (b+1),⟨fun b=> ?_,fun l hz=> ?_⟩,fun b p hp=>(by
    rcases List.mem_cons.1 hp with rfl|hp
    ·exact mo _ _ _
    ·exact ao _ p hp)⟩
    ·have:=m.1 (b+1)
     rw [d];simp;omega
    ·rw [d]at hz
     have hb:=m.1 (l.length+1);obtain⟨s,hs⟩: ∃s,s=S z (l.length+1):=⟨_,rfl⟩
     dsimp only
     rw [←hs]at hb ⊢;constructor
     ·have p1:=wM l 7 (by omega)
      have g:=(m.2 (l++[pl 7 0 0]) (by simp;omega)).1
      rw [show (l++[pl 7 0 0]).length=l.length+1 by simp,←hs]at g
      have hr:l++[pl 7 0 0]++s=l++pl 7 0 0::s:=by simp
      have j:((l++((pl 7 0 0).1,(pl 7 0 0).2.1,(pl 7 0 0).2.2.1,(pl 7 0 0).2.2.2.1,((l.length+1:Nat):Int),(pl 7 0 0).2.2.2.2.2)::s).length:Int)=((l.length+1+s.length:Nat):Int):=by simp;omega
      refine(p1.and g).nm fun n ⟨r,q⟩=> ?_
      rw [kW,f];simp only [Int.reduceBEq,Y,da];rw [r,Z,u,Z,q,Z,hr,ny,Y,Int.toNat_natCast,jM,Z,mm,ny,Y,jM,Z,mm,jK (by omega),j]
      rfl
     ·have g:=(m.2 (l++[pl 7 ((l.length+1:Nat):Int) 0]) (by simp;omega)).2
      rw [show (l++[pl 7 ((l.length+1:Nat):Int) 0]).length=l.length+1 by simp,←hs]at g
      have hr:l++[pl 7 ((l.length+1:Nat):Int) 0]++s=l++pl 7 ((l.length+1:Nat):Int) 0::s:=by simp
      have j:((l++pl 7 ((l.length+1:Nat):Int) 0::s).length:Int)=((l.length+1+s.length:Nat):Int):=by simp;omega
      refine g.nm fun n q=> ?_
      have q:jI n (l++[((7:Int),(0:Int),([]:O),false,((l.length+1:Nat):Int),(0:Int))]) (aE z).1 (aE z).2.1 (aE z).2.2.1 (aE z).2.2.2.1 (aE z).2.2.2.2=some (l++[pl 7 ((l.length+1:Nat):Int) 0]++s):=q;rw [kX,f];simp only [Int.reduceBEq,Y,da];rw [cx (by omega),Y,u,Z,jK (by omega),q,Z,hr,ny,Y,Int.toNat_natCast,jM,Z,mm,j]
      rfl
  ·have:=List.eq_nil_of_length_eq_zero h0;subst this
   rcases ho with rfl|rfl|rfl|rfl
   ·refine⟨_,wN (p:=pl 2 0 0) (by rw [d,cw]) (fun n l hl=> ?_) (fun n l hl=> ?_),fun b p hp=>by rw [List.mem_singleton.1 hp];exact mo _ _ _⟩
    ·rw [kW,f]
     simp only [Int.reduceBEq,Y,da];rw [Bq,cx (by omega)];rfl
    ·rw [kX,cx (by omega)];rfl
   ·refine⟨_,wN (p:=pl 4 0 0) (by rw [d,cw]) (fun n l hl=> ?_) (fun n l hl=> ?_),fun b p hp=>by rw [List.mem_singleton.1 hp];exact mo _ _ _⟩
    ·rw [kW,f]
     simp only [Int.reduceBEq,Y,da];rw [Bq,cx (by omega)];rfl
    ·rw [kX,cx (by omega)];rfl
   ·refine⟨_,wN (p:=pl 5 0 0) (by rw [d,cw]) (fun n l hl=> ?_) (fun n l hl=> ?_),fun b p hp=>by rw [List.mem_singleton.1 hp];exact mo _ _ _⟩
    ·rw [kW,f]
     simp only [Int.reduceBEq,Y,da];rw [Bq,cx (by omega)];rfl
    ·rw [kX,cx (by omega)];rfl
   ·refine⟨fun _=>[],⟨fun b=>(by rw [d];simp;omega),fun l hz=>⟨W.succ (W.of fun n=> ?_),W.succ (W.of fun n=> ?_)⟩⟩,fun b p hp=>by cases hp⟩
    ·rw [kW,f,List.append_nil];rfl
    ·rw [kX,f,List.append_nil];rfl
def iR (p:Pl) (n:Int) (last:Prop):Prop:=
 (last↔p.1=8)∧(p.1≠1→p.2.1=0)∧(p.1≠3→p.2.2.1=[]∧p.2.2.2.1=false)∧
 ((p.1=6∧In p.2.2.2.2.1 0 (n-1)∧p.2.2.2.2.2=0)∨(p.1=7∧In p.2.2.2.2.1 0 (n-1)∧In p.2.2.2.2.2 0 (n-1))∨(p.1=1∧In p.2.1 0 255∧p.2.2.2.2.1=0∧p.2.2.2.2.2=0)∨
  ((p.1=2∨p.1=3∨p.1=4∨p.1=5∨p.1=8)∧p.2.2.2.2.1=0∧p.2.2.2.2.2=0))
theorem aCW:W fun n=> ∀x lo hi:Int,cQ n x lo hi=some (bo (In x lo hi)):=W.succ (W.of fun n x lo hi=>by
 obtain⟨N,h⟩:=dh x lo hi;rw [←h (max N (n+1)) (Nat.le_max_left _ _)];obtain⟨q,b⟩: ∃q,max N (n+1)=q+1:=⟨max N (n+1)-1,by omega⟩
 rw [b,oP,oP])
def pa (p:Pl) (n:Int):Prop:=
 In p.1 1 8∧((In p.2.1 0 255∧p.1=1)∨p.2.1=0)∧(p.1=3∨(p.2.2.1=[]∧p.2.2.2.1=false))∧
 (((p.1=6∨p.1=7)∧In p.2.2.2.2.1 0 (n-1))∨(p.2.2.2.2.1=0∧p.1≠6∧p.1≠7))∧((p.1=7∧In p.2.2.2.2.2 0 (n-1))∨(p.2.2.2.2.2=0∧p.1≠7))
theorem aCX (p:Pl) (n:Int) (last:Prop):(pa p n∧(p.1=8↔last))↔iR p n last:=by
 obtain⟨o,c,s,neg,a,b⟩:=p;unfold pa iR;dsimp only
 by_cases h:In o 1 8
 ·have d:o=1∨o=2∨o=3∨o=4∨o=5∨o=6∨o=7∨o=8:=by unfold In at h;omega
  have f:c=0→In c 0 255:=fun e=>by unfold In;omega
  rcases d with rfl|rfl|rfl|rfl|rfl|rfl|rfl|rfl
  all_goals simp [h]
  all_goals grind
 ·have d:o≠1∧o≠2∧o≠3∧o≠4∧o≠5∧o≠6∧o≠7∧o≠8:=by unfold In at h;omega
  simp [h,d]
theorem aCY (p:Pl) (n0:Int) (f:1≤n0∧n0≤1048576):W fun n=>zC n p.1 p.2.1 p.2.2.1 p.2.2.2.1 p.2.2.2.2.1 p.2.2.2.2.2 n0=some (bo (pa p n0)):=by
 obtain⟨o,c,s,neg,a,b⟩:=p;refine UJ.nm fun n e=> ?_
 have hw:wrap .i64 (n0-1)=n0-1:=by rw [IntKind.wrap_i64];omega
 rw [arG,hw];simp only [e,Z];rw [show (!neg)=bo (neg=false) by cases neg<;>simp [rI,rJ]]
 simp only [bk,cq,iY,kG,xR,Z];refine cE ?_
 unfold pa;dsimp only
 by_cases h:In o 1 8
 ·have d:o=1∨o=2∨o=3∨o=4∨o=5∨o=6∨o=7∨o=8:=by unfold In at h;omega
  rcases d with rfl|rfl|rfl|rfl|rfl|rfl|rfl|rfl
  all_goals simp [h]
  all_goals grind
 ·simp [h]
theorem aCZ (p:Pl) (n0:Int) (last:Bool) (g:1≤n0∧n0≤1048576):W fun n=>AK n p.1 p.2.1 p.2.2.1 p.2.2.2.1 p.2.2.2.2.1 p.2.2.2.2.2 n0 last=some (bo (iR p n0 (last=true))):=by
 obtain⟨o,c,s,neg,a,b⟩:=p;refine aCW.nm fun n e=> ?_
 have hw:wrap .i64 (n0-1)=n0-1:=by rw [IntKind.wrap_i64];omega
 rw [awL,hw];simp only [e,Z];rw [show (!(last==(o==(8:Int))))=bo (¬((last=true)↔o=8)) by
  by_cases h:o=8
  ·subst h;cases last<;>simp [rI,rJ]
  ·have z:(o==(8:Int))=false:=by simpa using h
   rw [z];cases last<;>simp [h,rI,rJ]]
 cases neg;all_goals (
  have key:(some false:Option Bool)=some (bo False):=by rw [rJ]
  have d:(some true:Option Bool)=some (bo True):=by rw [rI]
  simp only [bk,cq,bz,iY,kG,xR,cT,Z];simp only [key,d,xR,Z];refine cE ?_
  unfold iR;dsimp only
  by_cases h:In o 1 8
  ·have f:o=1∨o=2∨o=3∨o=4∨o=5∨o=6∨o=7∨o=8:=by unfold In at h;omega
   rcases f with rfl|rfl|rfl|rfl|rfl|rfl|rfl|rfl
   all_goals simp
   all_goals grind
  ·have f:o≠1∧o≠2∧o≠3∧o≠4∧o≠5∧o≠6∧o≠7∧o≠8:=by unfold In at h;omega
   simp [f])
def nz (l:List Pl):Prop:=In l.length 1 400∧ ∀i,i<l.length→ ∀h:i<l.length,iR l[i] l.length (i=l.length-1)
theorem UU {l:List Pl} {i:Nat} (h:i<l.length) (b:l.length≤1048576):((i:Int)==wrap .i64 ((l.length:Int)-1))=decide (i=l.length-1):=by
 rw [show wrap .i64 ((l.length:Int)-1)=((l.length-1:Nat):Int) by rw [IntKind.wrap_i64];omega]
 by_cases e:i=l.length-1
 ·rw [ez e,←e];simp
 ·rw [hJ e];simp;omega
theorem UW (l:List Pl) (f:l.length≤1048576):W fun n=>Gw n l=some (bo (nz l)):=by
 have g:W fun n=> ∀p∈l,zC n p.1 p.2.1 p.2.2.1 p.2.2.2.1 p.2.2.2.2.1 p.2.2.2.2.2 (l.length:Int)=some (bo (pa p l.length)):=W.all l fun p hp=>aCY p l.length (by have:=List.length_pos_of_mem hp;omega)
 have h:=kH (len:=l.length) f (q:=fun i=> ∀h:i<l.length,iR l[i] l.length (i=l.length-1)) (r:=false) (b:=(l.length:Int)) (L:=fun n m i=>zB n m i (l.length:Int) l) (g.mono fun n h m i hi=>by
  have d:(∀h:i<l.length,iR l[i] l.length (i=l.length-1))↔iR l[i] l.length (i=l.length-1):=⟨fun k=>k hi,fun k _=>k⟩
  rw [QM,bu hi,Y,bj hi,Z,h _ (List.getElem_mem hi),Z,UU hi f,propext d,←propext (aCX l[i] l.length (i=l.length-1)),bz];by_cases a:pa l[i] l.length
  ·rw [az (P:= ¬pa l[i] l.length) (fun k=>k a),da,Z]
   by_cases b:l[i].1=8
   ·by_cases c:i=l.length-1
    ·rw [aB ⟨a,⟨fun _=>c,fun _=>b⟩⟩,ez c,b];rfl
    ·rw [az (fun k=>c (k.2.1 b)),hJ c,b];rfl
   ·have z:(l[i].1==(8:Int))=false:=by simpa using b
    by_cases c:i=l.length-1
    ·rw [az (fun k=>b (k.2.2 c)),ez c,z];rfl
    ·rw [aB ⟨a,⟨fun k=>absurd k b,fun k=>absurd k c⟩⟩,hJ c,z];rfl
  ·rw [aB (P:= ¬pa l[i] l.length) a,Y,az (fun k=>a k.1)];rfl) (fun n m=>by rw [QM,cp];rfl)
 refine(h.and (cR l.length 1 400)).nm fun n ⟨d,j⟩=> ?_
 rw [arF,d,Z];unfold nz;by_cases a: ∀i,i<l.length→ ∀h:i<l.length,iR l[i] l.length (i=l.length-1)
 ·rw [aB a,Y,cO,j,Z]
  refine cE ⟨fun k=>⟨k,a⟩,fun k=>k.1⟩
 ·rw [az a,da,uk,az (fun k=>a k.2)]
theorem JX (l:List Pl) (f:l.length≤1048576):W fun n=>AI n l=some (bo (nz l)):=by
 have g:W fun n=> ∀i (hi:i<l.length),AK n l[i].1 l[i].2.1 l[i].2.2.1 l[i].2.2.2.1 l[i].2.2.2.2.1 l[i].2.2.2.2.2 (l.length:Int) (decide (i=l.length-1))=some (bo (iR l[i] l.length (i=l.length-1))):=W.lt fun i hi=>by
  have:=aCZ l[i] l.length (decide (i=l.length-1)) (by omega)
  rw [show ((decide (i=l.length-1))=true)=(i=l.length-1) by simp]at this
  exact this
 have h:=kH (len:=l.length) f (q:=fun i=> ∀h:i<l.length,iR l[i] l.length (i=l.length-1)) (r:=false) (b:=()) (L:=fun n m i=>AJ n m i l l (l.length:Int)) (g.mono fun n h m i hi=>by
  have d:(∀h:i<l.length,iR l[i] l.length (i=l.length-1))↔iR l[i] l.length (i=l.length-1):=⟨fun k=>k hi,fun k _=>k⟩
  rw [RJ,bu hi,Y,bj hi,Z,UU hi f,h i hi,Z,propext d];cases bo (iR l[i] l.length (i=l.length-1))<;>rfl) (fun n m=>by rw [RJ,cp];rfl)
 refine(h.and (dh l.length 1 400)).nm fun n ⟨d,j⟩=> ?_
 rw [awK,j,Z];unfold nz;by_cases c:In l.length 1 400
 ·rw [aB c]
  simp only [Bool.not_true,da];rw [d,Z];by_cases a: ∀i,i<l.length→ ∀h:i<l.length,iR l[i] l.length (i=l.length-1)
  ·rw [aB a,Y,cO,aB ⟨c,a⟩]
  ·rw [az a,da,uk,az (fun k=>a k.2)]
 ·rw [az c,az (fun k=>c k.1)];rfl
theorem JY (n:Nat) (x lo hi:Int):cQ (n+1) x lo hi=some (bo (In x lo hi)):=by
 obtain⟨N,h⟩:=dh x lo hi;rw [←h (max N (n+1)) (Nat.le_max_left _ _)];obtain⟨q,b⟩: ∃q,max N (n+1)=q+1:=⟨max N (n+1)-1,by omega⟩
 rw [b,oP,oP]
theorem sX (M:List Bool) (k i:Nat) (hk:k<M.length):(M.set k true).getD i false=(decide (i=k)||M.getD i false):=by
 simp only [List.getD_eq_getElem?_getD,List.getElem?_set]
 by_cases h:k=i
 ·subst h;simp [hk]
 ·rw [if_neg h,hJ (fun e=>h e.symm),Bool.false_or]
theorem aDa {M:List Bool} {k:Nat} (hk:k<M.length) (h:M.getD k false=false):(M.set k true).count false+1=M.count false:=by
 have e:M[k]=false:=by rw [←h,List.getD_eq_getElem?_getD,List.getElem?_eq_getElem hk];rfl
 rw [List.count_set hk,e];have:0<M.count false:=List.count_pos_iff.2 (by rw [←e];exact List.getElem_mem hk)
 simp;omega
theorem BX {M:List Bool} {k:Nat} (h:k<M.length):aM M k=some (M.getD k false):=by
 show M[k]? =_;rw [List.getD_eq_getElem?_getD,List.getElem?_eq_getElem h];rfl
theorem aDb (n m:Nat) (b e:Bool) (l:List Pl) (M:List Bool) (t:List Int) (k:Nat) (z:M.length=l.length) (hl:l.length≤400) (ht:t.length≤3900000) (hk:k<l.length) (r:M.getD k false=false):
  gg n (m+1) b e l M (t++[(k:Int)])=gg n m b e l (M.set k true) (t++ef l[k] k b e):=by
 have hlen:((t++[(k:Int)]).length:Int)=((t.length+1:Nat):Int):=by simp
 have hw:wrap .i64 (((t++[(k:Int)]).length:Int)-1)=(t.length:Int):=by rw [hlen,IntKind.wrap_i64];omega
 have f:aM (t++[(k:Int)]) (Int.toNat (t.length:Int))=some (k:Int):=by rw [Int.toNat_natCast];exact jM t _ []
 have g:(t++[(k:Int)]).take (Int.toNat (t.length:Int))=t:=by simp
 have d:Nat.ble (Int.toNat (t.length:Int)) (t++[(k:Int)]).length=true:=Nat.ble_eq_true_of_le (by simp)
 rw [IN,hw,f,g,d,hlen,ez (show (0:Int)<((t.length+1:Nat):Int) by omega),ez (show (0:Int)≤(t.length:Int)∧(t.length:Int)<((t.length+1:Nat):Int) by omega),ez (show (0:Int)≤(t.length:Int)∧(t.length:Int)≤((t.length+1:Nat):Int) by omega),cx (show t.length+1≤4000000 by omega),cx (show t.length+2≤4000000 by omega),Y,Y,Z]
 simp only [Y];rw [hJ (show ¬(l.length:Int)≤(k:Int) by omega),hJ (show ¬(k:Int)<0 by omega),ez (show (0:Int)≤(k:Int)∧(k:Int)<(M.length:Int) by omega),Int.toNat_natCast,BX (show k<M.length by omega),r,bj hk,dx hk (by omega)]
 simp only [Y,da,Z];generalize l[k]=p
 unfold ef;by_cases h:p.1=6
 ·rw [h,if_pos rfl];rfl
 have s:(p.1==(6:Int))=false:=by simpa using h
 rw [s,da,if_neg h];by_cases i:p.1=7
 ·rw [i,if_pos rfl];rfl
 have u:(p.1==(7:Int))=false:=by simpa using i
 rw [u,da,if_neg i];by_cases j:p.1=4
 ·rw [j,if_pos rfl]
  cases b
  ·rw [show t++cond false [(k:Int)+1] []=t from List.append_nil t];rfl
  ·rfl
 have z4:(p.1==(4:Int))=false:=by simpa using j
 rw [z4,da,if_neg j];by_cases q:p.1=5
 ·rw [q,if_pos rfl]
  cases e
  ·rw [show t++cond false [(k:Int)+1] []=t from List.append_nil t];rfl
  ·rfl
 have z5:(p.1==(5:Int))=false:=by simpa using q
 rw [z5,da,if_neg q,List.append_nil]
theorem aDc (n m:Nat) (b e:Bool) (l:List Pl) (M:List Bool) (t:List Int) (x:Int) (p:M.length=l.length) (_:l.length≤400) (r:t.length≤3900000) (j: ∀k:Nat,x=(k:Int)→k<l.length→M.getD k false=true):
  gg n (m+1) b e l M (t++[x])=gg n m b e l M t:=by
 have hlen:((t++[x]).length:Int)=((t.length+1:Nat):Int):=by simp
 have hw:wrap .i64 (((t++[x]).length:Int)-1)=(t.length:Int):=by rw [hlen,IntKind.wrap_i64];omega
 have f:aM (t++[x]) (Int.toNat (t.length:Int))=some x:=by rw [Int.toNat_natCast];exact jM t x []
 have g:(t++[x]).take (Int.toNat (t.length:Int))=t:=by simp
 have d:Nat.ble (Int.toNat (t.length:Int)) (t++[x]).length=true:=Nat.ble_eq_true_of_le (by simp)
 rw [IN,hw,f,g,d,hlen,ez (show (0:Int)<((t.length+1:Nat):Int) by omega),ez (show (0:Int)≤(t.length:Int)∧(t.length:Int)<((t.length+1:Nat):Int) by omega),ez (show (0:Int)≤(t.length:Int)∧(t.length:Int)≤((t.length+1:Nat):Int) by omega),Y,Y,Z]
 simp only [Y];by_cases h:(l.length:Int)≤x
 ·rw [ez h,Y]
 rw [hJ h,da];by_cases i:x<0
 ·rw [ez i,Y]
 rw [hJ i,da];obtain⟨k,rfl⟩: ∃k:Nat,x=(k:Int):=⟨x.toNat,by omega⟩
 have hk:k<l.length:=by omega
 rw [ez (show (0:Int)≤(k:Int)∧(k:Int)<(M.length:Int) by omega),Int.toNat_natCast,BX (show k<M.length by omega),j k rfl hk]
 rfl
theorem aDd (n m:Nat) (b e:Bool) (l:List Pl) (M:List Bool):gg n (m+1) b e l M []=some (.inl M):=by
 rw [IN];rfl
theorem aDe {l:List Pl} {b e:Bool} (hl:l.length≤400) {R:Nat→Prop} (hR: ∀k,(h:k<l.length)→R k→ ∀j:Nat,(j:Int)∈ef l[k] k b e→j<l.length→R j):
  ∀(f:Nat) (M:List Bool) (t:List Int),M.length=l.length→t.length+3*M.count false≤f→f≤1000000→
  (∀i,i<l.length→M.getD i false=true→R i)→(∀j:Nat,(j:Int)∈t→j<l.length→R j)→
  (∀k,(h:k<l.length)→M.getD k false=true→ ∀j:Nat,(j:Int)∈ef l[k] k b e→j<l.length→M.getD j false=true∨(j:Int)∈t)→
  ∃d,(∀n m,f<m→gg n m b e l M t=some (.inl d))∧d.length=l.length∧(∀i,i<l.length→M.getD i false=true→d.getD i false=true)∧(∀j:Nat,(j:Int)∈t→j<l.length→d.getD j false=true)∧
   (∀i,i<l.length→d.getD i false=true→R i)∧(∀k,(h:k<l.length)→d.getD k false=true→ ∀j:Nat,(j:Int)∈ef l[k] k b e→j<l.length→d.getD j false=true):=by
 intro f;have stop: ∀(f:Nat) (M:List Bool),M.length=l.length→(∀i,i<l.length→M.getD i false=true→R i)→(∀k,(h:k<l.length)→M.getD k false=true→ ∀j:Nat,(j:Int)∈ef l[k] k b e→j<l.length→M.getD j false=true∨(j:Int)∈([]:List Int))→
  ∃d,(∀n m,f<m→gg n m b e l M []=some (.inl d))∧d.length=l.length∧(∀i,i<l.length→M.getD i false=true→d.getD i false=true)∧(∀j:Nat,(j:Int)∈([]:List Int)→j<l.length→d.getD j false=true)∧
   (∀i,i<l.length→d.getD i false=true→R i)∧(∀k,(h:k<l.length)→d.getD k false=true→ ∀j:Nat,(j:Int)∈ef l[k] k b e→j<l.length→d.getD j false=true):=fun f M g p r=>by
  refine⟨M,fun n m hm=> ?_,g,fun i _ h=>h,fun j h=>(by cases h),p,fun k h hk j hj bZ=> ?_⟩
  ·obtain⟨m,rfl⟩: ∃q,m=q+1:=⟨m-1,by omega⟩
   exact aDd _ _ _ _ _ _
  ·rcases r k h hk j hj bZ with h|h
   ·exact h
   ·cases h
 induction f with
 |zero=>
  intro M t g hf _ p z r;have:t=[]:=List.eq_nil_of_length_eq_zero (by omega)
  subst this;exact stop 0 M g p r
 |succ f ih=>
  intro M t g hf ar p z r;rcases List.eq_nil_or_concat t with rfl|⟨t,x,rfl⟩
  ·exact stop (f+1) M g p r
  rw [List.concat_eq_append]at*;simp only [List.length_append,List.length_singleton]at hf;by_cases h: ∃k:Nat,x=(k:Int)∧k<l.length∧M.getD k false=false
  ·obtain⟨k,rfl,hk,hg⟩:=h
   have hu:=aDa (M:=M) (k:=k) (by omega) hg
   have hn:=YT l[k] k b e;have s:R k:=z k (by simp) hk
   obtain⟨d,e1,e2,u,e4,e5,e6⟩:=ih (M.set k true) (t++ef l[k] k b e) (by simp [g]) (by rw [List.length_append];omega) (by omega)
    (fun i hi hm=>by
     rw [sX M k i (by omega)]at hm
     rcases Bool.or_eq_true_iff.1 hm with h|h
     ·rw [of_decide_eq_true h];exact s
     ·exact p i hi h)
    (fun j hj bZ=>by
     rcases List.mem_append.1 hj with hj|hj
     ·exact z j (by simp [hj]) bZ
     ·exact hR k hk s j hj bZ)
    (fun q hq hm j hj bZ=>by
     rw [sX M k q (by omega)]at hm
     rw [sX M k j (by omega)]
     rcases Bool.or_eq_true_iff.1 hm with h|h
     ·have:=of_decide_eq_true h
      subst this;exact .inr (List.mem_append_right _ hj)
     ·rcases r q hq h j hj bZ with h|h
      ·rw [h];simp
      ·rcases List.mem_append.1 h with h|h
       ·exact .inr (List.mem_append_left _ h)
       ·left
        have:j=k:=by have:=List.mem_singleton.1 h;omega
        rw [ez this];rfl)
   refine⟨d,fun n m hm=> ?_,e2,fun i hi hm=>u i hi (by rw [sX M k i (by omega),hm];simp),fun j hj bZ=> ?_,e5,e6⟩
   ·obtain⟨m,rfl⟩: ∃q,m=q+1:=⟨m-1,by omega⟩
    rw [aDb n m b e l M t k g hl (by omega) hk hg]
    exact e1 n m (by omega)
   rcases List.mem_append.1 hj with hj|hj
   ·exact e4 j (List.mem_append_left _ hj) bZ
   ·have:j=k:=by have:=List.mem_singleton.1 hj;omega
    subst this;exact u j bZ (by rw [sX M j j (by omega)];simp)
  ·have hx: ∀j:Nat,x=(j:Int)→j<l.length→M.getD j false=true:=fun j hj bZ=>by
    cases e:M.getD j false
    ·exact absurd ⟨j,hj,bZ,e⟩ h
    ·rfl
   obtain⟨d,e1,e2,u,e4,e5,e6⟩:=ih M t g (by omega) (by omega) p (fun j hj bZ=>z j (List.mem_append_left _ hj) bZ) (fun q hq hm j hj bZ=>by
    rcases r q hq hm j hj bZ with h|h
    ·exact .inl h
    ·rcases List.mem_append.1 h with h|h
     ·exact .inr h
     ·exact .inl (hx j (List.mem_singleton.1 h).symm bZ))
   refine⟨d,fun n m hm=> ?_,e2,u,fun j hj bZ=> ?_,e5,e6⟩
   ·obtain⟨m,rfl⟩: ∃q,m=q+1:=⟨m-1,by omega⟩
    rw [aDc n m b e l M t x g hl (by omega) hx]
    exact e1 n m (by omega)
   rcases List.mem_append.1 hj with hj|hj
   ·exact e4 j hj bZ
   ·exact u j bZ (hx j (List.mem_singleton.1 hj).symm bZ)
def Mk (l:List Pl) (b e:Bool) (at0:List Int) (M:List Bool):Prop:=
 M.length=l.length∧(∀i,i<l.length→M.getD i false=true→kK l at0 b e i)∧(∀k,(h:k<l.length)→M.getD k false=true→ ∀j:Nat,(j:Int)∈ef l[k] k b e→j<l.length→M.getD j false=true)
theorem aDf {l:List Pl} {b e:Bool} {at0:List Int} (g:l.length≤400) {M:List Bool} (f:Mk l b e at0 M) {x:Int} (m:x∈at0): ∃d,Mk l b e at0 d∧(∀i,i<l.length→M.getD i false=true→d.getD i false=true)∧(∀j:Nat,x=(j:Int)→j<l.length→d.getD j false=true)∧
  ∀n,2000≤n→Gx n l M x b e=some d:=by
 have p:M.count false≤M.length:=List.count_le_length;have r:=f.1;obtain⟨d,s,t,u,z,e5,e6⟩:=aDe (l:=l) (b:=b) (e:=e) g (R:=kK l at0 b e) (fun k h hk j hj bZ=>.step hk h hj bZ) 1201 M [x] f.1 (by simp only [List.length_singleton];omega) (by omega) f.2.1
  (fun j hj bZ=>.base (by rw [List.mem_singleton.1 hj];exact m) bZ) (fun k h hk j hj bZ=>.inl (f.2.2 k h hk j hj bZ))
 refine⟨d,⟨t,e5,e6⟩,u,fun j hj bZ=>z j (by rw [hj];simp) bZ,fun n hn=> ?_⟩
 obtain⟨n,rfl⟩: ∃q,n=q+1:=⟨n-1,by omega⟩
 rw [arI,s n n (by omega)];rfl
theorem UX {l:List Pl} {b e:Bool} {at0:List Int} (k:l.length≤400) (s:at0.length≤1048576): ∀(r:List Int) (i:Nat) (M:List Bool),at0.drop i=r→Mk l b e at0 M→(∀j:Nat,(j:Int)∈at0.take i→j<l.length→M.getD j false=true)→
  ∃d,Mk l b e at0 d∧(∀j:Nat,(j:Int)∈at0→j<l.length→d.getD j false=true)∧ ∀n m,2000≤n→r.length<m→zD n m (i:Int) e b at0 M l=some (.inl d)
 | [],i,M,hd,f,g=>by
  have t:at0.length≤i:=List.drop_eq_nil_iff.1 hd;rw [List.take_of_length_le t]at g;refine⟨M,f,g,fun n m _ hm=> ?_⟩
  obtain⟨m,rfl⟩: ∃q,m=q+1:=⟨m-1,by simp at hm;omega⟩
  rw [QN,hJ (by omega),da]
 |x::r,i,M,hd,f,g=>by
  have hi:i<at0.length:=by
   by_cases c:i<at0.length
   ·exact c
   ·rw [List.drop_of_length_le (by omega)]at hd;cases hd
  rw [List.drop_eq_getElem_cons hi]at hd;obtain⟨h,u⟩:=List.cons.inj hd;obtain⟨z,c1,c2,c3,c4⟩:=aDf k f (x:=x) (by rw [←h];exact List.getElem_mem hi)
  obtain⟨d,d1,d2,d3⟩:=UX k s r (i+1) z u c1 (fun j hj bZ=>by
   rw [xN hi,List.mem_append]at hj;rcases hj with hj|hj
   ·exact c2 j bZ (g j hj bZ)
   ·exact c3 j (by rw [List.mem_singleton.1 hj,h]) bZ)
  refine⟨d,d1,d2,fun n m p hm=> ?_⟩
  obtain⟨m,rfl⟩: ∃q,m=q+1:=⟨m-1,by simp at hm;omega⟩
  rw [QN,bu hi,Y,bj hi,Z,h,c4 n p,Z,c1.1,f.1,Nat.beq_refl,Y,dx hi (by omega)]
  exact d3 n m p (by simpa using hm)
theorem JZ (n:Nat) (M:List Bool) (g:M.length≤1048576): ∀k m (i:Nat) (out:List Int),M.length-i=k→k<m→i≤M.length→out=((List.range i).filter fun j=>M.getD j false).map Int.ofNat→
  vC n m (i:Int) out M=some (.inl (((List.range M.length).filter fun j=>M.getD j false).map Int.ofNat))
 |k,0,i,out,e,hm,hi,d=>by omega
 |k,m+1,i,out,e,hm,hi,d=>by
  rw [arK];by_cases h:i<M.length
  ·have p:out.length≤i:=by
    rw [d,List.length_map];have:=List.length_filter_le (fun j=>M.getD j false) (List.range i)
    rwa [List.length_range]at this
   have q:M[i]=M.getD i false:=by rw [List.getD_eq_getElem?_getD,List.getElem?_eq_getElem h];rfl
   rw [bu h,Y,bj h,Z,q,dx h (by omega),cx (by omega)]
   have f:((List.range (i+1)).filter fun j=>M.getD j false).map Int.ofNat=out++cond (M.getD i false) [(i:Int)] []:=by
    rw [List.range_succ,List.filter_append,List.map_append,←d];cases b:M.getD i false
    ·simp only [List.filter_cons,List.filter_nil,b];simp
    ·simp only [List.filter_cons,List.filter_nil,b];simp
   cases b:M.getD i false
   ·rw [b,da,List.append_nil]at f
    rw [da];exact JZ n M g _ m (i+1) out rfl (by omega) (by omega) f.symm
   ·rw [b,Y]at f
    rw [Y,Y];exact JZ n M g _ m (i+1) _ rfl (by omega) (by omega) f.symm
  ·have:i=M.length:=by omega
   rw [hJ (by omega),da,d,this]
theorem UY (l:List Pl) (at0:List Int) (b e:Bool) (g:l.length≤400) (m:at0.length≤1048576):W fun n=>sf n l at0 b e=some (fM l at0 b e):=by
 have p:Mk l b e at0 (List.replicate l.length false):=by
  have f: ∀i,(List.replicate l.length false).getD i false=false:=fun i=>by
   rw [List.getD_eq_getElem?_getD,List.getElem?_replicate];split<;>rfl
  refine⟨List.length_replicate,fun i hi h=> ?_,fun k h hk=> ?_⟩
  ·rw [f]at h;cases h
  ·rw [f]at hk;cases hk
 obtain⟨M,d1,d2,d3⟩:=UX (b:=b) (e:=e) g m at0 0 (List.replicate l.length false) (by rw [List.drop_zero]) p (fun j hj=>by simp at hj)
 have d:=d1.1;refine(W.ge (at0.length+3000)).nm fun n r=> ?_
 obtain⟨n,rfl⟩: ∃q,n=q+1:=⟨n-1,by omega⟩
 rw [arH,Int.toNat_natCast,ez (show (0:Int)≤(l.length:Int)∧(l.length:Int)≤(l.length:Int)∧(l.length:Int)≤(big:Int) by unfold big;omega),Y,show(0:Int)=((0:Nat):Int)from rfl,d3 (n+1) (n+1) (by omega) (by omega),Z,cO]
 rw [arJ,show(0:Int)=((0:Nat):Int)from rfl,JZ n M (by omega) _ n 0 [] rfl (by omega) (by omega) (by simp),Z,cO,Z]
 congr 1
 unfold fM;congr 1
 rw [d];refine List.filter_congr fun i hi=> ?_
 have hi:=List.mem_range.1 hi;have hm:=NM (l:=l) (at0:=at0) (b:=b) (e:=e) (M:=fun i=>M.getD i false=true) d1.2.1 d2 d1.2.2 hi
 rw [←propext hm,←mN]
def IV (l:List Pl) (R:Nat→Prop) (M:List Bool) (out:List Int):Prop:=
 M.length=l.length∧(∀k,k<l.length→(M.getD k false=true↔(k:Int)∈out))∧out.Nodup∧ ∀x∈out,∃k:Nat,x=(k:Int)∧k<l.length∧R k
theorem BY {l:List Pl} {R:Nat→Prop} {M:List Bool} {out:List Int} (h:IV l R M out):out.length≤l.length:=by
 have:=List.Nodup.length_le_of_subset (l₂:=(List.range l.length).map Int.ofNat) h.2.2.1 (fun x b=>by
  obtain⟨k,rfl,hk, -⟩:=h.2.2.2 x b;exact List.mem_map.2 ⟨k,List.mem_range.2 hk,rfl⟩)
 simpa using this
theorem BZ {l:List Pl} (b:l.length≤400) (d:0<l.length):wrap .i64 ((l.length:Int)-1)=((l.length-1:Nat):Int):=by rw [IntKind.wrap_i64];omega
theorem Ca {l:List Pl} {R:Nat→Prop} (u:l.length≤400) {M:List Bool} {out:List Int} (h:IV l R M out) (x:Int) (hx: ∀k:Nat,x=(k:Int)→k<l.length→R k):
  ∃z d,IV l R z d∧(∃s,d=out++s)∧(∀k:Nat,x=(k:Int)→k<l.length→(k:Int)∈d)∧ ∀n,ji (n+2) l M out x=some (l,z,d):=by
 have hlen:=BY h;obtain⟨p,g,q,r⟩:=h;by_cases c: ∃k:Nat,x=(k:Int)∧k<l.length
 ·obtain⟨k,rfl,hk⟩:=c
  have f:In (k:Int) 0 (wrap .i64 ((l.length:Int)-1)):=by rw [BZ u (by omega)];unfold In;omega
  have hd:decide ((0:Int)≤(k:Int)∧(k:Int)<(M.length:Int))=true:=ez (by omega)
  cases m:M.getD k false
  ·have t:(k:Int)∉out:=fun hm=>by
    have:=(g k hk).2 hm;rw [m]at this;cases this
   refine⟨M.set k true,out++[(k:Int)],⟨by simp [p],fun i hi=> ?_, ?_,fun y hy=> ?_⟩,⟨[(k:Int)],rfl⟩,fun j hj _=>by rw [←hj];simp,fun n=> ?_⟩
   ·rw [sX M k i (by omega),List.mem_append,List.mem_singleton,Bool.or_eq_true_iff,g i hi,decide_eq_true_eq]
    constructor
    ·rintro(h|h)
     ·exact .inr (by omega)
     ·exact .inl h
    ·rintro(h|h)
     ·exact .inr h
     ·exact .inl (by omega)
   ·rw [List.nodup_append]
    exact⟨q,by simp,fun a ha b hb=>by rw [List.mem_singleton.1 hb];rintro rfl;exact t ha⟩
   ·rcases List.mem_append.1 hy with hy|hy
    ·exact r y hy
    ·exact⟨k,List.mem_singleton.1 hy,hk,hx k rfl hk⟩
   ·rw [IY,JY,aB f,Z,Y,hd,Y,Int.toNat_natCast,BX (by omega),m]
    simp only [Z,Bool.not_false,Y];rw [cx (by omega)];rfl
  ·refine⟨M,out,⟨p,g,q,r⟩,⟨[],by simp⟩,fun j hj bZ=>(g j bZ).1 (by rw [show j=k by omega];exact m),fun n=> ?_⟩
   rw [IY,JY,aB f,Z,Y,hd,Y,Int.toNat_natCast,BX (by omega),m];rfl
 ·have f: ¬In x 0 (wrap .i64 ((l.length:Int)-1)):=fun k=>by
   have k1:=k.1;have k2:=k.2;by_cases h0:0<l.length
   ·rw [BZ u h0]at k2
    exact c ⟨x.toNat,by omega,by omega⟩
   ·have e0:l.length=0:=by omega
    rw [e0,IntKind.wrap_i64]at k2;omega
  refine⟨M,out,⟨p,g,q,r⟩,⟨[],by simp⟩,fun j hj bZ=>absurd ⟨j,hj,bZ⟩ c,fun n=> ?_⟩
  rw [IY,JY,az f];rfl
theorem UZ {l:List Pl} {R:Nat→Prop} {b e:Bool} {at0:List Int} (z:l.length≤400) (ha:at0.length≤1048576) (hR: ∀k:Nat,(k:Int)∈at0→k<l.length→R k): ∀(r:List Int) (i:Nat) (M:List Bool) (out:List Int),at0.drop i=r→IV l R M out→(∀j:Nat,(j:Int)∈at0.take i→j<l.length→(j:Int)∈out)→
  ∃g d,IV l R g d∧(∀j:Nat,(j:Int)∈at0→j<l.length→(j:Int)∈d)∧ ∀n m,2≤n→r.length<m→AO n m l M out (i:Int) at0 b e (at0.length:Int)=some (.inl (l,g,d,b,e))
 | [],i,M,out,hd,p,h=>by
  have h1:at0.length≤i:=List.drop_eq_nil_iff.1 hd;rw [List.take_of_length_le h1]at h;refine⟨M,out,p,h,fun n m _ hm=> ?_⟩
  obtain⟨m,rfl⟩: ∃q,m=q+1:=⟨m-1,by simp at hm;omega⟩
  rw [RN,hJ (by omega),da]
 |x::r,i,M,out,hd,p,h=>by
  have hi:i<at0.length:=by
   by_cases c:i<at0.length
   ·exact c
   ·rw [List.drop_of_length_le (by omega)]at hd;cases hd
  rw [List.drop_eq_getElem_cons hi]at hd;obtain⟨t,hr⟩:=List.cons.inj hd;obtain⟨M1,f,c1,⟨s,c2⟩,c3,c4⟩:=Ca z p x (fun k hk u=>hR k (by rw [←hk,←t];exact List.getElem_mem hi) u)
  obtain⟨g,d,d1,d2,d3⟩:=UZ (b:=b) (e:=e) z ha hR r (i+1) M1 f hr c1 (fun j hj bZ=>by
   rw [xN hi,List.mem_append]at hj;rcases hj with hj|hj
   ·rw [c2];exact List.mem_append_left _ (h j hj bZ)
   ·exact c3 j (by rw [List.mem_singleton.1 hj,t]) bZ)
  refine⟨g,d,d1,d2,fun n m hn hm=> ?_⟩
  obtain⟨m,rfl⟩: ∃q,m=q+1:=⟨m-1,by simp at hm;omega⟩
  obtain⟨n,rfl⟩: ∃q,n=q+2:=⟨n-2,by omega⟩
  rw [RN,bu hi,Y,bj hi,Z,t,c4 n,Z,dx hi (by omega)]
  exact d3 (n+2) m hn (by simpa using hm)
theorem aDg {l:List Pl} {R:Nat→Prop} {b e:Bool} (hl:l.length≤400) (hR: ∀k,(h:k<l.length)→R k→ ∀j:Nat,(j:Int)∈ef l[k] k b e→j<l.length→R j) {M:List Bool} {out:List Int} (h:IV l R M out) {i q:Nat} (hi:i<out.length) (hq:out[i]=(q:Int)) (ad:q<l.length):
  ∃p d,IV l R p d∧(∃s,d=out++s)∧(∀j:Nat,(j:Int)∈ef l[q] q b e→j<l.length→(j:Int)∈d)∧ ∀n m,2≤n→ej n (m+1) l M out (i:Int) b e=ej n m l p d ((i+1:Nat):Int) b e:=by
 have hlen:=BY h;have ai:R q:=by
  obtain⟨k,e1,e2,e3⟩:=h.2.2.2 out[i] (List.getElem_mem hi);have:k=q:=by omega
  rw [←this];exact e3
 have hn:=hR q ad ai;have head: ∀n m,ej n (m+1) l M out (i:Int) b e=cond (l[q].1==(6:Int)) ((ji n l M out l[q].2.2.2.2.1).bind fun f=>ej n m f.1 f.2.1 f.2.2 ((i+1:Nat):Int) b e) (cond (l[q].1==(7:Int)) ((ji n l M out l[q].2.2.2.2.1).bind fun f=>(ji n f.1 f.2.1 f.2.2 l[q].2.2.2.2.2).bind fun y3=>ej n m y3.1 y3.2.1 y3.2.2 ((i+1:Nat):Int) b e) (cond (l[q].1==(4:Int)) (cond b ((ji n l M out ((q+1:Nat):Int)).bind fun f=>ej n m f.1 f.2.1 f.2.2 ((i+1:Nat):Int) b e) (ej n m l M out ((i+1:Nat):Int) b e)) (cond (l[q].1==(5:Int)) (cond e ((ji n l M out ((q+1:Nat):Int)).bind fun f=>ej n m f.1 f.2.1 f.2.2 ((i+1:Nat):Int) b e) (ej n m l M out ((i+1:Nat):Int) b e)) (ej n m l M out ((i+1:Nat):Int) b e)))):=fun n m=>by
  rw [RO,bu hi,Y,ez (show (0:Int)≤(i:Int)∧(i:Int)<(out.length:Int) by omega),Y,fe hi,Z,hq,bj ad,Z,dx ad (by omega),dx hi (by omega)]
 have none:ef l[q] q b e=[]→(∀n m,2≤n→ej n (m+1) l M out (i:Int) b e=ej n m l M out ((i+1:Nat):Int) b e)→ ∃p d,IV l R p d∧(∃s,d=out++s)∧(∀j:Nat,(j:Int)∈ef l[q] q b e→j<l.length→(j:Int)∈d)∧ ∀n m,2≤n→ej n (m+1) l M out (i:Int) b e=ej n m l p d ((i+1:Nat):Int) b e:=
  fun r k=>⟨M,out,h,⟨[],by simp⟩,fun j hj=>(by rw [r]at hj;cases hj),k⟩
 have one: ∀x:Int,ef l[q] q b e=[x]→(∀n m,2≤n→ej n (m+1) l M out (i:Int) b e=(ji n l M out x).bind fun f=>ej n m f.1 f.2.1 f.2.2 ((i+1:Nat):Int) b e)→ ∃p d,IV l R p d∧(∃s,d=out++s)∧(∀j:Nat,(j:Int)∈ef l[q] q b e→j<l.length→(j:Int)∈d)∧ ∀n m,2≤n→ej n (m+1) l M out (i:Int) b e=ej n m l p d ((i+1:Nat):Int) b e:=fun x r k=>by
  obtain⟨M1,t,c1,c2,c3,c4⟩:=Ca hl h x (fun j hj bZ=>hn j (by rw [r,hj];simp) bZ)
  refine⟨M1,t,c1,c2,fun j hj bZ=>c3 j (by rw [r]at hj;exact(List.mem_singleton.1 hj).symm) bZ,fun n m hn=> ?_⟩
  obtain⟨n,rfl⟩: ∃q,n=q+2:=⟨n-2,by omega⟩
  rw [k (n+2) m hn,c4 n];rfl
 by_cases g:l[q].1=6
 ·refine one l[q].2.2.2.2.1 (by rw [ef,if_pos g]) fun n m _=> ?_
  rw [head,g];rfl
 have z6:(l[q].1==(6:Int))=false:=by simpa using g
 by_cases u:l[q].1=7
 ·have r:ef l[q] q b e=[l[q].2.2.2.2.1,l[q].2.2.2.2.2]:=by rw [ef,if_neg g,if_pos u]
  obtain⟨M1,t,c1,⟨s1,c2⟩,c3,c4⟩:=Ca hl h l[q].2.2.2.2.1 (fun j hj bZ=>hn j (by rw [r,hj];simp) bZ)
  obtain⟨M2,ag,d1,⟨s2,d2⟩,d3,d4⟩:=Ca hl c1 l[q].2.2.2.2.2 (fun j hj bZ=>hn j (by rw [r,hj];simp) bZ)
  refine⟨M2,ag,d1,⟨s1++s2,by rw [d2,c2,List.append_assoc]⟩,fun j hj bZ=> ?_,fun n m hn=> ?_⟩
  ·rw [r]at hj
   rcases List.mem_cons.1 hj with hj|hj
   ·rw [d2];exact List.mem_append_left _ (c3 j hj.symm bZ)
   ·exact d3 j (List.mem_singleton.1 hj).symm bZ
  ·obtain⟨n,rfl⟩: ∃q,n=q+2:=⟨n-2,by omega⟩
   rw [head,u,c4 n];simp only [Z];rw [d4 n];rfl
 have z7:(l[q].1==(7:Int))=false:=by simpa using u
 by_cases z:l[q].1=4
 ·cases b
  ·refine none (by rw [ef,if_neg g,if_neg u,if_pos z];rfl) fun n m _=> ?_
   rw [head,z];rfl
  ·refine one _ (by rw [ef,if_neg g,if_neg u,if_pos z];rfl) fun n m _=> ?_
   rw [head,z];rfl
 have z4:(l[q].1==(4:Int))=false:=by simpa using z
 by_cases o5:l[q].1=5
 ·cases e
  ·refine none (by rw [ef,if_neg g,if_neg u,if_neg z,if_pos o5];rfl) fun n m _=> ?_
   rw [head,o5];rfl
  ·refine one _ (by rw [ef,if_neg g,if_neg u,if_neg z,if_pos o5];rfl) fun n m _=> ?_
   rw [head,o5];rfl
 have z5:(l[q].1==(5:Int))=false:=by simpa using o5
 refine none (by rw [ef,if_neg g,if_neg u,if_neg z,if_neg o5]) fun n m _=> ?_
 rw [head,z6,z7,z4,z5];rfl
def Cb (l:List Pl) (b e:Bool) (out:List Int) (k:Nat):Prop:= ∀i,i<k→(h:i<out.length)→ ∀q:Nat,out[i]=(q:Int)→(d:q<l.length)→ ∀j:Nat,(j:Int)∈ef l[q] q b e→j<l.length→(j:Int)∈out
theorem aDh {l:List Pl} {R:Nat→Prop} {b e:Bool} (hl:l.length≤400) (hR: ∀k,(h:k<l.length)→R k→ ∀j:Nat,(j:Int)∈ef l[k] k b e→j<l.length→R j): ∀(f k:Nat) (M:List Bool) (out:List Int),IV l R M out→Cb l b e out k→l.length-k≤f→
  ∃t d,IV l R t d∧(∃s,d=out++s)∧Cb l b e d d.length∧ ∀n m,2≤n→f<m→ej n m l M out (k:Int) b e=some (.inl d):=by
 intro f;have stop: ∀(f k:Nat) (M:List Bool) (out:List Int),IV l R M out→Cb l b e out k→out.length≤k→ ∃t d,IV l R t d∧(∃s,d=out++s)∧Cb l b e d d.length∧ ∀n m,2≤n→f<m→ej n m l M out (k:Int) b e=some (.inl d):=fun f k M out h hd hk=>by
  refine⟨M,out,h,⟨[],by simp⟩,fun i hi=>hd i (by omega),fun n m _ hm=> ?_⟩
  obtain⟨m,rfl⟩: ∃q,m=q+1:=⟨m-1,by omega⟩
  rw [RO,hJ (by omega),da]
 induction f with
 |zero=>
  intro k M out h hd hf;exact stop 0 k M out h hd (by have:=BY h;omega)
 |succ f ih=>
  intro k M out h hd hf;by_cases hk:k<out.length
  ·obtain⟨q,hq,ad, -⟩:=h.2.2.2 out[k] (List.getElem_mem hk)
   obtain⟨M1,g,c1,⟨s,c2⟩,c3,c4⟩:=aDg (b:=b) (e:=e) hl hR h hk hq ad;have au:out.length≤g.length:=by rw [c2];simp
   have p: ∀i,(h1:i<out.length)→g[i]'(by omega)=out[i]:=fun i h1=>by subst c2;exact List.getElem_append_left h1
   obtain⟨t,d,d1,⟨s',d2⟩,d3,d4⟩:=ih (k+1) M1 g c1 (fun i hi h1 q' r u j hj bZ=>by
    by_cases af:i=k
    ·subst af
     rw [p i hk]at r;have:q'=q:=by omega
     subst this;exact c3 j hj bZ
    ·have z:i<out.length:=by omega
     rw [p i z]at r;rw [c2];exact List.mem_append_left _ (hd i (by omega) z q' r u j hj bZ)) (by omega)
   refine⟨t,d,d1,⟨s++s',by rw [d2,c2,List.append_assoc]⟩,d3,fun n m hn hm=> ?_⟩
   obtain⟨m,rfl⟩: ∃q,m=q+1:=⟨m-1,by omega⟩
   rw [c4 n m hn];exact d4 n m hn (by omega)
  ·exact stop (f+1) k M out h hd (by omega)
theorem aDi (n:Nat) (x:ah):Pb (n+1) x=cond (Nat.ble (List.length (α:=Int) x) big) (some (jB x)) none:=by kernel_rfl
theorem aDj (l:List Pl) (at0:List Int) (b e:Bool) (z:l.length≤400) (ha:at0.length≤1048576):W fun n=>AN n l at0 b e=some (fM l at0 b e):=by
 have h0:IV l (kK l at0 b e) (List.replicate l.length false) []:=by
  have hg: ∀i,(List.replicate l.length false).getD i false=false:=fun i=>by
   rw [List.getD_eq_getElem?_getD,List.getElem?_replicate];split<;>rfl
  refine⟨List.length_replicate,fun i hi=> ?_,List.nodup_nil,fun x h=>by cases h⟩
  rw [hg];simp
 obtain⟨M1,g,c1,c2,c3⟩:=UZ (b:=b) (e:=e) z ha (fun k hk r=>.base hk r) at0 0 (List.replicate l.length false) [] (by rw [List.drop_zero]) h0 (fun j hj=>by simp at hj)
 obtain⟨M2,d,d1,⟨s,d2⟩,d3,d4⟩:=aDh (b:=b) (e:=e) z (fun k h hk j hj bZ=>.step hk h hj bZ) l.length 0 M1 g c1 (fun i hi=>absurd hi (Nat.not_lt_zero _)) (by omega)
 have f:jB d=fM l at0 b e:=by
  refine YV d1.2.2.1 fun x=> ?_
  rw [NL];have hm:=fun(i:Nat) (hi:i<l.length)=>NM (l:=l) (at0:=at0) (b:=b) (e:=e) (M:=fun i=>(i:Int)∈d) (fun i hi hm=>by
   obtain⟨k,e1,p,m⟩:=d1.2.2.2 _ hm;have:i=k:=by omega
   rw [this];exact m) (fun i hi t=>by rw [d2];exact List.mem_append_left _ (c2 i hi t)) (fun k h hk j hj bZ=>by
    obtain⟨i,hi,u⟩:=List.mem_iff_getElem.1 hk;exact d3 i hi hi k u h j hj bZ) hi
  constructor
  ·intro hx
   obtain⟨k,rfl,p,m⟩:=d1.2.2.2 x hx;exact⟨k,rfl,p,m⟩
  ·rintro⟨i,rfl,p,m⟩
   exact(hm i p).2 m
 have aj:=BY d1;refine(W.ge (at0.length+l.length+10)).nm fun n hn=> ?_
 obtain⟨n,rfl⟩: ∃q,n=q+2:=⟨n-2,by omega⟩
 rw [awN,Int.toNat_natCast,ez (show (0:Int)≤(l.length:Int)∧(l.length:Int)≤(l.length:Int)∧(l.length:Int)≤(big:Int) by unfold big;omega),Y,show(0:Int)=((0:Nat):Int)from rfl,c3 (n+2) (n+2) (by omega) (by omega),Z,cO]
 dsimp only
 rw [d4 (n+2) (n+2) (by omega) (by omega),Z,cO,aDi,Nat.ble_eq_true_of_le (by unfold big;omega),Y,Z]
 have hlen:(jB d).length=d.length:=List.length_mergeSort _;rw [hlen,Nat.beq_refl,Y,f]
def pc (p:Pl) (c:UInt8):Bool:=cond (p.1==1) ((c.toNat:Int)==p.2.1) (cond (p.1==2) true (cond (p.1==3) (!(decide (c∈p.2.2.1)==p.2.2.2.1)) false))
theorem aDk (a c:UInt8):((a.toNat:Int)==(c.toNat:Int))=decide (a=c):=by
 by_cases h:a=c
 ·subst h;simp
 ·rw [hJ h]
  have: ¬(a.toNat:Int)=(c.toNat:Int):=fun e=>h (UInt8.toNat_inj.1 (by omega))
  simpa using this
theorem Va (c:UInt8) (s:O) (d:s.length≤1048576) (n:Nat): ∀k m (i:Nat),s.length-i=k→k<m→i≤s.length→zE n m (i:Int) c s=some (cond (decide (c∈s.drop i)) (.inr true) (.inl ()))
 |k,0,i,e,hm,hi=>by omega
 |k,m+1,i,e,hm,hi=>by
  rw [arN,dQ];by_cases h:i<s.length
  ·rw [bu h,Y,de h,Z,aDk,dx h (by omega),List.drop_eq_getElem_cons h]
   by_cases b:s[i]=c
   ·rw [ez b,Y,ez (show c∈s[i]::s.drop (i+1) by rw [b];simp)];rfl
   ·rw [hJ b,da,Va c s d n _ m (i+1) rfl (by omega) (by omega)]
    congr 2
    have:(c∈s[i]::s.drop (i+1))↔c∈s.drop (i+1):=by
     rw [List.mem_cons];exact⟨fun k=>k.resolve_left (fun k=>b k.symm),.inr⟩
    simp only [this]
  ·rw [hJ (by omega),da,List.drop_of_length_le (by omega)];rfl
theorem aDl (s:O) (b:s.length≤256) (n:Nat) (d:300≤n) (c:UInt8):Gz n s c=some (decide (c∈s)):=by
 obtain⟨n,rfl⟩: ∃q,n=q+1:=⟨n-1,by omega⟩
 rw [arM,dQ,show(0:Int)=((0:Nat):Int)from rfl,Va c s (by omega) n _ n 0 rfl (by omega) (by omega),List.drop_zero]
 by_cases h:c∈s
 ·rw [ez h];rfl
 ·rw [hJ h];rfl
theorem Vb (c:UInt8):wrap .i64 (c.toNat:Int)=(c.toNat:Int):=by have:=c.toNat_lt;rw [IntKind.wrap_i64];omega
theorem aDm (p:Pl) (hp:p.2.2.1.length≤256) (n:Nat) (b:301≤n) (c:UInt8):Gy n p.1 p.2.1 p.2.2.1 p.2.2.2.1 p.2.2.2.2.1 p.2.2.2.2.2 c=some (pc p c):=by
 obtain⟨n,rfl⟩: ∃q,n=q+1:=⟨n-1,by omega⟩
 rw [arL,dQ,aDl _ hp n (by omega),Vb,pc]
 cases p.1==(1:Int)
 ·cases p.1==(2:Int)
  ·cases p.1==(3:Int)<;>rfl
  ·rfl
 ·rfl
theorem aDn (n:Nat) (s:O) (c:UInt8):sr (n+1) s c=some (Lib.indexByte s c):=by kernel_rfl
theorem aDo (p:Pl) (n:Nat) (b:301≤n) (c:UInt8):HU n p.1 p.2.1 p.2.2.1 p.2.2.2.1 p.2.2.2.2.1 p.2.2.2.2.2 c=some (pc p c):=by
 obtain⟨n,rfl⟩: ∃q,n=q+2:=⟨n-2,by omega⟩
 have e:decide ((0:Int)≤Lib.indexByte p.2.2.1 c)=decide (c∈p.2.2.1):=by
  by_cases h:c∈p.2.2.1
  ·rw [ez h,ez ((sN _ _).2.2 h)]
  ·rw [hJ h,hJ (fun k=>h ((sN _ _).2.1 k))]
 rw [awQ,dQ,aDn,Vb,pc];simp only [Z,e];cases p.1==(1:Int)
 ·cases p.1==(2:Int)
  ·cases p.1==(3:Int)<;>rfl
  ·rfl
 ·simp only [Y]
  rw [Bool.beq_comm]
def pd (l:List Pl) (x:Int):Pl:=l.getD x.toNat (0,0,[],false,0,0)
def iS (l:List Pl) (c:UInt8):List Int→List Int
 | []=>[]
 |x::r=>cond (pc (pd l x) c) ((x+1)::iS l c r) (iS l c r)
theorem Ka (l:List Pl) (c:UInt8): ∀r,(iS l c r).length≤r.length
 | []=>by simp [iS]
 |x::r=>by
  have:=Ka l c r;rw [iS];cases pc (pd l x) c
  ·rw [da,List.length_cons];omega
  ·rw [Y,List.length_cons,List.length_cons];omega
def sY (l:List Pl) (now:List Int):Prop:=(∀x∈now,∃q:Nat,x=(q:Int)∧q<l.length)∧now.Pairwise (fun x y=>x<y)∧now.length≤l.length
theorem Kb (l:List Pl) (at0:List Int) (b e:Bool):sY l (fM l at0 b e):=⟨fun x d=>by
 obtain⟨i,f,g, -⟩:=NL.1 d;exact⟨i,f,g⟩,Ee _ _ _ _,YU _ _ _ _⟩
theorem Vc {l:List Pl} {q:Nat} (h:q<l.length):ax l (q:Int)=some (pd l (q:Int)):=by
 rw [bj h,pd,Int.toNat_natCast,List.getD_eq_getElem?_getD,List.getElem?_eq_getElem h];rfl
theorem aDp {l:List Pl} {q:Nat} (h:q<l.length):pd l (q:Int)∈l:=by
 rw [pd,Int.toNat_natCast,List.getD_eq_getElem?_getD,List.getElem?_eq_getElem h];exact List.getElem_mem h
theorem Kc {l:List Pl} (k:l.length≤400) (d: ∀p∈l,p.2.2.1.length≤256) {s:O} {i:Nat} (hi:i<s.length) {now:List Int} (g:sY l now) (b:Int) (n:Nat) (h:301≤n): ∀(r:List Int) (j m:Nat) (out:List Int),now.drop j=r→r.length<m→out.length+r.length≤1000000→
  qx n m (j:Int) now out (i:Int) s l b=some (.inl (s,l,b,(i:Int),out++iS l s[i] r))
 | [],j,m,out,hd,hm,t=>by
  obtain⟨m,rfl⟩: ∃q,m=q+1:=⟨m-1,by simp at hm;omega⟩
  have h1:now.length≤j:=List.drop_eq_nil_iff.1 hd;rw [QL,hJ (by omega),da,iS,List.append_nil]
 |x::r,j,m,out,hd,hm,t=>by
  obtain⟨m,rfl⟩: ∃q,m=q+1:=⟨m-1,by simp at hm;omega⟩
  have hj:j<now.length:=by
   by_cases c:j<now.length
   ·exact c
   ·rw [List.drop_of_length_le (by omega)]at hd;cases hd
  have ae:=g.2.2;rw [List.drop_eq_getElem_cons hj]at hd;obtain⟨u,z⟩:=List.cons.inj hd;obtain⟨q,hq,f⟩:=g.1 now[j] (List.getElem_mem hj);rw [u]at hq;simp only [List.length_cons]at t hm;have hw:wrap .i64 ((q:Int)+1)=(q:Int)+1:=by rw [IntKind.wrap_i64];omega
  rw [QL,bu hj,Y,ez (show (0:Int)≤(j:Int)∧(j:Int)<(now.length:Int) by omega),Y,fe hj,Z,u,hq,Vc f,Z,de hi,Z,dQ,aDm _ (d _ (aDp f)) n h,Z,dx hj (by omega)]
  rw [iS];cases ht:pc (pd l (q:Int)) s[i]
  ·rw [da,da]
   exact Kc k d hi g b n h r (j+1) m out z (by omega) (by omega)
  ·rw [Y,Y,Y,Z,cx (by omega),Y,hw,Kc k d hi g b n h r (j+1) m (out++[(q:Int)+1]) z (by omega) (by simp;omega),List.append_assoc];rfl
theorem Kd {l:List Pl} (p:l.length≤400) {s:O} {i:Nat} (hi:i<s.length) {now:List Int} (b:sY l now) (d:Bool) (f g:Int) (n:Nat) (h:301≤n): ∀(r:List Int) (j m:Nat) (out:List Int),now.drop j=r→r.length<m→out.length+r.length≤1000000→
  qD n m (j:Int) out (i:Int) s l now d f g (now.length:Int)=some (.inl (s,l,d,f,now,g,(i:Int),out++iS l s[i] r))
 | [],j,m,out,hd,hm,t=>by
  obtain⟨m,rfl⟩: ∃q,m=q+1:=⟨m-1,by simp at hm;omega⟩
  have h1:now.length≤j:=List.drop_eq_nil_iff.1 hd;rw [RM,hJ (by omega),da,iS,List.append_nil]
 |x::r,j,m,out,hd,hm,t=>by
  obtain⟨m,rfl⟩: ∃q,m=q+1:=⟨m-1,by simp at hm;omega⟩
  have hj:j<now.length:=by
   by_cases c:j<now.length
   ·exact c
   ·rw [List.drop_of_length_le (by omega)]at hd;cases hd
  have ae:=b.2.2;rw [List.drop_eq_getElem_cons hj]at hd;obtain⟨u,z⟩:=List.cons.inj hd;obtain⟨q,hq,k⟩:=b.1 now[j] (List.getElem_mem hj);rw [u]at hq;simp only [List.length_cons]at t hm;have hw:wrap .i64 ((q:Int)+1)=(q:Int)+1:=by rw [IntKind.wrap_i64];omega
  rw [RM,bu hj,Y,ez (show (0:Int)≤(j:Int)∧(j:Int)<(now.length:Int) by omega),Y,fe hj,Z,u,hq,Vc k,Z,de hi,Z,dQ,aDo _ n h,Z,dx hj (by omega)]
  rw [iS];cases ht:pc (pd l (q:Int)) s[i]
  ·rw [da,da]
   exact Kd p hi b d f g n h r (j+1) m out z (by omega) (by omega)
  ·rw [Y,Y,cx (by omega),Y,hw,Kd p hi b d f g n h r (j+1) m (out++[(q:Int)+1]) z (by omega) (by simp;omega),List.append_assoc];rfl
theorem aDq {l:List Pl} {t:List Int} {x:Int} (h:sY l (t++[x])):(x==((l.length:Int)-1))=decide (((l.length:Int)-1)∈t++[x]):=by
 obtain⟨b,d,g⟩:=h;obtain⟨q,i,f⟩:=b x (by simp)
 by_cases e:x=(l.length:Int)-1
 ·rw [ez (by rw [←e];simp)];simpa using e
 ·rw [hJ (fun k=> ?_)]
  ·simpa using e
  ·rcases List.mem_append.1 k with k|k
   ·have:=(List.pairwise_append.1 d).2.2 _ k x (by simp)
    omega
   ·exact e (List.mem_singleton.1 k).symm
noncomputable def nA (l:List Pl) (s:O):Nat→Nat→List Int→Int→Int
 |0,i,now,b=>if((l.length:Int)-1)∈now then(i:Int)else b
 |k+1,i,now,b=>if now=[]then b else nA l s k (i+1) (fM l (iS l (s.getD i 0) now) false (decide (i+1=s.length))) (if ((l.length:Int)-1)∈now then(i:Int)else b)
theorem Vd {s:O} {i:Nat} (h:i<s.length):s.getD i 0=s[i]:=by rw [List.getD_eq_getElem?_getD,List.getElem?_eq_getElem h];rfl
theorem qP (a b:Nat):((a:Int)==(b:Int))=decide (a=b):=by
 by_cases h:a=b
 ·subst h;simp
 ·rw [hJ h];exact beq_eq_false_iff_ne.2 (by omega)
theorem Ve {l:List Pl} (f:l.length≤400) (r:0<l.length) (d: ∀p∈l,p.2.2.1.length≤256) {s:O} (u:s.length≤1000000): ∀(k i:Nat) (now:List Int) (b:Int),i+k=s.length→sY l now→
  W fun n=> ∀m,k<m→qw n m now (i:Int) s l b=some (.inl (nA l s k i now b))
 |k,i,now,b,hk,g=>by
  rcases List.eq_nil_or_concat now with rfl|⟨t,x,rfl⟩
  ·refine W.of fun n m hm=> ?_
   obtain⟨m,rfl⟩: ∃q,m=q+1:=⟨m-1,by omega⟩
   rw [QK];cases k<;>rfl
  rw [List.concat_eq_append]at*;have h:=g.2.2;have hlen:((t++[x]).length:Int)=((t.length+1:Nat):Int):=by simp
  have hw:wrap .i64 (((t++[x]).length:Int)-1)=(t.length:Int):=by
   simp only [List.length_append,List.length_singleton]at h;rw [hlen,IntKind.wrap_i64];omega
  have j:aM (t++[x]) (Int.toNat (t.length:Int))=some x:=by rw [Int.toNat_natCast];exact jM t x []
  have head: ∀n m,qw n (m+1) (t++[x]) (i:Int) s l b=cond (decide (i=s.length)) (some (.inl (if ((l.length:Int)-1)∈t++[x]then(i:Int)else b))) ((qx n n 0 (t++[x]) ([]:ah) (i:Int) s l (if ((l.length:Int)-1)∈t++[x]then(i:Int)else b)).bind fun z=>ay z (fun z2=>(sf n z2.2.1 z2.2.2.2.2 false ((wrap .i64 (z2.2.2.2.1+(1:Int)))==(z2.1.length:Int))).bind fun y2=>qw n m y2 (wrap .i64 (z2.2.2.2.1+(1:Int))) z2.1 z2.2.1 z2.2.2.1) (fun w2=>some (.inr w2))):=fun n m=>by
   rw [QK,hw,j,hlen,ez (by omega),Y,ez (by omega),Y,Z,BZ f r,show((l.length-1:Nat):Int)=(l.length:Int)-1 by omega,aDq g,qP]
   by_cases c:((l.length:Int)-1)∈t++[x]
   ·rw [ez c,if_pos c,Y]
   ·rw [hJ c,if_neg c,da]
  match k,hk with
  |0,hk=>
   refine W.of fun n m hm=> ?_
   obtain⟨m,rfl⟩: ∃q,m=q+1:=⟨m-1,by omega⟩
   rw [head,ez (by omega),Y,nA]
  |k+1,hk=>
   have hi:i<s.length:=by omega
   have af:=Ka l s[i] (t++[x]);have ih:=Ve f r d u k (i+1) (fM l (iS l s[i] (t++[x])) false (decide (i+1=s.length))) (if ((l.length:Int)-1)∈t++[x]then(i:Int)else b) (by omega) (Kb _ _ _ _)
   refine((ih.and (UY l (iS l s[i] (t++[x])) false (decide (i+1=s.length)) f (by omega))).and (W.ge 1000)).mono fun n ⟨⟨e1,e2⟩,e3⟩ m hm=> ?_
   obtain⟨m,rfl⟩: ∃q,m=q+1:=⟨m-1,by omega⟩
   rw [head,hJ (by omega),da,show(0:Int)=((0:Nat):Int)from rfl,Kc f d hi g _ n (by omega) (t++[x]) 0 n [] (by rw [List.drop_zero]) (by omega) (by simp only [List.length_nil];omega),Z,cO]
   dsimp only
   rw [dx hi (by omega),qP,List.nil_append,e2,Z,e1 m (by omega),nA,if_neg (show ¬(t++[x])=[] by simp),Vd hi]
theorem aDr (now:List Int) (v:Int) (d:now.length≤1048576):W fun n=>AP n now v=some (decide (v∈now)):=by
 have h:=jZ d (p:=fun x=>v=x) (r:=fun i=>i) (b:=()) (L:=fun n m i=>AQ n m i now v (now.length:Int)) (W.of fun n m i hi=>by
  rw [RP,bu hi,Y,bj hi,Z,bk]) (fun n m=>by rw [RP,cp];rfl)
 refine W.succ (h.nm fun n h=> ?_)
 rw [awO,awP];rcases h with⟨⟨x,f,rfl⟩,i,e⟩|⟨h,e⟩
 ·rw [e,ez f];simp [ay]
 ·rw [e,hJ (fun k=>h v k rfl)];rfl
noncomputable section
theorem Vf {l:List Pl} (j:l.length≤400) (r:0<l.length) {s:O} (u:s.length≤1000000): ∀(k i:Nat) (pre:List Int) (b:Int),i+k=s.length→pre.length≤1000000→
  W fun n=> ∀m,k<m→qC n m (i:Int) s l b pre=some (.inr (nA l s k i (fM l pre (decide (i=0)) (decide (i=s.length))) b))
 |k,i,pre,b,hk,hp=>by
  have z:((i:Int)==(0:Int))=decide (i=0):=qP i 0;obtain⟨now,d⟩: ∃now,now=fM l pre (decide (i=0)) (decide (i=s.length)):=⟨_,rfl⟩
  have t:sY l now:=d▸Kb _ _ _ _;have ad:=t.2.2;have base:=(aDj l pre (decide (i=0)) (decide (i=s.length)) j (by omega)).and (aDr now ((l.length:Int)-1) (by omega))
  rw [←d]at base ⊢;have head: ∀n m,AN n l pre (decide (i=0)) (decide (i=s.length))=some now→AP n now ((l.length:Int)-1)=some (decide (((l.length:Int)-1)∈now))→qC n (m+1) (i:Int) s l b pre=cond (decide (i=s.length)) (some (.inr (if ((l.length:Int)-1)∈now then(i:Int)else b))) (cond (decide (now.length=0)) (some (.inr (if ((l.length:Int)-1)∈now then(i:Int)else b))) ((qD n n 0 ([]:ah) (i:Int) s l now (decide (now.length=0)) (now.length:Int) (if ((l.length:Int)-1)∈now then(i:Int)else b) (now.length:Int)).bind fun y2=>ay y2 (fun z3=>qC n m (IntKind.wrap .i64 (z3.2.2.2.2.2.2.1+(1:Int))) z3.1 z3.2.1 z3.2.2.2.2.2.1 z3.2.2.2.2.2.2.2) (fun w3=>some (.inr w3)))):=fun n m f g=>by
   rw [awM,z,qP,f,Z,BZ j r,show((l.length-1:Nat):Int)=(l.length:Int)-1 by omega,g,Z,show((now.length:Int)==(0:Int))=decide (now.length=0)from qP now.length 0]
   by_cases c:((l.length:Int)-1)∈now
   ·rw [ez c,if_pos c,Y]
   ·rw [hJ c,if_neg c,da]
  match k,hk with
  |0,hk=>
   refine base.mono fun n ⟨f,g⟩ m hm=> ?_
   obtain⟨m,rfl⟩: ∃q,m=q+1:=⟨m-1,by omega⟩
   rw [head n m f g,ez (show i=s.length by omega),Y,nA]
  |k+1,hk=>
   have hi:i<s.length:=by omega
   by_cases he:now=[]
   ·refine base.mono fun n ⟨f,g⟩ m hm=> ?_
    obtain⟨m,rfl⟩: ∃q,m=q+1:=⟨m-1,by omega⟩
    rw [head n m f g,hJ (show ¬i=s.length by omega),da,nA,if_pos he,ez (show now.length=0 by rw [he];rfl),Y,if_neg (by rw [he];simp)]
   have p: ¬now.length=0:=fun h=>he (List.eq_nil_of_length_eq_zero h)
   have ag:=Ka l s[i] now;have ih:=Vf j r u k (i+1) (iS l s[i] now) (if ((l.length:Int)-1)∈now then(i:Int)else b) (by omega) (by omega)
   refine((base.and ih).and (W.ge 1000)).mono fun n ⟨⟨⟨f,g⟩,e3⟩,e4⟩ m hm=> ?_
   obtain⟨m,rfl⟩: ∃q,m=q+1:=⟨m-1,by omega⟩
   rw [head n m f g,hJ (show ¬i=s.length by omega),da,hJ p,da,show(0:Int)=((0:Nat):Int)from rfl,Kd j hi t _ _ _ n (by omega) now 0 n [] (by rw [List.drop_zero]) (by omega) (by simp only [List.length_nil];omega),Z,cO]
   dsimp only
   rw [dx hi (by omega),List.nil_append,e3 m (by omega),nA,if_neg he,Vd hi,hJ (show ¬i+1=0 by omega)]
def Ke (l:List Pl) (s:O) (i:Nat):Int:=nA l s (s.length-i) i (fM l [0] (decide (i=0)) (decide (i=s.length))) (-1)
def eL (l:List Pl) (s:O) (i:Nat):Int:=cond (bo (nz l)) (Ke l s i) (-1)
theorem Vg {l:List Pl} (h:nz l):l.length≤400∧0<l.length:=by
 have b:=h.1.1;have d:=h.1.2;omega
theorem aDs (l:List Pl) (s:O) (i:Nat) (g:l.length≤1048576) (b: ∀p∈l,p.2.2.1.length≤256) (j:s.length≤1000000) (hi:i≤s.length):W fun n=>zA n l s (i:Int)=some (eL l s i):=by
 by_cases hw:nz l
 ·obtain⟨h,k⟩:=Vg hw
  refine((((UW l g).and (cR (i:Int) 0 (s.length:Int))).and ((UY l [0] (decide (i=0)) (decide (i=s.length)) h (by simp)).and (Ve h k b j (s.length-i) i (fM l [0] (decide (i=0)) (decide (i=s.length))) (-1) (by omega) (Kb _ _ _ _)))).and (W.ge (s.length+1))).nm fun n ⟨⟨⟨d,m⟩,q,r⟩,t⟩=> ?_
  have f:In (i:Int) 0 (s.length:Int):=⟨by omega,by omega⟩
  rw [QJ,d,aB hw,Z,m,aB f,show((i:Int)==(0:Int))=decide (i=0)from qP i 0,qP];simp only [Bool.not_true,da,Z];rw [q,Z,r n (by omega),Z,cO,eL,aB hw,Y,Ke]
 ·refine(UW l g).nm fun n d=> ?_
  rw [QJ,d,az hw,eL,az hw,da];rfl
theorem aDt (l:List Pl) (s:O) (i:Nat) (f:l.length≤1048576) (g:s.length≤1000000) (hi:i≤s.length):W fun n=>AL n l s (i:Int)=some (eL l s i):=by
 by_cases hw:nz l
 ·obtain⟨h,j⟩:=Vg hw
  refine((((JX l f).and (dh (i:Int) 0 (s.length:Int))).and (Vf h j g (s.length-i) i [0] (-1) (by omega) (by simp))).and (W.ge (s.length+1))).nm fun n ⟨⟨⟨b,k⟩,m⟩,p⟩=> ?_
  have d:In (i:Int) 0 (s.length:Int):=⟨by omega,by omega⟩
  rw [RL,b,aB hw,Z,k,aB d];simp only [Bool.not_true,da,Z];rw [m n (by omega),Z,uk,eL,aB hw,Y,Ke]
 ·refine(JX l f).nm fun n b=> ?_
  rw [RL,b,az hw,eL,az hw,da];rfl
def ie (g:Nat→Int):Nat→Nat→Int×(Int×Bool)
 |0,i=>if 0≤g i then((i:Int),g i,true)else(0,0,false)
 |k+1,i=>if 0≤g i then((i:Int),g i,true)else ie g k (i+1)
theorem Vh {l:List Pl} {s:O} (f:l.length≤1048576) (d: ∀p∈l,p.2.2.1.length≤256) (g:s.length≤1000000): ∀k i,i+k=s.length→W fun n=> ∀m,k+1<m→(se n m (i:Int) s l).bind (fun h=>ay h (fun _=>some ((0:Int),(0:Int),false)) (fun j=>some j))=some (ie (eL l s) k i)
 |k,i,hk=>by
  have b:=aDs l s i f d g (by omega)
  have head: ∀n m,zA n l s (i:Int)=some (eL l s i)→se n (m+1) (i:Int) s l=cond (decide (0≤eL l s i)) (some (.inr ((i:Int),eL l s i,true))) (se n m ((i+1:Nat):Int) s l):=fun n m e=>by
   rw [QI,ez (show (i:Int)≤(s.length:Int) by omega),Y,e,Z,jK (by omega)]
  match k,hk with
  |0,hk=>
   refine b.mono fun n b m hm=> ?_
   obtain⟨m,rfl⟩: ∃q,m=q+2:=⟨m-2,by omega⟩
   rw [head n (m+1) b,ie];by_cases c:0≤eL l s i
   ·rw [ez c,if_pos c];rfl
   ·rw [hJ c,if_neg c,da,QI,hJ (by omega)];rfl
  |k+1,hk=>
   refine(b.and (Vh f d g k (i+1) (by omega))).mono fun n ⟨b,r⟩ m hm=> ?_
   obtain⟨m,rfl⟩: ∃q,m=q+1:=⟨m-1,by omega⟩
   rw [head n m b,ie];by_cases c:0≤eL l s i
   ·rw [ez c,if_pos c];rfl
   ·rw [hJ c,if_neg c,da];exact r m (by omega)
theorem Vi {l:List Pl} {s:O} (d:l.length≤1048576) (f:s.length≤1000000): ∀k i,i+k=s.length→W fun n=> ∀m,k+1<m→(sC n m (i:Int) s l).bind (fun g=>ay g (fun _=>some ((0:Int),(0:Int),false)) (fun h=>some h))=some (ie (eL l s) k i)
 |k,i,hk=>by
  have b:=aDt l s i d f (by omega)
  have head: ∀n m,AL n l s (i:Int)=some (eL l s i)→sC n (m+1) (i:Int) s l=cond (decide (0≤eL l s i)) (some (.inr ((i:Int),eL l s i,true))) (sC n m ((i+1:Nat):Int) s l):=fun n m e=>by
   rw [RI,ez (show (i:Int)≤(s.length:Int) by omega),Y,e,Z,jK (by omega)]
  match k,hk with
  |0,hk=>
   refine b.mono fun n b m hm=> ?_
   obtain⟨m,rfl⟩: ∃q,m=q+2:=⟨m-2,by omega⟩
   rw [head n (m+1) b,ie];by_cases c:0≤eL l s i
   ·rw [ez c,if_pos c];rfl
   ·rw [hJ c,if_neg c,da,RI,hJ (by omega)];rfl
  |k+1,hk=>
   refine(b.and (Vi d f k (i+1) (by omega))).mono fun n ⟨b,j⟩ m hm=> ?_
   obtain⟨m,rfl⟩: ∃q,m=q+1:=⟨m-1,by omega⟩
   rw [head n m b,ie];by_cases c:0≤eL l s i
   ·rw [ez c,if_pos c];rfl
   ·rw [hJ c,if_neg c,da];exact j m (by omega)
theorem aDu (l:List Pl) (s:O) (d:l.length≤1048576) (b: ∀p∈l,p.2.2.1.length≤256) (f:s.length≤1000000):W fun n=>Gv n l s=some (ie (eL l s) s.length 0):=by
 refine((Vh d b f s.length 0 (by omega)).and (W.ge (s.length+2))).nm fun n ⟨g,h⟩=> ?_
 rw [arE];exact g n (by omega)
theorem Vj {g:Nat→Int} (h: ∀i,g i= -1): ∀k i,ie g k i=(0,0,false)
 |0,i=>by rw [ie,h,if_neg (by omega)]
 |k+1,i=>by rw [ie,h,if_neg (by omega),Vj h k]
theorem aDv (l:List Pl) (s:O) (b:l.length≤1048576) (d:s.length≤1000000):W fun n=>HT n l s=some (ie (eL l s) s.length 0):=by
 refine(((Vi b d s.length 0 (by omega)).and (W.ge (s.length+2))).and (JX l b)).nm fun n ⟨⟨f,h⟩,g⟩=> ?_
 rw [awJ,g,Z];by_cases hw:nz l
 ·rw [aB hw]
  exact f n (by omega)
 ·rw [az hw,Vj (fun i=>by rw [eL,az hw,da])];rfl
theorem aDw {s:O} (h:(gJ s).2.2.2.2.2=true): ∃t:Tr,fL t∧gZ t∧eb t≤300∧df t≤12∧gJ s=((aE t).1,(aE t).2.1,(aE t).2.2.1,(aE t).2.2.2.1,(aE t).2.2.2.2,true):=by
 by_cases b:s.length≤60
 ·obtain⟨r,d⟩:=Jh s b
  rw [Bw b d]at h ⊢;by_cases c:r.2.2=false∧r.2.1=[]∧df (cP r.1)≤12
  ·rw [if_pos c]at h ⊢
   obtain⟨f,g⟩:=YS _ _ _ _ _ d b trivial trivial trivial c.1;have i:=(eJ _ _ _ _ _ d b trivial trivial).1;refine⟨cP r.1,xX f,eW i, ?_,c.2.2,rfl⟩
   rw [ux];simp only [hU]at g;omega
  ·rw [if_neg c]at h;cases h
 ·rw [Ji b]at h;cases h
theorem Kf (pat s:O) (h:(gJ pat).2.2.2.2.2=true) (z:s.length≤1000000): ∃v:Bool,(W fun n=>vz n pat s=some (bV v))∧(W fun n=>vZ n pat s=some v):=by
 obtain⟨t,i,j,h3,h4,h5⟩:=aDw h;obtain⟨S,⟨k,m⟩,q⟩:=aCV i j;have hb:=k 0;obtain⟨k1,k2⟩:=m [] (by simp;omega)
 simp only [List.length_nil,List.nil_append]at k1 k2;obtain⟨L,g⟩: ∃L,L=S 0++[pl 8 0 0]:=⟨_,rfl⟩
 have f:L.length≤1048576:=by rw [g,List.length_append,List.length_singleton];omega
 have r: ∀p∈L,p.2.2.1.length≤256:=fun p hp=>by
  rw [g]at hp;rcases List.mem_append.1 hp with hp|hp
  ·exact q 0 p hp
  ·rw [List.mem_singleton.1 hp];exact mo _ _ _
 have n1:W fun n=>Gs n (aE t).1 (aE t).2.1 (aE t).2.2.1 (aE t).2.2.2.1 (aE t).2.2.2.2=some L:=by
  refine(((aCQ i j (by omega) h4).and k1).and (wM (S 0) 8 (by omega))).nm fun n ⟨⟨b,d⟩,u⟩=> ?_
  rw [aqX,b,Z];simp only [Bool.not_true,da];rw [d,Z,u,g];rfl
 have n2:W fun n=>HQ n (aE t).1 (aE t).2.1 (aE t).2.2.1 (aE t).2.2.2.1 (aE t).2.2.2.2=some L:=by
  refine((aCR i j (by omega) h4).and k2).nm fun n ⟨b,d⟩=> ?_
  rw [avZ,b,Z];simp only [Bool.not_true,da];rw [d,Z,cx (by omega),Y,g];rfl
 have m1:W fun n=>Gr n (aE t).1 (aE t).2.1 (aE t).2.2.1 (aE t).2.2.2.1 (aE t).2.2.2.2 s=some (ie (eL L s) s.length 0).2.2:=by
  refine(n1.and (aDu L s f r z)).nm fun n ⟨b,d⟩=> ?_
  rw [aqW,b,Z,d];rfl
 have m2:W fun n=>HP n (aE t).1 (aE t).2.1 (aE t).2.2.1 (aE t).2.2.2.1 (aE t).2.2.2.2 s=some (ie (eL L s) s.length 0).2.2:=by
  refine(n2.and (aDv L s f z)).nm fun n ⟨b,d⟩=> ?_
  rw [avY,b,Z,d];rfl
 refine⟨(ie (eL L s) s.length 0).2.2, ?_, ?_⟩
 ·refine(((SN pat).and m1).and (BJ (ie (eL L s) s.length 0).2.2)).nm fun n ⟨⟨b,d⟩,u⟩=> ?_
  rw [aqV,b,h5,Z];dsimp only
  rw [d,Z,u];rfl
 ·refine((SM pat).and m2).nm fun n ⟨b,d⟩=> ?_
  rw [avX,b,h5,Z];dsimp only
  rw [d];rfl
def kx (pat s:O):Bool:=if h:(gJ pat).2.2.2.2.2=true∧s.length≤1000000 then Classical.choose (Kf pat s h.1 h.2)else false
theorem Vk (pat s:O) (h:(gJ pat).2.2.2.2.2=true) (b:s.length≤1000000):W fun n=>vz n pat s=some (bV (kx pat s)):=by
 rw [kx,dif_pos ⟨h,b⟩];exact(Classical.choose_spec (Kf pat s h b)).1
theorem Vl (pat s:O) (h:(gJ pat).2.2.2.2.2=true) (b:s.length≤1000000):W fun n=>vZ n pat s=some (kx pat s):=by
 rw [kx,dif_pos ⟨h,b⟩];exact(Classical.choose_spec (Kf pat s h b)).2
end
noncomputable section
structure cX where
 vs:List V
 cs:List VC
 aA:List V
 out:O
inductive gB where
 |err (c:Int)
 |halt (s:cX)
 |go (k:Int) (s:cX)
def lk (r:Sum Int V) (f:V→gB):gB:=match r with
 |.inl c=>.err c
 |.inr v=>f v
def eH (s:cX) (at0:Int) (v:V):gB:=if s.aA.length=64 then .err 7 else .go at0 {s with aA:=s.aA++[v]}
def jo (s:cX) (at0 k:Int) (key:O) (v:V):gB:=match lj s.cs k key v with
 |none=>.err 4
 |some b=>eH {s with cs:=b} at0 v
def fj (s:cX) (at0:Int) (t:O):gB:=if 600<s.out.length+t.length then .err 5 else .go at0 {s with out:=s.out++t}
def bO (c k:Int):Int:=if c=1∨c=2∨c=3∨c=10∨c=11∨c=25∨c=30∨c=34∨c=36 then 0 else if c=7∨c=8 then 2 else if c=29 then k else if 12≤c∧c≤23 then 2 else 1
def gQ (s:cX) (at0 c k:Int) (l:List V):gB:=
 if c=3 then eH s at0 (ag s.vs k.toNat)
 else if c=4 then eH {s with vs:=s.vs.set k.toNat (ag l 0)} at0 (ag l 0)
 else if c=5 then lk (cJ 0 (aI (ag s.vs k.toNat)) (aI (ag l 0))) fun v=>eH {s with vs:=s.vs.set k.toNat v} at0 v
 else if c=6 then eH s at0 (fB s.cs k (dj (ag l 0)))
 else if c=7 then jo s at0 k (dj (ag l 0)) (ag l 1)
 else if c=8 then lk (cJ 0 (aI (fB s.cs k (dj (ag l 0)))) (aI (ag l 1))) fun v=>jo s at0 k (dj (ag l 0)) v
 else .go at0 {s with cs:=ns s.cs k (dj (ag l 0))}
def jq (nr:Int) (line:O) (fs:List O) (c k:Int) (s:O) (l:List V):Sum Int V:=
 if c=1 then .inr (nV k)else if c=2 then(if 300<s.length then .inl 3 else .inr (tV s))else if c=9 then .inr (jL line fs (cM (aI (ag l 0))))
 else if c=10 then .inr (nV (1000000*nr))else if c=11 then .inr (nV (1000000*(fs.length:Int)))
 else if c=24 then .inr (bV (kx s (aG (ag l 0))))else if c=25 then .inr (bV (kx s line))else if c=26 then .inr (bV (!gK (ag l 0)))
 else if c=27 then .inr (nV (0-aI (ag l 0)))else if c=28 then .inr (bV (gK (ag l 0)))else if c=29 then .inr (iO s l)else dO c (ag l 0) (ag l 1)
def gR (nr:Int) (line:O) (fs:List O) (s:cX) (at0 c k:Int) (t:O) (l:List V):gB:=
 if c=36 then .halt s else if c=30 then .go k s else if c=31 then(if gK (ag l 0)then .go (at0+1) s else .go k s)else if c=32 then .go (at0+1) s
 else if c=33 then fj s (at0+1) ((if k=1 then [32]else [])++aG (ag l 0))else if c=34 then fj s (at0+1) [10]
 else if c=3∨c=4∨c=5∨c=6∨c=7∨c=8∨c=35 then gQ s (at0+1) c k l
 else lk (jq nr line fs c k t l) fun v=>eH s (at0+1) v
def gS (nr:Int) (line:O) (fs:List O) (s:cX) (at0 c k:Int) (t:O):gB:=
 if(s.aA.length:Int)<bO c k then .err 7
 else gR nr line fs {s with aA:=s.aA.take (s.aA.length-(bO c k).toNat)} at0 c k t (s.aA.drop (s.aA.length-(bO c k).toNat))
abbrev WS:=ae×(ai×Int×Int×af×af×O×af×O×Int×Bool×ae)
def wO (nr:Int) (a b:af) (line:O) (fs:af) (fu:Int) (dn:Bool) (s:cX):WS:=(s.vs,s.cs,nr,0,a,b,line,fs,s.out,fu,dn,s.aA)
def PO (nr:Int) (a b:af) (line:O) (fs:af) (fu:Int) (dn:Bool) (r:gB) (x:WS):Prop:=match r with
 |.err c=>c≠0∧x.2.2.2.1=c
 |.halt _=>False
 |.go _ s=>x=wO nr a b line fs fu dn s
theorem sZ (vs:ae) (cs:ai) (nr:Int) (a b:af) (line:O) (fs:af) (out:O) (fu:Int) (dn:Bool) (aA:List V) (v:V) (at0:Int) (d:aA.length≤64):W fun n=> ∃x,ei n vs cs nr 0 a b line fs out fu dn aA v.1 v.2.1 v.2.2=some x∧PO nr a b line fs fu dn (eH ⟨vs,cs,aA,out⟩ at0 v) x:=by
 refine(ku vs cs nr a b line fs out fu dn 7).nm fun n e=> ?_
 rw [aqJ];by_cases h:aA.length=64
 ·rw [show ((aA.length:Int)==64)=true by simp [h],Y,e,eH,if_pos h]
  exact⟨_,rfl,by omega,rfl⟩
 ·rw [show ((aA.length:Int)==64)=false from beq_eq_false_iff_ne.2 (by omega),da,cx (by omega),eH,if_neg h]
  exact⟨_,rfl,rfl⟩
theorem Vm (vs:ae) (cs:ai) (nr:Int) (a b:af) (line:O) (fs:af) (out:O) (fu:Int) (dn:Bool) (aA:List V) (k:Int) (key:O) (v:V) (at0:Int) (j:aA.length≤64) (h:vs.length≤1048576) (i:cs.length≤1048576):W fun n=> ∃x,vv n vs cs nr 0 a b line fs out fu dn aA k key v.1 v.2.1 v.2.2=some x∧PO nr a b line fs fu dn (jo ⟨vs,cs,aA,out⟩ at0 k key v) x:=by
 cases hp:lj cs k key v with
 |none=>
  refine((Uh vs cs nr 0 k key v h i).and (ku vs cs nr a b line fs out fu dn 4)).nm fun n ⟨d,f⟩=> ?_
  rw [QA,d,hp,jo,hp];simp only [mh,Z,Bool.not_false,Y,f];exact⟨_,rfl,by omega,rfl⟩
 |some g=>
  refine((Uh vs cs nr 0 k key v h i).and (sZ vs g nr a b line fs out fu dn aA v at0 j)).nm fun n ⟨d,x,f,m⟩=> ?_
  rw [QA,d,hp,jo,hp];simp only [mh,Z,Bool.not_true,da,f];exact⟨x,rfl,m⟩
theorem ta (vs:ae) (cs:ai) (nr er:Int) (a b:af) (line:O) (fs:af) (out:O) (fu:Int) (dn:Bool) (t:O) (d:out.length≤600) (f:t.length≤1048576):W fun n=>lS n vs cs nr er a b line fs out fu dn t=some (cond (decide (600<out.length+t.length)) (vs,cs,nr,cond (er==0) 5 er,a,b,line,fs,out,fu,dn) (vs,cs,nr,er,a,b,line,fs,out++t,fu,dn)):=by
 refine(Uo vs cs nr er a b line fs out fu dn 5).nm fun n e=> ?_
 have hw:IntKind.wrap .i64 ((out.length:Int)+(t.length:Int))=((out.length+t.length:Nat):Int):=by rw [IntKind.wrap_i64];omega
 rw [aqE,hw,e];by_cases h:600<out.length+t.length
 ·rw [ez (show (600:Int)<((out.length+t.length:Nat):Int) by omega),ez h];rfl
 ·rw [hJ (show ¬(600:Int)<((out.length+t.length:Nat):Int) by omega),hJ h,mM (by omega)];rfl
theorem Vn (c k:Int) (s:O):W fun n=>zn n c k s=some (bO c k):=by
 refine(cR c 12 23).nm fun n e=> ?_
 rw [aqC,e,bO];by_cases f:c=1∨c=2∨c=3∨c=10∨c=11∨c=25∨c=30∨c=34∨c=36
 ·rw [if_pos f]
  rcases f with rfl|rfl|rfl|rfl|rfl|rfl|rfl|rfl|rfl<;>rfl
 rw [if_neg f];by_cases g:c=7∨c=8
 ·rw [if_pos g]
  rcases g with rfl|rfl<;>rfl
 rw [if_neg g];have ne: ∀j:Int,c≠j→(c==j)=false:=fun j h=>beq_eq_false_iff_ne.2 h
 rw [ne 1 (by omega),ne 2 (by omega),ne 3 (by omega),ne 10 (by omega),ne 11 (by omega),ne 25 (by omega),ne 30 (by omega),ne 34 (by omega),ne 36 (by omega),ne 7 (by omega),ne 8 (by omega)]
 simp only [da];by_cases b:c=29
 ·rw [if_pos b,b];rfl
 rw [ne 29 b,da,if_neg b];by_cases d:12≤c∧c≤23
 ·rw [aB (show In c 12 23 from d),if_pos d];rfl
 ·rw [az (show ¬In c 12 23 from d),if_neg d];rfl
end
theorem pf {vs:List V} {k:Int} (b:0≤k) (h:k<(vs.length:Int)):aM vs (Int.toNat k)=some (ag vs k.toNat):=by
 have hk:k.toNat<vs.length:=by omega
 show vs[k.toNat]? =_;rw [ag,List.getD_eq_getElem?_getD,List.getElem?_eq_getElem hk];rfl
theorem ph {vs:List V} {k:Int} (b:0≤k) (h:k<(vs.length:Int)):decide ((0:Int)≤k∧k<(vs.length:Int))=true:=ez ⟨b,h⟩
theorem Kg {cs:List VC} {nm:Int} {key:O} (h: ∀c∈cs,bP c.2.2):bP (fB cs nm key):=by
 unfold fB;split
 ·split
  ·rename_i c b
   exact h c (List.mem_of_getElem? b)
  ·exact rN
 ·exact rN
structure pj (vs:List V) (cs:List VC) (nr:Int) (line:O) (fs:List O) (out:O) (aA:List V):Prop where
 v: ∀v∈vs,bP v
 vl:vs.length≤1048576
 c: ∀c∈cs,bP c.2.2
 cl:cs.length≤1048576
 nr:0≤nr∧nr≤2000000
 line:line.length≤1000000
 fs:fs.length≤1048576
 out:out.length≤600
 s: ∀v∈aA,bP v
 sl:aA.length≤64
def tb (vs:List V) (c k:Int) (t:O) (l:List V):Prop:=(c=3∨c=4∨c=5→0≤k∧k<(vs.length:Int))∧(l.length:Int)=bO c k∧(c=1→aV k)∧(c=24∨c=25→(gJ t).2.2.2.2.2=true)∧(c=29→1≤k∧k≤3∧t∈iC)∧(c=33→k=0∨k=1)
theorem aDx (vs:ae) (cs:ai) (nr:Int) (a b:af) (line:O) (fs:af) (out:O) (fu:Int) (dn:Bool) (aA:List V) (c k:Int) (t:O) (l:List V) (at0:Int) (h:pj vs cs nr line fs out aA) (hl: ∀v∈l,bP v) (ho:tb vs c k t l) (u:c=3∨c=4∨c=5∨c=6∨c=7∨c=8∨c=35):
  W fun n=> ∃x,lT n vs cs nr 0 a b line fs out fu dn aA c k t l=some x∧PO nr a b line fs fu dn (gQ ⟨vs,cs,aA,out⟩ at0 c k l) x:=by
 obtain⟨j,d, -⟩:=ho;have o0:=eK hl 0;have o1:=eK hl 1;rcases u with rfl|rfl|rfl|rfl|rfl|rfl|rfl
 ·obtain⟨p,q⟩:=j (.inl rfl)
  refine(sZ vs cs nr a b line fs out fu dn aA (ag vs k.toNat) at0 h.sl).nm fun n ⟨x,e,z⟩=> ?_
  rw [qG,ph p q,pf p q,Z,e];exact⟨x,rfl,z⟩
 ·obtain⟨p,q⟩:=j (.inr (.inl rfl))
  have a0:ax l 0=some (ag l 0):=jl (i:=0) (by rw [bO]at d;simp at d;omega)
  refine(sZ (vs.set k.toNat (ag l 0)) cs nr a b line fs out fu dn aA (ag l 0) at0 h.sl).nm fun n ⟨x,e,z⟩=> ?_
  rw [qG,ph p q,pf p q,a0];simp only [Z];have e:ei n (vs.set (Int.toNat k) ((ag l 0).1,(ag l 0).2.1,(ag l 0).2.2)) cs nr 0 a b line fs out fu dn aA (ag l 0).1 (ag l 0).2.1 (ag l 0).2.2=some x:=e;rw [e];exact⟨x,rfl,z⟩
 ·obtain⟨p,q⟩:=j (.inr (.inr rfl))
  have a0:ax l 0=some (ag l 0):=jl (i:=0) (by rw [bO]at d;simp at d;omega)
  have ov:=eK h.v k.toNat;refine((((jk ov.2.1).and (jk o0.2.1)).and (JK vs cs nr a b line fs out fu dn 0 (aI (ag vs k.toNat)) (aI (ag l 0)) (by omega))).and (show W fun n=> ∀v,cJ 0 (aI (ag vs k.toNat)) (aI (ag l 0))=.inr v→ ∃x,ei n (vs.set k.toNat v) cs nr 0 a b line fs out fu dn aA v.1 v.2.1 v.2.2=some x∧PO nr a b line fs fu dn (eH ⟨vs.set k.toNat v,cs,aA,out⟩ at0 v) x from ?_)).nm fun n ⟨⟨⟨g,m⟩,v,r,s⟩,e5⟩=> ?_
  ·cases hm:cJ 0 (aI (ag vs k.toNat)) (aI (ag l 0))with
   |inl c=>exact W.of fun n v f=>by cases f
   |inr w=>exact(sZ (vs.set k.toNat w) cs nr a b line fs out fu dn aA w at0 h.sl).mono fun n hx v f=>by cases f;exact hx
  ·rw [qG,ph p q,pf p q,a0]
   simp only [show ((5:Int)==3)=false from rfl,show((5:Int)==4)=false from rfl,show((5:Int)==5)=true from rfl,Y,da,Z,g,m,r];rw [gQ,if_neg (show ¬(5:Int)=3 by omega),if_neg (show ¬(5:Int)=4 by omega),if_pos rfl]
   dsimp only
   cases hm:cJ 0 (aI (ag vs k.toNat)) (aI (ag l 0))with
   |inl c=>
    have u:c=1:=by
     rw [cJ,if_pos rfl]at hm;revert hm
     obtain⟨p,q⟩:=fV (aI (ag vs k.toNat)) (aI (ag l 0));cases q<;>intro hm<;>cases hm;rfl
    subst u;exact⟨_,rfl,by omega,rfl⟩
   |inr w=>
    have f:=s w hm;subst f;obtain⟨x,f1,f2⟩:=e5 v hm;rw [ph p q];simp only [gP,show((0:Int)==0)=true from rfl,Y];rw [pf p q,Z];have f1:ei n (vs.set (Int.toNat k) (v.1,v.2.1,v.2.2)) cs nr 0 a b line fs out fu dn aA v.1 v.2.1 v.2.2=some x:=f1;rw [f1];exact⟨x,rfl,f2⟩
 ·have a0:ax l 0=some (ag l 0):=jl (i:=0) (by rw [bO]at d;simp at d;omega)
  refine(((BK (ag l 0)).and (Ud vs cs nr 0 k (dj (ag l 0)) h.cl)).and (sZ vs cs nr a b line fs out fu dn aA (fB cs k (dj (ag l 0))) at0 h.sl)).nm fun n ⟨⟨g,m⟩,x,r,s⟩=> ?_
  rw [qG,a0];simp only [Int.reduceBEq,Y,da,Z,g,m,r];exact⟨x,rfl,s⟩
 ·have a0:ax l 0=some (ag l 0):=jl (i:=0) (by rw [bO]at d;simp at d;omega)
  have a1:ax l 1=some (ag l 1):=jl (i:=1) (by rw [bO]at d;simp at d;omega)
  refine((BK (ag l 0)).and (Vm vs cs nr a b line fs out fu dn aA k (dj (ag l 0)) (ag l 1) at0 h.sl h.vl h.cl)).nm fun n ⟨g,x,r,s⟩=> ?_
  rw [qG,a0,a1];simp only [Int.reduceBEq,Y,da,Z,g,r];exact⟨x,rfl,s⟩
 ·have a0:ax l 0=some (ag l 0):=jl (i:=0) (by rw [bO]at d;simp at d;omega)
  have a1:ax l 1=some (ag l 1):=jl (i:=1) (by rw [bO]at d;simp at d;omega)
  have og:bP (fB cs k (dj (ag l 0))):=Kg h.c;refine((((((BK (ag l 0)).and (Ud vs cs nr 0 k (dj (ag l 0)) h.cl)).and (jk og.2.1)).and (jk o1.2.1)).and (JK vs cs nr a b line fs out fu dn 0 (aI (fB cs k (dj (ag l 0)))) (aI (ag l 1)) (by omega))).and (show W fun n=> ∀v,cJ 0 (aI (fB cs k (dj (ag l 0)))) (aI (ag l 1))=.inr v→ ∃x,vv n vs cs nr 0 a b line fs out fu dn aA k (dj (ag l 0)) v.1 v.2.1 v.2.2=some x∧PO nr a b line fs fu dn (jo ⟨vs,cs,aA,out⟩ at0 k (dj (ag l 0)) v) x from ?_)).nm fun n ⟨⟨⟨⟨⟨e0,g⟩,m⟩,r⟩,v,s,e5⟩,e6⟩=> ?_
  ·cases hm:cJ 0 (aI (fB cs k (dj (ag l 0)))) (aI (ag l 1))with
   |inl c=>exact W.of fun n v f=>by cases f
   |inr w=>exact(Vm vs cs nr a b line fs out fu dn aA k (dj (ag l 0)) w at0 h.sl h.vl h.cl).mono fun n hx v f=>by cases f;exact hx
  ·rw [qG,a0,a1]
   simp only [Int.reduceBEq,Y,da,Z,e0,g,m,r,s];rw [gQ,if_neg (show ¬(8:Int)=3 by omega),if_neg (show ¬(8:Int)=4 by omega),if_neg (show ¬(8:Int)=5 by omega),if_neg (show ¬(8:Int)=6 by omega),if_neg (show ¬(8:Int)=7 by omega),if_pos rfl]
   dsimp only
   cases hm:cJ 0 (aI (fB cs k (dj (ag l 0)))) (aI (ag l 1))with
   |inl c=>
    have u:c=1:=by
     rw [cJ,if_pos rfl]at hm;revert hm
     obtain⟨p,q⟩:=fV (aI (fB cs k (dj (ag l 0)))) (aI (ag l 1));cases q<;>intro hm<;>cases hm;rfl
    subst u;exact⟨_,rfl,by omega,rfl⟩
   |inr w=>
    have f:=e5 w hm;subst f;obtain⟨x,f1,f2⟩:=e6 v hm;simp only [gP,show((0:Int)==0)=true from rfl,Y];rw [f1];exact⟨x,rfl,f2⟩
 ·have a0:ax l 0=some (ag l 0):=jl (i:=0) (by rw [bO]at d;simp at d;omega)
  refine((BK (ag l 0)).and (aBX vs cs nr 0 k (dj (ag l 0)) h.vl h.cl)).nm fun n ⟨g,m⟩=> ?_
  rw [qG,a0];simp only [Int.reduceBEq,Y,da,Z,g,m];exact⟨_,rfl,rfl⟩
theorem iT {l:List V} {c k:Int} {j:Nat} (h:(l.length:Int)=bO c k) (hj:(j:Int)<bO c k):ax l (j:Int)=some (ag l j):=jl (by omega)
theorem bB {c j:Int} (h:c≠j):(c==j)=false:=beq_eq_false_iff_ne.2 h
theorem aDy (vs:ae) (cs:ai) (nr:Int) (a b:af) (line:O) (fs:af) (out:O) (fu:Int) (dn:Bool) (aA:List V) (c k:Int) (t:O) (l:List V) (at0:Int) (h:pj vs cs nr line fs out aA) (hl: ∀v∈l,bP v) (ho:tb vs c k t l) (hc:c=1∨c=2∨c=9∨c=10∨c=11∨(12≤c∧c≤29)):
  W fun n=> ∃x,zt n vs cs nr 0 a b line fs out fu dn aA c k t l=some x∧PO nr a b line fs fu dn (lk (jq nr line fs c k t l) fun v=>eH ⟨vs,cs,aA,out⟩ at0 v) x:=by
 obtain⟨a8,m,bd,ao,ar,bf⟩:=ho;have o0:=eK hl 0;have o1:=eK hl 1;have l0:=kr o0;have push:=fun v=>sZ vs cs nr a b line fs out fu dn aA v at0 h.sl
 rcases hc with rfl|rfl|rfl|rfl|rfl|hc
 ·refine((jJ k).and (push (nV k))).nm fun n ⟨g,x,d,f⟩=> ?_
  rw [jj,g];simp only [Int.reduceBEq,Y,da,Z,d];exact⟨x,rfl,f⟩
 ·refine((ku vs cs nr a b line fs out fu dn 3).and (push (tV t))).nm fun n ⟨g,x,d,f⟩=> ?_
  have d:ei n vs cs nr 0 a b line fs out fu dn aA 2 0 t=some x:=d;rw [jj,g,d,jq,if_neg (show ¬(2:Int)=1 by omega),if_pos rfl]
  by_cases h3:300<t.length
  ·rw [ez (show (300:Int)<(t.length:Int) by omega),if_pos h3]
   exact⟨_,rfl,by omega,rfl⟩
  ·rw [hJ (show ¬(300:Int)<(t.length:Int) by omega),if_neg h3]
   exact⟨x,rfl,f⟩
 ·have a0:ax l 0=some (ag l 0):=iT (j:=0) m (by rw [bO];simp)
  refine((aCh vs cs nr 0 a b line fs out fu dn o0 h.fs).and (push (jL line fs (cM (aI (ag l 0)))))).nm fun n ⟨g,x,d,f⟩=> ?_
  rw [jj,a0];simp only [Int.reduceBEq,Y,da,Z,g,d];exact⟨x,rfl,f⟩
 ·have hw:wrap .i64 (1000000*nr)=1000000*nr:=by have:=h.nr;rw [IntKind.wrap_i64];omega
  refine((jJ (1000000*nr)).and (push (nV (1000000*nr)))).nm fun n ⟨g,x,d,f⟩=> ?_
  rw [jj,hw];simp only [Int.reduceBEq,Y,da,Z,g,d];exact⟨x,rfl,f⟩
 ·have hw:wrap .i64 (1000000*(fs.length:Int))=1000000*(fs.length:Int):=by have:=h.fs;rw [IntKind.wrap_i64];omega
  refine((jJ (1000000*(fs.length:Int))).and (push (nV (1000000*(fs.length:Int))))).nm fun n ⟨g,x,d,f⟩=> ?_
  rw [jj,hw];simp only [Int.reduceBEq,Y,da,Z,g,d];exact⟨x,rfl,f⟩
 by_cases bg:c≤23
 ·have ht:bO c k=2:=by rw [bO,if_neg (by omega),if_neg (by omega),if_neg (by omega),if_pos (by omega)]
  have a0:ax l 0=some (ag l 0):=iT (j:=0) m (by omega)
  have a1:ax l 1=some (ag l 1):=iT (j:=1) m (by omega)
  have hv:jq nr line fs c k t l=dO c (ag l 0) (ag l 1):=by
   rw [jq,if_neg (by omega),if_neg (by omega),if_neg (by omega),if_neg (by omega),if_neg (by omega),if_neg (by omega),if_neg (by omega),if_neg (by omega),if_neg (by omega),if_neg (by omega),if_neg (by omega)]
  rw [hv];have hp:W fun n=> ∀v,dO c (ag l 0) (ag l 1)=.inr v→ ∃x,ei n vs cs nr 0 a b line fs out fu dn aA v.1 v.2.1 v.2.2=some x∧PO nr a b line fs fu dn (eH ⟨vs,cs,aA,out⟩ at0 v) x:=by
   cases hm:dO c (ag l 0) (ag l 1)with
   |inl c=>exact W.of fun n v hv=>by cases hv
   |inr w=>exact(push w).mono fun n hx v hv=>by cases hv;exact hx
  have fin: ∀n (v:V),(∀w,dO c (ag l 0) (ag l 1)=.inr w→v=w)→(∀v,dO c (ag l 0) (ag l 1)=.inr v→ ∃x,ei n vs cs nr 0 a b line fs out fu dn aA v.1 v.2.1 v.2.2=some x∧PO nr a b line fs fu dn (eH ⟨vs,cs,aA,out⟩ at0 v) x)→(∀q,dO c (ag l 0) (ag l 1)=.inl q→q≠0)→
    ∃x,cond (gP (dO c (ag l 0) (ag l 1))==(0:Int)) ((ei n vs cs nr (gP (dO c (ag l 0) (ag l 1))) a b line fs out fu dn aA v.1 v.2.1 v.2.2).bind fun s=>some (s.1,s.2.1,s.2.2.1,s.2.2.2.1,s.2.2.2.2.1,s.2.2.2.2.2.1,s.2.2.2.2.2.2.1,s.2.2.2.2.2.2.2.1,s.2.2.2.2.2.2.2.2.1,s.2.2.2.2.2.2.2.2.2.1,s.2.2.2.2.2.2.2.2.2.2.1,s.2.2.2.2.2.2.2.2.2.2.2)) (some (vs,cs,nr,gP (dO c (ag l 0) (ag l 1)),a,b,line,fs,out,fu,dn,aA))=some x∧PO nr a b line fs fu dn (lk (dO c (ag l 0) (ag l 1)) fun v=>eH ⟨vs,cs,aA,out⟩ at0 v) x:=fun n v q1 q2 q3=>by
   cases hm:dO c (ag l 0) (ag l 1)with
   |inl q=>
    have:=q3 q hm;rw [show (gP (Sum.inl q)==(0:Int))=false from bB this];exact⟨_,rfl,this,rfl⟩
   |inr w=>
    have hv:=q1 w hm;subst hv;obtain⟨x,f1,f2⟩:=q2 v hm;simp only [gP,show((0:Int)==0)=true from rfl,Y,f1];exact⟨x,rfl,f2⟩
  have u: ∀q,dO c (ag l 0) (ag l 1)=.inl q→q≠0:=fun q i=>by
   have z: ∀r:Int×Bool,oZ r=.inl q→q≠0:=fun r hr=>by
    obtain⟨r1,r2⟩:=r;cases r2
    ·cases hr;omega
    ·cases hr
   unfold dO at i;split at i
   ·unfold cJ at i
    split at i
    ·exact z _ i
    split at i
    ·exact z _ i
    split at i
    ·exact z _ i
    split at i
    ·cases i;omega
    split at i
    ·cases i
    ·exact z _ i
   split at i
   ·split at i
    ·cases i;omega
    ·cases i
   ·cases i
  by_cases ad:c=17
  ·subst ad
   refine((aCp vs cs nr a b line fs out fu dn o0 o1).and hp).nm fun n ⟨⟨v,g,d⟩,f⟩=> ?_
   rw [jj,a0,a1];simp only [Int.reduceBEq,Y,da,Z,g];exact fin n v d f u
  by_cases ah:c≤16
  ·have al:dO c (ag l 0) (ag l 1)=cJ (c-12) (aI (ag l 0)) (aI (ag l 1)):=by rw [dO,if_pos ah]
   have hw:wrap .i64 (c-12)=c-12:=by rw [IntKind.wrap_i64];omega
   refine((((jk o0.2.1).and (jk o1.2.1)).and (JK vs cs nr a b line fs out fu dn (c-12) (aI (ag l 0)) (aI (ag l 1)) (by omega))).and hp).nm fun n ⟨⟨⟨g,d⟩,v,f,p⟩,e5⟩=> ?_
   rw [←al]at f p;rw [jj,a0,a1,hw,bB (show c≠1 by omega),bB (show c≠2 by omega),bB (show c≠9 by omega),bB (show c≠10 by omega),bB (show c≠11 by omega),bB ad,bB (show c≠24 by omega),bB (show c≠25 by omega),bB (show c≠26 by omega),bB (show c≠27 by omega),bB (show c≠28 by omega),bB (show c≠29 by omega),ez ah]
   simp only [Y,da,Z,g,d,f];exact fin n v p e5 u
  ·have al:dO c (ag l 0) (ag l 1)=.inr (bV (nu (c-18) (fO (ag l 0) (ag l 1)))):=by rw [dO,if_neg ah,if_neg ad]
   have hw:wrap .i64 (c-18)=c-18:=by rw [IntKind.wrap_i64];omega
   refine((aCq (c-18) o0 o1 (by omega)).and (push (bV (nu (c-18) (fO (ag l 0) (ag l 1)))))).nm fun n ⟨g,x,d,f⟩=> ?_
   rw [al,jj,a0,a1,hw,bB (show c≠1 by omega),bB (show c≠2 by omega),bB (show c≠9 by omega),bB (show c≠10 by omega),bB (show c≠11 by omega),bB ad,bB (show c≠24 by omega),bB (show c≠25 by omega),bB (show c≠26 by omega),bB (show c≠27 by omega),bB (show c≠28 by omega),bB (show c≠29 by omega),hJ ah]
   simp only [Y,da,Z,g,show((0:Int)==0)=true from rfl,d];exact⟨x,rfl,f⟩
 have aw:c=24∨c=25∨c=26∨c=27∨c=28∨c=29:=by omega
 rcases aw with rfl|rfl|rfl|rfl|rfl|rfl
 ·have a0:ax l 0=some (ag l 0):=iT (j:=0) m (by rw [bO];simp)
  refine(((iN (ag l 0)).and (Vk t (aG (ag l 0)) (ao (.inl rfl)) (by omega))).and (push (bV (kx t (aG (ag l 0)))))).nm fun n ⟨⟨g,d⟩,x,f,p⟩=> ?_
  rw [jj,a0];simp only [Int.reduceBEq,Y,da,Z,g,d,f];exact⟨x,rfl,p⟩
 ·refine((Vk t line (ao (.inr rfl)) h.line).and (push (bV (kx t line)))).nm fun n ⟨d,x,f,p⟩=> ?_
  rw [jj];simp only [Int.reduceBEq,Y,da,Z,d,f];exact⟨x,rfl,p⟩
 ·have a0:ax l 0=some (ag l 0):=iT (j:=0) m (by rw [bO];simp)
  refine(((JB (ag l 0)).and (BJ (!gK (ag l 0)))).and (push (bV (!gK (ag l 0))))).nm fun n ⟨⟨g,d⟩,x,f,p⟩=> ?_
  rw [jj,a0];simp only [Int.reduceBEq,Y,da,Z,g,d,f];exact⟨x,rfl,p⟩
 ·have a0:ax l 0=some (ag l 0):=iT (j:=0) m (by rw [bO];simp)
  have hw:wrap .i64 (0-aI (ag l 0))=0-aI (ag l 0):=by have:=eE (jE o0);rw [IntKind.wrap_i64];omega
  refine(((jk o0.2.1).and (jJ (0-aI (ag l 0)))).and (push (nV (0-aI (ag l 0))))).nm fun n ⟨⟨g,d⟩,x,f,p⟩=> ?_
  rw [jj,a0];simp only [Int.reduceBEq,Y,da,Z,g,hw,d,f];exact⟨x,rfl,p⟩
 ·have a0:ax l 0=some (ag l 0):=iT (j:=0) m (by rw [bO];simp)
  refine(((JB (ag l 0)).and (BJ (gK (ag l 0)))).and (push (bV (gK (ag l 0))))).nm fun n ⟨⟨g,d⟩,x,f,p⟩=> ?_
  rw [jj,a0];simp only [Int.reduceBEq,Y,da,Z,g,d,f];exact⟨x,rfl,p⟩
 ·obtain⟨p1,p2,p3⟩:=ar rfl
  have ht:bO 29 k=k:=by rw [bO];simp
  refine((aCC t l hl (by omega) p3).and (push (iO t l))).nm fun n ⟨d,x,f,p⟩=> ?_
  rw [jj];simp only [Int.reduceBEq,Y,da,Z,d,f];exact⟨x,rfl,p⟩
def Kh (nr:Int) (a b:af) (line:O) (fs:af) (fu:Int) (dn:Bool) (r:gB) (x:Int×Bool×WS):Prop:=match r with
 |.err c=>c≠0∧x.2.2.2.2.2.1=c
 |.halt s=>x.2.1=false∧x.2.2=wO nr a b line fs fu dn s
 |.go k s=>x=(k,true,wO nr a b line fs fu dn s)
def wP (vs:List V) (c k:Int) (t:O):Prop:=In c 1 36∧(c=3∨c=4∨c=5→0≤k∧k<(vs.length:Int))∧(c=1→aV k)∧(c=24∨c=25→(gJ t).2.2.2.2.2=true)∧(c=29→1≤k∧k≤3∧t∈iC)∧(c=33→k=0∨k=1)
theorem Vo {vs:List V} {c k:Int} {t:O} (h:wP vs c k t):0≤bO c k∧bO c k≤3:=by
 unfold bO;split
 ·omega
 split
 ·omega
 split
 ·rename_i b
  have:=h.2.2.2.2.1 b;omega
 split<;>omega
def my (r:gB) (at0:Int):Prop:=match r with
 |.go j _=>j=at0
 |.halt _=>False
 |.err _=>True
theorem qQ (s:cX) (at0:Int) (v:V):my (eH s at0 v) at0:=by
 unfold eH;split
 ·exact trivial
 ·exact rfl
theorem xM (s:cX) (at0 k:Int) (key:O) (v:V):my (jo s at0 k key v) at0:=by
 unfold jo;split
 ·exact trivial
 ·exact qQ _ _ _
theorem Cc {r:Sum Int V} {f:V→gB} {at0:Int} (h: ∀v,my (f v) at0):my (lk r f) at0:=by
 cases r
 ·exact trivial
 ·exact h _
theorem Ki (s:cX) (at0 c k:Int) (l:List V):my (gQ s at0 c k l) at0:=by
 unfold gQ;repeat' split
 ·exact qQ _ _ _
 ·exact qQ _ _ _
 ·exact Cc fun v=>qQ _ _ _
 ·exact qQ _ _ _
 ·exact xM _ _ _ _ _
 ·exact Cc fun v=>xM _ _ _ _ _
 ·exact rfl
theorem Vp {nr:Int} {a b:af} {line:O} {fs:af} {fu:Int} {dn:Bool} {r:gB} {x:WS} {at0:Int} (h:PO nr a b line fs fu dn r x) (d:my r at0):Kh nr a b line fs fu dn r (at0,true,x):=by
 cases r with
 |err c=>exact h
 |halt s=>exact absurd h id
 |go j s=>
  have h:x=wO nr a b line fs fu dn s:=h;have d:j=at0:=d;subst h d;exact rfl
theorem Kj (at0:Int) (n:Nat) (vs:ae) (cs:ai) (nr:Int) (a b:af) (line:O) (fs:af) (out:O) (fu:Int) (dn:Bool) (aA:List V) (t:O) (e:lS n vs cs nr 0 a b line fs out fu dn t=some (cond (decide (600<out.length+t.length)) (vs,cs,nr,cond ((0:Int)==0) 5 0,a,b,line,fs,out,fu,dn) (vs,cs,nr,0,a,b,line,fs,out++t,fu,dn))):
  ∃w,lS n vs cs nr 0 a b line fs out fu dn t=some w∧Kh nr a b line fs fu dn (fj ⟨vs,cs,aA,out⟩ at0 t) (at0,true,w.1,w.2.1,w.2.2.1,w.2.2.2.1,w.2.2.2.2.1,w.2.2.2.2.2.1,w.2.2.2.2.2.2.1,w.2.2.2.2.2.2.2.1,w.2.2.2.2.2.2.2.2.1,w.2.2.2.2.2.2.2.2.2.1,w.2.2.2.2.2.2.2.2.2.2,aA):=by
 rw [e];refine⟨_,rfl, ?_⟩
 unfold fj;dsimp only
 by_cases h:600<out.length+t.length
 ·rw [ez h,if_pos h];exact⟨by omega,rfl⟩
 ·rw [hJ h,if_neg h];exact rfl
theorem aDz (vs:ae) (cs:ai) (nr:Int) (a b:af) (line:O) (fs:af) (out:O) (fu:Int) (dn:Bool) (aA:List V) (c k:Int) (t:O) (at0:Int) (h:pj vs cs nr line fs out aA) (ho:wP vs c k t) (ha:0≤at0∧at0≤1000000):
  W fun n=> ∃x,zm n vs cs nr 0 a b line fs out fu dn aA c k t at0=some x∧Kh nr a b line fs fu dn (gS nr line fs ⟨vs,cs,aA,out⟩ at0 c k t) x:=by
 obtain⟨t0,t3⟩:=Vo ho;have bm:=h.sl;have z:wrap .i64 (at0+1)=at0+1:=by rw [IntKind.wrap_i64];omega
 have hw:wrap .i64 ((aA.length:Int)-bO c k)=(aA.length:Int)-bO c k:=by rw [IntKind.wrap_i64];omega
 by_cases hs:(aA.length:Int)<bO c k
 ·refine((Vn c k t).and (ku vs cs nr a b line fs out fu dn 7)).nm fun n ⟨m,e2⟩=> ?_
  rw [lX,m,Z,hw,ez (by omega),Y,e2,gS,if_pos hs]
  exact⟨_,rfl,by omega,rfl⟩
 obtain⟨j,hj⟩: ∃j:Nat,j=aA.length-(bO c k).toNat:=⟨_,rfl⟩
 have bn:j≤aA.length:=by omega
 have p:(aA.length:Int)-bO c k=(j:Int):=by omega
 obtain⟨l,hl⟩: ∃l,l=aA.drop j:=⟨_,rfl⟩
 obtain⟨s',ao⟩: ∃s',s'=aA.take j:=⟨_,rfl⟩
 have aw: ∀v∈l,bP v:=fun v hv=>h.s v (List.mem_of_mem_drop (hl▸hv))
 have aj:(l.length:Int)=bO c k:=by rw [hl,List.length_drop];omega
 have h':pj vs cs nr line fs out s':=⟨h.v,h.vl,h.c,h.cl,h.nr,h.line,h.fs,h.out,fun v hv=>h.s v (List.mem_of_mem_take (ao▸hv)),by rw [ao,List.length_take];omega⟩
 have a1:tb vs c k t l:=⟨ho.2.1,aj,ho.2.2.1,ho.2.2.2.1,ho.2.2.2.2.1,ho.2.2.2.2.2⟩;have o0:=eK aw 0;have l0:=kr o0;have bd:gS nr line fs ⟨vs,cs,aA,out⟩ at0 c k t=gR nr line fs ⟨vs,cs,s',out⟩ at0 c k t l:=by rw [gS,if_neg hs];dsimp only;rw [←hj,←hl,←ao]
 rw [bd];have q:(aA.drop (Int.toNat (j:Int))).take (aA.length-Int.toNat (j:Int))=l:=by rw [Int.toNat_natCast,BM,hl]
 have r:aA.take (Int.toNat (j:Int))=s':=by rw [Int.toNat_natCast,ao]
 have u:Nat.ble (Int.toNat (j:Int)) aA.length=true:=Nat.ble_eq_true_of_le (by omega)
 have f:decide ((0:Int)≤(j:Int)∧(j:Int)≤(aA.length:Int))=true:=ez (by omega)
 have d:=Vn c k t;have g:decide ((j:Int)<0)=false:=hJ (by omega)
 have i:Nat.ble (0+l.length) big=true:=cx (by omega)
 have d0:1≤l.length→decide ((0:Int)≤0∧(0:Int)<(l.length:Int))=true:=fun h=>ez (by omega)
 have a0:1≤l.length→aM l 0=some (ag l 0):=fun h=>by
  show l[0]? =_;rw [ag,List.getD_eq_getElem?_getD,List.getElem?_eq_getElem (show 0<l.length by omega)];rfl
 by_cases ak:c=36
 ·subst ak
  refine d.nm fun n m=> ?_
  rw [lX,m,Z,hw,p,g,q,r,u,i,f];exact⟨_,rfl,rfl,rfl⟩
 by_cases al:c=30
 ·subst al
  refine d.nm fun n m=> ?_
  rw [lX,m,Z,hw,p,g,q,r,u,i,f];exact⟨_,rfl,rfl⟩
 by_cases aq:c=31
 ·subst aq
  have h1:1≤l.length:=by rw [bO]at aj;simp at aj;omega
  refine(d.and (JB (ag l 0))).nm fun n ⟨m,e2⟩=> ?_
  rw [lX,m,Z,hw,p,g,q,r,u,i,f,d0 h1,a0 h1,z];simp only [Int.reduceBEq,Y,da,Z,e2];rw [gR,if_neg ak,if_neg al,if_pos rfl];cases gK (ag l 0)
  ·exact⟨_,rfl,rfl⟩
  ·exact⟨_,rfl,rfl⟩
 by_cases au:c=32
 ·subst au
  refine d.nm fun n m=> ?_
  rw [lX,m,Z,hw,p,g,q,r,u,i,f,z];exact⟨_,rfl,rfl⟩
 by_cases ax:c=33
 ·subst ax
  have h1:1≤l.length:=by rw [bO]at aj;simp at aj;omega
  rw [gR,if_neg ak,if_neg al,if_neg aq,if_neg au,if_pos rfl];by_cases k1:k=1
  ·subst k1
   rw [if_pos rfl];by_cases a6:600<out.length+1
   ·have hf:fj ⟨vs,cs,s',out⟩ (at0+1) ([32]++aG (ag l 0))=.err 5:=by
     unfold fj;rw [if_pos];rw [List.length_append];show 600<out.length+(1+(aG (ag l 0)).length);omega
    refine(((d.and (iN (ag l 0))).and (ta vs cs nr 0 a b line fs out fu dn [32] h.out (by simp))).and (ta vs cs nr 5 a b line fs out fu dn (aG (ag l 0)) h.out (by omega))).nm fun n ⟨⟨⟨m,e2⟩,e3⟩,e4⟩=> ?_
    rw [ez (show 600<out.length+([32]:O).length from a6)]at e3;have e3:lS n vs cs nr 0 a b line fs out fu dn [32]=some (vs,cs,nr,5,a,b,line,fs,out,fu,dn):=e3;rw [lX,m,Z,hw,p,g,q,r,u,i,f,d0 h1,a0 h1,z];simp only [Int.reduceBEq,Y,da,Z,e3,e2,e4];rw [hf];cases decide (600<out.length+(aG (ag l 0)).length)
    ·exact⟨_,rfl,by omega,rfl⟩
    ·exact⟨_,rfl,by omega,rfl⟩
   ·have hf:fj ⟨vs,cs,s',out⟩ (at0+1) ([32]++aG (ag l 0))=fj ⟨vs,cs,s',out++[32]⟩ (at0+1) (aG (ag l 0)):=by
     unfold fj;dsimp only
     rw [List.append_assoc,List.length_append,List.length_append,Nat.add_assoc]
    refine(((d.and (iN (ag l 0))).and (ta vs cs nr 0 a b line fs out fu dn [32] h.out (by simp))).and (ta vs cs nr 0 a b line fs (out++[32]) fu dn (aG (ag l 0)) (by rw [List.length_append,List.length_singleton];omega) (by omega))).nm fun n ⟨⟨⟨m,e2⟩,e3⟩,e4⟩=> ?_
    rw [hJ (show ¬600<out.length+([32]:O).length from a6)]at e3;obtain⟨w,f1,f2⟩:=Kj (at0+1) n vs cs nr a b line fs (out++[32]) fu dn s' (aG (ag l 0)) e4;have e3:lS n vs cs nr 0 a b line fs out fu dn [32]=some (vs,cs,nr,0,a,b,line,fs,out++[32],fu,dn):=e3;rw [lX,m,Z,hw,p,g,q,r,u,i,f,d0 h1,a0 h1,z];simp only [Int.reduceBEq,Y,da,Z,e3,e2,f1];rw [hf];exact⟨_,rfl,f2⟩
  ·rw [if_neg k1,List.nil_append]
   refine((d.and (iN (ag l 0))).and (ta vs cs nr 0 a b line fs out fu dn (aG (ag l 0)) h.out (by omega))).nm fun n ⟨⟨m,e2⟩,e4⟩=> ?_
   obtain⟨w,f1,f2⟩:=Kj (at0+1) n vs cs nr a b line fs out fu dn s' (aG (ag l 0)) e4;rw [lX,m,Z,hw,p,g,q,r,u,i,f,d0 h1,a0 h1,z,bB k1];simp only [Int.reduceBEq,Y,da,Z,e2,f1];exact⟨_,rfl,f2⟩
 by_cases az:c=34
 ·subst az
  refine(d.and (ta vs cs nr 0 a b line fs out fu dn [10] h.out (by simp))).nm fun n ⟨m,e4⟩=> ?_
  obtain⟨w,f1,f2⟩:=Kj (at0+1) n vs cs nr a b line fs out fu dn s' [10] e4;rw [lX,m,Z,hw,p,g,q,r,u,i,f,z];simp only [Int.reduceBEq,Y,da,Z,f1];exact⟨_,rfl,f2⟩
 have cn: ∀n,zn n c k t=some (bO c k)→zm (n+1) vs cs nr 0 a b line fs out fu dn aA c k t at0=cond (decide (c=3∨c=4∨c=5∨c=6∨c=7∨c=8∨c=35)) ((lT n vs cs nr 0 a b line fs out fu dn s' c k t l).bind fun y=>some (at0+1,true,y)) ((zt n vs cs nr 0 a b line fs out fu dn s' c k t l).bind fun y=>some (at0+1,true,y)):=fun n m=>by
  rw [lX,m,Z,hw,p,g,q,r,u,i,f,z,bB ak,bB al,bB aq,bB au,bB ax,bB az];by_cases d3:c=3∨c=4∨c=5∨c=6∨c=7∨c=8∨c=35
  ·rw [ez d3]
   rcases d3 with rfl|rfl|rfl|rfl|rfl|rfl|rfl<;>rfl
  ·rw [hJ d3,bB (show c≠3 by omega),bB (show c≠4 by omega),bB (show c≠5 by omega),bB (show c≠6 by omega),bB (show c≠7 by omega),bB (show c≠8 by omega),bB (show c≠35 by omega)]
   rfl
 have hd:gR nr line fs ⟨vs,cs,s',out⟩ at0 c k t l=if c=3∨c=4∨c=5∨c=6∨c=7∨c=8∨c=35 then gQ ⟨vs,cs,s',out⟩ (at0+1) c k l else lk (jq nr line fs c k t l) fun v=>eH ⟨vs,cs,s',out⟩ (at0+1) v:=by
  rw [gR,if_neg ak,if_neg al,if_neg aq,if_neg au,if_neg ax,if_neg az]
 rw [hd];by_cases d3:c=3∨c=4∨c=5∨c=6∨c=7∨c=8∨c=35
 ·refine(d.and (aDx vs cs nr a b line fs out fu dn s' c k t l (at0+1) h' aw a1 d3)).nm fun n ⟨m,x,e2,e3⟩=> ?_
  rw [cn n m,ez d3,Y,e2,if_pos d3];exact⟨_,rfl,Vp e3 (Ki _ _ _ _ _)⟩
 ·have bp:=ho.1.1
  have bk:=ho.1.2;refine(d.and (aDy vs cs nr a b line fs out fu dn s' c k t l (at0+1) h' aw a1 (by omega))).nm fun n ⟨m,x,e2,e3⟩=> ?_
  rw [cn n m,hJ d3,da,e2,if_neg d3];exact⟨_,rfl,Vp e3 (Cc fun v=>qQ _ _ _)⟩
abbrev WI:=ae×(ai×Int×Int×O×O×ae×Int)
def wQ (nr:Int) (line:O) (s:cX):WI:=(s.vs,s.cs,nr,0,line,s.out,s.aA,0)
def IO (nr:Int) (line:O) (r:gB) (x:WI):Prop:=match r with
 |.err c=>c≠0∧x.2.2.2.2.2.2.2=c
 |.halt _=>False
 |.go _ s=>x=wQ nr line s
theorem Vq (vs:ae) (cs:ai) (nr er:Int) (line out:O) (aA:List V) (err c:Int):W fun n=>kn n vs cs nr er line out aA err c=some (vs,cs,nr,er,line,out,aA,cond (err==0) c err):=W.succ (W.of fun n=>by
 rw [avB];cases err==0<;>rfl)
theorem pk (vs:ae) (cs:ai) (nr:Int) (line out:O) (aA:List V) (c:Int):W fun n=>kn n vs cs nr 0 line out aA 0 c=some (vs,cs,nr,0,line,out,aA,c):=Vq vs cs nr 0 line out aA 0 c
theorem Cd (vs:ae) (cs:ai) (nr:Int) (line out:O) (aA:List V) (v:V) (at0:Int) (b:aA.length≤64):W fun n=> ∃x,fi n vs cs nr 0 line out aA 0 v.1 v.2.1 v.2.2=some x∧IO nr line (eH ⟨vs,cs,aA,out⟩ at0 v) x:=by
 refine(pk vs cs nr line out aA 7).nm fun n e=> ?_
 rw [avF];by_cases h:aA.length=64
 ·rw [ez (show (64:Int)≤(aA.length:Int) by omega),Y,e,eH,if_pos h]
  exact⟨_,rfl,by omega,rfl⟩
 ·rw [hJ (show ¬(64:Int)≤(aA.length:Int) by omega),da,cx (by omega),eH,if_neg h]
  exact⟨_,rfl,rfl⟩
theorem Vr (vs:ae) (cs:ai) (nr:Int) (line out:O) (aA:List V) (k:Int) (key:O) (v:V) (at0:Int) (i:aA.length≤64) (g:vs.length≤1048576) (h:cs.length≤1048576):W fun n=> ∃x,sA n vs cs nr 0 line out aA 0 k key v.1 v.2.1 v.2.2=some x∧IO nr line (jo ⟨vs,cs,aA,out⟩ at0 k key v) x:=by
 cases hp:lj cs k key v with
 |none=>
  refine((Uj vs cs nr 0 k key v g h).and (pk vs cs nr line out aA 4)).nm fun n ⟨b,d⟩=> ?_
  rw [IX,b,hp,jo,hp];simp only [mh,Z,Bool.not_false,Y,d];exact⟨_,rfl,by omega,rfl⟩
 |some f=>
  refine((Uj vs cs nr 0 k key v g h).and (Cd vs f nr line out aA v at0 i)).nm fun n ⟨b,x,d,j⟩=> ?_
  rw [IX,b,hp,jo,hp];simp only [mh,Z,Bool.not_true,da,d];exact⟨x,rfl,j⟩
theorem aDA (n:Nat) (vs:ae) (cs:ai) (nr er:Int) (line out:O) (aA:List V) (err k:Int) (key:O) (x y:Int) (z:O) (h:err≠0):sA (n+1) vs cs nr er line out aA err k key x y z=some (vs,cs,nr,er,line,out,aA,err):=by
 rw [IX,show(err !=0)=true by simpa using h];rfl
theorem Ce (vs:ae) (cs:ai) (nr:Int) (line out:O) (aA:List V) (err:Int) (t:O) (b:out.length≤2000) (d:t.length≤1048576):W fun n=>sB n vs cs nr 0 line out aA err t=some (vs,cs,nr,0,line,out++t,aA,cond (decide (600<out.length+t.length)) (cond (err==0) 5 err) err):=by
 refine(Vq vs cs nr 0 line (out++t) aA err 5).nm fun n e=> ?_
 rw [avS,mM (by omega),e,List.length_append]
 by_cases h:600<out.length+t.length
 ·rw [ez (show (600:Int)<((out.length+t.length:Nat):Int) by omega),ez h];rfl
 ·rw [hJ (show ¬(600:Int)<((out.length+t.length:Nat):Int) by omega),hJ h];rfl
theorem Vs (vs:ae) (cs:ai) (nr:Int) (line out:O) (aA:List V) {x y:V} (b:bP x) (hy:bP y):W fun n=> ∃v:V,Ar n vs cs nr 0 line out aA 0 x.1 x.2.1 x.2.2 y.1 y.2.1 y.2.2=some (v.1,v.2.1,v.2.2,vs,cs,nr,0,line,out,aA,gP (cJ 0 (aI x) (aI y)))∧ ∀w,cJ 0 (aI x) (aI y)=.inr w→v=w:=by
 refine(((((np b.2.1).and (np hy.2.1)).and (Ua (aI x) (aI y))).and (pk vs cs nr line out aA 1)).and (mf (fV (aI x) (aI y)).1)).nm fun n ⟨⟨⟨⟨d,f⟩,g⟩,h⟩,i⟩=> ?_
 rw [avG,d,Z,f,Z,g,Z,h,i,cJ,if_pos rfl];obtain⟨p,q⟩:=fV (aI x) (aI y);cases q
 ·exact⟨nV p,rfl,fun w k=>by cases k⟩
 ·exact⟨nV p,rfl,fun w k=>by cases k;rfl⟩
theorem Vt {x y c:Int} (hm:cJ 0 x y=.inl c):c=1:=by
 rw [cJ,if_pos rfl]at hm;revert hm
 obtain⟨p,q⟩:=fV x y;cases q<;>intro hm<;>cases hm;rfl
theorem Cf (v:V):W fun n=> ∃s,gO n v.1 v.2.1 v.2.2=some s∧oM n s=some (dj v):=by
 refine((mg v).and (Uc (aG v))).mono fun n ⟨b,d⟩=>⟨aG v,b,d⟩
theorem aDB (vs:ae) (cs:ai) (nr:Int) (line out:O) (aA:List V) (fs:List O) (c k:Int) (t:O) (l:List V) (at0:Int) (h:pj vs cs nr line fs out aA) (hl: ∀v∈l,bP v) (ho:tb vs c k t l) (u:c=4∨c=5∨c=7∨c=8∨c=35∨c=33∨c=34):
  W fun n=> ∃x,ng n vs cs nr 0 line out aA 0 c k t l=some x∧IO nr line (if c=33 then fj ⟨vs,cs,aA,out⟩ at0 ((if k=1 then [32]else [])++aG (ag l 0))else if c=34 then fj ⟨vs,cs,aA,out⟩ at0 [10]else gQ ⟨vs,cs,aA,out⟩ at0 c k l) x:=by
 obtain⟨z,b, -⟩:=ho;have o0:=eK hl 0;have o1:=eK hl 1;have l0:=kr o0;rcases u with rfl|rfl|rfl|rfl|rfl|rfl|rfl
 ·obtain⟨p,q⟩:=z (.inr (.inl rfl))
  have a0:ax l 0=some (ag l 0):=iT (j:=0) b (by rw [bO];simp)
  refine(Cd (vs.set k.toNat (ag l 0)) cs nr line out aA (ag l 0) at0 h.sl).nm fun n ⟨x,e,e'⟩=> ?_
  rw [oR,ph p q,pf p q,a0];simp only [Z];have e:fi n (vs.set (Int.toNat k) ((ag l 0).1,(ag l 0).2.1,(ag l 0).2.2)) cs nr 0 line out aA 0 (ag l 0).1 (ag l 0).2.1 (ag l 0).2.2=some x:=e;rw [e];exact⟨x,rfl,e'⟩
 ·obtain⟨p,q⟩:=z (.inr (.inr rfl))
  have a0:ax l 0=some (ag l 0):=iT (j:=0) b (by rw [bO];simp)
  have ov:=eK h.v k.toNat;refine((Vs vs cs nr line out aA ov o0).and (show W fun n=> ∀v,cJ 0 (aI (ag vs k.toNat)) (aI (ag l 0))=.inr v→ ∃x,fi n (vs.set k.toNat v) cs nr 0 line out aA 0 v.1 v.2.1 v.2.2=some x∧IO nr line (eH ⟨vs.set k.toNat v,cs,aA,out⟩ at0 v) x from ?_)).nm fun n ⟨⟨v,e3,e4⟩,e5⟩=> ?_
  ·cases hm:cJ 0 (aI (ag vs k.toNat)) (aI (ag l 0))with
   |inl c=>exact W.of fun n v f=>by cases f
   |inr w=>exact(Cd (vs.set k.toNat w) cs nr line out aA w at0 h.sl).mono fun n hx v f=>by cases f;exact hx
  ·rw [oR,ph p q,pf p q,a0]
   simp only [Int.reduceBEq,Y,da,Z,e3];rw [if_neg (show ¬(5:Int)=33 by omega),if_neg (show ¬(5:Int)=34 by omega),gQ,if_neg (show ¬(5:Int)=3 by omega),if_neg (show ¬(5:Int)=4 by omega),if_pos rfl]
   dsimp only
   cases hm:cJ 0 (aI (ag vs k.toNat)) (aI (ag l 0))with
   |inl c=>
    have u:=Vt hm;subst u;exact⟨_,rfl,by omega,rfl⟩
   |inr w=>
    have f:=e4 w hm;subst f;obtain⟨x,f1,f2⟩:=e5 v hm;rw [ph p q];simp only [gP,show((0:Int)==0)=true from rfl,Y];rw [pf p q,Z];have f1:fi n (vs.set (Int.toNat k) (v.1,v.2.1,v.2.2)) cs nr 0 line out aA 0 v.1 v.2.1 v.2.2=some x:=f1;rw [f1];exact⟨x,rfl,f2⟩
 ·have a0:ax l 0=some (ag l 0):=iT (j:=0) b (by rw [bO];simp)
  have a1:ax l 1=some (ag l 1):=iT (j:=1) b (by rw [bO];simp)
  refine((Cf (ag l 0)).and (Vr vs cs nr line out aA k (dj (ag l 0)) (ag l 1) at0 h.sl h.vl h.cl)).nm fun n ⟨⟨s,i,m⟩,x,e3,e4⟩=> ?_
  rw [oR,a0,a1];simp only [Int.reduceBEq,Y,da,Z,i,m,e3];exact⟨x,rfl,e4⟩
 ·have a0:ax l 0=some (ag l 0):=iT (j:=0) b (by rw [bO];simp)
  have a1:ax l 1=some (ag l 1):=iT (j:=1) b (by rw [bO];simp)
  have og:bP (fB cs k (dj (ag l 0))):=Kg h.c;refine((((Cf (ag l 0)).and (Ue vs cs nr 0 k (dj (ag l 0)) h.cl)).and (Vs vs cs nr line out aA og o1)).and ((W.ge 1).and (show W fun n=> ∀v,cJ 0 (aI (fB cs k (dj (ag l 0)))) (aI (ag l 1))=.inr v→ ∃x,sA n vs cs nr 0 line out aA 0 k (dj (ag l 0)) v.1 v.2.1 v.2.2=some x∧IO nr line (jo ⟨vs,cs,aA,out⟩ at0 k (dj (ag l 0)) v) x from ?_))).nm fun n ⟨⟨⟨⟨s,i,m⟩,g⟩,v,e4,e5⟩,hn,e6⟩=> ?_
  ·cases hm:cJ 0 (aI (fB cs k (dj (ag l 0)))) (aI (ag l 1))with
   |inl c=>exact W.of fun n v f=>by cases f
   |inr w=>exact(Vr vs cs nr line out aA k (dj (ag l 0)) w at0 h.sl h.vl h.cl).mono fun n hx v f=>by cases f;exact hx
  ·obtain⟨n,rfl⟩: ∃q,n=q+1:=⟨n-1,by omega⟩
   rw [oR,a0,a1];simp only [Int.reduceBEq,Y,da,Z,i,m,g,e4];rw [if_neg (show ¬(8:Int)=33 by omega),if_neg (show ¬(8:Int)=34 by omega),gQ,if_neg (show ¬(8:Int)=3 by omega),if_neg (show ¬(8:Int)=4 by omega),if_neg (show ¬(8:Int)=5 by omega),if_neg (show ¬(8:Int)=6 by omega),if_neg (show ¬(8:Int)=7 by omega),if_pos rfl]
   dsimp only
   cases hm:cJ 0 (aI (fB cs k (dj (ag l 0)))) (aI (ag l 1))with
   |inl c=>
    have u:=Vt hm;subst u;rw [aDA _ _ _ _ _ _ _ _ _ _ _ _ _ _ (show gP (.inl 1)≠0 from by decide)]
    exact⟨_,rfl,by omega,rfl⟩
   |inr w=>
    have f:=e5 w hm;subst f;obtain⟨x,f1,f2⟩:=e6 v hm;simp only [gP];rw [f1];exact⟨x,rfl,f2⟩
 ·have a0:ax l 0=some (ag l 0):=iT (j:=0) b (by rw [bO];simp)
  refine((Cf (ag l 0)).and (aBY vs cs nr 0 k (dj (ag l 0)) h.vl h.cl)).nm fun n ⟨⟨s,i,m⟩,g⟩=> ?_
  rw [oR,a0];simp only [Int.reduceBEq,Y,da,Z,i,m,g];exact⟨_,rfl,rfl⟩
 ·have a0:ax l 0=some (ag l 0):=iT (j:=0) b (by rw [bO];simp)
  have ho:=h.out;rw [if_pos rfl];by_cases k1:k=1
  ·subst k1
   rw [if_pos rfl];obtain⟨i,r⟩: ∃i,i=cond (decide (600<out.length+([32]:O).length)) (cond ((0:Int)==0) (5:Int) 0) 0:=⟨_,rfl⟩
   refine(((mg (ag l 0)).and (Ce vs cs nr line out aA 0 [32] (by omega) (by simp))).and (Ce vs cs nr line (out++[32]) aA i (aG (ag l 0)) (by simp;omega) (by omega))).nm fun n ⟨⟨m,g⟩,e3⟩=> ?_
   rw [←r]at g;rw [oR,a0];simp only [Int.reduceBEq,Y,da,Z,m,g,e3];refine⟨_,rfl, ?_⟩
   unfold fj;dsimp only
   by_cases d:600<out.length+([32]++aG (ag l 0)).length
   ·rw [if_pos d]
    refine⟨by omega, ?_⟩
    rw [List.length_append]at d;rw [ez (show 600<(out++([32]:O)).length+(aG (ag l 0)).length by rw [List.length_append];omega),Y,r]
    cases decide (600<out.length+([32]:O).length)<;>rfl
   ·rw [if_neg d]
    rw [List.length_append]at d;rw [hJ (show ¬600<(out++([32]:O)).length+(aG (ag l 0)).length by rw [List.length_append];omega),da,r,hJ (show ¬600<out.length+([32]:O).length by omega),da,List.append_assoc]
    exact rfl
  ·rw [if_neg k1,List.nil_append]
   refine((mg (ag l 0)).and (Ce vs cs nr line out aA 0 (aG (ag l 0)) (by omega) (by omega))).nm fun n ⟨m,g⟩=> ?_
   rw [oR,a0,bB k1];simp only [Int.reduceBEq,Y,da,Z,m,g];refine⟨_,rfl, ?_⟩
   unfold fj;dsimp only
   by_cases d:600<out.length+(aG (ag l 0)).length
   ·rw [if_pos d,ez d];exact⟨by omega,rfl⟩
   ·rw [if_neg d,hJ d];exact rfl
 ·have ho:=h.out
  refine(Ce vs cs nr line out aA 0 [10] (by omega) (by simp)).nm fun n g=> ?_
  rw [oR,g,if_neg (show ¬(34:Int)=33 by omega),if_pos rfl]
  refine⟨_,rfl, ?_⟩
  unfold fj;dsimp only
  by_cases d:600<out.length+([10]:O).length
  ·rw [if_pos d,ez d];exact⟨by omega,rfl⟩
  ·rw [if_neg d,hJ d];exact rfl
theorem tc {l:List V} {c k:Int} {j:Nat} (h:(l.length:Int)=bO c k) (hj:(j:Int)<bO c k):aM l j=some (ag l j):=by
 show l[j]? =_;rw [ag,List.getD_eq_getElem?_getD,List.getElem?_eq_getElem (show j<l.length by omega)];rfl
theorem aDC {c q:Int} {x y:V} (b:dO c x y=.inl q):q≠0:=by
 have d: ∀r:Int×Bool,oZ r=.inl q→q≠0:=fun r f=>by
  obtain⟨h,g⟩:=r;cases g
  ·cases f;omega
  ·cases f
 unfold dO at b;split at b
 ·unfold cJ at b
  split at b
  ·exact d _ b
  split at b
  ·exact d _ b
  split at b
  ·exact d _ b
  split at b
  ·cases b;omega
  split at b
  ·cases b
  ·exact d _ b
 split at b
 ·split at b
  ·cases b;omega
  ·cases b
 ·cases b
theorem aDD (vs:ae) (cs:ai) (nr:Int) (line out:O) (aA:List V) (c k:Int) (t:O) (l:List V) (at0:Int) (h:pj vs cs nr line (aP [] line) out aA) (hl: ∀v∈l,bP v) (ho:tb vs c k t l) (hc:c=1∨c=2∨c=3∨c=6∨c=9∨c=10∨c=11∨(12≤c∧c≤29)):
  W fun n=> ∃x,HN n vs cs nr 0 line out aA 0 c k t l=some x∧IO nr line (if c=3∨c=6 then gQ ⟨vs,cs,aA,out⟩ at0 c k l else lk (jq nr line (aP [] line) c k t l) fun v=>eH ⟨vs,cs,aA,out⟩ at0 v) x:=by
 obtain⟨af,g,az,z,ah,a6⟩:=ho;have u:=eK hl 0;have o1:=eK hl 1;have l0:=kr u;have i:=h.line;have aj:=h.fs;have a7:=h.nr;have push:=fun v=>Cd vs cs nr line out aA v at0 h.sl
 rcases hc with rfl|rfl|rfl|rfl|rfl|rfl|rfl|hc
 ·refine((mf k).and (push (nV k))).nm fun n ⟨f,x,d,b⟩=> ?_
  rw [iJ,f];simp only [Int.reduceBEq,Y,da,Z,d];exact⟨x,rfl,b⟩
 ·refine(((qL t).and (pk vs cs nr line out aA 3)).and (push (tV t))).nm fun n ⟨⟨r,f⟩,x,d,b⟩=> ?_
  rw [iJ,r,f,if_neg (show ¬((2:Int)=3∨(2:Int)=6) by omega),jq,if_neg (show ¬(2:Int)=1 by omega),if_pos rfl]
  simp only [Int.reduceBEq,Y,da,Z,d];by_cases h3:300<t.length
  ·rw [ez (show (300:Int)<(t.length:Int) by omega),if_pos h3]
   exact⟨_,rfl,by omega,rfl⟩
  ·rw [hJ (show ¬(300:Int)<(t.length:Int) by omega),if_neg h3]
   exact⟨x,rfl,b⟩
 ·obtain⟨p,q⟩:=af (.inl rfl)
  refine(push (ag vs k.toNat)).nm fun n ⟨x,e,e'⟩=> ?_
  rw [iJ,ph p q,pf p q];simp only [Int.reduceBEq,Y,da,Z,e];exact⟨x,rfl,e'⟩
 ·have a0:=tc (l:=l) (j:=0) g (by rw [bO];simp)
  have d0:decide ((0:Int)≤0∧(0:Int)<(l.length:Int))=true:=ez (by rw [g,bO];simp)
  refine(((Cf (ag l 0)).and (Ue vs cs nr 0 k (dj (ag l 0)) h.cl)).and (push (fB cs k (dj (ag l 0))))).nm fun n ⟨⟨⟨s,r,f⟩,d⟩,x,b,m⟩=> ?_
  rw [iJ,a0,d0];simp only [Int.reduceBEq,Y,da,Z,r,f,d,b];exact⟨x,rfl,m⟩
 ·have a0:=tc (l:=l) (j:=0) g (by rw [bO];simp)
  have d0:decide ((0:Int)≤0∧(0:Int)<(l.length:Int))=true:=ez (by rw [g,bO];simp)
  refine(((BN u).and (aCg line (cM (aI (ag l 0))) i aj)).and (push (jL line (aP [] line) (cM (aI (ag l 0)))))).nm fun n ⟨⟨r,f⟩,x,d,b⟩=> ?_
  rw [iJ,a0,d0];simp only [Int.reduceBEq,Y,da,Z,r,f,d];exact⟨x,rfl,b⟩
 ·have hw:wrap .i64 (nr*1000000)=1000000*nr:=by rw [IntKind.wrap_i64];omega
  refine((mf (1000000*nr)).and (push (nV (1000000*nr)))).nm fun n ⟨f,x,d,b⟩=> ?_
  rw [iJ,hw];simp only [Int.reduceBEq,Y,da,Z,f,d];exact⟨x,rfl,b⟩
 ·have hw:wrap .i64 (((aP [] line).length:Int)*1000000)=1000000*((aP [] line).length:Int):=by rw [IntKind.wrap_i64];omega
  refine(((JI line i).and (mf (1000000*((aP [] line).length:Int)))).and (push (nV (1000000*((aP [] line).length:Int))))).nm fun n ⟨⟨r,f⟩,x,d,b⟩=> ?_
  rw [iJ,r];simp only [Int.reduceBEq,Y,da,Z,hw,f,d];exact⟨x,rfl,b⟩
 rw [if_neg (show ¬(c=3∨c=6) by omega)]
 by_cases bd:c≤23
 ·have ht:bO c k=2:=by rw [bO,if_neg (by omega),if_neg (by omega),if_neg (by omega),if_pos (by omega)]
  have a0:=tc (l:=l) (j:=0) g (by omega)
  have a1:=tc (l:=l) (j:=1) g (by omega)
  have d0:decide ((0:Int)≤0∧(0:Int)<(l.length:Int))=true:=ez (by omega)
  have d1:decide ((0:Int)≤1∧(1:Int)<(l.length:Int))=true:=ez (by omega)
  have hv:jq nr line (aP [] line) c k t l=dO c (ag l 0) (ag l 1):=by
   rw [jq,if_neg (by omega),if_neg (by omega),if_neg (by omega),if_neg (by omega),if_neg (by omega),if_neg (by omega),if_neg (by omega),if_neg (by omega),if_neg (by omega),if_neg (by omega),if_neg (by omega)]
  rw [hv];have hw:wrap .i64 (wrap .i64 (c-12)+9)=c-12+9:=by rw [IntKind.wrap_i64,IntKind.wrap_i64];omega
  cases hm:dO c (ag l 0) (ag l 1)with
  |inl q=>
   have hq:=aDC hm;refine((Uq c u o1 (by omega)).and (pk vs cs nr line out aA q)).nm fun n ⟨⟨v,f,d⟩,b⟩=> ?_
   rw [hm]at f;rw [iJ,a0,a1,d0,d1,hw,bB (show c≠1 by omega),bB (show c≠2 by omega),bB (show c≠3 by omega),bB (show c≠6 by omega),bB (show c≠9 by omega),bB (show c≠10 by omega),bB (show c≠11 by omega),bB (show c≠24 by omega),bB (show c≠25 by omega),bB (show c≠26 by omega),bB (show c≠27 by omega),bB (show c≠28 by omega),bB (show c≠29 by omega)]
   simp only [Y,da,Z,f,gP,show(q !=0)=true by simpa using hq,b]
   exact⟨_,rfl,hq,rfl⟩
  |inr w=>
   refine((Uq c u o1 (by omega)).and (push w)).nm fun n ⟨⟨v,f,d⟩,x,b,m⟩=> ?_
   have ak:=d w hm;subst ak;rw [hm]at f;rw [iJ,a0,a1,d0,d1,hw,bB (show c≠1 by omega),bB (show c≠2 by omega),bB (show c≠3 by omega),bB (show c≠6 by omega),bB (show c≠9 by omega),bB (show c≠10 by omega),bB (show c≠11 by omega),bB (show c≠24 by omega),bB (show c≠25 by omega),bB (show c≠26 by omega),bB (show c≠27 by omega),bB (show c≠28 by omega),bB (show c≠29 by omega)]
   simp only [Y,da,Z,f,gP,show((0:Int) !=0)=false from rfl,b];exact⟨x,rfl,m⟩
 have al:c=24∨c=25∨c=26∨c=27∨c=28∨c=29:=by omega
 have one:c=24∨c=26∨c=27∨c=28→decide ((0:Int)≤0∧(0:Int)<(l.length:Int))=true∧aM l 0=some (ag l 0):=fun hh=>by
  have ht:bO c k=1:=by rw [bO,if_neg (by omega),if_neg (by omega),if_neg (by omega),if_neg (by omega)]
  exact⟨ez (by omega),tc (j:=0) g (by omega)⟩
 rcases al with rfl|rfl|rfl|rfl|rfl|rfl
 ·obtain⟨d0,a0⟩:=one (by simp)
  refine((((mg (ag l 0)).and (Vl t (aG (ag l 0)) (z (.inl rfl)) (by omega))).and (wJ (kx t (aG (ag l 0))))).and (push (bV (kx t (aG (ag l 0)))))).nm fun n ⟨⟨⟨f,d⟩,b⟩,x,m,e5⟩=> ?_
  rw [iJ,a0,d0];simp only [Int.reduceBEq,Y,da,Z,f,d,b,m];exact⟨x,rfl,e5⟩
 ·refine(((Vl t line (z (.inr rfl)) i).and (wJ (kx t line))).and (push (bV (kx t line)))).nm fun n ⟨⟨d,b⟩,x,m,e5⟩=> ?_
  rw [iJ];simp only [Int.reduceBEq,Y,da,Z,d,b,m];exact⟨x,rfl,e5⟩
 ·obtain⟨d0,a0⟩:=one (by simp)
  refine(((JC (ag l 0)).and (wJ (!gK (ag l 0)))).and (push (bV (!gK (ag l 0))))).nm fun n ⟨⟨f,d⟩,x,b,m⟩=> ?_
  rw [iJ,a0,d0];simp only [Int.reduceBEq,Y,da,Z,f,d,b];exact⟨x,rfl,m⟩
 ·obtain⟨d0,a0⟩:=one (by simp)
  have hw:wrap .i64 (0-aI (ag l 0))=0-aI (ag l 0):=by have:=eE (jE u);rw [IntKind.wrap_i64];omega
  refine(((np u.2.1).and (mf (0-aI (ag l 0)))).and (push (nV (0-aI (ag l 0))))).nm fun n ⟨⟨f,d⟩,x,b,m⟩=> ?_
  rw [iJ,a0,d0];simp only [Int.reduceBEq,Y,da,Z,f,hw,d,b];exact⟨x,rfl,m⟩
 ·obtain⟨d0,a0⟩:=one (by simp)
  refine(((JC (ag l 0)).and (wJ (gK (ag l 0)))).and (push (bV (gK (ag l 0))))).nm fun n ⟨⟨f,d⟩,x,b,m⟩=> ?_
  rw [iJ,a0,d0];simp only [Int.reduceBEq,Y,da,Z,f,d,b];exact⟨x,rfl,m⟩
 ·obtain⟨p1,p2,p3⟩:=ah rfl
  have ht:bO 29 k=k:=by rw [bO];simp
  refine((aCG t l hl (by omega) p3).and (push (iO t l))).nm fun n ⟨d,x,b,m⟩=> ?_
  rw [iJ];simp only [Int.reduceBEq,Y,da,Z,d,b];exact⟨x,rfl,m⟩
def qR (cells:Int) (cs:List VC):Prop:=((∀c∈cs,CW cells c)∧cs.Pairwise CL)∧cs.length≤40
theorem aDE {cells:Int} {cs:List VC} (h:qR cells cs) (nm:Int) (key:O):qR cells (ns cs nm key):=by
 unfold ns;split
 ·rename_i i hi
  rw [←List.eraseIdx_eq_take_drop_succ];have b:=List.eraseIdx_sublist cs i;exact⟨⟨fun c d=>h.1.1 c (b.subset d),h.1.2.sublist b⟩,by have:=b.length_le;have:=h.2;omega⟩
 ·exact h
theorem Vu {cs:List VC} {nm:Int} {key:O}: ∀a∈cs.take (gh cs nm key),dX a.1 a.2.1 nm key:=by
 intro a b;obtain⟨j,hj,rfl⟩:=List.mem_iff_getElem.1 b;rw [List.length_take]at hj;rw [List.getElem_take];unfold gh at hj;cases e:cs.findIdx? (fun c=>bo (¬dX c.1 c.2.1 nm key))with
 |none=>
  rw [List.findIdx?_eq_none_iff]at e
  have:=e cs[j] (List.getElem_mem (by omega))
  exact Classical.byContradiction fun h=>by rw [aB h]at this;cases this
 |some i=>
  rw [e]at hj;have hj:j<min i cs.length:=hj;obtain⟨f,g,d⟩:=List.findIdx?_eq_some_iff_getElem.1 e
  have:=d j (by omega)
  exact Classical.byContradiction fun h=>by rw [aB h]at this;exact this rfl
theorem Vv {cells:Int} {cs:List VC} {nm:Int} {key:O} (h:qR cells cs) (g:fA cs nm key=none): ∀b∈cs.drop (gh cs nm key),dX nm key b.1 b.2.1:=by
 intro b m;obtain⟨j,hj,rfl⟩:=List.mem_iff_getElem.1 m;rw [List.length_drop]at hj;rw [List.getElem_drop];cases e:cs.findIdx? (fun c=>bo (¬dX c.1 c.2.1 nm key))with
 |none=>
  have:gh cs nm key=cs.length:=by unfold gh;rw [e]
  omega
 |some i=>
  have t:gh cs nm key=i:=by unfold gh;rw [e]
  obtain⟨d,f,u⟩:=List.findIdx?_eq_some_iff_getElem.1 e
  have p: ¬dX cs[i].1 cs[i].2.1 nm key:=fun h=>by rw [az (fun k=>k h)]at f;cases f
  have hy:dX nm key cs[i].1 cs[i].2.1:=by
   rcases YW cs[i].1 cs[i].2.1 nm key with q|q|q
   ·exact absurd q p
   ·exact absurd q (Ui g _ (List.getElem_mem d))
   ·exact q
  have hk:gh cs nm key+j<cs.length:=by omega
  by_cases r:j=0
  ·subst r
   have s:cs[gh cs nm key+0]=cs[i]:=getElem_congr_idx (by omega)
   rw [s];exact hy
  ·exact Ef hy (List.pairwise_iff_getElem.1 h.1.2 i (gh cs nm key+j) d hk (by omega))
theorem aDF {cells:Int} {cs:List VC} (h:qR cells cs) {nm:Int} {key:O} {v:V} (u:0≤nm) (z:nm<cells) (h3:key.length≤300) (s:bP v) {l:List VC} (e:lj cs nm key v=some l):qR cells l:=by
 unfold lj at e;cases hp:fA cs nm key with
 |some i=>
  rw [hp]at e;obtain⟨hi,hq⟩:=oY hp;simp only [List.getElem?_eq_getElem hi]at e
  cases e;have d:=h.1.1 cs[i] (List.getElem_mem hi);refine⟨⟨fun c p=> ?_, ?_⟩,by rw [List.length_set];exact h.2⟩
  ·rcases List.mem_or_eq_of_mem_set p with h'|rfl
   ·exact h.1.1 c h'
   ·exact⟨d.1,d.2.1,d.2.2.1,s⟩
  ·have g: ∀j (hj:j<cs.length),((cs.set i (cs[i].1,cs[i].2.1,v))[j]'(by rw [List.length_set];exact hj)).1=cs[j].1∧((cs.set i (cs[i].1,cs[i].2.1,v))[j]'(by rw [List.length_set];exact hj)).2.1=cs[j].2.1:=by
    intro j hj;rw [List.getElem_set];split
    ·rename_i q;subst q;exact⟨rfl,rfl⟩
    ·exact⟨rfl,rfl⟩
   rw [List.pairwise_iff_getElem];intro a b k f r;rw [List.length_set]at k f;have t:=g a k;have kb:=g b f;have:=List.pairwise_iff_getElem.1 h.1.2 a b k f r;unfold CL at this ⊢;rw [t.1,t.2,kb.1,kb.2];exact this
 |none=>
  rw [hp]at e;have e:(if 40≤cs.length then none else some (cs.take (gh cs nm key)++((nm,key,v)::cs.drop (gh cs nm key))))=some l:=e
  by_cases m:40≤cs.length
  ·rw [if_pos m]at e;cases e
  rw [if_neg m]at e;cases e;refine⟨⟨fun c d=> ?_, ?_⟩,by have:=JF cs nm key;simp;omega⟩
  ·rcases List.mem_append.1 d with d|d
   ·exact h.1.1 c (List.mem_of_mem_take d)
   rcases List.mem_cons.1 d with rfl|d
   ·exact⟨u,z,h3,s⟩
   ·exact h.1.1 c (List.mem_of_mem_drop d)
  ·rw [List.pairwise_append,List.pairwise_cons]
   refine⟨h.1.2.sublist (List.take_sublist _ _),⟨fun b f=>Vv h hp b f,h.1.2.sublist (List.drop_sublist _ _)⟩,fun a k b f=> ?_⟩
   rcases List.mem_cons.1 f with rfl|f
   ·exact Vu a k
   ·exact Ef (Vu a k) (Vv h hp b f)
structure fC (vars cells:Int) (s:cX):Prop where
 v: ∀v∈s.vs,bP v
 vl:(s.vs.length:Int)=vars
 c:qR cells s.cs
 out:s.out.length≤600
 k: ∀v∈s.aA,bP v
 sl:s.aA.length≤64
def nB (vars cells:Int) (j:Int→Prop) (r:gB):Prop:=match r with
 |.err c=>1≤c∧c≤7
 |.halt s=>fC vars cells s
 |.go k s=>fC vars cells s∧j k
def Cg (r:Sum Int V):Prop:=match r with
 |.inl c=>1≤c∧c≤7
 |.inr v=>bP v
theorem Kk {vars cells:Int} {j:Int→Prop} {r:Sum Int V} {f:V→gB} (h:Cg r) (k: ∀v,bP v→nB vars cells j (f v)):nB vars cells j (lk r f):=by
 cases r
 ·exact h
 ·exact k _ h
theorem Kl {op x y:Int} (b:aV x):Cg (cJ op x y):=by
 cases e:cJ op x y with
 |inr v=>exact aCs b e
 |inl c=>
  unfold cJ at e;have k: ∀r,oZ r=.inl c→c=1:=fun r h=>by
   obtain⟨p,q⟩:=r;cases q<;>cases h;rfl
  have:c=1∨c=2:=by
   split at e
   ·exact .inl (k _ e)
   split at e
   ·exact .inl (k _ e)
   split at e
   ·exact .inl (k _ e)
   split at e
   ·cases e;exact .inr rfl
   split at e
   ·cases e
   ·exact .inl (k _ e)
  show 1≤c∧c≤7;omega
theorem aDG {c:Int} {x y:V} (b:bP x):Cg (dO c x y):=by
 unfold dO;split
 ·exact Kl (jE b)
 split
 ·split
  ·exact⟨by omega,by omega⟩
  ·exact rO (by omega)
 ·exact ur _
theorem aDH {nr:Int} {line:O} {fs:List O} {c k:Int} {t:O} {l:List V} (f: ∀v∈l,bP v) (u:c=1→aV k) (z:0≤nr∧nr≤2000000) (hf:fs.length≤1048576):Cg (jq nr line fs c k t l):=by
 have g:=eK f 0;rw [jq];by_cases c1:c=1
 ·rw [if_pos c1];exact lP (u c1)
 rw [if_neg c1];by_cases c2:c=2
 ·rw [if_pos c2]
  by_cases h:300<t.length
  ·rw [if_pos h];exact⟨by omega,by omega⟩
  ·rw [if_neg h];exact rO (by omega)
 rw [if_neg c2];by_cases i:c=9
 ·rw [if_pos i];exact aCi _ _ _
 rw [if_neg i];by_cases j:c=10
 ·rw [if_pos j];exact lP (fU (by omega))
 rw [if_neg j];by_cases m:c=11
 ·rw [if_pos m];exact lP (fU (by omega))
 rw [if_neg m];by_cases p:c=24
 ·rw [if_pos p];exact ur _
 rw [if_neg p];by_cases q:c=25
 ·rw [if_pos q];exact ur _
 rw [if_neg q];by_cases r:c=26
 ·rw [if_pos r];exact ur _
 rw [if_neg r];by_cases s:c=27
 ·rw [if_pos s];have:=eE (jE g);exact lP (fU (by omega))
 rw [if_neg s];by_cases b:c=28
 ·rw [if_pos b];exact ur _
 rw [if_neg b];by_cases d:c=29
 ·rw [if_pos d];exact aCH t f
 ·rw [if_neg d];exact aDG g
theorem tf {vars cells:Int} {j:Int→Prop} {s:cX} {at0:Int} {v:V} (h:fC vars cells s) (d:bP v) (hj:j at0):nB vars cells j (eH s at0 v):=by
 unfold eH;split
 ·exact⟨by omega,by omega⟩
 ·refine⟨⟨h.v,h.vl,h.c,h.out,fun x b=> ?_, ?_⟩,hj⟩
  ·rcases List.mem_append.1 b with b|b
   ·exact h.k x b
   ·rw [List.mem_singleton.1 b];exact d
  ·have:=h.sl
   simp only [List.length_append,List.length_cons,List.length_nil];omega
theorem Vw {vars cells:Int} {j:Int→Prop} {s:cX} {at0:Int} {t:O} (h:fC vars cells s) (hj:j at0):nB vars cells j (fj s at0 t):=by
 unfold fj;split
 ·exact⟨by omega,by omega⟩
 ·exact⟨⟨h.v,h.vl,h.c,by simp only [List.length_append];omega,h.k,h.sl⟩,hj⟩
theorem Vx {vars cells:Int} {j:Int→Prop} {s:cX} {at0 k:Int} {key:O} {v:V} (h:fC vars cells s) (d:0≤k) (f:k<cells) (g:key.length≤300) (b:bP v) (hj:j at0):nB vars cells j (jo s at0 k key v):=by
 unfold jo;split
 ·exact⟨by omega,by omega⟩
 ·rename_i i e
  exact tf ⟨h.v,h.vl,aDF h.c d f g b e,h.out,h.k,h.sl⟩ b hj
theorem Vy {vs:List V} (h: ∀v∈vs,bP v) {k:Nat} {v:V} (b:bP v): ∀x∈vs.set k v,bP x:=fun x d=>by
 rcases List.mem_or_eq_of_mem_set d with f|rfl
 ·exact h x f
 ·exact b
theorem Vz {cells:Int} {cs:List VC} (h:qR cells cs) (nm:Int) (key:O):bP (fB cs nm key):=Kg fun c b=>(h.1.1 c b).2.2.2
theorem VA (v:V):(dj v).length≤300:=by unfold dj;simp;omega
theorem aDI {vars cells:Int} {j:Int→Prop} {s:cX} {at0 c k:Int} {l:List V} (h:fC vars cells s) (f: ∀v∈l,bP v) (g:c=6∨c=7∨c=8∨c=35→0≤k∧k<cells) (hj:j at0):nB vars cells j (gQ s at0 c k l):=by
 have i:=eK f 0;have r:=eK f 1;have m:=eK h.v k.toNat;unfold gQ;split
 ·exact tf h m hj
 split
 ·exact tf ⟨Vy h.v i,by rw [List.length_set];exact h.vl,h.c,h.out,h.k,h.sl⟩ i hj
 split
 ·exact Kk (Kl (jE m)) fun v b=>tf ⟨Vy h.v b,by rw [List.length_set];exact h.vl,h.c,h.out,h.k,h.sl⟩ b hj
 split
 ·exact tf h (Vz h.c _ _) hj
 split
 ·rename_i d
  obtain⟨p,q⟩:=g (by omega)
  exact Vx h p q (VA _) r hj
 split
 ·rename_i d
  obtain⟨p,q⟩:=g (by omega)
  exact Kk (Kl (jE (Vz h.c _ _))) fun v b=>Vx h p q (VA _) b hj
 ·exact⟨⟨h.v,h.vl,aDE h.c _ _,h.out,h.k,h.sl⟩,hj⟩
theorem aDJ {vars cells nr:Int} {line:O} {fs:List O} {j:Int→Prop} {s:cX} {at0 c k:Int} {t:O} {l:List V} (h:fC vars cells s) (d: ∀v∈l,bP v) (f:c=6∨c=7∨c=8∨c=35→0≤k∧k<cells) (g:c=1→aV k) (i:0≤nr∧nr≤2000000) (m:fs.length≤1048576)
  (hj:c≠36→j (at0+1)) (hk:c=30∨c=31→j k):nB vars cells j (gR nr line fs s at0 c k t l):=by
 unfold gR;split
 ·exact h
 rename_i b;have hj:=hj b;split
 ·exact⟨h,hk (by omega)⟩
 split
 ·split
  ·exact⟨h,hj⟩
  ·exact⟨h,hk (by omega)⟩
 split
 ·exact⟨h,hj⟩
 split
 ·exact Vw h hj
 split
 ·exact Vw h hj
 split
 ·exact aDI h d f hj
 ·exact Kk (aDH d g i m) fun v p=>tf h p hj
theorem aDK {vars cells nr:Int} {line:O} {fs:List O} {j:Int→Prop} {s:cX} {at0 c k:Int} {t:O} (h:fC vars cells s) (d:c=6∨c=7∨c=8∨c=35→0≤k∧k<cells) (f:c=1→aV k) (g:0≤nr∧nr≤2000000) (i:fs.length≤1048576)
  (hj:c≠36→j (at0+1)) (hk:c=30∨c=31→j k):nB vars cells j (gS nr line fs s at0 c k t):=by
 unfold gS;split
 ·exact⟨by omega,by omega⟩
 ·exact aDJ ⟨h.v,h.vl,h.c,h.out,fun v b=>h.k v (List.mem_of_mem_take b),by have:=h.sl;rw [List.length_take];omega⟩ (fun v b=>h.k v (List.mem_of_mem_drop b)) d f g i hj hk
theorem VB {vs:List V} {c k n cells:Int} {t:O} (h:iD c k t n vs.length cells):wP vs c k t:=by
 unfold iD at h;refine⟨⟨by omega,by omega⟩,fun b=>by omega,fun b=> ?_,fun b=> ?_,fun b=> ?_,fun b=>by omega⟩
 ·rcases h with h|h|h|h|h|h|h|h|h
  ·exact h.2.1
  all_goals omega
 ·rcases h with h|h|h|h|h|h|h|h|h
  ·omega
  ·omega
  ·omega
  ·omega
  ·exact h.2.2
  all_goals omega
 ·rcases h with h|h|h|h|h|h|h|h|h
  ·omega
  ·omega
  ·omega
  ·omega
  ·omega
  ·exact⟨h.2.1,h.2.2.1,h.2.2.2⟩
  all_goals omega
theorem Km {ops:ae} {vars cells nr:Int} {line:O} {fs:List O} {s:cX} (d:fx ops vars cells) (h:fC vars cells s) (f:0≤nr∧nr≤2000000) (g:fs.length≤1048576) (i:Nat) (hi:i<ops.length):
  nB vars cells (fun j=> ∃q:Nat,j=q∧q<ops.length) (gS nr line fs s i ops[i].1 ops[i].2.1 ops[i].2.2):=by
 obtain⟨r,t,k,m⟩:=d;have hw:=m _ (List.getElem_mem hi);unfold iD at hw;refine aDK h (fun b=>by omega) (fun b=> ?_) f g (fun b=> ?_) (fun b=>⟨ops[i].2.1.toNat,by omega,by omega⟩)
 ·rcases hw with h|h|h|h|h|h|h|h|h
  ·exact h.2.1
  all_goals omega
 ·have p:=k (by omega)
  by_cases e:i=ops.length-1
  ·subst e;exact absurd p b
  ·exact⟨i+1,by omega,by omega⟩
noncomputable def ll (nr:Int) (line:O) (fs:List O) (ops:ae):Nat→cX→Int→Sum Int cX
 |0,_,_=>.inl 6
 |k+1,s,a=>match ax ops a with
  |none=>.inl 7
  |some o=>match gS nr line fs s a o.1 o.2.1 o.2.2 with
   |.err c=>.inl c
   |.halt s'=>.inr s'
   |.go j s'=>ll nr line fs ops k s' j
theorem Kn {nr:Int} {line:O} {fs:List O} {ops:ae} {k:Nat} {s:cX} {i:Nat} (hi:i<ops.length):ll nr line fs ops (k+1) s i=match gS nr line fs s i ops[i].1 ops[i].2.1 ops[i].2.2 with
   |.err c=>.inl c
   |.halt s'=>.inr s'
   |.go j s'=>ll nr line fs ops k s' j:=by
 rw [ll,bj hi]
def tg {α:Type}:Sum α α→α
 |.inl x=>x
 |.inr x=>x
theorem VD {α:Type} (x:Sum α α) (f g:α→Option α) (b: ∀x,f x=some x) (d: ∀x,g x=some x):ay x f g=some (tg x):=by
 cases x
 ·exact b _
 ·exact d _
theorem fC.st {vars cells nr:Int} {line:O} {s:cX} (h:fC vars cells s) (g:vars≤8) (b:0≤nr∧nr≤2000000) (d:line.length≤1000000):pj s.vs s.cs nr line (aP [] line) s.out s.aA:=
 ⟨h.v,by have:=h.vl;omega,fun c f=>(h.c.1.1 c f).2.2.2,by have:=h.c.2;omega,b,d,by have:=sU line [];omega,h.out,h.k,h.sl⟩
theorem VE (c k:Int) (t:O) (b:In c 1 36):W fun n=>Ap n c k t=some (bO c k):=W.succ (W.of fun n=>by
 obtain⟨d,f⟩:=b;rw [avC];obtain rfl|rfl|rfl|rfl|rfl|rfl|rfl|rfl|rfl|rfl|rfl|rfl|rfl|rfl|rfl|rfl|rfl|rfl|rfl|rfl|rfl|rfl|rfl|rfl|rfl|rfl|rfl|rfl|rfl|rfl|rfl|rfl|rfl|rfl|rfl|rfl:c=1∨c=2∨c=3∨c=4∨c=5∨c=6∨c=7∨c=8∨c=9∨c=10∨c=11∨c=12∨c=13∨c=14∨c=15∨c=16∨c=17∨c=18∨c=19∨c=20∨c=21∨c=22∨c=23∨c=24∨c=25∨c=26∨c=27∨c=28∨c=29∨c=30∨c=31∨c=32∨c=33∨c=34∨c=35∨c=36:=by omega
 all_goals rfl)
theorem VF (vs:ae) (cs:ai) (nr:Int) (line out:O) (aA:List V) (k:Int) (hk:0≤k∧k≤3) (d:aA.length≤64):W fun n=>Aq n vs cs nr 0 line out aA 0 k=some (if (aA.length:Int)<k then(List.replicate k.toNat v0,vs,cs,nr,0,line,out,aA,7)else(aA.drop (aA.length-k.toNat),vs,cs,nr,0,line,out,aA.take (aA.length-k.toNat),0)):=by
 refine(pk vs cs nr line out aA 7).nm fun n e=> ?_
 have hw:wrap .i64 ((aA.length:Int)-k)=(aA.length:Int)-k:=by rw [IntKind.wrap_i64];omega
 have f:(4000000:Int)≤(big:Int):=by unfold big;omega
 rw [avD,hw,e];by_cases h:(aA.length:Int)<k
 ·rw [ez (show (aA.length:Int)-k<0 by omega),Y,Z,ez (show (0:Int)≤k∧k≤k∧k≤(big:Int) by omega),if_pos h]
  exact rfl
 ·obtain⟨j,hj⟩: ∃j:Nat,j=aA.length-k.toNat:=⟨_,rfl⟩
  have b:(aA.length:Int)-k=(j:Int):=by omega
  rw [if_neg h,b,←hj,Int.toNat_natCast,hJ (show ¬(j:Int)<0 by omega),ez (show (0:Int)≤(j:Int)∧(j:Int)≤(aA.length:Int) by omega),BM,cx (by simp;omega),Nat.ble_eq_true_of_le (show j≤aA.length by omega)]
  exact rfl
def Ch (nr:Int) (line:O) (ops:ae) (n m:Nat) (t:Int) (r:gB) (y:Option (Sum WI WI)):Prop:=match r with
 |.err c=> ∃x,y=some x∧c≠0∧(tg x).2.2.2.2.2.2.2=c
 |.halt s=>y=some (.inr (wQ nr line s))
 |.go j s=>y=fz n m s.vs s.cs nr 0 line s.out s.aA 0 t j ops
theorem VG {nr:Int} {line:O} {ops:ae} {n m:Nat} {t j:Int} {r:gB} {x:WI} (h:IO nr line r x) (b:my r j):Ch nr line ops n (m+1) t r (fz n (m+1) x.1 x.2.1 x.2.2.1 x.2.2.2.1 x.2.2.2.2.1 x.2.2.2.2.2.1 x.2.2.2.2.2.2.1 x.2.2.2.2.2.2.2 t j ops):=by
 cases r with
 |err c=>
  obtain⟨d,f⟩:=h;refine⟨.inl x, ?_,d,f⟩
  ·rw [nk,show(x.2.2.2.2.2.2.2==(0:Int))=false by rw [f];simpa using d];rfl
 |halt s=>exact absurd h id
 |go q s=>
  have h:x=wQ nr line s:=h;have b:q=j:=b;subst h b;exact rfl
theorem VH (s:cX) (at0:Int) (t:O):my (fj s at0 t) at0:=by
 unfold fj;split
 ·exact trivial
 ·exact rfl
theorem aDL {vars cells nr:Int} {line:O} {s:cX} {ops:ae} (ho:fx ops vars cells) (h:fC vars cells s) (hv:vars≤8) (hn:0≤nr∧nr≤2000000) (al:line.length≤1000000) (i:Nat) (hi:i<ops.length):
  W fun n=> ∀m (t:Int),1≤t∧t≤20000→Ch nr line ops n (m+1) (t+1) (gS nr line (aP [] line) s i ops[i].1 ops[i].2.1 ops[i].2.2) (fz n (m+2) s.vs s.cs nr 0 line s.out s.aA 0 t i ops):=by
 obtain⟨o1,o2,o3,o4⟩:=ho;have hw:=o4 _ (List.getElem_mem hi);have f:=h.st (line:=line) (nr:=nr) hv hn al;have hz:=bj hi;generalize ops[i]=o at hw hz
 obtain⟨c,k,t0⟩:=o;have hq:wP s.vs c k t0:=VB (n:=ops.length) (cells:=cells) (by rw [h.vl];exact hw)
 obtain⟨t1,t3⟩:=Vo hq;have au:=h.sl;have af:wrap .i64 ((i:Int)+1)=(i:Int)+1:=by rw [IntKind.wrap_i64];omega
 have d: ∀t:Int,1≤t∧t≤20000→wrap .i64 (t+1)=t+1:=fun t z=>by rw [IntKind.wrap_i64];omega
 by_cases hs:(s.aA.length:Int)<bO c k
 ·refine((VE c k t0 hq.1).and (VF s.vs s.cs nr line s.out s.aA (bO c k) ⟨t1,t3⟩ au)).mono fun n ⟨g,r⟩ m t z=> ?_
  rw [nk,hz,hJ (show ¬(20000:Int)<t by omega)]
  simp only [Z,g,r,if_pos hs];rw [gS,if_pos hs];exact⟨_,rfl,by omega,rfl⟩
 obtain⟨j,hj⟩: ∃j:Nat,j=s.aA.length-(bO c k).toNat:=⟨_,rfl⟩
 obtain⟨l,hl⟩: ∃l,l=s.aA.drop j:=⟨_,rfl⟩
 obtain⟨s',ah⟩: ∃s',s'=s.aA.take j:=⟨_,rfl⟩
 have aw: ∀v∈l,bP v:=fun v hv=>h.k v (List.mem_of_mem_drop (hl▸hv))
 have ai:(l.length:Int)=bO c k:=by rw [hl,List.length_drop];omega
 have h':pj s.vs s.cs nr line (aP [] line) s.out s':=⟨f.v,f.vl,f.c,f.cl,f.nr,f.line,f.fs,f.out,fun v hv=>h.k v (List.mem_of_mem_take (ah▸hv)),by rw [ah,List.length_take];omega⟩
 have ax:tb s.vs c k t0 l:=⟨hq.2.1,ai,hq.2.2.1,hq.2.2.2.1,hq.2.2.2.2.1,hq.2.2.2.2.2⟩;have u:gS nr line (aP [] line) s i c k t0=gR nr line (aP [] line) ⟨s.vs,s.cs,s',s.out⟩ i c k t0 l:=by rw [gS,if_neg hs];rw [←hj,←hl,←ah]
 have pop:=VF s.vs s.cs nr line s.out s.aA (bO c k) ⟨t1,t3⟩ au;rw [if_neg hs,←hj,←hl,←ah]at pop;have ao:=VE c k t0 hq.1;have start: ∀ {P:Nat→Prop},W P→(∀n,P n→Ap n c k t0=some (bO c k)→Aq n s.vs s.cs nr 0 line s.out s.aA 0 (bO c k)=some (l,s.vs,s.cs,nr,0,line,s.out,s',0)→ ∀m (t:Int),1≤t∧t≤20000→wrap .i64 (t+1)=t+1→Ch nr line ops n (m+1) (t+1) (gR nr line (aP [] line) ⟨s.vs,s.cs,s',s.out⟩ i c k t0 l) (fz n (m+2) s.vs s.cs nr 0 line s.out s.aA 0 t i ops))→W fun n=> ∀m (t:Int),1≤t∧t≤20000→Ch nr line ops n (m+1) (t+1) (gS nr line (aP [] line) s i c k t0) (fz n (m+2) s.vs s.cs nr 0 line s.out s.aA 0 t i ops):=fun hp hk=>by
  rw [u];exact(hp.and (ao.and pop)).mono fun n ⟨a,b,c⟩ m t z=>hk n a b c m t z (d t z)
 have hc:c=36∨c=30∨c=31∨c=32∨(c=4∨c=5∨c=7∨c=8∨c=35∨c=33∨c=34)∨(c=1∨c=2∨c=3∨c=6∨c=9∨c=10∨c=11∨(12≤c∧c≤29)):=by
  obtain⟨p,q⟩:=hq.1;omega
 clear u hs;rcases hc with rfl|rfl|rfl|rfl|hc|hc
 ·refine start (W.of fun _=>trivial) fun n _ g r m t z d=> ?_
  rw [nk,hz,hJ (show ¬(20000:Int)<t by omega)]
  rw [Z];dsimp only
  rw [g,Z,r,Z];exact rfl
 ·refine start (W.of fun _=>trivial) fun n _ g r m t z d=> ?_
  rw [nk,hz,hJ (show ¬(20000:Int)<t by omega)]
  rw [Z];dsimp only
  rw [g,Z,r,Z,d];unfold gR;rw [if_neg (by omega),if_pos rfl,show((0:Int)==0)=true from rfl,Y,da,show((0:Int) !=0)=false from rfl,da,show((30:Int)==36)=false from rfl,da,show((30:Int)==30)=true from rfl,Y]
  exact rfl
 ·have bh:l.length=1:=by rw [bO]at ai;simp at ai;omega
  have a0:aM l 0=some (ag l 0):=tc (l:=l) (j:=0) ai (by rw [bO];simp)
  have d0:decide ((0:Int)≤0∧(0:Int)<(l.length:Int))=true:=ez (by omega)
  refine start (JC (ag l 0)) fun n e0 g r m t z d=> ?_
  rw [nk,hz,hJ (show ¬(20000:Int)<t by omega)]
  rw [Z];dsimp only
  rw [g,Z,r,Z,d,af];dsimp only
  rw [a0,d0,Z,e0,Z];unfold gR;rw [if_neg (by omega),if_neg (by omega),if_pos rfl]
  cases gK (ag l 0)
  ·exact rfl
  ·exact rfl
 ·refine start (W.of fun _=>trivial) fun n _ g r m t z d=> ?_
  rw [nk,hz,hJ (show ¬(20000:Int)<t by omega)]
  rw [Z];dsimp only
  rw [g,Z,r,Z,d,af];unfold gR;rw [if_neg (by omega),if_neg (by omega),if_neg (by omega),if_pos rfl,show((0:Int)==0)=true from rfl,Y,da,show((0:Int) !=0)=false from rfl,da,show((32:Int)==36)=false from rfl,da,show((32:Int)==30)=false from rfl,da,show((32:Int)==31)=false from rfl,da,show((32:Int)==32)=true from rfl,Y]
  exact rfl
 ·refine start (aDB s.vs s.cs nr line s.out s' (aP [] line) c k t0 l ((i:Int)+1) h' aw ax hc) fun n ⟨x,e3,e4⟩ g r m t z d=> ?_
  have hd:gR nr line (aP [] line) ⟨s.vs,s.cs,s',s.out⟩ i c k t0 l=if c=33 then fj ⟨s.vs,s.cs,s',s.out⟩ ((i:Int)+1) ((if k=1 then [32]else [])++aG (ag l 0))else if c=34 then fj ⟨s.vs,s.cs,s',s.out⟩ ((i:Int)+1) [10]else gQ ⟨s.vs,s.cs,s',s.out⟩ ((i:Int)+1) c k l:=by
   unfold gR;rw [if_neg (by omega),if_neg (by omega),if_neg (by omega),if_neg (by omega)]
   by_cases h1:c=33
   ·rw [if_pos h1,if_pos h1]
   by_cases h2:c=34
   ·rw [if_neg h1,if_neg h1,if_pos h2,if_pos h2]
   ·rw [if_neg h1,if_neg h1,if_neg h2,if_neg h2,if_pos (by omega)]
  rw [hd];have hg:my (if c=33 then fj ⟨s.vs,s.cs,s',s.out⟩ ((i:Int)+1) ((if k=1 then [32]else [])++aG (ag l 0))else if c=34 then fj ⟨s.vs,s.cs,s',s.out⟩ ((i:Int)+1) [10]else gQ ⟨s.vs,s.cs,s',s.out⟩ ((i:Int)+1) c k l) ((i:Int)+1):=by
   split
   ·exact VH _ _ _
   split
   ·exact VH _ _ _
   ·exact Ki _ _ _ _ _
  have fin:=VG (ops:=ops) (n:=n) (m:=m) (t:=t+1) e4 hg;rw [nk,hz,hJ (show ¬(20000:Int)<t by omega)]
  clear hd hg e4;rcases hc with rfl|rfl|rfl|rfl|rfl|rfl|rfl
  all_goals
   rw [Z];dsimp only
   rw [g,Z,r,Z,d,af];dsimp only
   rw [e3,Z];exact fin
 ·refine start (aDD s.vs s.cs nr line s.out s' c k t0 l ((i:Int)+1) h' aw ax hc) fun n ⟨x,e3,e4⟩ g r m t z d=> ?_
  have hd:gR nr line (aP [] line) ⟨s.vs,s.cs,s',s.out⟩ i c k t0 l=if c=3∨c=6 then gQ ⟨s.vs,s.cs,s',s.out⟩ ((i:Int)+1) c k l else lk (jq nr line (aP [] line) c k t0 l) fun v=>eH ⟨s.vs,s.cs,s',s.out⟩ ((i:Int)+1) v:=by
   unfold gR;rw [if_neg (by omega),if_neg (by omega),if_neg (by omega),if_neg (by omega),if_neg (by omega),if_neg (by omega)]
   by_cases h1:c=3∨c=6
   ·rw [if_pos h1,if_pos (by omega)]
   ·rw [if_neg h1,if_neg (by omega)]
  rw [hd];have hg:my (if c=3∨c=6 then gQ ⟨s.vs,s.cs,s',s.out⟩ ((i:Int)+1) c k l else lk (jq nr line (aP [] line) c k t0 l) fun v=>eH ⟨s.vs,s.cs,s',s.out⟩ ((i:Int)+1) v) ((i:Int)+1):=by
   split
   ·exact Ki _ _ _ _ _
   ·exact Cc fun v=>qQ _ _ _
  have fin:=VG (ops:=ops) (n:=n) (m:=m) (t:=t+1) e4 hg;rw [nk,hz,hJ (show ¬(20000:Int)<t by omega)]
  clear hd hg e4;rw [Z];dsimp only
  rw [g,Z,r,Z,d,af];dsimp only
  rw [bB (show c≠36 by omega),bB (show c≠30 by omega),bB (show c≠31 by omega),bB (show c≠32 by omega),bB (show c≠4 by omega),bB (show c≠5 by omega),bB (show c≠7 by omega),bB (show c≠8 by omega),bB (show c≠35 by omega),bB (show c≠33 by omega),bB (show c≠34 by omega)]
  rw [e3,Z];exact fin
def Ko (nr:Int) (line:O) (r:Sum Int cX) (x:WI):Prop:=match r with
 |.inl c=>c≠0∧x.2.2.2.2.2.2.2=c
 |.inr s=>x=wQ nr line s
theorem VI {vars cells nr:Int} {line:O} {ops:ae} (f:fx ops vars cells) (u:vars≤8) (g:0≤nr∧nr≤2000000) (b:line.length≤1000000): ∀(k:Nat) (s:cX) (i:Nat),fC vars cells s→i<ops.length→k≤20000→
  W fun n=> ∀m,k<m→ ∃x,fz n m s.vs s.cs nr 0 line s.out s.aA 0 (20001-(k:Int)) i ops=some x∧Ko nr line (ll nr line (aP [] line) ops k s i) (tg x)
 |0,s,i,h,hi,_=>by
  refine(pk s.vs s.cs nr line s.out s.aA 6).mono fun n e m hm=> ?_
  obtain⟨m,rfl⟩: ∃q,m=q+1:=⟨m-1,by omega⟩
  rw [nk,ez (show (20000:Int)<20001-((0:Nat):Int) by omega)]
  simp only [show ((0:Int)==0)=true from rfl,Y,e];exact⟨_,rfl,by omega,rfl⟩
 |k+1,s,i,h,hi,hk=>by
  have hf:(aP [] line).length≤1048576:=by have:=sU line [];omega
  have z:=Km (line:=line) f h g hf i hi;have d:=aDL f h u g b i hi;rw [Kn hi];have ht:(20001:Int)-((k+1:Nat):Int)+1=20001-(k:Int):=by omega
  generalize gS nr line (aP [] line) s i ops[i].1 ops[i].2.1 ops[i].2.2=r at z d
  cases r with
  |err c=>
   refine d.mono fun n d m hm=> ?_
   obtain⟨m,rfl⟩: ∃q,m=q+2:=⟨m-2,by omega⟩
   obtain⟨x,e,p⟩:=d m (20001-((k+1:Nat):Int)) (by omega)
   exact⟨x,e,p⟩
  |halt s'=>
   refine d.mono fun n d m hm=> ?_
   obtain⟨m,rfl⟩: ∃q,m=q+2:=⟨m-2,by omega⟩
   exact⟨_,d m (20001-((k+1:Nat):Int)) (by omega),rfl⟩
  |go j s'=>
   obtain⟨h',q,rfl,hq⟩:=z;refine(d.and (VI f u g b k s' q h' hq (by omega))).mono fun n ⟨d,ih⟩ m hm=> ?_
   obtain⟨m,rfl⟩: ∃q,m=q+2:=⟨m-2,by omega⟩
   have e:=d m (20001-((k+1:Nat):Int)) (by omega)
   rw [ht]at e;obtain⟨x,p,t⟩:=ih (m+1) (by omega)
   exact⟨x,Eq.trans e p,t⟩
theorem VJ {vars cells nr:Int} {line:O} {ops:ae} (d:fx ops vars cells) (g:vars≤8) (f:0≤nr∧nr≤2000000) (b:line.length≤1000000) (s:cX) (h:fC vars cells s):
  W fun n=> ∃x,sx n s.vs s.cs nr 0 line s.out s.aA 0 ops=some x∧Ko nr line (ll nr line (aP [] line) ops 20000 s 0) x:=by
 refine((VI d g f b 20000 s 0 h d.1 (by omega)).and (W.ge 20001)).nm fun n ⟨k,f⟩=> ?_
 obtain⟨x,e,i⟩:=k n (by omega)
 refine⟨tg x, ?_,i⟩
 rw [avA,show fz n n s.vs s.cs nr 0 line s.out s.aA 0 1 0 ops=some x from e,Z];exact VD x _ _ (fun _=>rfl) (fun _=>rfl)
abbrev WE:=ae×(ai×Int×Int×af×af×O×af×O×Int×Bool)
def dt (nr:Int) (a b:af) (line:O) (fs:af) (fu:Int) (dn:Bool) (s:cX):WE:=(s.vs,s.cs,nr,0,a,b,line,fs,s.out,fu,dn)
def Kp (nr:Int) (a b:af) (line:O) (fs:af) (fu:Int) (dn:Bool) (r:Sum Int cX) (x:WE):Prop:=match r with
 |.inl c=>c≠0∧x.2.2.2.1=c
 |.inr s=>x=dt nr a b line fs fu dn s
theorem VK {vars cells nr:Int} {a b:af} {line:O} {fu:Int} {dn:Bool} {ops:ae} (z:fx ops vars cells) (hv:vars≤8) (hn:0≤nr∧nr≤2000000) (d:line.length≤1000000): ∀(k:Nat) (s:cX) (i:Nat),fC vars cells s→i<ops.length→k≤20000→
  W fun n=> ∀m,k<m→ ∃x,vn n m s.vs s.cs nr 0 a b line (aP [] line) s.out fu dn s.aA (20000-(k:Int)) i ops=some x∧Kp nr a b line (aP [] line) fu dn (ll nr line (aP [] line) ops k s i) (tg x)
 |0,s,i,h,hi,_=>by
  refine(ku s.vs s.cs nr a b line (aP [] line) s.out fu dn 6).mono fun n e m hm=> ?_
  obtain⟨m,rfl⟩: ∃q,m=q+1:=⟨m-1,by omega⟩
  rw [sF,show((20000:Int)-((0:Nat):Int)==20000)=true from rfl];simp only [show ((0:Int)==0)=true from rfl,Y,e];exact⟨_,rfl,by omega,rfl⟩
 |k+1,s,i,h,hi,hk=>by
  have hf:(aP [] line).length≤1048576:=by have:=sU line [];omega
  have hr:=Km (line:=line) z h hn hf i hi;have ag:=h.st (line:=line) (nr:=nr) hv hn d;have hq:wP s.vs ops[i].1 ops[i].2.1 ops[i].2.2:=VB (n:=ops.length) (cells:=cells) (by rw [h.vl];exact z.2.2.2 _ (List.getElem_mem hi))
  have p:=aDz s.vs s.cs nr a b line (aP [] line) s.out fu dn s.aA ops[i].1 ops[i].2.1 ops[i].2.2 i ag hq (by have:=z.2.1;omega)
  have hz:=bj hi;have g:((20000:Int)-((k+1:Nat):Int)==20000)=false:=beq_eq_false_iff_ne.2 (by omega)
  have ai:wrap .i64 ((20000:Int)-((k+1:Nat):Int)+1)=20000-(k:Int):=by rw [IntKind.wrap_i64];omega
  rw [Kn hi];have t:(⟨s.vs,s.cs,s.aA,s.out⟩:cX)=s:=rfl;rw [t]at p;generalize gS nr line (aP [] line) s i ops[i].1 ops[i].2.1 ops[i].2.2=r at hr p
  cases r with
  |err c=>
   refine p.mono fun n ⟨x,e,f,u⟩ m hm=> ?_
   obtain⟨m,rfl⟩: ∃q,m=q+2:=⟨m-2,by omega⟩
   rw [sF,g,hz];simp only [show ((0:Int)==0)=true from rfl,Y,da,Z,e];cases hx:x.2.1 with
   |false=>exact⟨_,rfl,f,u⟩
   |true=>
    rw [Bool.not_true,da,sF,show(x.2.2.2.2.2.1==(0:Int))=false by rw [u];simpa using f,da]
    exact⟨_,rfl,f,u⟩
  |halt s'=>
   refine p.mono fun n ⟨x,e,f,u⟩ m hm=> ?_
   obtain⟨m,rfl⟩: ∃q,m=q+1:=⟨m-1,by omega⟩
   rw [sF,g,hz];simp only [show ((0:Int)==0)=true from rfl,Y,da,Z,e,f,Bool.not_false,u];exact⟨_,rfl,rfl⟩
  |go j s'=>
   obtain⟨h',q,rfl,aj⟩:=hr;refine(p.and (VK (a:=a) (b:=b) (fu:=fu) (dn:=dn) z hv hn d k s' q h' aj (by omega))).mono fun n ⟨⟨x,e,f⟩,ih⟩ m hm=> ?_
   obtain⟨m,rfl⟩: ∃q,m=q+1:=⟨m-1,by omega⟩
   have f:x=((q:Int),true,wO nr a b line (aP [] line) fu dn s'):=f;subst f;obtain⟨x,e',ak⟩:=ih m (by omega)
   refine⟨x, ?_,ak⟩
   rw [sF,g,hz];simp only [show ((0:Int)==0)=true from rfl,Y,da,Z,e,Bool.not_true,ai];exact e'
theorem VL {vars cells nr:Int} {a b:af} {line:O} {fu:Int} {dn:Bool} {ops:ae} (f:fx ops vars cells) (i:vars≤8) (g:0≤nr∧nr≤2000000) (d:line.length≤1000000) (s:cX) (h:fC vars cells s) (he:s.aA=[]):
  W fun n=> ∃x,oI n s.vs s.cs nr 0 a b line (aP [] line) s.out fu dn ops=some x∧Kp nr a b line (aP [] line) fu dn (ll nr line (aP [] line) ops 20000 s 0) x:=by
 refine((VK (a:=a) (b:=b) (fu:=fu) (dn:=dn) f i g d 20000 s 0 h f.1 (by omega)).and (W.ge 20001)).nm fun n ⟨k,g⟩=> ?_
 obtain⟨x,e,j⟩:=k n (by omega)
 refine⟨tg x, ?_,j⟩
 rw [he]at e;rw [Qw,show vn n n s.vs s.cs nr 0 a b line (aP [] line) s.out fu dn ([]:ae) 0 0 ops=some x from e,Z];exact VD x _ _ (fun _=>rfl) (fun _=>rfl)
abbrev RT:=ae×(ai×Int×Int×O)
def pn (vs:ae) (cs:ai) (nr b:Int) (r:Sum Int cX):RT:=match r with
 |.inl c=>(vs,cs,nr,c,[])
 |.inr s=>(s.vs,s.cs,b,0,s.out)
noncomputable def fP (ops:ae) (vs:ae) (cs:ai) (nr:Int) (line:O):RT:=
 if 1000000≤nr then(vs,cs,nr,1,[])else pn vs cs nr (nr+1) (ll (nr+1) line (aP [] line) ops 20000 ⟨vs,cs,[],[]⟩ 0)
noncomputable def mA (k:Nat) (ops:ae):RT:=pn (List.replicate k v0) [] 0 0 (ll 0 [] [] ops 20000 ⟨List.replicate k v0,[],[],[]⟩ 0)
theorem Kq {vars cells nr:Int} {line:O} {ops:ae} (f:fx ops vars cells) (g:0≤nr∧nr≤2000000) (b:line.length≤1000000): ∀(k:Nat) (s:cX) (i:Nat),fC vars cells s→i<ops.length→
  match ll nr line (aP [] line) ops k s i with|.inl c=>1≤c∧c≤7|.inr s=>fC vars cells s
 |0,s,i,h,hi=>⟨by omega,by omega⟩
 |k+1,s,i,h,hi=>by
  have m:(aP [] line).length≤1048576:=by have:=sU line [];omega
  have d:=Km (line:=line) f h g m i hi;rw [Kn hi];generalize gS nr line (aP [] line) s i ops[i].1 ops[i].2.1 ops[i].2.2=r at d
  cases r with
  |err c=>exact d
  |halt s'=>exact d
  |go j s'=>
   obtain⟨p,q,rfl,t⟩:=d;exact Kq f g b k s' q p t
def Kr (vars cells:Int) (r:RT):Prop:=kh r.1 r.2.1 r.2.2.1 r.2.2.2.1 vars cells∧r.2.2.2.2.length≤600
theorem VM {vars cells:Int} {vs:ae} {cs:ai} {nr b er:Int} {r:Sum Int cX} (h:match r with|.inl c=>1≤c∧c≤7|.inr s=>fC vars cells s) (d:kh vs cs nr er vars cells) (f:0≤b∧b≤1000000):Kr vars cells (pn vs cs nr b r):=by
 cases r with
 |inl c=>
  obtain⟨p,q⟩:=h;exact⟨⟨d.1,d.2.1,d.2.2.1,d.2.2.2.1,d.2.2.2.2.1,⟨by show 0≤c;omega,by show c≤7;omega⟩⟩,by simp [pn]⟩
 |inr s=>
  have h:fC vars cells s:=h;exact⟨⟨h.v,NQ.2 h.c.1,h.vl,h.c.2,⟨f.1,f.2⟩,⟨by simp [pn],by simp [pn]⟩⟩,h.out⟩
theorem th {vars cells nr er:Int} {vs:ae} {cs:ai} (h:kh vs cs nr er vars cells):fC vars cells ⟨vs,cs,[],[]⟩:=⟨h.1,h.2.2.1,⟨NQ.1 h.2.1,h.2.2.2.1⟩,by simp,by simp,by simp⟩
theorem Kt {vars cells nr er:Int} {ops vs:ae} {cs:ai} {line:O} (d:fx ops vars cells) (h:kh vs cs nr er vars cells) (b:line.length≤1000000):Kr vars cells (fP ops vs cs nr line):=by
 have f:0≤nr∧nr≤1000000:=h.2.2.2.2.1;unfold fP;split
 ·exact⟨⟨h.1,h.2.1,h.2.2.1,h.2.2.2.1,h.2.2.2.2.1,⟨by show(0:Int)≤1;omega,by show(1:Int)≤7;omega⟩⟩,by simp⟩
 ·exact VM (Kq d (by omega) b 20000 _ 0 (th h) d.1) h (by omega)
theorem Ku (k:Nat) (cells:Int):kh (List.replicate k v0) [] 0 0 k cells:=⟨fun v b=>by rw [List.eq_of_mem_replicate b];exact rN,fun i hi=>absurd hi (Nat.not_lt_zero _),by simp,by simp,⟨by omega,by omega⟩,⟨by omega,by omega⟩⟩
theorem Kv {k:Nat} {cells:Int} {ops:ae} (b:fx ops k cells):Kr k cells (mA k ops):=by
 unfold mA;have h:=Ku k cells;exact VM (Kq (line:=[]) b (by omega) (by simp) 20000 _ 0 (th h) b.1) h (by omega)
def VN {α:Type} (y:ae×ai×Int×Int×O×α):RT:=(y.1,y.2.1,y.2.2.1,y.2.2.2.1,y.2.2.2.2.1)
theorem Kw (b:ae) (cs0:ai) (d f:Int) (g:b.length≤1048576) (h:cs0.length≤1048576):W fun n=> ∀x:WE,∃y,vE n x.1 x.2.1 x.2.2.1 x.2.2.2.1 x.2.2.2.2.1 x.2.2.2.2.2.1 x.2.2.2.2.2.2.1 x.2.2.2.2.2.2.2.1 x.2.2.2.2.2.2.2.2.1 x.2.2.2.2.2.2.2.2.2.1 x.2.2.2.2.2.2.2.2.2.2 b cs0 d f=some y∧VN y=cond (x.2.2.2.1 !=0) (b,cs0,d,x.2.2.2.1,([]:O)) (x.1,x.2.1,x.2.2.1,x.2.2.2.1,x.2.2.2.2.2.2.2.2.1):=by
 refine(qM b cs0 d f g h).nm fun n e x=> ?_
 rw [arX,e];cases x.2.2.2.1 !=0
 ·exact⟨_,rfl,rfl⟩
 ·exact⟨_,rfl,rfl⟩
theorem VO {nr:Int} {a b:af} {line:O} {fs:af} {fu:Int} {dn:Bool} {r:Sum Int cX} {x:WE} (h:Kp nr a b line fs fu dn r x) (d:ae) (cs0:ai) (f:Int):cond (x.2.2.2.1 !=0) (d,cs0,f,x.2.2.2.1,([]:O)) (x.1,x.2.1,x.2.2.1,x.2.2.2.1,x.2.2.2.2.2.2.2.2.1)=pn d cs0 f nr r:=by
 cases r with
 |inl c=>
  obtain⟨g,i⟩:=h;rw [i,show(c !=0)=true by simpa using g];rfl
 |inr s=>
  have h:x=dt nr a b line fs fu dn s:=h;subst h;rfl
theorem Kx (b:ae) (cs0:ai) (d f:Int) (g:b.length≤1048576) (h:cs0.length≤1048576):W fun n=> ∀x:WI,∃y,wh n x.1 x.2.1 x.2.2.1 x.2.2.2.1 x.2.2.2.2.1 x.2.2.2.2.2.1 x.2.2.2.2.2.2.1 x.2.2.2.2.2.2.2 b cs0 d f=some y∧VN y=cond (x.2.2.2.2.2.2.2 !=0) (b,cs0,d,x.2.2.2.2.2.2.2,([]:O)) (x.1,x.2.1,x.2.2.1,x.2.2.2.1,x.2.2.2.2.2.1):=by
 refine(sS b cs0 d f g h).nm fun n e x=> ?_
 rw [axD,e];cases x.2.2.2.2.2.2.2 !=0
 ·exact⟨_,rfl,rfl⟩
 ·exact⟨_,rfl,rfl⟩
theorem VP {nr:Int} {line:O} {r:Sum Int cX} {x:WI} (h:Ko nr line r x) (b:ae) (cs0:ai) (d:Int):cond (x.2.2.2.2.2.2.2 !=0) (b,cs0,d,x.2.2.2.2.2.2.2,([]:O)) (x.1,x.2.1,x.2.2.1,x.2.2.2.1,x.2.2.2.2.2.1)=pn b cs0 d nr r:=by
 cases r with
 |inl c=>
  obtain⟨f,g⟩:=h;rw [g,show(c !=0)=true by simpa using f];rfl
 |inr s=>
  have h:x=wQ nr line s:=h;subst h;rfl
theorem aDM (k:Nat) (hk:k≤8):W fun n=>zk n (k:Int)=some (List.replicate k v0,0,0):=by
 refine((UA k 8).and (UB 0 k)).nm fun n ⟨b,d⟩=> ?_
 have hm:min (8:Int) (k:Int)=k:=by omega
 have f:max (0:Int) (k:Int)=k:=by omega
 have g:(8:Int)≤(big:Int):=by unfold big;omega
 rw [apY,b,hm,Z,d];simp only [f,Z];rw [ez (by omega),Y,Int.toNat_natCast]
 rfl
theorem aDN (k:Nat) (hk:k≤8):W fun n=>An n (k:Int)=some (List.replicate k v0,0,0):=W.succ (W.of fun n=>by
 have f:(8:Int)≤(big:Int):=by unfold big;omega
 have b:(cond (decide ((8:Int)<(k:Int))) (8:Int) (k:Int))=k:=by rw [hJ (by omega)];rfl
 have d:(cond (decide ((0:Int)<(k:Int))) (k:Int) (0:Int))=k:=by
  by_cases h:(0:Int)<k
  ·rw [ez h];rfl
  ·rw [hJ h];show(0:Int)=k;omega
 rw [auY,b,d,ez (by omega),Y,Int.toNat_natCast]
 rfl)
theorem aDO (a b:af) (c d:ae) (hp:fx c a.length b.length) (g:a.length≤8):W fun n=>Gg n a b c d=some (mA a.length c):=by
 have h:=Ku a.length b.length;have hm:=th h;refine((((aDM a.length g).and (qM (List.replicate a.length v0) [] 0 0 (by simp;omega) (by simp))).and (VL (a:=[]) (b:=[]) (line:=[]) (nr:=0) (fu:=0) (dn:=false) hp (by omega) (by omega) (by simp) _ hm rfl)).and (Kw (List.replicate a.length v0) [] 0 0 (by simp;omega) (by simp))).nm fun n ⟨⟨⟨i,j⟩,x,f,k⟩,m⟩=> ?_
 have f:oI n (List.replicate a.length v0) [] 0 0 [] [] [] [] [] 0 false c=some x:=f;obtain⟨y,p,q⟩:=m x;rw [apX,i];simp only [Z,j,f,p];exact congrArg some (q.trans (VO k _ _ _))
theorem aDP (a b:af) (c d:ae) (hp:iM a b c d) (h:jD a b c d):W fun n=>HG n a b c d=some (mA a.length c):=by
 obtain⟨-, -, -, -, -,g,u,i, -⟩:=id h;have j:=Ku a.length b.length;have hm:=th j;refine(((((wE a b c d hp).and (aDN a.length g)).and (sS (List.replicate a.length v0) [] 0 0 (by simp;omega) (by simp))).and (VJ (line:=[]) (nr:=0) i (by omega) (by omega) (by simp) _ hm)).and (Kx (List.replicate a.length v0) [] 0 0 (by simp;omega) (by simp))).nm fun n ⟨⟨⟨⟨k,m⟩,p⟩,x,f,q⟩,r⟩=> ?_
 have f:sx n (List.replicate a.length v0) [] 0 0 [] [] [] 0 c=some x:=f;obtain⟨y,s,t⟩:=r x;rw [auX,k,aB h];simp only [Bool.not_true,da,Z,m,p,f,s];exact congrArg some (t.trans (VP q _ _ _))
theorem aDQ (vs:ae) (cs:ai) (nr er:Int) (a b:af) (line:O) (fs:af) (out:O) (fu:Int) (dn:Bool) (ops:ae) (h:er≠0):W fun n=>oI n vs cs nr er a b line fs out fu dn ops=some (vs,cs,nr,er,a,b,line,fs,out,fu,dn):=W.succ (W.succ (W.of fun n=>by
 rw [Qw,sF,show(er==(0:Int))=false by simpa using h];rfl))
theorem aDR (a b:af) (c d:ae) (vs:ae) (cs:ai) (nr:Int) (line:O) (s:fx d a.length b.length) (t:a.length≤8) (g:kh vs cs nr 0 a.length b.length) (i:line.length≤1000000):W fun n=>GL n a b c d vs cs nr 0 line=some (fP d vs cs nr line):=by
 have hm:=th g;have u:0≤nr∧nr≤1000000:=g.2.2.2.2.1;have z:=g.2.2.1;have hc:=g.2.2.2.1;have hw:wrap .i64 (nr+1)=nr+1:=by rw [IntKind.wrap_i64];omega
 by_cases h:1000000≤nr
 ·refine(((((qM vs cs nr 0 (by omega) (by omega)).and (Ul line i)).and (ku vs cs (nr+1) [] [] line (aP [] line) [] 0 false 1)).and (aDQ vs cs (nr+1) 1 [] [] line (aP [] line) [] 0 false d (by omega))).and (Kw vs cs nr 0 (by omega) (by omega))).nm fun n ⟨⟨⟨⟨j,k⟩,f⟩,m⟩,p⟩=> ?_
  obtain⟨y,q,r⟩:=p (vs,cs,nr+1,1,[],[],line,aP [] line,[],0,false);rw [QQ,j,k,hw,ez (by omega)]
  simp only [Y,Z,f,m];rw [q,fP,if_pos h];exact congrArg some r
 ·refine((((qM vs cs nr 0 (by omega) (by omega)).and (Ul line i)).and (VL (a:=[]) (b:=[]) (line:=line) (nr:=nr+1) (fu:=0) (dn:=false) s (by omega) (by omega) i _ hm rfl)).and (Kw vs cs nr 0 (by omega) (by omega))).nm fun n ⟨⟨⟨j,k⟩,x,f,m⟩,p⟩=> ?_
  have f:oI n vs cs (nr+1) 0 [] [] line (aP [] line) [] 0 false d=some x:=f;obtain⟨y,q,r⟩:=p x;rw [QQ,j,k,hw,hJ (by omega)]
  simp only [da,Z,f,q];rw [fP,if_neg h];exact congrArg some (r.trans (VO m _ _ _))
theorem aDS (a b:af) (c d:ae) (vs:ae) (cs:ai) (nr er:Int) (line:O) (hp:iM a b c d) (hk:jD a b c d) (f:kh vs cs nr er a.length b.length) (s:line.length≤1000000):W fun n=>Il n a b c d vs cs nr er line=some (if er≠0 then(vs,cs,nr,er,[])else fP d vs cs nr line):=by
 obtain⟨-, -, -, -, -,u,z, -,hd⟩:=id hk;have hm:=th f;have hn:0≤nr∧nr≤1000000:=f.2.2.2.2.1;have hv:=f.2.2.1;have hc:=f.2.2.2.1;have hw:wrap .i64 (nr+1)=nr+1:=by rw [IntKind.wrap_i64];omega
 have base:=((wE a b c d hp).and (Tz vs cs nr er a.length b.length (by omega) (by omega))).and (sS vs cs nr er (by omega) (by omega))
 by_cases g:er=0
 ·subst g
  rw [if_neg (by simp)]
  by_cases h:1000000≤nr
  ·refine((base.and (pk vs cs nr line [] [] 1)).and (Kx vs cs nr 0 (by omega) (by omega))).nm fun n ⟨⟨⟨⟨i,j⟩,k⟩,m⟩,p⟩=> ?_
   obtain⟨y,q,r⟩:=p (vs,cs,nr,0,line,[],[],1);rw [Ja,i,j,k,aB hk,aB f,ez h];simp only [Bool.not_true,da,Y,Z,show((0:Int) !=0)=false from rfl,m];rw [q,fP,if_pos h];exact congrArg some r
  ·refine((base.and (VJ (line:=line) (nr:=nr+1) hd (by omega) (by omega) s _ hm)).and (Kx vs cs nr 0 (by omega) (by omega))).nm fun n ⟨⟨⟨⟨i,j⟩,k⟩,x,m,t⟩,p⟩=> ?_
   have m:sx n vs cs (nr+1) 0 line [] [] 0 d=some x:=m;obtain⟨y,q,r⟩:=p x;rw [Ja,i,j,k,aB hk,aB f,hJ h];simp only [Bool.not_true,da,Z,show((0:Int) !=0)=false from rfl,hw,m,q];rw [fP,if_neg h];exact congrArg some (r.trans (VP t _ _ _))
 ·refine base.nm fun n ⟨⟨i,j⟩,k⟩=> ?_
  rw [Ja,i,j,k,aB hk,aB f,if_pos g];simp only [Bool.not_true,da,Y,Z,show(er !=0)=true by simpa using g]
theorem VQ {x0:af} {x1:af} {x2:ae} {x3:ae} {x4:Int} {x5:cu} {x6:bw} {x7:Int} {x8:O} {x9:ah} {b:ah} {d:ae} (h:ch (.cons cD (.cons cD (.cons aK (.cons aK (.cons (.int .i64) (.cons fy (.cons eh (.cons (.int .i64) (.cons .str (.cons bf (.cons bf (.one aK)))))))))))) (x0,x1,x2,x3,x4,x5,x6,x7,x8,x9,b,d)):wH x0 x1 x2 x3 x4 x5 x6 x7 x8 x9 b d:=by
 obtain⟨s0,s1,s2,s3, -,s5,s6, -, -,s9,j,f⟩:=h;refine⟨⟨⟨s0.1,s0.2⟩,⟨s1.1,s1.2⟩,⟨s2.1,fun o k=>(s2.2 o k).2.2⟩,⟨s3.1,fun o k=>(s3.2 o k).2.2⟩⟩,⟨s5.1,fun p hp=> ?_⟩,⟨s6.1,fun r m=> ?_⟩,s9.1,j.1,⟨f.1,fun c hc=>(f.2 c hc).2.2⟩⟩
 ·obtain⟨-, -, -, -, -,p5,p6,p7, -, -,q, -, -, -,s,t, -,u,z, -, -,ad, -, -, -,g⟩:=s5.2 p hp
  refine⟨⟨p5.1,fun e he=>(p5.2 e he).2.2.2⟩,p6.1,p7.1,q.1,s.1,t.1,u.1,z.1,ad.1,g.1,fun r m=> ?_⟩
  obtain⟨-, -, -, -, -, -, -,i, -, -⟩:=g.2 r m;exact⟨i.1,fun e he=>(i.2 e he).2.2.2⟩
 ·obtain⟨-, -, -, -, -, -, -,i, -, -⟩:=s6.2 r m
  exact⟨i.1,fun e he=>(i.2 e he).2.2.2⟩
noncomputable section
abbrev MT:=ae×(ai×Int×Int×ah×O)
abbrev nC:=Int×(Int×O)
def qS (a b:af) (c d:ae) (m:MT):Prop:=ou a b c d m.1 m.2.1 m.2.2.1 m.2.2.2.1 m.2.2.2.2.1 m.2.2.2.2.2
def wR (k:Nat) (ops:ae):MT:=((mA k ops).1,(mA k ops).2.1,(mA k ops).2.2.1,(mA k ops).2.2.2.1,List.replicate 3 0,(mA k ops).2.2.2.2)
def nD (dn:ah) (w:Int):Int:=dn.getD w.toNat 0
def jr (ops:ae) (m:MT) (c:nC):MT:=
 if c.1<0∨c.2.1≤nD m.2.2.2.2.1 c.1 then m
 else if m.2.2.2.1≠0 then(m.1,m.2.1,m.2.2.1,m.2.2.2.1,m.2.2.2.2.1.set c.1.toNat c.2.1,m.2.2.2.2.2)
 else if 1500<m.2.2.2.2.2.length+(fP ops m.1 m.2.1 m.2.2.1 c.2.2).2.2.2.2.length then(m.1,m.2.1,m.2.2.1,5,m.2.2.2.2.1.set c.1.toNat c.2.1,m.2.2.2.2.2)
 else((fP ops m.1 m.2.1 m.2.2.1 c.2.2).1,(fP ops m.1 m.2.1 m.2.2.1 c.2.2).2.1,(fP ops m.1 m.2.1 m.2.2.1 c.2.2).2.2.1,(fP ops m.1 m.2.1 m.2.2.1 c.2.2).2.2.2.1,m.2.2.2.2.1.set c.1.toNat c.2.1,m.2.2.2.2.2++(fP ops m.1 m.2.1 m.2.2.1 c.2.2).2.2.2.2)
def Ci (k:Nat) (start main:ae) (l:List nC):MT:=l.foldl (fun m c=>cond (bo (eD c.1 c.2.1 c.2.2)) (jr main m c) m) (wR k start)
theorem VR {a b:af} {c d:ae} (h:jD a b c d):qS a b c d (wR a.length c):=by
 obtain⟨-, -, -, -, -,j,k,f, -⟩:=id h;obtain⟨g,m⟩:=Kv (cells:=b.length) f;exact⟨fun x i=>by rw [List.eq_of_mem_replicate i];exact⟨by omega,by omega⟩,h,g,by simp [wR],by show(mA a.length c).2.2.2.2.length≤1500;omega⟩
theorem VS {a b:af} {c d:ae} {m:MT} {x:nC} (h:qS a b c d m) (k:eD x.1 x.2.1 x.2.2):qS a b c d (jr d m x):=by
 obtain⟨r,i,f,s,p⟩:=id h;unfold jr;split
 ·exact h
 rename_i hw;have k:0≤x.1∧x.1≤2∧1≤x.2.1∧x.2.1≤100000∧x.2.2.length≤60:=by
  rcases k with⟨q, -⟩|⟨t,u,z,p4,p5, -⟩
  ·exact absurd (Or.inl (by omega)) hw
  ·exact⟨t,u,z,p4,p5⟩
 have hd: ∀y∈m.2.2.2.2.1.set x.1.toNat x.2.1,In y 0 100000:=fun y hy=>by
  rcases List.mem_or_eq_of_mem_set hy with h'|rfl
  ·exact r y h'
  ·exact⟨by omega,by omega⟩
 have j:(m.2.2.2.2.1.set x.1.toNat x.2.1).length=3:=by rw [List.length_set];exact s
 split
 ·exact⟨hd,i,f,j,p⟩
 rename_i g;have g:m.2.2.2.1=0:=Classical.byContradiction g;split
 ·exact⟨hd,i,⟨f.1,f.2.1,f.2.2.1,f.2.2.2.1,f.2.2.2.2.1,⟨by show(0:Int)≤5;omega,by show(5:Int)≤7;omega⟩⟩,j,p⟩
 ·rename_i hlen
  have hr:=Kt (line:=x.2.2) i.2.2.2.2.2.2.2.2 f (by omega)
  exact⟨hd,i,hr.1,j,by rw [List.length_append];omega⟩
theorem aDT (a b:af) (c d:ae) (h:jD a b c d):W fun n=>Gf n a b c d=some (wR a.length c):=by
 obtain⟨-, -, -, -, -,g,j,f, -⟩:=id h;obtain⟨k,m⟩:=Kv (cells:=b.length) f;refine(aDO a b c d f g).nm fun n e=> ?_
 have i:(8:Int)≤(big:Int):=by unfold big;omega
 rw [apW,e,Z,hJ (by omega),ez (by omega)]
 rfl
theorem aDU (a b:af) (c d:ae) (hp:iM a b c d) (h:jD a b c d):W fun n=>HF n a b c d=some (wR a.length c):=by
 obtain⟨-, -, -, -, -,j,k,f, -⟩:=id h;obtain⟨m,p⟩:=Kv (cells:=b.length) f;refine((wE a b c d hp).and (aDP a b c d hp h)).nm fun n ⟨g,e⟩=> ?_
 have i:(8:Int)≤(big:Int):=by unfold big;omega
 rw [auW,g,aB h,e];simp only [Z,Bool.not_true,da];rw [hJ (by omega),ez (by omega)]
 rfl
theorem aDV (vs:ae) (cs:ai) (nr er:Int) (dn:ah) (out:O) (b:vs.length≤1048576) (d:cs.length≤1048576) (f:dn.length≤1048576):W fun n=>GK n vs cs nr er dn out=some (vs,cs,nr,er,dn,out):=by
 refine(qM vs cs nr er b d).nm fun n e=> ?_
 rw [arY,e,Z,cx (by omega)];rfl
theorem aDW (n:Nat) (l:ah):Pd (n+1) l=cond (Nat.ble (List.length l) big) (some l) none:=by kernel_rfl
theorem aDX (vs:ae) (cs:ai) (nr er:Int) (dn:ah) (out:O) (b:vs.length≤1048576) (d:cs.length≤1048576) (f:dn.length≤1048576):W fun n=>Ik n vs cs nr er dn out=some (vs,cs,nr,er,dn,out):=by
 refine((sS vs cs nr er b d).and (W.ge 1)).nm fun n ⟨e,g⟩=> ?_
 obtain⟨n,rfl⟩: ∃q,n=q+1:=⟨n-1,by omega⟩
 rw [axE,e,Z,aDW,cx (by omega)];rfl
theorem VT {dn:ah} {w:Int} (b:0≤w) (h:w<(dn.length:Int)):ax dn w=some (nD dn w)∧aM dn (Int.toNat w)=some (nD dn w):=by
 obtain⟨k,rfl⟩: ∃k:Nat,w=k:=⟨w.toNat,by omega⟩
 have hk:k<dn.length:=by omega
 have e:nD dn (k:Int)=dn[k]:=by rw [nD,Int.toNat_natCast,List.getD_eq_getElem?_getD,List.getElem?_eq_getElem hk];rfl
 exact⟨by rw [bj hk,e],by rw [fe hk,e]⟩
theorem aDY (a b:af) (c d:ae) (m:MT) (x:nC) (h:qS a b c d m) (p:eD x.1 x.2.1 x.2.2):W fun n=>GJ n a b c d m.1 m.2.1 m.2.2.1 m.2.2.2.1 m.2.2.2.2.1 m.2.2.2.2.2 x.1 x.2.1 x.2.2=some (jr d m x):=by
 obtain⟨vs,cs,nr,er,dn,out⟩:=m;obtain⟨w,q,line⟩:=x;obtain⟨h1,r,i,h4,h5⟩:=id h;dsimp only at h1 r i h4 h5 p ⊢
 have hv:=i.2.2.1;have hc:=i.2.2.2.1;have ha:=r.2.2.2.2.2.1;have copy:=aDV vs cs nr er dn out (by omega) (by omega) (by omega)
 by_cases hw:w<0
 ·refine copy.nm fun n e=> ?_
  rw [Br,e,ez hw,jr,if_pos (Or.inl hw)];rfl
 have p:0≤w∧w≤2∧1≤q∧q≤100000∧line.length≤60:=by
  rcases p with⟨k, -⟩|⟨p1,p2,p3,p4,p5, -⟩
  ·omega
  ·exact⟨p1,p2,p3,p4,p5⟩
 obtain⟨t,u⟩:=VT (dn:=dn) (w:=w) p.1 (by omega)
 by_cases s:q≤nD dn w
 ·refine copy.nm fun n e=> ?_
  rw [Br,e,hJ hw,t,jr,if_pos (Or.inr s)];simp only [Z,da,ez s];rfl
 have f: ¬(w<0∨q≤nD dn w):=by omega
 have j:decide ((0:Int)≤w∧w<(dn.length:Int))=true:=ez (by omega)
 by_cases g:er=0
 ·subst g
  refine(copy.and (aDR a b c d vs cs nr line r.2.2.2.2.2.2.2.2 ha i (by omega))).nm fun n ⟨e,e2⟩=> ?_
  have hr:=Kt (line:=line) r.2.2.2.2.2.2.2.2 i (by omega)
  have hlen:wrap .i64 ((out.length:Int)+((fP d vs cs nr line).2.2.2.2.length:Int))=(out.length:Int)+((fP d vs cs nr line).2.2.2.2.length:Int):=by have:=hr.2;rw [IntKind.wrap_i64];omega
  rw [Br,e,hJ hw,t];simp only [Z,da,hJ s,j,u,Y,show((0:Int) !=0)=false from rfl,e2,hlen];rw [jr,if_neg f,if_neg (by simp)]
  dsimp only
  by_cases z:1500<out.length+(fP d vs cs nr line).2.2.2.2.length
  ·rw [if_pos z,ez (by omega)];rfl
  ·rw [if_neg z,hJ (by omega),mM (by omega)];rfl
 ·refine copy.nm fun n e=> ?_
  rw [Br,e,hJ hw,t];simp only [Z,da,hJ s,j,u,Y,show(er !=0)=true by simpa using g]
  rw [jr,if_neg f,if_pos g]
theorem aDZ (a b:af) (c d:ae) (m:MT) (x:nC) (hp:iM a b c d) (h:qS a b c d m):W fun n=>Ij n a b c d m.1 m.2.1 m.2.2.1 m.2.2.2.1 m.2.2.2.2.1 m.2.2.2.2.2 x.1 x.2.1 x.2.2=some (cond (bo (eD x.1 x.2.1 x.2.2)) (jr d m x) m):=by
 obtain⟨vs,cs,nr,er,dn,out⟩:=m;obtain⟨w,q,line⟩:=x;obtain⟨h1,s,p,h4,h5⟩:=id h;dsimp only at h1 s p h4 h5 ⊢
 have hv:=p.2.2.1;have hc:=p.2.2.2.1;have ha:=s.2.2.2.2.2.1;have base:=((aDX vs cs nr er dn out (by omega) (by omega) (by omega)).and (Jr a b c d vs cs nr er dn out hp (by omega) (by omega) (by omega))).and (BD w q line)
 have h:ou a b c d vs cs nr er dn out:=h;by_cases f: ¬eD w q line
 ·refine base.nm fun n ⟨⟨e,g⟩,i⟩=> ?_
  rw [Bu,e,g,i,aB h,az f];rfl
 have f:eD w q line:=Classical.byContradiction f;rw [aB f,Y];by_cases hw:w<0
 ·refine base.nm fun n ⟨⟨e,g⟩,i⟩=> ?_
  rw [Bu,e,g,i,aB h,aB f,ez hw,jr,if_pos (Or.inl hw)];rfl
 have t:0≤w∧w≤2∧1≤q∧q≤100000∧line.length≤60:=by
  rcases f with⟨k, -⟩|⟨p1,p2,p3,p4,p5, -⟩
  ·omega
  ·exact⟨p1,p2,p3,p4,p5⟩
 obtain⟨dz,dN⟩:=VT (dn:=dn) (w:=w) t.1 (by omega)
 by_cases u:q≤nD dn w
 ·refine base.nm fun n ⟨⟨e,g⟩,i⟩=> ?_
  rw [Bu,e,g,i,aB h,aB f,hJ hw,dz,jr,if_pos (Or.inr u)];simp only [Z,Bool.not_true,da,ez u];rfl
 have r: ¬(w<0∨q≤nD dn w):=by omega
 have z:decide ((0:Int)≤w∧w<(dn.length:Int))=true:=ez (by omega)
 refine(base.and (aDS a b c d vs cs nr er line hp s p (by omega))).nm fun n ⟨⟨⟨e,g⟩,i⟩,e3⟩=> ?_
 rw [Bu,e,g,i,aB h,aB f,hJ hw,dz];simp only [Z,Bool.not_true,da,hJ u,z,dN,Y,e3];rw [jr,if_neg r];dsimp only
 by_cases j:er=0
 ·subst j
  have hr:=Kt (line:=line) s.2.2.2.2.2.2.2.2 p (by omega)
  have hlen:wrap .i64 ((out.length:Int)+((fP d vs cs nr line).2.2.2.2.length:Int))=(out.length:Int)+((fP d vs cs nr line).2.2.2.2.length:Int):=by have:=hr.2;rw [IntKind.wrap_i64];omega
  rw [if_neg (by simp),if_neg (by simp),hlen]
  by_cases hb:1500<out.length+(fP d vs cs nr line).2.2.2.2.length
  ·rw [if_pos hb,ez (by omega)];rfl
  ·rw [if_neg hb,hJ (by omega),mM (by omega)];rfl
 ·rw [if_pos j,if_pos j]
  dsimp only
  rw [show wrap .i64 ((out.length:Int)+(([]:O).length:Int))=(out.length:Int) by rw [IntKind.wrap_i64];simp;omega,hJ (by omega),mM (by simp;omega),List.append_nil];rfl
theorem aEa (a b:af) (c d:ae) (l:List nC) (hp:iM a b c d) (h:jD a b c d) (t:l.length≤1048576) (g: ∀x∈l,x.2.2.length≤1048576):W fun n=>Ge n a b c d l=some (Ci a.length c d l):=by
 have k:=NS t (fun (m:MT) (x:nC)=>cond (bo (eD x.1 x.2.1 x.2.2)) (jr d m x) m) (qS a b c d) (VR h) (fun s x z g=>by
   by_cases f:eD x.1 x.2.1 x.2.2
   ·rw [aB f];exact VS g f
   ·rw [az f];exact g) (r:=fun m=>(Sum.inl (0,0,([]:O),m):Sum _ MT)) (L:=fun n m i (s:MT)=>vm n m s.1 s.2.1 s.2.2.1 s.2.2.2.1 s.2.2.2.2.1 s.2.2.2.2.2 a b c d 0 0 ([]:O) i l) (fun s p i hi=>by
   by_cases f:eD l[i].1 l[i].2.1 l[i].2.2
   ·refine((wF l[i].1 l[i].2.1 l[i].2.2 (g _ (List.getElem_mem hi))).and (aDY a b c d s l[i] p f)).mono fun n ⟨j,q⟩ m=> ?_
    rw [IL,bu hi,bj hi];simp only [Y,Z,j,q,aB f]
   ·refine(wF l[i].1 l[i].2.1 l[i].2.2 (g _ (List.getElem_mem hi))).mono fun n j m=> ?_
    rw [IL,bu hi,bj hi];simp only [Y,Z,j,az f,da]) (fun n m s=>by rw [IL,cp];rfl)
 refine(((Jp a b c d hp).and (aDT a b c d h)).and k).nm fun n ⟨⟨j,q⟩,u⟩=> ?_
 rw [apV,j,aB h,q];simp only [Bool.not_true,da,Z,u];rfl
theorem aEb (a b:af) (c d:ae) (l:List nC) (hp:iM a b c d) (h:jD a b c d) (q:l.length≤1048576):W fun n=>HE n a b c d l=some (Ci a.length c d l):=by
 have k:=NS q (fun (m:MT) (x:nC)=>cond (bo (eD x.1 x.2.1 x.2.2)) (jr d m x) m) (qS a b c d) (VR h) (fun s x u p=>by
   by_cases f:eD x.1 x.2.1 x.2.2
   ·rw [aB f];exact VS p f
   ·rw [az f];exact p) (r:=fun m=>(Sum.inl (0,0,([]:O),m):Sum _ MT)) (L:=fun n m i (s:MT)=>Am n m s.1 s.2.1 s.2.2.1 s.2.2.2.1 s.2.2.2.2.1 s.2.2.2.2.2 a b c d 0 0 ([]:O) i l l.length) (fun s g i hi=>by
   refine(aDZ a b c d s l[i] hp g).mono fun n j m=> ?_
   rw [Rx,bu hi,bj hi];simp only [Y,Z,j]) (fun n m s=>by rw [Rx,cp];rfl)
 refine((aDU a b c d hp h).and k).nm fun n ⟨j,t⟩=> ?_
 rw [auV,j];simp only [Z,t];rfl
end
def Ky (a b:O):Prop:=b.length≤a.length∧a.take b.length=b
theorem VU (a b:O):(cond (decide ((b.length:Int)≤(a.length:Int))) (cond (decide ((0:Int)≤(b.length:Int)∧(b.length:Int)≤(a.length:Int))) (some ((a.take ((Int.toNat (b.length:Int))-0))==b)) none) (some false))=some (bo (Ky a b)):=by
 by_cases h:b.length≤a.length
 ·rw [ez (by omega),ez (by omega),Nat.sub_zero,Int.toNat_natCast,bk]
  exact cE ⟨fun k=>⟨h,k⟩,fun k=>k.2⟩
 ·rw [hJ (by omega),az (fun k=>h k.1)];rfl
theorem aEc (f:af) (j:af) (g:ae) (i:ae) (p:Int) (q:cu) (r:bw) (s:Int) (m:O) (t:ah) (d:ah) (b:ae) (h:wH f j g i p q r s m t d b):W fun n=>FO n f j g i p q r s m t d b=some (bo (me f j g i p q r s m t d b∧Ky (Ci f.length g i b).2.2.2.2.2 m)):=by
 have hw:=aBo f j g i p q r s m t d b h;obtain⟨hp, -, -, -, -,ad,u⟩:=h;by_cases z:me f j g i p q r s m t d b
 ·refine(hw.and (aEa f j g i b hp z.1 ad u)).nm fun n ⟨e,e1⟩=> ?_
  rw [PL,e,e1,aB z];simp only [Z,Bool.not_true,da,VU];exact cE ⟨fun k=>⟨z,k⟩,fun k=>k.2⟩
 ·refine hw.nm fun n e=> ?_
  rw [PL,e,az z,az (fun k=>z k.1)];rfl
theorem aEd (f:af) (j:af) (g:ae) (i:ae) (p:Int) (r:cu) (s:bw) (t:Int) (m:O) (u:ah) (d:ah) (b:ae) (h:wH f j g i p r s t m u d b):W fun n=>GN n f j g i p r s t m u d b=some (bo (me f j g i p r s t m u d b∧Ky (Ci f.length g i b).2.2.2.2.2 m)):=by
 have hw:=aBp f j g i p r s t m u d b h;obtain⟨hp, -, -, -, -,ad,ag⟩:=h;by_cases z:me f j g i p r s t m u d b
 ·refine(hw.and ((aEb f j g i b hp z.1 ad).and (W.ge 2))).nm fun n ⟨e,e1,hn⟩=> ?_
  obtain⟨n,rfl⟩: ∃q,n=q+2:=⟨n-2,by omega⟩
  rw [QR,e,e1,aB z];simp only [Z,Y,axF,axG,VU];exact cE ⟨fun k=>⟨z,k⟩,fun k=>k.2⟩
 ·refine hw.nm fun n e=> ?_
  rw [QR,e,az z,az (fun k=>z k.1)];rfl
end Go.Proofs.YtfpfjmahdneehaaGreatDoor
