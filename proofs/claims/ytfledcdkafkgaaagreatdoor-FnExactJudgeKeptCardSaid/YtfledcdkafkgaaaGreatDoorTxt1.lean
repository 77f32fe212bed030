/- Texts of the law, part 1. -/
import Derived.Test.YtfledcdkafkgaaaGreatDoorLaw
import Derived.Test.YtfledcdkafkgaaaGreatDoorEv4
open Int renaming toNat->À,toNat_natCast->Æ,tdiv->Ë,reduceBEq->Ø,tmod->Ρ,mul_tdiv_add_tmod->Ψ,natAbs_tdiv_le_natAbs->π,le_refl->τ,ofNat_inj->ϝ,natCast_mul->Ϫ,fdiv->ϯ
open List renaming getElem_mem->Á,drop_eq_getElem_cons->Â,drop_eq_nil_of_le->Ã,length_cons->Ç,length_append->É,takeWhile_cons->Í,eq_nil_of_length_eq_zero->Ò,length_nil->Ó,append_nil->Ô,getElem?_eq_getElem->Õ,mem_append->Ö,append_assoc->Ù,take_of_length_le->Û,drop_zero->Ü,isPrefixOf->Ý,mem_cons->Γ,length_eq_zero_iff->Ε,length->Ζ,tail_cons->Η,findIdx?_eq_some_iff_getElem->Θ,getElem?_eq_some_iff->Ι,dropWhile_cons->Κ,mem_singleton->Μ,dropLast_concat_getLast->Ν,isPrefixOf_iff_prefix->Ο,nil_append->Τ,takeWhile_nil->Φ,dropLast_sublist->Ω,length_pos_iff->ζ,replicate->ν,getElem?_append_right->ξ,findIdx?_eq_none_iff->σ,cons_append->φ,prefix_iff_eq_take->χ,drop_of_length_le->ω,length_eq_one_iff->ϊ,singleton_append->ϋ,set_append_right->ύ,tail_drop->ώ,drop_eq_nil_iff->ϙ,length_dropLast->Ϛ,reverse_append->ϛ,drop_succ_cons->Ϝ,findIdx?_cons->Ϡ,reverse_cons->ϡ,getElem_drop->Ϣ,reverse_nil->Ϧ,mem_reverse->ϧ,mem_nil_iff->Ϩ,length_drop->ϩ
open UInt8 renaming ofNat->Ä,toNat_inj->Ú,not_lt->ψ,le_antisymm->ϣ,lt_irrefl->ϫ
open Go.IntKind renaming wrap_i64->Å,bits->ϥ,wrap_u8->Ϭ
open Bool renaming not_true->È,not_false->Ê,and_eq_false_iff->ό,and_true->ϟ,cond_self->ϭ,and_self->Ϸ
open Option renaming bind_eq_some_iff->Ì
open Nat renaming le_refl->Î,ble_eq_true_of_le->Ð,eq_zero_or_pos->Α,ble->Λ,div_add_mod->Υ,add_sub_cancel_left->Χ,sub_zero->η,mul_comm->κ,le_of_not_lt->υ,mul_le_mul->Ϗ,add_mul->ϗ,mul_le_mul_right->Ϙ,mul_assoc->Ϟ,mod_lt->Ϯ,lt_irrefl->ϳ,add_assoc->ϸ
open Go.Lib renaming decDigits->Ï,compareBytes->Ñ,indexByte->Β,decDigits_one->Ϥ
open Go.Op renaming bytesLess->Δ
open Classical renaming not_not->Ξ,byContradiction->ο,axiomOfChoice->Ϻ,em->ϻ
open And renaming intro->ε
open BitVec renaming ofInt->ι
open Bool renaming true->å,false->ä
open Option renaming some->ã,none->â
open Decidable renaming decide->á
open Go.IntKind renaming i64->ß,wrap->Þ
open List renaming length->à
open Go.IntKind
namespace Go.Proofs.YtfledcdkafkgaaaGreatDoor
open Go Go.Ev
theorem mF (x:Nd):mj x=cP x:=rfl
theorem za (ks:List Tr) (i:Nat):nu ks i=(ks[i]?).map aG:=by
 show(nth ks i).map _=_;unfold nth;congr 1
 funext t
 cases t;rfl
theorem nC {ks:List Tr} {i:Nat} (h:i<à ks):gf ks (i:Int)=ã (aG ks[i]):=by
 have:gf ks (i:Int)=nu ks i:=rfl;rw [this,za,Õ h]
 rfl
def flat (r:Nd×O×Bool):Int×(Int×O×Bool×List Tr×O×Bool):=(r.1.1,r.1.2.1,r.1.2.2.1,r.1.2.2.2.1,r.1.2.2.2.2,r.2)
theorem mG (s:O) (b:Bool):W fun n=>sf n s b=ã (match fa s b with|some c=>(c,å,s,b)|none=>(0,ä,s,b)):=by
 refine W.succ (W.of fun n=> ?_)
 rw [asT];cases b
 .cases s with
  |nil=>rfl
  |cons c r=>
   have e:bF (c::r) (0:Int)=ã c:=rfl;have d:((c::r:O)==[])=ä:=rfl;rw [e,d];simp only [ez,Z,dR];rfl
 .cases h:(s==([]:O))
  .rfl
  .rfl
theorem nD (s:O):(s.drop 1).take (à s-1)=s.tail:=by
 cases s with
 |nil=>rfl
 |cons c r=>simp
theorem aAU (c d:UInt8):(((c.toNat:Int) !=(d.toNat:Int))=å)↔c≠d:=by
 rw [bne_iff_ne,ne_eq,ϝ,Ú]
theorem zb (s:O) (b:Bool) (d:UInt8):W fun n=>oE n s b d=ã (if fa s b=ã d then(å,s.tail,b)else(ä,s,b)):=by
 refine(mG s b).nm fun n e=> ?_
 rw [asV,e];cases h:fa s b with
 |none=>simp
 |some c=>
  obtain⟨rfl,f⟩:=fW h;have g:1<=à s:=by rw [f];simp
  simp only [Z,È,ez,nD];by_cases e:c=d
  .subst e
   rw [if_pos rfl,show(((c.toNat:Int) !=(c.toNat:Int))=ä) by simp]
   simp only [ez];rw [hC ž]
   rfl
  .rw [if_neg Ņ,(aAU c d).2 e]
   rfl
theorem XB (c:UInt8):W fun n=>Ds n c=ã (il c):=by
 refine W.succ (W.of fun n=> ?_)
 rw [asW];unfold il;simp only [bW];by_cases b:c.toNat=42
 .rw [if_pos b,aA ž];rfl
 rw [if_neg b,aw (P:=(c.toNat:Int)=42) ž]
 by_cases d:c.toNat=43
 .rw [if_pos d,aA ž];rfl
 rw [if_neg d,aw (P:=(c.toNat:Int)=43) ž]
 by_cases f:c.toNat=63
 .rw [if_pos f,aA ž];rfl
 rw [if_neg f,aw (P:=(c.toNat:Int)=63) ž]
 rfl
def cJ (p:Nat->Nat->Prop):Prop:= ∃N,∀n m,N<=n->N<=m->p n m
theorem cJ.diag {p:Nat->Nat->Prop} (h:cJ p):W fun n=>p n n:=by
 obtain⟨N,h⟩:=h;exact⟨N,fun n b=>h n n b b⟩
theorem cJ.step {p:Nat->Prop} {q r:Nat->Nat->Prop} (h:W p) (k:cJ q) (f: ∀n m,p n->q n m->r n (m+1)):cJ r:=by
 obtain⟨N,h⟩:=h;obtain⟨M,k⟩:=k;refine⟨max N M+1,fun n m b hm=> ?_⟩
 obtain⟨m,rfl⟩: ∃m',m=m'+1:=⟨m-1,ž⟩
 exact f n m (h n ž) (k n m ž ž)
theorem cJ.stop {p:Nat->Prop} {r:Nat->Nat->Prop} (h:W p) (f: ∀n m,p n->r n (m+1)):cJ r:=by
 obtain⟨N,h⟩:=h;refine⟨N+1,fun n m b hm=> ?_⟩
 obtain⟨m,rfl⟩: ∃m',m=m'+1:=⟨m-1,ž⟩
 exact f n m (h n ž)
theorem qv {n:Nat} (h:n<=1000):Λ n big=å:=Ð Ũ
theorem XC (n:Nat) (s:O) (c:UInt8):um (n+1) s c=ã (Β s c):=Ž
theorem sE (c:UInt8):Þ ß (c.toNat:Int)=(c.toNat:Int):=ò
theorem Nw (n:Nat) (f:O) (g:Bool) (i k:Int) (p:O) (q:Bool) (r s:Int) (t:O) (u:Bool) (lo hi:UInt8) (has:List Bool) (b:O) (d:Int) (hn:300<=n) (z:à has=256):
  oF n n f g i k p q r s t u (lo.toNat:Int) has b d (hi.toNat:Int)=ã (.inl (f,g,i,k,p,q,r,s,t,u,dI has lo.toNat (hi.toNat+1-lo.toNat),b,d)):=by
 have h1:=lo.toNat_lt;have h2:=hi.toNat_lt;refine HR (hi:=hi.toNat) (L:=fun m j h=>oF n m f g i k p q r s t u j h b d (hi.toNat:Int)) (out:=fun h=>(f,g,i,k,p,q,r,s,t,u,h,b,d)) ž (fun m j h hj hh=> ?_) (fun m j h hj=> ?_) _ n lo.toNat has rfl ž z
 .rw [VS,hC ž,hC ž,ie ž]
  rfl
 .rw [VS,hJ ž]
  rfl
theorem aAV (n:Nat) (j:300<=n) (rest body:O) (nt:Bool) (z: ∀c∈body,c.toNat≠93) (ad:à body<=100): ∀k m (i:Nat) has bad,à body-i<=k->k<m->à has=256->i<=à body->
  ql n m rest bad 0 0 [] ä 3 0 [] nt has (i:Int) body=ã (.inl (rest,(bX (body.drop i) has bad).2,0,0,[],ä,3,0,[],nt,(bX (body.drop i) has bad).1)):=by
 intro k;induction k with
 |zero=>
  intro m i has bad hk hm b hi;obtain⟨m,rfl⟩: ∃m',m=m'+1:=⟨m-1,ž⟩
  obtain rfl:i=à body:=ž
  rw [Nn,bM,Ã (Î _)];rfl
 |succ k ih=>
  intro m i has bad hk hm b hi;obtain⟨m,rfl⟩: ∃m',m=m'+1:=⟨m-1,ž⟩
  by_cases d:i<à body
  .have p:Þ ß ((i:Int)+1)=((i+1:Nat):Int):=by rw [Å];omega
   have w2:Þ ß ((i:Int)+2)=((i+2:Nat):Int):=ż
   have w3:Þ ß (((i+2:Nat):Int)+1)=((i+3:Nat):Int):=ż
   have q:body.drop i=body[i]::body.drop (i+1):=Â d;have s:(has.set body[i].toNat å)=dI has body[i].toNat 1:=rfl;have one: ∀f,oF n n rest f 0 0 [] ä 3 0 [] nt (body[i].toNat:Int) has body (i:Int) (body[i].toNat:Int)=ã (.inl (rest,f,0,0,[],ä,3,0,[],nt,dI has body[i].toNat 1,body,(i:Int))):=fun f=>by
    have:=Nw n rest f 0 0 [] ä 3 0 [] nt body[i] body[i] has body (i:Int) j b;rwa [show body[i].toNat+1-body[i].toNat=1 by omega]at this
   rw [Nn,aU d,dy d];simp only [Y,Z,p,w2,sE];by_cases g:i+2<à body
   .have t:body.drop (i+1)=body[i+1]::body.drop (i+2):=Â ž
    have u:body.drop (i+2)=body[i+2]::body.drop (i+3):=Â g;rw [aU g,dy (show i+1<à body by omega),dy g]
    simp only [Y,Z,bW];by_cases hd:body[i+1].toNat=45
    .have hh:=z _ (Á g)
     rw [aA ž,q,t,u,HQ _ _ _ _ _ _ ⟨hd,hh⟩]
     simp only [Y];have r:á ((body[i+2].toNat:Int)<(body[i].toNat:Int))=á (body[i+2].toNat<body[i].toNat):=by
      rw [dH,dH];exact oj ž
     rw [Nw n rest å 0 0 [] ä 3 0 [] nt body[i] body[i+2] has body _ j b,Nw n rest _ 0 0 [] ä 3 0 [] nt body[i] body[i+2] has body _ j b];simp only [Z,cO,w3];rw [ih m (i+3) _ å ž ž Ė ž,ih m (i+3) _ (decide _) ž ž Ė ž,r]
     cases bad<;>rfl
    .rw [aw ž,one]
     simp only [ez,Z,cO,p];rw [ih m (i+1) _ bad ž ž Ė ž,q,t,u,HP _ _ _ _ _ _ (fun h=>hd h.1)]
   .rw [hJ ž,one]
    simp only [ez,Z,cO,p];rw [ih m (i+1) _ bad ž ž Ė ž,q,wL _ _ _ _ ź]
  .obtain rfl:i=à body:=by omega
   rw [Nn,bM,Ã (Î _)];rfl
theorem zd: ∀(l:O) (has:List Bool) (b:Bool),(bX l has b).1.length=à has
 | [],_,_=>rfl
 | [lo],has,b=>by simp only [bX,lC]
 | [lo,d],has,b=>by rw [bX,zd [d],lC]
 |lo::d::hi::r,has,b=>by
  rw [bX];split
  .rw [zd r,lC]
  .rw [zd (d::hi::r),lC]
theorem XD (s:O):W fun n=>oE n s ä 94=ã ((bN s).2,(bN s).1,ä):=by
 refine(zb s ä 94).mono fun n e=> ?_
 rw [e];cases s with
 |nil=>rfl
 |cons c r=>
  show ã (if ã c=ã (94:UInt8)then(å,r,ä)else(ä,c::r,ä))=ã ((if c.toNat=94 then(r,å)else(c::r,ä)).2,((if c.toNat=94 then(r,å)else(c::r,ä)).1,ä))
  by_cases h:c.toNat=94
  .have:c=94:=Ú.1 h
   subst this;rfl
  .rw [if_neg (fun k=>h Ť),if_neg h]
theorem aAW (s:O) (hs:à s<=60):W fun n=>Le n s ä=ã ((fU s).1.1,(fU s).1.2.1,(fU s).1.2.2.1,(fU s).1.2.2.2.1,(fU s).2):=by
 have r:=SG s;have d:=SB (bN s).1;have t:=om aL (bN s).1;by_cases h:((bN s).1.takeWhile aL).length=(bN s).1.length\/(bN s).1.takeWhile aL=[]
 .refine((XD s).and (W.ge 1)).nm fun n ⟨e,u⟩=> ?_
  obtain⟨n,rfl⟩: ∃m,n=m+1:=⟨n-1,ž⟩
  rw [VR,show oE (n+1) s ä (Ä (À 94))=_ from e];simp only [Z];rw [show um (n+1) (bN s).1 (Ä (À 93))=_ from XC n (bN s).1 93,d];simp only [Z];have f:(if ((bN s).1.takeWhile aL).length=(bN s).1.length then(-1:Int)else(((bN s).1.takeWhile aL).length:Int))<1:=by
   rcases h with h|h
   .rw [if_pos h];omega
   .rw [h];split<;>simp
  rw [hC f];unfold fU;simp only;rw [if_pos h];rfl
 .have g: ¬((bN s).1.takeWhile aL).length=(bN s).1.length:=fun k=>h (.inl k)
  have p:0<((bN s).1.takeWhile aL).length:=ζ.2 fun k=>h (.inr k)
  have b:=zd ((bN s).1.takeWhile aL) dz ä;have b:(bX ((bN s).1.takeWhile aL) dz ä).1.length=256:=by rw [b,tG]
  have kb:=Sy b (L:=fun n m i o=>uk n m ((bN s).1.drop (((bN s).1.takeWhile aL).length+1)) (bX ((bN s).1.takeWhile aL) dz ä).2 0 0 [] ä 3 0 [] (bN s).2 i o (bX ((bN s).1.takeWhile aL) dz ä).1 256) (out:=fun o=>((bN s).1.drop (((bN s).1.takeWhile aL).length+1),(bX ((bN s).1.takeWhile aL) dz ä).2,0,0,[],ä,3,0,[],(bN s).2,o))
   (fun n m i o hi ho=>by
    rw [VT,hC ž,hC ž,ie ž,SA i hi]
    simp only [Y,Z];rw [qv ž,getD_at (show i<(bX ((bN s).1.takeWhile aL) dz ä).1.length by omega)]
    cases (bX ((bN s).1.takeWhile aL) dz ä).1[i]<;>simp) (fun n m o=>by rw [VT];rfl)
  refine((XD s).and (kb.and (W.ge 400))).nm fun n ⟨e,z,u⟩=> ?_
  obtain⟨n,rfl⟩: ∃m,n=m+1:=⟨n-1,ž⟩
  rw [VR,show oE (n+1) s ä (Ä (À 94))=_ from e];simp only [Z];rw [show um (n+1) (bN s).1 (Ä (À 93))=_ from XC n (bN s).1 93,d,if_neg g];simp only [Z];have w1:Þ ß ((((bN s).1.takeWhile aL).length:Int)+1)=((((bN s).1.takeWhile aL).length+1:Nat):Int):=ż
  rw [w1,hJ ž,hC ž,hC ž,hC Ũ]
  simp only [Y,ez,Æ,η,SC];have j:(((bN s).1.drop (((bN s).1.takeWhile aL).length+1)).take ((bN s).1.length-(((bN s).1.takeWhile aL).length+1)))=(bN s).1.drop (((bN s).1.takeWhile aL).length+1):=Û Ż
  rw [j];have q:=aAV (n+1) ž ((bN s).1.drop (((bN s).1.takeWhile aL).length+1)) ((bN s).1.takeWhile aL) (bN s).2 (HS _) ž ((bN s).1.takeWhile aL).length (n+1) 0 dz ä ž ž tG ž
  rw [Ü]at q;rw [show ql (n+1) (n+1) ((bN s).1.drop (((bN s).1.takeWhile aL).length+1)) ä 0 0 [] ä 3 0 [] (bN s).2 (ν (À 256) ä) 0 ((bN s).1.takeWhile aL)=_ from q];simp only [Z,cO,b];rw [show uk (n+1) (n+1) _ _ 0 0 [] ä 3 0 [] _ 0 [] _ ((256:Nat):Int)=_ from z];unfold fU;simp only;rw [if_neg h];rfl
def aAX (md:Md) (s:O) (b:Bool) (r:Nd×O×Bool):Prop:=
 match md with
 |.pat=>W fun n=>ym n s b=ã (flat r)
 |.part=>W fun n=>Dn n s b=ã (flat r)
 |.piece=>W fun n=>Ld n s b=ã (flat r)
 |.atom=>W fun n=>Dr n s b=ã (flat r)
 |.fV ks=>cJ fun n m=> ∃d s' b',yn n m s b 0 0 [] ä ks=ã (.inl (s',b',0,0,[],ä,d))/\(iQ d,s',b')=r
 |.fz ks=>cJ fun n m=> ∃d s' b',Dp n m s b 0 0 [] ä ks=ã (.inl (s',b',0,0,[],ä,d))/\(iR d,s',b')=r
 |.jr t=>cJ fun n m=>Dq n m s b 0 0 [] ä t.1 t.2.1 t.2.2.1 t.2.2.2.1 t.2.2.2.2=ã (.inr (flat r))
theorem aAY (ks:List Tr) (st:O×Bool):(cond ((à ks:Int)==(1:Int)) (cond (á ((0:Int)<=(0:Int)/\(0:Int)<(à ks:Int))) ((nu ks 0).bind fun d=>ã (d.1,d.2.1,d.2.2.1,d.2.2.2.1,d.2.2.2.2,st.1,st.2)) â) (ã ((7:Int),(0:Int),([]:O),ä,ks,st.1,st.2)))=ã (flat (iQ ks,st)):=by
 match ks with
 | []=>rfl
 | [k]=>rw [za];rfl
 |a::b::r=>
  rw [bW,aw Ÿ]
  rfl
theorem aAZ (ks:List Tr) (st:O×Bool):(cond ((à ks:Int)==(0:Int)) (ã ((11:Int),(0:Int),([]:O),ä,([]:List Tr),st.1,st.2)) (cond ((à ks:Int)==(1:Int)) (cond (á ((0:Int)<=(0:Int)/\(0:Int)<(à ks:Int))) ((nu ks 0).bind fun d=>ã (d.1,d.2.1,d.2.2.1,d.2.2.2.1,d.2.2.2.2,st.1,st.2)) â) (ã ((6:Int),(0:Int),([]:O),ä,ks,st.1,st.2))))=ã (flat (iR ks,st)):=by
 match ks with
 | []=>rfl
 | [k]=>rw [za];rfl
 |a::b::r=>
  rw [bW,bW,aw (P:=_=(0:Int)) Ÿ,aw (P:=_=(1:Int)) Ÿ]
  rfl
theorem qw:(Ä (À 124):UInt8)=124:=rfl
theorem aBa {s:O} {b:Bool} {c:UInt8} (h:fa s b=ã c) (k:c.toNat=124):fa s b=ã 124:=by
 rw [h];exact congrArg ã (Ú.1 k)
theorem aBb: ∀f md s b r,iP f md s b=ã r->à s<=60->ni md s b->lE md s->aAX md s b r:=by
 intro f;induction f with
 |zero=>intro md s b r h;simp [iP]at h
 |succ f ih=>
  intro md s b r h hs ae af;cases md with
  |pat=>
   simp only [iP,Ì]at h;obtain⟨x,z,h2⟩:=h;obtain⟨a1,a2,a3⟩:=eR _ _ _ _ _ z hs trivial trivial;simp only [dX]at a2;have k1:=ih _ _ _ _ z hs trivial trivial;have k2:=ih _ _ _ _ h2 ž trivial ⟨ź,by simpa using fj a1⟩
   refine((show W _ from k1).and (cJ.diag k2)).nm fun n ⟨e1,p,s',b',g,j⟩=> ?_
   subst j;rw [asR,e1];simp only [Z,flat,mF];rw [show yn n n x.2.1 x.2.2 0 0 [] ä [cP (x.1.1,x.1.2.1,x.1.2.2.1,x.1.2.2.2.1,x.1.2.2.2.2)]=_ from g];simp only [Z,cO];exact aAY p (s',b')
  |fV ks=>
   simp only [iP]at h;split at h
   .rename_i i
    cases h;refine cJ.stop (zb s b 124) fun n m e=>⟨ks,s,b, ?_,rfl⟩
    rw [Nj,qw,e,i];rfl
   .rename_i c i
    obtain⟨rfl,e⟩:=fW i;have hl:à s=à s.tail+1:=Ţ
    split at h
    .rename_i u
     simp only [Ì]at h;obtain⟨x,z,h2⟩:=h;obtain⟨a1,a2,a3⟩:=eR _ _ _ _ _ z ž trivial trivial
     simp only [dX]at a2;have au:=af.1;have k1:=ih _ _ _ _ z ž trivial trivial
     have k2:=ih _ _ _ _ h2 ž trivial ⟨ź,by
      intro k hk;rcases Ö.1 hk with hk|hk
      .exact af.2 k hk
      .simp at hk;subst hk;exact fj a1⟩
     refine cJ.step ((show W _ from k1).and (zb s ä 124)) k2 fun n m ⟨e1,g⟩ ⟨p,s',b',j,e4⟩=>⟨p,s',b', ?_,e4⟩
     rw [Nj,qw,g,if_pos (aBa i u)];simp only [Z,Y,e1,flat,mF];rw [qv ž]
     exact j
    .rename_i u
     cases h;refine cJ.stop (zb s ä 124) fun n m e=>⟨ks,s,ä, ?_,rfl⟩
     rw [Nj,qw,e,if_neg (by rw [i];intro k;cases k;exact u rfl)]
     rfl
  |part=>
   simp only [iP]at h;have k:=ih (.fz []) _ _ _ h hs trivial ⟨ź,Ż⟩
   refine(cJ.diag k).nm fun n ⟨p,s',b',g,j⟩=> ?_
   subst j;rw [asS,g];simp only [Z,cO];exact aAZ p (s',b')
  |fz ks=>
   simp only [iP]at h;split at h
   .rename_i i
    cases h;refine cJ.stop (mG s b) fun n m e=>⟨ks,s,b, ?_,rfl⟩
    rw [Nk,e,i];rfl
   .rename_i c i
    obtain⟨rfl,e⟩:=fW i;split at h
    .rename_i u
     cases h;refine cJ.stop (mG s ä) fun n m e=>⟨ks,s,ä, ?_,rfl⟩
     rw [Nk,e,i];simp only [Z,È,ez,bW];rcases u with u|u
     .rw [aA ž];rfl
     .rw [aw ž,aA ž];rfl
    .rename_i u
     simp only [Ì]at h;obtain⟨x,z,h2⟩:=h;have ag:ni .piece s ä:=⟨Ţ,rfl⟩
     obtain⟨a1,a2,a3⟩:=eR _ _ _ _ _ z hs ag trivial;simp only [dX]at a2;have au:=af.1;have k1:=ih _ _ _ _ z hs ag trivial;have k2:=ih _ _ _ _ h2 ž trivial ⟨ź,by
      intro k hk;rcases Ö.1 hk with hk|hk
      .exact af.2 k hk
      .simp at hk;subst hk;exact fj a1⟩
     refine cJ.step ((show W _ from k1).and (mG s ä)) k2 fun n m ⟨e1,g⟩ ⟨p,s',b',j,e4⟩=>⟨p,s',b', ?_,e4⟩
     rw [Nk,g,i];simp only [Z,È,ez,bW];rw [aw (P:=(c.toNat:Int)=124) ž,aw (P:=(c.toNat:Int)=41) ž]
     simp only [ez,e1,Z,flat,mF];rw [qv ž]
     exact j
  |piece=>
   simp only [iP,Ì]at h;obtain⟨x,z,h2⟩:=h;obtain⟨a1,a2,a3⟩:=eR _ _ _ _ _ z hs ae trivial;simp only [dX]at a2;have k1:=ih _ _ _ _ z hs ae trivial;have k2:=ih _ _ _ _ h2 ž trivial a1
   refine((show W _ from k1).and (cJ.diag k2)).nm fun n ⟨e1,g⟩=> ?_
   rw [asU,e1];simp only [Z,flat];rw [g];rfl
  |jr t=>
   simp only [iP]at h;split at h
   .rename_i i
    cases h;refine cJ.stop (mG s b) fun n m e=> ?_
    rw [Nl,e,i];rfl
   .rename_i c i
    obtain⟨rfl,e⟩:=fW i;have hl:à s=à s.tail+1:=Ţ
    split at h
    .rename_i u
     cases h;refine cJ.stop ((mG s ä).and (XB c)) fun n m ⟨e,g⟩=> ?_
     rw [Nl,e,i];simp only [Z,È,ez,dR,g,u];rfl
    .rename_i u
     have k2:=ih _ _ _ _ h ž trivial ⟨Ż,by simpa using fj af⟩
     refine cJ.step ((mG s ä).and (XB c)) k2 fun n m ⟨e,g⟩ j=> ?_
     rw [Nl,e,i];simp only [Z,È,ez,dR,g,bW,aw u,nD,mF];rw [hC ž]
     exact j
  |atom=>
   obtain⟨ax,rfl⟩:=ae;cases s with
   |nil=>exact absurd rfl ax
   |cons c rr=>
    simp only [Ç]at hs;have i:fa (c::rr) ä=ã c:=rfl;simp only [iP]at h;split at h
    .rename_i u
     simp only [Ì]at h;obtain⟨x,z,h2⟩:=h;have k1:=ih _ _ _ _ z ž trivial trivial
     cases h2;refine(((show W _ from k1).and (mG (c::rr) ä)).and (zb x.2.1 x.2.2 41)).nm fun n ⟨⟨e1,g⟩,j⟩=> ?_
     rw [qq,g,i];simp only [Z,nD,Η,bW];rw [hC Ÿ,aA ž]
     simp only [Y,e1,Z,flat];rw [show oE n x.2.1 x.2.2 (Ä (À 41))=_ from j];unfold jq;cases hx:fa x.2.1 x.2.2 with
     |none=>rfl
     |some d=>
      by_cases hd:d.toNat=41
      .have:d=41:=Ú.1 hd
       subst this;rfl
      .have: ¬(ã d=ã (41:UInt8)):=by intro k;cases k;exact hd rfl
       rw [if_neg this];simp only [hd,if_false];rfl
    .rename_i u
     cases h;have base:=mG (c::rr) ä;have q:bo ((c.toNat:Int)=40)=ä:=aw ž
     show W fun n=>Dr n (c::rr) ä=ã (flat (lD c rr))
     unfold lD;by_cases c1:c.toNat=46
     .rw [if_pos c1]
      refine base.nm fun n g=> ?_
      rw [qq,g,i];simp only [Z,nD,Η,bW,q,aA (show (c.toNat:Int)=46 by omega)]
      rw [hC Ÿ]
      rfl
     rw [if_neg c1];have ad:bo ((c.toNat:Int)=46)=ä:=aw ž
     by_cases c2:c.toNat=94
     .rw [if_pos c2]
      refine base.nm fun n g=> ?_
      rw [qq,g,i];simp only [Z,nD,Η,bW,q,ad,aA (show (c.toNat:Int)=94 by omega)]
      rw [hC Ÿ]
      rfl
     rw [if_neg c2];have ai:bo ((c.toNat:Int)=94)=ä:=aw ž
     by_cases c3:c.toNat=36
     .rw [if_pos c3]
      refine base.nm fun n g=> ?_
      rw [qq,g,i];simp only [Z,nD,Η,bW,q,ad,ai,aA (show (c.toNat:Int)=36 by omega)]
      rw [hC Ÿ]
      rfl
     rw [if_neg c3];have al:bo ((c.toNat:Int)=36)=ä:=aw ž
     by_cases c4:c.toNat=91
     .rw [if_pos c4]
      refine(base.and (aAW rr ž)).nm fun n ⟨g,j⟩=> ?_
      rw [qq,g,i];simp only [Z,nD,Η,bW,q,ad,ai,al,aA (show (c.toNat:Int)=91 by omega)]
      rw [hC Ÿ]
      simp only [Y,ez,j,Z];have hk:(fU rr).1.2.2.2.2=[]:=by
       unfold fU;simp only;split<;>rfl
      unfold flat;rw [hk]
     rw [if_neg c4];have ar:bo ((c.toNat:Int)=91)=ä:=aw ž
     by_cases c5:c.toNat=92
     .rw [if_pos c5]
      cases rr with
      |nil=>
       refine(base.and (mG [] ä)).nm fun n ⟨g,j⟩=> ?_
       rw [qq,g,i];simp only [Z,nD,Η,bW,q,ad,ai,al,ar,aA (show (c.toNat:Int)=92 by omega),j]
       rfl
      |cons d rr=>
       refine(base.and (mG (d::rr) ä)).nm fun n ⟨g,j⟩=> ?_
       rw [qq,g,i];simp only [Z,nD,Η,bW,q,ad,ai,al,ar,aA (show (c.toNat:Int)=92 by omega),j]
       rw [hC Ÿ,show fa (d::rr) ä=ã d from rfl]
       simp only [Y,ez,È];rw [hC Ÿ,show Þ ß (d.toNat:Int)=(d.toNat:Int) by have:=d.toNat_lt;rw [Å];omega]
       rfl
     rw [if_neg c5];have ay:bo ((c.toNat:Int)=92)=ä:=aw ž
     refine base.nm fun n g=> ?_
     rw [qq,g,i];simp only [Z,nD,Η,bW,q,ad,ai,al,ar,ay];rw [hC Ÿ]
     by_cases c6:c.toNat=42
     .rw [if_pos (.inl c6),aA ž];rfl
     by_cases c7:c.toNat=43
     .rw [if_pos (.inr (.inl c7)),aw (P:=(c.toNat:Int)=42) ž,aA ž];rfl
     by_cases c8:c.toNat=63
     .rw [if_pos (.inr (.inr c8)),aw (P:=(c.toNat:Int)=42) ž,aw (P:=(c.toNat:Int)=43) ž,aA ž];rfl
     rw [if_neg ž,aw (P:=(c.toNat:Int)=42) ž,aw (P:=(c.toNat:Int)=43) ž,aw (P:=(c.toNat:Int)=63) ž,show Þ ß (c.toNat:Int)=(c.toNat:Int) by have:=c.toNat_lt;rw [Å];omega]
     rfl
def fc (t:Nd) (S:O) (a:Int) (bad:Bool):Int×(Int×O×Bool×List Tr×O×Int×Bool):=(t.1,t.2.1,t.2.2.1,t.2.2.2.1,t.2.2.2.2,S,a,bad)
def uJ (d:Nat) (st:O×Bool):Prop:=st.2=å\/à st.1<d
def Sync (d:Nat) (S:O) (r:Nd×O×Bool) (t:Nd) (a:Int) (bad:Bool):Prop:=
 (bad=ä/\t=r.1/\r.2.2=ä/\ ∃k:Nat,a=k/\k<=S.length/\S.drop k=r.2.1)\/(bad=å/\uJ d r.2)
theorem uJ.mono {d:Nat} {f md s b r} (h:iP f md s b=ã r) (g:à s<=60) (hp:ni md s b) (i:lE md s) (hd:uJ d (s,b)):uJ d r.2:=by
 obtain⟨-,j,k⟩:=eR _ _ _ _ _ h g hp i;rcases hd with hd|hd
 .exact .inl (k hd)
 .refine .inr ?_
  have:à r.2.1<=à s:=by
   cases md<;>simp only [dX]at j<;>omega
  show à r.2.1<d;have hd:à s<d:=hd;omega
theorem mH (S:O) (k:Nat) (hk:k<=S.length) (c:UInt8):W fun n=>fb n S (k:Int) ä c=ã (bo (fa (S.drop k) ä=ã c),S,(k:Int),ä):=by
 refine W.succ (W.of fun n=> ?_)
 rw [UJ];simp only [Ê,Y];by_cases h:k<S.length
 .rw [aU h,dy h]
  simp only [Y,Z,bW];rw [oj (show ((S[k].toNat:Int)=(c.toNat:Int))↔fa (S.drop k) ä=ã c by
   rw [Â h];show _↔ã S[k]=ã c;rw [ϝ,Ú];simp)]
 .rw [hJ ž]
  obtain rfl:k=S.length:=ž
  rw [Ã (Î _)];simp only [ez,Z];rw [aw (by simp [fa])]
theorem Nx (S:O) (a:Int) (c:UInt8):W fun n=>fb n S a å c=ã (ä,S,a,å):=by
 refine W.succ (W.of fun n=> ?_)
 rw [UJ];rfl
def Ny (S:O) (r:Nd×O×Bool) (set:O) (nt:Bool) (o c a:Int) (bad:Bool):Prop:=
 (bad=ä/\r.1=(o,c,set,nt,[])/\r.2.2=ä/\ ∃k:Nat,a=k/\k<=S.length/\S.drop k=r.2.1)\/(bad=å/\r.2.2=å)
theorem Nz (n:Nat) (p:O) (q:Int) (r:Bool) (s t:Int) (u:O) (z:Bool) (x7 x8:Int) (x9:O) (b:Bool) (lo hi:UInt8) (has:List Bool) (d:Bool) (f:UInt8) (g:O) (i k:Int) (hn:300<=n) (hl:à has=256):
  kO n n p q r s t u z x7 x8 x9 b (lo.toNat:Int) has d f g i k (hi.toNat:Int)=ã (.inl (p,q,r,s,t,u,z,x7,x8,x9,b,dI has lo.toNat (hi.toNat+1-lo.toNat),d,f,g,i,k)):=by
 have h1:=lo.toNat_lt;have h2:=hi.toNat_lt;refine HR (hi:=hi.toNat) (L:=fun m j h=>kO n m p q r s t u z x7 x8 x9 b j h d f g i k (hi.toNat:Int)) (out:=fun h=>(p,q,r,s,t,u,z,x7,x8,x9,b,h,d,f,g,i,k)) ž (fun m j h hj hh=> ?_) (fun m j h hj=> ?_) _ n lo.toNat has rfl ž hl
 .rw [UL,hC ž,hC ž,ie ž,dR]
  rfl
 .rw [UL,hJ ž,dR]
  rfl
theorem aBd (c:UInt8) (t:O) (has:List Bool) (b:Bool) (h: ∀d hi r,t=d::hi::r-> ¬(d.toNat=45/\hi.toNat≠93)):bX (c::t.takeWhile aL) has b=bX (t.takeWhile aL) (dI has c.toNat 1) b:=by
 match t,h with
 | [],_=>exact wL _ _ _ _ Ż
 | [d],_=>exact wL _ _ _ _ (by have:=om aL [d];simp only [Ç,Ó]at this;omega)
 |d::hi::r,h=>
  have h:=h d hi r rfl;rw [Í];by_cases f:aL d=å
  .rw [if_pos f,Í]
   by_cases g:aL hi=å
   .rw [if_pos g,HP _ _ _ _ _ _ h]
   .rw [if_neg g];rfl
  .rw [if_neg f];rfl
theorem XE (n:Nat) (hn:300<=n) (S:O) (hS:S.length<=60) (nt:Bool): ∀q m (k:Nat) has bad (f:Nat),S.length-k<=q->q<m->à has=256->k<=S.length->f+(S.length-k)<=200->
  ∃b:Nat,f<=b/\b<=200/\((S.drop k).takeWhile aL=[]->b=f)/\((S.drop k).takeWhile aL≠ []->f<b)/\
  iA n m S (k:Int) bad 0 0 [] ä 3 0 [] nt has (f:Int)=ã (.inl (S,((k+((S.drop k).takeWhile aL).length:Nat):Int),(bX ((S.drop k).takeWhile aL) has bad).2,0,0,[],ä,3,0,[],nt,(bX ((S.drop k).takeWhile aL) has bad).1,(b:Int))):=by
 intro q;induction q with
 |zero=>
  intro m k has bad f hk hm hl ak al;obtain⟨m,rfl⟩: ∃m',m=m'+1:=⟨m-1,ž⟩
  obtain rfl:k=S.length:=ž
  refine⟨f,Î _,ž,fun _=>rfl,fun h=>absurd đ h, ?_⟩
  rw [MU,bM,Ã (Î _)];rfl
 |succ q ih=>
  intro m k has bad f hk hm hl ak al;obtain⟨m,rfl⟩: ∃m',m=m'+1:=⟨m-1,ž⟩
  by_cases t:k<S.length
  .have w1:Þ ß ((k:Int)+1)=((k+1:Nat):Int):=by rw [Å];omega
   have w2:Þ ß (((k+1:Nat):Int)+1)=((k+2:Nat):Int):=ż
   have w3:Þ ß (((k+1:Nat):Int)+2)=((k+3:Nat):Int):=ż
   have wm:Þ ß ((f:Int)+1)=((f+1:Nat):Int):=ż
   have e0:S.drop k=S[k]::S.drop (k+1):=Â t;rw [MU,aU t,dy t];simp only [Y,Z,w1,w2,w3,sE,eQ];by_cases ae:S[k].toNat=93
   .have g:(S.drop k).takeWhile aL=[]:=by rw [e0,Í,if_neg (by simp [aL,ae])]
    refine⟨f,Î _,ž,fun _=>rfl,fun h=>absurd g h, ?_⟩
    rw [aw (P:= ¬(S[k].toNat:Int)=93) ž,g]
    rfl
   .have ao:aL S[k]=å:=by simp [aL,ae]
    have g:(S.drop k).takeWhile aL=S[k]::(S.drop (k+1)).takeWhile aL:=by rw [e0,Í,if_pos ao]
    have aq:á ((S[k].toNat:Int)<(S[k].toNat:Int))=ä:=hJ ž
    rw [aA (P:= ¬(S[k].toNat:Int)=93) ž]
    simp only [Y,aq,ez];have one: ∀x1 i j,kO n n S x1 bad 0 0 [] ä 3 0 [] nt (S[k].toNat:Int) has i j S (k:Int) (f:Int) (S[k].toNat:Int)=ã (.inl (S,x1,bad,0,0,[],ä,3,0,[],nt,dI has S[k].toNat 1,i,j,S,(k:Int),(f:Int))):=fun x1 i j=>by
     have:=Nz n S x1 bad 0 0 [] ä 3 0 [] nt S[k] S[k] has i j S (k:Int) (f:Int) hn hl;rwa [show S[k].toNat+1-S[k].toNat=1 by omega]at this
    have u:(∀d hi r,S.drop (k+1)=d::hi::r-> ¬(d.toNat=45/\hi.toNat≠93))-> ∃b:Nat,f<=b/\b<=200/\((S.drop k).takeWhile aL=[]->b=f)/\((S.drop k).takeWhile aL≠ []->f<b)/\
      iA n m S ((k+1:Nat):Int) bad 0 0 [] ä 3 0 [] nt (dI has S[k].toNat 1) ((f+1:Nat):Int)=ã (.inl (S,((k+((S.drop k).takeWhile aL).length:Nat):Int),(bX ((S.drop k).takeWhile aL) has bad).2,0,0,[],ä,3,0,[],nt,(bX ((S.drop k).takeWhile aL) has bad).1,(b:Int))):=fun z=>by
     obtain⟨b,g1,g2,g3,g4,g5⟩:=ih m (k+1) (dI has S[k].toNat 1) bad (f+1) ž ž (by rw [lC];exact hl) ž ž
     refine⟨b,ž,g2,fun h=>absurd h (by rw [g];simp),fun _=>ž, ?_⟩
     rw [g5,g,aBd _ _ _ _ z,Ç,show k+(((S.drop (k+1)).takeWhile aL).length+1)=k+1+((S.drop (k+1)).takeWhile aL).length by omega]
    by_cases h2:k+2<S.length
    .have e1:S.drop (k+1)=S[k+1]::S.drop (k+2):=Â ž
     have e2:S.drop (k+2)=S[k+2]::S.drop (k+3):=Â h2;rw [aU h2,dy (show k+1<S.length by omega),dy h2]
     simp only [Y,Z,bW,one,cO,wm];by_cases hd:S[k+1].toNat=45
     .rw [aA (P:=(S[k+1].toNat:Int)=45) ž]
      simp only [Y];by_cases hh:S[k+2].toNat=93
      .rw [aw (P:= ¬(S[k+2].toNat:Int)=93) ž]
       simp only [ez];refine u fun d hi r e=> ?_
       rw [e1,e2]at e;cases e;exact fun h=>h.2 hh
      .rw [aA (P:= ¬(S[k+2].toNat:Int)=93) ž]
       simp only [Y];have ay:aL S[k+1]=å:=by simp [aL,hd]
       have az:aL S[k+2]=å:=by simp [aL,hh]
       have af:(S.drop k).takeWhile aL=S[k]::S[k+1]::S[k+2]::(S.drop (k+3)).takeWhile aL:=by
        rw [g,e1,Í,if_pos ay,e2,Í,if_pos az]
       have p: ∀bd,bd=(bad||decide (S[k+2].toNat<S[k].toNat))-> ∃b:Nat,f<=b/\b<=200/\((S.drop k).takeWhile aL=[]->b=f)/\((S.drop k).takeWhile aL≠ []->f<b)/\
         iA n m S ((k+3:Nat):Int) bd 0 0 [] ä 3 0 [] nt (dI has S[k].toNat (S[k+2].toNat+1-S[k].toNat)) ((f+1:Nat):Int)=ã (.inl (S,((k+((S.drop k).takeWhile aL).length:Nat):Int),(bX ((S.drop k).takeWhile aL) has bad).2,0,0,[],ä,3,0,[],nt,(bX ((S.drop k).takeWhile aL) has bad).1,(b:Int))):=fun bd a1=>by
        obtain⟨b,g1,g2,g3,g4,g5⟩:=ih m (k+3) (dI has S[k].toNat (S[k+2].toNat+1-S[k].toNat)) bd (f+1) ž ž (by rw [lC];exact hl) ž ž
        refine⟨b,ž,g2,fun h=>absurd h (by rw [g];simp),fun _=>ž, ?_⟩
        rw [g5,af,HQ _ _ _ _ _ _ ⟨hd,hh⟩,a1];simp only [Ç];rw [show k+(((S.drop (k+3)).takeWhile aL).length+1+1+1)=k+3+((S.drop (k+3)).takeWhile aL).length by omega]
       by_cases s:S[k+2].toNat<S[k].toNat
       .rw [hC (show (S[k+2].toNat:Int)<(S[k].toNat:Int) by omega),Nz n S _ å 0 0 [] ä 3 0 [] nt S[k] S[k+2] has _ _ S (k:Int) (f:Int) hn hl]
        simp only [Y,Z,cO,wm];exact p å (by rw [hC s];simp)
       .rw [hJ (show ¬(S[k+2].toNat:Int)<(S[k].toNat:Int) by omega),Nz n S _ bad 0 0 [] ä 3 0 [] nt S[k] S[k+2] has _ _ S (k:Int) (f:Int) hn hl]
        simp only [ez,Z,cO,wm];exact p bad (by rw [hJ s];simp)
     .rw [aw (P:=(S[k+1].toNat:Int)=45) ž]
      simp only [ez];refine u fun d hi r e=> ?_
      rw [e1,e2]at e;cases e;exact fun h=>hd h.1
    .rw [hJ ž]
     simp only [ez,Z,one,cO,wm];refine u fun d hi r e=> ?_
     have:(S.drop (k+1)).length=(d::hi::r).length:=by rw [e]
     simp at this
     omega
  .obtain rfl:k=S.length:=by omega
   refine⟨f,Î _,ž,fun _=>rfl,fun h=>absurd đ h, ?_⟩
   rw [MU,bM,Ã (Î _)];rfl
theorem XF (S:O) (k:Nat) (hk:k<=S.length) (s:S.length<=60) (nt:Bool): ∃(set:O) (a:Int) (bad:Bool),
  ((((S.drop k).takeWhile aL).length=(S.drop k).length\/(S.drop k).takeWhile aL=[])/\bad=å\/
   ¬(((S.drop k).takeWhile aL).length=(S.drop k).length\/(S.drop k).takeWhile aL=[])/\set=bytesOf (bX ((S.drop k).takeWhile aL) dz ä).1 256/\bad=(bX ((S.drop k).takeWhile aL) dz ä).2/\a=((k+((S.drop k).takeWhile aL).length+1:Nat):Int))/\
  W fun n=>((iA n n S (k:Int) ä 0 0 [] ä 3 0 [] nt (ν (À (256:Int)) ä) 0).bind fun z=>aq z (fun z2=>(cond (á ((à z2.1:Int)<=z2.2.1)) (ã å) (ã (z2.2.2.2.2.2.2.2.2.2.2.2.2==(0:Int))):Option Bool).bind fun j=>cond j ((mu n n z2.1 (Þ ß (z2.2.1+1)) å z2.2.2.2.1 z2.2.2.2.2.1 z2.2.2.2.2.2.1 z2.2.2.2.2.2.2.1 z2.2.2.2.2.2.2.2.1 z2.2.2.2.2.2.2.2.2.1 z2.2.2.2.2.2.2.2.2.2.1 z2.2.2.2.2.2.2.2.2.2.2.1 0 [] z2.2.2.2.2.2.2.2.2.2.2.2.1).bind fun d=>aq d (fun z24=>ã (z24.2.2.2.2.2.2.2.1,z24.2.2.2.2.2.2.2.2.1,z24.2.2.2.2.2.2.2.2.2.2.2,z24.2.2.2.2.2.2.2.2.2.2.1,z24.1,z24.2.1,z24.2.2.1)) (fun f=>ã f))
   ((mu n n z2.1 (Þ ß (z2.2.1+1)) z2.2.2.1 z2.2.2.2.1 z2.2.2.2.2.1 z2.2.2.2.2.2.1 z2.2.2.2.2.2.2.1 z2.2.2.2.2.2.2.2.1 z2.2.2.2.2.2.2.2.2.1 z2.2.2.2.2.2.2.2.2.2.1 z2.2.2.2.2.2.2.2.2.2.2.1 0 [] z2.2.2.2.2.2.2.2.2.2.2.2.1).bind fun d=>aq d (fun z24=>ã (z24.2.2.2.2.2.2.2.1,z24.2.2.2.2.2.2.2.2.1,z24.2.2.2.2.2.2.2.2.2.2.2,z24.2.2.2.2.2.2.2.2.2.2.1,z24.1,z24.2.1,z24.2.2.1)) (fun f=>ã f))) (fun w2=>ã w2))=ã (3,0,set,nt,S,a,bad):=by
 have b:=zd ((S.drop k).takeWhile aL) dz ä;have b:(bX ((S.drop k).takeWhile aL) dz ä).1.length=256:=by rw [b,tG]
 have ae:=om aL (S.drop k);have af:(S.drop k).length=S.length-k:=Ż
 have kb: ∀(a:Int) (bad:Bool),W fun n=>mu n n S a bad 0 0 [] ä 3 0 [] nt 0 [] (bX ((S.drop k).takeWhile aL) dz ä).1=ã (.inl (S,a,bad,0,0,[],ä,3,0,[],nt,bytesOf (bX ((S.drop k).takeWhile aL) dz ä).1 256)):=fun a bad=>
  Sy b (L:=fun n m i o=>mu n m S a bad 0 0 [] ä 3 0 [] nt i o (bX ((S.drop k).takeWhile aL) dz ä).1) (out:=fun o=>(S,a,bad,0,0,[],ä,3,0,[],nt,o))
   (fun n m i o hi ho=>by
    rw [UM,hC ž,hC ž,ie ž,SA i hi]
    simp only [Y,Z];rw [qv ž,getD_at (show i<(bX ((S.drop k).takeWhile aL) dz ä).1.length by omega)]
    cases (bX ((S.drop k).takeWhile aL) dz ä).1[i]<;>simp) (fun n m o=>by rw [UM];rfl)
 have t:Þ ß (((k+((S.drop k).takeWhile aL).length:Nat):Int)+1)=((k+((S.drop k).takeWhile aL).length+1:Nat):Int):=ż
 by_cases h:((S.drop k).takeWhile aL).length=(S.drop k).length\/(S.drop k).takeWhile aL=[]
 .refine⟨bytesOf (bX ((S.drop k).takeWhile aL) dz ä).1 256,((k+((S.drop k).takeWhile aL).length+1:Nat):Int),å,.inl ⟨h,rfl⟩,((kb ((k+((S.drop k).takeWhile aL).length+1:Nat):Int) å).and (W.ge 400)).mono fun n ⟨p,hn⟩=> ?_⟩
  obtain⟨g,g1,g2,g3,g4,g5⟩:=XE n ž S s nt S.length n k dz ä 0 ž ž tG hk ž
  rw [show iA n n S (k:Int) ä 0 0 [] ä 3 0 [] nt (ν (À 256) ä) 0=_ from g5];simp only [Z,cO,t];have r:(cond (á ((S.length:Int)<=((k+((S.drop k).takeWhile aL).length:Nat):Int))) (ã å) (ã ((g:Int)==(0:Int))):Option Bool)=ã å:=by
   rcases h with h|h
   .rw [hC ž];rfl
   .rw [g3 h]
    cases á ((S.length:Int)<=((k+((S.drop k).takeWhile aL).length:Nat):Int))<;>rfl
  rw [r];simp only [Z,Y];rw [p];rfl
 .refine⟨bytesOf (bX ((S.drop k).takeWhile aL) dz ä).1 256,((k+((S.drop k).takeWhile aL).length+1:Nat):Int),(bX ((S.drop k).takeWhile aL) dz ä).2,.inr ⟨h,rfl,rfl,rfl⟩,((kb ((k+((S.drop k).takeWhile aL).length+1:Nat):Int) (bX ((S.drop k).takeWhile aL) dz ä).2).and (W.ge 400)).mono fun n ⟨p,hn⟩=> ?_⟩
  obtain⟨g,g1,g2,g3,g4,g5⟩:=XE n ž S s nt S.length n k dz ä 0 ž ž tG hk ž
  rw [show iA n n S (k:Int) ä 0 0 [] ä 3 0 [] nt (ν (À 256) ä) 0=_ from g5];simp only [Z,cO,t];have ah: ¬((S.drop k).takeWhile aL).length=(S.drop k).length:=fun q=>h (.inl q)
  have u:=g4 (fun q=>h (.inr q))
  have r:(cond (á ((S.length:Int)<=((k+((S.drop k).takeWhile aL).length:Nat):Int))) (ã å) (ã ((g:Int)==(0:Int))):Option Bool)=ã ä:=by
   rw [hJ ž,bW,aw ž];rfl
  rw [r];simp only [Z,ez];rw [p];rfl
theorem aBe (S:O) (k:Nat) (hk:k<=S.length) (m:S.length<=60): ∃set nt o c a bad,Ny S (fU (S.drop k)) set nt o c a bad/\W fun n=>JR n S (k:Int) ä=ã (o,c,set,nt,S,a,bad):=by
 have fin: ∀(j:Nat) (nt:Bool),j<=S.length->bN (S.drop k)=(S.drop j,nt)-> ∀set a bad,((((S.drop j).takeWhile aL).length=(S.drop j).length\/(S.drop j).takeWhile aL=[])/\bad=å\/
   ¬(((S.drop j).takeWhile aL).length=(S.drop j).length\/(S.drop j).takeWhile aL=[])/\set=bytesOf (bX ((S.drop j).takeWhile aL) dz ä).1 256/\bad=(bX ((S.drop j).takeWhile aL) dz ä).2/\a=((j+((S.drop j).takeWhile aL).length+1:Nat):Int))->Ny S (fU (S.drop k)) set nt 3 0 a bad:=by
  intro j nt hj b set a bad h;have p:=om aL (S.drop j);have s:(S.drop j).length=S.length-j:=Ż
  unfold fU Ny;rw [b];simp only;rcases h with⟨h,rfl⟩|⟨h,d,f,t⟩
  .rw [if_pos h]
   exact .inr ⟨rfl,rfl⟩
  .rw [if_neg h,d,f,t]
   simp only;cases hb:(bX ((S.drop j).takeWhile aL) dz ä).2
   .refine .inl ⟨rfl,by simp only,rfl,_,rfl, ?_, ?_⟩
    .have u: ¬((S.drop j).takeWhile aL).length=(S.drop j).length:=fun q=>h (.inl q)
     omega
    .rw [List.drop_drop]
     rfl
   .exact .inr ⟨rfl,rfl⟩
 by_cases h:fa (S.drop k) ä=ã 94
 .obtain⟨-,e⟩:=fW h
  have z:k<S.length:=by
   by_cases h':k<S.length
   .exact h'
   .rw [Ã ž]at h;cases h
  have b:bN (S.drop k)=(S.drop (k+1),å):=by
   have ht:(S.drop k).tail=S.drop (k+1):=ώ;rw [e,ht];rfl
  obtain⟨set,a,bad,g,i⟩:=XF S (k+1) ž m å
  refine⟨set,å,3,0,a,bad,fin (k+1) å ž b set a bad g,(i.and (mH S k hk 94)).nm fun n ⟨d,f⟩=> ?_⟩
  rw [UK,show fb n S (k:Int) ä (Ä (À 94))=_ from f,aA h];simp only [Z,Y];rw [hC Ũ,show Þ ß ((k:Int)+1)=((k+1:Nat):Int) by rw [Å];omega]
  exact d
 .have b:bN (S.drop k)=(S.drop k,ä):=by
   cases e:S.drop k with
   |nil=>rfl
   |cons c r=>
    rw [e]at h;show(if c.toNat=94 then(r,å)else(c::r,ä))=_
    have hc:c.toNat≠94:=fun q=>h (congrArg ã (Ú.1 q))
    rw [if_neg hc]
  obtain⟨set,a,bad,g,i⟩:=XF S k hk m ä;refine⟨set,ä,3,0,a,bad,fin k ä hk b set a bad g,(i.and (mH S k hk 94)).nm fun n ⟨d,f⟩=> ?_⟩
  rw [UK,show fb n S (k:Int) ä (Ä (À 94))=_ from f,aw h];simp only [Z,ez];rw [hC Ũ]
  exact d
def aBf (md:Md) (d:Nat) (S:O) (k:Nat) (r:Nd×O×Bool):Prop:=
 match md with
 |.pat=> ∃t a bad,Sync d S r t a bad/\W fun n=>xq n S k ä d=ã (fc t S a bad)
 |.part=> ∃t a bad,Sync d S r t a bad/\W fun n=>Cl n S k ä d=ã (fc t S a bad)
 |.piece=> ∃t a bad,Sync d S r t a bad/\W fun n=>JQ n S k ä d=ã (fc t S a bad)
 |.atom=> ∃t a bad,Sync d S r t a bad/\W fun n=>xt n S k ä d=ã (fc t S a bad)
 |.fV ks=> ∃b a bad,Sync d S r (iQ b) a bad/\cJ fun n m=>rU n m S k ä 0 0 [] ä d ks=ã (.inl (S,a,bad,0,0,[],ä,b))
 |.fz ks=> ∃b a bad,Sync d S r (iR b) a bad/\cJ fun n m=>xr n m S k ä 0 0 [] ä d ks=ã (.inl (S,a,bad,0,0,[],ä,b))
 |.jr t=> ∃f a bad,Sync d S r f a bad/\cJ fun n m=>rV n m S k ä 0 0 [] ä t.1 t.2.1 t.2.2.1 t.2.2.2.1 t.2.2.2.2=ã (.inl (S,a,bad,0,0,[],ä,f.1,f.2.1,f.2.2.1,f.2.2.2.1,f.2.2.2.2))
theorem XG (ks:List Tr) (S:O) (a:Int) (bad:Bool):(cond ((à ks:Int)==(1:Int)) (cond (á ((0:Int)<=(0:Int)/\(0:Int)<(à ks:Int))) ((nu ks 0).bind fun d=>ã (d.1,d.2.1,d.2.2.1,d.2.2.2.1,d.2.2.2.2,S,a,bad)) â) (ã ((7:Int),(0:Int),([]:O),ä,ks,S,a,bad)))=ã (fc (iQ ks) S a bad):=by
 match ks with
 | []=>rfl
 | [k]=>rw [za];rfl
 |a::b::r=>
  rw [bW,aw Ÿ]
  rfl
theorem aBg (ks:List Tr) (S:O) (a:Int) (bad:Bool):(cond ((à ks:Int)==(0:Int)) (ã ((11:Int),(0:Int),([]:O),ä,([]:List Tr),S,a,bad)) (cond ((à ks:Int)==(1:Int)) (cond (á ((0:Int)<=(0:Int)/\(0:Int)<(à ks:Int))) ((nu ks 0).bind fun d=>ã (d.1,d.2.1,d.2.2.1,d.2.2.2.1,d.2.2.2.2,S,a,bad)) â) (ã ((6:Int),(0:Int),([]:O),ä,ks,S,a,bad))))=ã (fc (iR ks) S a bad):=by
 match ks with
 | []=>rfl
 | [k]=>rw [za];rfl
 |a::b::r=>
  rw [bW,bW,aw (P:=_=(0:Int)) Ÿ,aw (P:=_=(1:Int)) Ÿ]
  rfl
theorem wk {k:Nat} (h:k<=1000):Þ ß ((k:Int)+(1:Int))=((k+1:Nat):Int):=ż
theorem drop_tail {S s:O} {k:Nat} (h:S.drop k=s):S.drop (k+1)=s.tail:=by rw [<-h,ώ]
theorem Fh {S:O} {k:Nat} {c:UInt8} {t:O} (h:S.drop k=c::t): ∃hk:k<S.length,S[k]=c:=by
 have hk:k<S.length:=by
  by_cases b:k<S.length
  .exact b
  .rw [Ã ž]at h;cases h
 refine⟨hk, ?_⟩
 rw [Â hk]at h;exact(List.cons.inj h).1
theorem uK {s:O} {c d:UInt8} (h:fa s ä=ã c):fa s ä=ã d↔c.toNat=d.toNat:=by
 rw [h];constructor
 .intro k;cases k;rfl
 .intro k;exact congrArg ã (Ú.1 k)
theorem aBh: ∀f md s r,iP f md s ä=ã r-> ∀d (S:O) k,S.length<=60->k<=S.length->S.drop k=s->d+à s<=60->ni md s ä->lE md s->aBf md d S k r:=by
 intro f;induction f with
 |zero=>intro md s r h;simp [iP]at h
 |succ f ih=>
  intro md s r h d S k hS hk hd a7 a8 bb;have hs:à s<=60:=ž
  have bz:S.length-k=à s:=by rw [<-hd];simp
  cases md with
  |pat=>
   simp only [iP,Ì]at h;obtain⟨x,h1,h2⟩:=h;obtain⟨a1,a2,a3⟩:=eR _ _ _ _ _ h1 hs trivial trivial;simp only [dX]at a2;have ae:lE (.fV [cP x.1]) x.2.1:=⟨ź,by simpa using fj a1⟩
   obtain⟨t,a,bad,z,g⟩:=ih _ _ _ h1 d S k hS hk hd a7 trivial trivial;rcases z with⟨rfl,rfl,hb,k',rfl,ah,af⟩|⟨rfl,j⟩
   .rw [hb]at h2
    obtain⟨ai,a',u,ad,p⟩:=ih _ _ _ h2 d S k' hS ah af ž trivial ae
    refine⟨iQ ai,a',u,ad,(g.and (cJ.diag p)).nm fun n ⟨g,p⟩=> ?_⟩
    rw [UG,g];simp only [Z,fc,mF];rw [show rU n n S k' ä 0 0 [] ä d [cP (x.1.1,x.1.2.1,x.1.2.2.1,x.1.2.2.2.1,x.1.2.2.2.2)]=_ from p];simp only [Z,cO];exact XG ai S a' u
   .have b:=j.mono h2 ž trivial ae
    refine⟨iQ [cP t],a,å,.inr ⟨rfl,b⟩,((g.and (Nx S a 124)).and (W.ge 1)).nm fun n ⟨⟨g,p⟩,hn⟩=> ?_⟩
    rw [UG,g];simp only [Z,fc,mF];obtain⟨m,hm⟩: ∃m,n=m+1:=⟨n-1,ž⟩
    have e3:rU n n S a å 0 0 [] ä d [cP (t.1,t.2.1,t.2.2.1,t.2.2.2.1,t.2.2.2.2)]=ã (.inl (S,a,å,0,0,[],ä,[cP t])):=by
     conv=>lhs;arg 2;rw [hm]
     rw [uD,show fb n S a å (Ä (À 124))=_ from p];rfl
    rw [e3];simp only [Z,cO];exact XG [cP t] S a å
  |fV ks=>
   have cg:=bb.1;simp only [iP]at h;split at h
   .rename_i hn
    cases h;refine⟨ks,k,ä,.inl ⟨rfl,rfl,rfl,k,rfl,hk,hd⟩,cJ.stop (mH S k hk 124) fun n m e=> ?_⟩
    rw [uD,qw,e,hd,hn,aw Ż]
    rfl
   .rename_i c hn
    obtain⟨-,e⟩:=fW hn;have hl:à s=à s.tail+1:=Ţ
    split at h
    .rename_i hc
     simp only [Ì]at h;obtain⟨x,h1,h2⟩:=h;obtain⟨a1,a2,a3⟩:=eR _ _ _ _ _ h1 ž trivial trivial
     simp only [dX]at a2;have ae:lE (.fV (ks++[cP x.1])) x.2.1:=⟨ź,by
      intro k hk;rcases Ö.1 hk with hk|hk
      .exact bb.2 k hk
      .simp at hk;subst hk;exact fj a1⟩
     have bn:fa (S.drop k) ä=ã 124:=by rw [hd];exact(uK (d:=124) hn).2 hc
     obtain⟨t,a,bad,z,g⟩:=ih _ _ _ h1 d S (k+1) hS ž (drop_tail hd) ž trivial trivial
     rcases z with⟨rfl,rfl,hb,k',rfl,ah,af⟩|⟨rfl,j⟩
     .rw [hb]at h2
      obtain⟨ai,a',u,ad,p⟩:=ih _ _ _ h2 d S k' hS ah af ž trivial ae
      refine⟨ai,a',u,ad,cJ.step ((mH S k hk 124).and g) p fun n m ⟨e0,g⟩ p=> ?_⟩
      rw [uD,qw,e0,aA bn];simp only [Z,Y,wk (show k<=1000 by omega),g,fc,mF]
      rw [qv ž]
      exact p
     .have b:=j.mono h2 ž trivial ae
      have al:cJ fun n m=>rU n m S a å 0 0 [] ä d (ks++[cP t])=ã (.inl (S,a,å,0,0,[],ä,ks++[cP t])):=cJ.stop (Nx S a 124) fun n m e=>by
       rw [uD,qw,e];rfl
      refine⟨ks++[cP t],a,å,.inr ⟨rfl,b⟩,cJ.step ((mH S k hk 124).and g) al fun n m ⟨e0,g⟩ p=> ?_⟩
      rw [uD,qw,e0,aA bn];simp only [Z,Y,wk (show k<=1000 by omega),g,fc,mF]
      rw [qv ž]
      exact p
    .rename_i hc
     cases h;refine⟨ks,k,ä,.inl ⟨rfl,rfl,rfl,k,rfl,hk,hd⟩,cJ.stop (mH S k hk 124) fun n m e=> ?_⟩
     rw [uD,qw,e,hd,aw (fun q=>hc ((uK (d:=124) hn).1 q))]
     rfl
  |part=>
   simp only [iP]at h;obtain⟨ai,a,bad,z,e⟩:=ih (.fz []) _ _ h d S k hS hk hd a7 trivial ⟨ź,Ż⟩
   refine⟨iR ai,a,bad,z,(cJ.diag e).nm fun n e=> ?_⟩
   rw [anX,e];simp only [Z,cO];exact aBg ai S a bad
  |fz ks=>
   have cg:=bb.1;simp only [iP]at h;split at h
   .rename_i hn
    cases h;have ca:s=[]:=by
     cases s with
     |nil=>rfl
     |cons c t=>simp [fa]at hn
    subst ca;refine⟨ks,k,ä,.inl ⟨rfl,rfl,rfl,k,rfl,hk,hd⟩,cJ.stop (W.ge 0) fun n m _=> ?_⟩
    rw [yU,hJ (by simp at bz;omega)]
    rfl
   .rename_i c hn
    obtain⟨-,e⟩:=fW hn;obtain⟨ao,bc⟩:=Fh (hd.trans e);split at h
    .rename_i hc
     cases h;refine⟨ks,k,ä,.inl ⟨rfl,rfl,rfl,k,rfl,hk,hd⟩,cJ.stop (W.ge 0) fun n m _=> ?_⟩
     rw [yU,aU ao,dy ao,bc];simp only [Ê,Y,Z,eQ];rcases hc with hc|hc
     .rw [aw (P:= ¬(c.toNat:Int)=124) ž];rfl
     .rw [aA (P:= ¬(c.toNat:Int)=124) ž,aw (P:= ¬(c.toNat:Int)=41) ž];rfl
    .rename_i hc
     simp only [Ì]at h;obtain⟨x,h1,h2⟩:=h;have bd:ni .piece s ä:=⟨Ţ,rfl⟩
     obtain⟨a1,a2,a3⟩:=eR _ _ _ _ _ h1 hs bd trivial;simp only [dX]at a2;have ae:lE (.fz (ks++[cP x.1])) x.2.1:=⟨ź,by
      intro k hk;rcases Ö.1 hk with hk|hk
      .exact bb.2 k hk
      .simp at hk;subst hk;exact fj a1⟩
     obtain⟨t,a,bad,z,g⟩:=ih _ _ _ h1 d S k hS hk hd a7 bd trivial;rcases z with⟨rfl,rfl,hb,k',rfl,ah,af⟩|⟨rfl,j⟩
     .rw [hb]at h2
      obtain⟨ai,a',u,ad,p⟩:=ih _ _ _ h2 d S k' hS ah af ž trivial ae
      refine⟨ai,a',u,ad,cJ.step g p fun n m g p=> ?_⟩
      rw [yU,aU ao,dy ao,bc];simp only [Ê,Y,Z,eQ];rw [aA (P:= ¬(c.toNat:Int)=124) ž,aA (P:= ¬(c.toNat:Int)=41) ž]
      simp only [Z,Y,g,fc,mF];rw [qv ž]
      exact p
     .have b:=j.mono h2 ž trivial ae
      have al:cJ fun n m=>xr n m S a å 0 0 [] ä d (ks++[cP t])=ã (.inl (S,a,å,0,0,[],ä,ks++[cP t])):=cJ.stop (W.ge 0) fun n m e=>by
       rw [yU];rfl
      refine⟨ks++[cP t],a,å,.inr ⟨rfl,b⟩,cJ.step g al fun n m g p=> ?_⟩
      rw [yU,aU ao,dy ao,bc];simp only [Ê,Y,Z,eQ];rw [aA (P:= ¬(c.toNat:Int)=124) ž,aA (P:= ¬(c.toNat:Int)=41) ž]
      simp only [Z,Y,g,fc,mF];rw [qv ž]
      exact p
  |piece=>
   simp only [iP,Ì]at h;obtain⟨x,h1,h2⟩:=h;obtain⟨a1,a2,a3⟩:=eR _ _ _ _ _ h1 hs a8 trivial;simp only [dX]at a2;obtain⟨t,a,bad,z,g⟩:=ih _ _ _ h1 d S k hS hk hd a7 a8 trivial;rcases z with⟨rfl,rfl,hb,k',rfl,ah,af⟩|⟨rfl,j⟩
   .rw [hb]at h2
    obtain⟨t',a',u,ad,p⟩:=ih _ _ _ h2 d S k' hS ah af ž trivial a1
    refine⟨t',a',u,ad,(g.and (cJ.diag p)).nm fun n ⟨g,p⟩=> ?_⟩
    rw [UH,g];simp only [Z,fc];rw [p];rfl
   .have b:=j.mono h2 ž trivial a1
    have al:cJ fun n m=>rV n m S a å 0 0 [] ä t.1 t.2.1 t.2.2.1 t.2.2.2.1 t.2.2.2.2=ã (.inl (S,a,å,0,0,[],ä,t.1,t.2.1,t.2.2.1,t.2.2.2.1,t.2.2.2.2)):=cJ.stop (W.ge 0) fun n m e=>by
     rw [Fb];rfl
    refine⟨t,a,å,.inr ⟨rfl,b⟩,(g.and (cJ.diag al)).nm fun n ⟨g,p⟩=> ?_⟩
    rw [UH,g];simp only [Z,fc];rw [p];rfl
  |jr t=>
   have base:=(mH S k hk 42).and ((mH S k hk 43).and (mH S k hk 63));simp only [iP]at h;split at h
   .rename_i hn
    cases h;refine⟨t,k,ä,.inl ⟨rfl,rfl,rfl,k,rfl,hk,hd⟩,cJ.stop base fun n m ⟨g,p,e3⟩=> ?_⟩
    rw [Fb];simp only [Ê,Y];rw [show fb n S (k:Int) ä (Ä (À 42))=_ from g,hd,hn,aw Ż]
    simp only [Z,ez];rw [show fb n S (k:Int) ä (Ä (À 43))=_ from p,hd,hn,aw Ż]
    simp only [Z,ez];rw [show fb n S (k:Int) ä (Ä (À 63))=_ from e3,hd,hn,aw Ż]
    rfl
   .rename_i c hn
    obtain⟨-,e⟩:=fW hn;have hl:à s=à s.tail+1:=Ţ
    have q1:=uK (d:=42) hn;have q2:=uK (d:=43) hn;have q3:=uK (d:=63) hn;rw [<-hd]at q1 q2 q3;split at h
    .rename_i hc
     cases h;refine⟨t,k,ä,.inl ⟨rfl,rfl,rfl,k,rfl,hk,hd⟩,cJ.stop base fun n m ⟨g,p,e3⟩=> ?_⟩
     have br:c.toNat≠42/\c.toNat≠43/\c.toNat≠63:=by
      unfold il at hc;repeat' split at hc
      all_goals omega
     rw [Fb];simp only [Ê,Y];rw [show fb n S (k:Int) ä (Ä (À 42))=_ from g,aw (fun q=>br.1 (q1.1 q))]
     simp only [Z,ez];rw [show fb n S (k:Int) ä (Ä (À 43))=_ from p,aw (fun q=>br.2.1 (q2.1 q))]
     simp only [Z,ez];rw [show fb n S (k:Int) ä (Ä (À 63))=_ from e3,aw (fun q=>br.2.2 (q3.1 q))]
     rfl
    .rename_i hc
     obtain⟨t',a',u,ad,e4⟩:=ih _ _ _ h d S (k+1) hS ž (drop_tail hd) ž trivial ⟨Ż,by simpa using fj bb⟩
     refine⟨t',a',u,ad,cJ.step base e4 fun n m ⟨g,p,e3⟩ e4=> ?_⟩
     rw [Fb];simp only [Ê,Y];rw [show fb n S (k:Int) ä (Ä (À 42))=_ from g];simp only [Z,wk (show k<=1000 by omega),mF]
     by_cases c1:c.toNat=42
     .rw [aA (q1.2 c1)]
      have:il c=8:=by unfold il;rw [if_pos c1]
      rw [this]at e4;exact e4
     rw [aw (fun q=>c1 (q1.1 q))]
     simp only [ez];rw [show fb n S (k:Int) ä (Ä (À 43))=_ from p];simp only [Z,wk (show k<=1000 by omega)]
     by_cases c2:c.toNat=43
     .rw [aA (q2.2 c2)]
      have:il c=9:=by unfold il;rw [if_neg c1,if_pos c2]
      rw [this]at e4;exact e4
     rw [aw (fun q=>c2 (q2.1 q))]
     simp only [ez];rw [show fb n S (k:Int) ä (Ä (À 63))=_ from e3];simp only [Z,wk (show k<=1000 by omega)]
     by_cases c3:c.toNat=63
     .rw [aA (q3.2 c3)]
      have:il c=10:=by unfold il;rw [if_neg c1,if_neg c2,if_pos c3]
      rw [this]at e4;exact e4
     exfalso
     apply hc
     unfold il;rw [if_neg c1,if_neg c2,if_neg c3]
  |atom=>
   obtain⟨ck, -⟩:=a8;have cl:=h;cases s with
   |nil=>exact absurd rfl ck
   |cons c rr=>
    obtain⟨ao,bc⟩:=Fh hd;simp only [Ç]at hs a7;have aq:S.drop (k+1)=rr:=drop_tail hd;by_cases cm:40<d
    .refine⟨leaf 0 0,k,å,.inr ⟨rfl,uJ.mono cl (by simpa using hs) ⟨Ż,rfl⟩ trivial (.inr Ÿ)⟩,W.succ (W.of fun n=> ?_)⟩
     rw [UI,hJ (show ¬(S.length:Int)<=(k:Int) by omega),hC (show (40:Int)<(d:Int) by omega)]
     rfl
    have i: ∀n,xt (n+1) S k ä d=_:=fun n=>by
     rw [UI,hJ (show ¬(S.length:Int)<=(k:Int) by omega),hJ (show ¬(40:Int)<(d:Int) by omega),dy ao,bc,wk (show k<=1000 by omega)]
    simp only [iP]at h;split at h
    .rename_i hc
     simp only [Ì]at h;obtain⟨x,h1,h2⟩:=h;cases h2;obtain⟨a1,a2,a3⟩:=eR _ _ _ _ _ h1 ž trivial trivial
     simp only [dX]at a2;obtain⟨t,a,bad,z,g⟩:=ih _ _ _ h1 (d+1) S (k+1) hS ž aq ž trivial trivial
     rcases z with⟨rfl,rfl,hb,k',rfl,ah,af⟩|⟨rfl,j⟩
     .by_cases bf:fa x.2.1 ä=ã 41
      .have bg:jq x=(x.1,x.2.1.tail,ä):=by
        unfold jq;rw [hb,bf];rfl
       obtain⟨-,p⟩:=fW bf;have ct:k'<S.length:=(Fh (af.trans p)).1;refine⟨x.1,((k'+1:Nat):Int),ä,.inl ⟨rfl,by rw [bg],by rw [bg],k'+1,rfl,ž,by rw [bg];exact drop_tail af⟩,(g.and (mH S k' ah 41)).nm fun n ⟨g,e3⟩=> ?_⟩
       rw [i];simp only [ez,Z,bW];rw [aA (show (c.toNat:Int)=40 by omega),wk (show d<=1000 by omega)]
       simp only [Y,g,Z,fc];rw [show fb n S (k':Int) ä (Ä (À 41))=_ from e3,af,aA bf];simp only [Z,È,ez,wk (show k'<=1000 by omega)]
      .have bg:(jq x).2.2=å:=by
        unfold jq;rw [hb];split
        .rename_i dd bs
         split
         .rename_i hq
          exact absurd ((uK (d:=41) bs).2 hq) bf
         .rfl
        .rfl
       refine⟨x.1,((k'+1:Nat):Int),å,.inr ⟨rfl,.inl bg⟩,(g.and (mH S k' ah 41)).nm fun n ⟨g,e3⟩=> ?_⟩
       rw [i];simp only [ez,Z,bW];rw [aA (show (c.toNat:Int)=40 by omega),wk (show d<=1000 by omega)]
       simp only [Y,g,Z,fc];rw [show fb n S (k':Int) ä (Ä (À 41))=_ from e3,af,aw bf];simp only [Z,Ê,Y,wk (show k'<=1000 by omega)]
     .have b:uJ d (jq x).2:=by
       unfold jq;split
       .rename_i dd bs
        obtain⟨hb,p⟩:=fW bs;split
        .rcases j with hq|hq
         .rw [hb]at hq;cases hq
         .refine .inr ?_
          show à x.2.1.tail<d;rw [p]at hq;simp only [Ç]at hq;omega
        .exact .inl rfl
       .exact .inl rfl
      refine⟨t,Þ ß (a+1),å,.inr ⟨rfl,b⟩,(g.and (Nx S a 41)).nm fun n ⟨g,e3⟩=> ?_⟩
      rw [i];simp only [ez,Z,bW];rw [aA (show (c.toNat:Int)=40 by omega),wk (show d<=1000 by omega)]
      simp only [Y,g,Z,fc];rw [show fb n S a å (Ä (À 41))=_ from e3];rfl
    .rename_i hc
     cases h;have ar:bo ((c.toNat:Int)=40)=ä:=aw ž
     show ∃t a bad,Sync d S (lD c rr) t a bad/\W fun n=>xt n S k ä d=ã (fc t S a bad)
     unfold lD;by_cases c1:c.toNat=46
     .rw [if_pos c1]
      refine⟨leaf 2 0,((k+1:Nat):Int),ä,.inl ⟨rfl,rfl,rfl,k+1,rfl,ž,aq⟩,W.succ (W.of fun n=> ?_)⟩
      rw [i];simp only [ez,Z,bW];rw [ar,aA (show (c.toNat:Int)=46 by omega)]
      rfl
     rw [if_neg c1];have av:bo ((c.toNat:Int)=46)=ä:=aw ž
     by_cases c2:c.toNat=94
     .rw [if_pos c2]
      refine⟨leaf 4 0,((k+1:Nat):Int),ä,.inl ⟨rfl,rfl,rfl,k+1,rfl,ž,aq⟩,W.succ (W.of fun n=> ?_)⟩
      rw [i];simp only [ez,Z,bW];rw [ar,av,aA (show (c.toNat:Int)=94 by omega)]
      rfl
     rw [if_neg c2];have ay:bo ((c.toNat:Int)=94)=ä:=aw ž
     by_cases c3:c.toNat=36
     .rw [if_pos c3]
      refine⟨leaf 5 0,((k+1:Nat):Int),ä,.inl ⟨rfl,rfl,rfl,k+1,rfl,ž,aq⟩,W.succ (W.of fun n=> ?_)⟩
      rw [i];simp only [ez,Z,bW];rw [ar,av,ay,aA (show (c.toNat:Int)=36 by omega)]
      rfl
     rw [if_neg c3];have bh:bo ((c.toNat:Int)=36)=ä:=aw ž
     by_cases c4:c.toNat=91
     .rw [if_pos c4]
      obtain⟨set,nt,o,cc,a,bad,z,g⟩:=aBe S (k+1) ž hS
      rw [aq]at z;refine⟨(o,cc,set,nt,[]),a,bad, ?_,g.nm fun n g=> ?_⟩
      .rcases z with⟨h1,h2,h3,h4⟩|⟨h1,h2⟩
       .exact .inl ⟨h1,h2.symm,h3,h4⟩
       .exact .inr ⟨h1,.inl h2⟩
      .rw [i]
       simp only [ez,Z,bW];rw [ar,av,ay,bh,aA (show (c.toNat:Int)=91 by omega)]
       simp only [Y,ez,g,Z,fc]
     rw [if_neg c4];have bm:bo ((c.toNat:Int)=91)=ä:=aw ž
     by_cases c5:c.toNat=92
     .rw [if_pos c5]
      cases rr with
      |nil=>
       have cx:k+1=S.length:=by simp at bz;omega
       refine⟨leaf 0 0,((k+1:Nat):Int),å,.inr ⟨rfl,.inl rfl⟩,W.succ (W.of fun n=> ?_)⟩
       rw [i];simp only [ez,Z,bW];rw [ar,av,ay,bh,bm,aA (show (c.toNat:Int)=92 by omega),hC (show (S.length:Int)<=((k+1:Nat):Int) by omega)]
       rfl
      |cons dd rr=>
       obtain⟨cb,cn⟩:=Fh aq;refine⟨leaf 1 dd.toNat,((k+2:Nat):Int),ä,.inl ⟨rfl,rfl,rfl,k+2,rfl,ž,drop_tail aq⟩,W.succ (W.of fun n=> ?_)⟩
       rw [i];simp only [ez,Z,bW];rw [ar,av,ay,bh,bm,aA (show (c.toNat:Int)=92 by omega),hJ (show ¬(S.length:Int)<=((k+1:Nat):Int) by omega),dy cb,cn,wk (show k+1<=1000 by omega)]
       simp only [Y,ez,Z,sE,fc,leaf]
     rw [if_neg c5];have cd:bo ((c.toNat:Int)=92)=ä:=aw ž
     by_cases c6:c.toNat=42\/c.toNat=43\/c.toNat=63
     .rw [if_pos c6]
      refine⟨leaf 1 c.toNat,((k+1:Nat):Int),å,.inr ⟨rfl,.inl rfl⟩,W.succ (W.of fun n=> ?_)⟩
      rw [i];simp only [ez,Z,bW];rw [ar,av,ay,bh,bm,cd];simp only [ez,sE,fc,leaf];rcases c6 with c6|c6|c6
      .rw [aA (P:=(c.toNat:Int)=42) ž];rfl
      .rw [aw (P:=(c.toNat:Int)=42) ž,aA (P:=(c.toNat:Int)=43) ž];rfl
      .rw [aw (P:=(c.toNat:Int)=42) ž,aw (P:=(c.toNat:Int)=43) ž,aA (P:=(c.toNat:Int)=63) ž];rfl
     .rw [if_neg c6]
      refine⟨leaf 1 c.toNat,((k+1:Nat):Int),ä,.inl ⟨rfl,rfl,rfl,k+1,rfl,ž,aq⟩,W.succ (W.of fun n=> ?_)⟩
      rw [i];simp only [ez,Z,bW];rw [ar,av,ay,bh,bm,cd,aw (P:=(c.toNat:Int)=42) ž,aw (P:=(c.toNat:Int)=43) ž,aw (P:=(c.toNat:Int)=63) ž]
      simp only [ez,sE,fc,leaf]
theorem XH {ks:List Tr} (g:à ks<=1048576) (a0:Int) {L:Nat->Nat->Int->Int->Option (Sum Int Int)}
  (b:W fun n=> ∀m (i:Nat) (a:Int) (h:i<à ks),L n (m+1) i a=L n m (Þ ß ((i:Int)+1)) (cond (á (a<dh ks[i])) (dh ks[i]) a))
  (he: ∀n m a,L n (m+1) (à ks:Int) a=ã (.inl a)):W fun n=>L n n 0 a0=ã (.inl (gq a0 ks)):=by
 have:=lv (len:=à ks) (L:=fun n m i a=>L n m (i:Int) a) (fun i a=>gq a0 ks=gq a (ks.drop i)) (fun x=>x=.inl (gq a0 ks)) ?_ ?_
 .exact this.mono fun n h=>by
   obtain⟨x,d,f⟩:=h a0 Ż
   rw [<-f];exact d
 .refine b.mono fun n h m i a hi hinv=>.inr ⟨cond (á (a<dh ks[i])) (dh ks[i]) a, ?_, ?_⟩
  .have h:=h m i a hi
   rw [<-du hi ž];exact h
  .rw [hinv,Â hi,gq]
 .refine W.of fun n m a hinv=>⟨_,he n m a, ?_⟩
  rw [hinv,Ã (Î _),gq]
theorem NA (t:Tr):dh t=Þ ß (gq 0 (dM t)+1):=by
 cases t;rw [dh];rfl
theorem aBi (n:Nat) (a b:Int):rW (n+1) a b=ã (cond (á (a<b)) b a):=by
 rw [UO];by_cases h:b<a
 .rw [hC h,hJ ž];rfl
 .rw [hJ h]
  by_cases k:a<b
  .rw [hC k];rfl
  .rw [hJ k,show a=b by omega];rfl
theorem NB {t:Tr} (h:iS t):(W fun n=>Dt n (aG t).1 (aG t).2.1 (aG t).2.2.1 (aG t).2.2.2.1 (aG t).2.2.2.2=ã (dh t))/\
  (W fun n=>xu n (aG t).1 (aG t).2.1 (aG t).2.2.1 (aG t).2.2.2.1 (aG t).2.2.2.2=ã (dh t)):=by
 induction h with
 |mk d hk ih=>
  rename_i t;constructor
  .have k:=XH (ks:=dM t) ž 0 (L:=fun n m i a=>yo n m i a (dM t) (dM t).length) ((W.all (dM t) fun x b=>(ih x b).1).mono fun n h m i a hi=>by
    rw [VU,aU hi,nC hi];simp only [Y,Z,h _ (Á hi)]) (fun n m a=>by rw [VU,bM];rfl)
   refine k.nm fun n e=> ?_
   rw [asX,NA,show yo n n 0 0 (aG t).2.2.2.2 (aG t).2.2.2.2.length=_ from e];rfl
  .have k:=XH (ks:=dM t) ž 0 (L:=fun n m i a=>xv n m (aG t).1 (aG t).2.1 (aG t).2.2.1 (aG t).2.2.2.1 (dM t) i a) (((W.all (dM t) fun x b=>(ih x b).2).and (W.ge 1)).mono fun n ⟨h,f⟩ m i a hi=>by
    obtain⟨n,rfl⟩: ∃q,n=q+1:=⟨n-1,ž⟩
    rw [UN,aU hi,nC hi];simp only [Y,Z,h _ (Á hi),aBi]) (fun n m a=>by rw [UN,bM];rfl)
   refine k.nm fun n e=> ?_
   rw [anY,NA,show xv n n (aG t).1 (aG t).2.1 (aG t).2.2.1 (aG t).2.2.2.1 (aG t).2.2.2.2 0 0=_ from e];rfl
theorem NC (s:O) (b:à s<=60): ∃r,iP 1000 .pat s ä=ã r:=
 aiC 1000 .pat s ä (by simp only [need];omega) b trivial trivial
theorem Fi {s:O} (b:à s<=60) {r} (h:iP 1000 .pat s ä=ã r):im s=if r.2.2=ä/\r.2.1=[]/\dh (cP r.1)<=12 then(r.1.1,r.1.2.1,r.1.2.2.1,r.1.2.2.2.1,r.1.2.2.2.2,å)else(0,0,[],ä,[],ä):=by
 unfold im;rw [if_pos b,h]
theorem ND {s:O} (b: ¬à s<=60):im s=(0,0,[],ä,[],ä):=by
 unfold im;rw [if_neg b]
theorem XI (s:O):W fun n=>Dm n s=ã (im s):=by
 by_cases b:à s<=60
 .obtain⟨r,h⟩:=NC s b
  have k1:W fun n=>ym n s ä=ã (flat r):=aBb _ _ _ _ _ h b trivial trivial
  have d:=(eR _ _ _ _ _ h b trivial trivial).1;have k2:=(NB (fj d)).1;rw [Sw]at k2;refine(k1.and k2).nm fun n ⟨f,g⟩=> ?_
  rw [VQ,hJ ž,f,Fi b h]
  simp only [ez,Z,flat,g,dH];by_cases c:r.2.2=ä/\r.2.1=[]/\dh (cP r.1)<=12
  .rw [if_pos c,c.1,c.2.1,aw (P:=12<dh (cP r.1)) ž]
   rfl
  .rw [if_neg c]
   cases i:r.2.2
   .simp only [ez]
    cases j:r.2.1 with
    |nil=>
     rw [aA (P:=12<dh (cP r.1)) (by
      rcases ϻ (12<dh (cP r.1))with q|q
      .exact q
      .exact absurd ⟨i,j,ž⟩ c)]
     rfl
    |cons a l=>rfl
   .rfl
 .refine W.succ (W.of fun n=> ?_)
  rw [VQ,hC ž,ND b]
  rfl
theorem XJ (s:O):W fun n=>xp n s=ã (im s):=by
 by_cases d:à s<=60
 .obtain⟨r,h⟩:=NC s d
  obtain⟨t,a,bad,g,k1⟩:=aBh _ _ _ _ h 0 s 0 d (Nat.zero_le _) rfl ž trivial trivial
  have i:=(eR _ _ _ _ _ h d trivial trivial).1;have k2:=(NB (fj i)).2;rw [Sw]at k2;have k1:W fun n=>xq n s 0 ä 0=ã (fc t s a bad):=k1
  rcases g with⟨rfl,rfl,j,k',rfl,p,f⟩|⟨rfl,b⟩
  .refine(k1.and k2).nm fun n ⟨k,u⟩=> ?_
   rw [MS,hJ ž,k,Fi d h]
   simp only [ez,Z,fc,u,dH,eQ];by_cases c:r.2.2=ä/\r.2.1=[]/\dh (cP r.1)<=12
   .have:k'=à s:=by
     have:=congrArg Ζ (f.trans c.2.1);simp at this
     omega
    rw [if_pos c,aw (P:=12<dh (cP r.1)) ž,aw (P:= ¬_=_) ž]
    rfl
   .rw [if_neg c]
    by_cases m:r.2.1=[]
    .rw [aA (P:=12<dh (cP r.1)) (by
      rcases ϻ (12<dh (cP r.1))with q|q
      .exact q
      .exact absurd ⟨j,m,ž⟩ c)]
     cases bo (¬(k':Int)=(à s:Int))<;>rfl
    .have:k'≠à s:=by
      intro q;apply m
      rw [<-f,q,Ã (Î _)]
     rw [aA (P:= ¬_=_) ž]
     rfl
  .refine k1.nm fun n k=> ?_
   have j:r.2.2=å:=by
    rcases b with q|q
    .exact q
    .exact absurd q ž
   rw [MS,hJ ž,k,Fi d h,if_neg (by rw [j];simp)]
   rfl
 .refine W.succ (W.of fun n=> ?_)
  rw [MS,hC ž,ND d]
  rfl
theorem NF (a b:Nat) (h:a+b<=4000000000):Þ ß ((a:Int)+(b:Int))=((a+b:Nat):Int):=ż
theorem nE (a:Nat) (h:a<=4000000000):Þ ß ((a:Int)+(1:Int))=((a+1:Nat):Int):=ż
theorem aBj (a:Nat) (h:a<=4000000000):Þ ß ((1:Int)+(a:Int))=((1+a:Nat):Int):=ż
theorem XK {a b:Nat} (h:a=b):((a:Int)==(b:Int))=å:=by rw [h];simp
theorem XL {a b:Nat} (h: ¬a=b):((a:Int)==(b:Int))=ä:=by
 rw [beq_eq_false_iff_ne];omega
theorem nF {a:Nat} {b:Int} (h:(a:Int)=b):((a:Int)==b)=å:=by rw [h];simp
theorem lN {a:Nat} {b:Int} (h: ¬(a:Int)=b):((a:Int)==b)=ä:=by
 rw [beq_eq_false_iff_ne];exact h
def gW (c x:UInt8):Bool:=á (x.toNat=c.toNat)
theorem XM (n:Nat) (c:UInt8): ∀(l:O) (m:Nat),à l<m->DC n m l c=ã (.inl (l.dropWhile (gW c)))
 | [],m,h=>by
  obtain⟨m,rfl⟩: ∃m',m=m'+1:=⟨m-1,ž⟩
  rw [Wb];rfl
 |a::l,m,h=>by
  obtain⟨m,rfl⟩: ∃m',m=m'+1:=⟨m-1,ž⟩
  simp only [Ç]at h;have d:bF (a::l) (0:Int)=ã a:=rfl;have f:((a::l).drop 1).take ((a::l).length-1)=l:=Ż
  rw [Wb,d,hC Ÿ,Κ]
  simp only [Y,Z,dR,f];by_cases b:a.toNat=c.toNat
  .rw [XK b,hC Ÿ,if_pos (show gW c a=å from hC b)]
   exact XM n c l m ž
  .rw [XL b,if_neg (by unfold gW;simpa using b)]
   rfl
theorem XN (s:O) (c:UInt8):W fun n=>DB n s c=ã (s.dropWhile (gW c)):=by
 refine(W.ge (à s+1)).nm fun n b=> ?_
 rw [atQ,dR,XM n c s n ž]
 rfl
theorem XO (s:O) (c:UInt8) (h:c.toNat<128):W fun n=>DA n s [c]=ã (s.dropWhile (gW c)):=by
 refine(XN s c).nm fun n e=> ?_
 have b:bF ([c]:O) (0:Int)=ã c:=rfl;have d:(([c]:O)==[])=ä:=rfl;have f:((([c]:O).length:Int)==(1:Int))=å:=rfl;rw [atP,b,d,f];cases s with
 |nil=>rfl
 |cons a l=>
  have g:((a::l:O)==[])=ä:=rfl;rw [g];simp only [ez,Y,Z,dR,e];rw [hC ž]
  rfl
def qx (c:UInt8) (l:O):O:=(l.reverse.dropWhile (gW c)).reverse
theorem aBk (c:UInt8) (l:O) (b:UInt8):qx c (l++[b])=if b.toNat=c.toNat then qx c l else l++[b]:=by
 unfold qx;simp only [ϛ,ϡ,Ϧ,Τ,ϋ,Κ];by_cases h:b.toNat=c.toNat
 .rw [if_pos h,if_pos (show gW c b=å from hC h)]
 .rw [if_neg h,if_neg (by unfold gW;simpa using h)]
  simp
theorem XP (n:Nat) (c:UInt8): ∀(k:Nat) (l:O) (m:Nat),à l=k->k<m->k<=1000000->yv n m l c=ã (.inl (qx c l))
 |0,l,m,d,hm,_=>by
  obtain⟨m,rfl⟩: ∃m',m=m'+1:=⟨m-1,ž⟩
  obtain rfl:=Ε.1 d;rw [Ff];rfl
 |k+1,l,m,d,hm,hk=>by
  obtain⟨m,rfl⟩: ∃m',m=m'+1:=⟨m-1,ž⟩
  obtain⟨l',b,rfl⟩: ∃l' b,l=l'++[b]:=by
   have f:l≠ []:=Ę
   exact⟨l.dropLast,l.getLast f,(Ν f).symm⟩
  simp only [É,Ç,Ó]at d;have hw:Þ ß (((l'++[b]).length:Int)-(1:Int))=(à l':Int):=by
   simp only [É,Ç,Ó];rw [Å];omega
  have h:bF (l'++[b]) (à l':Int)=ã b:=by
   rw [dy Ż]
   simp
  rw [Ff,hC Ŷ,hw,h,aBk]
  simp only [Y,Z,dR];by_cases g:b.toNat=c.toNat
  .have e:(l'++[b]).take ((À (à l':Int))-0)=l':=by simp
   rw [XK g,if_pos g,hC Ŷ,e]
   exact XP n c k l' m ž ž ž
  .rw [XL g,if_neg g]
   rfl
theorem XQ {p:UInt8->Bool}: ∀l:O,(∀x∈l.dropWhile p,p x=å)↔ ∀x∈l,p x=å
 | []=>Iff.rfl
 |a::l=>by
  rw [Κ];by_cases h:p a=å
  .rw [if_pos h,XQ l]
   constructor
   .intro k x b
    rcases Γ.1 b with rfl|b
    .exact h
    .exact k x b
   .exact fun k x b=>k x ũ
  .rw [if_neg h]
theorem XR {p:UInt8->Bool}: ∀l:O,l.dropWhile p=[]↔ ∀x∈l,p x=å
 | []=>Ż
 |a::l=>by
  rw [Κ];by_cases h:p a=å
  .rw [if_pos h,XR l]
   constructor
   .intro k x b
    rcases Γ.1 b with rfl|b
    .exact h
    .exact k x b
   .exact fun k x b=>k x ũ
  .rw [if_neg h]
   constructor
   .intro k;cases k
   .exact fun k=>absurd (k a Ż) h
theorem aBl (s:O) (d:à s<=1000000):W fun n=>(Ll n s [32]).bind (fun y=>ã (!(y==([]:O))))=ã (!bo (∀c∈s,c.toNat=32)):=by
 have f:W fun n=>yu n s 32=ã (qx 32 s):=(W.ge (à s+1)).nm fun n q=>by
  rw [Wf,dR,XP n 32 _ s n rfl ž d]
  rfl
 refine(f.and (XN (qx 32 s) 32)).nm fun n ⟨e,g⟩=> ?_
 have h:bF ([32]:O) (0:Int)=ã 32:=rfl;have i:(([32]:O)==[])=ä:=rfl;have j:((([32]:O).length:Int)==(1:Int))=å:=rfl;have k:á (((32:UInt8).toNat:Int)<(128:Int))=å:=ŷ
 rw [atU,h,i,j];cases s with
 |nil=>rw [aA Ż];rfl
 |cons a l=>
  have m:((a::l:O)==[])=ä:=rfl;have p:((qx 32 (a::l)).dropWhile (gW 32)=[])↔ ∀c∈(a::l),c.toNat=32:=by
   rw [XR];unfold qx;have:(∀x∈((a::l).reverse.dropWhile (gW 32)).reverse,gW 32 x=å)↔ ∀x∈(a::l).reverse.dropWhile (gW 32),gW 32 x=å:=by simp only [ϧ]
   rw [this,XQ];simp only [ϧ];have b:gW 32=fJ:=rfl;rw [b];simp only [fJ,decide_eq_true_eq]
  rw [m];simp only [ez,Y,Z,dR,e,g,k];rw [bW,propext p]
theorem aBm (s:O) (k:Nat) (hk:k<=à s) (q:à s<=1048576):W fun n=>oG n s (k:Int)=ã (((s.drop k).takeWhile bw).length:Int):=by
 have d: ∀i:Nat,i<=à s->Þ ß ((k:Int)+(i:Int))=((k+i:Nat):Int):=fun i hi=>ż
 have h:=Sv (l:=s.drop k) (β:=Int) ź (p:=bw) (L:=fun n m i=>yt n m i k s) (W.of fun n m i hi=>by
  have b:k+i<à s:=by simp at hi;omega
  rw [Wc,d i ž,aU b,dy b]
  simp only [Y,Z,Ϣ];unfold bw;by_cases f:48<=(s[k+i]).toNat
  .rw [hC (show (48:Int)<=((s[k+i]).toNat:Int) by omega)]
   by_cases g:(s[k+i]).toNat<=57
   .rw [hC (show ((s[k+i]).toNat:Int)<=(57:Int) by omega),hC ⟨f,g⟩]
    rfl
   .rw [hJ (show ¬((s[k+i]).toNat:Int)<=(57:Int) by omega),hJ (p:=48<=(s[k+i]).toNat/\(s[k+i]).toNat<=57) (fun h=>g h.2)]
    rfl
  .rw [hJ (show ¬(48:Int)<=((s[k+i]).toNat:Int) by omega),hJ (p:=48<=(s[k+i]).toNat/\(s[k+i]).toNat<=57) (fun h=>f h.1)]
   rfl) (fun n m=>by
   have j:(k+(s.drop k).length)=à s:=ź
   rw [Wc,d _ Ż,j,bM];rfl)
 refine h.nm fun n h=> ?_
 rw [atS];rw [show yt n n (0:Int) k s=_ from h];rfl
theorem aBn (n:Nat) (s:O):Ug (n+1) s=cond (Λ (à s) 18) ((Lib.atoi s).map fun x=>(x,ä)) â:=Ž
theorem aBo {α β:Type} (p:α×β):(ã p).bind (fun y=>ã (y.1,y.2))=ã p:=by cases p;rfl
def eA (w q:O):Nat:=di w*1000000+dJ 100000 q
theorem XS (w q:O):di w*1000000+dJ 100000 q=eA w q:=by unfold eA;exact Eq.refl _
theorem tx {n:Nat} (h:n<=4000000000):Λ n mx=å:=Ð (by unfold mx;omega)
theorem aBp (k:Nat):W fun n=>sj n (k:Int)=ã (if 9000000000000<k then((0:Int),ä)else((k:Int),å)):=by
 have b:W fun n=>jb n (k:Int)=ã (á (k<=9000000000000)):=W.succ (W.succ (W.of fun n=>by
  rw [Ni,oL,hC ž]
  simp only [Y,Z];congr 1
  rw [dH,dH];exact oj ž))
 refine b.nm fun n e=> ?_
 rw [Wd,e];simp only [Z];by_cases h:9000000000000<k
 .rw [if_pos h,hJ ž];rfl
 .rw [if_neg h,hC ž];rfl
theorem XT (w q:O) (hw: ∀c∈w,bw c=å) (f: ∀c∈q,bw c=å) (j:à q<=1000):W fun n=>kQ n w q=ã (if 9000000000000<eA w q then((0:Int),ä)else((eA w q:Int),å)):=by
 refine(((XO w 48 ŷ).and (aBp (eA w q))).and (W.ge 1)).nm fun n ⟨⟨g,i⟩,k⟩=> ?_
 have d0:w.dropWhile (gW 48)=w.dropWhile js:=rfl;rw [atT,g,d0];simp only [Z];rw [tx ž,hC (by refine⟨ž, ?_⟩;simp only [É,Ç,Ó];omega)]
 simp only [Y];by_cases h:7<(w.dropWhile js).length
 .have:=SO w hw h
  rw [hC ž,if_pos (by unfold eA;omega)]
  rfl
 .obtain⟨n,rfl⟩: ∃m,n=m+1:=⟨n-1,ž⟩
  have b:((q++([48,48,48,48,48,48]:O)).take (6-0)).length=6:=Ż
  have d:(q++([48,48,48,48,48,48]:O)).take (6-0)=(q++iq 6).take 6:=rfl;rw [hJ ž,tx ž,tx (by rw [b];simp only [É,Ç,Ó];omega),aBn,d,aiI w q hw f]
  rw [show Λ ((([48]:O)++w.dropWhile js)++(q++iq 6).take 6).length 18=å from Ð (by
   rw [<-d,É,b];simp only [É,Ç,Ó];omega)]
  simp only [Y,ez,Option.map_some,Z];rw [XS,i];exact aBo _
theorem XU {p:UInt8->Bool} (l:O):l.take (l.takeWhile p).length=l.takeWhile p:=by
 induction l with
 |nil=>rfl
 |cons a l ih=>
  rw [Í];by_cases h:p a=å
  .rw [if_pos h,Ç,List.take_succ_cons,ih]
  .rw [if_neg h];rfl
theorem aBq {p:UInt8->Bool} (l:O):(l.takeWhile p).length+(l.dropWhile p).length=à l:=by
 have:=congrArg Ζ (List.takeWhile_append_dropWhile (p:=p) (l:=l));rwa [É]at this
def ef (s:O) (j:Nat):O:=match s.drop j with
 |c::t=>if c.toNat=46 then t.takeWhile bw else []
 | []=>[]
theorem NG (s:O) (k:Nat) (neg:Bool):kL s k neg=
  (let w:=(s.drop k).takeWhile bw
   let q:=ef s (k+à w)
   if w=[]/\q=[]then(0,0)else if 9000000000000<eA w q then(0,0)else(cond neg (-(eA w q:Int)) (eA w q:Int),((k+à w+(if q=[]then 0 else 1+à q):Nat):Int))):=by
 simp only [<-XS];exact Eq.refl _
theorem uL {s:O} {j:Nat} (h:j<à s) (b:(s[j]).toNat=46):ef s j=(s.drop (j+1)).takeWhile bw:=by
 unfold ef;rw [Â h];simp only [if_pos b]
theorem zf {s:O} {j:Nat} (h: ∀h:j<à s,¬(s[j]).toNat=46):ef s j=[]:=by
 unfold ef;by_cases hj:j<à s
 .rw [Â hj]
  simp only [if_neg (h hj)]
 .rw [Ã ž]
theorem XV (s:O) (j:Nat): ∀c∈ef s j,bw c=å:=by
 by_cases h: ∃h:j<à s,(s[j]).toNat=46
 .obtain⟨h,b⟩:=h
  rw [uL h b];exact HX _
 .rw [zf (fun hj b=>h ⟨hj,b⟩)]
  intro c b;cases b
theorem sF (s:O) (k:Nat) (hk:k<=à s):k+((s.drop k).takeWhile bw).length<=à s:=by
 have:=om bw (s.drop k);simp at this
 omega
theorem aBr (l:O):(l==([]:O))=á (l=[]):=by
 cases l<;>rfl
theorem Fj {s:O} (hs:à s<=300) {n:Nat}
  (hD: ∀k,k<à s+1->oG n s (k:Int)=ã (((s.drop k).takeWhile bw).length:Int))
  (hM: ∀k,k<à s+1->kQ n ((s.drop k).takeWhile bw) []=ã (if 9000000000000<eA ((s.drop k).takeWhile bw) []then((0:Int),ä)else((eA ((s.drop k).takeWhile bw) []:Int),å)))
  (ah: ∀k,k<à s+1->kQ n ((s.drop k).takeWhile bw) (ef s (k+((s.drop k).takeWhile bw).length))=ã (if 9000000000000<eA ((s.drop k).takeWhile bw) (ef s (k+((s.drop k).takeWhile bw).length))then((0:Int),ä)else((eA ((s.drop k).takeWhile bw) (ef s (k+((s.drop k).takeWhile bw).length)):Int),å)))
  {k:Nat} (hk:k<=à s) (neg:Bool) (fin:Int->Int->Option (Int×Int)) (u: ∀(x k:Nat),x<=9000000000000->fin x k=ã (cond neg (-(x:Int)) (x:Int),(k:Int))):
  ((oG n s (k:Int)).bind fun(d:Int)=>cond (á ((0:Int)<=(k:Int)/\(k:Int)<=(Þ ß ((k:Int)+d))/\(Þ ß ((k:Int)+d))<=(à s:Int)))
   ((cond (á ((Þ ß ((k:Int)+d))<(à s:Int))) ((bF s (Þ ß ((k:Int)+d))).bind fun(z:UInt8)=>ã (((z).toNat:Int)==(46:Int))) (ã ä):Option Bool).bind fun(ai:Bool)=>cond ai
    ((oG n s (Þ ß ((Þ ß ((k:Int)+d))+(1:Int)))).bind fun(g:Int)=>cond (á ((0:Int)<g))
     (cond (á ((0:Int)<=(Þ ß ((Þ ß ((k:Int)+d))+(1:Int)))/\(Þ ß ((Þ ß ((k:Int)+d))+(1:Int)))<=(Þ ß ((Þ ß ((Þ ß ((k:Int)+d))+(1:Int)))+g))/\(Þ ß ((Þ ß ((Þ ß ((k:Int)+d))+(1:Int)))+g))<=(à s:Int)))
      ((cond (((s.drop (À (k:Int))).take ((À (Þ ß ((k:Int)+d)))-(À (k:Int))):O)==([]:O)) (ã (((s.drop (À (Þ ß ((Þ ß ((k:Int)+d))+(1:Int))))).take ((À (Þ ß ((Þ ß ((Þ ß ((k:Int)+d))+(1:Int)))+g)))-(À (Þ ß ((Þ ß ((k:Int)+d))+(1:Int))))):O)==([]:O))) (ã ä):Option Bool).bind fun(i:Bool)=>cond i (ã (((0:Int),(0:Int)):(Int×Int)))
       ((kQ n ((s.drop (À (k:Int))).take ((À (Þ ß ((k:Int)+d)))-(À (k:Int)))) ((s.drop (À (Þ ß ((Þ ß ((k:Int)+d))+(1:Int))))).take ((À (Þ ß ((Þ ß ((Þ ß ((k:Int)+d))+(1:Int)))+g)))-(À (Þ ß ((Þ ß ((k:Int)+d))+(1:Int))))))).bind fun(r:(Int×Bool))=>cond (!r.2) (ã (((0:Int),(0:Int)):(Int×Int))) (fin r.1 (Þ ß ((Þ ß ((k:Int)+d))+(Þ ß ((1:Int)+g)))))))
      â)
     ((cond (((s.drop (À (k:Int))).take ((À (Þ ß ((k:Int)+d)))-(À (k:Int))):O)==([]:O)) (ã å) (ã ä):Option Bool).bind fun(i:Bool)=>cond i (ã (((0:Int),(0:Int)):(Int×Int)))
      ((kQ n ((s.drop (À (k:Int))).take ((À (Þ ß ((k:Int)+d)))-(À (k:Int)))) ([]:O)).bind fun(r:(Int×Bool))=>cond (!r.2) (ã (((0:Int),(0:Int)):(Int×Int))) (fin r.1 (Þ ß ((k:Int)+d))))))
    ((cond (((s.drop (À (k:Int))).take ((À (Þ ß ((k:Int)+d)))-(À (k:Int))):O)==([]:O)) (ã å) (ã ä):Option Bool).bind fun(ad:Bool)=>cond ad (ã (((0:Int),(0:Int)):(Int×Int)))
     ((kQ n ((s.drop (À (k:Int))).take ((À (Þ ß ((k:Int)+d)))-(À (k:Int)))) ([]:O)).bind fun(i:(Int×Bool))=>cond (!i.2) (ã (((0:Int),(0:Int)):(Int×Int))) (fin i.1 (Þ ß ((k:Int)+d))))))
   â)=ã (kL s k neg):=by
 have hw:=sF s k hk;rw [hD k ž,NG]
 simp only [Z];have m0:=hM k ž
 have m2:=ah k ž
 have t1:(s.drop k).take (((s.drop k).takeWhile bw).length)=(s.drop k).takeWhile bw:=XU _;revert hw m0 m2 t1
 generalize (s.drop k).takeWhile bw=w
 intro hw m0 m2 t1;have a1:Þ ß ((k:Int)+(à w:Int))=((k+à w:Nat):Int):=NF _ _ ž
 have a2:Þ ß (((k+à w:Nat):Int)+1)=((k+à w+1:Nat):Int):=nE _ ž
 simp only [a1,a2,Æ,Χ,t1,m0,Z,aBr];rw [hC (p:=(0:Int)<=(k:Int)/\_) ž]
 simp only [Y];have base:ef s (k+à w)=[]->((cond (á (w=[])) (ã å) (ã ä):Option Bool).bind fun(ad:Bool)=>cond ad (ã (((0:Int),(0:Int)):(Int×Int)))
   (cond (!(if 9000000000000<eA w []then((0:Int),ä)else((eA w []:Int),å)).2) (ã (((0:Int),(0:Int)):(Int×Int))) (fin (if 9000000000000<eA w []then((0:Int),ä)else((eA w []:Int),å)).1 ((k+à w:Nat):Int))))=
   ã (if w=[]/\ef s (k+à w)=[]then(0,0)else if 9000000000000<eA w (ef s (k+à w))then(0,0)else(cond neg (-(eA w (ef s (k+à w)):Int)) (eA w (ef s (k+à w)):Int),((k+à w+(if ef s (k+à w)=[]then 0 else 1+(ef s (k+à w)).length):Nat):Int))):=by
  intro hq;rw [hq];by_cases t:w=[]
  .rw [hC t,if_pos (c:=w=[]/\([]:O)=[]) ⟨t,rfl⟩,Y,Z,Y]
  .rw [hJ t,if_neg (c:=w=[]/\([]:O)=[]) (fun h=>t h.1)]
   simp only [ez,Z];by_cases hx:9000000000000<eA w []
   .simp only [if_pos hx,Ê,Y]
   .simp only [if_neg hx,È,ez]
    rw [u _ _ (υ hx),if_pos trivial,Nat.add_zero]
 by_cases hd: ∃h:k+à w<à s,(s[k+à w]).toNat=46
 .obtain⟨f,hc⟩:=hd
  rw [aU f,dy f];simp only [Y,Z];rw [nF (b:=46) ž]
  simp only [Y];have aj:=uL f hc;have hq:=sF s (k+à w+1) ž
  rw [hD _ ž]
  have t2:(s.drop (k+à w+1)).take (((s.drop (k+à w+1)).takeWhile bw).length)=(s.drop (k+à w+1)).takeWhile bw:=XU _;rw [<-aj]at hq t2 |-;revert hq t2 m2 base
  generalize ef s (k+à w)=q
  intro m2 base hq t2;simp only [Z];have a3:Þ ß ((1:Int)+(à q:Int))=((1+à q:Nat):Int):=aBj _ ž
  have a4:Þ ß (((k+à w:Nat):Int)+((1+à q:Nat):Int))=((k+à w+(1+à q):Nat):Int):=NF _ _ ž
  have a5:Þ ß (((k+à w+1:Nat):Int)+(à q:Int))=((k+à w+1+à q:Nat):Int):=NF _ _ ž
  simp only [a3,a4,a5,Æ,Χ,t2,m2,Z];by_cases m:q=[]
  .have:=base m
   subst m;rw [hJ Ż,ez]
   exact this
  .have hlen:0<à q:=ζ.2 m
   rw [hC (p:=(0:Int)<(à q:Int)) ž,hC (p:=(0:Int)<=((k+à w+1:Nat):Int)/\_) ž,hJ m,if_neg (c:=w=[]/\q=[]) (fun h=>m h.2)]
   have e:(cond (á (w=[])) (ã ä) (ã ä):Option Bool)=ã ä:=by cases á (w=[])<;>rfl
   simp only [Y,e,Z,ez];by_cases hx:9000000000000<eA w q
   .simp only [if_pos hx,Ê,Y]
   .simp only [if_neg hx,if_neg m,È,ez]
    rw [u _ _ (υ hx)]
 .have hq:=zf (s:=s) (j:=k+à w) (fun h hc=>hd ⟨h,hc⟩)
  have e:(cond (á (((k+à w:Nat):Int)<(à s:Int))) ((bF s ((k+à w:Nat):Int)).bind fun(z:UInt8)=>ã (((z).toNat:Int)==(46:Int))) (ã ä):Option Bool)=ã ä:=by
   by_cases f:k+à w<à s
   .rw [aU f,dy f]
    simp only [Y,Z];rw [lN (b:=46) (fun hc=>hd ⟨f,ž⟩)]
   .rw [hJ ž];rfl
  rw [e,Z,ez];exact base hq
theorem NH (s:O):nj s=match s.drop (s.takeWhile fJ).length with
 |c::_=>if c.toNat=45 then kL s ((s.takeWhile fJ).length+1) å else if c.toNat=43 then kL s ((s.takeWhile fJ).length+1) ä else kL s (s.takeWhile fJ).length ä
 | []=>kL s (s.takeWhile fJ).length ä:=rfl
theorem XW (x:Nat) (h:x<=9000000000000):Þ ß ((0:Int)-(x:Int))= -(x:Int):=ż
theorem XX (s:O) (i:à s<=300):W fun n=>Dz n s=ã (nj s):=by
 have hq: ∀j,(ef s j).length<=1000:=fun j=>by
  by_cases h: ∃h:j<à s,(s[j]).toNat=46
  .obtain⟨h,z⟩:=h
   rw [uL h z];have:=sF s (j+1) ž
   omega
  .rw [zf (fun hj z=>h ⟨hj,z⟩)];simp
 have m:=W.lt (len:=à s+1) fun k hk=>aBm s k ž ž
 have q:=W.lt (len:=à s+1) fun k _=>XT ((s.drop k).takeWhile bw) [] (HX _) Ż Ż
 have h3:=W.lt (len:=à s+1) fun k _=>XT ((s.drop k).takeWhile bw) (ef s (k+((s.drop k).takeWhile bw).length)) (HX _) (XV _ _) (hq _)
 refine(((XO s 32 ŷ).and m).and (q.and h3)).nm fun n ⟨⟨e1,r⟩,t,d⟩=> ?_
 have hp:Þ ß ((à s:Int)-((s.dropWhile (gW 32)).length:Int))=((s.takeWhile fJ).length:Int):=by
  have h:=aBq (p:=gW 32) s;have e:s.takeWhile (gW 32)=s.takeWhile fJ:=rfl;rw [e]at h;rw [Å];omega
 rw [atO,e1];simp only [Z,hp];have g:=om fJ s;rw [NH];revert g
 generalize (s.takeWhile fJ).length=p
 intro g;by_cases f:p<à s
 .have a1:Þ ß ((p:Int)+(1:Int))=((p+1:Nat):Int):=nE _ ž
  rw [aU f,dy f,Â f];simp only [Y,Z,a1];by_cases m:(s[p]).toNat=45
  .rw [if_pos m,lN (a:=(s[p]).toNat) (b:=43) ž,nF (a:=(s[p]).toNat) (b:=45) ž]
   simp only [Y,ez,Z];exact Fj i r t d (k:=p+1) ž å (fun x e=>ã (Þ ß ((0:Int)-x),e)) (fun x k u=>by rw [XW x u];rfl)
  .rw [if_neg m,lN (a:=(s[p]).toNat) (b:=45) ž]
   by_cases q:(s[p]).toNat=43
   .rw [if_pos q,nF (a:=(s[p]).toNat) (b:=43) ž]
    simp only [Y,ez,Z];exact Fj i r t d (k:=p+1) ž ä (fun x e=>ã (x,e)) (fun x k u=>rfl)
   .rw [if_neg q,lN (a:=(s[p]).toNat) (b:=43) ž]
    simp only [ez,Z];exact Fj i r t d (k:=p) ž ä (fun x e=>ã (x,e)) (fun x k u=>rfl)
 .rw [hJ (show ¬((p:Int)<(à s:Int)) by omega),Ã (show à s<=p by omega)]
  simp only [ez,Z];exact Fj i r t d (k:=p) ž ä (fun x e=>ã (x,e)) (fun x k u=>rfl)
theorem aBs:W fun n=> ∀c,mw n c=ã (bw c):=W.succ (W.of fun n c=>by
 rw [aoJ];unfold bw;by_cases b:48<=c.toNat
 .rw [hC (show (48:Int)<=(c.toNat:Int) by omega)]
  simp only [Y,Z];congr 1
  rw [dH,dH];exact oj ž
 .rw [hJ (show ¬(48:Int)<=(c.toNat:Int) by omega),hJ (p:=48<=c.toNat/\c.toNat<=57) (fun h=>b h.1)]
  rfl)
theorem aBt (n:Nat) {s:O} (g:à s<=300): ∀(k m i:Nat),à s-i<=k->k<m->i<=à s->xH n m (i:Int) s=ã (.inl (s,((i+((s.drop i).takeWhile fJ).length:Nat):Int))):=by
 intro k;induction k with
 |zero=>
  intro m i hk hm hi;obtain⟨m,rfl⟩: ∃m',m=m'+1:=⟨m-1,ž⟩
  obtain rfl:i=à s:=ž
  rw [MW,bM,Ã (Î _)];rfl
 |succ k ih=>
  intro m i hk hm hi;obtain⟨m,rfl⟩: ∃m',m=m'+1:=⟨m-1,ž⟩
  by_cases d:i<à s
  .rw [MW,aU d,dy d,Â d,Í]
   simp only [Y,Z];by_cases h:(s[i]).toNat=32
   .rw [nF (a:=(s[i]).toNat) (b:=32) ž,if_pos (show fJ s[i]=å from hC h),nE i ž,Y,ih m (i+1) ž ž ž]
    have f:i+1+((s.drop (i+1)).takeWhile fJ).length=i+(s[i]::(s.drop (i+1)).takeWhile fJ).length:=Ÿ
    rw [f]
   .rw [lN (a:=(s[i]).toNat) (b:=32) ž,if_neg (by unfold fJ;simpa using h)]
    rfl
  .obtain rfl:i=à s:=by omega
   rw [MW,bM,Ã (Î _)];rfl
theorem aBu {n:Nat} (hd: ∀c,mw n c=ã (bw c)) {s:O} (hs:à s<=300) (neg:Bool): ∀(k m i:Nat) (l:O) (x:Int),à s-i<=k->k<m->i<=à s->à l<=i->PW l x->
  ∃g,PW (l++(s.drop i).takeWhile bw) g/\qi n m (à l:Int) (i:Int) s x neg=ã (.inl (((l++(s.drop i).takeWhile bw).length:Int),s,g,neg,((i+((s.drop i).takeWhile bw).length:Nat):Int))):=by
 intro k;induction k with
 |zero=>
  intro m i l x hk hm hi p f;obtain⟨m,rfl⟩: ∃m',m=m'+1:=⟨m-1,ž⟩
  obtain rfl:i=à s:=ž
  rw [MX,bM,Ã (Î _),Φ,Ô];exact⟨x,f,rfl⟩
 |succ k ih=>
  intro m i l x hk hm hi p f;obtain⟨m,rfl⟩: ∃m',m=m'+1:=⟨m-1,ž⟩
  by_cases b:i<à s
  .rw [MX,aU b,dy b,Â b,Í]
   simp only [Y,Z,dR,hd];cases h:bw s[i]
   .rw [if_neg Ż,Ô]
    exact⟨x,f,rfl⟩
   .rw [if_pos rfl]
    obtain⟨g,j,d⟩:=ih m (i+1) (l++[s[i]]) _ ž ž ž ź (aiF f h)
    have e:(l++[s[i]])++(s.drop (i+1)).takeWhile bw=l++(s[i]::(s.drop (i+1)).takeWhile bw):=Ż
    rw [e]at j d;have q:(((l++[s[i]]).length:Nat):Int)=((à l+1:Nat):Int):=Ż
    refine⟨g,j, ?_⟩
    rw [q]at d;have r:i+1+((s.drop (i+1)).takeWhile bw).length=i+(s[i]::(s.drop (i+1)).takeWhile bw).length:=ź
    rw [r]at d;obtain⟨t,u,_,_⟩:=f;have hb:=(s[i]).toNat_lt;simp only [nE _ (show à l<=4000000000 by omega),nE _ (show i<=4000000000 by omega),Y]
    by_cases hle:x<=9000000000000
    .have c1:Þ ß (((s[i]).toNat:Int)-48)=((s[i]).toNat:Int)-48:=by rw [Å];omega
     have z:Þ ß ((((s[i]).toNat:Int)-48)*1000000)=(((s[i]).toNat:Int)-48)*1000000:=ż
     have c3:Þ ß (10*x)=10*x:=ż
     have c4:Þ ß (10*x+(((s[i]).toNat:Int)-48)*1000000)=10*x+(((s[i]).toNat:Int)-48)*1000000:=ż
     rw [if_pos hle]at d;rw [hC hle,sE,c1,z,c3,c4];exact d
    .rw [if_neg hle]at d
     rw [hJ hle];exact d
  .obtain rfl:i=à s:=by omega
   rw [MX,bM,Ã (Î _),Φ,Ô];exact⟨x,f,rfl⟩
theorem aBv {n:Nat} (hd: ∀c,mw n c=ã (bw c)) {s:O} (hs:à s<=300) (neg:Bool): ∀(k m i a u:Nat) (x:Int),à s-i<=k->k<m->i<=à s->a<=i->u<=100000->0<=x->x+(dJ u ((s.drop i).takeWhile bw):Int)<=1000000000000000->
  rX n m (i:Int) (a:Int) (u:Int) s x neg=ã (.inl (((i+((s.drop i).takeWhile bw).length:Nat):Int),x+(dJ u ((s.drop i).takeWhile bw):Int),neg,((a+((s.drop i).takeWhile bw).length:Nat):Int))):=by
 intro k;induction k with
 |zero=>
  intro m i a u x hk hm hi f hu g d;obtain⟨m,rfl⟩: ∃m',m=m'+1:=⟨m-1,ž⟩
  obtain rfl:i=à s:=ž
  rw [MY,bM,Ã (Î _),Φ,dJ];simp
 |succ k ih=>
  intro m i a u x hk hm hi f hu g d;obtain⟨m,rfl⟩: ∃m',m=m'+1:=⟨m-1,ž⟩
  by_cases b:i<à s
  .rw [Â b,Í]at d |-
   rw [MY,aU b,dy b];simp only [Y,Z,dR,hd];cases h:bw s[i]
   .rw [if_neg Ż,dJ]
    simp
   .rw [h,if_pos rfl,dJ]at d
    rw [if_pos rfl,dJ];simp only [bw,decide_eq_true_eq]at h;have j:((s[i]).toNat-48)*u<=9*100000:=Ϗ ž hu
    have ec:(((s[i]).toNat:Int)-48)=(((s[i]).toNat-48:Nat):Int):=ž
    have c1:Þ ß (((s[i]).toNat:Int)-48)=(((s[i]).toNat-48:Nat):Int):=ż
    have p:Þ ß ((((s[i]).toNat-48:Nat):Int)*(u:Int))=((((s[i]).toNat-48)*u:Nat):Int):=by
     rw [<-Ϫ,Å];omega
    have q:Þ ß (x+((((s[i]).toNat-48)*u:Nat):Int))=x+((((s[i]).toNat-48)*u:Nat):Int):=ż
    have r:Þ ß (Ë (u:Int) 10)=((u/10:Nat):Int):=by
     rw [show Ë (u:Int) 10=((u/10:Nat):Int)from rfl,Å];omega
    rw [sE,c1,p,q,r,nE i ž,nE a ž,Y,ih m (i+1) (a+1) (u/10) _ ž ž ž ž ž ž ž]
    have t:i+1+((s.drop (i+1)).takeWhile bw).length=i+(s[i]::(s.drop (i+1)).takeWhile bw).length:=ź
    have z:a+1+((s.drop (i+1)).takeWhile bw).length=a+(s[i]::(s.drop (i+1)).takeWhile bw).length:=ź
    have e5:x+((((s[i]).toNat-48)*u:Nat):Int)+(dJ (u/10) ((s.drop (i+1)).takeWhile bw):Int)=x+((((s[i]).toNat-48)*u+dJ (u/10) ((s.drop (i+1)).takeWhile bw):Nat):Int):=ž
    rw [t,z,e5]
  .obtain rfl:i=à s:=by omega
   rw [MY,bM,Ã (Î _),Φ,dJ];simp
theorem XY {w q:O} {x:Int} (i:PW w x) (j: ∀c∈q,bw c=å) (neg:Bool) (e:Int) (many:Nat) (hm:many=à w+à q):
  ((cond ((many:Int)==(0:Int)) (ã å) (ã (á ((9000000000000:Int)<x+(dJ 100000 q:Int)))):Option Bool).bind fun(f:Bool)=>cond f (ã (((0:Int),(0:Int)):(Int×Int))) (cond neg (ã ((Þ ß ((0:Int)-(x+(dJ 100000 q:Int))),e):(Int×Int))) (ã ((x+(dJ 100000 q:Int),e):(Int×Int)))))=
  ã (if w=[]/\q=[]then(0,0)else if 9000000000000<eA w q then(0,0)else(cond neg (-(eA w q:Int)) (eA w q:Int),e)):=by
 have s:dJ 100000 q<1000000:=HW q 5 j;obtain⟨t,u,k,m⟩:=i;by_cases hw:w=[]/\q=[]
 .obtain⟨rfl,rfl⟩:=hw
  subst hm;rw [if_pos ⟨rfl,rfl⟩,nF (b:=0) Ż,Y,Z,Y]
 .have p:many≠0:=by
   intro h;apply hw
   exact⟨Ε.1 ž,Ε.1 ž⟩
  rw [if_neg hw,lN (b:=0) ž]
  simp only [ez,Z];unfold eA;rcases Nat.lt_or_ge 9000000000000 (di w*1000000)with d|d
  .have:=m d
   rw [hC ž,if_pos (Nat.lt_of_lt_of_le d (Nat.le_add_right _ _)),Y]
  .have:=k d
   subst this;by_cases g:9000000000000<di w*1000000+dJ 100000 q
   .rw [hC ž,if_pos g,Y]
   .have r:((di w:Int)*1000000+(dJ 100000 q:Int))=((di w*1000000+dJ 100000 q:Nat):Int):=by omega
    rw [hJ ž,if_neg g,r,XW _ (υ g)]
    cases neg<;>simp only [Y,ez]
theorem Fk {s:O} (hs:à s<=300) {n:Nat} (hn:400<=n) (hd: ∀c,mw n c=ã (bw c)) {k:Nat} (hk:k<=à s) (neg:Bool):
  ((qi n n (0:Int) (k:Int) s (0:Int) neg).bind fun(af:(Sum (Int×O×Int×Bool×Int) (Int×Int)))=>aq af (fun (z44:(Int×O×Int×Bool×Int))=>(cond (á ((Þ ß (z44.2.2.2.2+(1:Int)))<(à z44.2.1:Int))) ((bF z44.2.1 z44.2.2.2.2).bind fun(j:UInt8)=>cond (((j).toNat:Int)==(46:Int)) ((bF z44.2.1 (Þ ß (z44.2.2.2.2+(1:Int)))).bind fun(m:UInt8)=>(mw n ((Ä (À ((m).toNat:Int))):UInt8)).bind fun(p:Bool)=>ã p) (ã ä)) (ã ä):Option Bool).bind fun(ag:Bool)=>cond ag ((rX n n ((Þ ß (z44.2.2.2.2+(1:Int))):Int) z44.1 (100000:Int) z44.2.1 z44.2.2.1 z44.2.2.2.1).bind fun(ah:(Sum (Int×Int×Bool×Int) (Int×Int)))=>aq ah (fun (z66:(Int×Int×Bool×Int))=>(cond (z66.2.2.2==(0:Int)) (ã å) (ã (á ((9000000000000:Int)<z66.2.1))):Option Bool).bind fun(ai:Bool)=>cond ai (ã (((0:Int),(0:Int)):(Int×Int))) (cond z66.2.2.1 (ã ((Þ ß ((0:Int)-z66.2.1),z66.1):(Int×Int))) (ã ((z66.2.1,z66.1):(Int×Int))))) (fun (aj:(Int×Int))=>ã (aj:(Int×Int)))) ((cond (z44.1==(0:Int)) (ã å) (ã (á ((9000000000000:Int)<z44.2.2.1))):Option Bool).bind fun(r:Bool)=>cond r (ã (((0:Int),(0:Int)):(Int×Int))) (cond z44.2.2.2.1 (ã ((Þ ß ((0:Int)-z44.2.2.1),z44.2.2.2.2):(Int×Int))) (ã ((z44.2.2.1,z44.2.2.2.2):(Int×Int)))))) (fun (oK:(Int×Int))=>ã (oK:(Int×Int))))=ã (kL s k neg):=by
 obtain⟨x,t,e2⟩:=aBu hd hs neg (à s) n k [] 0 ž ž hk Ż aiE
 rw [Τ]at t e2;rw [show qi n n (0:Int) (k:Int) s (0:Int) neg=_ from e2,NG];have hw:=sF s k hk;revert hw t
 generalize (s.drop k).takeWhile bw=w
 intro t hw;simp only [Z,cO,nE _ (show k+à w<=4000000000 by omega)]
 have base:ef s (k+à w)=[]->((cond ((à w:Int)==(0:Int)) (ã å) (ã (á ((9000000000000:Int)<x))):Option Bool).bind fun(r:Bool)=>cond r (ã (((0:Int),(0:Int)):(Int×Int))) (cond neg (ã ((Þ ß ((0:Int)-x),((k+à w:Nat):Int)):(Int×Int))) (ã ((x,((k+à w:Nat):Int)):(Int×Int)))))=
   ã (if w=[]/\ef s (k+à w)=[]then(0,0)else if 9000000000000<eA w (ef s (k+à w))then(0,0)else(cond neg (-(eA w (ef s (k+à w)):Int)) (eA w (ef s (k+à w)):Int),((k+à w+(if ef s (k+à w)=[]then 0 else 1+(ef s (k+à w)).length):Nat):Int))):=by
  intro u;rw [u];have:=XY t (q:=[]) Ż neg ((k+à w:Nat):Int) (à w) Ż
  rw [show (x+(dJ 100000 ([]:O):Int))=x by simp [dJ]]at this
  exact this
 by_cases z: ∃h:k+à w+1<à s,(s[k+à w]).toNat=46/\bw s[k+à w+1]=å
 .obtain⟨d,f,hg⟩:=z
  have g:=uL (show k+à w<à s by omega) f
  have u:=sF s (k+à w+1) ž
  have ad:ef s (k+à w)≠ []:=by
   rw [g,Â d,Í,if_pos hg];simp
  have i:=XV s (k+à w);have hf:dJ 100000 (ef s (k+à w))<1000000:=HW _ 5 i;rw [aU d,dy (show k+à w<à s by omega),dy d]
  simp only [Y,Z,dR,hd,hg];rw [nF (a:=(s[k+à w]).toNat) (b:=46) ž]
  simp only [Y,Z];have h4:=aBv hd hs neg (à s) n (k+à w+1) (à w) 100000 x ž ž ž ž ž t.1 (by rw [<-g];have:=t.2.1;omega)
  rw [show rX n n ((k+à w+1:Nat):Int) (à w:Int) (100000:Int) s x neg=_ from h4,<-g];rw [<-g]at u;revert ad i u
  generalize ef s (k+à w)=q
  intro u ad i;simp only [Z,cO];rw [XY t i neg _ (à w+à q) rfl,if_neg ad];rw [show k+à w+1+à q=k+à w+(1+à q) by omega]
 .have u:ef s (k+à w)=[]:=by
   by_cases f: ∃h:k+à w<à s,(s[k+à w]).toNat=46
   .obtain⟨h,f⟩:=f
    rw [uL h f];by_cases d:k+à w+1<à s
    .rw [Â d,Í,if_neg (fun hg=>z ⟨d,f,hg⟩)]
    .rw [Ã ž];rfl
   .exact zf (fun h hh=>f ⟨h,hh⟩)
  have e:(cond (á (((k+à w+1:Nat):Int)<(à s:Int))) ((bF s ((k+à w:Nat):Int)).bind fun(j:UInt8)=>cond (((j).toNat:Int)==(46:Int)) ((bF s ((k+à w+1:Nat):Int)).bind fun(m:UInt8)=>(mw n ((Ä (À ((m).toNat:Int))):UInt8)).bind fun(p:Bool)=>ã p) (ã ä)) (ã ä):Option Bool)=ã ä:=by
   by_cases d:k+à w+1<à s
   .rw [aU d,dy (show k+à w<à s by omega),dy d]
    simp only [Y,Z,dR,hd];by_cases f:(s[k+à w]).toNat=46
    .rw [nF (a:=(s[k+à w]).toNat) (b:=46) ž]
     cases hg:bw s[k+à w+1]
     .rfl
     .exact absurd ⟨d,f,hg⟩ z
    .rw [lN (a:=(s[k+à w]).toNat) (b:=46) ž];rfl
   .rw [hJ ž];rfl
  rw [e,Z,ez];exact base u
theorem XZ (s:O) (f:à s<=300):W fun n=>Cq n s=ã (nj s):=by
 refine(aBs.and (W.ge 400)).nm fun n ⟨hd,h⟩=> ?_
 have i:=aBt n f (à s) n 0 ž ž ž
 rw [Ü,Nat.zero_add]at i;rw [aoI,show xH n n (0:Int) s=_ from i];simp only [Z,cO];have g:=om fJ s;rw [NH];revert g
 generalize (s.takeWhile fJ).length=p
 intro g;by_cases d:p<à s
 .rw [aU d,dy d,Â d]
  simp only [Y,Z,nE _ (show p<=4000000000 by omega)]
  by_cases j:(s[p]).toNat=45
  .rw [if_pos j,nF (a:=(s[p]).toNat) (b:=45) ž]
   simp only [Y,Z];rw [Fk f h hd (k:=p+1) ž å]
  .rw [if_neg j,lN (a:=(s[p]).toNat) (b:=45) ž]
   by_cases m:(s[p]).toNat=43
   .rw [if_pos m,nF (a:=(s[p]).toNat) (b:=43) ž]
    simp only [Y,ez,Z];rw [Fk f h hd (k:=p+1) ž ä]
   .rw [if_neg m,lN (a:=(s[p]).toNat) (b:=43) ž]
    simp only [ez,Z];rw [Fk f h hd (k:=p) ž ä]
 .rw [hJ (show ¬((p:Int)<(à s:Int)) by omega),Ã (show à s<=p by omega)]
  simp only [ez,Z];rw [Fk f h hd (k:=p) ž ä]
theorem Fl (s:O) (k:Nat) (hk:k<=à s) (neg:Bool): ∃e:Nat,(kL s k neg).2=(e:Int)/\e<=à s:=by
 rw [NG];have hw:=sF s k hk;simp only;split
 .exact⟨0,rfl,ž⟩
 split
 .exact⟨0,rfl,ž⟩
 refine⟨_,rfl, ?_⟩
 split
 .omega
 .rename_i d
  by_cases h: ∃h:k+((s.drop k).takeWhile bw).length<à s,(s[k+((s.drop k).takeWhile bw).length]).toNat=46
  .obtain⟨h,b⟩:=h
   rw [uL h b];have:=sF s (k+((s.drop k).takeWhile bw).length+1) ž
   omega
  .exact absurd (zf (fun hj b=>h ⟨hj,b⟩)) d
theorem Ya (s:O): ∃e:Nat,(nj s).2=(e:Int)/\e<=à s:=by
 have b:=om fJ s;rw [NH];revert b
 generalize (s.takeWhile fJ).length=p
 intro b;by_cases d:p<à s
 .rw [Â d]
  simp only;split
  .exact Fl s _ ž _
  split
  .exact Fl s _ ž _
  .exact Fl s _ ž _
 .rw [Ã ž]
  exact Fl s _ ž _
theorem Yb (s:O) (f:à s<=300):W fun n=>Dy n s=ã (fK s):=by
 obtain⟨e,he,j⟩:=Ya s;refine((XX s f).and (aBl (s.drop e) ź)).nm fun n ⟨g,h⟩=> ?_
 rw [atM,g];unfold fK;simp only [Z,he];by_cases i:e=0
 .subst i
  rfl
 .have d:(s.drop (À (e:Int))).take (à s-À (e:Int))=s.drop e:=by
   rw [Æ,Û Ż]
  rw [lN (b:=0) ž,if_neg ž,hC ž,d,Æ]
  simp only [ez,Y];rw [h];cases bo (∀c∈s.drop e,c.toNat=32)<;>rfl
theorem aBw (n:Nat) {s:O} (g:à s<=300) (x:Int): ∀(k m i:Nat),à s-i<=k->k<m->i<=à s->Cp n m (i:Int) s x=ã (cond (bo (∀c∈s.drop i,c.toNat=32)) (.inl x) (.inr (0,ä))):=by
 intro k;induction k with
 |zero=>
  intro m i hk hm hi;obtain⟨m,rfl⟩: ∃m',m=m'+1:=⟨m-1,ž⟩
  obtain rfl:i=à s:=ž
  rw [MV,bM,Ã (Î _),aA Ż]
  rfl
 |succ k ih=>
  intro m i hk hm hi;obtain⟨m,rfl⟩: ∃m',m=m'+1:=⟨m-1,ž⟩
  by_cases d:i<à s
  .rw [MV,aU d,dy d,Â d]
   simp only [Y,Z];by_cases h:(s[i]).toNat=32
   .rw [show (((s[i]).toNat:Int) !=(32:Int))=ä by unfold bne;rw [nF (a:=(s[i]).toNat) (b:=32) ž];rfl,nE i ž,ez,ih m (i+1) ž ž ž]
    have f:(∀c∈s[i]::s.drop (i+1),c.toNat=32)↔ ∀c∈s.drop (i+1),c.toNat=32:=by
     rw [List.forall_mem_cons];exact and_iff_right h
    rw [oj f]
   .rw [show (((s[i]).toNat:Int) !=(32:Int))=å by unfold bne;rw [lN (a:=(s[i]).toNat) (b:=32) ž];rfl,aw (fun k=>h (k _ (List.mem_cons_self ..)))]
    rfl
  .obtain rfl:i=à s:=by omega
   rw [MV,bM,Ã (Î _),aA Ż]
   rfl
theorem Yc (s:O) (d:à s<=300):W fun n=>xG n s=ã (fK s):=by
 obtain⟨e,he,f⟩:=Ya s;refine((XZ s d).and (W.ge 400)).nm fun n ⟨g,i⟩=> ?_
 rw [aoH,g];unfold fK;simp only [Z,he];by_cases h:e=0
 .subst h
  rfl
 .rw [lN (b:=0) ž,if_neg ž,ez,aBw n d _ (à s) n e ž ž f,Æ]
  cases bo (∀c∈s.drop e,c.toNat=32)<;>rfl
theorem cZ (x lo hi:Int):W fun n=>cu n x lo hi=ã (bo (In x lo hi)):=by
 refine W.succ (W.of fun n=> ?_)
 rw [oL];simp only [dH,gQ,Z,In]
theorem cD (x lo hi:Int):W fun n=>bS n x lo hi=ã (bo (In x lo hi)):=by
 refine W.succ (W.of fun n=> ?_)
 rw [uC];simp only [dH,gQ,Z,In]
theorem aBx (b:UInt8):W fun n=>JN n b=ã (bo (mc b)):=by
 refine W.succ (W.of fun n=> ?_)
 rw [anS];unfold mc;exact dx
theorem Fm (l:af) (s:O) (f:à l<=1048576):W fun n=>rT n l s=ã (bo (s∈l)):=by
 have h:=lB f (p:=fun x=>x=s) (r:=fun _=>å) (b:=()) (L:=fun n m i=>Ci n m i s l) (W.of fun n m i hi=>by
  rw [UC,aU hi,bB hi];simp only [Y,Z,bW]) (fun n m=>by rw [UC,bM];rfl)
 refine h.nm fun n h=> ?_
 rw [anU];rcases h with⟨⟨x,d,rfl⟩,i,e⟩|⟨d,e⟩
 .rw [e,aA d];rfl
 .rw [e,aw fun h=>d s h rfl];rfl
theorem NI (l:af) (s:O) (f:à l<=1048576):W fun n=>yl n l s=ã (bo (s∈l)):=by
 have h:=lB f (p:=fun x=>s=x) (r:=fun i=>i) (b:=()) (L:=fun n m i=>Dg n m i l s (à l:Int)) (W.of fun n m i hi=>by
  rw [VM,aU hi,bB hi];simp only [Y,Z,bW]) (fun n m=>by rw [VM,bM];rfl)
 refine W.succ (h.nm fun n h=> ?_)
 rw [asG,asH];rcases h with⟨⟨x,d,rfl⟩,i,e⟩|⟨d,e⟩
 .rw [e,aA d]
  simp only [Z,wJ,dH,HM]
 .rw [e,aw fun h=>d s h rfl]
  simp only [Z,cO,dH,HN]
theorem Yd:W fun n=>Cj n=ã jt:=W.succ (W.of fun n=>anV n)
theorem Ye:W fun n=>Df n=ã jt:=W.succ (W.of fun n=>asF n)
theorem aBy (s:O):W fun n=>JO n s=ã (bo (Key s)):=by
 refine(((Fm AO s ŷ).and (Fm jt s ŷ)).and Yd).nm fun n ⟨⟨b,d⟩,f⟩=> ?_
 have b:rT n [[66,69,71,73,78],[112,114,105,110,116],[105,102],[101,108,115,101],[119,104,105,108,101],[110,101,120,116],[100,101,108,101,116,101],[78,82],[78,70]] s=ã (bo (s∈AO)):=b;rw [anT,b];simp only [d,f,Z,lZ];rfl
theorem aBz (s:O):W fun n=>KX n s=ã (bo (Key s)):=by
 refine((NI jt s ŷ).and Ye).nm fun n ⟨b,d⟩=> ?_
 rw [asE];simp only [b,d,Z,lZ,bW];refine ig ?_
 unfold Key AO;simp only [Γ,Ϩ,or_false,or_assoc]
theorem Yf (s:O) (d:à s<=1048576):W fun n=>Cg n s=ã (bo (jQ s)):=by
 have h:=lA d (p:=mc) (r:=false) (b:=s) (L:=fun n m i=>Ch n m i s) ((W.all s fun b _=>aBx b).mono fun n h m i hi=>by
  rw [UB,aU hi,dy hi];simp only [Y,Z,dR,h _ (Á hi),cC];exact dL Ż) (fun n m=>by rw [UB,bM];rfl)
 refine((h.and (aBy s)).and (cD (à s) 1 8)).nm fun n ⟨⟨f,g⟩,j⟩=> ?_
 rw [anR,f];simp only [g,j,Z,fT];unfold jQ In;exact dx
theorem aBA (b:UInt8):W fun n=>KW n b=ã (bo (mc b)):=by
 refine W.succ (W.of fun n=> ?_)
 rw [asD];unfold mc;exact dx
theorem aBB (s:O) (k:Nat) (hk:k<=à s) (j:à s<=1048576):W fun n=>De n s (k:Int)=ã (((s.drop k).takeWhile fun b=>bo (mc b)).length:Int):=by
 have f: ∀i:Nat,i<=à s->Þ ß ((k:Int)+(i:Int))=((k+i:Nat):Int):=fun i hi=>ż
 have h:=Sv (l:=s.drop k) (β:=Int) ź (p:=fun b=>bo (mc b)) (L:=fun n m i=>yk n m i k s) ((W.all s fun b _=>aBA b).mono fun n h m i hi=>by
  have d:k+i<à s:=by simp at hi;omega
  rw [VL,f i ž,aU d,dy d]
  simp only [Y,Z,dR,h _ (Á d),Ϣ]) (fun n m=>by
   have g:(k+(s.drop k).length)=à s:=ź
   rw [VL,f _ Ż,g,bM];rfl)
 refine h.nm fun n h=> ?_
 rw [asC];rw [show yk n n (0:Int) k s=_ from h];rfl
theorem aBC (s:O) (f:à s<=1048576):W fun n=>KV n s=ã (bo (jQ s)):=by
 refine(((aBB s 0 (Nat.zero_le _) f).and (aBz s)).and (cZ (à s) 1 8)).nm fun n ⟨⟨d,g⟩,h⟩=> ?_
 have d:De n s 0=ã ((s.takeWhile fun b=>bo (mc b)).length:Int):=d
 have i:(((s.takeWhile fun b=>bo (mc b)).length:Int)=(à s:Int))↔ ∀b∈s,mc b:=by
  rw [ϝ,ahZ];simp only [oh]
 rw [asB,d];simp only [g,h,Z,bW,i];unfold jQ In;exact dx
theorem NJ (l:List O):lF l 0:=fun _ h=>absurd h (ϳ _)
theorem NK {l:List O} {i:Nat} (b:0<i) (h:i<à l):lF l i↔Δ (l[i-1]'(by omega)) l[i]=å:=⟨fun k=>k h b,fun k _ _=>k⟩
theorem Yg (l:af) (d:à l<=1048576) (g: ∀s∈l,à s<=1048576):W fun n=>Dd n l=ã (bo ((∀s∈l,jQ s)/\(∀i,i<à l->lF l i)/\à l<=8)):=by
 have h:=kK d (q:=fun i=>At l jQ i/\lF l i) (r:=false) (b:=l) (L:=fun n m i=>uj n m i l l (à l:Int)) ((W.all l fun s h=>aBC s (g s h)).mono fun n h m i hi=>by
  rw [VK,aU hi,bB hi];simp only [Y,Z,h _ (Á hi),mb hi];rcases Α i with rfl|f
  .rw [hJ ž]
   simp only [ez,cC];exact dL (by simp [NJ])
  .rw [hC ž,wK f hi d]
   simp only [Y,Z];rw [oi (Δ _ _)];simp only [cC,ij];exact dL ì) (fun n m=>by rw [VK,bM];rfl)
 refine h.nm fun n h=> ?_
 rw [asA,show uj n n (0:Int) l l (à l:Int)=_ from h];simp only [Z,fT,dH,gQ];refine ig ?_
 rw [<-rF];grind
theorem jD (x:Int):W fun n=>jz n x=ã (bo (aW x)):=by
 refine(cD x (-9000000000000) 9000000000000).nm fun n e=> ?_
 rw [UF,e];rfl
theorem jE (x:Int):W fun n=>jb n x=ã (bo (aW x)):=by
 refine(cZ x (-9000000000000) 9000000000000).nm fun n e=> ?_
 rw [Ni,e];rfl
theorem aBD (c k:Int) (s:O) (n0 vars cells:Int) (_:à s<=1048576) (r:1<=n0/\n0<=1048576):W fun n=>JP n c k s n0 vars cells=ã (bo (ju c k s n0 vars cells)):=by
 refine((((jD k).and (XJ s)).and (Yd.and (Fm jt s ŷ))).and (((cD k 1 3).and (cD k 0 (n0-1))).and ((cD k 0 1).and (cD c 1 36)))).nm fun n ⟨⟨⟨b,d⟩,f,g⟩,⟨i,j⟩,m,p⟩=> ?_
 have hw:Þ ß (n0-1)=n0-1:=ż
 rw [anW,hw];simp only [b,d,f,g,i,j,m,p,Z,dH,bW,gQ];rw [oi (im s).2.2.2.2.2];simp only [gQ,Z,AK];refine ig ?_
 unfold ju In;by_cases h:1<=c/\c<=36
 .obtain rfl|rfl|rfl|rfl|rfl|rfl|rfl|rfl|rfl|rfl|rfl|rfl|rfl|rfl|rfl|rfl|rfl|rfl|rfl|rfl|rfl|rfl|rfl|rfl|rfl|rfl|rfl|rfl|rfl|rfl|rfl|rfl|rfl|rfl|rfl|rfl:c=1\/c=2\/c=3\/c=4\/c=5\/c=6\/c=7\/c=8\/c=9\/c=10\/c=11\/c=12\/c=13\/c=14\/c=15\/c=16\/c=17\/c=18\/c=19\/c=20\/c=21\/c=22\/c=23\/c=24\/c=25\/c=26\/c=27\/c=28\/c=29\/c=30\/c=31\/c=32\/c=33\/c=34\/c=35\/c=36:=by omega
  all_goals simp
  all_goals grind
 .have:c≠1/\c≠2/\c≠3/\c≠4/\c≠5/\c≠6/\c≠7/\c≠8/\c≠9/\c≠10/\c≠11/\c≠12/\c≠13/\c≠14/\c≠15/\c≠16/\c≠17/\c≠18/\c≠19/\c≠20/\c≠21/\c≠22/\c≠23/\c≠24/\c≠25/\c≠26/\c≠27/\c≠28/\c≠29/\c≠30/\c≠31/\c≠32/\c≠33/\c≠34/\c≠35/\c≠36:=by omega
  simp [this]
  omega
theorem aBE (s:O) (_:à s<=1048576):W fun n=>Dl n s=ã (bo ((im s).2.2.2.2.2=å)):=by
 refine(XI s).nm fun n e=> ?_
 rw [asQ,e,<-oi];rfl
def Yh (c:Int):O:=
 if c=1 then [100]else if c=2\/c=24\/c=25 then [115]else if c=29 then [110,115]else if c=3\/c=4\/c=5\/c=6\/c=7\/c=8\/c=35\/c=30\/c=31\/c=33 then [110]else []
theorem aBF (c:Int):W fun n=>(In c 1 36/\ ∃nm,nm≠ []/\Dk n c=ã (nm,Yh c))\/(¬In c 1 36/\Dk n c=ã ([],[])):=by
 refine(cZ c 1 36).nm fun n e=> ?_
 have hw:Þ ß ((37:Int)-1)=36:=ż
 rw [asP,hw,e];by_cases h:In c 1 36
 .left
  rw [aA h];refine⟨h, ?_⟩
  unfold In at h;obtain rfl|rfl|rfl|rfl|rfl|rfl|rfl|rfl|rfl|rfl|rfl|rfl|rfl|rfl|rfl|rfl|rfl|rfl|rfl|rfl|rfl|rfl|rfl|rfl|rfl|rfl|rfl|rfl|rfl|rfl|rfl|rfl|rfl|rfl|rfl|rfl:c=1\/c=2\/c=3\/c=4\/c=5\/c=6\/c=7\/c=8\/c=9\/c=10\/c=11\/c=12\/c=13\/c=14\/c=15\/c=16\/c=17\/c=18\/c=19\/c=20\/c=21\/c=22\/c=23\/c=24\/c=25\/c=26\/c=27\/c=28\/c=29\/c=30\/c=31\/c=32\/c=33\/c=34\/c=35\/c=36:=ž
  all_goals exact⟨_,ŷ,rfl⟩
 .right
  rw [aw h];exact⟨h,rfl⟩
theorem aBG (c k:Int) (s:O) (n0 vars cells:Int) (f:à s<=1048576) (z:1<=n0/\n0<=1048576):W fun n=>Lc n c k s n0 vars cells=ã (bo (ju c k s n0 vars cells)):=by
 refine((((jE k).and (aBE s f)).and (Ye.and (NI jt s ŷ))).and (((cZ k 1 3).and (cZ k 0 (n0-1))).and ((cZ k 0 1).and (aBF c)))).nm fun n ⟨⟨⟨g,i⟩,j,m⟩,⟨p,q⟩,r,b⟩=> ?_
 have hw:Þ ß (n0-1)=n0-1:=ż
 rw [asO,hw];rcases b with⟨h,nm,t,b⟩|⟨h,b⟩
 .rw [b]
  have d:(nm==([]:O))=ä:=by rw [bW,aw t]
  simp only [g,i,j,m,p,q,r,Z,d,ez];unfold In at h;obtain rfl|rfl|rfl|rfl|rfl|rfl|rfl|rfl|rfl|rfl|rfl|rfl|rfl|rfl|rfl|rfl|rfl|rfl|rfl|rfl|rfl|rfl|rfl|rfl|rfl|rfl|rfl|rfl|rfl|rfl|rfl|rfl|rfl|rfl|rfl|rfl:c=1\/c=2\/c=3\/c=4\/c=5\/c=6\/c=7\/c=8\/c=9\/c=10\/c=11\/c=12\/c=13\/c=14\/c=15\/c=16\/c=17\/c=18\/c=19\/c=20\/c=21\/c=22\/c=23\/c=24\/c=25\/c=26\/c=27\/c=28\/c=29\/c=30\/c=31\/c=32\/c=33\/c=34\/c=35\/c=36:=ž
  all_goals simp [Yh,bW,eQ,dH,cC,tD,gQ,ij,kJ,Sq,wI,ju,In]
  all_goals first
   |(refine oj ?_;grind)
   |(by_cases hk:k=0<;>by_cases u:s=[]<;>simp [hk,u,tC,tD])
 .rw [b]
  have: ¬ju c k s n0 vars cells:=by
   unfold In at h;unfold ju;grind
  rw [aw this];rfl
theorem Yi (l:ae) (vars cells:Int) (d:à l<=1048576) (g: ∀o∈l,à o.2.2<=1048576):W fun n=>Ck n l vars cells=ã (bo (gu l vars cells)):=by
 by_cases f:0<à l
 .have h:=lA d (p:=fun o=>ju o.1 o.2.1 o.2.2 (à l) vars cells) (r:=false) (b:=()) (L:=fun n m i=>xo n m i cells vars (à l) l) ((W.all l fun o h=>aBD o.1 o.2.1 o.2.2 (à l) vars cells (g o h) ž).mono fun n h m i hi=>by
   rw [UE,aU hi,bB hi];simp only [Y,Z,h _ (Á hi),cC];exact dL Ż) (fun n m=>by rw [UE,bM];rfl)
  refine(h.and (cD (à l) 1 1500)).nm fun n ⟨h,e⟩=> ?_
  rw [UD,e,AL f d,show xo n n (0:Int) cells vars (à l) l=_ from h];simp only [Z,fT,eQ];unfold gu In;have j:(∀h:0<à l,(l[à l-1]'(by omega)).1=36)↔(l[à l-1]'(by omega)).1=36:=⟨fun k=>k f,fun k _=>k⟩
  rw [j];exact dx
 .refine(cD (à l) 1 1500).nm fun n e=> ?_
  rw [UD,e,aw (P:=In _ _ _) (by unfold In;omega),aw (P:=gu _ _ _) (by unfold gu;omega)]
  rfl
theorem Yj (l:ae) (vars cells:Int) (d:à l<=1048576) (g: ∀o∈l,à o.2.2<=1048576):W fun n=>Di n l vars cells=ã (bo (gu l vars cells)):=by
 by_cases f:0<à l
 .have j:W fun n=> ∀o∈l,Lb n l vars cells o.1 o.2.1 o.2.2=ã (bo (¬ju o.1 o.2.1 o.2.2 (à l) vars cells),l,vars,cells):=W.all l fun o h=>(aBG o.1 o.2.1 o.2.2 (à l) vars cells (g o h) ž).nm fun n e=>by
   rw [asN,e];simp only [Z,cC]
  have h:=lB d (p:=fun o=> ¬ju o.1 o.2.1 o.2.2 (à l) vars cells) (r:=fun i=>(i,l,vars,cells)) (b:=(l,vars,cells)) (L:=fun n m i=>Dj n m l vars cells i l (à l:Int)) (j.mono fun n h m i hi=>by
   rw [VP,aU hi,bB hi];simp only [Y,Z,h _ (Á hi)]) (fun n m=>by rw [VP,bM];rfl)
  have q:W fun n=>La n l vars cells l=ã (bo (∃o∈l,¬ju o.1 o.2.1 o.2.2 (à l) vars cells),l,vars,cells):=W.succ (h.nm fun n h=>by
   rw [asL,asM];refine tF (l:=l) (p:=fun o=> ¬ju o.1 o.2.1 o.2.2 (à l) vars cells) (c:=(l,vars,cells)) ?_
   rcases h with⟨h,i,e⟩|⟨h,e⟩
   .exact .inl ⟨h,i,Ŧ⟩
   .exact .inr ⟨h,Ŧ⟩)
  refine(q.and (cZ (à l) 1 1500)).nm fun n ⟨h,e⟩=> ?_
  rw [VO,e,AL f d,h];simp only [Z,eQ];unfold gu In;have s:(∀h:0<à l,(l[à l-1]'(by omega)).1=36)↔(l[à l-1]'(by omega)).1=36:=⟨fun k=>k f,fun k _=>k⟩
  rw [s];exact dx
 .refine(cZ (à l) 1 1500).nm fun n e=> ?_
  rw [VO,e,aw (P:=In _ _ _) (by unfold In;omega),aw (P:=gu _ _ _) (by unfold gu;omega)]
  rfl
def fC (vars cells:af) (start main:ae):Prop:=
 (à vars<=1048576/\ ∀s∈vars,à s<=1048576)/\(à cells<=1048576/\ ∀s∈cells,à s<=1048576)/\(à start<=1048576/\ ∀o∈start,à o.2.2<=1048576)/\(à main<=1048576/\ ∀o∈main,à o.2.2<=1048576)
theorem zg (a b:af) (c d:ae) (h:fC a b c d):W fun n=>se n a b c d=ã (bo (iT a b c d)):=by
 obtain⟨⟨f,j⟩,⟨g,k⟩,⟨q,t⟩,⟨u,z⟩⟩:=h;have k1:W fun n=> ∀s∈a,KZ n a b c d s=ã (bo (s∈b),a,b,c,d):=W.all a fun s _=>(NI b s g).nm fun n e=>by
  rw [asK,e];rfl
 have h:=lB f (p:=fun s=>s∈b) (r:=fun i=>(i,a,b,c,d)) (b:=(a,b,c,d)) (L:=fun n m i=>Dh n m a b c d i a (à a:Int)) (k1.mono fun n h m i hi=>by
   rw [VN,aU hi,bB hi];simp only [Y,Z,h _ (Á hi)]) (fun n m=>by rw [VN,bM];rfl)
 have k2:W fun n=>KY n a b c d a=ã (bo (∃s∈a,s∈b),a,b,c,d):=W.succ (h.nm fun n h=>by
   rw [asI,asJ];refine tF (l:=a) (p:=fun s=>s∈b) (c:=(a,b,c,d)) ?_
   rcases h with⟨h,i,e⟩|⟨h,e⟩
   .exact .inl ⟨h,i,Ŧ⟩
   .exact .inr ⟨h,Ŧ⟩)
 refine(((Yg a f j).and (Yg b g k)).and (k2.and ((Yj c (à a) (à b) q t).and (Yj d (à a) (à b) u z)))).nm fun n ⟨⟨e1,e2⟩,e3,e4,e5⟩=> ?_
 rw [arZ,e1,e2,e3];simp only [Z,e4,e5];unfold iT;exact dx
theorem NL (a b:af) (c d:ae) (h:fC a b c d):W fun n=>xn n a b c d=ã (bo (iT a b c d)):=by
 obtain⟨⟨j,k⟩,⟨g,p⟩,⟨t,u⟩,⟨z,h8⟩⟩:=h;have k1:=kK j (q:=fun i=>At a jQ i/\At a (fun s=>s∉b) i/\lF a i) (r:=false) (b:=(a,b,c,d)) (L:=fun n m i=>tT n m a b c d i) (((W.all a fun s h=>Yf s (k s h)).and (W.all a fun s _=>Fm b s g)).mono fun n ⟨h,h'⟩ m i hi=>by
  rw [Uz,aU hi,bB hi];simp only [Y,Z,h _ (Á hi),h' _ (Á hi),mb hi];rcases Α i with rfl|f
  .rw [hJ ž]
   simp only [ez,cC,ij];exact dL (by have:=NJ a;grind)
  .rw [hC ž,wK f hi j]
   simp only [Y,Z];rw [oi (Δ _ _)];simp only [cC,ij];exact dL ì) (fun n m=>by rw [Uz,bM];rfl)
 have k2:=kK g (q:=fun i=>At b jQ i/\lF b i) (r:=false) (b:=(a,b,c,d)) (L:=fun n m i=>tU n m a b c d i) ((W.all b fun s h=>Yf s (p s h)).mono fun n h m i hi=>by
  rw [UA,aU hi,bB hi];simp only [Y,Z,h _ (Á hi),mb hi];rcases Α i with rfl|f
  .rw [hJ ž]
   simp only [ez,cC];exact dL (by simp [NJ])
  .rw [hC ž,wK f hi g]
   simp only [Y,Z];rw [oi (Δ _ _)];simp only [cC,ij];exact dL ì) (fun n m=>by rw [UA,bM];rfl)
 refine((k1.and k2).and ((Yi c (à a) (à b) t u).and (Yi d (à a) (à b) z h8))).nm fun n ⟨⟨e1,e2⟩,e4,e5⟩=> ?_
 rw [anQ,show tT n n a b c d 0=_ from e1];simp only [Z,fT,show tU n n a b c d 0=_ from e2,e4,e5,dH,gQ];unfold iT;have q1:(∀i,i<à a->At a jQ i/\At a (fun s=>s∉b) i/\lF a i)↔(∀s∈a,jQ s)/\(∀s∈a,s∉b)/\(∀i,i<à a->lF a i):=by
  rw [<-rF,<-rF];grind
 have q2:(∀i,i<à b->At b jQ i/\lF b i)↔(∀s∈b,jQ s)/\(∀i,i<à b->lF b i):=by
  rw [<-rF];grind
 rw [q1,q2];exact dx
theorem NM (n:Nat) (a b:O):Lm (n+1) a b=ã (Ñ a b):=Ž
theorem Fo: ∀a b:O,Ñ a b<0↔Δ a b=å
 | [],[]=>Į
 | [],_::_=>Į
 |_::_,[]=>Į
 |a::x,b::y=>by
  rw [Ñ,Δ];by_cases h:a<b
  .simp [h]
  .rw [if_neg h]
   by_cases k:b<a
   .rw [if_pos k]
    have:a≠b:=by rintro rfl;exact h k
    simp [h,this]
   .rw [if_neg k,Fo x y]
    have:a=b:=by
     have h:=ψ.1 h;have k:=ψ.1 k;exact ϣ k h
    simp [this]
theorem Yk (k x:Int) (s:O):W fun n=>Co n k x s=ã (bo (gR k x s)):=by
 by_cases f:à s<=300
 .refine(((cD k 0 3).and (jD x)).and (Yc s f)).nm fun n ⟨⟨b,d⟩,g⟩=> ?_
  rw [Va,b];simp only [d,g,Z];rw [oi (fK s).2];have e:fK s=(x,å)↔(fK s).1=x/\(fK s).2=å:=by rw [Prod.ext_iff]
  unfold gR In;rw [e];exact dx
 .refine((cD k 0 3).and (jD x)).nm fun n ⟨b,d⟩=> ?_
  rw [Va,b,aw (P:=gR k x s) (by unfold gR;omega),hC ž]
  simp only [d,Z,cC];exact dx
theorem Yl (k x:Int) (s:O):W fun n=>Dx n k x s=ã (bo (gR k x s)):=by
 by_cases d:à s<=300
 .refine((jE x).and (Yb s d)).nm fun n ⟨b,f⟩=> ?_
  rw [Wa,b];simp only [f,Z];rw [oi (fK s).2];have e:fK s=(x,å)↔(fK s).1=x/\(fK s).2=å:=by rw [Prod.ext_iff]
  unfold gR;rw [e];exact dx
 .refine(jE x).nm fun n b=> ?_
  rw [Wa,b,aw (P:=gR k x s) (by unfold gR;omega),hC ž]
  simp only [Z,cC];exact dx
theorem Ym {l:ai} {cells:Int} (h:0<à l):pU l cells 0↔0<=l[0].1/\l[0].1<cells/\l[0].2.1.length<=300/\gR l[0].2.2.1 l[0].2.2.2.1 l[0].2.2.2.2:=by
 unfold pU;exact⟨fun k=>⟨(k h).1,(k h).2.1,(k h).2.2.1,(k h).2.2.2.1⟩,fun k _=>⟨k.1,k.2.1,k.2.2.1,k.2.2.2,fun h=>absurd h (ϳ _)⟩⟩
theorem Yn {l:ai} {cells:Int} {i:Nat} (b:0<i) (h:i<à l):pU l cells i↔0<=l[i].1/\l[i].1<cells/\l[i].2.1.length<=300/\gR l[i].2.2.1 l[i].2.2.2.1 l[i].2.2.2.2/\dY (l[i-1]'(by omega)).1 (l[i-1]'(by omega)).2.1 l[i].1 l[i].2.1:=by
 unfold pU;exact⟨fun k=>⟨(k h).1,(k h).2.1,(k h).2.2.1,(k h).2.2.2.1,(k h).2.2.2.2 b⟩,fun k _=>⟨k.1,k.2.1,k.2.2.1,k.2.2.2.1,fun _=>k.2.2.2.2⟩⟩
theorem Yo (a:Int) (s:O) (p q:Int) (r:O) (b:Int) (t:O):W fun n=>Cr n a s p q r b t=ã (bo (dY a s b t)):=by
 refine W.succ (W.of fun n=> ?_)
 rw [aoK,oi (Δ s t)];unfold dY;exact dx
theorem aBH (a:Int) (s:O) (p q:Int) (r:O) (b:Int) (t:O) (d f:Int) (g:O):W fun n=> ∃v,yw n a s p q r b t d f g=ã v/\(0<=v↔ ¬dY a s b t):=by
 refine W.succ (W.succ (W.of fun n=> ?_))
 rw [Wg,NM];unfold dY;have:=Fo s t;by_cases h:a<b
 .rw [hC h]
  exact⟨-1,rfl,ŏ⟩
 .rw [hJ h]
  by_cases k:b<a
  .rw [hC k]
   exact⟨1,rfl,by simp [h];omega⟩
  .rw [hJ k]
   obtain rfl:a=b:=ž
   refine⟨_,rfl, ?_⟩
   rw [<-this];omega
theorem aBI (vs:ae) (cs:ai) (nr err vars cells:Int) (g:à vs<=1048576) (d:à cs<=1048576):W fun n=>JV n vs cs nr err vars cells=ã (bo (ot vs cs nr err vars cells)):=by
 have k1:=lA g (p:=fun v=>gR v.1 v.2.1 v.2.2) (r:=false) (b:=(vs,cs,nr,err,cells,vars)) (L:=fun n m i=>xF n m vs cs nr err i cells vars) ((W.all vs fun v _=>Yk v.1 v.2.1 v.2.2).mono fun n h m i hi=>by
  rw [UY,aU hi,bB hi];simp only [Y,Z,h _ (Á hi),cC];exact dL Ż) (fun n m=>by rw [UY,bM];rfl)
 have k2:=kK d (q:=pU cs cells) (r:=false) (b:=(vs,cs,nr,err,vars)) (L:=fun n m i=>tX n m vs cs nr err i cells vars) (((W.all cs fun v _=>Yk v.2.2.1 v.2.2.2.1 v.2.2.2.2).and (W.lt (len:=à cs) fun i hi=>Yo (cs[i-1]'(by omega)).1 (cs[i-1]'(by omega)).2.1 (cs[i-1]'(by omega)).2.2.1 (cs[i-1]'(by omega)).2.2.2.1 (cs[i-1]'(by omega)).2.2.2.2 cs[i].1 cs[i].2.1)).mono fun n ⟨h,j⟩ m i hi=>by
  rw [UZ,aU hi,bB hi];simp only [Y,Z,h _ (Á hi),dH,cC];rcases Α i with rfl|f
  .rw [Ym hi,aw (P:=(0:Int)<((0:Nat):Int)) ž]
   simp only [ez,ij];exact dL Ŵ
  .rw [Yn f hi,aA (P:=(0:Int)<(i:Int)) ž,wK f hi d]
   simp only [Y,Z,j i hi,cC,ij];exact dL Ŵ) (fun n m=>by rw [UZ,bM];rfl)
 refine((k1.and k2).and ((cD nr 0 1000000).and (cD err 0 7))).nm fun n ⟨⟨k,s⟩,t,u⟩=> ?_
 rw [aoG,show xF n n vs cs nr err 0 cells vars=_ from k];simp only [Z,fT,show tX n n vs cs nr err 0 cells vars=_ from s,t,u];unfold ot;exact dx
theorem aBJ (vs:ae) (cs:ai) (nr err vars cells:Int) (g:à vs<=1048576) (d:à cs<=1048576):W fun n=>Li n vs cs nr err vars cells=ã (bo (ot vs cs nr err vars cells)):=by
 have j:W fun n=> ∀v∈vs,Lk n v.1 v.2.1 v.2.2=ã (bo (¬gR v.1 v.2.1 v.2.2)):=W.all vs fun v _=>(Yl v.1 v.2.1 v.2.2).nm fun n e=>by
  rw [atL,e];simp only [Z,cC]
 have h:=lB g (p:=fun v=> ¬gR v.1 v.2.1 v.2.2) (r:=fun i=>i) (b:=()) (L:=fun n m i=>Dw n m i vs (à vs:Int)) (j.mono fun n h m i hi=>by
   rw [VZ,aU hi,bB hi];simp only [Y,Z,h _ (Á hi)]) (fun n m=>by rw [VZ,bM];rfl)
 have k1:W fun n=>Lj n vs=ã (bo (∃v∈vs,¬gR v.1 v.2.1 v.2.2)):=W.succ (h.nm fun n h=>by
   rw [atJ,atK];refine HO (l:=vs) (p:=fun v=> ¬gR v.1 v.2.1 v.2.2) ?_
   rcases h with⟨h,i,e⟩|⟨h,e⟩
   .exact .inl ⟨h,i,Ŧ⟩
   .exact .inr ⟨h,Ŧ⟩)
 have k2:=kK d (q:=pU cs cells) (r:=false) (b:=()) (L:=fun n m i=>uq n m vs cs nr err i cells cs (à cs:Int)) (((W.all cs fun v _=>Yl v.2.2.1 v.2.2.2.1 v.2.2.2.2).and (W.lt (len:=à cs) fun i hi=>aBH (cs[i-1]'(by omega)).1 (cs[i-1]'(by omega)).2.1 (cs[i-1]'(by omega)).2.2.1 (cs[i-1]'(by omega)).2.2.2.1 (cs[i-1]'(by omega)).2.2.2.2 cs[i].1 cs[i].2.1 cs[i].2.2.1 cs[i].2.2.2.1 cs[i].2.2.2.2)).mono fun n ⟨h,k⟩ m i hi=>by
  rw [VY,aU hi,bB hi];simp only [Y,Z,h _ (Á hi),dH,cC];rcases Α i with rfl|f
  .rw [Ym hi,aw (P:=(0:Int)<((0:Nat):Int)) ž]
   simp only [ez,ij];exact dL Ŵ
  .obtain⟨v,e,s⟩:=k i hi
   rw [Yn f hi,aA (P:=(0:Int)<(i:Int)) ž,wK f hi d]
   simp only [Y,Z,e,s,ij];exact dL Ŵ) (fun n m=>by rw [VY,bM];rfl)
 refine((k1.and k2).and ((cZ nr 0 1000000).and (cZ err 0 7))).nm fun n ⟨⟨t,u⟩,z,e4⟩=> ?_
 rw [atI,t];simp only [Z,show uq n n vs cs nr err 0 cells cs (à cs)=_ from u,z,e4];unfold ot;exact dx
theorem aBK (n:Nat) (s:O):uo (n+1) s [10]=ã (á (0<=Β s 10)):=Ž
theorem uM: ∀(s:O) (c:UInt8), -1<=Β s c/\(0<=Β s c↔c∈s)
 | [],c=>by simp [Β]
 |b::s,c=>by
  have h:=uM s c;rw [Β];by_cases e:b=c
  .subst e;simp
  .rw [if_neg Ņ]
   have d: ¬c=b:=fun k=>e k.symm
   by_cases k:Β s c= -1
   .rw [if_pos (by simp [k])]
    have: ¬c∈s:=by rw [<-h.2];omega
    simp [this,d]
   .rw [if_neg (by simp [k])]
    have:c∈s:=by rw [<-h.2];omega
    simp [this]
    omega
theorem aBL (s:O) (d:à s<=1048576):W fun n=>JU n s=ã (bo (∀b∈s,b.toNat≠10)):=by
 have h:=lA d (p:=fun b=>b.toNat≠10) (r:=false) (b:=()) (L:=fun n m i=>xD n m i s) (W.of fun n m i hi=>by
  rw [UW,aU hi,dy hi];simp only [Y,Z,bW];exact dL ž) (fun n m=>by rw [UW,bM];rfl)
 refine h.nm fun n h=> ?_
 rw [aoE,show xD n n 0 s=_ from h];simp only [Z,fT,kJ]
theorem aBM (s:O):W fun n=>Lh n s=ã (bo (à s<=60/\ ∀b∈s,b.toNat≠10)):=by
 refine W.succ (W.succ (W.of fun n=> ?_))
 rw [atG,aBK];have h:=(uM s 10).2;have k:(10:UInt8)∈s↔ ¬ ∀b∈s,b.toNat≠10:=by
  constructor
  .exact fun h k=>k 10 h rfl
  .intro h
   simp only [ne_eq,Classical.not_forall,Ξ]at h;obtain⟨b,d,e⟩:=h;have:b=10:=Ú.1 e;rwa [<-this]
 have hk:(0<=Β s 10)= ¬ ∀b∈s,b.toNat≠10:=propext (h.trans k)
 simp only [dH,hk,Z];exact dx
theorem NN (w q:Int) (s:O) (b:à s<=1048576):W fun n=>xC n w q s=ã (bo (iU w q s)):=by
 refine(((cD w 0 2).and (cD q 1 100000)).and (aBL s b)).nm fun n ⟨⟨d,f⟩,g⟩=> ?_
 rw [aoD];simp only [d,f,g,Z];unfold iU In;exact dx
theorem NP (w q:Int) (s:O):W fun n=>yr n w q s=ã (bo (iU w q s)):=by
 refine(((cZ w 0 2).and (cZ q 1 100000)).and (aBM s)).nm fun n ⟨⟨b,d⟩,f⟩=> ?_
 rw [atF];simp only [b,d,f,Z];unfold iU In;exact dx
theorem Yp {a b:Int} {l:aj} (h:0<à l):pW a b l=(Þ ß (a+à l),(l[à l-1]'(by omega)).1):=by
 unfold pW;rw [List.getLast?_eq_getElem?,Õ ž]
theorem Yq (a b:Int) (l:aj) (d:à l<=1048576):W fun n=>Cn n a b l=ã (pW a b l):=by
 refine W.succ (W.of fun n=> ?_)
 rw [aoC];rcases Α (à l) with h|h
 .obtain rfl:=Ò h
  rfl
 .rw [Yp h,AL h d,bW,aw ž]
  rfl
theorem Yr (a b:Int) (l:aj) (d:à l<=1048576):W fun n=>Du n a b l=ã (pW a b l):=by
 refine W.succ (W.of fun n=> ?_)
 rw [atD];rcases Α (à l) with h|h
 .obtain rfl:=Ò h
  rfl
 .rw [Yp h,AL h d,bW,aw ž]
  rfl
def gh (l:aj):Prop:=à l<=1048576/\ ∀e∈l,à e.2.2.2<=1048576
theorem Ys {l:aj} (j:à l<=1048576) (t0:Int) {L:Nat->Nat->Int->Int->Option (Sum Unit Bool)}
  (d:W fun n=> ∀m (i:Nat) (t:Int) (h:i<à l),L n (m+1) i t=cond (bo (In l[i].1 t 300/\iU l[i].2.1 l[i].2.2.1 l[i].2.2.2)) (L n m (Þ ß ((i:Int)+1)) l[i].1) (ã (.inr ä)))
  (he: ∀n m t,L n (m+1) (à l:Int) t=ã (.inl ())):W fun n=>L n n 0 t0=ã (cond (bo (ou t0 l)) (.inl ()) (.inr ä)):=by
 have:=lv (len:=à l) (L:=fun n m i t=>L n m (i:Int) t) (fun i t=>ou t0 l↔ou t (l.drop i)) (fun x=>x=cond (bo (ou t0 l)) (.inl ()) (.inr ä)) ?_ ?_
 .exact this.mono fun n h=>by
   obtain⟨x,f,g⟩:=h t0 Ż
   rw [<-g];exact f
 .refine d.mono fun n h m i t hi hinv=> ?_
  have h:=h m i t hi;rw [Â hi,ou]at hinv;by_cases b:In l[i].1 t 300/\iU l[i].2.1 l[i].2.2.1 l[i].2.2.2
  .right
   rw [aA b]at h;exact⟨l[i].1,Ŋ,hinv.trans ⟨fun k=>k.2.2,fun k=>⟨b.1,b.2,k⟩⟩⟩
  .left
   rw [aw b]at h;exact⟨_,h,by rw [aw (fun k=>b ⟨(hinv.1 k).1,(hinv.1 k).2.1⟩)];rfl⟩
 .refine W.of fun n m t hinv=>⟨_,he n m t, ?_⟩
  rw [Ã (Î _),ou]at hinv;rw [aA (hinv.2 trivial)];rfl
theorem NQ (a t:Int) (l:aj) (d:gh l):W fun n=>xA n a t l=ã (bo (jv a t l)):=by
 have k:=Ys d.1 t (L:=fun n m i b=>xB n m a t l i b) ((W.all l fun e h=>NN e.2.1 e.2.2.1 e.2.2.2 (d.2 e h)).and (W.ge 1) |>.mono fun n ⟨h,q⟩ m i b hi=>by
  obtain⟨n,rfl⟩: ∃k,n=k+1:=⟨n-1,ž⟩
  have g:bS (n+1) l[i].1 b 300=ã (bo (In l[i].1 b 300)):=by
   rw [uC];simp only [dH,gQ,Z,In]
  rw [UU,aU hi,bB hi];simp only [Y,Z,g,h _ (Á hi),cC,ij];exact dL Ŵ) (fun n m b=>by rw [UU,bM];rfl)
 refine((k.and (cD a 0 300)).and (cD t 0 300)).nm fun n ⟨⟨j,f⟩,p⟩=> ?_
 by_cases h:In a 0 300
 .have hw:Þ ß ((300:Int)-a)=300-a:=by unfold In at h;rw [Å];omega
  rw [UT,f,hw];simp only [Z,p,show xB n n a t l 0 t=_ from j];unfold jv;exact dx
 .rw [UT,f,aw h,aw (P:=jv a t l) (fun k=>h k.1)]
  rfl
theorem mI (x:Int):W fun n=>kP n x=ã (bo (In x 0 300)):=by
 refine(cZ x 0 300).nm fun n e=> ?_
 rw [asZ,e];rfl
theorem Yt (x:Int):W fun n=>Dv n x=ã (bo (In x (-1) 4)):=by
 refine(cZ x (-1) 4).nm fun n e=> ?_
 rw [atE,e];rfl
theorem NR (a t:Int) (l:aj) (d:gh l):W fun n=>yp n a t l=ã (bo (jv a t l)):=by
 have k:=Ys d.1 t (L:=fun n m i b=>yq n m i b l (à l)) ((W.all l fun e h=>NP e.2.1 e.2.2.1 e.2.2.2).and (W.ge 1) |>.mono fun n ⟨h,q⟩ m i b hi=>by
  obtain⟨n,rfl⟩: ∃k,n=k+1:=⟨n-1,ž⟩
  have g:cu (n+1) l[i].1 b 300=ã (bo (In l[i].1 b 300)):=by
   rw [oL];simp only [dH,gQ,Z,In]
  rw [VX,aU hi,bB hi];simp only [Y,Z,g,h _ (Á hi),cC,ij];exact dL Ŵ) (fun n m b=>by rw [VX,bM];rfl)
 refine((k.and (mI a)).and (mI t)).nm fun n ⟨⟨j,f⟩,p⟩=> ?_
 have:=d.1;by_cases h:In a 0 300
 .have hw:Þ ß (a+(à l:Int))=a+à l:=by unfold In at h;rw [Å];omega
  rw [VW,f,hw];simp only [Z,p,show yq n n 0 t l (à l)=_ from j];unfold jv;exact dx
 .rw [VW,f,aw h,aw (P:=jv a t l) (fun k=>h k.1)]
  rfl
theorem NS (a b:af) (c d:ae) (vs:ae) (cs:ai) (nr err:Int) (dn:ag) (out:O) (h:fC a b c d) (f:à vs<=1048576) (g:à cs<=1048576) (j:à dn<=1048576):
  W fun n=>tW n a b c d vs cs nr err dn out=ã (bo (pV a b c d vs cs nr err dn out)):=by
 have k:=lA j (p:=fun x=>In x 0 100000) (r:=false) (b:=(vs,cs,nr,err,dn,out,a,b,c,d)) (L:=fun n m i=>xE n m vs cs nr err dn out a b c d i) ((W.all dn fun x _=>cD x 0 100000).mono fun n h m i hi=>by
  rw [UX,aU hi,bB hi];simp only [Y,Z,h _ (Á hi),cC];exact dL Ż) (fun n m=>by rw [UX,bM];rfl)
 refine((k.and (NL a b c d h)).and (aBI vs cs nr err (à a) (à b) f g)).nm fun n ⟨⟨q,s⟩,t⟩=> ?_
 rw [aoF,show xE n n vs cs nr err dn out a b c d 0=_ from q];simp only [Z,fT,s,t];unfold pV;exact dx
theorem NT (a b:af) (c d:ae) (vs:ae) (cs:ai) (nr err:Int) (dn:ag) (out:O) (h:fC a b c d) (f:à vs<=1048576) (g:à cs<=1048576) (j:à dn<=1048576):
  W fun n=>sg n a b c d vs cs nr err dn out=ã (bo (pV a b c d vs cs nr err dn out)):=by
 have k:W fun n=> ∀v∈dn,Lo n v=ã (bo (¬In v 0 100000)):=W.all dn fun v _=>(cZ v 0 100000).nm fun n e=>by
  rw [atX,e];simp only [Z,cC]
 have q:=lB j (p:=fun v=> ¬In v 0 100000) (r:=fun i=>i) (b:=()) (L:=fun n m i=>DD n m i dn (à dn:Int)) (k.mono fun n h m i hi=>by
   rw [Wh,aU hi,bB hi];simp only [Y,Z,h _ (Á hi)]) (fun n m=>by rw [Wh,bM];rfl)
 have k1:W fun n=>Ln n dn=ã (bo (∃v∈dn,¬In v 0 100000)):=W.succ (q.nm fun n h=>by
   rw [atV,atW];refine HO (l:=dn) (p:=fun v=> ¬In v 0 100000) ?_
   rcases h with⟨h,i,e⟩|⟨h,e⟩
   .exact .inl ⟨h,i,Ŧ⟩
   .exact .inr ⟨h,Ŧ⟩)
 refine((k1.and (zg a b c d h)).and (aBJ vs cs nr err (à a) (à b) f g)).nm fun n ⟨⟨s,t⟩,u⟩=> ?_
 rw [atH,t];simp only [Z,s,u];unfold pV;exact dx
theorem Yu (a b:af) (c d:ae) (tm g ba f:Int) (l:aj) (vs:ae) (cs:ai) (nr err:Int) (dn:ag) (out:O) (h:fC a b c d) (i:gh l) (j:à vs<=1048576) (k:à cs<=1048576) (m:à dn<=1048576):
  W fun n=>qh n a b c d tm g ba f l vs cs nr err dn out=ã (bo (tI a b c d tm g ba f l vs cs nr err dn out)):=by
 refine(((NS a b c d vs cs nr err dn out h j k m).and (NQ ba f l i)).and ((Yq ba f l i.1).and ((cD tm 0 300).and (cD g (-1) 4)))).nm fun n ⟨⟨p,q⟩,r,s,t⟩=> ?_
 rw [aoB,r];simp only [Z,p,q,s,t];unfold tI;exact dx
theorem Yv (a b:af) (c d:ae) (tm g ba f:Int) (l:aj) (vs:ae) (cs:ai) (nr err:Int) (dn:ag) (out:O) (h:fC a b c d) (i:gh l) (j:à vs<=1048576) (k:à cs<=1048576) (m:à dn<=1048576):
  W fun n=>nA n a b c d tm g ba f l vs cs nr err dn out=ã (bo (tI a b c d tm g ba f l vs cs nr err dn out)):=by
 refine(((NT a b c d vs cs nr err dn out h j k m).and (NR ba f l i)).and ((Yr ba f l i.1).and ((mI tm).and (Yt g)))).nm fun n ⟨⟨p,q⟩,r,s,t⟩=> ?_
 rw [atB,r];simp only [Z,p,q,s,t];unfold tI;exact dx
abbrev mJ:Type:=Int×(Int×Int×Int×Int×aj×ae×ai×Int×Int×ag×O×Int×cf×ag×ag×Int×ae×ai×Int×Int×ag×O×aC×Int×bp)
abbrev Fp:Type:=IB
def gX (r:Fp) (size:Int):Prop:=HY r.1 r.2.1 r.2.2.1 r.2.2.2.1 r.2.2.2.2.1 r.2.2.2.2.2.1 r.2.2.2.2.2.2.1 r.2.2.2.2.2.2.2.1 r.2.2.2.2.2.2.2.2.2 size
def Fq (r:Fp):Prop:=gh r.2.2.2.2.2.2.2.1
theorem Yw (l:aj) (most:Int) (d:gh l):W fun n=>Ct n l most=ã (bo ((∀e∈l,iu most e)/\à l<=40)):=by
 have k:=lA d.1 (p:=iu most) (r:=false) (b:=l) (L:=fun n m i=>xI n m i l most) (((W.all l fun e h=>NN e.2.1 e.2.2.1 e.2.2.2 (d.2 e h)).and (W.all l fun e _=>cD e.1 0 most)).mono fun n ⟨h,f⟩ m i hi=>by
  rw [Vb,aU hi,bB hi];simp only [Y,Z,h _ (Á hi),f _ (Á hi),cC,ij];exact dL (by unfold iu;grind)) (fun n m=>by rw [Vb,bM];rfl)
 refine k.nm fun n e=> ?_
 rw [aoM,show xI n n 0 l most=_ from e];simp only [Z,fT];exact dx
theorem Yx (l:aj) (most:Int) (d:gh l):W fun n=>DH n l most=ã (bo ((∀e∈l,iu most e)/\à l<=40)):=by
 have f:W fun n=> ∀e∈l,Lv n most e.1 e.2.1 e.2.2.1 e.2.2.2=ã (bo (¬iu most e),most):=W.all l fun e _=>((cZ e.1 0 most).and (NP e.2.1 e.2.2.1 e.2.2.2)).nm fun n ⟨g,j⟩=>by
  rw [auL,g];simp only [Z,j,cC,lZ];unfold iu;rw [oj (show (¬In e.1 0 most\/ ¬iU e.2.1 e.2.2.1 e.2.2.2)↔ ¬(In e.1 0 most/\iU e.2.1 e.2.2.1 e.2.2.2) by grind)]
 have k:=lB d.1 (p:=fun e=> ¬iu most e) (r:=fun i=>(i,most)) (b:=most) (L:=fun n m i=>DI n m most i l (à l:Int)) (f.mono fun n h m i hi=>by
   rw [Wk,aU hi,bB hi];simp only [Y,Z,h _ (Á hi)]) (fun n m=>by rw [Wk,bM];rfl)
 have k1:W fun n=>Lu n most l=ã (bo (∃e∈l,¬iu most e),most):=W.succ (k.nm fun n h=>by
   rw [auJ,auK];refine tF (l:=l) (p:=fun e=> ¬iu most e) (c:=most) ?_
   rcases h with⟨h,i,e⟩|⟨h,e⟩
   .exact .inl ⟨h,i,Ŧ⟩
   .exact .inr ⟨h,Ŧ⟩)
 refine k1.nm fun n e=> ?_
 rw [auI,e];simp only [Z];exact dx
theorem Yy (r:Fp) (size:Int) (h:Fq r):W fun n=>Cs n r.1 r.2.1 r.2.2.1 r.2.2.2.1 r.2.2.2.2.1 r.2.2.2.2.2.1 r.2.2.2.2.2.2.1 r.2.2.2.2.2.2.2.1 r.2.2.2.2.2.2.2.2.1 r.2.2.2.2.2.2.2.2.2 size=ã (bo (gX r size)):=by
 refine(((((cD r.1 1 5).and (cD size 1 5)).and ((cD r.2.1 0 (Þ ß (size-1))).and (cD r.2.2.1 0 (Þ ß (size-1))))).and (((cD r.2.2.2.1 0 300).and (cD r.2.2.2.2.1 0 300)).and ((cD r.2.2.2.2.2.1 0 300).and (cD r.2.2.2.2.2.2.1 0 300)))).and (Yw r.2.2.2.2.2.2.2.1 r.2.2.2.1 h)).nm fun n ⟨⟨⟨⟨b,d⟩,f,g⟩,⟨i,j⟩,k,m⟩,p⟩=> ?_
 rw [aoL,b];simp only [Z,d,f,g,i,j,k,m,p];unfold gX HY;exact dx
theorem Yz (r:Fp) (size:Int) (h:Fq r):W fun n=>DG n r.1 r.2.1 r.2.2.1 r.2.2.2.1 r.2.2.2.2.1 r.2.2.2.2.2.1 r.2.2.2.2.2.2.1 r.2.2.2.2.2.2.2.1 r.2.2.2.2.2.2.2.2.1 r.2.2.2.2.2.2.2.2.2 size=ã (bo (gX r size)):=by
 refine(((((cZ r.1 1 5).and (cZ size 1 5)).and ((cZ r.2.1 0 (Þ ß (size-1))).and (cZ r.2.2.1 0 (Þ ß (size-1))))).and (((mI r.2.2.2.1).and (mI r.2.2.2.2.1)).and ((mI r.2.2.2.2.2.1).and (mI r.2.2.2.2.2.2.1)))).and (Yx r.2.2.2.2.2.2.2.1 r.2.2.2.1 h)).nm fun n ⟨⟨⟨⟨b,d⟩,f,g⟩,⟨i,j⟩,k,m⟩,p⟩=> ?_
 rw [auH,b];simp only [Z,d,f,g,i,j,k,m,p];unfold gX HY;exact dx
def zh (b:aC) (sure:Int):Prop:=à b<=80000/\In sure 0 (à b)
theorem aBN (b:aC) (s:Int):W fun n=>JW n b s=ã (bo (zh b s)):=by
 refine(cD s 0 (à b)).nm fun n e=> ?_
 rw [aoN,e];unfold zh;exact dx
theorem aBO (b:aC) (s:Int):W fun n=>Lr n b s=ã (bo (zh b s)):=by
 refine(cZ s 0 (à b)).nm fun n e=> ?_
 rw [auD,e];unfold zh;exact dx
theorem NU (l:ag) (many lo hi:Int) (d:à l<=1048576):W fun n=>sk n l many lo hi=ã (bo ((à l:Int)=many/\ ∀x∈l,In x lo hi)):=by
 have f:W fun n=> ∀e∈l,Lq n lo hi e=ã (bo (¬In e lo hi),lo,hi):=W.all l fun e _=>(cZ e lo hi).nm fun n g=>by
  rw [auC,g];simp only [Z,cC]
 have j:=lB d (p:=fun e=> ¬In e lo hi) (r:=fun i=>(i,lo,hi)) (b:=(lo,hi)) (L:=fun n m i=>DE n m lo hi i l (à l:Int)) (f.mono fun n h m i hi=>by
   rw [Wi,aU hi,bB hi];simp only [Y,Z,h _ (Á hi)]) (fun n m=>by rw [Wi,bM];rfl)
 have k1:W fun n=>Lp n lo hi l=ã (bo (∃e∈l,¬In e lo hi),lo,hi):=W.succ (j.nm fun n h=>by
   rw [auA,auB];refine tF (l:=l) (p:=fun e=> ¬In e lo hi) (c:=(lo,hi)) ?_
   rcases h with⟨h,i,e⟩|⟨h,e⟩
   .exact .inl ⟨h,i,Ŧ⟩
   .exact .inr ⟨h,Ŧ⟩)
 refine k1.nm fun n e=> ?_
 rw [atY,e];simp only [Z];exact dx
def NV (a b:af) (c d:ae) (p:mJ):Prop:=tI a b c d p.2.1 p.2.2.1 p.2.2.2.1 p.2.2.2.2.1 p.2.2.2.2.2.1 p.2.2.2.2.2.2.1 p.2.2.2.2.2.2.2.1 p.2.2.2.2.2.2.2.2.1 p.2.2.2.2.2.2.2.2.2.1 p.2.2.2.2.2.2.2.2.2.2.1 p.2.2.2.2.2.2.2.2.2.2.2.1
def NW (a b:af) (c d:ae) (p:mJ):Prop:=pV a b c d p.2.2.2.2.2.2.2.2.2.2.2.2.2.2.2.2.2.1 p.2.2.2.2.2.2.2.2.2.2.2.2.2.2.2.2.2.2.1 p.2.2.2.2.2.2.2.2.2.2.2.2.2.2.2.2.2.2.2.1 p.2.2.2.2.2.2.2.2.2.2.2.2.2.2.2.2.2.2.2.2.1 p.2.2.2.2.2.2.2.2.2.2.2.2.2.2.2.2.2.2.2.2.2.1 p.2.2.2.2.2.2.2.2.2.2.2.2.2.2.2.2.2.2.2.2.2.2.1
def fr (p:mJ):Int:=(pW p.2.2.2.1 p.2.2.2.2.1 p.2.2.2.2.2.1).1
def oN (a b:af) (c d:ae) (p:mJ) (size:Int):Prop:=
 In size 1 5/\In p.1 0 (Þ ß (size-1))/\NV a b c d p/\p.2.2.1<size/\In p.2.2.2.2.2.2.2.2.2.2.2.2.1 0 2/\(à p.2.2.2.2.2.2.2.2.2.2.2.2.2.1:Int)=size/\(à p.2.2.2.2.2.2.2.2.2.2.2.2.2.2.1:Int)=size/\(à p.2.2.2.2.2.2.2.2.2.2.2.2.2.2.2.1:Int)=size/\
 (∀x∈p.2.2.2.2.2.2.2.2.2.2.2.2.2.2.1,In x 1 (Þ ß (fr p+1)))/\(∀x∈p.2.2.2.2.2.2.2.2.2.2.2.2.2.2.2.1,In x 0 (fr p))/\(∀r∈p.2.2.2.2.2.2.2.2.2.2.2.2.2.2.2.2.2.2.2.2.2.2.2.2.2,gX r size/\r.2.1=p.1)/\In p.2.2.2.2.2.2.2.2.2.2.2.2.2.2.2.2.1 p.2.2.2.1 (fr p)/\NW a b c d p/\zh p.2.2.2.2.2.2.2.2.2.2.2.2.2.2.2.2.2.2.2.2.2.2.2.1 p.2.2.2.2.2.2.2.2.2.2.2.2.2.2.2.2.2.2.2.2.2.2.2.2.1/\à p.2.2.2.2.2.2.2.2.2.2.2.2.2.2.2.2.2.2.2.2.2.2.2.2.2<=40
def NX (p:mJ):Prop:=gh p.2.2.2.2.2.1/\à p.2.2.2.2.2.2.1<=1048576/\à p.2.2.2.2.2.2.2.1<=1048576/\à p.2.2.2.2.2.2.2.2.2.2.1<=1048576/\à p.2.2.2.2.2.2.2.2.2.2.2.2.2.2.1<=1048576/\à p.2.2.2.2.2.2.2.2.2.2.2.2.2.2.2.1<=1048576/\à p.2.2.2.2.2.2.2.2.2.2.2.2.2.2.2.2.2.1<=1048576/\à p.2.2.2.2.2.2.2.2.2.2.2.2.2.2.2.2.2.2.1<=1048576/\à p.2.2.2.2.2.2.2.2.2.2.2.2.2.2.2.2.2.2.2.2.2.1<=1048576/\à p.2.2.2.2.2.2.2.2.2.2.2.2.2.2.2.2.2.2.2.2.2.2.2.2.2<=1048576/\ ∀r∈p.2.2.2.2.2.2.2.2.2.2.2.2.2.2.2.2.2.2.2.2.2.2.2.2.2,Fq r
theorem aBP (a b:af) (c d:ae) (p:mJ) (size:Int) (h:fC a b c d) (hp:NX p):W fun n=>Lg n a b c d p.1 p.2.1 p.2.2.1 p.2.2.2.1 p.2.2.2.2.1 p.2.2.2.2.2.1 p.2.2.2.2.2.2.1 p.2.2.2.2.2.2.2.1 p.2.2.2.2.2.2.2.2.1 p.2.2.2.2.2.2.2.2.2.1 p.2.2.2.2.2.2.2.2.2.2.1 p.2.2.2.2.2.2.2.2.2.2.2.1 p.2.2.2.2.2.2.2.2.2.2.2.2.1 p.2.2.2.2.2.2.2.2.2.2.2.2.2.1 p.2.2.2.2.2.2.2.2.2.2.2.2.2.2.1 p.2.2.2.2.2.2.2.2.2.2.2.2.2.2.2.1 p.2.2.2.2.2.2.2.2.2.2.2.2.2.2.2.2.1 p.2.2.2.2.2.2.2.2.2.2.2.2.2.2.2.2.2.1 p.2.2.2.2.2.2.2.2.2.2.2.2.2.2.2.2.2.2.1 p.2.2.2.2.2.2.2.2.2.2.2.2.2.2.2.2.2.2.2.1 p.2.2.2.2.2.2.2.2.2.2.2.2.2.2.2.2.2.2.2.2.1 p.2.2.2.2.2.2.2.2.2.2.2.2.2.2.2.2.2.2.2.2.2.1 p.2.2.2.2.2.2.2.2.2.2.2.2.2.2.2.2.2.2.2.2.2.2.1 p.2.2.2.2.2.2.2.2.2.2.2.2.2.2.2.2.2.2.2.2.2.2.2.1 p.2.2.2.2.2.2.2.2.2.2.2.2.2.2.2.2.2.2.2.2.2.2.2.2.1 p.2.2.2.2.2.2.2.2.2.2.2.2.2.2.2.2.2.2.2.2.2.2.2.2.2 size=ã (bo (oN a b c d p size)):=by
 obtain⟨hl,h6,h7,f,g,j,k,q,s,t,hr⟩:=hp;have k0:W fun n=> ∀r∈p.2.2.2.2.2.2.2.2.2.2.2.2.2.2.2.2.2.2.2.2.2.2.2.2.2,Lt n size p.1 p.2.1 p.2.2.1 p.2.2.2.1 p.2.2.2.2.1 p.2.2.2.2.2.1 p.2.2.2.2.2.2.1 p.2.2.2.2.2.2.2.1 p.2.2.2.2.2.2.2.2.1 p.2.2.2.2.2.2.2.2.2.1 p.2.2.2.2.2.2.2.2.2.2.1 p.2.2.2.2.2.2.2.2.2.2.2.1 p.2.2.2.2.2.2.2.2.2.2.2.2.1 p.2.2.2.2.2.2.2.2.2.2.2.2.2.1 p.2.2.2.2.2.2.2.2.2.2.2.2.2.2.1 p.2.2.2.2.2.2.2.2.2.2.2.2.2.2.2.1 p.2.2.2.2.2.2.2.2.2.2.2.2.2.2.2.2.1 p.2.2.2.2.2.2.2.2.2.2.2.2.2.2.2.2.2.1 p.2.2.2.2.2.2.2.2.2.2.2.2.2.2.2.2.2.2.1 p.2.2.2.2.2.2.2.2.2.2.2.2.2.2.2.2.2.2.2.1 p.2.2.2.2.2.2.2.2.2.2.2.2.2.2.2.2.2.2.2.2.1 p.2.2.2.2.2.2.2.2.2.2.2.2.2.2.2.2.2.2.2.2.2.1 p.2.2.2.2.2.2.2.2.2.2.2.2.2.2.2.2.2.2.2.2.2.2.1 p.2.2.2.2.2.2.2.2.2.2.2.2.2.2.2.2.2.2.2.2.2.2.2.1 p.2.2.2.2.2.2.2.2.2.2.2.2.2.2.2.2.2.2.2.2.2.2.2.2.1 p.2.2.2.2.2.2.2.2.2.2.2.2.2.2.2.2.2.2.2.2.2.2.2.2.2 r.1 r.2.1 r.2.2.1 r.2.2.2.1 r.2.2.2.2.1 r.2.2.2.2.2.1 r.2.2.2.2.2.2.1 r.2.2.2.2.2.2.2.1 r.2.2.2.2.2.2.2.2.1 r.2.2.2.2.2.2.2.2.2=ã (bo (¬(gX r size/\r.2.1=p.1)),size,p):=W.all _ fun r hm=>(Yz r size (hr r hm)).nm fun n e1=>by
  rw [auG,e1];simp only [Z,cC,eQ,lZ];rw [oj (show (¬gX r size\/ ¬r.2.1=p.1)↔ ¬(gX r size/\r.2.1=p.1) by grind)]
 have h':=lB t (p:=fun r=> ¬(gX r size/\r.2.1=p.1)) (r:=fun i=>(i,size,p)) (b:=(size,p)) (L:=fun n m i=>DF n m size p.1 p.2.1 p.2.2.1 p.2.2.2.1 p.2.2.2.2.1 p.2.2.2.2.2.1 p.2.2.2.2.2.2.1 p.2.2.2.2.2.2.2.1 p.2.2.2.2.2.2.2.2.1 p.2.2.2.2.2.2.2.2.2.1 p.2.2.2.2.2.2.2.2.2.2.1 p.2.2.2.2.2.2.2.2.2.2.2.1 p.2.2.2.2.2.2.2.2.2.2.2.2.1 p.2.2.2.2.2.2.2.2.2.2.2.2.2.1 p.2.2.2.2.2.2.2.2.2.2.2.2.2.2.1 p.2.2.2.2.2.2.2.2.2.2.2.2.2.2.2.1 p.2.2.2.2.2.2.2.2.2.2.2.2.2.2.2.2.1 p.2.2.2.2.2.2.2.2.2.2.2.2.2.2.2.2.2.1 p.2.2.2.2.2.2.2.2.2.2.2.2.2.2.2.2.2.2.1 p.2.2.2.2.2.2.2.2.2.2.2.2.2.2.2.2.2.2.2.1 p.2.2.2.2.2.2.2.2.2.2.2.2.2.2.2.2.2.2.2.2.1 p.2.2.2.2.2.2.2.2.2.2.2.2.2.2.2.2.2.2.2.2.2.1 p.2.2.2.2.2.2.2.2.2.2.2.2.2.2.2.2.2.2.2.2.2.2.1 p.2.2.2.2.2.2.2.2.2.2.2.2.2.2.2.2.2.2.2.2.2.2.2.1 p.2.2.2.2.2.2.2.2.2.2.2.2.2.2.2.2.2.2.2.2.2.2.2.2.1 p.2.2.2.2.2.2.2.2.2.2.2.2.2.2.2.2.2.2.2.2.2.2.2.2.2 i p.2.2.2.2.2.2.2.2.2.2.2.2.2.2.2.2.2.2.2.2.2.2.2.2.2 (à p.2.2.2.2.2.2.2.2.2.2.2.2.2.2.2.2.2.2.2.2.2.2.2.2.2:Int)) (k0.mono fun n h m i hi=>by
   rw [Wj,aU hi,bB hi];simp only [Y,Z,h _ (Á hi)]) (fun n m=>by rw [Wj,bM];rfl)
 have k1:W fun n=>Ls n size p.1 p.2.1 p.2.2.1 p.2.2.2.1 p.2.2.2.2.1 p.2.2.2.2.2.1 p.2.2.2.2.2.2.1 p.2.2.2.2.2.2.2.1 p.2.2.2.2.2.2.2.2.1 p.2.2.2.2.2.2.2.2.2.1 p.2.2.2.2.2.2.2.2.2.2.1 p.2.2.2.2.2.2.2.2.2.2.2.1 p.2.2.2.2.2.2.2.2.2.2.2.2.1 p.2.2.2.2.2.2.2.2.2.2.2.2.2.1 p.2.2.2.2.2.2.2.2.2.2.2.2.2.2.1 p.2.2.2.2.2.2.2.2.2.2.2.2.2.2.2.1 p.2.2.2.2.2.2.2.2.2.2.2.2.2.2.2.2.1 p.2.2.2.2.2.2.2.2.2.2.2.2.2.2.2.2.2.1 p.2.2.2.2.2.2.2.2.2.2.2.2.2.2.2.2.2.2.1 p.2.2.2.2.2.2.2.2.2.2.2.2.2.2.2.2.2.2.2.1 p.2.2.2.2.2.2.2.2.2.2.2.2.2.2.2.2.2.2.2.2.1 p.2.2.2.2.2.2.2.2.2.2.2.2.2.2.2.2.2.2.2.2.2.1 p.2.2.2.2.2.2.2.2.2.2.2.2.2.2.2.2.2.2.2.2.2.2.1 p.2.2.2.2.2.2.2.2.2.2.2.2.2.2.2.2.2.2.2.2.2.2.2.1 p.2.2.2.2.2.2.2.2.2.2.2.2.2.2.2.2.2.2.2.2.2.2.2.2.1 p.2.2.2.2.2.2.2.2.2.2.2.2.2.2.2.2.2.2.2.2.2.2.2.2.2 p.2.2.2.2.2.2.2.2.2.2.2.2.2.2.2.2.2.2.2.2.2.2.2.2.2=ã (bo (∃r∈p.2.2.2.2.2.2.2.2.2.2.2.2.2.2.2.2.2.2.2.2.2.2.2.2.2,¬(gX r size/\r.2.1=p.1)),size,p):=W.succ (h'.nm fun n h=>by
   rw [auE,auF];refine tF (l:=p.2.2.2.2.2.2.2.2.2.2.2.2.2.2.2.2.2.2.2.2.2.2.2.2.2) (p:=fun r=> ¬(gX r size/\r.2.1=p.1)) (c:=(size,p)) ?_
   rcases h with⟨h,i,e⟩|⟨h,e⟩
   .exact .inl ⟨h,i,Ŧ⟩
   .exact .inr ⟨h,Ŧ⟩)
 have k2:=Yv a b c d p.2.1 p.2.2.1 p.2.2.2.1 p.2.2.2.2.1 p.2.2.2.2.2.1 p.2.2.2.2.2.2.1 p.2.2.2.2.2.2.2.1 p.2.2.2.2.2.2.2.2.1 p.2.2.2.2.2.2.2.2.2.1 p.2.2.2.2.2.2.2.2.2.2.1 p.2.2.2.2.2.2.2.2.2.2.2.1 h hl h6 h7 f;have k3:=NT a b c d p.2.2.2.2.2.2.2.2.2.2.2.2.2.2.2.2.2.1 p.2.2.2.2.2.2.2.2.2.2.2.2.2.2.2.2.2.2.1 p.2.2.2.2.2.2.2.2.2.2.2.2.2.2.2.2.2.2.2.1 p.2.2.2.2.2.2.2.2.2.2.2.2.2.2.2.2.2.2.2.2.1 p.2.2.2.2.2.2.2.2.2.2.2.2.2.2.2.2.2.2.2.2.2.1 p.2.2.2.2.2.2.2.2.2.2.2.2.2.2.2.2.2.2.2.2.2.2.1 h k q s;have k4:=Yr p.2.2.2.1 p.2.2.2.2.1 p.2.2.2.2.2.1 hl.1;have k5:=NU p.2.2.2.2.2.2.2.2.2.2.2.2.2.2.1 size 1 (Þ ß (fr p+1)) g;have k6:=NU p.2.2.2.2.2.2.2.2.2.2.2.2.2.2.2.1 size 0 (fr p) j;have k7:=aBO p.2.2.2.2.2.2.2.2.2.2.2.2.2.2.2.2.2.2.2.2.2.2.2.1 p.2.2.2.2.2.2.2.2.2.2.2.2.2.2.2.2.2.2.2.2.2.2.2.2.1;refine(((k1.and (k2.and k3)).and ((k4.and k5).and (k6.and k7))).and (((cZ size 1 5).and (cZ p.1 0 (Þ ß (size-1)))).and ((cZ p.2.2.2.2.2.2.2.2.2.2.2.2.1 0 2).and (cZ p.2.2.2.2.2.2.2.2.2.2.2.2.2.2.2.2.1 p.2.2.2.1 (fr p))))).nm fun n ⟨⟨⟨e1,e2,e3⟩,⟨e4,e5⟩,e6,e7⟩,⟨e8,e9⟩,u,z⟩=> ?_
 rw [atA,e8,e4];simp only [Z,show(pW p.2.2.2.1 p.2.2.2.2.1 p.2.2.2.2.2.1).1=fr p from rfl,e1,e2,e3,e5,e6,e7,e9,u,z];clear e1 e2 e3 e4 e5 e6 e7 e8 e9 u z k0 k1 k2 k3 k4 k5 k6 k7 h' hr hl h6 h7 f g j k q s t h;simp only [dH,eQ,cC,lZ,wI,Z];refine ig ?_
 unfold oN NV NW;grind
theorem aBQ (a b:af) (c d:ae) (p:mJ) (size:Int) (h:fC a b c d) (hp:NX p):W fun n=>JT n a b c d p.1 p.2.1 p.2.2.1 p.2.2.2.1 p.2.2.2.2.1 p.2.2.2.2.2.1 p.2.2.2.2.2.2.1 p.2.2.2.2.2.2.2.1 p.2.2.2.2.2.2.2.2.1 p.2.2.2.2.2.2.2.2.2.1 p.2.2.2.2.2.2.2.2.2.2.1 p.2.2.2.2.2.2.2.2.2.2.2.1 p.2.2.2.2.2.2.2.2.2.2.2.2.1 p.2.2.2.2.2.2.2.2.2.2.2.2.2.1 p.2.2.2.2.2.2.2.2.2.2.2.2.2.2.1 p.2.2.2.2.2.2.2.2.2.2.2.2.2.2.2.1 p.2.2.2.2.2.2.2.2.2.2.2.2.2.2.2.2.1 p.2.2.2.2.2.2.2.2.2.2.2.2.2.2.2.2.2.1 p.2.2.2.2.2.2.2.2.2.2.2.2.2.2.2.2.2.2.1 p.2.2.2.2.2.2.2.2.2.2.2.2.2.2.2.2.2.2.2.1 p.2.2.2.2.2.2.2.2.2.2.2.2.2.2.2.2.2.2.2.2.1 p.2.2.2.2.2.2.2.2.2.2.2.2.2.2.2.2.2.2.2.2.2.1 p.2.2.2.2.2.2.2.2.2.2.2.2.2.2.2.2.2.2.2.2.2.2.1 p.2.2.2.2.2.2.2.2.2.2.2.2.2.2.2.2.2.2.2.2.2.2.2.1 p.2.2.2.2.2.2.2.2.2.2.2.2.2.2.2.2.2.2.2.2.2.2.2.2.1 p.2.2.2.2.2.2.2.2.2.2.2.2.2.2.2.2.2.2.2.2.2.2.2.2.2 size=ã (bo (oN a b c d p size)):=by
 obtain⟨hl,h6,h7,k,s,ak,t,u,z,ad,hr⟩:=hp;have k2:=Yu a b c d p.2.1 p.2.2.1 p.2.2.2.1 p.2.2.2.2.1 p.2.2.2.2.2.1 p.2.2.2.2.2.2.1 p.2.2.2.2.2.2.2.1 p.2.2.2.2.2.2.2.2.1 p.2.2.2.2.2.2.2.2.2.1 p.2.2.2.2.2.2.2.2.2.2.1 p.2.2.2.2.2.2.2.2.2.2.2.1 h hl h6 h7 k;have k3:=NS a b c d p.2.2.2.2.2.2.2.2.2.2.2.2.2.2.2.2.2.1 p.2.2.2.2.2.2.2.2.2.2.2.2.2.2.2.2.2.2.1 p.2.2.2.2.2.2.2.2.2.2.2.2.2.2.2.2.2.2.2.1 p.2.2.2.2.2.2.2.2.2.2.2.2.2.2.2.2.2.2.2.2.1 p.2.2.2.2.2.2.2.2.2.2.2.2.2.2.2.2.2.2.2.2.2.1 p.2.2.2.2.2.2.2.2.2.2.2.2.2.2.2.2.2.2.2.2.2.2.1 h t u z;have k4:=Yq p.2.2.2.1 p.2.2.2.2.1 p.2.2.2.2.2.1 hl.1;have k7:=aBN p.2.2.2.2.2.2.2.2.2.2.2.2.2.2.2.2.2.2.2.2.2.2.2.1 p.2.2.2.2.2.2.2.2.2.2.2.2.2.2.2.2.2.2.2.2.2.2.2.2.1;have k8:=(((k2.and k3).and (k4.and k7)).and (((cD size 1 5).and (cD p.1 0 (Þ ß (size-1)))).and ((cD p.2.2.2.2.2.2.2.2.2.2.2.2.1 0 2).and (cD p.2.2.2.2.2.2.2.2.2.2.2.2.2.2.2.2.1 p.2.2.2.1 (fr p)))));by_cases hg:(à p.2.2.2.2.2.2.2.2.2.2.2.2.2.2.1:Int)=size/\(à p.2.2.2.2.2.2.2.2.2.2.2.2.2.2.2.1:Int)=size
 .obtain⟨g1,g2⟩:=hg
  have q1:=kK s (q:=fun i=>At p.2.2.2.2.2.2.2.2.2.2.2.2.2.2.1 (fun x=>In x 1 (Þ ß (fr p+1))) i/\At p.2.2.2.2.2.2.2.2.2.2.2.2.2.2.2.1 (fun x=>In x 0 (fr p)) i) (r:=false) (b:=(p.1,p.2.1,p.2.2.1,p.2.2.2.1,p.2.2.2.2.1,p.2.2.2.2.2.1,p.2.2.2.2.2.2.1,p.2.2.2.2.2.2.2.1,p.2.2.2.2.2.2.2.2.1,p.2.2.2.2.2.2.2.2.2.1,p.2.2.2.2.2.2.2.2.2.2.1,p.2.2.2.2.2.2.2.2.2.2.2.1,p.2.2.2.2.2.2.2.2.2.2.2.2.1,p.2.2.2.2.2.2.2.2.2.2.2.2.2.1,p.2.2.2.2.2.2.2.2.2.2.2.2.2.2.1,p.2.2.2.2.2.2.2.2.2.2.2.2.2.2.2.1,p.2.2.2.2.2.2.2.2.2.2.2.2.2.2.2.2.1,p.2.2.2.2.2.2.2.2.2.2.2.2.2.2.2.2.2.1,p.2.2.2.2.2.2.2.2.2.2.2.2.2.2.2.2.2.2.1,p.2.2.2.2.2.2.2.2.2.2.2.2.2.2.2.2.2.2.2.1,p.2.2.2.2.2.2.2.2.2.2.2.2.2.2.2.2.2.2.2.2.1,p.2.2.2.2.2.2.2.2.2.2.2.2.2.2.2.2.2.2.2.2.2.1,p.2.2.2.2.2.2.2.2.2.2.2.2.2.2.2.2.2.2.2.2.2.2.1,p.2.2.2.2.2.2.2.2.2.2.2.2.2.2.2.2.2.2.2.2.2.2.2.1,p.2.2.2.2.2.2.2.2.2.2.2.2.2.2.2.2.2.2.2.2.2.2.2.2.1,p.2.2.2.2.2.2.2.2.2.2.2.2.2.2.2.2.2.2.2.2.2.2.2.2.2,a,b,c,d,size,fr p)) (L:=fun n m i=>xx n m p.1 p.2.1 p.2.2.1 p.2.2.2.1 p.2.2.2.2.1 p.2.2.2.2.2.1 p.2.2.2.2.2.2.1 p.2.2.2.2.2.2.2.1 p.2.2.2.2.2.2.2.2.1 p.2.2.2.2.2.2.2.2.2.1 p.2.2.2.2.2.2.2.2.2.2.1 p.2.2.2.2.2.2.2.2.2.2.2.1 p.2.2.2.2.2.2.2.2.2.2.2.2.1 p.2.2.2.2.2.2.2.2.2.2.2.2.2.1 p.2.2.2.2.2.2.2.2.2.2.2.2.2.2.1 p.2.2.2.2.2.2.2.2.2.2.2.2.2.2.2.1 p.2.2.2.2.2.2.2.2.2.2.2.2.2.2.2.2.1 p.2.2.2.2.2.2.2.2.2.2.2.2.2.2.2.2.2.1 p.2.2.2.2.2.2.2.2.2.2.2.2.2.2.2.2.2.2.1 p.2.2.2.2.2.2.2.2.2.2.2.2.2.2.2.2.2.2.2.1 p.2.2.2.2.2.2.2.2.2.2.2.2.2.2.2.2.2.2.2.2.1 p.2.2.2.2.2.2.2.2.2.2.2.2.2.2.2.2.2.2.2.2.2.1 p.2.2.2.2.2.2.2.2.2.2.2.2.2.2.2.2.2.2.2.2.2.2.1 p.2.2.2.2.2.2.2.2.2.2.2.2.2.2.2.2.2.2.2.2.2.2.2.1 p.2.2.2.2.2.2.2.2.2.2.2.2.2.2.2.2.2.2.2.2.2.2.2.2.1 p.2.2.2.2.2.2.2.2.2.2.2.2.2.2.2.2.2.2.2.2.2.2.2.2.2 a b c d i (fr p) size) (((W.all p.2.2.2.2.2.2.2.2.2.2.2.2.2.2.1 fun x _=>cD x 1 (Þ ß (fr p+1))).and (W.all p.2.2.2.2.2.2.2.2.2.2.2.2.2.2.2.1 fun x _=>cD x 0 (fr p))).mono fun n ⟨h,h'⟩ m i hi=>by
   have g:i<à p.2.2.2.2.2.2.2.2.2.2.2.2.2.2.2.1:=ž
   rw [UR,hC ž,bB hi,bB g]
   simp only [Y,Z,h _ (Á hi),h' _ (Á g),cC,ij,mb hi,mb g];exact dL Ŵ) (fun n m=>by rw [UR,hJ ž];rfl)
  have q2:=lA ad (p:=fun r=>gX r size/\r.2.1=p.1) (r:=false) (b:=(p.1,p.2.1,p.2.2.1,p.2.2.2.1,p.2.2.2.2.1,p.2.2.2.2.2.1,p.2.2.2.2.2.2.1,p.2.2.2.2.2.2.2.1,p.2.2.2.2.2.2.2.2.1,p.2.2.2.2.2.2.2.2.2.1,p.2.2.2.2.2.2.2.2.2.2.1,p.2.2.2.2.2.2.2.2.2.2.2.1,p.2.2.2.2.2.2.2.2.2.2.2.2.1,p.2.2.2.2.2.2.2.2.2.2.2.2.2.1,p.2.2.2.2.2.2.2.2.2.2.2.2.2.2.1,p.2.2.2.2.2.2.2.2.2.2.2.2.2.2.2.1,p.2.2.2.2.2.2.2.2.2.2.2.2.2.2.2.2.1,p.2.2.2.2.2.2.2.2.2.2.2.2.2.2.2.2.2.1,p.2.2.2.2.2.2.2.2.2.2.2.2.2.2.2.2.2.2.1,p.2.2.2.2.2.2.2.2.2.2.2.2.2.2.2.2.2.2.2.1,p.2.2.2.2.2.2.2.2.2.2.2.2.2.2.2.2.2.2.2.2.1,p.2.2.2.2.2.2.2.2.2.2.2.2.2.2.2.2.2.2.2.2.2.1,p.2.2.2.2.2.2.2.2.2.2.2.2.2.2.2.2.2.2.2.2.2.2.1,p.2.2.2.2.2.2.2.2.2.2.2.2.2.2.2.2.2.2.2.2.2.2.2.1,p.2.2.2.2.2.2.2.2.2.2.2.2.2.2.2.2.2.2.2.2.2.2.2.2.1,p.2.2.2.2.2.2.2.2.2.2.2.2.2.2.2.2.2.2.2.2.2.2.2.2.2,a,b,c,d,fr p)) (L:=fun n m i=>xy n m p.1 p.2.1 p.2.2.1 p.2.2.2.1 p.2.2.2.2.1 p.2.2.2.2.2.1 p.2.2.2.2.2.2.1 p.2.2.2.2.2.2.2.1 p.2.2.2.2.2.2.2.2.1 p.2.2.2.2.2.2.2.2.2.1 p.2.2.2.2.2.2.2.2.2.2.1 p.2.2.2.2.2.2.2.2.2.2.2.1 p.2.2.2.2.2.2.2.2.2.2.2.2.1 p.2.2.2.2.2.2.2.2.2.2.2.2.2.1 p.2.2.2.2.2.2.2.2.2.2.2.2.2.2.1 p.2.2.2.2.2.2.2.2.2.2.2.2.2.2.2.1 p.2.2.2.2.2.2.2.2.2.2.2.2.2.2.2.2.1 p.2.2.2.2.2.2.2.2.2.2.2.2.2.2.2.2.2.1 p.2.2.2.2.2.2.2.2.2.2.2.2.2.2.2.2.2.2.1 p.2.2.2.2.2.2.2.2.2.2.2.2.2.2.2.2.2.2.2.1 p.2.2.2.2.2.2.2.2.2.2.2.2.2.2.2.2.2.2.2.2.1 p.2.2.2.2.2.2.2.2.2.2.2.2.2.2.2.2.2.2.2.2.2.1 p.2.2.2.2.2.2.2.2.2.2.2.2.2.2.2.2.2.2.2.2.2.2.1 p.2.2.2.2.2.2.2.2.2.2.2.2.2.2.2.2.2.2.2.2.2.2.2.1 p.2.2.2.2.2.2.2.2.2.2.2.2.2.2.2.2.2.2.2.2.2.2.2.2.1 p.2.2.2.2.2.2.2.2.2.2.2.2.2.2.2.2.2.2.2.2.2.2.2.2.2 a b c d i size (fr p)) ((W.all p.2.2.2.2.2.2.2.2.2.2.2.2.2.2.2.2.2.2.2.2.2.2.2.2.2 fun r hm=>Yy r size (hr r hm)).mono fun n h m i hi=>by
   rw [US,aU hi,bB hi];simp only [Y,Z,h _ (Á hi),cC,eQ,ij];exact dL Ŵ) (fun n m=>by rw [US,bM];rfl)
  refine(k8.and (q1.and q2)).nm fun n ⟨⟨⟨⟨e2,e3⟩,e4,e7⟩,⟨e8,e9⟩,f,j⟩,e5,e6⟩=> ?_
  rw [UQ,e8,e4];simp only [Z,show(pW p.2.2.2.1 p.2.2.2.2.1 p.2.2.2.2.2.1).1=fr p from rfl,show xx n n p.1 p.2.1 p.2.2.1 p.2.2.2.1 p.2.2.2.2.1 p.2.2.2.2.2.1 p.2.2.2.2.2.2.1 p.2.2.2.2.2.2.2.1 p.2.2.2.2.2.2.2.2.1 p.2.2.2.2.2.2.2.2.2.1 p.2.2.2.2.2.2.2.2.2.2.1 p.2.2.2.2.2.2.2.2.2.2.2.1 p.2.2.2.2.2.2.2.2.2.2.2.2.1 p.2.2.2.2.2.2.2.2.2.2.2.2.2.1 p.2.2.2.2.2.2.2.2.2.2.2.2.2.2.1 p.2.2.2.2.2.2.2.2.2.2.2.2.2.2.2.1 p.2.2.2.2.2.2.2.2.2.2.2.2.2.2.2.2.1 p.2.2.2.2.2.2.2.2.2.2.2.2.2.2.2.2.2.1 p.2.2.2.2.2.2.2.2.2.2.2.2.2.2.2.2.2.2.1 p.2.2.2.2.2.2.2.2.2.2.2.2.2.2.2.2.2.2.2.1 p.2.2.2.2.2.2.2.2.2.2.2.2.2.2.2.2.2.2.2.2.1 p.2.2.2.2.2.2.2.2.2.2.2.2.2.2.2.2.2.2.2.2.2.1 p.2.2.2.2.2.2.2.2.2.2.2.2.2.2.2.2.2.2.2.2.2.2.1 p.2.2.2.2.2.2.2.2.2.2.2.2.2.2.2.2.2.2.2.2.2.2.2.1 p.2.2.2.2.2.2.2.2.2.2.2.2.2.2.2.2.2.2.2.2.2.2.2.2.1 p.2.2.2.2.2.2.2.2.2.2.2.2.2.2.2.2.2.2.2.2.2.2.2.2.2 a b c d 0 (fr p) size=_ from e5,fT,show xy n n p.1 p.2.1 p.2.2.1 p.2.2.2.1 p.2.2.2.2.1 p.2.2.2.2.2.1 p.2.2.2.2.2.2.1 p.2.2.2.2.2.2.2.1 p.2.2.2.2.2.2.2.2.1 p.2.2.2.2.2.2.2.2.2.1 p.2.2.2.2.2.2.2.2.2.2.1 p.2.2.2.2.2.2.2.2.2.2.2.1 p.2.2.2.2.2.2.2.2.2.2.2.2.1 p.2.2.2.2.2.2.2.2.2.2.2.2.2.1 p.2.2.2.2.2.2.2.2.2.2.2.2.2.2.1 p.2.2.2.2.2.2.2.2.2.2.2.2.2.2.2.1 p.2.2.2.2.2.2.2.2.2.2.2.2.2.2.2.2.1 p.2.2.2.2.2.2.2.2.2.2.2.2.2.2.2.2.2.1 p.2.2.2.2.2.2.2.2.2.2.2.2.2.2.2.2.2.2.1 p.2.2.2.2.2.2.2.2.2.2.2.2.2.2.2.2.2.2.2.1 p.2.2.2.2.2.2.2.2.2.2.2.2.2.2.2.2.2.2.2.2.1 p.2.2.2.2.2.2.2.2.2.2.2.2.2.2.2.2.2.2.2.2.2.1 p.2.2.2.2.2.2.2.2.2.2.2.2.2.2.2.2.2.2.2.2.2.2.1 p.2.2.2.2.2.2.2.2.2.2.2.2.2.2.2.2.2.2.2.2.2.2.2.1 p.2.2.2.2.2.2.2.2.2.2.2.2.2.2.2.2.2.2.2.2.2.2.2.2.1 p.2.2.2.2.2.2.2.2.2.2.2.2.2.2.2.2.2.2.2.2.2.2.2.2.2 a b c d 0 size (fr p)=_ from e6,e2,e3,e7,e9,f,j];have q3:(∀i,i<à p.2.2.2.2.2.2.2.2.2.2.2.2.2.2.1->At p.2.2.2.2.2.2.2.2.2.2.2.2.2.2.1 (fun x=>In x 1 (Þ ß (fr p+1))) i/\At p.2.2.2.2.2.2.2.2.2.2.2.2.2.2.2.1 (fun x=>In x 0 (fr p)) i)↔(∀x∈p.2.2.2.2.2.2.2.2.2.2.2.2.2.2.1,In x 1 (Þ ß (fr p+1)))/\(∀x∈p.2.2.2.2.2.2.2.2.2.2.2.2.2.2.2.1,In x 0 (fr p)):=by
   rw [<-rF,<-rF,show à p.2.2.2.2.2.2.2.2.2.2.2.2.2.2.2.1=à p.2.2.2.2.2.2.2.2.2.2.2.2.2.2.1 by omega]
   grind
  rw [q3];clear e2 e3 e4 e5 e6 e7 e8 e9 f j k2 k3 k4 k7 k8 q1 q2 q3 hr hl h6 h7 k s ak t u z ad h;simp only [dH,eQ,cC,lZ,gQ,wI,Z];refine ig ?_
  unfold oN NV NW;grind
 .refine k8.nm fun n ⟨⟨⟨e2,e3⟩,e4,e7⟩,⟨e8,e9⟩,f,j⟩=> ?_
  rw [UQ,e8];have hf: ¬oN a b c d p size:=by unfold oN;grind
  rw [aw hf];simp only [Z,e2,e9,f,eQ,cC,dH];have: ∀x:Option Bool,cond (bo (¬(à p.2.2.2.2.2.2.2.2.2.2.2.2.2.2.1:Int)=size)) (ã å) (ã (bo (¬(à p.2.2.2.2.2.2.2.2.2.2.2.2.2.2.2.1:Int)=size)))=ã å:=fun _=>by
   rw [lZ,aA Ŵ]
  simp only [this â];cases bo (¬In size 1 5)<;>cases bo (¬In p.1 0 (Þ ß (size-1)))<;>try rfl
  all_goals simp only [ez]
  all_goals simp only [Z,Y,ϭ]
theorem aBR (a:Int) (s:O):W fun n=>JS n a s=ã (bo (In a 0 300/\à s<=1500)):=by
 refine(cD a 0 300).nm fun n e=> ?_
 rw [anZ,e];exact dx
theorem aBS (a:Int) (s:O):W fun n=>Lf n a s=ã (bo (In a 0 300/\à s<=1500)):=by
 refine(mI a).nm fun n e=> ?_
 rw [asY,e];exact dx
def uN (l:ag):Prop:=à l=3/\ ∀x∈l,In x 0 100000
theorem YA (l:ag) (d:à l<=1048576):W fun n=>Cm n l=ã (bo (uN l)):=by
 have k:=lA d (p:=fun x=>In x 0 100000) (r:=false) (b:=l) (L:=fun n m i=>xw n m i l) ((W.all l fun x _=>cD x 0 100000).mono fun n h m i hi=>by
  rw [UP,aU hi,bB hi];simp only [Y,Z,h _ (Á hi),cC];exact dL Ż) (fun n m=>by rw [UP,bM];rfl)
 refine k.nm fun n e=> ?_
 rw [aoA,show xw n n 0 l=_ from e];simp only [Z,fT];unfold uN;exact dx
theorem YB (l:ag) (b:à l<=1048576):W fun n=>sk n l 3 0 100000=ã (bo (uN l)):=by
 refine(NU l 3 0 100000 b).mono fun n e=> ?_
 rw [e];refine ig ?_
 unfold uN;grind
def nG (h:af) (j:af) (k:ae) (m:ae) (d:Int) (f:ck) (q:bp) (s:Int) (t:O) (u:ag) (g:ag) (b:ae):Prop:=
 iT h j k m/\In d 1 5/\(à f:Int)=d/\à q<=40/\(In s 0 300/\à t<=1500)/\uN u/\uN g/\à b<=300/\
 (∀i,i<à f->At f (fun p=>p.1=(i:Int)/\oN h j k m p d) i)/\(∀r∈q,gX r d)/\ ∀c∈b,iU c.1 c.2.1 c.2.2
def zi (h:af) (i:af) (j:ae) (k:ae) (_:Int) (f:ck) (g:bp) (_:Int) (_:O) (m:ag) (d:ag) (b:ae):Prop:=
 fC h i j k/\(à f<=1048576/\ ∀p∈f,NX p)/\(à g<=1048576/\ ∀r∈g,Fq r)/\à m<=1048576/\à d<=1048576/\(à b<=1048576/\ ∀c∈b,à c.2.2<=1048576)
theorem aBT (j:af) (k:af) (s:ae) (t:ae) (g:Int) (u:ck) (z:bp) (x7:Int) (x8:O) (x9:ag) (d:ag) (f:ae) (h:zi j k s t g u z x7 x8 x9 d f):W fun n=>JM n j k s t g u z x7 x8 x9 d f=ã (bo (nG j k s t g u z x7 x8 x9 d f)):=by
 obtain⟨hp,⟨h5,ak⟩,⟨h6,al⟩,h9,ao,aq,aj⟩:=h;have k8:=(((NL j k s t hp).and (cD g 1 5)).and ((aBR x7 x8).and ((YA x9 h9).and (YA d ao))));by_cases hg:(à u:Int)=g
 .have q1:=kK h5 (q:=fun i=>At u (fun p=>p.1=(i:Int)/\oN j k s t p g) i) (r:=false) (b:=(j,k,s,t,g,u,z,x7,x8,x9,d,f)) (L:=fun n m i=>xk n m j k s t g u z x7 x8 x9 d f i) ((W.all u fun p hm=>aBQ j k s t p g hp (ak p hm)).mono fun n h m i hi=>by
   rw [Uw,hC ž,bB hi]
   simp only [Y,Z,h _ (Á hi),eQ,cC,ij,mb hi];exact dL Ŵ) (fun n m=>by rw [Uw,hJ ž];rfl)
  have q2:=lA h6 (p:=fun r=>gX r g) (r:=false) (b:=(j,k,s,t,g,u,z,x7,x8,x9,d,f)) (L:=fun n m i=>xl n m j k s t g u z x7 x8 x9 d f i) ((W.all z fun r hm=>Yy r g (al r hm)).mono fun n h m i hi=>by
   rw [Ux,aU hi,bB hi];simp only [Y,Z,h _ (Á hi),cC];exact dL Ż) (fun n m=>by rw [Ux,bM];rfl)
  have q3:=lA aq (p:=fun c=>iU c.1 c.2.1 c.2.2) (r:=false) (b:=()) (L:=fun n m i=>xm n m j k s t g u z x7 x8 x9 d f i) ((W.all f fun c hm=>NN c.1 c.2.1 c.2.2 (aj c hm)).mono fun n h m i hi=>by
   rw [Uy,aU hi,bB hi];simp only [Y,Z,h _ (Á hi),cC];exact dL Ż) (fun n m=>by rw [Uy,bM];rfl)
  refine(k8.and (q1.and (q2.and q3))).nm fun n ⟨⟨⟨e1,e2⟩,e3,e4,e5⟩,e6,e7,e8⟩=> ?_
  rw [Uv,e1];simp only [Z,e2,e3,e4,e5,show xk n n j k s t g u z x7 x8 x9 d f 0=_ from e6,fT,show xl n n j k s t g u z x7 x8 x9 d f 0=_ from e7,show xm n n j k s t g u z x7 x8 x9 d f 0=_ from e8];clear e1 e2 e3 e4 e5 e6 e7 e8 k8 q1 q2 q3 h5 ak h6 al h9 ao aq aj hp;simp only [eQ,dH,cC,lZ,gQ,kJ,wI,Z];refine ig ?_
  unfold nG;grind
 .refine k8.nm fun n ⟨⟨e1,e2⟩,e3,e4,e5⟩=> ?_
  have hf: ¬nG j k s t g u z x7 x8 x9 d f:=by unfold nG;grind
  rw [Uv,e1,aw hf];simp only [Z,e2,eQ,aA hg,Y,ϭ]
theorem aBU (s:af) (t:af) (u:ae) (z:ae) (g:Int) (j:ck) (k:bp) (x7:Int) (x8:O) (x9:ag) (f:ag) (d:ae) (h:zi s t u z g j k x7 x8 x9 f d):W fun n=>KU n s t u z g j k x7 x8 x9 f d=ã (bo (nG s t u z g j k x7 x8 x9 f d)):=by
 obtain⟨hp,⟨h5,ak⟩,⟨h6,al⟩,h9,ao,aq,ar⟩:=h;have k0:W fun n=> ∀r∈k,Lx n s t u z g j k x7 x8 x9 f d r.1 r.2.1 r.2.2.1 r.2.2.2.1 r.2.2.2.2.1 r.2.2.2.2.2.1 r.2.2.2.2.2.2.1 r.2.2.2.2.2.2.2.1 r.2.2.2.2.2.2.2.2.1 r.2.2.2.2.2.2.2.2.2=ã (bo (¬gX r g),s,t,u,z,g,j,k,x7,x8,x9,f,d):=W.all _ fun r hm=>(Yz r g (al r hm)).nm fun n e1=>by
  rw [auO,e1];simp only [Z,cC]
 have h':=lB h6 (p:=fun r=> ¬gX r g) (r:=fun i=>(i,s,t,u,z,g,j,k,x7,x8,x9,f,d)) (b:=(s,t,u,z,g,j,k,x7,x8,x9,f,d)) (L:=fun n m i=>DJ n m s t u z g j k x7 x8 x9 f d i k (à k:Int)) (k0.mono fun n h m i hi=>by
   rw [Wl,aU hi,bB hi];simp only [Y,Z,h _ (Á hi)]) (fun n m=>by rw [Wl,bM];rfl)
 have k1:W fun n=>Lw n s t u z g j k x7 x8 x9 f d k=ã (bo (∃r∈k,¬gX r g),s,t,u,z,g,j,k,x7,x8,x9,f,d):=W.succ (h'.nm fun n h=>by
   rw [auM,auN];refine tF (l:=k) (p:=fun r=> ¬gX r g) (c:=(s,t,u,z,g,j,k,x7,x8,x9,f,d)) ?_
   rcases h with⟨h,i,e⟩|⟨h,e⟩
   .exact .inl ⟨h,i,Ŧ⟩
   .exact .inr ⟨h,Ŧ⟩)
 have au:W fun n=> ∀c∈d,LA n c.1 c.2.1 c.2.2=ã (bo (¬iU c.1 c.2.1 c.2.2)):=W.all _ fun c hm=>(NP c.1 c.2.1 c.2.2).nm fun n e1=>by
  rw [auR,e1];simp only [Z,cC]
 have av:=lB aq (p:=fun c=> ¬iU c.1 c.2.1 c.2.2) (r:=fun i=>i) (b:=()) (L:=fun n m i=>DK n m i d (à d:Int)) (au.mono fun n h m i hi=>by
   rw [Wm,aU hi,bB hi];simp only [Y,Z,h _ (Á hi)]) (fun n m=>by rw [Wm,bM];rfl)
 have k2:W fun n=>Ly n d=ã (bo (∃c∈d,¬iU c.1 c.2.1 c.2.2)):=W.succ (av.nm fun n h=>by
   rw [auP,auQ];refine HO (l:=d) (p:=fun c=> ¬iU c.1 c.2.1 c.2.2) ?_
   rcases h with⟨h,i,e⟩|⟨h,e⟩
   .exact .inl ⟨h,i,Ŧ⟩
   .exact .inr ⟨h,Ŧ⟩)
 have q1:=kK h5 (q:=fun i=>At j (fun p=>p.1=(i:Int)/\oN s t u z p g) i) (r:=false) (b:=(s,t,u,z,g,j,k,x7,x8,x9,f,d)) (L:=fun n m i=>yj n m s t u z g j k x7 x8 x9 f d i j (à j:Int)) ((W.all j fun p hm=>aBP s t u z p g hp (ak p hm)).mono fun n h m i hi=>by
   rw [VJ,aU hi,bB hi];simp only [Y,Z,h _ (Á hi),eQ,cC,ij,mb hi];exact dL Ŵ) (fun n m=>by rw [VJ,bM];rfl)
 have k8:=(((zg s t u z hp).and (cZ g 1 5)).and ((aBS x7 x8).and ((YB x9 h9).and (YB f ao))));refine(k8.and (q1.and (k1.and k2))).nm fun n ⟨⟨⟨e1,e2⟩,e3,e4,e5⟩,e6,e7,e8⟩=> ?_
 rw [arY,e1];simp only [Z,e2,e3,show yj n n s t u z g j k x7 x8 x9 f d 0 j (à j)=_ from e6,fT,e4,e5,e7,e8];clear e1 e2 e3 e4 e5 e6 e7 e8 k8 q1 k0 au k1 k2 h' av h5 ak h6 al h9 ao aq ar hp;simp only [eQ,dH,cC,lZ,gQ,wI,Z];refine ig ?_
 unfold nG;grind
theorem YC {k:Nat} (hk:k<=9223372036854775807):W fun n=>CA n (k:Int)=ã (Ï k):=by
 refine W.succ ((W.ge (k+1)).mono fun n f=> ?_)
 rw [apB];by_cases b:k=0
 .subst b
  rw [hC ž,Ϥ ž]
  rfl
 .have h:=ahL (L:=fun m x acc=>CB n m x acc) (fun m k acc g d=>by
   rw [Vd,hC ž,Ð d];rfl) (fun m acc=>by rw [Vd];rfl) k n [] ž (by simp [mx];omega)
  rw [hJ ž]
  simp only [ez,h,Z,aq,Ô,dd,if_neg b]
theorem YD (n:Nat) (x:Int):mA (n+1) x=ã (Lib.itoa x):=Ž
def mK:O->O:=fun l=>(l.reverse.dropWhile (·==48)).reverse
theorem YE (l:O) (b:UInt8):mK (l++[b])=if b=48 then mK l else l++[b]:=by
 unfold mK;simp only [ϛ,ϡ,Ϧ,Τ,ϋ,Κ];by_cases h:b=48
 .simp [h]
 .simp [h]
theorem NY (l:O):(mK l).length<=à l:=by
 unfold mK;simp only [List.length_reverse];have:=(List.dropWhile_sublist (l:=l.reverse) (p:=(·==48))).length_le
 simpa using this
theorem YF (l:O) (b:UInt8) (h:à l+1<=1000000):bF (l++[b]) (Þ ß (((l++[b]).length:Int)-(1:Int)))=ã b:=by
 have e:Þ ß (((l++[b]).length:Int)-(1:Int))=(à l:Int):=by
  simp only [É,Ç,Ó];rw [Å];omega
 rw [e];unfold bF nth;rw [hC ž]
 simp
theorem YG (l:O) (b:UInt8) (h:à l+1<=1000000):Þ ß (((l++[b]).length:Int)-(1:Int))=(à l:Int):=by
 simp only [É,Ç,Ó];rw [Å];omega
theorem YH {l:O} (h:l≠ []): ∃l' b,l=l'++[b]:=⟨l.dropLast,l.getLast h,(Ν h).symm⟩
theorem YI (n:Nat): ∀(k:Nat) (l:O) (m:Nat),à l=k->k<m->k<=1000000->yv n m l 48=ã (.inl (mK l))
 |0,l,m,d,hm,_=>by
  obtain⟨m,rfl⟩: ∃m',m=m'+1:=⟨m-1,ž⟩
  obtain rfl:=Ε.1 d;rw [Ff];rfl
 |k+1,l,m,d,hm,hk=>by
  obtain⟨m,rfl⟩: ∃m',m=m'+1:=⟨m-1,ž⟩
  obtain⟨l',b,rfl⟩:=YH (l:=l) Ę
  simp only [É,Ç,Ó]at d;rw [Ff,hC Ŷ,YF l' b ž,YG l' b ž,YE]
  simp only [Y,Z];by_cases f:b=48
  .subst f
   rw [show ((((48:UInt8)).toNat:Int)==(((48:UInt8)).toNat:Int))=å from rfl,hC Ŷ]
   simp only [Y,if_true];have e:(l'++[(48:UInt8)]).take ((À (à l':Int))-0)=l':=Ż
   rw [e];exact YI n k l' m ž ž ž
  .have e:(((b).toNat:Int)==(((48:UInt8)).toNat:Int))=ä:=by
    rw [beq_eq_false_iff_ne];intro h;exact f (Ú.1 ž)
   rw [e,if_neg f];rfl
theorem YJ (n:Nat) (a:Int) (q:O): ∀(k:Nat) (l:O) (m:Nat),à l=k->k<m->k<=1000000->(∃b∈l,b≠48)->Cz n m l a q=ã (.inl (a,mK l,q))
 |0,l,m,d,hm,_,j=>by
  obtain rfl:=Ε.1 d;obtain⟨b,f, -⟩:=j;cases f
 |k+1,l,m,d,hm,hk,j=>by
  obtain⟨m,rfl⟩: ∃m',m=m'+1:=⟨m-1,ž⟩
  obtain⟨l',b,rfl⟩:=YH (l:=l) Ę
  simp only [É,Ç,Ó]at d;rw [aoZ,YF l' b ž,YG l' b ž,YE]
  simp only [Z];by_cases f:b=48
  .subst f
   rw [show ((((48:UInt8)).toNat:Int)==(48:Int))=å from rfl,hC Ŷ]
   simp only [Y,if_true];have e:(l'++[(48:UInt8)]).take ((À (à l':Int))-0)=l':=Ż
   rw [e];refine YJ n a q k l' m ž ž ž ?_
   obtain⟨c,g,i⟩:=j;rcases Ö.1 g with g|g
   .exact⟨c,g,i⟩
   .exact absurd ŋ i
  .have e:(((b).toNat:Int)==(48:Int))=ä:=by
    rw [beq_eq_false_iff_ne];intro h;exact f (Ú.1 (show b.toNat=48 by omega))
   rw [e,if_neg f];rfl
theorem uO {k:Nat} (h: ¬k<10):Ï k=Ï (k/10)++[Ä (48+k%10)]:=by
 rw [Ï,dif_neg h]
theorem seven {k:Nat} (h:1000000<=k) (p:k<2000000): ∃l,Ï k=49::l/\à l=6/\(k≠1000000-> ∃b∈l,b≠48):=by
 refine⟨[Ä (48+k/10/10/10/10/10%10),Ä (48+k/10/10/10/10%10),Ä (48+k/10/10/10%10),Ä (48+k/10/10%10),Ä (48+k/10%10),Ä (48+k%10)], ?_,rfl,fun g=> ?_⟩
 .rw [uO (k:=k) ž,uO (k:=k/10) ž,uO (k:=k/10/10) ž,uO (k:=k/10/10/10) ž,uO (k:=k/10/10/10/10) ž,uO (k:=k/10/10/10/10/10) ž]
  have e:k/10/10/10/10/10/10=1:=ž
  rw [e,Ϥ ž]
  rfl
 .apply ο
  intro i;have d: ∀x,x<10->Ä (48+x)=48->x=0:=fun x q he=>by
   have:=congrArg UInt8.toNat he;simp only [UInt8.toNat_ofNat',UInt8.reduceToNat]at this;omega
  have f: ∀b∈[Ä (48+k/10/10/10/10/10%10),Ä (48+k/10/10/10/10%10),Ä (48+k/10/10/10%10),Ä (48+k/10/10%10),Ä (48+k/10%10),Ä (48+k%10)],b=48:=fun b j=>ο fun h=>i ⟨b,j,h⟩
  simp only [Γ,Ϩ,or_false,forall_eq_or_imp,forall_eq]at f;obtain⟨z5,z4,z3,z2,m,z0⟩:=f;have r:=d _ ž z5
  have s:=d _ ž z4
  have t:=d _ ž z3
  have u:=d _ ž z2
  have z:=d _ ž m
  have y0:=d _ ž z0
  omega
def mL (k:Nat):O:=if k%1000000=0 then Ï (k/1000000)else(Ï (k/1000000)++[46])++mK ((Ï (1000000+k%1000000)).drop 1)
def mM (a:Int):O:=if a< -9000000000000\/9000000000000<a then []else if a<0 then 45::mL a.natAbs else mL a.natAbs
theorem aBV (x lo hi:Int):W fun n=>bS n x lo hi=ã (á (lo<=x)&&á (x<=hi)):=by
 refine W.succ (W.of fun n=> ?_)
 rw [uC];cases á (lo<=x)<;>rfl
theorem aBW (x lo hi:Int):W fun n=>cu n x lo hi=ã (á (lo<=x)&&á (x<=hi)):=by
 refine W.succ (W.of fun n=> ?_)
 rw [oL];cases á (lo<=x)<;>rfl
theorem YK (x:Int):W fun n=>jz n x=ã (á (-9000000000000<=x)&&á (x<=9000000000000)):=
 W.succ ((aBV x _ _).mono fun n h=>by rw [UF,h];rfl)
theorem YL (x:Int):W fun n=>jb n x=ã (á (-9000000000000<=x)&&á (x<=9000000000000)):=
 W.succ ((aBW x _ _).mono fun n h=>by rw [Ni,h];rfl)
theorem NZ {x:Int} (b: -9000000000000<=x):W fun n=>xL n x=ã (x.natAbs:Int):=by
 refine W.succ (W.of fun n=> ?_)
 rw [apA];by_cases h:x<0
 .rw [hC h]
  have hw:Þ ß ((0:Int)-x)=(x.natAbs:Int):=ż
  rw [hw];rfl
 .rw [hJ h]
  have hw:x=(x.natAbs:Int):=ž
  simp only [ez];rw [<-hw]
theorem Fs {k:Nat} (h:k<=9223372036854775807):(Ï k).length<=21:=by
 have:=Lib.itoa_length_le (k:Int) ž ž
 rwa [HG]at this
theorem Ft {k:Nat} (h:k<=9223372036854775807):Þ ß ((k:Nat):Int)=(k:Int):=ż
theorem aBX {l:O} (b:à l=6):W fun n=>ur n l ([48]:O)=ã (mK l):=by
 have d:W fun n=>yu n l 48=ã (mK l):=by
  refine W.succ ((W.ge 8).mono fun n f=> ?_)
  rw [Wf];have:=YI n 6 l n b ž ž
  have e:Ä (À (((48:UInt8)).toNat:Int))=48:=rfl;rw [e,this];rfl
 refine W.succ (d.mono fun n h=> ?_)
 rw [avG];have e:(l==([]:O))=ä:=by
  cases l with
  |nil=>cases b
  |cons _ _=>rfl
 have g1:(([48]:O)==([]:O))=ä:=rfl;have g2:((([48]:O).length:Int)==(1:Int))=å:=rfl;have g3:bF ([48]:O) (0:Int)=ã 48:=rfl;have g4:(á (((48:UInt8).toNat:Int)<(128:Int)))=å:=ŷ
 have g5:Ä (À (((48:UInt8)).toNat:Int))=48:=rfl;rw [e,g1];simp only [ez,Z];rw [g2];simp only [Y];rw [g3];simp only [Z];rw [g4];simp only [Y];rw [g5,h];rfl
theorem qy {n:Nat} (h:n<=1000):Λ n mx=å:=Ð (by unfold mx;omega)
theorem aBY {l:O}:((49::l:O).drop 1).take ((49::l:O).length-1)=l:=Ż
theorem aBZ (a:Int):W fun n=>JZ n a=ã (mM a):=by
 by_cases d: -9000000000000<=a/\a<=9000000000000
 .have hk:a.natAbs<=9000000000000:=by omega
  refine W.succ (((((YK a).and (NZ d.1)).and ((YC (k:=a.natAbs/1000000) ž).and (YC (k:=1000000+a.natAbs%1000000) ž))).and (W.ge 8)).mono fun n ⟨⟨⟨f,h⟩,i,j⟩,q⟩=> ?_)
  rw [Vc,f,hC d.1,hC d.2];simp only [Z,Ϸ,È,ez,h];have d1:Ë (a.natAbs:Int) (1000000:Int)=((a.natAbs/1000000:Nat):Int):=rfl;have d2:Ρ (a.natAbs:Int) (1000000:Int)=((a.natAbs%1000000:Nat):Int):=rfl;have d3:((1000000:Int)+((a.natAbs%1000000:Nat):Int))=((1000000+a.natAbs%1000000:Nat):Int):=ž
  rw [d1,d2,Ft ž,d3,Ft ž,i]
  simp only [Z,j];have r:=Fs (k:=a.natAbs/1000000) ž
  have m:mM a=if a<0 then 45::mL a.natAbs else mL a.natAbs:=by unfold mM;rw [if_neg ž]
  rw [m];unfold mL;by_cases g:a.natAbs%1000000=0
  .rw [hJ ž,if_pos g]
   simp only [ez];by_cases b:a<0
   .rw [hC b,if_pos b,qy ž];rfl
   .rw [hJ b,if_neg b];rfl
  .rw [hC ž,if_neg g]
   obtain⟨l,s1,s2,p⟩:=seven (k:=1000000+a.natAbs%1000000) ž ž
   rw [s1];simp only [Y];rw [hC Ÿ,aBY,YJ n a _ 6 l n s2 ž ž (p ž)]
   simp only [Y,Z,aq];have s:=NY l;rw [qy ž,qy Ŷ]
   simp only [Y,Ϝ,Ü];by_cases b:a<0
   .rw [hC b,if_pos b,qy Ŷ];rfl
   .rw [hJ b,if_neg b];rfl
 .refine W.succ ((YK a).mono fun n f=> ?_)
  rw [Vc,f];have e:(á (-9000000000000<=a)&&á (a<=9000000000000))=ä:=by
   simp only [ό,decide_eq_false_iff_not];omega
  rw [e,mM,if_pos ž]
  rfl
theorem YM (n:Nat) (k:Nat) (hk:k<=9000000000000) (pre:O) (hp:à pre<=1)
  (i:mA n ((k/1000000:Nat):Int)=ã (Ï (k/1000000))) (j:mA n ((1000000+k%1000000:Nat):Int)=ã (Ï (1000000+k%1000000)))
  (d:ur n ((Ï (1000000+k%1000000)).drop 1) [48]=ã (mK ((Ï (1000000+k%1000000)).drop 1))):
  ((mA n ((Þ ß (Ë (k:Int) (1000000:Int))):Int)).bind fun(b:O)=>cond (Λ (à pre+à b) mx) (cond (á ((0:Int)<(Ρ (k:Int) (1000000:Int)))) ((mA n ((Þ ß ((1000000:Int)+(Ρ (k:Int) (1000000:Int)))):Int)).bind fun(f:O)=>cond (á ((0:Int)<=(1:Int)/\(1:Int)<=(à f:Int))) ((ur n (((f.drop 1).take (à f-1)):O) ([48]:O)).bind fun(g:O)=>cond (Λ (1+à g) mx) (cond (Λ ((pre++b).length+(([46]:O)++g).length) mx) (ã (((pre++b)++(([46]:O)++g)):O)) (â)) (â)) (â)) (ã ((pre++b):O))) (â))=ã (pre++mL k):=by
 have d1:Ë (k:Int) (1000000:Int)=((k/1000000:Nat):Int):=rfl;have d2:Ρ (k:Int) (1000000:Int)=((k%1000000:Nat):Int):=rfl;have d3:((1000000:Int)+((k%1000000:Nat):Int))=((1000000+k%1000000:Nat):Int):=ž
 have p:=Fs (k:=k/1000000) ž
 rw [d1,d2,Ft ž,d3,Ft ž,i]
 simp only [Z,j];rw [qy ž]
 unfold mL;by_cases h:k%1000000=0
 .rw [hJ ž,if_pos h];rfl
 .rw [hC ž,if_neg h]
  obtain⟨l,s1,s2,q⟩:=seven (k:=1000000+k%1000000) ž ž
  rw [s1]at d |-;simp only [Ϝ,Ü]at d |-;simp only [Y];have m:l.take ((49::l:O).length-1)=l:=Ż
  rw [hC Ÿ,m,d]
  simp only [Y,Z];have r:=NY l;rw [qy ž,qy Ŷ]
  simp only [Y,Ù]
theorem aCa (a:Int):W fun n=>LD n a=ã (mM a):=by
 by_cases b: -9000000000000<=a/\a<=9000000000000
 .have hk:a.natAbs<=9000000000000:=by omega
  obtain⟨l,s1,s2,q⟩:=seven (k:=1000000+a.natAbs%1000000) ž ž
  have j:=aBX (l:=(Ï (1000000+a.natAbs%1000000)).drop 1) (by rw [s1];exact s2)
  refine W.succ ((((YL a).and j).and (W.ge 8)).mono fun n ⟨⟨f,g⟩,r⟩=> ?_)
  obtain⟨n,rfl⟩: ∃m,n=m+1:=⟨n-1,ž⟩
  have h:mA (n+1) ((a.natAbs/1000000:Nat):Int)=ã (Ï (a.natAbs/1000000)):=by rw [YD,HG]
  have i:mA (n+1) ((1000000+a.natAbs%1000000:Nat):Int)=ã (Ï (1000000+a.natAbs%1000000)):=by rw [YD,HG]
  rw [Wo,f,hC b.1,hC b.2];simp only [Z,Ϸ,È,ez];have p:mM a=if a<0 then 45::mL a.natAbs else mL a.natAbs:=by unfold mM;rw [if_neg ž]
  rw [p];by_cases d:a<0
  .rw [hC d,if_pos d]
   have hw:Þ ß (0-a)=(a.natAbs:Int):=ż
   rw [hw];exact YM (n+1) a.natAbs hk [45] Ż h i g
  .rw [hJ d,if_neg d]
   obtain⟨k,rfl⟩: ∃k:Nat,a=k:=⟨a.natAbs,ž⟩
   simp only [Int.natAbs_natCast]at h i g hk |-;exact YM (n+1) k hk [] Ż h i g
 .refine W.succ ((YL a).mono fun n f=> ?_)
  rw [Wo,f];have e:(á (-9000000000000<=a)&&á (a<=9000000000000))=ä:=by
   simp only [ό,decide_eq_false_iff_not];omega
  rw [e,mM,if_pos ž]
  rfl
def uP (b d:Int) (f:O):O:=if b=1 then mM d else f
theorem aCb (b d:Int) (g:O):W fun n=>gE n b d g=ã (uP b d g):=by
 refine W.succ ((aBZ d).mono fun n h=> ?_)
 rw [aoY,h,uP];by_cases f:b=1
 .subst f;rfl
 .have e:(b==(1:Int))=ä:=by simpa using f
  rw [e,if_neg f];rfl
theorem aCc (b d:Int) (g:O):W fun n=>iC n b d g=ã (uP b d g):=by
 refine W.succ ((aCa d).mono fun n h=> ?_)
 rw [avF,h,uP];by_cases f:b=1
 .subst f;rfl
 .have e:(b==(1:Int))=ä:=by simpa using f
  rw [e,if_neg f];rfl
theorem wu (x:Int):Þ .u64 x=x%18446744073709551616:=by rw [IntKind.wrap_u64]
theorem Fu (x:Nat) (h:x<18446744073709551616):(ι 64 (x:Int)).toNat=x:=by
 rw [BitVec.toNat_ofInt];omega
theorem uQ (m k:Nat):((m/k:Nat):Int)=Ë (m:Int) (k:Int):=Int.ofNat_tdiv m k
theorem aCd (a b n:Int):(a-b%n)%n=(a-b)%n:=Ż
theorem aCe (x:Nat) (h:x<18446744073709551616):cS .and .u64 (x:Int) (4294967295:Int)=((x%4294967296:Nat):Int):=by
 show Þ .u64 (((ι 64 (x:Int) &&&ι 64 ((4294967295:Nat):Int)).toNat:Nat):Int)=_;rw [BitVec.toNat_and,Fu x h,Fu _ ž,show(4294967295:Nat)=2^32-1 from rfl,Nat.and_two_pow_sub_one_eq_mod,wu]
 omega
theorem aCf (a b:Nat) (d:a<1048576) (f:b<17592186044416):cS .or .u64 ((a*17592186044416:Nat):Int) (b:Int)=((a*17592186044416+b:Nat):Int):=by
 show Þ .u64 (((ι 64 ((a*17592186044416:Nat):Int) |||ι 64 (b:Int)).toNat:Nat):Int)=_
 rw [BitVec.toNat_or,Fu _ ž,Fu b ž]
 have e:a*17592186044416=a <<<44:=by rw [Nat.shiftLeft_eq]
 rw [e,<-Nat.shiftLeft_add_eq_or_of_lt ž a,<-e,wu]
 omega
theorem aCg (n m:Nat) (a b c d e f g q:Int) (i:0<=q/\q<4294967296):yE n (m+1) a b c d 0 e f g q=ã (.inl (a,b,c,q,d,0,e,f)):=by
 have h: ¬Þ .u64 (Þ .u64 (4294967296*g)+e)<Þ .u64 (q*0):=by rw [Int.mul_zero,wu,wu,wu];omega
 rw [awT,hJ (show ¬(4294967296:Int)<=q by omega),hJ h]
 rfl
theorem aCh (n m:Nat) (a b c d e f g q:Int) (i:0<=q/\q<4294967296):yF n (m+1) a b c d e f g q 0=ã (.inl (a,b,q,c,d,e)):=by
 have h: ¬Þ .u64 (Þ .u64 (4294967296*g)+c)<Þ .u64 (q*0):=by rw [Int.mul_zero,wu,wu,wu];omega
 rw [awU,hJ (show ¬(4294967296:Int)<=q by omega),hJ h]
 rfl
theorem aCi (n:Nat):Mb (n+2) 1000000=ã 44:=by rw [awV];kernel_rfl
theorem aCj (N V Q R Q2 d u x:Nat) (g:N*4096=u*4294967296+V) (i:4096000000*Q+R=u) (j:x=R*4294967296+V) (b:4096000000*Q2+d=x) (k:d<4096000000):Q*4294967296+Q2=N/1000000:=by
 obtain⟨T,f⟩: ∃T,T=Q*4294967296+Q2:=⟨_,rfl⟩
 have h:N*4096=T*4096000000+d:=by
  rw [g,<-i,f,ϗ,ϸ,<-j,<-b,ϗ,κ 4096000000 Q,κ 4096000000 Q2,Ϟ,Ϟ,κ 4096000000 4294967296,ϸ]
 rw [<-f];clear f g i j b;omega
theorem aCk (h l u v x:Nat) (hu:u=h*17592186044416+l/1048576) (i:v=l%1048576*17592186044416) (f:x=u%4096000000*4294967296+v/4294967296) (j:h<1000000) (k:l<18446744073709551616):
  Þ .u64 (Þ .u64 (((u/4096000000:Nat):Int)*4294967296)+((x/4096000000:Nat):Int))=(((h*18446744073709551616+l)/1000000:Nat):Int):=by
 have d:u/4096000000<4294967296:=ž
 have b:x/4096000000<4294967296:=ž
 have g:(h*18446744073709551616+l)*4096=u*4294967296+v/4294967296:=ž
 rw [<-aCj _ _ _ _ _ _ u x g (Υ u 4096000000) f (Υ x 4096000000) (Ϯ x ž)]
 generalize u/4096000000=Q at d |-
 generalize x/4096000000=Q2 at b |-
 rw [wu,wu];omega
theorem oK:Þ .u64 (44:Int)=44:=ų
theorem YN:Þ .u64 ((64:Int)-44)=20:=ų
theorem m44:(2:Int)^(min (À (44:Int)) (ϥ .u64))=17592186044416:=ų
theorem m20:(2:Int)^(min (À (20:Int)) (ϥ .u64))=1048576:=ų
theorem m32:(2:Int)^(min (À (32:Int)) (ϥ .u64))=4294967296:=ų
theorem wy:Þ .u64 ((1000000:Int)*17592186044416)=17592186044416000000:=ų
theorem wy1:ϯ (17592186044416000000:Int) 4294967296=4096000000:=ų
theorem wy0:cS .and .u64 (17592186044416000000:Int) 4294967295=0:=ų
theorem YO:((4096000000:Int) !=0)=å:=ŷ
theorem YP (m k:Nat) (hk:0<k):ϯ (m:Int) (k:Int)=((m/k:Nat):Int):=by rw [Int.fdiv_eq_ediv_of_nonneg _ ž];exact(Int.natCast_ediv m k).symm
theorem aCo (h l:Nat) (b:h<1000000) (d:l<18446744073709551616):W fun n=> ∃r,Ma n (h:Int) (l:Int) 1000000=ã ((((h*18446744073709551616+l)/1000000:Nat):Int),r):=by
 refine W.succ ((W.ge 2).mono fun n z=> ?_)
 obtain⟨n,rfl⟩: ∃m,n=m+2:=⟨n-2,ž⟩
 rw [awS];by_cases f:h=0
 .subst f
  refine⟨Ρ (l:Int) 1000000, ?_⟩
  have e:Þ .u64 (Ë (l:Int) 1000000)=((l/1000000:Nat):Int):=by
   rw [show (Ë (l:Int) (1000000:Int))=((l/1000000:Nat):Int)from(uQ l 1000000).symm,wu];omega
  rw [e,Nat.zero_mul,Nat.zero_add,show((1000000:Int)==(0:Int))=ä from ŷ,hJ ž,show(((0:Nat):Int)==(0:Int))=å from ŷ,show((1000000:Int) !=(0:Int))=å from ŷ]
  rw [ez,ez,Y,Y,Y]
 .have g:((h:Int)==(0:Int))=ä:=by simp;omega
  rw [show ((1000000:Int)==(0:Int))=ä from ŷ,hJ ž,g,aCi,ez,ez,ez,Z]
  rw [hC (show (0:Int)<=Þ .u64 44 by rw [oK];omega),hC (show (0:Int)<=Þ .u64 (64-Þ .u64 44) by rw [oK,YN];omega),Y,Y,Y,Y]
  rw [oK,YN,m44,m20,m32,wy,wy1,wy0,YO,Y];obtain⟨u,hu⟩: ∃u:Nat,u=h*17592186044416+l/1048576:=⟨_,rfl⟩
  obtain⟨v,i⟩: ∃v:Nat,v=l%1048576*17592186044416:=⟨_,rfl⟩
  have j:Þ .u64 ((l:Int)*17592186044416)=(v:Int):=by rw [wu];omega
  have k:Þ .u64 ((h:Int)*17592186044416)=((h*17592186044416:Nat):Int):=by rw [wu];omega
  have p:ϯ (l:Int) 1048576=((l/1048576:Nat):Int):=YP l 1048576 ž
  have q:ϯ (v:Int) 4294967296=((v/4294967296:Nat):Int):=YP v 4294967296 ž
  rw [j,k,p,q,aCe v ž,aCf h _ ž ž,<-hu]
  have q1:Þ .u64 (Ë (u:Int) 4096000000)=((u/4096000000:Nat):Int):=by
   rw [show (Ë (u:Int) (4096000000:Int))=((u/4096000000:Nat):Int)from(uQ u 4096000000).symm,wu];omega
  rw [q1,aCg _ _ _ _ _ _ _ _ _ _ ž,Z,cO,YO,Y]
  obtain⟨x,s⟩: ∃x:Nat,x=u%4096000000*4294967296+v/4294967296:=⟨_,rfl⟩
  have t:Þ .u64 (Þ .u64 (Þ .u64 ((u:Int)*4294967296)+((v/4294967296:Nat):Int))-Þ .u64 (((u/4096000000:Nat):Int)*17592186044416000000))=(x:Int):=by
   rw [wu,wu,wu,wu,Int.emod_add_emod,Int.emod_sub_emod,aCd,show((u:Int)*4294967296+((v/4294967296:Nat):Int)-((u/4096000000:Nat):Int)*17592186044416000000)=(x:Int) by omega]
   exact Int.emod_eq_of_lt ž ž
  rw [t];have q2:Þ .u64 (Ë (x:Int) 4096000000)=((x/4096000000:Nat):Int):=by
   rw [show (Ë (x:Int) (4096000000:Int))=((x/4096000000:Nat):Int)from(uQ x 4096000000).symm,wu];omega
  rw [q2,aCh _ _ _ _ _ _ _ _ _ _ ž,Z,cO,hC ž,Y,aCk h l u v x hu i s b d]
  exact⟨_,rfl⟩
theorem zj (x:Int):W fun n=>oC n x=ã (nk x):=by
 refine(jD x).nm fun n e=> ?_
 rw [apF,e];by_cases h:aW x
 .rw [aA h,wN h];rfl
 .rw [aw h,wO h];rfl
theorem aCp (a b:Int):W fun n=>Ka n a b=ã (gx a b):=by
 refine(((jD a).and (jD b)).and (zj (a+b))).nm fun n ⟨⟨h,g⟩,i⟩=> ?_
 rw [apE,h];by_cases d:aW a
 .by_cases f:aW b
  .have hw:Þ ß (a+b)=a+b:=by have:=dZ d;have:=dZ f;rw [Å];omega
   simp only [Z,g,aA d,aA f,hw,i,È,ez,gx,aA (ε d f),Y]
  .simp only [Z,g,aA d,aw f,gx,aw (fun k:aW a/\aW b=>f k.2),È,Ê,ez,Y]
 .simp only [Z,aw d,gx,aw (fun k:aW a/\aW b=>d k.1),Ê,ez,Y]
theorem aCq (a b:Int):W fun n=>Kb n a b=ã (jR a b):=by
 refine(((jD a).and (jD b)).and (zj (a-b))).nm fun n ⟨⟨h,g⟩,i⟩=> ?_
 rw [apH,h];by_cases d:aW a
 .by_cases f:aW b
  .have hw:Þ ß (a-b)=a-b:=by have:=dZ d;have:=dZ f;rw [Å];omega
   simp only [Z,g,aA d,aA f,hw,i,È,ez,jR,aA (ε d f),Y]
  .simp only [Z,g,aA d,aw f,jR,aw (fun k:aW a/\aW b=>f k.2),È,Ê,ez,Y]
 .simp only [Z,aw d,jR,aw (fun k:aW a/\aW b=>d k.1),Ê,ez,Y]
theorem YQ (a b:Int):W fun n=>Kd n a b=ã (iV a b):=by
 refine(((jD a).and (jD b)).and (zj (Ë (a*1000000) b))).nm fun n ⟨⟨i,h⟩,j⟩=> ?_
 rw [apI,i];by_cases d:aW a
 .by_cases f:aW b
  .by_cases g:b=0
   .have z0:(b==(0:Int))=å:=by simpa using g
    simp only [Z,h,aA d,aA f,iV,aw (fun k:aW a/\aW b/\b≠0=>k.2.2 g),È,ez,Y,z0]
   .have hw:Þ ß (a*1000000)=a*1000000:=by have:=dZ d;rw [Å];omega
    have m:Þ ß (Ë (a*1000000) b)=Ë (a*1000000) b:=by
     have q:=dZ d;have r:=π (a*1000000) b;rw [Å];omega
    have p:(b==(0:Int))=ä:=ŋ
    have z2:(b !=(0:Int))=å:=ŋ
    simp only [Z,h,aA d,aA f,hw,m,j,p,z2,È,ez,iV,aA (ε d (ε f g)),Y]
  .simp only [Z,h,aA d,aw f,iV,aw (fun k:aW a/\aW b/\b≠0=>f k.2.1),È,Ê,ez,Y]
 .simp only [Z,aw d,iV,aw (fun k:aW a/\aW b/\b≠0=>d k.1),Ê,ez,Y]
theorem Oa (x:Int):W fun n=>sj n x=ã (nk x):=by
 refine(jE x).nm fun n e=> ?_
 rw [Wd,e];by_cases h:aW x
 .rw [aA h,wN h];rfl
 .rw [aw h,wO h];rfl
theorem YR (a b:Int):W fun n=>DR n a b=ã (gx a b):=by
 refine(((jE a).and (jE b)).and (Oa (a+b))).nm fun n ⟨⟨h,g⟩,i⟩=> ?_
 rw [avE,h];by_cases d:aW a
 .by_cases f:aW b
  .have hw:Þ ß (a+b)=a+b:=by have:=dZ d;have:=dZ f;rw [Å];omega
   simp only [Z,g,aA d,aA f,hw,i,È,ez,gx,aA (ε d f),Y]
  .simp only [Z,g,aA d,aw f,gx,aw (fun k:aW a/\aW b=>f k.2),È,Ê,ez,Y]
 .simp only [Z,aw d,gx,aw (fun k:aW a/\aW b=>d k.1),Ê,ez,Y]
theorem aCr (a b:Int):W fun n=>LX n a b=ã (jR a b):=by
 refine(((jE a).and (jE b)).and (Oa (a-b))).nm fun n ⟨⟨h,g⟩,i⟩=> ?_
 rw [awQ,h];by_cases d:aW a
 .by_cases f:aW b
  .have hw:Þ ß (a-b)=a-b:=by have:=dZ d;have:=dZ f;rw [Å];omega
   simp only [Z,g,aA d,aA f,hw,i,È,ez,jR,aA (ε d f),Y]
  .simp only [Z,g,aA d,aw f,jR,aw (fun k:aW a/\aW b=>f k.2),È,Ê,ez,Y]
 .simp only [Z,aw d,jR,aw (fun k:aW a/\aW b=>d k.1),Ê,ez,Y]
theorem aCs (a b:Int):W fun n=>Mc n a b=ã (iV a b):=by
 refine(((jE a).and (jE b)).and (Oa (Ë (a*1000000) b))).nm fun n ⟨⟨i,h⟩,j⟩=> ?_
 rw [awW,i];by_cases d:aW a
 .by_cases f:aW b
  .by_cases g:b=0
   .have z0:(b==(0:Int))=å:=by simpa using g
    simp only [Z,h,aA d,aA f,iV,aw (fun k:aW a/\aW b/\b≠0=>k.2.2 g),È,ez,Y,z0]
   .have hw:Þ ß (a*1000000)=a*1000000:=by have:=dZ d;rw [Å];omega
    have m:Þ ß (Ë (a*1000000) b)=Ë (a*1000000) b:=by
     have q:=dZ d;have r:=π (a*1000000) b;rw [Å];omega
    have p:(b==(0:Int))=ä:=ŋ
    have z2:(b !=(0:Int))=å:=ŋ
    simp only [Z,h,aA d,aA f,hw,m,j,p,z2,È,ez,iV,aA (ε d (ε f g)),Y]
  .simp only [Z,h,aA d,aw f,iV,aw (fun k:aW a/\aW b/\b≠0=>f k.2.1),È,Ê,ez,Y]
 .simp only [Z,aw d,iV,aw (fun k:aW a/\aW b/\b≠0=>d k.1),Ê,ez,Y]
theorem aCt {a:Int} (h:aW a):W fun n=>Kt n a=ã (jS a):=by
 refine(W.ge 0).nm fun n _=> ?_
 have d:=dZ h;have f:=Ψ a 1000000;have g:=AP a;have b:Þ ß (Ë a 1000000)=Ë a 1000000:=ż
 have hw:Þ ß (Ë a 1000000*1000000)=jS a:=by rw [Å];unfold jS;omega
 rw [aqJ,b,hw]
theorem YS {a:Int} (h:aW a):W fun n=>DU n a=ã (jS a):=by
 refine(W.ge 0).nm fun n _=> ?_
 have b:=dZ h;have d:=AP a;have hw:Þ ß (a-Ρ a 1000000)=jS a:=by rw [Å];unfold jS;omega
 rw [avR,hw]
def aI (v:V):O:=uP v.1 v.2.1 v.2.2
theorem aCu (a:Int):(mM a).length<=60:=by
 have key: ∀k:Nat,k<=9000000000000->(mL k).length<=59:=by
  intro k hk;have d:=Fs (k:=k/1000000) ž
  have f:=Fs (k:=1000000+k%1000000) ž
  have b:=NY ((Ï (1000000+k%1000000)).drop 1);unfold mL;split
  .omega
  .simp only [É,Ç,Ó,ϩ]at b |-
   omega
 unfold mM;split
 .simp
 split
 .have:=key a.natAbs ž;simp only [Ç];omega
 .have:=key a.natAbs ž;omega
theorem lO {v:V} (h:bO v):(aI v).length<=300:=by
 unfold aI uP;split
 .have:=aCu v.2.1;omega
 .exact h.2.1
def dp (v:V):O:=(aI v).take 300
theorem Ob: ∀a b:O,Ñ a b=0↔a=b
 | [],[]=>ŗ
 | [],_::_=>ŗ
 |_::_,[]=>ŗ
 |a::x,b::y=>by
  rw [Ñ];by_cases h:a<b
  .simp [h];rintro rfl;exact absurd h (ϫ _)
  .rw [if_neg h]
   by_cases k:b<a
   .simp [k];rintro rfl;exact absurd k (ϫ _)
   .rw [if_neg k,Ob x y]
    have:a=b:=ϣ (ψ.1 k) (ψ.1 h);simp [this]
noncomputable def gj (a b:V):Int:=if a.1=2\/b.1=2 then Ñ (aI a) (aI b)else if aK a<aK b then -1 else if aK b<aK a then 1 else 0
theorem Oc (b:Bool):W fun n=>uf n b=ã (cond b 1 0):=W.succ (W.of fun n=>by rw [aqI];cases b<;>rfl)
theorem kT (x:Int):W fun n=>gF n x=ã (nV x):=W.succ (W.of fun n=>apG n x)
theorem nH (x:Int):W fun n=>jB n x=ã (nV x):=W.succ (W.of fun n=>Wn n x)
theorem sG (s:O):W fun n=>oJ n s=ã (tV s):=W.succ (W.of fun n=>avP n s)
theorem Fv (b:Bool):W fun n=>ud n b=ã (bV b):=by
 refine((Oc b).and (kT (cond b 1000000 0))).nm fun n ⟨d,f⟩=> ?_
 rw [aqH,d];have hw:Þ ß ((1000000:Int)*cond b 1 0)=cond b 1000000 0:=by cases b<;>decide
 simp only [Z,hw,f];rfl
theorem zk (b:Bool):W fun n=>ss n b=ã (bV b):=by
 refine((nH 1000000).and (nH 0)).nm fun n ⟨d,f⟩=> ?_
 rw [awN,d,f];cases b<;>rfl
theorem kd {v:V} (h:à v.2.2<=300):W fun n=>iB n v.1 v.2.1 v.2.2=ã (aK v):=by
 refine(XZ v.2.2 h).nm fun n e=> ?_
 rw [apD,e];unfold aK;cases v.1==1<;>cases v.1==3<;>cases v.1==2<;>rfl
theorem jF (v:V):W fun n=>gE n v.1 v.2.1 v.2.2=ã (aI v):=aCb v.1 v.2.1 v.2.2
theorem Od (v:V):W fun n=>xK n v.1 v.2.1 v.2.2=ã (iv v):=W.succ (W.of fun n=>by
 rw [aoW];unfold iv;cases v.1==1<;>cases v.1==3<;>cases v.1==2<;>rfl)
theorem oO {v:V} (h:à v.2.2<=300):W fun n=>mz n v.1 v.2.1 v.2.2=ã (aK v):=by
 refine(XX v.2.2 h).nm fun n e=> ?_
 rw [avD,e];unfold aK;cases v.1==1<;>cases v.1==3<;>cases v.1==2<;>rfl
theorem nI (v:V):W fun n=>iC n v.1 v.2.1 v.2.2=ã (aI v):=aCc v.1 v.2.1 v.2.2
theorem Oe (v:V):W fun n=>yx n v.1 v.2.1 v.2.2=ã (iv v):=W.succ (W.of fun n=>by
 rw [avA];unfold iv;cases v.1==1<;>cases v.1==3<;>cases v.1==2<;>rfl)
theorem aCv (s:O):s.take (300-0)=s.take 300:=rfl
theorem Og (s:O):W fun n=>xP n s=ã (ow s):=by
 refine(Yc (s.take 300) ź).nm fun n e=> ?_
 rw [apM,ow];by_cases h:300<à s
 .rw [hC ž,hC ž,aCv,e]
  simp only [Y,Z];cases (fK (s.take 300)).2<;>rfl
 .have b:s.take 300=s:=Û ž
  rw [b]at e |-;rw [hJ ž,e]
  simp only [ez,Z];cases (fK s).2<;>rfl
theorem aCw (s:O):(cond (á ((300:Int)<(à s:Int))) (300:Int) (à s:Int))=((min 300 (à s):Nat):Int):=by
 by_cases h:300<à s
 .rw [hC ž];simp only [Y];omega
 .rw [hJ ž];simp only [ez];omega
theorem YT (s:O):W fun n=>qm n s=ã (s.take 300):=W.succ (W.of fun n=>by
 rw [avH,aCw,hC ž]
 simp only [Y,Æ,η];congr 1
 rw [List.take_eq_take_iff];omega)
theorem Oh (s:O):W fun n=>yB n s=ã (ow s):=by
 refine(((YT s).and (Yb (s.take 300) ź)).and (sG (s.take 300))).nm fun n ⟨⟨b,d⟩,f⟩=> ?_
 rw [avS,b];simp only [Z,d,f,ow];cases (fK (s.take 300)).2<;>rfl
theorem Fw (v:V):W fun n=>tY n v.1 v.2.1 v.2.2=ã (dp v):=by
 refine(jF v).nm fun n e=> ?_
 rw [apJ,e];simp only [Z,dp];by_cases h:300<(aI v).length
 .rw [hC ž,hC ž];rfl
 .rw [hJ ž,Û ž];rfl
theorem aCx {a b:V} (p:bO a) (q:bO b):W fun n=>Kx n a.1 a.2.1 a.2.2 b.1 b.2.1 b.2.2=ã (gj a b):=by
 refine(((((jF a).and (jF b)).and (kd p.2.1)).and (kd q.2.1)).and ((Oc (á (aK b<aK a))).and (Oc (!(Δ (aI a) (aI b)||aI a==aI b))))).nm fun n ⟨⟨⟨⟨r,s⟩,t⟩,u⟩,e5,e6⟩=> ?_
 rw [aqP,r];simp only [Z,s];have hB:=HI (aI a) (aI b);have j:=Fo (aI a) (aI b);have m:=Ob (aI a) (aI b);have f:(cond (Δ (aI a) (aI b)) (ã (-1:Int)) ((uf n (!(Δ (aI a) (aI b)||aI a==aI b))).bind fun y=>ã y))=ã (Ñ (aI a) (aI b)):=by
  rw [e6];cases d:Δ (aI a) (aI b)
  .have h1: ¬Ñ (aI a) (aI b)<0:=by rw [j,d];simp
   by_cases he:aI a=aI b
   .have:Ñ (aI a) (aI b)=0:=m.2 he
    simp [he]
    rw [he]at this;exact this.symm
   .have g:Ñ (aI a) (aI b)≠0:=fun k=>he (m.1 k)
    have:Ñ (aI a) (aI b)=1:=ž
    have z:(aI a==aI b)=ä:=by simpa using he
    simp [z,this]
  .have h1:=j.2 d
   have:Ñ (aI a) (aI b)= -1:=ž
   simp [this]
 unfold gj;by_cases g:a.1=2
 .have z:(a.1 !=(2:Int))=ä:=by simpa using g
  rw [z,if_pos (.inl g),<-f];rfl
 .have z:(a.1 !=(2:Int))=å:=by simpa using g
  rw [z];by_cases i:b.1=2
  .have z:(b.1 !=(2:Int))=ä:=by simpa using i
   rw [z,if_pos (.inr i),<-f];rfl
  .have z:(b.1 !=(2:Int))=å:=by simpa using i
   rw [z,if_neg (by rintro(k|k)<;>contradiction)]
   simp only [Y,Z,t,u,e5];by_cases d:aK a<aK b
   .rw [if_pos d,hC d];rfl
   .rw [if_neg d,hJ d]
    by_cases h:aK b<aK a
    .rw [if_pos h,hC h];rfl
    .rw [if_neg h,hJ h];rfl
theorem aCy {a b:V} (i:bO a) (j:bO b):W fun n=>Me n a.1 a.2.1 a.2.2 b.1 b.2.1 b.2.2=ã (gj a b):=by
 refine(((((nI a).and (nI b)).and (oO i.2.1)).and (oO j.2.1)).and (W.ge 1)).nm fun n ⟨⟨⟨⟨p,q⟩,r⟩,s⟩,t⟩=> ?_
 obtain⟨n,rfl⟩: ∃m,n=m+1:=⟨n-1,ž⟩
 rw [awX,p,r];simp only [Z,q,s,NM];unfold gj;by_cases g:a.1=2
 .have z:(a.1==(2:Int))=å:=by simpa using g
  rw [z,if_pos (.inl g)];rfl
 .have z:(a.1==(2:Int))=ä:=by simpa using g
  rw [z];by_cases h:b.1=2
  .have z:(b.1==(2:Int))=å:=by simpa using h
   rw [z,if_pos (.inr h)];rfl
  .have z:(b.1==(2:Int))=ä:=by simpa using h
   rw [z,if_neg (by rintro(k|k)<;>contradiction)]
   simp only [ez,Z];by_cases d:aK a<aK b
   .rw [if_pos d,hC d];rfl
   .rw [if_neg d,hJ d]
    by_cases f:aK b<aK a
    .rw [if_pos f,hC f];rfl
    .rw [if_neg f,hJ f];rfl
theorem Fx {α f:Type} {l:List α} (t:à l<=1048576) {p:α->Bool} {r:Int->f} {b:f} {L:Nat->Nat->Int->Option f}
  (g:W fun n=> ∀m (i:Nat),(h:i<à l)->L n (m+1) (i:Int)=cond (p l[i]) (ã (r i)) (L n m (Þ ß ((i:Int)+(1:Int)))))
  (he: ∀n m,L n (m+1) (à l:Int)=ã b):W fun n=>L n n 0=ã (match l.findIdx? p with|some i=>r i|none=>b):=by
 have:=lv (len:=à l) (L:=fun n m i (_:Unit)=>L n m (i:Int)) (fun i _=> ∀j (hj:j<à l),j<i->p l[j]=ä) (fun x=>x=match l.findIdx? p with|some i=>r i|none=>b) ?_ ?_
 .exact this.mono fun n h=>by
   obtain⟨x,k,q⟩:=h () (fun j _ hj=>absurd hj (Nat.not_lt_zero _))
   rw [<-q];exact k
 .refine g.mono fun n h m i _ hi hinv=> ?_
  have h:=h m i hi;cases d:p l[i]with
  |true=>
   left
   rw [d]at h;have e:l.findIdx? p=ã i:=by
    rw [Θ]
    exact⟨hi,d,fun j hj=>by rw [hinv j ž hj];simp⟩
   exact⟨_,h,by rw [e]⟩
  |false=>
   right
   rw [d]at h;refine⟨(),Ŋ,fun j hj s=> ?_⟩
   by_cases e:j=i
   .subst e;exact d
   .exact hinv j hj ž
 .refine W.of fun n m _ hinv=>⟨_,he n m, ?_⟩
  have e:l.findIdx? p=â:=by
   rw [σ]
   intro x g;obtain⟨j,hj,rfl⟩:=List.mem_iff_getElem.1 g;exact hinv j hj hj
  rw [e]
def oP (nm:Int) (key:O) (c:VC):Bool:=cond (c.1==nm) (c.2.1==key) ä
def fM (cs:List VC) (nm:Int) (key:O):Option Nat:=cs.findIdx? (oP nm key)
def zl:Option Nat->Int
 |some i=>i
 |none=> -1
def fN (cs:List VC) (nm:Int) (key:O):V:=match fM cs nm key with
 |some i=>match cs[i]? with|some c=>c.2.2|none=>v0
 |none=>v0
def oQ (cs:List VC) (nm:Int) (key:O):List VC:=match fM cs nm key with
 |some i=>cs.take i++cs.drop (i+1)
 |none=>cs
noncomputable def gJ (cs:List VC) (nm:Int) (key:O):Nat:=match cs.findIdx? (fun c=>bo (¬dY c.1 c.2.1 nm key))with|some i=>i|none=>à cs
noncomputable def mN (cs:List VC) (nm:Int) (key:O) (v:V):Option (List VC):=match fM cs nm key with
 |some i=>match cs[i]? with|some c=>ã (cs.set i (c.1,c.2.1,v))|none=>â
 |none=>if 40<=à cs then â else ã (cs.take (gJ cs nm key)++((nm,key,v)::cs.drop (gJ cs nm key)))
theorem qz {cs:List VC} {nm:Int} {key:O} {i:Nat} (h:fM cs nm key=ã i):i<à cs/\ ∀h:i<à cs,cs[i].1=nm/\cs[i].2.1=key:=by
 unfold fM at h;obtain⟨d,b, -⟩:=Θ.1 h
 refine⟨d,fun _=> ?_⟩
 unfold oP at b;cases e:cs[i].1==nm with
 |true=>rw [e]at b;exact⟨Ņ,ł⟩
 |false=>rw [e]at b;cases b
theorem Oi (cs:List VC) (nm:Int) (key:O):gJ cs nm key<=à cs:=by
 unfold gJ;split
 .rename_i i h
  obtain⟨b, -, -⟩:=Θ.1 h
  omega
 .exact Î _
theorem Oj (vs:ae) (cs:ai) (nr er nm:Int) (key:O) (d:à cs<=1048576):W fun n=>oD n vs cs nr er nm key=ã (zl (fM cs nm key)):=by
 have k:=Fx d (p:=oP nm key) (r:=Sum.inr) (b:=.inl ()) (L:=fun n m i=>tZ n m vs cs nr er i key nm) (W.of fun n m i hi=>by
  rw [Ve,aU hi,bB hi];simp only [Y,Z,oP];cases cs[i].1==nm<;>cases cs[i].2.1==key<;>rfl) (fun n m=>by rw [Ve,bM];rfl)
 refine k.nm fun n e=> ?_
 rw [apL,show tZ n n vs cs nr er 0 key nm=_ from e];unfold fM;cases cs.findIdx? (oP nm key)<;>rfl
theorem Ol (vs:ae) (cs:ai) (nr er nm:Int) (key:O) (d:à cs<=1048576):W fun n=>oI n vs cs nr er nm key=ã (zl (fM cs nm key)):=by
 have k:=Fx d (p:=oP nm key) (r:=fun i=>.inr (i,nm,key)) (b:=.inl (nm,key)) (L:=fun n m i=>yy n m nm key i cs (à cs)) ((W.ge 1).mono fun n f m i hi=>by
  obtain⟨n,rfl⟩: ∃k,n=k+1:=⟨n-1,ž⟩
  rw [Wq,aU hi,bB hi];simp only [Y,Z,avK,oP];cases cs[i].1==nm<;>cases cs[i].2.1==key<;>rfl) (fun n m=>by rw [Wq,bM];rfl)
 refine(k.nm (q:=fun n=>LG n nm key cs=ã (zl (fM cs nm key),nm,key)) fun n e=> ?_).nm fun n e=> ?_
 .rw [avJ,show yy n n nm key 0 cs (à cs)=_ from e]
  unfold fM;cases cs.findIdx? (oP nm key)<;>rfl
 .rw [avI,e];rfl
theorem YU (vs:ae) (cs:ai) (nr er nm:Int) (key:O) (b:à cs<=1048576):W fun n=>CC n vs cs nr er nm key=ã (fN cs nm key):=by
 refine(Oj vs cs nr er nm key b).nm fun n e=> ?_
 rw [apK,e];unfold fN;cases h:fM cs nm key with
 |none=>rfl
 |some i=>
  have hi:=(qz h).1;simp only [zl,Z];rw [hJ ž,bB hi,Õ hi];rfl
theorem YV (vs:ae) (cs:ai) (nr er nm:Int) (key:O) (b:à cs<=1048576):W fun n=>DT n vs cs nr er nm key=ã (fN cs nm key):=by
 refine(Ol vs cs nr er nm key b).nm fun n e=> ?_
 rw [avN,e];unfold fN;cases h:fM cs nm key with
 |none=>rfl
 |some i=>
  have hi:=(qz h).1;simp only [zl,Z];rw [hJ ž,bB hi,Õ hi];rfl
theorem aX {k:Nat} (h:k<=4000000):Λ k big=å:=Ð Ũ
theorem zm (vs:ae) (cs:ai) (nr er:Int) (b:à vs<=1048576) (d:à cs<=1048576):W fun n=>rY n vs cs nr er=ã (vs,cs,nr,er):=W.succ (W.of fun n=>by
 rw [aoS,aX ž,aX ž];rfl)
theorem YW (n:Nat) (vs:ae):DM (n+1) vs=cond (Λ (Ζ vs) big) (ã vs) â:=Ž
theorem aCz (n:Nat) (cs:ai):Un (n+1) cs=cond (Λ (Ζ cs) big) (ã cs) â:=Ž
theorem aCA (n:Nat) (cs:ai) (i j:Int):Up (n+1) cs i j=cond (á (0<=i/\i<=j/\j<=(Ζ cs:Int))) (ã (cs.take i.toNat++cs.drop j.toNat)) â:=Ž
theorem aCB (n:Nat) (cs:ai) (i:Int) (v:ai):DS (n+1) cs i v=cond (á (0<=i/\i<=(Ζ cs:Int))&&Λ (Ζ cs+Ζ v) big) (ã (cs.take i.toNat++(v++cs.drop i.toNat))) â:=Ž
theorem zn (vs:ae) (cs:ai) (nr er:Int) (b:à vs<=1048576) (d:à cs<=1048576):W fun n=>sn n vs cs nr er=ã (vs,cs,nr,er):=by
 refine(W.ge 1).nm fun n f=> ?_
 obtain⟨n,rfl⟩: ∃k,n=k+1:=⟨n-1,ž⟩
 rw [auV,YW,aX ž]
 simp only [Y,Z,aCz];rw [aX ž];rfl
theorem lP {i:Nat} (h:i<=1048576):Þ ß ((i:Int)+1)=((i+1:Nat):Int):=ż
theorem Fy {α:Type} (l:List α) (k:Nat):(l.drop k).take (à l-k)=l.drop k:=Û Ż
theorem aCC (vs:ae) (cs:ai) (nr er nm:Int) (key:O) (j:à vs<=1048576) (d:à cs<=1048576):W fun n=>Kf n vs cs nr er nm key=ã (vs,oQ cs nm key,nr,er):=by
 refine((zm vs cs nr er j d).and (Oj vs cs nr er nm key d)).nm fun n ⟨f,g⟩=> ?_
 cases h:fM cs nm key with
 |none=>
  have b:oD n vs cs nr er nm key=ã (-1:Int):=by rw [g,h];rfl
  rw [Vi,f];simp only [Z,b];rw [hJ ž,oQ,h];rfl
 |some i=>
  have b:oD n vs cs nr er nm key=ã (i:Int):=by rw [g,h];rfl
  rw [Vi,f];simp only [Z,b];have hi:=(qz h).1;have k:Þ ß ((i:Int)+1)=((i+1:Nat):Int):=lP ž
  simp only [k];rw [hC ž,hC ž,hC ž]
  simp only [Y,Æ,η,Ü,Fy,oQ,h];rw [aX ź,aX ź];rfl
theorem aCD (vs:ae) (cs:ai) (nr er nm:Int) (key:O) (j:à vs<=1048576) (d:à cs<=1048576):W fun n=>LJ n vs cs nr er nm key=ã (vs,oQ cs nm key,nr,er):=by
 refine(((zn vs cs nr er j d).and (Ol vs cs nr er nm key d)).and (W.ge 1)).nm fun n ⟨⟨f,g⟩,p⟩=> ?_
 obtain⟨n,rfl⟩: ∃k,n=k+1:=⟨n-1,ž⟩
 cases h:fM cs nm key with
 |none=>
  have b:oI (n+1) vs cs nr er nm key=ã (-1:Int):=by rw [g,h];rfl
  rw [Ws,f];simp only [Z,b];rw [hJ ž,oQ,h];rfl
 |some i=>
  have b:oI (n+1) vs cs nr er nm key=ã (i:Int):=by rw [g,h];rfl
  rw [Ws,f];simp only [Z,b];have hi:=(qz h).1;have m:Þ ß ((i:Int)+1)=((i+1:Nat):Int):=lP ž
  simp only [m];rw [hC ž,aCA,hC ž]
  simp only [Y,Æ,Z];rw [oQ,h]
theorem aCE (a:Int) (s:O) (p q:Int) (r:O) (b:Int) (t:O) (d f:Int) (g:O):W fun n=> ∃v,yw n a s p q r b t d f g=ã v/\(0<v↔ ¬dY a s b t/\ ¬(a=b/\s=t)):=by
 refine W.succ (W.succ (W.of fun n=> ?_))
 rw [Wg,NM];unfold dY;have i:=Fo s t;have j:=Ob s t;by_cases h:a<b
 .rw [hC h]
  exact⟨-1,rfl,ŏ⟩
 .rw [hJ h]
  by_cases k:b<a
  .rw [hC k]
   exact⟨1,rfl,by simp [h];omega⟩
  .rw [hJ k]
   obtain rfl:a=b:=ž
   refine⟨_,rfl, ?_⟩
   rw [<-i,<-j];omega
theorem YX (_:ae) (cs:ai) (_ _ nm:Int) (key:O) (v:V) {i:Nat} (h:fM cs nm key=ã i): ∃c,cs[i]? =ã c/\mN cs nm key v=ã (cs.set i (c.1,c.2.1,v)):=by
 have hi:=(qz h).1;refine⟨cs[i],Õ hi, ?_⟩
 unfold mN;rw [h];simp only [Õ hi]
def nJ (vs:ae) (cs:ai) (nr er:Int) (o:Option (List VC)):ae×(ai×Int×Int×Bool):=match o with
 |some l=>(vs,l,nr,er,å)
 |none=>(vs,cs,nr,er,ä)
theorem aCF (cs:List VC) (nm:Int) (key:O) {b:Type} (r:Int->b):(match cs.findIdx? (fun c=>bo (¬dY c.1 c.2.1 nm key))with|some i=>r i|none=>r (à cs))=r (gJ cs nm key):=by
 unfold gJ;cases cs.findIdx? (fun c=>bo (¬dY c.1 c.2.1 nm key))<;>rfl
theorem YY (vs:ae) (cs:ai) (nr er nm:Int) (key:O) (v:V) (s:à vs<=1048576) (g:à cs<=1048576):W fun n=>Ke n vs cs nr er nm key v.1 v.2.1 v.2.2=ã (nJ vs cs nr er (mN cs nm key v)):=by
 have k:=Fx g (p:=fun c=>bo (¬dY c.1 c.2.1 nm key)) (r:=fun i=>Sum.inl (0,0,vs,cs,nr,er,vs,cs,nr,er,v.1,v.2.1,v.2.2,i,key,nm)) (b:=Sum.inl (0,0,vs,cs,nr,er,vs,cs,nr,er,v.1,v.2.1,v.2.2,(à cs:Int),key,nm)) (L:=fun n m i=>xO n m 0 0 vs cs nr er vs cs nr er v.1 v.2.1 v.2.2 i key nm) ((W.all cs fun c _=>Yo c.1 c.2.1 c.2.2.1 c.2.2.2.1 c.2.2.2.2 nm key).mono fun n h m i hi=>by
  rw [Vh,aU hi,bB hi];simp only [Y,Z,h _ (Á hi)];exact dL Ż) (fun n m=>by rw [Vh,bM];rfl)
 refine(((zm vs cs nr er s g).and (Oj vs cs nr er nm key g)).and k).nm fun n ⟨⟨j,q⟩,t⟩=> ?_
 cases h:fM cs nm key with
 |some i=>
  have d:oD n vs cs nr er nm key=ã (i:Int):=by rw [q,h];rfl
  rw [Vg,j];simp only [Z,d];have hi:=(qz h).1;obtain⟨c,u,hp⟩:=YX vs cs nr er nm key v h;rw [hC ž,hC ž,hp]
  simp only [Y,aO,nth,Æ,u,Z,nJ]
 |none=>
  have d:oD n vs cs nr er nm key=ã (-1:Int):=by rw [q,h];rfl
  rw [Vg,j];simp only [Z,d];rw [hJ ž]
  unfold mN;rw [h];simp only [ez];by_cases f:40<=à cs
  .rw [hC ž,if_pos f];rfl
  .rw [hJ ž,if_neg f,show xO n n 0 0 vs cs nr er vs cs nr er v.1 v.2.1 v.2.2 0 key nm=_ from t,aCF cs nm key fun i=>Sum.inl (0,0,vs,cs,nr,er,vs,cs,nr,er,v.1,v.2.1,v.2.2,i,key,nm)]
   have z:=Oi cs nm key;simp only [ez,Z,aq];rw [hC ž]
   simp only [Y,Æ,η,Ü,Fy];rw [aX ź,aX ź,aX ź]
   simp only [Y,nJ,Ù,φ,Τ]
theorem aCG {α:Type} (l:List α) (p q:α->Bool) (h: ∀x∈l,p x=q x):l.findIdx? p=l.findIdx? q:=by
 induction l with
 |nil=>rfl
 |cons a l ih=>rw [Ϡ,Ϡ,h a Ż,ih fun x b=>h x ũ]
theorem YZ {cs:List VC} {nm:Int} {key:O} (h:fM cs nm key=â): ∀c∈cs,¬(c.1=nm/\c.2.1=key):=by
 unfold fM at h;rw [σ]at h
 rintro c b ⟨d,f⟩
 have:=h c b;simp [oP,d,f]at this
theorem Za (vs:ae) (cs:ai) (nr er nm:Int) (key:O) (v:V) (z:à vs<=1048576) (q:à cs<=1048576):W fun n=>LF n vs cs nr er nm key v.1 v.2.1 v.2.2=ã (nJ vs cs nr er (mN cs nm key v)):=by
 have hq: ∀c:VC,W fun n=>LI n nm key v.1 v.2.1 v.2.2 c.1 c.2.1 c.2.2.1 c.2.2.2.1 c.2.2.2.2=ã (bo (¬dY c.1 c.2.1 nm key/\ ¬(c.1=nm/\c.2.1=key)),nm,key,v.1,v.2.1,v.2.2):=fun c=>by
  refine(aCE c.1 c.2.1 c.2.2.1 c.2.2.2.1 c.2.2.2.2 nm key v.1 v.2.1 v.2.2).nm fun n ⟨x,e,hx⟩=> ?_
  rw [avM,e];simp only [Z,dH];rw [propext hx]
 have k:=Fx q (p:=fun c=>bo (¬dY c.1 c.2.1 nm key/\ ¬(c.1=nm/\c.2.1=key))) (r:=fun i=>Sum.inr (i,nm,key,v.1,v.2.1,v.2.2)) (b:=Sum.inl (nm,key,v.1,v.2.1,v.2.2)) (L:=fun n m i=>yz n m nm key v.1 v.2.1 v.2.2 i cs (à cs)) ((W.all cs fun c _=>hq c).mono fun n h m i hi=>by
  rw [Wr,aU hi,bB hi];simp only [Y,Z,h _ (Á hi)]) (fun n m=>by rw [Wr,bM];rfl)
 have k2:W fun n=>LH n nm key v.1 v.2.1 v.2.2 cs=ã (match cs.findIdx? (fun c=>bo (¬dY c.1 c.2.1 nm key/\ ¬(c.1=nm/\c.2.1=key)))with|some i=>((i:Int),nm,key,v.1,v.2.1,v.2.2)|none=>((-1:Int),nm,key,v.1,v.2.1,v.2.2)):=k.nm fun n e=>by
  rw [avL,show yz n n nm key v.1 v.2.1 v.2.2 0 cs (à cs)=_ from e];cases cs.findIdx? (fun c=>bo (¬dY c.1 c.2.1 nm key/\ ¬(c.1=nm/\c.2.1=key)))<;>rfl
 refine((((zn vs cs nr er z q).and (Ol vs cs nr er nm key q)).and k2).and (W.ge 1)).nm fun n ⟨⟨⟨t,u⟩,e3⟩,hn⟩=> ?_
 obtain⟨n,rfl⟩: ∃k,n=k+1:=⟨n-1,ž⟩
 cases h:fM cs nm key with
 |some i=>
  have d:oI (n+1) vs cs nr er nm key=ã (i:Int):=by rw [u,h];rfl
  rw [Wp,t];simp only [Z,d];have hi:=(qz h).1;obtain⟨c,s,hp⟩:=YX vs cs nr er nm key v h;rw [hC ž,hC ž,hp]
  simp only [Y,aO,nth,Æ,s,Z,nJ]
 |none=>
  have d:oI (n+1) vs cs nr er nm key=ã (-1:Int):=by rw [u,h];rfl
  rw [Wp,t];simp only [Z,d];rw [hJ ž]
  unfold mN;rw [h];simp only [ez];by_cases g:40<=à cs
  .rw [hC ž,if_pos g];rfl
  .rw [hJ ž,if_neg g,e3,aCG cs _ (fun c=>bo (¬dY c.1 c.2.1 nm key)) fun c s=>oj ⟨fun k=>k.1,fun k=>⟨k,YZ h c s⟩⟩]
   simp only [ez,Z];have f:=Oi cs nm key;have fin: ∀j:Nat,j<=à cs->((DS (n+1) cs (j:Int) [(nm,key,v.1,v.2.1,v.2.2)]).bind fun y=>ã (vs,y,nr,er,å))=ã (nJ vs cs nr er (ã (cs.take j++((nm,key,v)::cs.drop j)))):=fun j hj=>by
    rw [aCB,hC ž,aX ź]
    rfl
   unfold gJ at f |-;revert f
   cases cs.findIdx? (fun c=>bo (¬dY c.1 c.2.1 nm key))with
   |none=>
    intro f;simp only;rw [hC ž]
    exact fin (à cs) f
   |some j=>
    intro f;simp only;rw [hJ ž]
    exact fin j f
theorem aCH (n:Nat) (line:O):DW (n+1) line=cond (Λ (Ζ (α:=UInt8) line) 4000000000) (ã (bk [] line)) â:=Ž
theorem Om (line:O) (b:à line<=1000000):W fun n=>DW n line=ã (bk [] line):=W.succ (W.of fun n=>by
 rw [aCH,Ð ž];rfl)
noncomputable def kV (line:O) (fs:List O) (k:Int):V:=if k=0 then ow line else if 1<=k/\k<=à fs then(match fs[(k-1).toNat]? with|some s=>ow s|none=>v0)else ow []
theorem On {x:Int} (h:aW x):Þ ß (Ë x 1000000)=Ë x 1000000/\ -9000000<=Ë x 1000000/\Ë x 1000000<=9000000:=by
 have b:=dZ h;have d:=Ψ x 1000000;have f:=AP x;refine⟨?_,ž,ž⟩
 rw [Å];omega
theorem aCI {x:Int}:Ë (jS x) 1000000=Ë x 1000000:=by
 have b:=Ψ x 1000000;have e:jS x=1000000*Ë x 1000000:=by unfold jS;omega
 rw [e,Int.mul_tdiv_cancel_left _ ž]
def cN (v:Int):Int:=Ë v 1000000
theorem Fz {v:V} (h:bO v):W fun n=>yA n v.1 v.2.1 v.2.2=ã (cN (aK v)):=by
 refine((oO h.2.1).and (YS (kM h))).nm fun n ⟨b,d⟩=> ?_
 rw [avQ,b];simp only [Z,d];rw [aCI,(On (kM h)).1];rfl
theorem Zb {fs:List O} {k:Int} (hk:1<=k/\k<=à fs) (b:à fs<=1048576):Þ ß (k-1)=k-1/\ ∃s,fs[(k-1).toNat]? =ã s:=by
 refine⟨ż,fs[(k-1).toNat]'(by omega),Õ ž⟩
theorem aCJ (line:O) (k:Int) (h:à line<=1000000) (j:(bk [] line).length<=1048576):W fun n=>LL n line k=ã (kV line (bk [] line) k):=by
 by_cases hk:1<=k/\k<=(bk [] line).length
 .obtain⟨hw,s,i⟩:=Zb hk j
  refine(((Om line h).and (cZ k 1 ((bk [] line).length:Int))).and (Oh s)).nm fun n ⟨⟨d,f⟩,g⟩=> ?_
  have z:(k==(0:Int))=ä:=ź
  rw [Wt,z,d];simp only [ez,Z,f,aA (show In k 1 _ from hk),Y,hw,aO,nth,i,g];rw [hC ž,kV,if_neg ž,if_pos hk,i];rfl
 .refine((((Om line h).and (cZ k 1 ((bk [] line).length:Int))).and (Oh line)).and (Oh [])).nm fun n ⟨⟨⟨d,f⟩,g⟩,m⟩=> ?_
  rw [Wt,d,g,kV];by_cases b:k=0
  .rw [if_pos b,b];rfl
  .have z:(k==(0:Int))=ä:=by simpa using b
   rw [z,if_neg b,if_neg hk];simp only [ez,Z,f,aw (show ¬In k 1 _ from hk),m]
theorem aCK (vs:ae) (cs:ai) (nr er:Int) (a b:af) (line:O) (fs:af) (out:O) (fu:Int) (dn:Bool) {v:V} (h:bO v) (p:à fs<=1048576):W fun n=>Kg n vs cs nr er a b line fs out fu dn v.1 v.2.1 v.2.2=ã ((kV line fs (cN (aK v))).1,(kV line fs (cN (aK v))).2.1,(kV line fs (cN (aK v))).2.2,vs,cs,nr,er,a,b,line,fs,out,fu,dn):=by
 have hw:=(On (kM h)).1;have f:Ë (aK v) 1000000=cN (aK v):=rfl;rw [f]at hw;by_cases hk:1<=cN (aK v)/\cN (aK v)<=à fs
 .obtain⟨g,s,m⟩:=Zb hk p
  refine(((kd h.2.1).and (cD (cN (aK v)) 1 (à fs:Int))).and (Og s)).nm fun n ⟨⟨i,j⟩,k⟩=> ?_
  have z:(cN (aK v)==(0:Int))=ä:=ź
  rw [Vj,i];simp only [Z,f,hw,z,ez,j,aA (show In (cN (aK v)) 1 _ from hk),È,g,aO,nth,m,k];rw [hC ž,kV,if_neg ž,if_pos hk,m];rfl
 .refine((((kd h.2.1).and (cD (cN (aK v)) 1 (à fs:Int))).and (Og line)).and (Og [])).nm fun n ⟨⟨⟨i,j⟩,k⟩,q⟩=> ?_
  rw [Vj,i];simp only [Z,f,hw,k,j,aw (show ¬In (cN (aK v)) 1 _ from hk),q];rw [kV];by_cases d:cN (aK v)=0
  .rw [if_pos d,d];rfl
  .have z:(cN (aK v)==(0:Int))=ä:=by simpa using d
   rw [z,if_neg d,if_neg hk];rfl
theorem aCL (line:O) (fs:List O) (k:Int):bO (kV line fs k):=by
 unfold kV;split
 .exact Ia _
 split
 .split
  .exact Ia _
  .exact tJ
 .exact Ia _
theorem uR: ∀(s cur:O),(bk cur s).length<=à s+1
 | [],cur=>by rw [bk];cases List.isEmpty cur<;>simp
 |b::s,cur=>by
  rw [bk];have d:=uR s [];have f:=uR s (cur++[b]);cases b==32<;>cases List.isEmpty cur<;>simp only [Y,ez,Ç]<;>omega
theorem aCM (n:Nat) (a b:Int):LZ (n+1) a b=ã (a*b/18446744073709551616,a*b%18446744073709551616):=Ž
theorem Zc {a:Int} (h:aW a):W fun n=>En n a=ã (a.natAbs:Int):=W.succ (W.of fun n=>by
 have d:=dZ h;rw [awR];by_cases b:a<0
 .rw [hC b]
  simp only [Y];have:Þ .u64 (Þ ß (0-a))=(a.natAbs:Int):=by rw [wu,Å];omega
  rw [this]
 .rw [hJ b]
  simp only [ez];have:Þ .u64 a=(a.natAbs:Int):=by rw [wu];omega
  rw [this])
theorem sign_eq (a b:Int):(!((á (a<(0:Int)))==(á (b<(0:Int)))))= !decide (a<0↔b<0):=by
 by_cases d:a<0<;>by_cases f:b<0<;>simp [d,f]
theorem aCN (a b:Int) (d:aW a) (f:aW b):a.natAbs*b.natAbs<=81000000000000000000000000:=by
 have g:=dZ d;have h:=dZ f;exact Ϗ (show a.natAbs<=9000000000000 by omega) (show b.natAbs<=9000000000000 by omega)
theorem aCO (a b:Int):W fun n=>LY n a b=ã (fX a b):=by
 by_cases d: ¬aW a
 .refine(jE a).nm fun n g=> ?_
  rw [Fg,g,aw d,fX,aw fun k=>d k.1];rfl
 have d:=Ξ.1 d;by_cases f: ¬aW b
 .refine((jE a).and (jE b)).nm fun n ⟨g,j⟩=> ?_
  rw [Fg,g,aA d];simp only [Z,j];rw [aw f,fX,aw fun k=>f k.2.1];rfl
 have f:=Ξ.1 f;have hp:=aCN a b d f;obtain⟨p,h⟩: ∃p,p=a.natAbs*b.natAbs:=⟨_,rfl⟩
 have t:gy a b=p/1000000:=by rw [gy,h]
 have u: ∀n,LZ (n+1) (a.natAbs:Int) (b.natAbs:Int)=ã (((p/18446744073709551616:Nat):Int),((p%18446744073709551616:Nat):Int)):=fun n=>by
  rw [aCM,<-Ϫ,<-h];rfl
 rw [<-h]at hp;have base:=(((jE a).and (jE b)).and ((Zc d).and (Zc f))).and (W.ge 1);by_cases hh:p/18446744073709551616<1000000
 .refine(base.and (aCo _ (p%18446744073709551616) hh (Ϯ _ ž))).nm fun n ⟨⟨⟨⟨g,j⟩,s,i⟩,hn⟩,r,z⟩=> ?_
  obtain⟨n,rfl⟩: ∃m,n=m+1:=⟨n-1,ž⟩
  rw [show p/18446744073709551616*18446744073709551616+p%18446744073709551616=p by rw [κ];exact Υ p _,<-t]at z
  rw [Fg,g,aA d];simp only [Z,j];rw [aA f];simp only [È,ez,Z,s,i,u];rw [hJ ž,ez,z,Z,sign_eq]
  by_cases hm:gy a b<=9000000000000
  .rw [hJ ž,ez,fX,aA ⟨d,f,hm⟩,Y]
   have w1:Þ ß ((gy a b:Nat):Int)=(gy a b:Int):=ż
   have w2:Þ ß (0-(gy a b:Int))= -(gy a b:Int):=ż
   rw [w1,w2];by_cases q:(a<0↔b<0)
   .rw [hC q,if_pos q];rfl
   .rw [hJ q,if_neg q];rfl
  .rw [hC ž,Y,fX,aw fun k=>hm k.2.2];rfl
 .refine base.nm fun n ⟨⟨⟨g,j⟩,s,i⟩,hn⟩=> ?_
  obtain⟨n,rfl⟩: ∃m,n=m+1:=⟨n-1,ž⟩
  rw [Fg,g,aA d];simp only [Z,j];rw [aA f];simp only [È,ez,Z,s,i,u];rw [hC ž,Y,fX,aw fun k=>absurd k.2.2 (by rw [t];omega)];rfl
theorem aCP (x y:Nat):x*y/1000000=x/1000000*y+x%1000000*y/1000000:=by
 have h:x*y=1000000*(x/1000000*y)+x%1000000*y:=by
  rw [<-Ϟ,<-ϗ,Υ]
 rw [h,Nat.mul_add_div ž]
theorem aCQ (a b:Int):W fun n=>Kc n a b=ã (fX a b):=by
 by_cases d: ¬aW a
 .refine(jD a).nm fun n g=> ?_
  rw [MZ,g,aw d,fX,aw fun k=>d k.1];rfl
 have d:=Ξ.1 d;by_cases f: ¬aW b
 .refine((jD a).and (jD b)).nm fun n ⟨g,i⟩=> ?_
  rw [MZ,g,aA d];simp only [Z,i];rw [aw f,fX,aw fun k=>f k.2.1];rfl
 have f:=Ξ.1 f;have j:=dZ d;have m:=dZ f;obtain⟨x,s⟩: ∃x,x=a.natAbs:=⟨_,rfl⟩
 obtain⟨y,hy⟩: ∃y,y=b.natAbs:=⟨_,rfl⟩
 have t:x<=9000000000000:=ž
 have p:y<=9000000000000:=ž
 have u:gy a b=x/1000000*y+x%1000000*y/1000000:=by rw [gy,<-s,<-hy,aCP]
 have hr:x%1000000*y<=8999991000000000000:=by
  have:x%1000000*y<=999999*9000000000000:=Ϗ ž p
  omega
 refine(((((jD a).and (jD b)).and (NZ j.1)).and (NZ m.1)).and ((zj (gy a b:Int)).and (zj (-(gy a b:Int))))).nm fun n ⟨⟨⟨⟨g,i⟩,e3⟩,q⟩,e4,e5⟩=> ?_
 rw [MZ,g,aA d];simp only [Z,i];rw [aA f];simp only [È,ez,Z,e3,q,<-s,<-hy];have t1:Ë (x:Int) 1000000=((x/1000000:Nat):Int):=(uQ x 1000000).symm;have t2:Ρ (x:Int) 1000000=((x%1000000:Nat):Int):=(Int.ofNat_tmod x 1000000).symm;have t3:Þ ß ((x/1000000:Nat):Int)=((x/1000000:Nat):Int):=ż
 have t4:Þ ß (((x%1000000:Nat):Int)*(y:Int))=((x%1000000*y:Nat):Int):=þ
 have t5:Þ ß (Ë ((x%1000000*y:Nat):Int) 1000000)=((x%1000000*y/1000000:Nat):Int):=by
  rw [show Ë ((x%1000000*y:Nat):Int) (1000000:Int)=((x%1000000*y/1000000:Nat):Int)from(uQ _ 1000000).symm,Å];omega
 have fin: ∀(hw:x/1000000*y<=9000000000000),(cond (!decide (a<0↔b<0)) ((oC n (Þ ß ((0:Int)-(Þ ß ((Þ ß (((x/1000000:Nat):Int)*(y:Int)))+((x%1000000*y/1000000:Nat):Int)))))).bind fun z=>ã (z.1,z.2)) ((oC n (Þ ß ((Þ ß (((x/1000000:Nat):Int)*(y:Int)))+((x%1000000*y/1000000:Nat):Int)))).bind fun z=>ã (z.1,z.2)))=ã (fX a b):=fun hw=>by
  have w1:Þ ß (((x/1000000:Nat):Int)*(y:Int))=((x/1000000*y:Nat):Int):=þ
  have w2:Þ ß (((x/1000000*y:Nat):Int)+((x%1000000*y/1000000:Nat):Int))=(gy a b:Int):=by rw [u,Å];omega
  have w3:Þ ß ((0:Int)-(gy a b:Int))= -(gy a b:Int):=ż
  rw [w1,w2,w3,e4,e5];by_cases hm:gy a b<=9000000000000
  .rw [fX,aA ⟨d,f,hm⟩,Y,wN (gw ž),wN (gw ž)]
   by_cases h:(a<0↔b<0)
   .rw [hC h,if_pos h];rfl
   .rw [hJ h,if_neg h];rfl
  .rw [fX,aw fun k=>hm k.2.2,wO (fun k=>hm (by have:=dZ k;omega)),wO (fun k=>hm (by have:=dZ k;omega))]
   cases á (a<0↔b<0)<;>rfl
 simp only [t1,t2,t3,t4,t5,sign_eq];by_cases r:0<y
 .obtain⟨k,hk⟩: ∃k:Nat,k=9000000000000/y:=⟨_,rfl⟩
  have aj:k<=9000000000000:=hk▸Nat.div_le_self _ _;have td:Ë (9000000000000:Int) (y:Int)=(k:Int):=hk▸(uQ 9000000000000 y).symm;have d1:Þ ß (Ë 9000000000000 (y:Int))=(k:Int):=by rw [td,Å];omega
  have k1:k*y<=9000000000000:=hk▸Nat.div_mul_le_self 9000000000000 y;have k2:9000000000000<y*k+y:=by
   have m:=Υ 9000000000000 y;have h3:=Ϯ 9000000000000 r;rw [<-hk]at m;omega
  have z:((y:Int) !=(0:Int))=å:=ź
  rw [hC (show (0:Int)<(y:Int) by omega),z]
  simp only [Y,Z,d1];by_cases hw:x/1000000<=k
  .rw [hJ (show ¬(k:Int)<((x/1000000:Nat):Int) by omega),ez]
   exact fin (Nat.le_trans (Ϙ y hw) k1)
  .rw [hC (show (k:Int)<((x/1000000:Nat):Int) by omega),Y,fX,aw fun c=> ?_]
   .rfl
   .have j:(k+1)*y<=x/1000000*y:=Ϙ y ž
    rw [ϗ,κ k y]at j;have:=c.2.2;omega
 .obtain rfl:y=0:=by omega
  rw [hJ ž]
  simp only [ez,Z];exact fin ž
def iD:Sum Int V->Int
 |.inl c=>c
 |.inr _=>0
def qA (r:Int×Bool):Sum Int V:=cond r.2 (.inr (nV r.1)) (.inl 1)
noncomputable def cK (op x y:Int):Sum Int V:=if op=0 then qA (gx x y)else if op=1 then qA (jR x y)else if op=2 then qA (fX x y)else if y=0 then .inl 2 else if op=4 then .inr (nV (Ρ x y))else qA (iV x y)
def oR (k c:Int):Bool:=if k=0 then á (c<0)else if k=1 then á (c<=0)else if k=2 then á (0<c)else if k=3 then á (0<=c)else if k=4 then c==0 else c !=0
noncomputable def dP (c:Int) (a b:V):Sum Int V:=if c<=16 then cK (c-12) (aK a) (aK b)else if c=17 then(if 300<(aI a++aI b).length then .inl 3 else .inr (tV (aI a++aI b)))else .inr (bV (oR (c-18) (gj a b)))
theorem Zd (vs:ae) (cs:ai) (nr er:Int) (a b:af) (line:O) (fs:af) (out:O) (fu:Int) (dn:Bool) (c:Int):W fun n=>jA n vs cs nr er a b line fs out fu dn c=ã (vs,cs,nr,cond (er==0) c er,a,b,line,fs,out,fu,dn):=W.succ (W.of fun n=>by
 rw [aoU];cases er==0<;>rfl)
theorem mO (vs:ae) (cs:ai) (nr:Int) (a b:af) (line:O) (fs:af) (out:O) (fu:Int) (dn:Bool) (c:Int):W fun n=>jA n vs cs nr 0 a b line fs out fu dn c=ã (vs,cs,nr,c,a,b,line,fs,out,fu,dn):=Zd vs cs nr 0 a b line fs out fu dn c
theorem Oo (vs:ae) (cs:ai) (nr:Int) (a b:af) (line:O) (fs:af) (out:O) (fu:Int) (dn:Bool) (op x y:Int) (h:0<=op/\op<=4):W fun n=> ∃v:V,xM n vs cs nr 0 a b line fs out fu dn op x y=ã (v.1,v.2.1,v.2.2,vs,cs,nr,iD (cK op x y),a,b,line,fs,out,fu,dn)/\ ∀w,cK op x y=.inr w->v=w:=by
 by_cases i:op=0
 .subst i
  refine(((aCp x y).and (mO vs cs nr a b line fs out fu dn 1)).and (kT (gx x y).1)).nm fun n ⟨⟨d,f⟩,g⟩=> ?_
  rw [uG,show((0:Int)==(0:Int))=å from rfl,d,cK,if_pos rfl];simp only [Y,Z,f,g];obtain⟨p,q⟩:=gx x y;cases q
  .exact⟨nV p,rfl,fun w k=>ń⟩
  .exact⟨nV p,rfl,fun w k=>Ť⟩
 by_cases j:op=1
 .subst j
  refine(((aCq x y).and (mO vs cs nr a b line fs out fu dn 1)).and (kT (jR x y).1)).nm fun n ⟨⟨d,f⟩,g⟩=> ?_
  rw [uG,show((1:Int)==(0:Int))=ä from rfl,show((1:Int)==(1:Int))=å from rfl,d,cK,if_neg (show ¬(1:Int)=0 by omega),if_pos rfl]
  simp only [Y,ez,Z,f,g];obtain⟨p,q⟩:=jR x y;cases q
  .exact⟨nV p,rfl,fun w k=>ń⟩
  .exact⟨nV p,rfl,fun w k=>Ť⟩
 by_cases m:op=2
 .subst m
  refine(((aCQ x y).and (mO vs cs nr a b line fs out fu dn 1)).and (kT (fX x y).1)).nm fun n ⟨⟨d,f⟩,g⟩=> ?_
  rw [uG,show((2:Int)==(0:Int))=ä from rfl,show((2:Int)==(1:Int))=ä from rfl,show((2:Int)==(2:Int))=å from rfl,d,cK,if_neg (show ¬(2:Int)=0 by omega),if_neg (show ¬(2:Int)=1 by omega),if_pos rfl]
  simp only [Y,ez,Z,f,g];obtain⟨p,q⟩:=fX x y;cases q
  .exact⟨nV p,rfl,fun w k=>ń⟩
  .exact⟨nV p,rfl,fun w k=>Ť⟩
 have z0:(op==(0:Int))=ä:=ü
 have r:(op==(1:Int))=ä:=ð
 have z2:(op==(2:Int))=ä:=ą
 by_cases hy:y=0
 .subst hy
  refine(mO vs cs nr a b line fs out fu dn 2).nm fun n f=> ?_
  rw [uG,z0,r,z2,cK,if_neg i,if_neg j,if_neg m,if_pos rfl];simp only [ez,f];exact⟨v0,rfl,fun w k=>ń⟩
 have u:(y==(0:Int))=ä:=õ
 have s:(y !=(0:Int))=å:=õ
 by_cases t:op=4
 .subst t
  refine((YQ x y).and (kT (Ρ x y))).nm fun n ⟨d,g⟩=> ?_
  rw [uG,z0,r,z2,u,s,d,cK,if_neg i,if_neg j,if_neg m,if_neg hy,if_pos rfl];simp only [ez,Z,g];exact⟨nV _,rfl,fun w k=>Ť⟩
 .have z4:(op==(4:Int))=ä:=by simpa using t
  refine(((YQ x y).and (mO vs cs nr a b line fs out fu dn 1)).and (kT (iV x y).1)).nm fun n ⟨⟨d,f⟩,g⟩=> ?_
  rw [uG,z0,r,z2,u,d,cK,if_neg i,if_neg j,if_neg m,if_neg hy,if_neg t];simp only [ez,Z,z4,f,g];obtain⟨p,q⟩:=iV x y;cases q
  .exact⟨nV p,rfl,fun w k=>ń⟩
  .exact⟨nV p,rfl,fun w k=>Ť⟩
theorem aCR (op x y:Int) (h:0<=op/\op<=4):W fun n=> ∃k:Int,LW n (op+9) x y=ã (k,iD (cK op x y))/\ ∀w,cK op x y=.inr w->nV k=w:=by
 by_cases d:op=0
 .subst d
  refine(YR x y).nm fun n b=> ?_
  rw [uI,show((0:Int)+9==(9:Int))=å from rfl,b,cK,if_pos rfl];simp only [Y,Z];obtain⟨p,q⟩:=gx x y;cases q
  .exact⟨0,rfl,fun w k=>ń⟩
  .exact⟨p,rfl,fun w k=>Ť⟩
 by_cases f:op=1
 .subst f
  refine(aCr x y).nm fun n b=> ?_
  rw [uI,show((1:Int)+9==(9:Int))=ä from rfl,show((1:Int)+9==(10:Int))=å from rfl,b,cK,if_neg (show ¬(1:Int)=0 by omega),if_pos rfl]
  simp only [Y,ez,Z];obtain⟨p,q⟩:=jR x y;cases q
  .exact⟨0,rfl,fun w k=>ń⟩
  .exact⟨p,rfl,fun w k=>Ť⟩
 by_cases g:op=2
 .subst g
  refine(aCO x y).nm fun n b=> ?_
  rw [uI,show((2:Int)+9==(9:Int))=ä from rfl,show((2:Int)+9==(10:Int))=ä from rfl,show((2:Int)+9==(11:Int))=å from rfl,b,cK,if_neg (show ¬(2:Int)=0 by omega),if_neg (show ¬(2:Int)=1 by omega),if_pos rfl]
  simp only [Y,ez,Z];obtain⟨p,q⟩:=fX x y;cases q
  .exact⟨0,rfl,fun w k=>ń⟩
  .exact⟨p,rfl,fun w k=>Ť⟩
 have z0:(op+9==(9:Int))=ä:=ź
 have i:(op+9==(10:Int))=ä:=ź
 have z2:(op+9==(11:Int))=ä:=ź
 by_cases hy:y=0
 .subst hy
  refine(W.ge 0).nm fun n _=> ?_
  rw [uI,z0,i,z2,cK,if_neg d,if_neg f,if_neg g,if_pos rfl];exact⟨0,rfl,fun w k=>ń⟩
 have m:(y==(0:Int))=ä:=õ
 have j:(y !=(0:Int))=å:=õ
 by_cases r:op=4
 .subst r
  refine(W.ge 0).nm fun n _=> ?_
  rw [uI,z0,i,z2,m,j,cK,if_neg d,if_neg f,if_neg g,if_neg hy,if_pos rfl];exact⟨Ρ x y,rfl,fun w k=>Ť⟩
 .have z4:(op+9==(13:Int))=ä:=by simp;omega
  refine(aCs x y).nm fun n b=> ?_
  rw [uI,z0,i,z2,m,z4,b,cK,if_neg d,if_neg f,if_neg g,if_neg hy,if_neg r];simp only [ez,Z];obtain⟨p,q⟩:=iV x y;cases q
  .exact⟨0,rfl,fun w k=>ń⟩
  .exact⟨p,rfl,fun w k=>Ť⟩
theorem Ze {a b:V} (d:bO a) (f:bO b):Λ ((aI a).length+(aI b).length) mx=å:=by
 have g:=lO d;have h:=lO f;exact qy ž
theorem aCS (vs:ae) (cs:ai) (nr:Int) (a b:af) (line:O) (fs:af) (out:O) (fu:Int) (dn:Bool) {x y:V} (d:bO x) (hy:bO y):W fun n=> ∃v:V,Kh n vs cs nr 0 a b line fs out fu dn x.1 x.2.1 x.2.2 y.1 y.2.1 y.2.2=ã (v.1,v.2.1,v.2.2,vs,cs,nr,iD (dP 17 x y),a,b,line,fs,out,fu,dn)/\ ∀w,dP 17 x y=.inr w->v=w:=by
 refine(((jF x).and (jF y)).and (mO vs cs nr a b line fs out fu dn 3)).nm fun n ⟨⟨f,g⟩,i⟩=> ?_
 rw [apN,f,Z,g,Z,Ze d hy,Y,dP,if_neg ž,if_pos rfl]
 by_cases h:300<(aI x++aI y).length
 .rw [hC ž,if_pos h,Y,i]
  exact⟨v0,rfl,fun w k=>ń⟩
 .rw [hJ ž,if_neg h]
  exact⟨tV (aI x++aI y),rfl,fun w k=>Ť⟩
theorem aCT (k:Int) {x y:V} (b:bO x) (hy:bO y) (hk:0<=k/\k<=5):W fun n=>Kw n k x.1 x.2.1 x.2.2 y.1 y.2.1 y.2.2=ã (bV (oR k (gj x y))):=by
 refine((aCx b hy).and (Fv (oR k (gj x y)))).nm fun n ⟨d,f⟩=> ?_
 rw [aqO,d,Z,hC (show 0<=k/\k<6 by omega),Y]
 have e:aO [á (gj x y<0),á (gj x y<=0),á (0<gj x y),á (0<=gj x y),gj x y==0,gj x y !=0] (À k)=ã (oR k (gj x y)):=by
  generalize gj x y=c
  obtain rfl|rfl|rfl|rfl|rfl|rfl:k=0\/k=1\/k=2\/k=3\/k=4\/k=5:=ž
  all_goals rfl
 rw [e,Z,f];rfl
theorem aCU (k c:Int) (hk:0<=k/\k<=5):W fun n=>Mf n (k+15) c=ã (oR k c):=W.succ (W.of fun n=>by
 rw [awY];obtain rfl|rfl|rfl|rfl|rfl|rfl:k=0\/k=1\/k=2\/k=3\/k=4\/k=5:=ž
 all_goals rfl)
theorem Zf (c:Int) {x y:V} (i:bO x) (hy:bO y) (s:12<=c/\c<=23):W fun n=> ∃v:V,LV n (c-12+9) x.1 x.2.1 x.2.2 y.1 y.2.1 y.2.2=ã (v.1,v.2.1,v.2.2,iD (dP c x y))/\ ∀w,dP c x y=.inr w->v=w:=by
 by_cases j:c<=16
 .refine((((cZ (c-12+9) 9 13).and (oO i.2.1)).and (oO hy.2.1)).and (aCR (c-12) (aK x) (aK y) ž)).nm fun n ⟨⟨⟨b,d⟩,f⟩,k,g,q⟩=> ?_
  have r:jB (n) k=ã (nV k):=by
   cases n with
   |zero=>cases b
   |succ n=>exact Wn n k
  rw [Nr,b,Z,aA (show In (c-12+9) 9 13 from⟨ž,ž⟩),Y,d,Z,f,Z,g,Z,r,dP,if_pos j]
  exact⟨nV k,rfl,q⟩
 have m: ¬In (c-12+9) 9 13:=fun k=>by have:=k.2;omega
 by_cases p:c=17
 .subst p
  refine((((cZ ((17:Int)-12+9) 9 13).and (nI x)).and (nI y)).and (sG (aI x++aI y))).nm fun n ⟨⟨⟨b,d⟩,f⟩,g⟩=> ?_
  rw [Nr,b,Z,aw m,ez,show((17:Int)-12+9==14)=å from rfl,Y,d,Z,f,Z,Ze i hy,Y,dP,if_neg j,if_pos rfl];by_cases h:300<(aI x++aI y).length
  .rw [hC ž,if_pos h]
   exact⟨v0,rfl,fun w k=>ń⟩
  .rw [hJ ž,if_neg h,g]
   exact⟨tV (aI x++aI y),rfl,fun w k=>Ť⟩
 .refine((((cZ (c-12+9) 9 13).and (aCy i hy)).and (aCU (c-18) (gj x y) ž)).and (zk (oR (c-18) (gj x y)))).nm fun n ⟨⟨⟨b,d⟩,f⟩,g⟩=> ?_
  have z:(c-12+9==(14:Int))=ä:=ź
  rw [Nr,b,Z,aw m,ez,z,ez,d,Z,show c-12+9=c-18+15 by omega,f,Z,g,dP,if_neg j,if_neg p]
  exact⟨bV (oR (c-18) (gj x y)),rfl,fun w k=>Ť⟩
theorem FA {r:Int×Bool} (h:aW r.1) {w:V} (e:qA r=.inr w):bO w:=by
 obtain⟨p,q⟩:=r;cases q
 .cases e
 .cases e;exact nn h
theorem aCV {op x y:Int} (b:aW x) {w:V} (e:cK op x y=.inr w):bO w:=by
 unfold cK at e;split at e
 .exact FA (aiJ x y) e
 split at e
 .exact FA (aiK x y) e
 split at e
 .exact FA (aiM x y) e
 split at e
 .cases e
 split at e
 .cases e
  refine nn (gw ?_)
  have d:=dZ b;have f:(Ρ x y).natAbs<=x.natAbs:=by rw [Int.natAbs_tmod];exact Nat.mod_le _ _
  omega
 .exact FA (aiL x y) e
theorem Oq {β:Type} {f:UInt8->UInt8} {len:Nat} (d:len<=1048576) {L:Nat->Int->O->Option (Sum O β)}
  (b: ∀m (i:Nat) (l:O) (h:i<à l),à l=len->L (m+1) (i:Int) l=L m (Þ ß ((i:Int)+(1:Int))) (l.set i (f l[i])))
  (he: ∀m (l:O),à l=len->L (m+1) (len:Int) l=ã (.inl l)): ∀k m (i:Nat) (l:O),à l=len->i+k=len->k<m->L m (i:Int) l=ã (.inl (l.take i++(l.drop i).map f))
 |0,m,i,l,e,h,hm=>by
  obtain⟨m,rfl⟩: ∃m',m=m'+1:=⟨m-1,ž⟩
  obtain rfl:i=len:=ž
  rw [he m l e,Û ž,ω ž];simp
 |k+1,m,i,l,e,h,hm=>by
  obtain⟨m,rfl⟩: ∃m',m=m'+1:=⟨m-1,ž⟩
  have hi:i<à l:=ž
  rw [b m i l hi e,du (len:=len) ž ž,Oq d b he k m (i+1) (l.set i (f l[i])) (by simp [e]) ž ž]
  congr 2
  rw [List.drop_set_of_lt ž,Â hi,List.map_cons,List.take_set,HH hi,ύ _ _ ź]
  simp [Nat.min_eq_left (Nat.le_of_lt hi)]
def oS (p q c:UInt8):UInt8:=if p.toNat<=c.toNat/\c.toNat<p.toNat+26 then Ä (c.toNat-p.toNat+q.toNat)else c
def nK (p q:UInt8) (s:O):O:=s.map (oS p q)
theorem FB {l:O} {i:Nat} (h:i<à l):l.set i l[i]=l:=Ż
theorem Zg {p:UInt8} (hp:p.toNat<=200):Þ .u8 ((p.toNat:Int)+26)=(p.toNat:Int)+26:=ŝ
theorem Zh {p q c:UInt8} (_:p.toNat<=200) (d:q.toNat<=200) (h:p.toNat<=c.toNat) (b:c.toNat<p.toNat+26):Ä (À (Þ .u8 ((Þ .u8 ((c.toNat:Int)-(p.toNat:Int)))+(q.toNat:Int))))=oS p q c:=by
 rw [oS,if_pos ⟨h,b⟩];congr 1
 rw [Ϭ,Ϭ];omega
theorem Zi (s:O) (p q:UInt8) (hp:p.toNat<=200) (b:q.toNat<=200) (d:à s<=1048576):W fun n=>ug n s p q=ã (nK p q s):=by
 refine((W.ge (à s+1)).and (W.ge 1)).nm fun n ⟨k,_⟩=> ?_
 have key:=Oq (f:=oS p q) d (L:=fun m i l=>qk n m i q p l)
  (fun m i l h e=>by
   show qk n (m+1) (i:Int) q p l=_;rw [Vu,dR,dR,aU h,hC (show (0:Int)<=(i:Int)/\(i:Int)<(à l:Int) by omega),ie h]
   simp only [Y,Z];by_cases g:p.toNat<=(l[i]).toNat
   .rw [hC ž,Y,Zg hp]
    by_cases j:(l[i]).toNat<p.toNat+26
    .rw [hC ž,Y,Zh hp b g j];rfl
    .rw [hJ ž,ez,oS,if_neg ž,FB h]
   .rw [hJ ž,ez,oS,if_neg ž,FB h])
  (fun m l e=>by
   show qk n (m+1) (à s:Int) q p l=_;rw [Vu,e,bM,ez]) (à s) n 0 s rfl ž ž
 rw [aqM,dR,dR,aX ž,Y]
 refine(congrArg (fun o=>Option.bind o _) key).trans ?_
 simp [aq,nK]
theorem Zj (s:O) (p q:UInt8) (hp:p.toNat<=200) (b:q.toNat<=200) (d:à s<=1048576):W fun n=>uy n s p q=ã (nK p q s):=by
 refine((W.ge (à s+1)).and (W.ge 1)).nm fun n ⟨k,_⟩=> ?_
 have key:=Oq (f:=oS p q) d (L:=fun m i l=>qo n m i q p l (à s:Int))
  (fun m i l h e=>by
   show qo n (m+1) (i:Int) q p l (à s:Int)=_;rw [WH,dR,dR,<-e,aU h,hC (show (0:Int)<=(i:Int)/\(i:Int)<(à l:Int) by omega),ie h]
   simp only [Y,Z];by_cases g:p.toNat<=(l[i]).toNat
   .rw [hC ž,Y,Zg hp]
    by_cases j:(l[i]).toNat<p.toNat+26
    .rw [hC ž,Y,Zh hp b g j];rfl
    .rw [hJ ž,ez,oS,if_neg ž,FB h]
   .rw [hJ ž,ez,oS,if_neg ž,FB h])
  (fun m l e=>by
   show qo n (m+1) (à s:Int) q p l (à s:Int)=_;rw [WH,bM,ez]) (à s) n 0 s rfl ž ž
 rw [awO,dR,dR,aX ž,Y]
 refine(congrArg (fun o=>Option.bind o _) key).trans ?_
 simp [aq,nK]
theorem uT: ∀(t s:O), -1<=cI t s/\cI t s<=à s
 |t,[]=>by rw [cI];cases Ý t ([]:O)<;>simp
 |t,b::s=>by
  have ih:=uT t s;rw [cI];cases Ý t (b::s)
  .simp only [ez,Ç]
   by_cases h:0<=cI t s
   .rw [hC h,Y];omega
   .rw [hJ h,ez];omega
  .simp only [Y];omega
theorem Zk {t s:O} (h:à s<à t):Ý t s=ä:=by
 cases e:Ý t s
 .rfl
 .have:=(Ο.1 e).length_le;omega
theorem aCW (t s:O):Ý t s=(s.take (à t)==t):=by
 rw [Bool.eq_iff_iff,Ο,beq_iff_eq];exact⟨fun h=>(χ.1 h).symm,fun h=>χ.2 h.symm⟩
theorem Zl: ∀(t s:O),à s<à t->cI t s= -1
 |t,[],h=>by rw [cI,Zk h];rfl
 |t,b::s,h=>by rw [cI,Zk h,Zl t s (by simp at h;omega)];rfl
theorem aCX {t s:O} {i:Nat} (h:i<à s) (hp:Ý t (s.drop i)=ä):cI t (s.drop i)=cond (á (0<=cI t (s.drop (i+1)))) (cI t (s.drop (i+1))+1) (-1):=by
 rw [Â h]at hp |-;rw [cI,hp,ez]
theorem Zm {t s:O} (hp:Ý t s=å):cI t s=0:=by
 cases s with
 |nil=>rw [cI,hp];rfl
 |cons b s=>rw [cI,hp];rfl
theorem Zn {t s:O} (f:à s<=1048576) (g:à t<=1048576) (n:Nat): ∀k m (i:Nat),à s-i=k->k<m->i<=à s+1->
  CQ n m (i:Int) t s=ã (cond (á (0<=cI t (s.drop i))&&á (i<=à s)) (.inr ((i:Int)+cI t (s.drop i)+1)) (.inl ()))
 |k,0,i,e,hm,hi=>ž
 |k,m+1,i,e,hm,hi=>by
  have hw:Þ ß ((i:Int)+(à t:Int))=((i+à t:Nat):Int):=ż
  rw [aqL,hw];by_cases h:i+à t<=à s
  .have p:=uT t (s.drop i)
   rw [hC ž,Y,hC ž,Y,hC (show i<=à s by omega),ϟ]
   have j:(s.drop (À (i:Int))).take (À ((i+à t:Nat):Int)-À (i:Int))=(s.drop i).take (à t):=by
    rw [Æ,Æ,Χ]
   rw [j,<-aCW,du (len:=i+1) ž ž]
   cases hp:Ý t (s.drop i)
   .rw [ez]
    by_cases b:i<à s
    .rw [Zn f g n (à s-(i+1)) m (i+1) rfl ž ž,aCX b hp,hC (show i+1<=à s by omega),ϟ]
     by_cases d:0<=cI t (s.drop (i+1))
     .rw [hC d,Y,Y,hC ž,Y]
      congr 2;omega
     .rw [hJ d,ez,ez];rfl
    .have:t=[]:=Ò ž
     subst this;cases hp
   .rw [Zm hp,Y]
    congr 2
  .rw [hJ (show ¬((i+à t:Nat):Int)<=(à s:Int) by omega),ez]
   by_cases b:i<=à s
   .rw [Zl t (s.drop i) ź];rfl
   .rw [hJ b,Bool.and_false];rfl
theorem aCY (s t:O) (d:à s<=1048576) (f:à t<=1048576):W fun n=>Ku n s t=ã (cI t s+1):=by
 refine(W.ge (à s+1)).nm fun n g=> ?_
 rw [aqK,show(0:Int)=((0:Nat):Int)from rfl,Zn d f n (à s-0) n 0 rfl ž ž,Z]
 have h:=uT t s;rw [hC (show 0<=à s by omega),ϟ,Ü]
 by_cases b:0<=cI t s
 .rw [hC b,Y,wJ];congr 1;omega
 .rw [hJ b,ez,cO];congr 1;omega
theorem aCZ (n:Nat) (s t:O):LU (n+1) s t=cond (Λ (Ζ (α:=UInt8) s) 4000000000) (ã (cI t s)) â:=Ž
theorem aDa (s t:O) (b:à s<=1048576):W fun n=>LU n s t=ã (cI t s):=W.succ (W.of fun n=>by
 rw [aCZ,Ð ž];rfl)
def oT (s:O) (f t:Int):O:=if min t (à s:Int)<max f 1 then []else(s.drop (max f 1-1).toNat).take ((min t (à s:Int)).toNat-(max f 1-1).toNat)
theorem aDb (s:O) (f t:Int):(oT s f t).length<=à s:=by
 unfold oT;split
 .simp
 .simp only [List.length_take,ϩ];omega
theorem Ot (s:O) (f t:Int):cond (á (min t (à s:Int)<max f 1)) (ã []) (cond (á (0<=max f 1-1/\max f 1-1<=min t (à s:Int)/\min t (à s:Int)<=(à s:Int))) (ã ((s.drop (À (max f 1-1))).take (À (min t (à s:Int))-À (max f 1-1)))) â)=ã (oT s f t):=by
 rw [oT];by_cases h:min t (à s:Int)<max f 1
 .rw [hC h,if_pos h];rfl
 .rw [hJ h,if_neg h,ez,hC ž,Y]
theorem Zo (s:O) (f t:Int) (_:à s<=1048576) (j: -100000000<=f/\f<=100000000):W fun n=>Em n s f t=ã (oT s f t):=W.succ (W.of fun n=>by
 have b:cond (á ((à s:Int)<t)) (à s:Int) t=min t (à s:Int):=by
  by_cases h:(à s:Int)<t
  .rw [hC h,Y];omega
  .rw [hJ h,ez];omega
 have d:cond (á (f<1)) 1 f=max f 1:=by
  by_cases h:f<1
  .rw [hC h,Y];omega
  .rw [hJ h,ez];omega
 have g:Þ ß (max f 1-1)=max f 1-1:=ż
 rw [awP,b,d,g,Ot])
theorem Zp (x y:Int):W fun n=>Cv n x y=ã (min y x):=W.succ (W.of fun n=>by
 rw [aoR];by_cases h:x<y
 .rw [hC h,Y];congr 1;omega
 .rw [hJ h,ez];congr 1;omega)
theorem Zq (x y:Int):W fun n=>rW n x y=ã (max x y):=W.succ (W.of fun n=>by
 rw [UO];by_cases h:y<x
 .rw [hC h,Y];congr 1;omega
 .rw [hJ h,ez];congr 1;omega)
def ah (l:List V) (i:Nat):V:=l.getD i v0
theorem ke {l:List V} {i:Nat} (h:i<à l):au l (i:Int)=ã (ah l i):=by
 rw [bB h,ah];simp [h]
theorem eW {l:List V} (b: ∀v∈l,bO v) (i:Nat):bO (ah l i):=by
 by_cases h:i<à l
 .have e:ah l i=l[i]:=by rw [ah];simp [h]
  rw [e];exact b _ (Á h)
 .have e:ah l i=v0:=by rw [ah];simp [h]
  rw [e];exact tJ
def zo:O:=[108,101,110,103,116,104]
def Ou:O:=[115,117,98,115,116,114]
def FC:O:=[105,110,100,101,120]
def FD:O:=[105,110,116]
def FE:O:=[117,112,112,101,114]
def FF:O:=[108,111,119,101,114]
noncomputable def uU (l:List V):Int:=if à l=3 then cN (aK (ah l 1))+cN (aK (ah l 2))-1 else((aI (ah l 0)).length:Int)
noncomputable def jG (nm:O) (l:List V):V:=
 if nm=zo then nV (1000000*((aI (ah l 0)).length:Int))else if nm=FD then nV (jS (aK (ah l 0)))else if nm=FC then nV (1000000*(cI (aI (ah l 1)) (aI (ah l 0))+1))
 else if nm=FE then tV (nK 97 65 (aI (ah l 0)))else if nm=FF then tV (nK 65 97 (aI (ah l 0)))else tV (oT (aI (ah l 0)) (cN (aK (ah l 1))) (uU l))
theorem Ov {nm:O} (h:nm∈jt):nm=zo\/nm=Ou\/nm=FC\/nm=FD\/nm=FE\/nm=FF:=by
 simpa [jt,zo,Ou,FC,FD,FE,FF]using h
theorem FH {v:V} (h:bO v):Þ ß (Ë (aK v) 1000000)=cN (aK v)/\ -9000000<=cN (aK v)/\cN (aK v)<=9000000:=On (kM h)
theorem aDc (l:List V) (b: ∀v∈l,bO v) (h2:2<=à l/\à l<=3):W fun n=>Kv n l=ã (oT (aI (ah l 0)) (cN (aK (ah l 1))) (uU l)):=by
 have p:=eW b 0;have d:=eW b 1;have g:=eW b 2;obtain⟨q,b1⟩:=FH d;obtain⟨r,b2⟩:=FH g;have hl:=lO p;have t:Þ ß (Þ ß (cN (aK (ah l 1))+cN (aK (ah l 2)))-1)=cN (aK (ah l 1))+cN (aK (ah l 2))-1:=ū
 have base:=((((jF (ah l 0)).and (kd d.2.1)).and (kd g.2.1)).and (Zq (cN (aK (ah l 1))) 1)).and (Zp ((aI (ah l 0)).length:Int) (cN (aK (ah l 1))+cN (aK (ah l 2))-1));refine base.nm fun n ⟨⟨⟨⟨u,e2⟩,e3⟩,h⟩,e5⟩=> ?_
 have a0:au l 0=ã (ah l 0):=ke (i:=0) ž
 have a1:au l 1=ã (ah l 1):=ke (i:=1) ž
 rw [aqN,uU,a0,Z,u,Z,a1,Z,e2,Z,q];generalize cN (aK (ah l 1))=f at*
 generalize aI (ah l 0)=s at*
 have j:Þ ß (max f 1-1)=max f 1-1:=ż
 by_cases m:à l=3
 .have a2:au l 2=ã (ah l 2):=ke (i:=2) ž
  have z:((à l:Int)==3)=å:=ź
  rw [z,Y,a2,Z,e3,Z,r,t,e5,Z,h,Z,j,Ot,if_pos m]
 .have z:((à l:Int)==3)=ä:=by simp;omega
  have k:=Ot s f (à s:Int);rw [Int.min_self]at k;rw [z,ez,h,Z,j,k,if_neg m]
theorem Zr {a b:O} (h:a≠b):(a==b)=ä:=Ű
theorem Zs (nm:O) (l:List V) (f: ∀v∈l,bO v) (p:1<=à l/\à l<=3) (k:à l=1->nm=zo\/nm=FD\/nm=FE\/nm=FF) (q:nm∈jt):W fun n=>xT n nm l=ã (jG nm l):=by
 have g:=eW f 0;have r:=eW f 1;have u:=lO g;have z:=lO r;have a0:au l 0=ã (ah l 0):=ke (i:=0) ž
 rcases Ov q with rfl|rfl|rfl|rfl|rfl|rfl
 .refine((jF (ah l 0)).and (kT (1000000*((aI (ah l 0)).length:Int)))).nm fun n ⟨d,b⟩=> ?_
  have w:Þ ß (1000000*((aI (ah l 0)).length:Int))=1000000*((aI (ah l 0)).length:Int):=ż
  rw [uH,show(zo==([108,101,110,103,116,104]:O))=å from rfl,Y,a0,Z,d,Z,w,b,jG,if_pos rfl];rfl
 .have m:2<=à l:=by
   by_cases h:à l=1
   .rcases k h with h|h|h|h<;>exact absurd h ŷ
   .omega
  refine(aDc l f ⟨m,p.2⟩).nm fun n d=> ?_
  rw [uH,d];rfl
 .have m:2<=à l:=by
   by_cases h:à l=1
   .rcases k h with h|h|h|h<;>exact absurd h ŷ
   .omega
  have s:au l 1=ã (ah l 1):=ke (i:=1) ž
  have hb:=uT (aI (ah l 1)) (aI (ah l 0));have w:Þ ß (1000000*(cI (aI (ah l 1)) (aI (ah l 0))+1))=1000000*(cI (aI (ah l 1)) (aI (ah l 0))+1):=ż
  refine((((jF (ah l 0)).and (jF (ah l 1))).and (aCY (aI (ah l 0)) (aI (ah l 1)) ž ž)).and (kT (1000000*(cI (aI (ah l 1)) (aI (ah l 0))+1)))).nm fun n ⟨⟨⟨d,b⟩,j⟩,t⟩=> ?_
  rw [uH,a0,s];simp only [Z,d,b,j,w,t];rfl
 .refine(((kd g.2.1).and (aCt (kM g))).and (kT (jS (aK (ah l 0))))).nm fun n ⟨⟨d,b⟩,j⟩=> ?_
  rw [uH,a0];simp only [Z,d,b,j];rfl
 .refine((jF (ah l 0)).and (Zi (aI (ah l 0)) 97 65 ŷ ŷ ž)).nm fun n ⟨d,b⟩=> ?_
  rw [uH,a0];have b:ug n (aI (ah l 0)) ((Ä (À 97)):UInt8) ((Ä (À 65)):UInt8)=_:=b;simp only [Z,d,b];rfl
 .refine((jF (ah l 0)).and (Zi (aI (ah l 0)) 65 97 ŷ ŷ ž)).nm fun n ⟨d,b⟩=> ?_
  rw [uH,a0];have b:ug n (aI (ah l 0)) ((Ä (À 65)):UInt8) ((Ä (À 97)):UInt8)=_:=b;simp only [Z,d,b];rfl
theorem FI {l:List V} (_:1<=à l) (i:Nat):ah (l++[v0]) i=ah l i:=by
 unfold ah;by_cases h:i<à l
 .simp [List.getElem?_append_left h]
 .simp only [List.getD_eq_getElem?_getD]
  rw [ξ ž,List.getElem?_eq_none (show à l<=i by omega)]
  cases i-à l<;>simp
theorem aDd {l:List V} {nm:O} (b:à l=1):jG nm (l++[v0])=jG nm l:=by
 unfold jG uU;rw [FI ž,FI ž,FI ž,if_neg (show ¬(l++[v0]).length=3 by simp;omega),if_neg (show ¬à l=3 by omega)]
theorem aDe {l:List V} (b: ∀v∈l,bO v): ∀v∈l++[v0],bO v:=fun v h=>by
 rcases Ö.1 h with h|h
 .exact b v h
 .rw [Μ.1 h];exact tJ
theorem aDf (nm:O) (l:List V) (g: ∀v∈l,bO v) (j:1<=à l/\à l<=3) (f:nm∈jt):W fun n=>Kr n nm l=ã (jG nm l):=by
 by_cases b:à l=1/\(nm=FC\/nm=Ou)
 .refine(Zs nm (l++[v0]) (aDe g) ź (fun h=>absurd h ő) f).nm fun n d=> ?_
  have d:xT n nm (l++[(0,0,[])])=ã (jG nm (l++[v0])):=d;rw [Vt,hC (show (à l:Int)<2 by omega),Y]
  have k:(cond (nm==([105,110,100,101,120]:O)) (ã å) (ã (nm==([115,117,98,115,116,114]:O))))=ã å:=by
   rcases b.2 with rfl|rfl<;>rfl
  rw [k,Z,Y,aX ž,Y,aX ž,Y,d,aDd b.1];rfl
 .refine(Zs nm l g j (fun h=> ?_) f).nm fun n d=> ?_
  .rcases Ov f with k|k|k|k|k|k
   .exact .inl k
   .exact absurd ⟨h,.inr k⟩ b
   .exact absurd ⟨h,.inl k⟩ b
   .exact .inr (.inl k)
   .exact .inr (.inr (.inl k))
   .exact .inr (.inr (.inr k))
  .rw [Vt]
   by_cases i:à l=1
   .have k1:(nm==([105,110,100,101,120]:O))=ä:=Zr fun k=>b ⟨i,.inl k⟩
    have k2:(nm==([115,117,98,115,116,114]:O))=ä:=Zr fun k=>b ⟨i,.inr k⟩
    rw [hC (show (à l:Int)<2 by omega),k1,k2]
    simp only [Y,ez,Z,d]
   .rw [hJ (show ¬(à l:Int)<2 by omega)]
    simp only [ez,Z,d]
def jH (l:List V):List V:=if à l=1 then l++[v0]else l
theorem aDg {l:List V} (h:1<=à l):2<=(jH l).length/\((jH l).length=3↔à l=3)/\(à l<=3->(jH l).length<=3):=by
 unfold jH;split
 .simp;omega
 .omega
theorem aDh (l:List V) (nm:O) (d:1<=à l/\à l<=3):W fun n=>El n n 0 0 [] l nm=ã (.inl (0,0,[],jH l,nm)):=by
 refine(W.ge 2).mono fun n f=> ?_
 obtain⟨n,rfl⟩: ∃k,n=k+2:=⟨n-2,ž⟩
 rw [WG,jH];by_cases h:à l=1
 .have b:DM (n+2) l=ã l:=by rw [YW,aX ž];rfl
  rw [hC ž,Y,b,Z,aX ž,Y,WG,hJ ź,if_pos h];rfl
 .rw [hJ ž,if_neg h];rfl
theorem aDi {l:List V} (b:1<=à l) (i:Nat):ah (jH l) i=ah l i:=by
 unfold jH;split
 .exact FI b i
 .rfl
theorem at0 {l:List V} {i:Nat} (h:i<(jH l).length) (b:1<=à l):aO (jH l) i=ã (ah l i):=by
 have k:=ie h;rw [Æ]at k;rw [k,<-aDi b,ah];simp [h]
theorem aDj (nm:O) (l:List V) (m: ∀v∈l,bO v) (j:1<=à l/\à l<=3) (u:nm∈jt):W fun n=>LS n nm l=ã (jG nm l):=by
 have p:=eW m 0;have k:=eW m 1;have s:=eW m 2;have l0:=lO p;have l1:=lO k;have hp:=aDg j.1;have a0:=at0 (l:=l) (i:=0) ž j.1
 have q:=at0 (l:=l) (i:=1) ž j.1
 have g0:á ((0:Int)<=0/\(0:Int)<((jH l).length:Int))=å:=hC ž
 have g1:á ((0:Int)<=1/\(1:Int)<((jH l).length:Int))=å:=hC ž
 have base:=(aDh l nm j).and (nI (ah l 0));rcases Ov u with rfl|rfl|rfl|rfl|rfl|rfl
 .refine(base.and (nH (1000000*((aI (ah l 0)).length:Int)))).nm fun n ⟨⟨d,f⟩,b⟩=> ?_
  have w:Þ ß (((aI (ah l 0)).length:Int)*1000000)=1000000*((aI (ah l 0)).length:Int):=ż
  rw [sC,d,Z,cO,g0,Y,a0,Z,f,Z,w,b];rfl
 .obtain⟨w1,b1⟩:=FH k
  obtain⟨w2,b2⟩:=FH s;by_cases t:à l=3
  .have a2:=at0 (l:=l) (i:=2) ž j.1
   have g2:á ((0:Int)<=2/\(2:Int)<((jH l).length:Int))=å:=hC ž
   have z:Þ ß (Þ ß (cN (aK (ah l 1))+cN (aK (ah l 2)))-1)=cN (aK (ah l 1))+cN (aK (ah l 2))-1:=ū
   refine((((base.and (Fz k)).and (Fz s)).and (Zo (aI (ah l 0)) (cN (aK (ah l 1))) (cN (aK (ah l 1))+cN (aK (ah l 2))-1) ž ž)).and (sG (oT (aI (ah l 0)) (cN (aK (ah l 1))) (cN (aK (ah l 1))+cN (aK (ah l 2))-1)))).nm fun n ⟨⟨⟨⟨⟨d,f⟩,b⟩,g⟩,h⟩,r⟩=> ?_
   rw [sC,d,Z,cO,g0,Y,a0,Z,f,Z];simp only [g1,g2,q,a2,Z,b,g,z,h,r,Y];rw [hC (show (2:Int)<((jH l).length:Int) by omega),jG,uU,if_pos t];rfl
  .refine(((base.and (Fz k)).and (Zo (aI (ah l 0)) (cN (aK (ah l 1))) ((aI (ah l 0)).length:Int) ž ž)).and (sG (oT (aI (ah l 0)) (cN (aK (ah l 1))) ((aI (ah l 0)).length:Int)))).nm fun n ⟨⟨⟨⟨d,f⟩,b⟩,h⟩,r⟩=> ?_
   rw [sC,d,Z,cO,g0,Y,a0,Z,f,Z];simp only [g1,q,Z,b,h,r,Y];rw [hJ (show ¬(2:Int)<((jH l).length:Int) by omega),jG,uU,if_neg t];rfl
 .have hb:=uT (aI (ah l 1)) (aI (ah l 0))
  have w0:Þ ß (cI (aI (ah l 1)) (aI (ah l 0))+1)=cI (aI (ah l 1)) (aI (ah l 0))+1:=ż
  have w:Þ ß ((cI (aI (ah l 1)) (aI (ah l 0))+1)*1000000)=1000000*(cI (aI (ah l 1)) (aI (ah l 0))+1):=ż
  refine(((base.and (nI (ah l 1))).and (aDa (aI (ah l 0)) (aI (ah l 1)) ž)).and (nH (1000000*(cI (aI (ah l 1)) (aI (ah l 0))+1)))).nm fun n ⟨⟨⟨⟨d,f⟩,b⟩,g⟩,h⟩=> ?_
  rw [sC,d,Z,cO,g0,Y,a0,Z,f,Z];simp only [g1,q,Z,b,g,w0,w,h,Y];rfl
 .refine(((base.and (oO p.2.1)).and (YS (kM p))).and (nH (jS (aK (ah l 0))))).nm fun n ⟨⟨⟨⟨d,f⟩,b⟩,g⟩,h⟩=> ?_
  rw [sC,d,Z,cO,g0,Y,a0,Z,f,Z];simp only [Z,b,g,h,Y];rfl
 .refine((base.and (Zj (aI (ah l 0)) 97 65 ŷ ŷ ž)).and (sG (nK 97 65 (aI (ah l 0))))).nm fun n ⟨⟨⟨d,f⟩,b⟩,g⟩=> ?_
  have b:uy n (aI (ah l 0)) ((Ä (À 97)):UInt8) ((Ä (À 65)):UInt8)=_:=b;rw [sC,d,Z,cO,g0,Y,a0,Z,f,Z];simp only [Z,b,g];rfl
 .refine((base.and (Zj (aI (ah l 0)) 65 97 ŷ ŷ ž)).and (sG (nK 65 97 (aI (ah l 0))))).nm fun n ⟨⟨⟨d,f⟩,b⟩,g⟩=> ?_
  have b:uy n (aI (ah l 0)) ((Ä (À 65)):UInt8) ((Ä (À 97)):UInt8)=_:=b;rw [sC,d,Z,cO,g0,Y,a0,Z,f,Z];simp only [Z,b,g];rfl
theorem aDk (nm:O) {l:List V} (d: ∀v∈l,bO v):bO (jG nm l):=by
 have f:=eW d 0;have g:=eW d 1;have b:=lO f;unfold jG;split
 .exact nn (gw ž)
 split
 .exact nn (aiN (kM f))
 split
 .have h:=uT (aI (ah l 1)) (aI (ah l 0))
  exact nn (gw ž)
 split
 .exact tK (by simpa [nK]using b)
 split
 .exact tK (by simpa [nK]using b)
 .exact tK (Nat.le_trans (aDb _ _ _) b)
theorem Zt {s:O} (h:kN s) {i:Nat} (d:1<=i) (b:i<à s): ¬(s[i]).toNat<=(s[i-1]'(by omega)).toNat:=by
 have:=List.pairwise_iff_getElem.1 h (i-1) i ž b ž
 omega
theorem Zu {s:O} {i:Nat} (b:1<=i) (d:i<à s) (f:à s<=1048576):bF s (Þ ß ((i:Int)-1))=ã (s[i-1]'(by omega)):=by
 rw [show Þ ß ((i:Int)-1)=((i-1:Nat):Int) by rw [Å];omega,dy ž]
theorem Zv {s:O} (d:à s<=1048576) (h:kN s) (n:Nat): ∀k m (i:Nat),à s-i=k->k<m->1<=i->CG n m (i:Int) s=ã (.inl ())
 |k,0,i,e,hm,hi=>ž
 |k,m+1,i,e,hm,hi=>by
  rw [apV];by_cases b:i<à s
  .rw [aU b,Zu hi b d,dy b]
   simp only [Y,Z];have k:=Zt h hi b;rw [hJ ž,ez,du b ž]
   exact Zv d h n _ m (i+1) rfl ž ž
  .rw [hJ ž];rfl
theorem aDl {s:O} (b:à s<=1048576) (h:kN s):W fun n=>ua n s=ã å:=by
 refine(W.ge (à s+1)).nm fun n d=> ?_
 rw [apU,show(1:Int)=((1:Nat):Int)from rfl,Zv b h n _ n 1 rfl ž ž];rfl
theorem Ow {s:O} (d:à s<=1048576) (h:kN s) (n:Nat) (o c:Int) (neg:Bool) (ks:aT): ∀k m (i:Nat),à s-i=k->k<m->i<=à s->yD n m o c s neg ks (i:Int) (à s:Int)=ã (.inl (o,c,s,neg,ks))
 |k,0,i,e,hm,hi=>ž
 |k,m+1,i,e,hm,hi=>by
  rw [awD];by_cases b:i<à s
  .rw [aU b,Y,du b ž]
   by_cases f:0<i
   .rw [hC (show (0:Int)<(i:Int) by omega),Zu f b d,dy b]
    simp only [Y,Z];have k:=Zt h f b;rw [hJ ž,ez]
    exact Ow d h n o c neg ks _ m (i+1) rfl ž ž
   .rw [hJ (show ¬(0:Int)<(i:Int) by omega),ez]
    exact Ow d h n o c neg ks _ m (i+1) rfl ž ž
  .rw [hJ ž];rfl
theorem Zw (t q:O): ∀p:O,0<=cI t (p++(t++q))
 | []=>by
  rw [Zm]
  .exact τ _
  .rw [Τ,Ο];exact List.prefix_append _ _
 |b::p=>by
  have ih:=Zw t q p;rw [φ,cI];cases Ý t (b::(p++(t++q)))
  .rw [ez,hC ih,Y];omega
  .exact τ _
theorem aDm (n:Nat) (s:O):uo (n+1) s [93]=ã (á (0<=Β s 93)):=Ž
theorem aDn (n:Nat) (s:O):uo (n+1) s [92,93,94]=cond (Λ (Ζ (α:=UInt8) s) 4000000000) (ã (á (0<=cI [92,93,94] s))) â:=Ž
theorem Ox {s:O} (h:kN s):à s<=256:=by
 have key: ∀(l:O) (k:Nat),kN l->(∀b∈l,k<=b.toNat)->à l+k<=256\/l=[]:=by
  intro l;induction l with
  |nil=>intro k _ _;exact .inr rfl
  |cons a l ih=>
   intro k d f;have m:=a.toNat_lt;have hk:=f a Ż
   obtain⟨g,i⟩:=List.pairwise_cons.1 d;rcases ih (a.toNat+1) i (fun b j=>g b j)with h|h
   .left;simp only [Ç];omega
   .left;rw [h];simp only [Ç,Ó];omega
 rcases key s 0 h (fun _ _=>ž)with h|h
 .omega
 .rw [h];simp
theorem aDo {s:O} {neg:Bool} (h:AR s neg) (o c:Int) (ks:aT):W fun n=>Ea n o c s neg ks=ã å:=by
 obtain⟨f,d,g,b⟩:=h;have m:=Ox d;refine(W.ge (à s+2)).nm fun n r=> ?_
 obtain⟨n,rfl⟩: ∃q,n=q+1:=⟨n-1,ž⟩
 have i:(s==([]:O))=ä:=Ğ
 rw [awC,show(0:Int)=((0:Nat):Int)from rfl,Ow ž d (n+1) o c neg ks _ (n+1) 0 rfl ž ž,Z,cO]
 dsimp only
 rw [aDm,aDn,Ð ž,i]
 have k:(cond (á (0<=Β s 93)) (ã (!decide (0<=cI [92,93,94] s))) (ã ä):Option Bool)=ã ä:=by
  by_cases hm:(93:UInt8)∈s
  .obtain⟨p,q,e⟩:=g hm
   rw [hC ((uM s 93).2.2 hm),Y,e,hC (Zw _ _ _)];rfl
  .rw [hJ (fun k=>hm ((uM s 93).2.1 k))];rfl
 simp only [Z,Y]at k |-;rw [k];rcases b with rfl|b
 .rfl
 .have j:(s==([94]:O))=ä:=by simpa using b
  rw [j];cases neg<;>rfl
theorem Oy: ∀(ks:List Tr) (a:Int),0<=a->(∀k∈ks,0<=dh k/\dh k<=ej k)->a<=gq a ks/\(∀k∈ks,dh k<=gq a ks)/\gq a ks<=a+cq ks
 | [],a,f,h=>by rw [gq,cq];exact⟨τ _,fun k hk=>(by cases hk),ž⟩
 |t::r,a,f,h=>by
  have g:=h t Ż
  rw [gq,cq];have key: ∀b:Int,a<=b->dh t<=b->b<=a+ej t->a<=gq b r/\(∀k∈t::r,dh k<=gq b r)/\gq b r<=a+((ej t+cq r:Nat):Int):=fun b d i j=>by
   obtain⟨m,i2,i3⟩:=Oy r b ž (fun k hk=>h k Ň)
   refine⟨ž,fun k hk=> ?_,ž⟩
   rcases Γ.1 hk with rfl|hk
   .omega
   .exact i2 k hk
  by_cases d:a<dh t
  .rw [hC d,Y];exact key _ ž ž ž
  .rw [hJ d,ez];exact key _ ž ž ž
theorem FJ: ∀ {ks:List Tr} {k:Tr},k∈ks->ej k<=cq ks
 |a::r,k,h=>by
  rw [cq];rcases Γ.1 h with rfl|h
  .omega
  .have:=FJ h;omega
theorem Oz {t:Tr} (h:fY t):ej t<=1000000->1<=dh t/\dh t<=ej t/\dh t=gq 0 (dM t)+1:=by
 induction h with
 |mk h k ih=>
  rename_i t;intro d;rw [Ic]at d |-;obtain⟨f,i2,i3⟩:=Oy (dM t) 0 (τ _) (fun x b=>by
   have:=FJ b;have:=ih x b ž
   omega)
  have e:dh t=gq 0 (dM t)+1:=by rw [NA,Å];omega
  rw [e];omega
theorem aDp {t:Tr} (h:fY t) (d:ej t<=1000000) {x:Tr} (b:x∈dM t):dh x+1<=dh t:=by
 obtain⟨-, -,e⟩:=Oz h d;obtain⟨h,k⟩:=h;rw [Ic]at d;have:=(Oy (dM t) 0 (τ _) (fun x b=>by
   have f:=FJ b;have:=Oz (k x b) ž
   omega)).2.1 x b
 omega
theorem Zx {o c:Int} {s:O} {neg:Bool} {ks:List Tr} (d:à ks<=1048576) {n:Nat} (h: ∀x∈ks,xR n (aG x).1 (aG x).2.1 (aG x).2.2.1 (aG x).2.2.2.1 (aG x).2.2.2.2=ã å): ∀k m (i:Nat),à ks-i=k->k<m->i<=à ks->CF n m o c s neg ks (i:Int)=ã (.inl (o,c,s,neg,ks))
 |k,0,i,e,hm,hi=>ž
 |k,m+1,i,e,hm,hi=>by
  rw [apT];by_cases b:i<à ks
  .rw [aU b,Y,nC b,Z,h _ (Á b),du b ž]
   exact Zx d h _ m (i+1) rfl ž ž
  .rw [hJ ž];rfl
theorem aDq {o c:Int} {s:O} {neg:Bool} {k:Nat} (h:Ib o c s neg k) {n:Nat} (hu:kN s->ua n s=ã å) (i: ∀x lo hi:Int,bS n x lo hi=ã (bo (In x lo hi))):
  cond (o==(1:Int)) (((bS n c 0 255).bind fun f=>cond f (cond (s==([]:O)) (cond (!neg) (ã ((k:Int)==(0:Int))) (ã ä)) (ã ä)) (ã ä)).bind fun d=>ã d) (cond (o==(3:Int)) ((cond (c==(0:Int)) (cond (!(s==([]:O))) ((ua n s).bind fun f=>cond f (ã ((k:Int)==(0:Int))) (ã ä)) (ã ä)) (ã ä)).bind fun d=>ã d) (cond (o==(6:Int)) ((cond (c==(0:Int)) (cond (s==([]:O)) (cond (!neg) (ã (á ((2:Int)<=(k:Int)))) (ã ä)) (ã ä)) (ã ä)).bind fun d=>ã d) (cond (o==(7:Int)) ((cond (c==(0:Int)) (cond (s==([]:O)) (cond (!neg) (ã (á ((2:Int)<=(k:Int)))) (ã ä)) (ã ä)) (ã ä)).bind fun d=>ã d) (cond (o==(8:Int)) ((cond (c==(0:Int)) (cond (s==([]:O)) (cond (!neg) (ã ((k:Int)==(1:Int))) (ã ä)) (ã ä)) (ã ä)).bind fun d=>ã d) (cond (o==(9:Int)) ((cond (c==(0:Int)) (cond (s==([]:O)) (cond (!neg) (ã ((k:Int)==(1:Int))) (ã ä)) (ã ä)) (ã ä)).bind fun d=>ã d) (cond (o==(10:Int)) ((cond (c==(0:Int)) (cond (s==([]:O)) (cond (!neg) (ã ((k:Int)==(1:Int))) (ã ä)) (ã ä)) (ã ä)).bind fun d=>ã d) (((bS n o 2 11).bind fun f=>cond f (cond (c==(0:Int)) (cond (s==([]:O)) (cond (!neg) (ã ((k:Int)==(0:Int))) (ã ä)) (ã ä)) (ã ä)) (ã ä)).bind fun d=>ã d)))))))=ã å:=by
 rcases h with⟨rfl,a,b,rfl,rfl,rfl⟩|⟨rfl,rfl,⟨a,b, -⟩,rfl⟩|⟨g,rfl,rfl,rfl,hk⟩|⟨g,rfl,rfl,rfl,rfl⟩|⟨g,rfl,rfl,rfl,rfl⟩
 .rw [i,aA ⟨a,b⟩];rfl
 .have j:(s==([]:O))=ä:=by simpa using a
  rw [hu b,j];rfl
 .have e:á ((2:Int)<=(k:Int))=å:=hC ž
  rcases g with rfl|rfl<;>rw [e]<;>rfl
 .rcases g with rfl|rfl|rfl<;>rfl
 .rcases g with rfl|rfl|rfl|rfl<;>rw [i,i,aA (show In _ 2 11 from⟨ž,ž⟩)]<;>rfl
theorem Zy:W fun n=> ∀x lo hi:Int,bS n x lo hi=ã (bo (In x lo hi)):=W.succ (W.of fun n x lo hi=>by
 obtain⟨N,h⟩:=cD x lo hi;rw [<-h (max N (n+1)) (Nat.le_max_left _ _)];obtain⟨q,b⟩: ∃q,max N (n+1)=q+1:=⟨max N (n+1)-1,ž⟩
 rw [b,uC,uC])
theorem aDr {t:Tr} (h:fY t) (g:iS t):W fun n=>xR n (aG t).1 (aG t).2.1 (aG t).2.2.1 (aG t).2.2.2.1 (aG t).2.2.2.2=ã å:=by
 induction h with
 |mk h k ih=>
  rename_i t;obtain⟨p,hk⟩:=g;have b:W fun n=>kN (aG t).2.2.1->ua n (aG t).2.2.1=ã å:=by
   by_cases d:kN (aG t).2.2.1
   .exact(aDl (by have:=Ox d;omega) d).mono fun n e _=>e
   .exact W.of fun n k=>absurd k d
  refine((((W.all (dM t) fun x f=>ih x f (hk x f)).and b).and Zy).and (W.ge ((dM t).length+1))).nm fun n ⟨⟨⟨i,j⟩,m⟩,q⟩=> ?_
  rw [apS,show(0:Int)=((0:Nat):Int)from rfl,show(aG t).2.2.2.2=dM t from rfl,Zx ž i _ n 0 rfl ž ž,Z,cO]
  exact aDq h j m
theorem Zz {ks:List Tr} (f:à ks<=1048576) (d:Int) {n:Nat} (h: ∀x∈ks,DZ n d (aG x).1 (aG x).2.1 (aG x).2.2.1 (aG x).2.2.2.1 (aG x).2.2.2.2=ã (ä,d)): ∀k m (i:Nat),à ks-i=k->k<m->i<=à ks->DY n m d (i:Int) ks (à ks:Int)=ã (.inl d)
 |k,0,i,e,hm,hi=>ž
 |k,m+1,i,e,hm,hi=>by
  rw [awA];by_cases b:i<à ks
  .rw [aU b,Y,nC b,Z,h _ (Á b),du b ž]
   exact Zz f d h _ m (i+1) rfl ž ž
  .rw [hJ ž];rfl
theorem aDs {t:Tr} (h:fY t) (hs:iS t): ∀d:Int,ej t<=1000000->dh t<=d->d<=100->W fun n=>DX n (aG t).1 (aG t).2.1 (aG t).2.2.1 (aG t).2.2.2.1 (aG t).2.2.2.2 d=ã å:=by
 induction h with
 |mk h k ih=>
  rename_i t;intro d m hd u;obtain⟨hl,hk⟩:=hs;have hr:fY t:=.mk h k;obtain⟨d1, -, -⟩:=Oz hr m;have hw:Þ ß (d-1)=d-1:=ż
  have g:W fun n=> ∀x∈dM t,DZ n d (aG x).1 (aG x).2.1 (aG x).2.2.1 (aG x).2.2.2.1 (aG x).2.2.2.2=ã (ä,d):=by
   refine W.all (dM t) fun x j=> ?_
   have ah:=aDp hr m j;have ai:=FJ j;rw [Ic]at m;refine(ih x j (hk x j) (d-1) ž ž ž).nm fun n e=> ?_
   rw [awB,hw,e];rfl
  have p:W fun n=>jY n d (dM t)=ã (ä,d):=by
   refine W.succ ((g.and (W.ge ((dM t).length+1))).nm fun n ⟨q,e2⟩=> ?_)
   rw [avY,avZ,show(0:Int)=((0:Nat):Int)from rfl,Zz ž d q _ n 0 rfl ž ž];rfl
  have f:W fun n=>AR (aG t).2.2.1 (aG t).2.2.2.1->Ea n (aG t).1 (aG t).2.1 (aG t).2.2.1 (aG t).2.2.2.1 (aG t).2.2.2.2=ã å:=by
   by_cases ha:AR (aG t).2.2.1 (aG t).2.2.2.1
   .exact(aDo ha _ _ _).mono fun n e _=>e
   .exact W.of fun n k=>absurd k ha
  refine((p.and f).and (cZ (aG t).2.1 0 255)).nm fun n ⟨⟨q,e2⟩,e3⟩=> ?_
  have z:(d==(0:Int))=ä:=ź
  have r:jY n d (aG t).2.2.2.2=ã (ä,d):=q;rw [avX,z,r,e3];have hlen:(dM t).length=(aG t).2.2.2.2.length:=rfl;rw [hlen]at h;generalize (aG t).2.2.2.2.length=kl at*
  generalize (aG t).1=o at*
  generalize (aG t).2.1=c at*
  generalize (aG t).2.2.1=s at*
  generalize (aG t).2.2.2.1=neg at*
  rcases h with⟨rfl,a,b,rfl,rfl,rfl⟩|⟨rfl,rfl,f,rfl⟩|⟨i,rfl,rfl,rfl,al⟩|⟨i,rfl,rfl,rfl,rfl⟩|⟨i,rfl,rfl,rfl,rfl⟩
  .rw [aA ⟨a,b⟩];rfl
  .rw [e2 f];rfl
  .have e:á ((1:Int)<(kl:Int))=å:=hC ž
   rcases i with rfl|rfl<;>rw [e]<;>rfl
  .rcases i with rfl|rfl|rfl<;>rfl
  .rcases i with rfl|rfl|rfl|rfl<;>rfl
theorem aDt {t:Tr} (h:fY t) (b:iS t) (_:ej t<=1000000) (hd:dh t<=12):W fun n=>Kk n (aG t).1 (aG t).2.1 (aG t).2.2.1 (aG t).2.2.2.1 (aG t).2.2.2.2=ã å:=by
 refine((NB b).2.and (aDr h b)).nm fun n ⟨d,f⟩=> ?_
 rw [apR,d,Z,hC hd,Y,f];rfl
theorem aDu {t:Tr} (h:fY t) (b:iS t) (d:ej t<=1000000) (hd:dh t<=12):W fun n=>LO n (aG t).1 (aG t).2.1 (aG t).2.2.1 (aG t).2.2.2.1 (aG t).2.2.2.2=ã å:=by
 refine(aDs h b 12 d hd ž).nm fun n f=> ?_
 rw [avW,f];rfl
def pl (o a b:Int):Pl:=(o,0,[],ä,a,b)
theorem nL {α:Type} (l:List α) (x y:α) (r:List α):(l++x::r).set (à l) y=l++y::r:=by
 rw [ύ _ _ (Î _),Nat.sub_self];rfl
theorem kW {α:Type} (l:List α) (x:α) (r:List α):aO (l++x::r) (à l)=ã x:=by
 show(l++x::r)[à l]? =ã x;rw [ξ (Î _),Nat.sub_self];rfl
theorem oU {α:Type} (l:List α) (x:α) (r:List α):á ((0:Int)<=(à l:Int)/\(à l:Int)<((l++x::r).length:Int))=å:=hC ź
theorem zp (l:List Pl) (o:Int) (b:à l<=1048576):W fun n=>nz n l o=ã (l++[pl o 0 0]):=W.succ (W.of fun n=>by
 rw [Fe,aX ž];rfl)
def kf (S:Tr->Nat->List Pl):List Tr->Nat->List Pl
 | [],_=>[]
 |k::r,b=>S k b++kf S r (b+(S k b).length)
def dC (S:Tr->Nat->List Pl) (e:Int):List Tr->Nat->List Pl
 | [],_=>[]
 |k::r,b=>pl 7 ((b+1:Nat):Int) ((b+2+(S k (b+1)).length:Nat):Int)::(S k (b+1)++pl 6 e 0::dC S e r (b+2+(S k (b+1)).length))
def je (S:Tr->Nat->List Pl):List Tr->Nat->List Int
 | [],_=>[]
 |k::r,b=>((b+1+(S k (b+1)).length:Nat):Int)::je S r (b+2+(S k (b+1)).length)
def kh (t:Tr) (S:Nat->List Pl):Prop:=
 (∀b,(S b).length+2<=5*ej t)/\ ∀l:List Pl,à l+6*ej t<=1000000->
  (W fun n=>ny n l (aG t).1 (aG t).2.1 (aG t).2.2.1 (aG t).2.2.2.1 (aG t).2.2.2.2=ã (l++S (à l)))/\
  (W fun n=>kR n l (aG t).1 (aG t).2.1 (aG t).2.2.1 (aG t).2.2.2.1 (aG t).2.2.2.2=ã (l++S (à l)))
theorem ZA {S:Tr->Nat->List Pl}: ∀(ks:List Tr) (b:Nat),(∀k∈ks,kh k (S k))->(kf S ks b).length<=5*cq ks
 | [],b,h=>by simp [kf]
 |k::r,b,h=>by
  have d:=(h k Ż).1 b
  have f:=ZA r (b+(S k b).length) (fun k hk=>h k Ň)
  rw [kf,cq,É];omega
theorem OA {S:Tr->Nat->List Pl} {e:Int}: ∀(ks:List Tr) (b:Nat),(∀k∈ks,kh k (S k))->(dC S e ks b).length<=5*cq ks
 | [],b,h=>by simp [dC]
 |k::r,b,h=>by
  have d:=(h k Ż).1 (b+1)
  have f:=OA (S:=S) (e:=e) r (b+2+(S k (b+1)).length) (fun k hk=>h k Ň)
  rw [dC,cq,Ç,É,Ç];omega
theorem drop_cons {ks r:List Tr} {k:Tr} {i:Nat} (h:ks.drop i=k::r): ∃hi:i<à ks,ks[i]=k/\ks.drop (i+1)=r:=by
 have hi:i<à ks:=by
  by_cases c:i<à ks
  .exact c
  .rw [ω ž]at h;cases h
 rw [Â hi]at h;exact⟨hi,(List.cons.inj h).1,(List.cons.inj h).2⟩
theorem drop_nil {ks:List Tr} {i:Nat} (h:ks.drop i=[]):à ks<=i:=ϙ.1 h
theorem ZB {S:Tr->Nat->List Pl} {o c:Int} {s:O} {neg:Bool} {ks:List Tr} (f:à ks<=1048576): ∀(r:List Tr) (i:Nat) (l:List Pl),ks.drop i=r->i<=à ks->(∀k∈r,kh k (S k))->à l+6*cq r<=1000000->
  W fun n=> ∀m,à r<m->CH n m o c s neg ks (i:Int) l=ã (.inl (l++kf S r (à l)))
 | [],i,l,e,hi,h,d=>W.of fun n m hm=>by
  obtain⟨m,rfl⟩: ∃q,m=q+1:=⟨m-1,Ų⟩
  have:=drop_nil e;rw [Vk,hJ ž,ez,kf,Ô]
 |k::r,i,l,e,hi,h,d=>by
  obtain⟨b,g,j⟩:=drop_cons e;rw [cq]at d;have hk:=h k Ż
  have u:=hk.1 (à l);have ih:=ZB (o:=o) (c:=c) (s:=s) (neg:=neg) f r (i+1) (l++S k (à l)) j ž (fun k hk=>h k Ň) ű
  refine((hk.2 l ž).1.and ih).mono fun n ⟨p,t⟩ m hm=> ?_
  obtain⟨m,rfl⟩: ∃q,m=q+1:=⟨m-1,Ų⟩
  rw [Vk,aU b,Y,nC b,g,Z,p,Z,du b ž,t m Ş,kf,É,Ù]
theorem ZC {S:Tr->Nat->List Pl} {ks:List Tr} (f:à ks<=1048576): ∀(r:List Tr) (i:Nat) (l:List Pl),ks.drop i=r->i<=à ks->(∀k∈r,kh k (S k))->à l+6*cq r<=1000000->
  W fun n=> ∀m,à r<m->Eb n m (i:Int) l ks (à ks:Int)=ã (.inl (l++kf S r (à l)))
 | [],i,l,e,hi,h,d=>W.of fun n m hm=>by
  obtain⟨m,rfl⟩: ∃q,m=q+1:=⟨m-1,Ų⟩
  have:=drop_nil e;rw [Wu,hJ ž,ez,kf,Ô]
 |k::r,i,l,e,hi,h,d=>by
  obtain⟨b,g,j⟩:=drop_cons e;rw [cq]at d;have hk:=h k Ż
  have t:=hk.1 (à l);have ih:=ZC f r (i+1) (l++S k (à l)) j ž (fun k hk=>h k Ň) ű
  refine((hk.2 l ž).2.and ih).mono fun n ⟨p,s⟩ m hm=> ?_
  obtain⟨m,rfl⟩: ∃q,m=q+1:=⟨m-1,Ų⟩
  rw [Wu,aU b,Y,nC b,g,Z,p,Z,du b ž,s m Ş,kf,É,Ù]
theorem ZD (S:Tr->Nat->List Pl) (k:Tr) (r:List Tr) (l:List Pl) (e:Int):(l++pl 7 ((à l+1:Nat):Int) ((à l+2+(S k (à l+1)).length:Nat):Int)::(S k (à l+1)++[pl 6 e 0]))++dC S e r (l++pl 7 ((à l+1:Nat):Int) ((à l+2+(S k (à l+1)).length:Nat):Int)::(S k (à l+1)++[pl 6 e 0])).length=l++dC S e (k::r) (à l):=by
 have b:(l++pl 7 ((à l+1:Nat):Int) ((à l+2+(S k (à l+1)).length:Nat):Int)::(S k (à l+1)++[pl 6 e 0])).length=à l+2+(S k (à l+1)).length:=ź
 rw [b,dC];simp
theorem ZE {S:Tr->Nat->List Pl} {ks:List Tr} (hl:à ks<=1048576) (j:ks≠ []): ∀(r:List Tr) (i:Nat) (l:List Pl) (J:List Int),(ks.dropLast).drop i=r->i<=ks.dropLast.length->(∀k∈r,kh k (S k))->à l+6*cq r+6<=1000000->J.length+à r<=1048576->
  W fun n=> ∀m,à r<m->CI n m (i:Int) J ks l=ã (.inl (J++je S r (à l),ks,l++dC S 0 r (à l)))
 | [],i,l,J,e,hi,h,p,t=>W.of fun n m hm=>by
  obtain⟨m,rfl⟩: ∃q,m=q+1:=⟨m-1,Ų⟩
  have u:=drop_nil e;have z:0<à ks:=ζ.2 j;have h3:ks.dropLast.length=à ks-1:=Ϛ;have hw:Þ ß ((à ks:Int)-1)=((à ks-1:Nat):Int):=ż
  rw [Vl,hw,hJ ž,ez,dC,je,Ô,Ô]
 |k::r,i,l,J,e,hi,h,p,t=>by
  obtain⟨u,z,h3⟩:=drop_cons e;have h4:ks.dropLast.length=à ks-1:=Ϛ;have hw:Þ ß ((à ks:Int)-1)=((à ks-1:Nat):Int):=ż
  have h5:ks[i]'(by omega)=k:=by rw [<-z,List.getElem_dropLast]
  rw [cq]at p;have hk:=h k Ż
  have hb:=hk.1 (à l+1);obtain⟨s,g⟩: ∃s,s=S k (à l+1):=⟨_,rfl⟩
  have ai:à s+2<=5*ej k:=g▸hb;have p1:=zp l 7 ž
  have p2:=zp (l++[pl 7 0 0]++s) 6 ź
  have d:=(hk.2 (l++[pl 7 0 0]) ź).1
  rw [show (l++[pl 7 0 0]).length=à l+1 by simp,<-g]at d
  simp only [Ç]at t;have f:(l++pl 7 ((à l+1:Nat):Int) ((à l+2+à s:Nat):Int)::(s++[pl 6 0 0])).length=à l+2+à s:=ź
  have ih:=ZE hl j r (i+1) (l++pl 7 ((à l+1:Nat):Int) ((à l+2+à s:Nat):Int)::(s++[pl 6 0 0])) (J++[((à l+1+à s:Nat):Int)]) h3 ž (fun k hk=>h k Ň) (by rw [f];omega) ź
  refine(((p1.and p2).and d).and ih).mono fun n ⟨⟨⟨e1,e2⟩,e3⟩,e4⟩ m hm=> ?_
  obtain⟨m,rfl⟩: ∃q,m=q+1:=⟨m-1,Ų⟩
  have hr:l++[pl 7 0 0]++s++[pl 6 0 0]=l++pl 7 0 0::(s++[pl 6 0 0]):=Ż
  have hlen:(l++[pl 7 0 0]++s).length=à l+1+à s:=ź
  rw [Vl,hw,hC (show (i:Int)<((à ks-1:Nat):Int) by omega),Y,e1,Z,nC (show i<à ks by omega),h5,Z,e3,Z,aX ž,Y,e2,Z,hr,oU,Y,Æ,kW,Z,nL,oU,Y,kW,Z,nL,du u ž,lP ž,hlen]
  have k1:=e4 m Ş
  have b:((l++((pl 7 0 0).1,(pl 7 0 0).2.1,(pl 7 0 0).2.2.1,(pl 7 0 0).2.2.2.1,((à l+1:Nat):Int),(pl 7 0 0).2.2.2.2.2)::(s++[pl 6 0 0])).length:Int)=((à l+2+à s:Nat):Int):=ź
  rw [b];refine k1.trans ?_
  have ho:=ZD S k r l 0;rw [<-g]at ho;rw [ho,f,je,<-g];simp
theorem ZF {S:Tr->Nat->List Pl} {ks:List Tr} (hl:à ks<=1048576) (p:List Tr): ∀(r:List Tr) (i:Nat) (l:List Pl) (J:List Int),ks.drop i=r->i<=à ks->(∀k∈r,kh k (S k))->à l+6*cq r+6<=1000000->J.length+à r<=1048576->
  W fun n=> ∀m,à r<m->Ec n m (i:Int) J l ks p (à ks:Int)=ã (.inl (J++je S r (à l),p,l++dC S 0 r (à l)))
 | [],i,l,J,e,hi,h,u,z=>W.of fun n m hm=>by
  obtain⟨m,rfl⟩: ∃q,m=q+1:=⟨m-1,Ų⟩
  have g:=drop_nil e;rw [Wv,hJ ž,ez,dC,je,Ô,Ô]
 |k::r,i,l,J,e,hi,h,u,z=>by
  obtain⟨g,h2,h3⟩:=drop_cons e;rw [cq]at u;have hk:=h k Ż
  have hb:=hk.1 (à l+1);obtain⟨s,j⟩: ∃s,s=S k (à l+1):=⟨_,rfl⟩
  have ai:à s+2<=5*ej k:=j▸hb;have d:=(hk.2 (l++[pl 7 ((à l+1:Nat):Int) 0]) ź).2
  rw [show (l++[pl 7 ((à l+1:Nat):Int) 0]).length=à l+1 by simp,<-j]at d
  simp only [Ç]at z;have f:(l++pl 7 ((à l+1:Nat):Int) ((à l+2+à s:Nat):Int)::(s++[pl 6 0 0])).length=à l+2+à s:=ź
  have ih:=ZF hl p r (i+1) (l++pl 7 ((à l+1:Nat):Int) ((à l+2+à s:Nat):Int)::(s++[pl 6 0 0])) (J++[((à l+1+à s:Nat):Int)]) h3 ž (fun k hk=>h k Ň) (by rw [f];omega) ź
  refine(d.and ih).mono fun n ⟨e3,e4⟩ m hm=> ?_
  obtain⟨m,rfl⟩: ∃q,m=q+1:=⟨m-1,Ų⟩
  have t:kR n (l++[((7:Int),(0:Int),([]:O),ä,((à l+1:Nat):Int),(0:Int))]) (aG k).1 (aG k).2.1 (aG k).2.2.1 (aG k).2.2.2.1 (aG k).2.2.2.2=ã (l++[pl 7 ((à l+1:Nat):Int) 0]++s):=e3;have hr:l++[pl 7 ((à l+1:Nat):Int) 0]++s++[((6:Int),(0:Int),([]:O),ä,(0:Int),(0:Int))]=l++pl 7 ((à l+1:Nat):Int) 0::(s++[pl 6 0 0]):=by simp [pl]
  have hlen:(l++[pl 7 ((à l+1:Nat):Int) 0]++s).length=à l+1+à s:=ź
  have b:((l++pl 7 ((à l+1:Nat):Int) 0::(s++[pl 6 0 0])).length:Int)=((à l+2+à s:Nat):Int):=ź
  rw [Wv,aU g,Y,nC g,h2,Z,aX ž,Y,lP ž,t,Z,aX ž,Y,hlen,aX ž,Y,hr,oU,Y,Æ,kW,Z,nL,b,du g ž]
  have k1:=e4 m Ş
  refine k1.trans ?_
  have ho:=ZD S k r l 0;rw [<-j]at ho;rw [ho,f,je,<-j];simp
theorem OC {S:Tr->Nat->List Pl} {δ:Type} {z:List Pl} {J:List Int} {L:Nat->Int->List Pl->Option (Sum (List Pl) δ)} {e:Nat} (h:J.length<=1048576)
  (hx: ∀m (i:Nat) (l:List Pl) (j:Nat) (x:Pl),à l=e->J[i]? =ã (j:Int)->l[j]? =ã x->L (m+1) (i:Int) l=L m ((i+1:Nat):Int) (l.set j (x.1,x.2.1,x.2.2.1,x.2.2.2.1,(e:Int),x.2.2.2.2.2)))
  (he: ∀m (i:Nat) l,J.length<=i->L (m+1) (i:Int) l=ã (.inl l)): ∀(r:List Tr) (i m:Nat) (l:List Pl),J.drop i=je S r (à l)->à r<m->(l++(dC S 0 r (à l)++z)).length=e->
  L m (i:Int) (l++(dC S 0 r (à l)++z))=ã (.inl (l++(dC S (e:Int) r (à l)++z)))
 | [],i,m,l,f,hm,hlen=>by
  obtain⟨m,rfl⟩: ∃q,m=q+1:=⟨m-1,Ų⟩
  rw [je]at f;rw [he m i _ (ϙ.1 f),dC,dC]
 |k::r,i,m,l,f,hm,hlen=>by
  obtain⟨m,rfl⟩: ∃q,m=q+1:=⟨m-1,Ų⟩
  obtain⟨s,p⟩: ∃s,s=S k (à l+1):=⟨_,rfl⟩
  rw [je]at f;rw [dC,<-p]at hlen |-;rw [dC,<-p];rw [<-p]at f;have hi:J[i]? =ã ((à l+1+à s:Nat):Int):=by
   have:=congrArg (fun q=>q[0]?) f
   simpa using this
  have hd:J.drop (i+1)=je S r (à l+2+à s):=by
   have:=congrArg List.tail f;rw [ώ]at this;exact this
  have b: ∀t:Int,l++(pl 7 ((à l+1:Nat):Int) ((à l+2+à s:Nat):Int)::(s++pl 6 t 0::dC S 0 r (à l+2+à s))++z)=(l++pl 7 ((à l+1:Nat):Int) ((à l+2+à s:Nat):Int)::s)++pl 6 t 0::(dC S 0 r (à l+2+à s)++z):=fun t=>Ż
  have d: ∀q:List Pl,(l++pl 7 ((à l+1:Nat):Int) ((à l+2+à s:Nat):Int)::s)++pl 6 (e:Int) 0::q=(l++pl 7 ((à l+1:Nat):Int) ((à l+2+à s:Nat):Int)::(s++[pl 6 (e:Int) 0]))++q:=fun q=>Ż
  have hp:(l++pl 7 ((à l+1:Nat):Int) ((à l+2+à s:Nat):Int)::s).length=à l+1+à s:=ź
  have g:(l++pl 7 ((à l+1:Nat):Int) ((à l+2+à s:Nat):Int)::(s++[pl 6 (e:Int) 0])).length=à l+2+à s:=ź
  have u:=hx m i (l++(pl 7 ((à l+1:Nat):Int) ((à l+2+à s:Nat):Int)::(s++pl 6 0 0::dC S 0 r (à l+2+à s))++z)) (à l+1+à s) (pl 6 0 0) hlen hi (by
   rw [b 0,<-hp];exact kW _ _ _)
  rw [u,b 0,<-hp,nL];have ih:=OC h hx he r (i+1) m (l++pl 7 ((à l+1:Nat):Int) ((à l+2+à s:Nat):Int)::(s++[pl 6 (e:Int) 0])) (by rw [g];exact hd) Ş (by
   rw [g,<-d];rw [b 0]at hlen;simpa using hlen)
  rw [g]at ih;rw [show ((pl 6 0 0).1,(pl 6 0 0).2.1,(pl 6 0 0).2.2.1,(pl 6 0 0).2.2.2.1,(e:Int),(pl 6 0 0).2.2.2.2.2)=pl 6 (e:Int) 0 from rfl,d];refine ih.trans ?_
  simp
def sH (S:Tr->Nat->List Pl) (ks:List Tr) (b:Nat):Nat:=b+(dC S 0 ks.dropLast b).length
def OD (S:Tr->Nat->List Pl) (ks:List Tr) (z:Tr) (b:Nat):Nat:=sH S ks b+(S z (sH S ks b)).length
def sI (S:Tr->Nat->List Pl) (ks:List Tr) (z:Tr) (b:Nat):List Pl:=dC S (OD S ks z b:Int) ks.dropLast b++S z (sH S ks b)
theorem aDv {S:Tr->Nat->List Pl} {z:List Pl} {J:List Int} {e:Nat} (b:J.length<=1048576) (n:Nat) (r:List Tr) (m:Nat) (l:List Pl) (f:J=je S r (à l)) (hm:à r<m) (he:(l++(dC S 0 r (à l)++z)).length=e):
  qj n m 0 (l++(dC S 0 r (à l)++z)) J=ã (.inl (l++(dC S (e:Int) r (à l)++z))):=by
 refine OC (S:=S) (z:=z) (J:=J) (e:=e) (L:=fun m i l=>qj n m i l J) b (fun m i l j x g hi hj=> ?_) (fun m i l hi=> ?_) r 0 m l (by rw [Ü];exact f) hm he
 .show qj n (m+1) (i:Int) l J=qj n m ((i+1:Nat):Int) _ J
  obtain⟨d, -⟩:=Ι.1 hi
  obtain⟨k, -⟩:=Ι.1 hj
  have h:aO J (À (i:Int))=ã (j:Int):=by rw [Æ];exact hi
  have a2:aO l (À (j:Int))=ã x:=by rw [Æ];exact hj
  rw [Vm,aU d,Y,hC ž,Y,h,Z,hC ž,Y,a2,Z,du d ž,g,Æ]
 .show qj n (m+1) (i:Int) l J=_
  rw [Vm,hJ ž,ez]
theorem aDw {S:Tr->Nat->List Pl} {z:List Pl} {J:List Int} {e:Nat} (b:J.length<=1048576) (n:Nat) (r:List Tr) (m:Nat) (l:List Pl) (f:J=je S r (à l)) (hm:à r<m) (he:(l++(dC S 0 r (à l)++z)).length=e):
  qn n m 0 (l++(dC S 0 r (à l)++z)) J (J.length:Int)=ã (.inl (l++(dC S (e:Int) r (à l)++z))):=by
 refine OC (S:=S) (z:=z) (J:=J) (e:=e) (L:=fun m i l=>qn n m i l J (J.length:Int)) b (fun m i l j x g hi hj=> ?_) (fun m i l hi=> ?_) r 0 m l (by rw [Ü];exact f) hm he
 .show qn n (m+1) (i:Int) l J (J.length:Int)=qn n m ((i+1:Nat):Int) _ J (J.length:Int)
  obtain⟨d, -⟩:=Ι.1 hi
  obtain⟨k, -⟩:=Ι.1 hj
  have h:aO J (À (i:Int))=ã (j:Int):=by rw [Æ];exact hi
  have a2:aO l (À (j:Int))=ã x:=by rw [Æ];exact hj
  rw [Ww,aU d,Y,hC ž,Y,h,Z,hC ž,Y,a2,Z,du d ž,g,Æ]
 .show qn n (m+1) (i:Int) l J (J.length:Int)=_
  rw [Ww,hJ ž,ez]
theorem ZG {S:Tr->Nat->List Pl}: ∀(r:List Tr) (b:Nat),(je S r b).length=à r
 | [],_=>rfl
 |k::r,b=>by rw [je,Ç,Ç,ZG r]
theorem OE: ∀(a b:List Tr),cq (a++b)=cq a+cq b
 | [],b=>by simp [cq]
 |k::a,b=>by rw [φ,cq,cq,OE a b];omega
theorem aDx {S:Tr->Nat->List Pl} {ks:List Tr} {z:Tr} {_n0:Nat} (b:ks=ks.dropLast++[z]) (h: ∀k∈ks,kh k (S k)) (hl:à ks<=1048575) (l:List Pl) (hz:à l+6*cq ks+6<=1000000):
  (W fun n=>Kl n l ks=ã (l++sI S ks z (à l)))/\(W fun n=>LP n l ks=ã (l++sI S ks z (à l))):=by
 have q:ks≠ []:=Ĉ
 have hlen:à ks=ks.dropLast.length+1:=by
  conv=>lhs;rw [b]
  simp
 have ae:cq ks=cq ks.dropLast+ej z:=by
  conv=>lhs;rw [b]
  rw [OE,rH]
 have d: ∀k∈ks.dropLast,kh k (S k):=fun k hk=>h k ((Ω _).subset hk)
 have i:kh z (S z):=h z Ĉ
 have hb:=OA (S:=S) (e:=0) ks.dropLast (à l) d;have af:=i.1 (sH S ks (à l));have u:(l++dC S 0 ks.dropLast (à l)).length=sH S ks (à l):=by rw [É];rfl
 have f:=i.2 (l++dC S 0 ks.dropLast (à l)) ű
 rw [u]at f;have g:ks[à ks-1]'(by omega)=z:=by
  rw [<-List.getLast_eq_getElem q];have:ks.getLast? =ã z:=Ĉ
  rw [List.getLast?_eq_some_getLast q]at this
  exact Option.some.inj this
 have hw:Þ ß ((à ks:Int)-1)=((à ks-1:Nat):Int):=ż
 have j:gf ks (Þ ß ((à ks:Int)-1))=ã (aG z):=by rw [hw,nC ž,g]
 have m:(je S ks.dropLast (à l)).length<=1048576:=by rw [ZG];omega
 have hE:(l++(dC S 0 ks.dropLast (à l)++S z (sH S ks (à l)))).length=OD S ks z (à l):=by
  rw [<-Ù,É,u];rfl
 constructor
 .have p:=ZE (S:=S) ž q ks.dropLast 0 l [] ţ ž d ž ź
  refine((p.and f.1).and (W.ge (à ks+1))).nm fun n ⟨⟨r,s⟩,e3⟩=> ?_
  rw [apW,show(0:Int)=((0:Nat):Int)from rfl,r n ž,Z,cO]
  dsimp only
  rw [j,Z,s,Z,Ù,show((0:Nat):Int)=0 from rfl,aDv (S:=S) ą n ks.dropLast n l Ż ž hE,Z,cO]
  rfl
 .have t:(ks.drop 0).take (À (Þ ß ((à ks:Int)-1))-0)=ks.dropLast:=by
   rw [hw,Æ,Ü,η,List.dropLast_eq_take]
  have p:=ZF (S:=S) (ks:=ks.dropLast) ž ks ks.dropLast 0 l [] ţ ž d ž ź
  refine((p.and f.2).and (W.ge (à ks+1))).nm fun n ⟨⟨r,s⟩,e3⟩=> ?_
  rw [awE,t,hw,hC ž,Y,show(0:Int)=((0:Nat):Int)from rfl,r n ž,Z,cO]
  dsimp only
  rw [j,Z,s,Z,Ù,show((0:Nat):Int)=0 from rfl,aDw (S:=S) ą n ks.dropLast n l Ż ž hE,Z,cO]
  rfl
def Sh (S:Nat->List Pl):Prop:= ∀b,∀p∈S b,à p.2.2.1<=256
theorem nM (o a b:Int):(pl o a b).2.2.1.length<=256:=by simp [pl]
theorem ZH {S:Tr->Nat->List Pl}: ∀(ks:List Tr) (b:Nat),(∀k∈ks,Sh (S k))-> ∀p∈kf S ks b,à p.2.2.1<=256
 | [],b,h,p,hp=>by cases hp
 |k::r,b,h,p,hp=>by
  rw [kf]at hp;rcases Ö.1 hp with hp|hp
  .exact h k Ż _ p hp
  .exact ZH r _ (fun k hk=>h k Ň) p hp
theorem ZI {S:Tr->Nat->List Pl} {e:Int}: ∀(ks:List Tr) (b:Nat),(∀k∈ks,Sh (S k))-> ∀p∈dC S e ks b,à p.2.2.1<=256
 | [],b,h,p,hp=>by cases hp
 |k::r,b,h,p,hp=>by
  rw [dC]at hp;rcases Γ.1 hp with rfl|hp
  .exact nM _ _ _
  rcases Ö.1 hp with hp|hp
  .exact h k Ż _ p hp
  rcases Γ.1 hp with rfl|hp
  .exact nM _ _ _
  .exact ZI r _ (fun k hk=>h k Ň) p hp
theorem zq {t:Tr} {p:Pl} (d:ej t=1) (f: ∀n (l:List Pl),à l<=1000000->ny (n+2) l (aG t).1 (aG t).2.1 (aG t).2.2.1 (aG t).2.2.2.1 (aG t).2.2.2.2=ã (l++[p]))
  (g: ∀n (l:List Pl),à l<=1000000->kR (n+2) l (aG t).1 (aG t).2.1 (aG t).2.2.1 (aG t).2.2.2.1 (aG t).2.2.2.2=ã (l++[p])):kh t (fun _=>[p]):=by
 refine⟨fun b=>ç,fun l h=>⟨W.succ (W.succ (W.of fun n=>f n l ž)),W.succ (W.succ (W.of fun n=>g n l ž))⟩⟩
theorem aDy {t:Tr} (h:fY t) (ay:iS t): ∃S,kh t S/\Sh S:=by
 induction h with
 |mk h k ih=>
  rename_i t;obtain⟨hl,hk⟩:=ay;obtain⟨S,ak⟩: ∃S:Tr->Nat->List Pl,∀x,x∈dM t->kh x (S x)/\Sh (S x):=by
   have key: ∀x:Tr,∃s:Nat->List Pl,x∈dM t->kh x s/\Sh s:=fun x=>by
    by_cases hx:x∈dM t
    .obtain⟨s,hs⟩:=ih x hx (hk x hx)
     exact⟨s,fun _=>hs⟩
    .exact⟨fun _=>[],fun c=>absurd c hx⟩
   obtain⟨S,hS⟩:=Ϻ key;exact⟨S,hS⟩
  have hS: ∀x,x∈dM t->kh x (S x):=fun x hx=>(ak x hx).1
  have af: ∀x,x∈dM t->Sh (S x):=fun x hx=>(ak x hx).2
  clear ih hk k ak;obtain⟨⟨o,c,s,neg⟩,ks⟩:=t;have az:dM (.mk (o,c,s,neg) ks)=ks:=rfl;rw [az]at hl hS af h;have d:ej (.mk (o,c,s,neg) ks)=1+cq ks:=by rw [ej]
  have f:aG (.mk (o,c,s,neg) ks)=(o,c,s,neg,ks):=rfl;rw [f]at h;dsimp only at h
  have a6: ∀ai:1<=à ks,∀hc:à ks=1,∃z,ks=[z]:=fun _ hc=>ϊ.1 hc
  rcases h with⟨rfl,a,b,rfl,rfl,h0⟩|⟨rfl,rfl,au,h0⟩|⟨ho,rfl,rfl,rfl,aj⟩|⟨ho,rfl,rfl,rfl,aj⟩|⟨ho,rfl,rfl,rfl,h0⟩
  .have:=Ò h0;subst this
   refine⟨_,zq (p:=(1,c,[],ä,0,0)) ĉ (fun n l hl=> ?_) (fun n l hl=> ?_),fun b p hp=>by rw [Μ.1 hp];simp⟩
   .rw [mB,aX ž];rfl
   .rw [mC,aX ž];rfl
  .have:=Ò h0;subst this
   refine⟨_,zq (p:=(3,0,s,neg,0,0)) ĉ (fun n l hl=> ?_) (fun n l hl=> ?_),fun b p hp=>by rw [Μ.1 hp];exact Ox au.2.1⟩
   .rw [mB,aX ž];rfl
   .rw [mC,aX ž];rfl
  .rcases ho with rfl|rfl
   .refine⟨fun b=>kf S ks b,⟨fun b=>(by have:=ZA ks b hS;rw [d];show(kf S ks b).length+2<=_;omega),fun l hz=>⟨?_, ?_⟩⟩,fun b=>ZH ks b af⟩
    .rw [d]at hz
     refine((ZB (S:=S) (o:=6) (c:=0) (s:=[]) (neg:=false) (ks:=ks) ž ks 0 l ţ ž hS ž).and (W.ge (à ks+1))).nm fun n ⟨r,q⟩=> ?_
     rw [mB,f];have r:=r n ž
     simp only [Ø,Y,ez];rw [show (0:Int)=((0:Nat):Int)from rfl]at*;rw [r];rfl
    .rw [d]at hz
     refine((ZC (S:=S) (ks:=ks) ž ks 0 l ţ ž hS ž).and (W.ge (à ks+1))).nm fun n ⟨r,q⟩=> ?_
     rw [mC,f];have r:=r n ž
     simp only [Ø,Y,ez];rw [show (0:Int)=((0:Nat):Int)from rfl]at*;rw [r];rfl
   .have ai:ks≠ []:=fun e=>by rw [e]at aj;simp at aj
    have hd:ks=ks.dropLast++[ks.getLast ai]:=(Ν ai).symm;generalize ks.getLast ai=z at hd
    refine⟨fun b=>sI S ks z b,⟨fun b=> ?_,fun l hz=> ?_⟩,fun b p hp=> ?_⟩
    .have h1:=OA (S:=S) (e:=(OD S ks z b:Int)) ks.dropLast b (fun k hk=>hS k ((Ω _).subset hk))
     have h2:=(hS z (by rw [hd];simp)).1 (sH S ks b)
     have h3:cq ks=cq ks.dropLast+ej z:=by
      conv=>lhs;rw [hd]
      rw [OE,rH]
     show(sI S ks z b).length+2<=_;rw [sI,É,d];omega
    .rw [d]at hz
     obtain⟨p1,p2⟩:=aDx (S:=S) (ks:=ks) (z:=z) (_n0:=0) hd hS ž l ž
     constructor
     .refine p1.nm fun n r=> ?_
      rw [mB,f];simp only [Ø,Y,ez,r,Z]
     .refine p2.nm fun n r=> ?_
      rw [mC,f];simp only [Ø,Y,ez,r,Z]
    .have hp:p∈sI S ks z b:=hp
     rw [sI]at hp;rcases Ö.1 hp with hp|hp
     .exact ZI _ _ (fun k hk=>af k ((Ω _).subset hk)) p hp
     .exact af z (by rw [hd];simp) _ p hp
  .obtain⟨z,rfl⟩:=ϊ.1 aj
   have m:=hS z Ż
   have ao:=af z Ż
   have u:gf [z] (0:Int)=ã (aG z):=nC (ks:=[z]) (i:=0) Ż
   rw [rH]at d;rcases ho with rfl|rfl|rfl
   .refine⟨fun b=>pl 7 ((b+1:Nat):Int) ((b+2+(S z (b+1)).length:Nat):Int)::(S z (b+1)++[pl 6 (b:Int) 0]),⟨fun b=> ?_,fun l hz=> ?_⟩,fun b p hp=>(by
    rcases Γ.1 hp with rfl|hp
    .exact nM _ _ _
    rcases Ö.1 hp with hp|hp
    .exact ao _ p hp
    .rw [Μ.1 hp];exact nM _ _ _)⟩
    .have:=m.1 (b+1)
     rw [d];simp;omega
    .rw [d]at hz
     have hb:=m.1 (à l+1);obtain⟨s,hs⟩: ∃s,s=S z (à l+1):=⟨_,rfl⟩
     dsimp only
     rw [<-hs]at hb |-;constructor
     .have p1:=zp l 7 ž
      have g:=(m.2 (l++[pl 7 0 0]) ź).1
      rw [show (l++[pl 7 0 0]).length=à l+1 by simp,<-hs]at g
      have hr:l++[pl 7 0 0]++s++[((6:Int),(0:Int),([]:O),ä,(à l:Int),(0:Int))]=l++pl 7 0 0::(s++[pl 6 (à l:Int) 0]):=by simp [pl]
      have hlen:(l++[pl 7 0 0]++s).length=à l+1+à s:=ź
      have j:((l++((pl 7 0 0).1,(pl 7 0 0).2.1,(pl 7 0 0).2.2.1,(pl 7 0 0).2.2.2.1,((à l+1:Nat):Int),(pl 7 0 0).2.2.2.2.2)::(s++[pl 6 (à l:Int) 0])).length:Int)=((à l+2+à s:Nat):Int):=ź
      refine(p1.and g).nm fun n ⟨r,q⟩=> ?_
      rw [mB,f];simp only [Ø,Y,ez];rw [r,Z,u,Z,q,Z,hlen,aX ž,Y,hr,oU,Y,Æ,kW,Z,nL,oU,Y,kW,Z,nL,lP ž,j]
      rfl
     .have g:=(m.2 (l++[pl 7 ((à l+1:Nat):Int) 0]) ź).2
      rw [show (l++[pl 7 ((à l+1:Nat):Int) 0]).length=à l+1 by simp,<-hs]at g
      have hr:l++[pl 7 ((à l+1:Nat):Int) 0]++s++[((6:Int),(0:Int),([]:O),ä,(à l:Int),(0:Int))]=l++pl 7 ((à l+1:Nat):Int) 0::(s++[pl 6 (à l:Int) 0]):=by simp [pl]
      have hlen:(l++[pl 7 ((à l+1:Nat):Int) 0]++s).length=à l+1+à s:=ź
      have j:((l++pl 7 ((à l+1:Nat):Int) 0::(s++[pl 6 (à l:Int) 0])).length:Int)=((à l+2+à s:Nat):Int):=ź
      refine g.nm fun n q=> ?_
      have q:kR n (l++[((7:Int),(0:Int),([]:O),ä,((à l+1:Nat):Int),(0:Int))]) (aG z).1 (aG z).2.1 (aG z).2.2.1 (aG z).2.2.2.1 (aG z).2.2.2.2=ã (l++[pl 7 ((à l+1:Nat):Int) 0]++s):=q;rw [mC,f];simp only [Ø,Y,ez];rw [aX ž,Y,u,Z,lP ž,q,Z,hlen,aX ž,Y,hr,oU,Y,Æ,kW,Z,nL,j]
      rfl
   .refine⟨fun b=>S z b++[pl 7 (b:Int) ((b+(S z b).length+1:Nat):Int)],⟨fun b=> ?_,fun l hz=> ?_⟩,fun b p hp=>(by
    rcases Ö.1 hp with hp|hp
    .exact ao _ p hp
    .rw [Μ.1 hp];exact nM _ _ _)⟩
    .have:=m.1 b
     rw [d];simp;omega
    .rw [d]at hz
     have hb:=m.1 (à l);have g:=m.2 l ž
     obtain⟨s,hs⟩: ∃s,s=S z (à l):=⟨_,rfl⟩
     dsimp only
     rw [<-hs]at hb g |-;have hlen:(l++s).length=à l+à s:=Ż
     constructor
     .refine g.1.nm fun n q=> ?_
      rw [mB,f];simp only [Ø,Y,ez];rw [u,Z,q,Z,hlen,aX ž,Y,lP ž,Ù]
      rfl
     .refine g.2.nm fun n q=> ?_
      rw [mC,f];simp only [Ø,Y,ez];rw [u,Z,q,Z,hlen,aX ž,Y,lP ž,Ù]
      rfl
   .refine⟨fun b=>pl 7 ((b+1:Nat):Int) ((b+1+(S z (b+1)).length:Nat):Int)::S z (b+1),⟨fun b=> ?_,fun l hz=> ?_⟩,fun b p hp=>(by
    rcases Γ.1 hp with rfl|hp
    .exact nM _ _ _
    .exact ao _ p hp)⟩
    .have:=m.1 (b+1)
     rw [d];simp;omega
    .rw [d]at hz
     have hb:=m.1 (à l+1);obtain⟨s,hs⟩: ∃s,s=S z (à l+1):=⟨_,rfl⟩
     dsimp only
     rw [<-hs]at hb |-;constructor
     .have p1:=zp l 7 ž
      have g:=(m.2 (l++[pl 7 0 0]) ź).1
      rw [show (l++[pl 7 0 0]).length=à l+1 by simp,<-hs]at g
      have hr:l++[pl 7 0 0]++s=l++pl 7 0 0::s:=Ż
      have j:((l++((pl 7 0 0).1,(pl 7 0 0).2.1,(pl 7 0 0).2.2.1,(pl 7 0 0).2.2.2.1,((à l+1:Nat):Int),(pl 7 0 0).2.2.2.2.2)::s).length:Int)=((à l+1+à s:Nat):Int):=ź
      refine(p1.and g).nm fun n ⟨r,q⟩=> ?_
      rw [mB,f];simp only [Ø,Y,ez];rw [r,Z,u,Z,q,Z,hr,oU,Y,Æ,kW,Z,nL,oU,Y,kW,Z,nL,lP ž,j]
      rfl
     .have g:=(m.2 (l++[pl 7 ((à l+1:Nat):Int) 0]) ź).2
      rw [show (l++[pl 7 ((à l+1:Nat):Int) 0]).length=à l+1 by simp,<-hs]at g
      have hr:l++[pl 7 ((à l+1:Nat):Int) 0]++s=l++pl 7 ((à l+1:Nat):Int) 0::s:=Ż
      have j:((l++pl 7 ((à l+1:Nat):Int) 0::s).length:Int)=((à l+1+à s:Nat):Int):=ź
      refine g.nm fun n q=> ?_
      have q:kR n (l++[((7:Int),(0:Int),([]:O),ä,((à l+1:Nat):Int),(0:Int))]) (aG z).1 (aG z).2.1 (aG z).2.2.1 (aG z).2.2.2.1 (aG z).2.2.2.2=ã (l++[pl 7 ((à l+1:Nat):Int) 0]++s):=q;rw [mC,f];simp only [Ø,Y,ez];rw [aX ž,Y,u,Z,lP ž,q,Z,hr,oU,Y,Æ,kW,Z,nL,j]
      rfl
  .have:=Ò h0;subst this
   rcases ho with rfl|rfl|rfl|rfl
   .refine⟨_,zq (p:=pl 2 0 0) ĉ (fun n l hl=> ?_) (fun n l hl=> ?_),fun b p hp=>Ļ⟩
    .rw [mB,f]
     simp only [Ø,Y,ez];rw [Fe,aX ž];rfl
    .rw [mC,aX ž];rfl
   .refine⟨_,zq (p:=pl 4 0 0) ĉ (fun n l hl=> ?_) (fun n l hl=> ?_),fun b p hp=>Ļ⟩
    .rw [mB,f]
     simp only [Ø,Y,ez];rw [Fe,aX ž];rfl
    .rw [mC,aX ž];rfl
   .refine⟨_,zq (p:=pl 5 0 0) ĉ (fun n l hl=> ?_) (fun n l hl=> ?_),fun b p hp=>Ļ⟩
    .rw [mB,f]
     simp only [Ø,Y,ez];rw [Fe,aX ž];rfl
    .rw [mC,aX ž];rfl
   .refine⟨fun _=>[],⟨fun b=>(by rw [d];simp;omega),fun l hz=>⟨W.succ (W.of fun n=> ?_),W.succ (W.of fun n=> ?_)⟩⟩,fun b p hp=>by cases hp⟩
    .rw [mB,f,Ô];rfl
    .rw [mC,f,Ô];rfl
end Go.Proofs.YtfledcdkafkgaaaGreatDoor
