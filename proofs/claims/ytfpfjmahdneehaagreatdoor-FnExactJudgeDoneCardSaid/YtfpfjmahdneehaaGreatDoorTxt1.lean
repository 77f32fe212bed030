/- Texts of the law, part 1. -/
import Derived.Test.YtfpfjmahdneehaaGreatDoorLaw
import Derived.Test.YtfpfjmahdneehaaGreatDoorEv4
open Go.IntKind renaming wrap_i64->À,wrap->ā,wrap_u8->ą,bits->Ę,wrap_u64->ĭ
open List renaming length_cons->Á,drop_eq_getElem_cons->Ä,getElem_mem->Å,drop_eq_nil_of_le->Ç,length_append->Ê,length_nil->Ë,takeWhile_cons->Ñ,getElem?_eq_getElem->Ô,append_nil->Ø,take_of_length_le->Ù,isPrefixOf->Ú,length_eq_zero_iff->Ý,length->Þ,tail_cons->ß,findIdx?_eq_some_iff_getElem->à,dropWhile_cons->â,drop_zero->ã,eq_nil_of_length_eq_zero->ä,mem_append->å,isPrefixOf_iff_prefix->ç,mem_cons->è,nil_append->ê,takeWhile_nil->ì,append_assoc->î,dropLast_concat_getLast->ñ,length_pos_iff->ó,replicate->ö,getElem?_append_right->ø,findIdx?_eq_none_iff->û,getElem_drop->ü,prefix_iff_eq_take->ÿ,isEmpty->ă,drop_of_length_le->Ą,singleton_append->Ć,set_append_right->Ĉ,tail_drop->ĉ,drop_eq_nil_iff->č,length_dropLast->Ď,reverse_append->ď,drop_succ_cons->Đ,findIdx?_cons->Ĕ,reverse_cons->ĕ,reverse_nil->ę,mem_reverse->Ě,mem_nil_iff->ě,length_drop->Ĝ,cons_append->ĝ
open Bool renaming not_true->Â,not_false->Ã,and_eq_false_iff->ć,and_true->ē,cond_self->ğ,and_self->ģ
open Int renaming toNat->Æ,toNat_natCast->Ì,tdiv->Ï,tmod->é,mul_tdiv_add_tmod->ï,natCast_mul->ò,natAbs_tdiv_le_natAbs->ú,le_refl->ý,ofNat_inj->đ,fdiv->ġ,mul_zero->ħ
open Option renaming bind_none->È,bind_eq_some_iff->Ð,bind->Ĭ
open UInt8 renaming ofNat->É,toNat_inj->Õ,not_lt->Ă,le_antisymm->Ė,lt_irrefl->Ğ
open Go.Lib renaming compareBytes->Í,decDigits->Ò,indexByte->Ü,decDigits_one->ė
open Nat renaming le_refl->Î,ble_eq_true_of_le->Ó,eq_zero_or_pos->Û,ble->á,div_add_mod->ë,add_sub_cancel_left->í,mul_comm->õ,le_of_not_lt->þ,sub_zero->Ā,mul_le_mul->Ċ,add_mul->ċ,mul_le_mul_right->Č,mul_assoc->Ē,mod_lt->Ġ,lt_irrefl->Ģ,add_assoc->Ĥ,zero_add->Ħ,le_trans->Ĩ,sub_self->ĩ,zero_le->Ī
open Go.Op renaming bytesLess->Ö
open Classical renaming not_not->æ,byContradiction->ù,em->ĥ,not_forall->ī
open And renaming intro->ð
open BitVec renaming ofInt->ô
open Go.IntKind
namespace Go.Proofs.YtfpfjmahdneehaaGreatDoor
open Go Go.Ev
theorem lB (x:Nd):ld x=cS x:=rfl
theorem xh (ks:List Tr) (i:Nat):mj ks i=(ks[i]?).map aF:=by
 show(nth ks i).map _=_;unfold nth;congr 1
 funext t
 cases t;rfl
theorem mE {ks:List Tr} {i:Nat} (h:i<ks.length):fR ks (i:Int)=some (aF ks[i]):=by
 have:fR ks (i:Int)=mj ks i:=rfl;rw [this,xh,Ô h]
 rfl
def flat (r:Nd×O×Bool):Int×(Int×O×Bool×List Tr×O×Bool):=(r.1.1,r.1.2.1,r.1.2.2.1,r.1.2.2.2.1,r.1.2.2.2.2,r.2)
theorem lC (s:O) (b:Bool):W fun n=>qU n s b=some (match eR s b with|some c=>(c,true,s,b)|none=>(0,false,s,b)):=by
 refine W.succ (W.of fun n=> ?_)
 rw [avT];cases b
 .cases s with
  |nil=>rfl
  |cons c r=>
   have e:bG (c::r) (0:Int)=some c:=rfl;have d:((c::r:O)==[])=false:=rfl;rw [e,d];simp only [ez,Z,dR];rfl
 .cases h:(s==([]:O))
  .rfl
  .rfl
theorem mF (s:O):(s.drop 1).take (s.length-1)=s.tail:=by
 cases s with
 |nil=>rfl
 |cons c r=>simp
theorem aBG (c d:UInt8):(((c.toNat:Int) !=(d.toNat:Int))=true)↔c≠d:=by
 rw [bne_iff_ne,ne_eq,đ,Õ]
theorem xi (s:O) (b:Bool) (d:UInt8):W fun n=>nz n s b d=some (if eR s b=some d then(true,s.tail,b)else(false,s,b)):=by
 refine(lC s b).nm fun n e=> ?_
 rw [avV,e];cases h:eR s b with
 |none=>simp
 |some c=>
  obtain⟨rfl,f⟩:=fN h;have g:1<=s.length:=by rw [f];simp
  simp only [Z,Â,ez,mF];by_cases e:c=d
  .subst e
   rw [if_pos rfl,show(((c.toNat:Int) !=(c.toNat:Int))=false) by simp]
   simp only [ez];rw [hJ (by omega)]
   rfl
  .rw [if_neg (by simpa using e),(aBG c d).2 e]
   rfl
theorem Uc (c:UInt8):W fun n=>AO n c=some (gM c):=by
 refine W.succ (W.of fun n=> ?_)
 rw [avW];unfold gM;simp only [bj];by_cases b:c.toNat=42
 .rw [if_pos b,aA (by omega)];rfl
 rw [if_neg b,ay (P:=(c.toNat:Int)=42) (by omega)]
 by_cases d:c.toNat=43
 .rw [if_pos d,aA (by omega)];rfl
 rw [if_neg d,ay (P:=(c.toNat:Int)=43) (by omega)]
 by_cases f:c.toNat=63
 .rw [if_pos f,aA (by omega)];rfl
 rw [if_neg f,ay (P:=(c.toNat:Int)=63) (by omega)]
 rfl
def cK (p:Nat->Nat->Prop):Prop:= ∃N,∀n m,N<=n->N<=m->p n m
theorem cK.diag {p:Nat->Nat->Prop} (h:cK p):W fun n=>p n n:=by
 obtain⟨N,h⟩:=h;exact⟨N,fun n b=>h n n b b⟩
theorem cK.step {p:Nat->Prop} {q r:Nat->Nat->Prop} (h:W p) (k:cK q) (f: ∀n m,p n->q n m->r n (m+1)):cK r:=by
 obtain⟨N,h⟩:=h;obtain⟨M,k⟩:=k;refine⟨max N M+1,fun n m b hm=> ?_⟩
 obtain⟨m,rfl⟩: ∃m',m=m'+1:=⟨m-1,by omega⟩
 exact f n m (h n (by omega)) (k n m (by omega) (by omega))
theorem cK.stop {p:Nat->Prop} {r:Nat->Nat->Prop} (h:W p) (f: ∀n m,p n->r n (m+1)):cK r:=by
 obtain⟨N,h⟩:=h;refine⟨N+1,fun n m b hm=> ?_⟩
 obtain⟨m,rfl⟩: ∃m',m=m'+1:=⟨m-1,by omega⟩
 exact f n m (h n (by omega))
theorem py {n:Nat} (h:n<=1000):á n aC=true:=Ó (by unfold aC;omega)
theorem Ud (n:Nat) (s:O) (c:UInt8):sP (n+1) s c=some (Ü s c):=by kernel_rfl
theorem ri (c:UInt8):wrap .i64 (c.toNat:Int)=(c.toNat:Int):=by have:=c.toNat_lt;rw [À];omega
theorem Kf (n:Nat) (f:O) (g:Bool) (i k:Int) (p:O) (q:Bool) (r s:Int) (t:O) (u:Bool) (lo hi:UInt8) (has:List Bool) (b:O) (d:Int) (hn:300<=n) (z:has.length=256):
  nA n n f g i k p q r s t u (lo.toNat:Int) has b d (hi.toNat:Int)=some (.inl (f,g,i,k,p,q,r,s,t,u,dI has lo.toNat (hi.toNat+1-lo.toNat),b,d)):=by
 have h1:=lo.toNat_lt;have h2:=hi.toNat_lt;refine EK (hi:=hi.toNat) (L:=fun m j h=>nA n m f g i k p q r s t u j h b d (hi.toNat:Int)) (out:=fun h=>(f,g,i,k,p,q,r,s,t,u,h,b,d)) (by omega) (fun m j h hj hh=> ?_) (fun m j h hj=> ?_) _ n lo.toNat has rfl (by omega) z
 .rw [Sl,hJ (by omega),hJ (by omega),fh (by omega)]
  rfl
 .rw [Sl,hL (by omega)]
  rfl
theorem aBH (n:Nat) (j:300<=n) (rest body:O) (nt:Bool) (z: ∀c∈body,c.toNat≠93) (ad:body.length<=100): ∀k m (i:Nat) has bad,body.length-i<=k->k<m->has.length=256->i<=body.length->
  pf n m rest bad 0 0 [] false 3 0 [] nt has (i:Int) body=some (.inl (rest,(setB (body.drop i) has bad).2,0,0,[],false,3,0,[],nt,(setB (body.drop i) has bad).1)):=by
 intro k;induction k with
 |zero=>
  intro m i has bad hk hm b hi;obtain⟨m,rfl⟩: ∃m',m=m'+1:=⟨m-1,by omega⟩
  obtain rfl:i=body.length:=by omega
  rw [JX,ca,Ç (Î _)];rfl
 |succ k ih=>
  intro m i has bad hk hm b hi;obtain⟨m,rfl⟩: ∃m',m=m'+1:=⟨m-1,by omega⟩
  by_cases d:i<body.length
  .have p:wrap .i64 ((i:Int)+1)=((i+1:Nat):Int):=by rw [À];omega
   have w2:wrap .i64 ((i:Int)+2)=((i+2:Nat):Int):=by rw [À];omega
   have w3:wrap .i64 (((i+2:Nat):Int)+1)=((i+3:Nat):Int):=by rw [À];omega
   have q:body.drop i=body[i]::body.drop (i+1):=Ä d;have s:(has.set body[i].toNat true)=dI has body[i].toNat 1:=rfl;have one: ∀f,nA n n rest f 0 0 [] false 3 0 [] nt (body[i].toNat:Int) has body (i:Int) (body[i].toNat:Int)=some (.inl (rest,f,0,0,[],false,3,0,[],nt,dI has body[i].toNat 1,body,(i:Int))):=fun f=>by
    have:=Kf n rest f 0 0 [] false 3 0 [] nt body[i] body[i] has body (i:Int) j b;rwa [show body[i].toNat+1-body[i].toNat=1 by omega]at this
   rw [JX,bk d,df d];simp only [Y,Z,p,w2,ri];by_cases g:i+2<body.length
   .have t:body.drop (i+1)=body[i+1]::body.drop (i+2):=Ä (by omega)
    have u:body.drop (i+2)=body[i+2]::body.drop (i+3):=Ä g;rw [bk g,df (show i+1<body.length by omega),df g]
    simp only [Y,Z,bj];by_cases hd:body[i+1].toNat=45
    .have hh:=z _ (Å g)
     rw [aA (by omega),q,t,u,EJ _ _ _ _ _ _ ⟨hd,hh⟩]
     simp only [Y];have r:decide ((body[i+2].toNat:Int)<(body[i].toNat:Int))=decide (body[i+2].toNat<body[i].toNat):=by
      rw [bU,bU];exact kY (by omega)
     rw [Kf n rest true 0 0 [] false 3 0 [] nt body[i] body[i+2] has body _ j b,Kf n rest _ 0 0 [] false 3 0 [] nt body[i] body[i+2] has body _ j b];simp only [Z,cR,w3];rw [ih m (i+3) _ true (by omega) (by omega) (by rw [kq];exact b) (by omega),ih m (i+3) _ (decide _) (by omega) (by omega) (by rw [kq];exact b) (by omega),r]
     cases bad<;>rfl
    .rw [ay (by omega),one]
     simp only [ez,Z,cR,p];rw [ih m (i+1) _ bad (by omega) (by omega) (by rw [kq];exact b) (by omega),q,t,u,EI _ _ _ _ _ _ (fun h=>hd h.1)]
   .rw [hL (by omega),one]
    simp only [ez,Z,cR,p];rw [ih m (i+1) _ bad (by omega) (by omega) (by rw [kq];exact b) (by omega),q,uQ _ _ _ _ (by simp;omega)]
  .obtain rfl:i=body.length:=by omega
   rw [JX,ca,Ç (Î _)];rfl
theorem xj: ∀(l:O) (has:List Bool) (b:Bool),(setB l has b).1.length=has.length
 | [],_,_=>rfl
 | [lo],has,b=>by simp only [setB,kq]
 | [lo,d],has,b=>by rw [setB,xj [d],kq]
 |lo::d::hi::r,has,b=>by
  rw [setB];split
  .rw [xj r,kq]
  .rw [xj (d::hi::r),kq]
theorem Ue (s:O):W fun n=>nz n s false 94=some ((bJ s).2,(bJ s).1,false):=by
 refine(xi s false 94).mono fun n e=> ?_
 rw [e];cases s with
 |nil=>rfl
 |cons c r=>
  show some (if some c=some (94:UInt8)then(true,r,false)else(false,c::r,false))=some ((if c.toNat=94 then(r,true)else(c::r,false)).2,((if c.toNat=94 then(r,true)else(c::r,false)).1,false))
  by_cases h:c.toNat=94
  .have:c=94:=Õ.1 h
   subst this;rfl
  .rw [if_neg (fun k=>h (by cases k;rfl)),if_neg h]
theorem aBI (s:O) (hs:s.length<=60):W fun n=>HY n s false=some ((fL s).1.1,(fL s).1.2.1,(fL s).1.2.2.1,(fL s).1.2.2.2.1,(fL s).2):=by
 have r:=OI s;have d:=OC (bJ s).1;have t:=ni aK (bJ s).1;by_cases h:((bJ s).1.takeWhile aK).length=(bJ s).1.length\/(bJ s).1.takeWhile aK=[]
 .refine((Ue s).and (W.ge 1)).nm fun n ⟨e,u⟩=> ?_
  obtain⟨n,rfl⟩: ∃m,n=m+1:=⟨n-1,by omega⟩
  rw [Sk,show nz (n+1) s false (É (Æ 94))=_ from e];simp only [Z];rw [show sP (n+1) (bJ s).1 (É (Æ 93))=_ from Ud n (bJ s).1 93,d];simp only [Z];have f:(if ((bJ s).1.takeWhile aK).length=(bJ s).1.length then(-1:Int)else(((bJ s).1.takeWhile aK).length:Int))<1:=by
   rcases h with h|h
   .rw [if_pos h];omega
   .rw [h];split<;>simp
  rw [hJ f];unfold fL;simp only;rw [if_pos h];rfl
 .have g: ¬((bJ s).1.takeWhile aK).length=(bJ s).1.length:=fun k=>h (.inl k)
  have p:0<((bJ s).1.takeWhile aK).length:=ó.2 fun k=>h (.inr k)
  have b:=xj ((bJ s).1.takeWhile aK) dF false;have b:(setB ((bJ s).1.takeWhile aK) dF false).1.length=256:=by rw [b,sf]
  have kb:=Oz b (L:=fun n m i o=>sO n m ((bJ s).1.drop (((bJ s).1.takeWhile aK).length+1)) (setB ((bJ s).1.takeWhile aK) dF false).2 0 0 [] false 3 0 [] (bJ s).2 i o (setB ((bJ s).1.takeWhile aK) dF false).1 256) (out:=fun o=>((bJ s).1.drop (((bJ s).1.takeWhile aK).length+1),(setB ((bJ s).1.takeWhile aK) dF false).2,0,0,[],false,3,0,[],(bJ s).2,o))
   (fun n m i o hi ho=>by
    rw [Sm,hJ (by omega),hJ (by omega),fh (by omega),OA i hi]
    simp only [Y,Z];rw [py (by omega),getD_at (show i<(setB ((bJ s).1.takeWhile aK) dF false).1.length by omega)]
    cases (setB ((bJ s).1.takeWhile aK) dF false).1[i]<;>simp) (fun n m o=>by rw [Sm];rfl)
  refine((Ue s).and (kb.and (W.ge 400))).nm fun n ⟨e,z,u⟩=> ?_
  obtain⟨n,rfl⟩: ∃m,n=m+1:=⟨n-1,by omega⟩
  rw [Sk,show nz (n+1) s false (É (Æ 94))=_ from e];simp only [Z];rw [show sP (n+1) (bJ s).1 (É (Æ 93))=_ from Ud n (bJ s).1 93,d,if_neg g];simp only [Z];have w1:wrap .i64 ((((bJ s).1.takeWhile aK).length:Int)+1)=((((bJ s).1.takeWhile aK).length+1:Nat):Int):=by rw [À];omega
  rw [w1,hL (by omega),hJ (by omega),hJ (by omega),hJ (by unfold aC;omega)]
  simp only [Y,ez,Ì,Ā,OD];have j:(((bJ s).1.drop (((bJ s).1.takeWhile aK).length+1)).take ((bJ s).1.length-(((bJ s).1.takeWhile aK).length+1)))=(bJ s).1.drop (((bJ s).1.takeWhile aK).length+1):=Ù (by simp)
  rw [j];have q:=aBH (n+1) (by omega) ((bJ s).1.drop (((bJ s).1.takeWhile aK).length+1)) ((bJ s).1.takeWhile aK) (bJ s).2 (EL _) (by omega) ((bJ s).1.takeWhile aK).length (n+1) 0 dF false (by omega) (by omega) sf (by omega)
  rw [ã]at q;rw [show pf (n+1) (n+1) ((bJ s).1.drop (((bJ s).1.takeWhile aK).length+1)) false 0 0 [] false 3 0 [] (bJ s).2 (ö (Æ 256) false) 0 ((bJ s).1.takeWhile aK)=_ from q];simp only [Z,cR,b];rw [show sO (n+1) (n+1) _ _ 0 0 [] false 3 0 [] _ 0 [] _ ((256:Nat):Int)=_ from z];unfold fL;simp only;rw [if_neg h];rfl
def aBJ (md:Md) (s:O) (b:Bool) (r:Nd×O×Bool):Prop:=
 match md with
 |.pat=>W fun n=>wx n s b=some (flat r)
 |.part=>W fun n=>AJ n s b=some (flat r)
 |.piece=>W fun n=>HX n s b=some (flat r)
 |.atom=>W fun n=>AM n s b=some (flat r)
 |.fM ks=>cK fun n m=> ∃d s' b',wz n m s b 0 0 [] false ks=some (.inl (s',b',0,0,[],false,d))/\(hU d,s',b')=r
 |.fi ks=>cK fun n m=> ∃d s' b',AK n m s b 0 0 [] false ks=some (.inl (s',b',0,0,[],false,d))/\(gy d,s',b')=r
 |.iE t=>cK fun n m=>AL n m s b 0 0 [] false t.1 t.2.1 t.2.2.1 t.2.2.2.1 t.2.2.2.2=some (.inr (flat r))
theorem aBK (ks:List Tr) (st:O×Bool):(cond ((ks.length:Int)==(1:Int)) (cond (decide ((0:Int)<=(0:Int)/\(0:Int)<(ks.length:Int))) ((mj ks 0).bind fun d=>some (d.1,d.2.1,d.2.2.1,d.2.2.2.1,d.2.2.2.2,st.1,st.2)) none) (some ((7:Int),(0:Int),([]:O),false,ks,st.1,st.2)))=some (flat (hU ks,st)):=by
 match ks with
 | []=>rfl
 | [k]=>rw [xh];rfl
 |a::b::r=>
  rw [bj,ay (by simp only [Á];omega)]
  rfl
theorem aBL (ks:List Tr) (st:O×Bool):(cond ((ks.length:Int)==(0:Int)) (some ((11:Int),(0:Int),([]:O),false,([]:List Tr),st.1,st.2)) (cond ((ks.length:Int)==(1:Int)) (cond (decide ((0:Int)<=(0:Int)/\(0:Int)<(ks.length:Int))) ((mj ks 0).bind fun d=>some (d.1,d.2.1,d.2.2.1,d.2.2.2.1,d.2.2.2.2,st.1,st.2)) none) (some ((6:Int),(0:Int),([]:O),false,ks,st.1,st.2))))=some (flat (gy ks,st)):=by
 match ks with
 | []=>rfl
 | [k]=>rw [xh];rfl
 |a::b::r=>
  rw [bj,bj,ay (P:=_=(0:Int)) (by simp only [Á];omega),ay (P:=_=(1:Int)) (by simp only [Á];omega)]
  rfl
theorem pz:(É (Æ 124):UInt8)=124:=rfl
theorem aBM {s:O} {b:Bool} {c:UInt8} (h:eR s b=some c) (k:c.toNat=124):eR s b=some 124:=by
 rw [h];exact congrArg some (Õ.1 k)
theorem aBN: ∀f md s b r,iP f md s b=some r->s.length<=60->mb md s b->ku md s->aBJ md s b r:=by
 intro f;induction f with
 |zero=>intro md s b r h;simp [iP]at h
 |succ f ih=>
  intro md s b r h hs ae af;cases md with
  |pat=>
   simp only [iP,Ð]at h;obtain⟨x,z,h2⟩:=h;obtain⟨a1,a2,a3⟩:=eJ _ _ _ _ _ z hs trivial trivial;simp only [dS]at a2;have k1:=ih _ _ _ _ z hs trivial trivial;have k2:=ih _ _ _ _ h2 (by omega) trivial ⟨by simp;omega,by simpa using eZ a1⟩
   refine((show W _ from k1).and (cK.diag k2)).nm fun n ⟨e1,p,s',b',g,j⟩=> ?_
   subst j;rw [avR,e1];simp only [Z,flat,lB];rw [show wz n n x.2.1 x.2.2 0 0 [] false [cS (x.1.1,x.1.2.1,x.1.2.2.1,x.1.2.2.2.1,x.1.2.2.2.2)]=_ from g];simp only [Z,cR];exact aBK p (s',b')
  |fM ks=>
   simp only [iP]at h;split at h
   .rename_i i
    cases h;refine cK.stop (xi s b 124) fun n m e=>⟨ks,s,b, ?_,rfl⟩
    rw [JU,pz,e,i];rfl
   .rename_i c i
    obtain⟨rfl,e⟩:=fN i;have hl:s.length=s.tail.length+1:=by rw [e];simp
    split at h
    .rename_i u
     simp only [Ð]at h;obtain⟨x,z,h2⟩:=h;obtain⟨a1,a2,a3⟩:=eJ _ _ _ _ _ z (by omega) trivial trivial
     simp only [dS]at a2;have au:=af.1;have k1:=ih _ _ _ _ z (by omega) trivial trivial
     have k2:=ih _ _ _ _ h2 (by omega) trivial ⟨by simp;omega,by
      intro k hk;rcases å.1 hk with hk|hk
      .exact af.2 k hk
      .simp at hk;subst hk;exact eZ a1⟩
     refine cK.step ((show W _ from k1).and (xi s false 124)) k2 fun n m ⟨e1,g⟩ ⟨p,s',b',j,e4⟩=>⟨p,s',b', ?_,e4⟩
     rw [JU,pz,g,if_pos (aBM i u)];simp only [Z,Y,e1,flat,lB];rw [py (by omega)]
     exact j
    .rename_i u
     cases h;refine cK.stop (xi s false 124) fun n m e=>⟨ks,s,false, ?_,rfl⟩
     rw [JU,pz,e,if_neg (by rw [i];intro k;cases k;exact u rfl)]
     rfl
  |part=>
   simp only [iP]at h;have k:=ih (.fi []) _ _ _ h hs trivial ⟨by simp;omega,by simp⟩
   refine(cK.diag k).nm fun n ⟨p,s',b',g,j⟩=> ?_
   subst j;rw [avS,g];simp only [Z,cR];exact aBL p (s',b')
  |fi ks=>
   simp only [iP]at h;split at h
   .rename_i i
    cases h;refine cK.stop (lC s b) fun n m e=>⟨ks,s,b, ?_,rfl⟩
    rw [JV,e,i];rfl
   .rename_i c i
    obtain⟨rfl,e⟩:=fN i;split at h
    .rename_i u
     cases h;refine cK.stop (lC s false) fun n m e=>⟨ks,s,false, ?_,rfl⟩
     rw [JV,e,i];simp only [Z,Â,ez,bj];rcases u with u|u
     .rw [aA (by omega)];rfl
     .rw [ay (by omega),aA (by omega)];rfl
    .rename_i u
     simp only [Ð]at h;obtain⟨x,z,h2⟩:=h;have ag:mb .piece s false:=⟨by rw [e];simp,rfl⟩
     obtain⟨a1,a2,a3⟩:=eJ _ _ _ _ _ z hs ag trivial;simp only [dS]at a2;have au:=af.1;have k1:=ih _ _ _ _ z hs ag trivial;have k2:=ih _ _ _ _ h2 (by omega) trivial ⟨by simp;omega,by
      intro k hk;rcases å.1 hk with hk|hk
      .exact af.2 k hk
      .simp at hk;subst hk;exact eZ a1⟩
     refine cK.step ((show W _ from k1).and (lC s false)) k2 fun n m ⟨e1,g⟩ ⟨p,s',b',j,e4⟩=>⟨p,s',b', ?_,e4⟩
     rw [JV,g,i];simp only [Z,Â,ez,bj];rw [ay (P:=(c.toNat:Int)=124) (by omega),ay (P:=(c.toNat:Int)=41) (by omega)]
     simp only [ez,e1,Z,flat,lB];rw [py (by omega)]
     exact j
  |piece=>
   simp only [iP,Ð]at h;obtain⟨x,z,h2⟩:=h;obtain⟨a1,a2,a3⟩:=eJ _ _ _ _ _ z hs ae trivial;simp only [dS]at a2;have k1:=ih _ _ _ _ z hs ae trivial;have k2:=ih _ _ _ _ h2 (by omega) trivial a1
   refine((show W _ from k1).and (cK.diag k2)).nm fun n ⟨e1,g⟩=> ?_
   rw [avU,e1];simp only [Z,flat];rw [g];rfl
  |iE t=>
   simp only [iP]at h;split at h
   .rename_i i
    cases h;refine cK.stop (lC s b) fun n m e=> ?_
    rw [JW,e,i];rfl
   .rename_i c i
    obtain⟨rfl,e⟩:=fN i;have hl:s.length=s.tail.length+1:=by rw [e];simp
    split at h
    .rename_i u
     cases h;refine cK.stop ((lC s false).and (Uc c)) fun n m ⟨e,g⟩=> ?_
     rw [JW,e,i];simp only [Z,Â,ez,dR,g,u];rfl
    .rename_i u
     have k2:=ih _ _ _ _ h (by omega) trivial ⟨by simp,by simpa using eZ af⟩
     refine cK.step ((lC s false).and (Uc c)) k2 fun n m ⟨e,g⟩ j=> ?_
     rw [JW,e,i];simp only [Z,Â,ez,dR,g,bj,ay u,mF,lB];rw [hJ (by omega)]
     exact j
  |atom=>
   obtain⟨aw,rfl⟩:=ae;cases s with
   |nil=>exact absurd rfl aw
   |cons c rr=>
    simp only [Á]at hs;have i:eR (c::rr) false=some c:=rfl;simp only [iP]at h;split at h
    .rename_i u
     simp only [Ð]at h;obtain⟨x,z,h2⟩:=h;have k1:=ih _ _ _ _ z (by omega) trivial trivial
     cases h2;refine(((show W _ from k1).and (lC (c::rr) false)).and (xi x.2.1 x.2.2 41)).nm fun n ⟨⟨e1,g⟩,j⟩=> ?_
     rw [pw,g,i];simp only [Z,mF,ß,bj];rw [hJ (by simp only [Á];omega),aA (by omega)]
     simp only [Y,e1,Z,flat];rw [show nz n x.2.1 x.2.2 (É (Æ 41))=_ from j];unfold hY;cases hx:eR x.2.1 x.2.2 with
     |none=>rfl
     |some d=>
      by_cases hd:d.toNat=41
      .have:d=41:=Õ.1 hd
       subst this;rfl
      .have: ¬(some d=some (41:UInt8)):=by intro k;cases k;exact hd rfl
       rw [if_neg this];simp only [hd,if_false];rfl
    .rename_i u
     cases h;have base:=lC (c::rr) false;have q:bo ((c.toNat:Int)=40)=false:=ay (by omega)
     show W fun n=>AM n (c::rr) false=some (flat (kr c rr))
     unfold kr;by_cases c1:c.toNat=46
     .rw [if_pos c1]
      refine base.nm fun n g=> ?_
      rw [pw,g,i];simp only [Z,mF,ß,bj,q,aA (show (c.toNat:Int)=46 by omega)]
      rw [hJ (by simp only [Á];omega)]
      rfl
     rw [if_neg c1];have ad:bo ((c.toNat:Int)=46)=false:=ay (by omega)
     by_cases c2:c.toNat=94
     .rw [if_pos c2]
      refine base.nm fun n g=> ?_
      rw [pw,g,i];simp only [Z,mF,ß,bj,q,ad,aA (show (c.toNat:Int)=94 by omega)]
      rw [hJ (by simp only [Á];omega)]
      rfl
     rw [if_neg c2];have ai:bo ((c.toNat:Int)=94)=false:=ay (by omega)
     by_cases c3:c.toNat=36
     .rw [if_pos c3]
      refine base.nm fun n g=> ?_
      rw [pw,g,i];simp only [Z,mF,ß,bj,q,ad,ai,aA (show (c.toNat:Int)=36 by omega)]
      rw [hJ (by simp only [Á];omega)]
      rfl
     rw [if_neg c3];have al:bo ((c.toNat:Int)=36)=false:=ay (by omega)
     by_cases c4:c.toNat=91
     .rw [if_pos c4]
      refine(base.and (aBI rr (by omega))).nm fun n ⟨g,j⟩=> ?_
      rw [pw,g,i];simp only [Z,mF,ß,bj,q,ad,ai,al,aA (show (c.toNat:Int)=91 by omega)]
      rw [hJ (by simp only [Á];omega)]
      simp only [Y,ez,j,Z];have hk:(fL rr).1.2.2.2.2=[]:=by
       unfold fL;simp only;split<;>rfl
      unfold flat;rw [hk]
     rw [if_neg c4];have ar:bo ((c.toNat:Int)=91)=false:=ay (by omega)
     by_cases c5:c.toNat=92
     .rw [if_pos c5]
      cases rr with
      |nil=>
       refine(base.and (lC [] false)).nm fun n ⟨g,j⟩=> ?_
       rw [pw,g,i];simp only [Z,mF,ß,bj,q,ad,ai,al,ar,aA (show (c.toNat:Int)=92 by omega),j]
       rfl
      |cons d rr=>
       refine(base.and (lC (d::rr) false)).nm fun n ⟨g,j⟩=> ?_
       rw [pw,g,i];simp only [Z,mF,ß,bj,q,ad,ai,al,ar,aA (show (c.toNat:Int)=92 by omega),j]
       rw [hJ (by simp only [Á];omega),show eR (d::rr) false=some d from rfl]
       simp only [Y,ez,Â];rw [hJ (by simp only [Á];omega),show wrap .i64 (d.toNat:Int)=(d.toNat:Int) by have:=d.toNat_lt;rw [À];omega]
       rfl
     rw [if_neg c5];have ax:bo ((c.toNat:Int)=92)=false:=ay (by omega)
     refine base.nm fun n g=> ?_
     rw [pw,g,i];simp only [Z,mF,ß,bj,q,ad,ai,al,ar,ax];rw [hJ (by simp only [Á];omega)]
     by_cases c6:c.toNat=42
     .rw [if_pos (.inl c6),aA (by omega)];rfl
     by_cases c7:c.toNat=43
     .rw [if_pos (.inr (.inl c7)),ay (P:=(c.toNat:Int)=42) (by omega),aA (by omega)];rfl
     by_cases c8:c.toNat=63
     .rw [if_pos (.inr (.inr c8)),ay (P:=(c.toNat:Int)=42) (by omega),ay (P:=(c.toNat:Int)=43) (by omega),aA (by omega)];rfl
     rw [if_neg (by omega),ay (P:=(c.toNat:Int)=42) (by omega),ay (P:=(c.toNat:Int)=43) (by omega),ay (P:=(c.toNat:Int)=63) (by omega),show wrap .i64 (c.toNat:Int)=(c.toNat:Int) by have:=c.toNat_lt;rw [À];omega]
     rfl
def eU (t:Nd) (S:O) (a:Int) (bad:Bool):Int×(Int×O×Bool×List Tr×O×Int×Bool):=(t.1,t.2.1,t.2.2.1,t.2.2.2.1,t.2.2.2.2,S,a,bad)
def th (d:Nat) (st:O×Bool):Prop:=st.2=true\/st.1.length<d
def Sync (d:Nat) (S:O) (r:Nd×O×Bool) (t:Nd) (a:Int) (bad:Bool):Prop:=
 (bad=false/\t=r.1/\r.2.2=false/\ ∃k:Nat,a=k/\k<=S.length/\S.drop k=r.2.1)\/(bad=true/\th d r.2)
theorem th.mono {d:Nat} {f md s b r} (h:iP f md s b=some r) (g:s.length<=60) (hp:mb md s b) (i:ku md s) (hd:th d (s,b)):th d r.2:=by
 obtain⟨-,j,k⟩:=eJ _ _ _ _ _ h g hp i;rcases hd with hd|hd
 .exact .inl (k hd)
 .refine .inr ?_
  have:r.2.1.length<=s.length:=by
   cases md<;>simp only [dS]at j<;>omega
  show r.2.1.length<d;have hd:s.length<d:=hd;omega
theorem lD (S:O) (k:Nat) (hk:k<=S.length) (c:UInt8):W fun n=>eT n S (k:Int) false c=some (bo (eR (S.drop k) false=some c),S,(k:Int),false):=by
 refine W.succ (W.of fun n=> ?_)
 rw [Rm];simp only [Ã,Y];by_cases h:k<S.length
 .rw [bk h,df h]
  simp only [Y,Z,bj];rw [kY (show ((S[k].toNat:Int)=(c.toNat:Int))↔eR (S.drop k) false=some c by
   rw [Ä h];show _↔some S[k]=some c;rw [đ,Õ];simp)]
 .rw [hL (by omega)]
  obtain rfl:k=S.length:=by omega
  rw [Ç (Î _)];simp only [ez,Z];rw [ay (by simp [eR])]
theorem Kg (S:O) (a:Int) (c:UInt8):W fun n=>eT n S a true c=some (false,S,a,true):=by
 refine W.succ (W.of fun n=> ?_)
 rw [Rm];rfl
def Kh (S:O) (r:Nd×O×Bool) (set:O) (nt:Bool) (o c a:Int) (bad:Bool):Prop:=
 (bad=false/\r.1=(o,c,set,nt,[])/\r.2.2=false/\ ∃k:Nat,a=k/\k<=S.length/\S.drop k=r.2.1)\/(bad=true/\r.2.2=true)
theorem Ki (n:Nat) (p:O) (q:Int) (r:Bool) (s t:Int) (u:O) (z:Bool) (x7 x8:Int) (x9:O) (b:Bool) (lo hi:UInt8) (has:List Bool) (d:Bool) (f:UInt8) (g:O) (i k:Int) (hn:300<=n) (hl:has.length=256):
  jO n n p q r s t u z x7 x8 x9 b (lo.toNat:Int) has d f g i k (hi.toNat:Int)=some (.inl (p,q,r,s,t,u,z,x7,x8,x9,b,dI has lo.toNat (hi.toNat+1-lo.toNat),d,f,g,i,k)):=by
 have h1:=lo.toNat_lt;have h2:=hi.toNat_lt;refine EK (hi:=hi.toNat) (L:=fun m j h=>jO n m p q r s t u z x7 x8 x9 b j h d f g i k (hi.toNat:Int)) (out:=fun h=>(p,q,r,s,t,u,z,x7,x8,x9,b,h,d,f,g,i,k)) (by omega) (fun m j h hj hh=> ?_) (fun m j h hj=> ?_) _ n lo.toNat has rfl (by omega) hl
 .rw [Ro,hJ (by omega),hJ (by omega),fh (by omega),dR]
  rfl
 .rw [Ro,hL (by omega),dR]
  rfl
theorem aBO (c:UInt8) (t:O) (has:List Bool) (b:Bool) (h: ∀d hi r,t=d::hi::r-> ¬(d.toNat=45/\hi.toNat≠93)):setB (c::t.takeWhile aK) has b=setB (t.takeWhile aK) (dI has c.toNat 1) b:=by
 match t,h with
 | [],_=>exact uQ _ _ _ _ (by simp)
 | [d],_=>exact uQ _ _ _ _ (by have:=ni aK [d];simp only [Á,Ë]at this;omega)
 |d::hi::r,h=>
  have h:=h d hi r rfl;rw [Ñ];by_cases f:aK d=true
  .rw [if_pos f,Ñ]
   by_cases g:aK hi=true
   .rw [if_pos g,EI _ _ _ _ _ _ h]
   .rw [if_neg g];rfl
  .rw [if_neg f];rfl
theorem Uf (n:Nat) (hn:300<=n) (S:O) (hS:S.length<=60) (nt:Bool): ∀q m (k:Nat) has bad (mn:Nat),S.length-k<=q->q<m->has.length=256->k<=S.length->mn+(S.length-k)<=200->
  ∃b:Nat,mn<=b/\b<=200/\((S.drop k).takeWhile aK=[]->b=mn)/\((S.drop k).takeWhile aK≠ []->mn<b)/\
  gP n m S (k:Int) bad 0 0 [] false 3 0 [] nt has (mn:Int)=some (.inl (S,((k+((S.drop k).takeWhile aK).length:Nat):Int),(setB ((S.drop k).takeWhile aK) has bad).2,0,0,[],false,3,0,[],nt,(setB ((S.drop k).takeWhile aK) has bad).1,(b:Int))):=by
 intro q;induction q with
 |zero=>
  intro m k has bad mn hk hm z aj ak;obtain⟨m,rfl⟩: ∃m',m=m'+1:=⟨m-1,by omega⟩
  obtain rfl:k=S.length:=by omega
  refine⟨mn,Î _,by omega,fun _=>rfl,fun h=>absurd (by rw [Ç (Î _)];rfl) h, ?_⟩
  rw [JL,ca,Ç (Î _)];rfl
 |succ q ih=>
  intro m k has bad mn hk hm z aj ak;obtain⟨m,rfl⟩: ∃m',m=m'+1:=⟨m-1,by omega⟩
  by_cases s:k<S.length
  .have w1:wrap .i64 ((k:Int)+1)=((k+1:Nat):Int):=by rw [À];omega
   have w2:wrap .i64 (((k+1:Nat):Int)+1)=((k+2:Nat):Int):=by rw [À];omega
   have w3:wrap .i64 (((k+1:Nat):Int)+2)=((k+3:Nat):Int):=by rw [À];omega
   have wm:wrap .i64 ((mn:Int)+1)=((mn+1:Nat):Int):=by rw [À];omega
   have e0:S.drop k=S[k]::S.drop (k+1):=Ä s;rw [JL,bk s,df s];simp only [Y,Z,w1,w2,w3,ri,cw];by_cases ad:S[k].toNat=93
   .have f:(S.drop k).takeWhile aK=[]:=by rw [e0,Ñ,if_neg (by simp [aK,ad])]
    refine⟨mn,Î _,by omega,fun _=>rfl,fun h=>absurd f h, ?_⟩
    rw [ay (P:= ¬(S[k].toNat:Int)=93) (by omega),f]
    rfl
   .have al:aK S[k]=true:=by simp [aK,ad]
    have f:(S.drop k).takeWhile aK=S[k]::(S.drop (k+1)).takeWhile aK:=by rw [e0,Ñ,if_pos al]
    have ao:decide ((S[k].toNat:Int)<(S[k].toNat:Int))=false:=hL (by omega)
    rw [aA (P:= ¬(S[k].toNat:Int)=93) (by omega)]
    simp only [Y,ao,ez];have one: ∀x1 g i,jO n n S x1 bad 0 0 [] false 3 0 [] nt (S[k].toNat:Int) has g i S (k:Int) (mn:Int) (S[k].toNat:Int)=some (.inl (S,x1,bad,0,0,[],false,3,0,[],nt,dI has S[k].toNat 1,g,i,S,(k:Int),(mn:Int))):=fun x1 g i=>by
     have:=Ki n S x1 bad 0 0 [] false 3 0 [] nt S[k] S[k] has g i S (k:Int) (mn:Int) hn z;rwa [show S[k].toNat+1-S[k].toNat=1 by omega]at this
    have t:(∀d hi r,S.drop (k+1)=d::hi::r-> ¬(d.toNat=45/\hi.toNat≠93))-> ∃b:Nat,mn<=b/\b<=200/\((S.drop k).takeWhile aK=[]->b=mn)/\((S.drop k).takeWhile aK≠ []->mn<b)/\
      gP n m S ((k+1:Nat):Int) bad 0 0 [] false 3 0 [] nt (dI has S[k].toNat 1) ((mn+1:Nat):Int)=some (.inl (S,((k+((S.drop k).takeWhile aK).length:Nat):Int),(setB ((S.drop k).takeWhile aK) has bad).2,0,0,[],false,3,0,[],nt,(setB ((S.drop k).takeWhile aK) has bad).1,(b:Int))):=fun u=>by
     obtain⟨b,g1,g2,g3,g4,g5⟩:=ih m (k+1) (dI has S[k].toNat 1) bad (mn+1) (by omega) (by omega) (by rw [kq];exact z) (by omega) (by omega)
     refine⟨b,by omega,g2,fun h=>absurd h (by rw [f];simp),fun _=>by omega, ?_⟩
     rw [g5,f,aBO _ _ _ _ u,Á,show k+(((S.drop (k+1)).takeWhile aK).length+1)=k+1+((S.drop (k+1)).takeWhile aK).length by omega]
    by_cases h2:k+2<S.length
    .have e1:S.drop (k+1)=S[k+1]::S.drop (k+2):=Ä (by omega)
     have e2:S.drop (k+2)=S[k+2]::S.drop (k+3):=Ä h2;rw [bk h2,df (show k+1<S.length by omega),df h2]
     simp only [Y,Z,bj,one,cR,wm];by_cases hd:S[k+1].toNat=45
     .rw [aA (P:=(S[k+1].toNat:Int)=45) (by omega)]
      simp only [Y];by_cases hh:S[k+2].toNat=93
      .rw [ay (P:= ¬(S[k+2].toNat:Int)=93) (by omega)]
       simp only [ez];refine t fun d hi r e=> ?_
       rw [e1,e2]at e;cases e;exact fun h=>h.2 hh
      .rw [aA (P:= ¬(S[k+2].toNat:Int)=93) (by omega)]
       simp only [Y];have aw:aK S[k+1]=true:=by simp [aK,hd]
       have ax:aK S[k+2]=true:=by simp [aK,hh]
       have ae:(S.drop k).takeWhile aK=S[k]::S[k+1]::S[k+2]::(S.drop (k+3)).takeWhile aK:=by
        rw [f,e1,Ñ,if_pos aw,e2,Ñ,if_pos ax]
       have j: ∀bd,bd=(bad||decide (S[k+2].toNat<S[k].toNat))-> ∃b:Nat,mn<=b/\b<=200/\((S.drop k).takeWhile aK=[]->b=mn)/\((S.drop k).takeWhile aK≠ []->mn<b)/\
         gP n m S ((k+3:Nat):Int) bd 0 0 [] false 3 0 [] nt (dI has S[k].toNat (S[k+2].toNat+1-S[k].toNat)) ((mn+1:Nat):Int)=some (.inl (S,((k+((S.drop k).takeWhile aK).length:Nat):Int),(setB ((S.drop k).takeWhile aK) has bad).2,0,0,[],false,3,0,[],nt,(setB ((S.drop k).takeWhile aK) has bad).1,(b:Int))):=fun bd az=>by
        obtain⟨b,g1,g2,g3,g4,g5⟩:=ih m (k+3) (dI has S[k].toNat (S[k+2].toNat+1-S[k].toNat)) bd (mn+1) (by omega) (by omega) (by rw [kq];exact z) (by omega) (by omega)
        refine⟨b,by omega,g2,fun h=>absurd h (by rw [f];simp),fun _=>by omega, ?_⟩
        rw [g5,ae,EJ _ _ _ _ _ _ ⟨hd,hh⟩,az];simp only [Á];rw [show k+(((S.drop (k+3)).takeWhile aK).length+1+1+1)=k+3+((S.drop (k+3)).takeWhile aK).length by omega]
       by_cases p:S[k+2].toNat<S[k].toNat
       .rw [hJ (show (S[k+2].toNat:Int)<(S[k].toNat:Int) by omega),Ki n S _ true 0 0 [] false 3 0 [] nt S[k] S[k+2] has _ _ S (k:Int) (mn:Int) hn z]
        simp only [Y,Z,cR,wm];exact j true (by rw [hJ p];simp)
       .rw [hL (show ¬(S[k+2].toNat:Int)<(S[k].toNat:Int) by omega),Ki n S _ bad 0 0 [] false 3 0 [] nt S[k] S[k+2] has _ _ S (k:Int) (mn:Int) hn z]
        simp only [ez,Z,cR,wm];exact j bad (by rw [hL p];simp)
     .rw [ay (P:=(S[k+1].toNat:Int)=45) (by omega)]
      simp only [ez];refine t fun d hi r e=> ?_
      rw [e1,e2]at e;cases e;exact fun h=>hd h.1
    .rw [hL (by omega)]
     simp only [ez,Z,one,cR,wm];refine t fun d hi r e=> ?_
     have:(S.drop (k+1)).length=(d::hi::r).length:=by rw [e]
     simp at this
     omega
  .obtain rfl:k=S.length:=by omega
   refine⟨mn,Î _,by omega,fun _=>rfl,fun h=>absurd (by rw [Ç (Î _)];rfl) h, ?_⟩
   rw [JL,ca,Ç (Î _)];rfl
theorem Ug (S:O) (k:Nat) (hk:k<=S.length) (s:S.length<=60) (nt:Bool): ∃(set:O) (a:Int) (bad:Bool),
  ((((S.drop k).takeWhile aK).length=(S.drop k).length\/(S.drop k).takeWhile aK=[])/\bad=true\/
   ¬(((S.drop k).takeWhile aK).length=(S.drop k).length\/(S.drop k).takeWhile aK=[])/\set=bytesOf (setB ((S.drop k).takeWhile aK) dF false).1 256/\bad=(setB ((S.drop k).takeWhile aK) dF false).2/\a=((k+((S.drop k).takeWhile aK).length+1:Nat):Int))/\
  W fun n=>((gP n n S (k:Int) false 0 0 [] false 3 0 [] nt (ö (Æ (256:Int)) false) 0).bind fun z=>aw z (fun z2=>(cond (decide ((z2.1.length:Int)<=z2.2.1)) (some true) (some (z2.2.2.2.2.2.2.2.2.2.2.2.2==(0:Int))):Option Bool).bind fun j=>cond j ((lk n n z2.1 (wrap .i64 (z2.2.1+1)) true z2.2.2.2.1 z2.2.2.2.2.1 z2.2.2.2.2.2.1 z2.2.2.2.2.2.2.1 z2.2.2.2.2.2.2.2.1 z2.2.2.2.2.2.2.2.2.1 z2.2.2.2.2.2.2.2.2.2.1 z2.2.2.2.2.2.2.2.2.2.2.1 0 [] z2.2.2.2.2.2.2.2.2.2.2.2.1).bind fun d=>aw d (fun z24=>some (z24.2.2.2.2.2.2.2.1,z24.2.2.2.2.2.2.2.2.1,z24.2.2.2.2.2.2.2.2.2.2.2,z24.2.2.2.2.2.2.2.2.2.2.1,z24.1,z24.2.1,z24.2.2.1)) (fun f=>some f))
   ((lk n n z2.1 (wrap .i64 (z2.2.1+1)) z2.2.2.1 z2.2.2.2.1 z2.2.2.2.2.1 z2.2.2.2.2.2.1 z2.2.2.2.2.2.2.1 z2.2.2.2.2.2.2.2.1 z2.2.2.2.2.2.2.2.2.1 z2.2.2.2.2.2.2.2.2.2.1 z2.2.2.2.2.2.2.2.2.2.2.1 0 [] z2.2.2.2.2.2.2.2.2.2.2.2.1).bind fun d=>aw d (fun z24=>some (z24.2.2.2.2.2.2.2.1,z24.2.2.2.2.2.2.2.2.1,z24.2.2.2.2.2.2.2.2.2.2.2,z24.2.2.2.2.2.2.2.2.2.2.1,z24.1,z24.2.1,z24.2.2.1)) (fun f=>some f))) (fun w2=>some w2))=some (3,0,set,nt,S,a,bad):=by
 have b:=xj ((S.drop k).takeWhile aK) dF false;have b:(setB ((S.drop k).takeWhile aK) dF false).1.length=256:=by rw [b,sf]
 have ae:=ni aK (S.drop k);have af:(S.drop k).length=S.length-k:=by simp
 have kb: ∀(a:Int) (bad:Bool),W fun n=>lk n n S a bad 0 0 [] false 3 0 [] nt 0 [] (setB ((S.drop k).takeWhile aK) dF false).1=some (.inl (S,a,bad,0,0,[],false,3,0,[],nt,bytesOf (setB ((S.drop k).takeWhile aK) dF false).1 256)):=fun a bad=>
  Oz b (L:=fun n m i o=>lk n m S a bad 0 0 [] false 3 0 [] nt i o (setB ((S.drop k).takeWhile aK) dF false).1) (out:=fun o=>(S,a,bad,0,0,[],false,3,0,[],nt,o))
   (fun n m i o hi ho=>by
    rw [Rp,hJ (by omega),hJ (by omega),fh (by omega),OA i hi]
    simp only [Y,Z];rw [py (by omega),getD_at (show i<(setB ((S.drop k).takeWhile aK) dF false).1.length by omega)]
    cases (setB ((S.drop k).takeWhile aK) dF false).1[i]<;>simp) (fun n m o=>by rw [Rp];rfl)
 have t:wrap .i64 (((k+((S.drop k).takeWhile aK).length:Nat):Int)+1)=((k+((S.drop k).takeWhile aK).length+1:Nat):Int):=by rw [À];omega
 by_cases h:((S.drop k).takeWhile aK).length=(S.drop k).length\/(S.drop k).takeWhile aK=[]
 .refine⟨bytesOf (setB ((S.drop k).takeWhile aK) dF false).1 256,((k+((S.drop k).takeWhile aK).length+1:Nat):Int),true,.inl ⟨h,rfl⟩,((kb ((k+((S.drop k).takeWhile aK).length+1:Nat):Int) true).and (W.ge 400)).mono fun n ⟨p,hn⟩=> ?_⟩
  obtain⟨g,g1,g2,g3,g4,g5⟩:=Uf n (by omega) S s nt S.length n k dF false 0 (by omega) (by omega) sf hk (by omega)
  rw [show gP n n S (k:Int) false 0 0 [] false 3 0 [] nt (ö (Æ 256) false) 0=_ from g5];simp only [Z,cR,t];have r:(cond (decide ((S.length:Int)<=((k+((S.drop k).takeWhile aK).length:Nat):Int))) (some true) (some ((g:Int)==(0:Int))):Option Bool)=some true:=by
   rcases h with h|h
   .rw [hJ (by omega)];rfl
   .rw [g3 h]
    cases decide ((S.length:Int)<=((k+((S.drop k).takeWhile aK).length:Nat):Int))<;>rfl
  rw [r];simp only [Z,Y];rw [p];rfl
 .refine⟨bytesOf (setB ((S.drop k).takeWhile aK) dF false).1 256,((k+((S.drop k).takeWhile aK).length+1:Nat):Int),(setB ((S.drop k).takeWhile aK) dF false).2,.inr ⟨h,rfl,rfl,rfl⟩,((kb ((k+((S.drop k).takeWhile aK).length+1:Nat):Int) (setB ((S.drop k).takeWhile aK) dF false).2).and (W.ge 400)).mono fun n ⟨p,hn⟩=> ?_⟩
  obtain⟨g,g1,g2,g3,g4,g5⟩:=Uf n (by omega) S s nt S.length n k dF false 0 (by omega) (by omega) sf hk (by omega)
  rw [show gP n n S (k:Int) false 0 0 [] false 3 0 [] nt (ö (Æ 256) false) 0=_ from g5];simp only [Z,cR,t];have ah: ¬((S.drop k).takeWhile aK).length=(S.drop k).length:=fun q=>h (.inl q)
  have u:=g4 (fun q=>h (.inr q))
  have r:(cond (decide ((S.length:Int)<=((k+((S.drop k).takeWhile aK).length:Nat):Int))) (some true) (some ((g:Int)==(0:Int))):Option Bool)=some false:=by
   rw [hL (by omega),bj,ay (by omega)];rfl
  rw [r];simp only [Z,ez];rw [p];rfl
theorem aBP (S:O) (k:Nat) (hk:k<=S.length) (m:S.length<=60): ∃set nt o c a bad,Kh S (fL (S.drop k)) set nt o c a bad/\W fun n=>GZ n S (k:Int) false=some (o,c,set,nt,S,a,bad):=by
 have fin: ∀(j:Nat) (nt:Bool),j<=S.length->bJ (S.drop k)=(S.drop j,nt)-> ∀set a bad,((((S.drop j).takeWhile aK).length=(S.drop j).length\/(S.drop j).takeWhile aK=[])/\bad=true\/
   ¬(((S.drop j).takeWhile aK).length=(S.drop j).length\/(S.drop j).takeWhile aK=[])/\set=bytesOf (setB ((S.drop j).takeWhile aK) dF false).1 256/\bad=(setB ((S.drop j).takeWhile aK) dF false).2/\a=((j+((S.drop j).takeWhile aK).length+1:Nat):Int))->Kh S (fL (S.drop k)) set nt 3 0 a bad:=by
  intro j nt hj b set a bad h;have p:=ni aK (S.drop j);have s:(S.drop j).length=S.length-j:=by simp
  unfold fL Kh;rw [b];simp only;rcases h with⟨h,rfl⟩|⟨h,d,f,t⟩
  .rw [if_pos h]
   exact .inr ⟨rfl,rfl⟩
  .rw [if_neg h,d,f,t]
   simp only;cases hb:(setB ((S.drop j).takeWhile aK) dF false).2
   .refine .inl ⟨rfl,by simp only,rfl,_,rfl, ?_, ?_⟩
    .have u: ¬((S.drop j).takeWhile aK).length=(S.drop j).length:=fun q=>h (.inl q)
     omega
    .rw [List.drop_drop]
     rfl
   .exact .inr ⟨rfl,rfl⟩
 by_cases h:eR (S.drop k) false=some 94
 .obtain⟨-,e⟩:=fN h
  have z:k<S.length:=by
   by_cases h':k<S.length
   .exact h'
   .rw [Ç (by omega)]at h;cases h
  have b:bJ (S.drop k)=(S.drop (k+1),true):=by
   have ht:(S.drop k).tail=S.drop (k+1):=ĉ;rw [e,ht];rfl
  obtain⟨set,a,bad,g,i⟩:=Ug S (k+1) (by omega) m true
  refine⟨set,true,3,0,a,bad,fin (k+1) true (by omega) b set a bad g,(i.and (lD S k hk 94)).nm fun n ⟨d,f⟩=> ?_⟩
  rw [Rn,show eT n S (k:Int) false (É (Æ 94))=_ from f,aA h];simp only [Z,Y];rw [hJ (by unfold aC;omega),show wrap .i64 ((k:Int)+1)=((k+1:Nat):Int) by rw [À];omega]
  exact d
 .have b:bJ (S.drop k)=(S.drop k,false):=by
   cases e:S.drop k with
   |nil=>rfl
   |cons c r=>
    rw [e]at h;show(if c.toNat=94 then(r,true)else(c::r,false))=_
    have hc:c.toNat≠94:=fun q=>h (congrArg some (Õ.1 q))
    rw [if_neg hc]
  obtain⟨set,a,bad,g,i⟩:=Ug S k hk m false;refine⟨set,false,3,0,a,bad,fin k false hk b set a bad g,(i.and (lD S k hk 94)).nm fun n ⟨d,f⟩=> ?_⟩
  rw [Rn,show eT n S (k:Int) false (É (Æ 94))=_ from f,ay h];simp only [Z,ez];rw [hJ (by unfold aC;omega)]
  exact d
def aBQ (md:Md) (d:Nat) (S:O) (k:Nat) (r:Nd×O×Bool):Prop:=
 match md with
 |.pat=> ∃t a bad,Sync d S r t a bad/\W fun n=>vy n S k false d=some (eU t S a bad)
 |.part=> ∃t a bad,Sync d S r t a bad/\W fun n=>zS n S k false d=some (eU t S a bad)
 |.piece=> ∃t a bad,Sync d S r t a bad/\W fun n=>GY n S k false d=some (eU t S a bad)
 |.atom=> ∃t a bad,Sync d S r t a bad/\W fun n=>vA n S k false d=some (eU t S a bad)
 |.fM ks=> ∃b a bad,Sync d S r (hU b) a bad/\cK fun n m=>qN n m S k false 0 0 [] false d ks=some (.inl (S,a,bad,0,0,[],false,b))
 |.fi ks=> ∃b a bad,Sync d S r (gy b) a bad/\cK fun n m=>vz n m S k false 0 0 [] false d ks=some (.inl (S,a,bad,0,0,[],false,b))
 |.iE t=> ∃f a bad,Sync d S r f a bad/\cK fun n m=>qO n m S k false 0 0 [] false t.1 t.2.1 t.2.2.1 t.2.2.2.1 t.2.2.2.2=some (.inl (S,a,bad,0,0,[],false,f.1,f.2.1,f.2.2.1,f.2.2.2.1,f.2.2.2.2))
theorem Uh (ks:List Tr) (S:O) (a:Int) (bad:Bool):(cond ((ks.length:Int)==(1:Int)) (cond (decide ((0:Int)<=(0:Int)/\(0:Int)<(ks.length:Int))) ((mj ks 0).bind fun d=>some (d.1,d.2.1,d.2.2.1,d.2.2.2.1,d.2.2.2.2,S,a,bad)) none) (some ((7:Int),(0:Int),([]:O),false,ks,S,a,bad)))=some (eU (hU ks) S a bad):=by
 match ks with
 | []=>rfl
 | [k]=>rw [xh];rfl
 |a::b::r=>
  rw [bj,ay (by simp only [Á];omega)]
  rfl
theorem aBR (ks:List Tr) (S:O) (a:Int) (bad:Bool):(cond ((ks.length:Int)==(0:Int)) (some ((11:Int),(0:Int),([]:O),false,([]:List Tr),S,a,bad)) (cond ((ks.length:Int)==(1:Int)) (cond (decide ((0:Int)<=(0:Int)/\(0:Int)<(ks.length:Int))) ((mj ks 0).bind fun d=>some (d.1,d.2.1,d.2.2.1,d.2.2.2.1,d.2.2.2.2,S,a,bad)) none) (some ((6:Int),(0:Int),([]:O),false,ks,S,a,bad))))=some (eU (gy ks) S a bad):=by
 match ks with
 | []=>rfl
 | [k]=>rw [xh];rfl
 |a::b::r=>
  rw [bj,bj,ay (P:=_=(0:Int)) (by simp only [Á];omega),ay (P:=_=(1:Int)) (by simp only [Á];omega)]
  rfl
theorem wk {k:Nat} (h:k<=1000):wrap .i64 ((k:Int)+(1:Int))=((k+1:Nat):Int):=by rw [À];omega
theorem drop_tail {S s:O} {k:Nat} (h:S.drop k=s):S.drop (k+1)=s.tail:=by rw [<-h,ĉ]
theorem Co {S:O} {k:Nat} {c:UInt8} {t:O} (h:S.drop k=c::t): ∃hk:k<S.length,S[k]=c:=by
 have hk:k<S.length:=by
  by_cases b:k<S.length
  .exact b
  .rw [Ç (by omega)]at h;cases h
 refine⟨hk, ?_⟩
 rw [Ä hk]at h;exact(List.cons.inj h).1
theorem tj {s:O} {c d:UInt8} (h:eR s false=some c):eR s false=some d↔c.toNat=d.toNat:=by
 rw [h];constructor
 .intro k;cases k;rfl
 .intro k;exact congrArg some (Õ.1 k)
theorem aBS: ∀f md s r,iP f md s false=some r-> ∀d (S:O) k,S.length<=60->k<=S.length->S.drop k=s->d+s.length<=60->mb md s false->ku md s->aBQ md d S k r:=by
 intro f;induction f with
 |zero=>intro md s r h;simp [iP]at h
 |succ f ih=>
  intro md s r h d S k hS hk hd a7 a8 bd;have hs:s.length<=60:=by omega
  have ch:S.length-k=s.length:=by rw [<-hd];simp
  cases md with
  |pat=>
   simp only [iP,Ð]at h;obtain⟨x,h1,h2⟩:=h;obtain⟨a1,a2,a3⟩:=eJ _ _ _ _ _ h1 hs trivial trivial;simp only [dS]at a2;have ae:ku (.fM [cS x.1]) x.2.1:=⟨by simp;omega,by simpa using eZ a1⟩
   obtain⟨t,a,bad,z,g⟩:=ih _ _ _ h1 d S k hS hk hd a7 trivial trivial;rcases z with⟨rfl,rfl,hb,k',rfl,ah,af⟩|⟨rfl,j⟩
   .rw [hb]at h2
    obtain⟨ai,a',u,ad,p⟩:=ih _ _ _ h2 d S k' hS ah af (by omega) trivial ae
    refine⟨hU ai,a',u,ad,(g.and (cK.diag p)).nm fun n ⟨g,p⟩=> ?_⟩
    rw [Ri,g];simp only [Z,eU,lB];rw [show qN n n S k' false 0 0 [] false d [cS (x.1.1,x.1.2.1,x.1.2.2.1,x.1.2.2.2.1,x.1.2.2.2.2)]=_ from p];simp only [Z,cR];exact Uh ai S a' u
   .have b:=j.mono h2 (by omega) trivial ae
    refine⟨hU [cS t],a,true,.inr ⟨rfl,b⟩,((g.and (Kg S a 124)).and (W.ge 1)).nm fun n ⟨⟨g,p⟩,hn⟩=> ?_⟩
    rw [Ri,g];simp only [Z,eU,lB];obtain⟨m,hm⟩: ∃m,n=m+1:=⟨n-1,by omega⟩
    have e3:qN n n S a true 0 0 [] false d [cS (t.1,t.2.1,t.2.2.1,t.2.2.2.1,t.2.2.2.2)]=some (.inl (S,a,true,0,0,[],false,[cS t])):=by
     conv=>lhs;arg 2;rw [hm]
     rw [ta,show eT n S a true (É (Æ 124))=_ from p];rfl
    rw [e3];simp only [Z,cR];exact Uh [cS t] S a true
  |fM ks=>
   have cn:=bd.1;simp only [iP]at h;split at h
   .rename_i hn
    cases h;refine⟨ks,k,false,.inl ⟨rfl,rfl,rfl,k,rfl,hk,hd⟩,cK.stop (lD S k hk 124) fun n m e=> ?_⟩
    rw [ta,pz,e,hd,hn,ay (by simp)]
    rfl
   .rename_i c hn
    obtain⟨-,e⟩:=fN hn;have hl:s.length=s.tail.length+1:=by rw [e];simp
    split at h
    .rename_i hc
     simp only [Ð]at h;obtain⟨x,h1,h2⟩:=h;obtain⟨a1,a2,a3⟩:=eJ _ _ _ _ _ h1 (by omega) trivial trivial
     simp only [dS]at a2;have ae:ku (.fM (ks++[cS x.1])) x.2.1:=⟨by simp;omega,by
      intro k hk;rcases å.1 hk with hk|hk
      .exact bd.2 k hk
      .simp at hk;subst hk;exact eZ a1⟩
     have bt:eR (S.drop k) false=some 124:=by rw [hd];exact(tj (d:=124) hn).2 hc
     obtain⟨t,a,bad,z,g⟩:=ih _ _ _ h1 d S (k+1) hS (by omega) (drop_tail hd) (by omega) trivial trivial
     rcases z with⟨rfl,rfl,hb,k',rfl,ah,af⟩|⟨rfl,j⟩
     .rw [hb]at h2
      obtain⟨ai,a',u,ad,p⟩:=ih _ _ _ h2 d S k' hS ah af (by omega) trivial ae
      refine⟨ai,a',u,ad,cK.step ((lD S k hk 124).and g) p fun n m ⟨e0,g⟩ p=> ?_⟩
      rw [ta,pz,e0,aA bt];simp only [Z,Y,wk (show k<=1000 by omega),g,eU,lB]
      rw [py (by omega)]
      exact p
     .have b:=j.mono h2 (by omega) trivial ae
      have al:cK fun n m=>qN n m S a true 0 0 [] false d (ks++[cS t])=some (.inl (S,a,true,0,0,[],false,ks++[cS t])):=cK.stop (Kg S a 124) fun n m e=>by
       rw [ta,pz,e];rfl
      refine⟨ks++[cS t],a,true,.inr ⟨rfl,b⟩,cK.step ((lD S k hk 124).and g) al fun n m ⟨e0,g⟩ p=> ?_⟩
      rw [ta,pz,e0,aA bt];simp only [Z,Y,wk (show k<=1000 by omega),g,eU,lB]
      rw [py (by omega)]
      exact p
    .rename_i hc
     cases h;refine⟨ks,k,false,.inl ⟨rfl,rfl,rfl,k,rfl,hk,hd⟩,cK.stop (lD S k hk 124) fun n m e=> ?_⟩
     rw [ta,pz,e,hd,ay (fun q=>hc ((tj (d:=124) hn).1 q))]
     rfl
  |part=>
   simp only [iP]at h;obtain⟨ai,a,bad,z,e⟩:=ih (.fi []) _ _ h d S k hS hk hd a7 trivial ⟨by simp;omega,by simp⟩
   refine⟨gy ai,a,bad,z,(cK.diag e).nm fun n e=> ?_⟩
   rw [arX,e];simp only [Z,cR];exact aBR ai S a bad
  |fi ks=>
   have cn:=bd.1;simp only [iP]at h;split at h
   .rename_i hn
    cases h;have cj:s=[]:=by
     cases s with
     |nil=>rfl
     |cons c t=>simp [eR]at hn
    subst cj;refine⟨ks,k,false,.inl ⟨rfl,rfl,rfl,k,rfl,hk,hd⟩,cK.stop (W.ge 0) fun n m _=> ?_⟩
    rw [xd,hL (by simp at ch;omega)]
    rfl
   .rename_i c hn
    obtain⟨-,e⟩:=fN hn;obtain⟨ao,bf⟩:=Co (hd.trans e);split at h
    .rename_i hc
     cases h;refine⟨ks,k,false,.inl ⟨rfl,rfl,rfl,k,rfl,hk,hd⟩,cK.stop (W.ge 0) fun n m _=> ?_⟩
     rw [xd,bk ao,df ao,bf];simp only [Ã,Y,Z,cw];rcases hc with hc|hc
     .rw [ay (P:= ¬(c.toNat:Int)=124) (by omega)];rfl
     .rw [aA (P:= ¬(c.toNat:Int)=124) (by omega),ay (P:= ¬(c.toNat:Int)=41) (by omega)];rfl
    .rename_i hc
     simp only [Ð]at h;obtain⟨x,h1,h2⟩:=h;have bg:mb .piece s false:=⟨by rw [e];simp,rfl⟩
     obtain⟨a1,a2,a3⟩:=eJ _ _ _ _ _ h1 hs bg trivial;simp only [dS]at a2;have ae:ku (.fi (ks++[cS x.1])) x.2.1:=⟨by simp;omega,by
      intro k hk;rcases å.1 hk with hk|hk
      .exact bd.2 k hk
      .simp at hk;subst hk;exact eZ a1⟩
     obtain⟨t,a,bad,z,g⟩:=ih _ _ _ h1 d S k hS hk hd a7 bg trivial;rcases z with⟨rfl,rfl,hb,k',rfl,ah,af⟩|⟨rfl,j⟩
     .rw [hb]at h2
      obtain⟨ai,a',u,ad,p⟩:=ih _ _ _ h2 d S k' hS ah af (by omega) trivial ae
      refine⟨ai,a',u,ad,cK.step g p fun n m g p=> ?_⟩
      rw [xd,bk ao,df ao,bf];simp only [Ã,Y,Z,cw];rw [aA (P:= ¬(c.toNat:Int)=124) (by omega),aA (P:= ¬(c.toNat:Int)=41) (by omega)]
      simp only [Z,Y,g,eU,lB];rw [py (by omega)]
      exact p
     .have b:=j.mono h2 (by omega) trivial ae
      have al:cK fun n m=>vz n m S a true 0 0 [] false d (ks++[cS t])=some (.inl (S,a,true,0,0,[],false,ks++[cS t])):=cK.stop (W.ge 0) fun n m e=>by
       rw [xd];rfl
      refine⟨ks++[cS t],a,true,.inr ⟨rfl,b⟩,cK.step g al fun n m g p=> ?_⟩
      rw [xd,bk ao,df ao,bf];simp only [Ã,Y,Z,cw];rw [aA (P:= ¬(c.toNat:Int)=124) (by omega),aA (P:= ¬(c.toNat:Int)=41) (by omega)]
      simp only [Z,Y,g,eU,lB];rw [py (by omega)]
      exact p
  |piece=>
   simp only [iP,Ð]at h;obtain⟨x,h1,h2⟩:=h;obtain⟨a1,a2,a3⟩:=eJ _ _ _ _ _ h1 hs a8 trivial;simp only [dS]at a2;obtain⟨t,a,bad,z,g⟩:=ih _ _ _ h1 d S k hS hk hd a7 a8 trivial;rcases z with⟨rfl,rfl,hb,k',rfl,ah,af⟩|⟨rfl,j⟩
   .rw [hb]at h2
    obtain⟨t',a',u,ad,p⟩:=ih _ _ _ h2 d S k' hS ah af (by omega) trivial a1
    refine⟨t',a',u,ad,(g.and (cK.diag p)).nm fun n ⟨g,p⟩=> ?_⟩
    rw [Rj,g];simp only [Z,eU];rw [p];rfl
   .have b:=j.mono h2 (by omega) trivial a1
    have al:cK fun n m=>qO n m S a true 0 0 [] false t.1 t.2.1 t.2.2.1 t.2.2.2.1 t.2.2.2.2=some (.inl (S,a,true,0,0,[],false,t.1,t.2.1,t.2.2.1,t.2.2.2.1,t.2.2.2.2)):=cK.stop (W.ge 0) fun n m e=>by
     rw [Ci];rfl
    refine⟨t,a,true,.inr ⟨rfl,b⟩,(g.and (cK.diag al)).nm fun n ⟨g,p⟩=> ?_⟩
    rw [Rj,g];simp only [Z,eU];rw [p];rfl
  |iE t=>
   have base:=(lD S k hk 42).and ((lD S k hk 43).and (lD S k hk 63));simp only [iP]at h;split at h
   .rename_i hn
    cases h;refine⟨t,k,false,.inl ⟨rfl,rfl,rfl,k,rfl,hk,hd⟩,cK.stop base fun n m ⟨g,p,e3⟩=> ?_⟩
    rw [Ci];simp only [Ã,Y];rw [show eT n S (k:Int) false (É (Æ 42))=_ from g,hd,hn,ay (by simp)]
    simp only [Z,ez];rw [show eT n S (k:Int) false (É (Æ 43))=_ from p,hd,hn,ay (by simp)]
    simp only [Z,ez];rw [show eT n S (k:Int) false (É (Æ 63))=_ from e3,hd,hn,ay (by simp)]
    rfl
   .rename_i c hn
    obtain⟨-,e⟩:=fN hn;have hl:s.length=s.tail.length+1:=by rw [e];simp
    have q1:=tj (d:=42) hn;have q2:=tj (d:=43) hn;have q3:=tj (d:=63) hn;rw [<-hd]at q1 q2 q3;split at h
    .rename_i hc
     cases h;refine⟨t,k,false,.inl ⟨rfl,rfl,rfl,k,rfl,hk,hd⟩,cK.stop base fun n m ⟨g,p,e3⟩=> ?_⟩
     have bx:c.toNat≠42/\c.toNat≠43/\c.toNat≠63:=by
      unfold gM at hc;repeat' split at hc
      all_goals omega
     rw [Ci];simp only [Ã,Y];rw [show eT n S (k:Int) false (É (Æ 42))=_ from g,ay (fun q=>bx.1 (q1.1 q))]
     simp only [Z,ez];rw [show eT n S (k:Int) false (É (Æ 43))=_ from p,ay (fun q=>bx.2.1 (q2.1 q))]
     simp only [Z,ez];rw [show eT n S (k:Int) false (É (Æ 63))=_ from e3,ay (fun q=>bx.2.2 (q3.1 q))]
     rfl
    .rename_i hc
     obtain⟨t',a',u,ad,e4⟩:=ih _ _ _ h d S (k+1) hS (by omega) (drop_tail hd) (by omega) trivial ⟨by simp,by simpa using eZ bd⟩
     refine⟨t',a',u,ad,cK.step base e4 fun n m ⟨g,p,e3⟩ e4=> ?_⟩
     rw [Ci];simp only [Ã,Y];rw [show eT n S (k:Int) false (É (Æ 42))=_ from g];simp only [Z,wk (show k<=1000 by omega),lB]
     by_cases c1:c.toNat=42
     .rw [aA (q1.2 c1)]
      have:gM c=8:=by unfold gM;rw [if_pos c1]
      rw [this]at e4;exact e4
     rw [ay (fun q=>c1 (q1.1 q))]
     simp only [ez];rw [show eT n S (k:Int) false (É (Æ 43))=_ from p];simp only [Z,wk (show k<=1000 by omega)]
     by_cases c2:c.toNat=43
     .rw [aA (q2.2 c2)]
      have:gM c=9:=by unfold gM;rw [if_neg c1,if_pos c2]
      rw [this]at e4;exact e4
     rw [ay (fun q=>c2 (q2.1 q))]
     simp only [ez];rw [show eT n S (k:Int) false (É (Æ 63))=_ from e3];simp only [Z,wk (show k<=1000 by omega)]
     by_cases c3:c.toNat=63
     .rw [aA (q3.2 c3)]
      have:gM c=10:=by unfold gM;rw [if_neg c1,if_neg c2,if_pos c3]
      rw [this]at e4;exact e4
     exfalso
     apply hc
     unfold gM;rw [if_neg c1,if_neg c2,if_neg c3]
  |atom=>
   obtain⟨cr, -⟩:=a8;have ct:=h;cases s with
   |nil=>exact absurd rfl cr
   |cons c rr=>
    obtain⟨ao,bf⟩:=Co hd;simp only [Á]at hs a7;have aq:S.drop (k+1)=rr:=drop_tail hd;by_cases cu:40<d
    .refine⟨leaf 0 0,k,true,.inr ⟨rfl,th.mono ct (by simpa using hs) ⟨by simp,rfl⟩ trivial (.inr (by simp only [Á];omega))⟩,W.succ (W.of fun n=> ?_)⟩
     rw [Rk,hL (show ¬(S.length:Int)<=(k:Int) by omega),hJ (show (40:Int)<(d:Int) by omega)]
     rfl
    have i: ∀n,vA (n+1) S k false d=_:=fun n=>by
     rw [Rk,hL (show ¬(S.length:Int)<=(k:Int) by omega),hL (show ¬(40:Int)<(d:Int) by omega),df ao,bf,wk (show k<=1000 by omega)]
    simp only [iP]at h;split at h
    .rename_i hc
     simp only [Ð]at h;obtain⟨x,h1,h2⟩:=h;cases h2;obtain⟨a1,a2,a3⟩:=eJ _ _ _ _ _ h1 (by omega) trivial trivial
     simp only [dS]at a2;obtain⟨t,a,bad,z,g⟩:=ih _ _ _ h1 (d+1) S (k+1) hS (by omega) aq (by omega) trivial trivial
     rcases z with⟨rfl,rfl,hb,k',rfl,ah,af⟩|⟨rfl,j⟩
     .by_cases bh:eR x.2.1 false=some 41
      .have bm:hY x=(x.1,x.2.1.tail,false):=by
        unfold hY;rw [hb,bh];rfl
       obtain⟨-,p⟩:=fN bh;have c0:k'<S.length:=(Co (af.trans p)).1;refine⟨x.1,((k'+1:Nat):Int),false,.inl ⟨rfl,by rw [bm],by rw [bm],k'+1,rfl,by omega,by rw [bm];exact drop_tail af⟩,(g.and (lD S k' ah 41)).nm fun n ⟨g,e3⟩=> ?_⟩
       rw [i];simp only [ez,Z,bj];rw [aA (show (c.toNat:Int)=40 by omega),wk (show d<=1000 by omega)]
       simp only [Y,g,Z,eU];rw [show eT n S (k':Int) false (É (Æ 41))=_ from e3,af,aA bh];simp only [Z,Â,ez,wk (show k'<=1000 by omega)]
      .have bm:(hY x).2.2=true:=by
        unfold hY;rw [hb];split
        .rename_i dd bz
         split
         .rename_i hq
          exact absurd ((tj (d:=41) bz).2 hq) bh
         .rfl
        .rfl
       refine⟨x.1,((k'+1:Nat):Int),true,.inr ⟨rfl,.inl bm⟩,(g.and (lD S k' ah 41)).nm fun n ⟨g,e3⟩=> ?_⟩
       rw [i];simp only [ez,Z,bj];rw [aA (show (c.toNat:Int)=40 by omega),wk (show d<=1000 by omega)]
       simp only [Y,g,Z,eU];rw [show eT n S (k':Int) false (É (Æ 41))=_ from e3,af,ay bh];simp only [Z,Ã,Y,wk (show k'<=1000 by omega)]
     .have b:th d (hY x).2:=by
       unfold hY;split
       .rename_i dd bz
        obtain⟨hb,p⟩:=fN bz;split
        .rcases j with hq|hq
         .rw [hb]at hq;cases hq
         .refine .inr ?_
          show x.2.1.tail.length<d;rw [p]at hq;simp only [Á]at hq;omega
        .exact .inl rfl
       .exact .inl rfl
      refine⟨t,wrap .i64 (a+1),true,.inr ⟨rfl,b⟩,(g.and (Kg S a 41)).nm fun n ⟨g,e3⟩=> ?_⟩
      rw [i];simp only [ez,Z,bj];rw [aA (show (c.toNat:Int)=40 by omega),wk (show d<=1000 by omega)]
      simp only [Y,g,Z,eU];rw [show eT n S a true (É (Æ 41))=_ from e3];rfl
    .rename_i hc
     cases h;have ar:bo ((c.toNat:Int)=40)=false:=ay (by omega)
     show ∃t a bad,Sync d S (kr c rr) t a bad/\W fun n=>vA n S k false d=some (eU t S a bad)
     unfold kr;by_cases c1:c.toNat=46
     .rw [if_pos c1]
      refine⟨leaf 2 0,((k+1:Nat):Int),false,.inl ⟨rfl,rfl,rfl,k+1,rfl,by omega,aq⟩,W.succ (W.of fun n=> ?_)⟩
      rw [i];simp only [ez,Z,bj];rw [ar,aA (show (c.toNat:Int)=46 by omega)]
      rfl
     rw [if_neg c1];have av:bo ((c.toNat:Int)=46)=false:=ay (by omega)
     by_cases c2:c.toNat=94
     .rw [if_pos c2]
      refine⟨leaf 4 0,((k+1:Nat):Int),false,.inl ⟨rfl,rfl,rfl,k+1,rfl,by omega,aq⟩,W.succ (W.of fun n=> ?_)⟩
      rw [i];simp only [ez,Z,bj];rw [ar,av,aA (show (c.toNat:Int)=94 by omega)]
      rfl
     rw [if_neg c2];have ax:bo ((c.toNat:Int)=94)=false:=ay (by omega)
     by_cases c3:c.toNat=36
     .rw [if_pos c3]
      refine⟨leaf 5 0,((k+1:Nat):Int),false,.inl ⟨rfl,rfl,rfl,k+1,rfl,by omega,aq⟩,W.succ (W.of fun n=> ?_)⟩
      rw [i];simp only [ez,Z,bj];rw [ar,av,ax,aA (show (c.toNat:Int)=36 by omega)]
      rfl
     rw [if_neg c3];have bn:bo ((c.toNat:Int)=36)=false:=ay (by omega)
     by_cases c4:c.toNat=91
     .rw [if_pos c4]
      obtain⟨set,nt,o,cc,a,bad,z,g⟩:=aBP S (k+1) (by omega) hS
      rw [aq]at z;refine⟨(o,cc,set,nt,[]),a,bad, ?_,g.nm fun n g=> ?_⟩
      .rcases z with⟨h1,h2,h3,h4⟩|⟨h1,h2⟩
       .exact .inl ⟨h1,h2.symm,h3,h4⟩
       .exact .inr ⟨h1,.inl h2⟩
      .rw [i]
       simp only [ez,Z,bj];rw [ar,av,ax,bn,aA (show (c.toNat:Int)=91 by omega)]
       simp only [Y,ez,g,Z,eU]
     rw [if_neg c4];have br:bo ((c.toNat:Int)=91)=false:=ay (by omega)
     by_cases c5:c.toNat=92
     .rw [if_pos c5]
      cases rr with
      |nil=>
       have da:k+1=S.length:=by simp at ch;omega
       refine⟨leaf 0 0,((k+1:Nat):Int),true,.inr ⟨rfl,.inl rfl⟩,W.succ (W.of fun n=> ?_)⟩
       rw [i];simp only [ez,Z,bj];rw [ar,av,ax,bn,br,aA (show (c.toNat:Int)=92 by omega),hJ (show (S.length:Int)<=((k+1:Nat):Int) by omega)]
       rfl
      |cons dd rr=>
       obtain⟨ck,cv⟩:=Co aq;refine⟨leaf 1 dd.toNat,((k+2:Nat):Int),false,.inl ⟨rfl,rfl,rfl,k+2,rfl,by omega,drop_tail aq⟩,W.succ (W.of fun n=> ?_)⟩
       rw [i];simp only [ez,Z,bj];rw [ar,av,ax,bn,br,aA (show (c.toNat:Int)=92 by omega),hL (show ¬(S.length:Int)<=((k+1:Nat):Int) by omega),df ck,cv,wk (show k+1<=1000 by omega)]
       simp only [Y,ez,Z,ri,eU,leaf]
     rw [if_neg c5];have cl:bo ((c.toNat:Int)=92)=false:=ay (by omega)
     by_cases c6:c.toNat=42\/c.toNat=43\/c.toNat=63
     .rw [if_pos c6]
      refine⟨leaf 1 c.toNat,((k+1:Nat):Int),true,.inr ⟨rfl,.inl rfl⟩,W.succ (W.of fun n=> ?_)⟩
      rw [i];simp only [ez,Z,bj];rw [ar,av,ax,bn,br,cl];simp only [ez,ri,eU,leaf];rcases c6 with c6|c6|c6
      .rw [aA (P:=(c.toNat:Int)=42) (by omega)];rfl
      .rw [ay (P:=(c.toNat:Int)=42) (by omega),aA (P:=(c.toNat:Int)=43) (by omega)];rfl
      .rw [ay (P:=(c.toNat:Int)=42) (by omega),ay (P:=(c.toNat:Int)=43) (by omega),aA (P:=(c.toNat:Int)=63) (by omega)];rfl
     .rw [if_neg c6]
      refine⟨leaf 1 c.toNat,((k+1:Nat):Int),false,.inl ⟨rfl,rfl,rfl,k+1,rfl,by omega,aq⟩,W.succ (W.of fun n=> ?_)⟩
      rw [i];simp only [ez,Z,bj];rw [ar,av,ax,bn,br,cl,ay (P:=(c.toNat:Int)=42) (by omega),ay (P:=(c.toNat:Int)=43) (by omega),ay (P:=(c.toNat:Int)=63) (by omega)]
      simp only [ez,ri,eU,leaf]
theorem Ui {ks:List Tr} (g:ks.length<=1048576) (a0:Int) {L:Nat->Nat->Int->Int->Option (Sum Int Int)}
  (b:W fun n=> ∀m (i:Nat) (a:Int) (h:i<ks.length),L n (m+1) i a=L n m (ā .i64 ((i:Int)+1)) (cond (decide (a<dh ks[i])) (dh ks[i]) a))
  (he: ∀n m a,L n (m+1) (ks.length:Int) a=some (.inl a)):W fun n=>L n n 0 a0=some (.inl (fX a0 ks)):=by
 have:=jI (len:=ks.length) (L:=fun n m i a=>L n m (i:Int) a) (fun i a=>fX a0 ks=fX a (ks.drop i)) (fun x=>x=.inl (fX a0 ks)) ?_ ?_
 .exact this.mono fun n h=>by
   obtain⟨x,d,f⟩:=h a0 (by simp)
   rw [<-f];exact d
 .refine b.mono fun n h m i a hi hinv=>.inr ⟨cond (decide (a<dh ks[i])) (dh ks[i]) a, ?_, ?_⟩
  .have h:=h m i a hi
   rw [<-dq hi (by omega)];exact h
  .rw [hinv,Ä hi,fX]
 .refine W.of fun n m a hinv=>⟨_,he n m a, ?_⟩
  rw [hinv,Ç (Î _),fX]
theorem Kj (t:Tr):dh t=ā .i64 (fX 0 (dO t)+1):=by
 cases t;rw [dh];rfl
theorem aBT (n:Nat) (a b:Int):qP (n+1) a b=some (cond (decide (a<b)) b a):=by
 rw [Rr];by_cases h:b<a
 .rw [hJ h,hL (by omega)];rfl
 .rw [hL h]
  by_cases k:a<b
  .rw [hJ k];rfl
  .rw [hL k,show a=b by omega];rfl
theorem Kk {t:Tr} (h:ia t):(W fun n=>AP n (aF t).1 (aF t).2.1 (aF t).2.2.1 (aF t).2.2.2.1 (aF t).2.2.2.2=some (dh t))/\
  (W fun n=>vC n (aF t).1 (aF t).2.1 (aF t).2.2.1 (aF t).2.2.2.1 (aF t).2.2.2.2=some (dh t)):=by
 induction h with
 |mk d hk ih=>
  rename_i t;constructor
  .have k:=Ui (ks:=dO t) (by omega) 0 (L:=fun n m i a=>wA n m i a (dO t) (dO t).length) ((W.all (dO t) fun x b=>(ih x b).1).mono fun n h m i a hi=>by
    rw [Sn,bk hi,mE hi];simp only [Y,Z,h _ (Å hi)]) (fun n m a=>by rw [Sn,ca];rfl)
   refine k.nm fun n e=> ?_
   rw [avX,Kj,show wA n n 0 0 (aF t).2.2.2.2 (aF t).2.2.2.2.length=_ from e];rfl
  .have k:=Ui (ks:=dO t) (by omega) 0 (L:=fun n m i a=>vD n m (aF t).1 (aF t).2.1 (aF t).2.2.1 (aF t).2.2.2.1 (dO t) i a) (((W.all (dO t) fun x b=>(ih x b).2).and (W.ge 1)).mono fun n ⟨h,f⟩ m i a hi=>by
    obtain⟨n,rfl⟩: ∃q,n=q+1:=⟨n-1,by omega⟩
    rw [Rq,bk hi,mE hi];simp only [Y,Z,h _ (Å hi),aBT]) (fun n m a=>by rw [Rq,ca];rfl)
   refine k.nm fun n e=> ?_
   rw [arY,Kj,show vD n n (aF t).1 (aF t).2.1 (aF t).2.2.1 (aF t).2.2.2.1 (aF t).2.2.2.2 0 0=_ from e];rfl
theorem Kl (s:O) (b:s.length<=60): ∃r,iP 1000 .pat s false=some r:=
 ZM 1000 .pat s false (by simp only [need];omega) b trivial trivial
theorem Cp {s:O} (b:s.length<=60) {r} (h:iP 1000 .pat s false=some r):gN s=if r.2.2=false/\r.2.1=[]/\dh (cS r.1)<=12 then(r.1.1,r.1.2.1,r.1.2.2.1,r.1.2.2.2.1,r.1.2.2.2.2,true)else(0,0,[],false,[],false):=by
 unfold gN;rw [if_pos b,h]
theorem Km {s:O} (b: ¬s.length<=60):gN s=(0,0,[],false,[],false):=by
 unfold gN;rw [if_neg b]
theorem Uj (s:O):W fun n=>AI n s=some (gN s):=by
 by_cases b:s.length<=60
 .obtain⟨r,h⟩:=Kl s b
  have k1:W fun n=>wx n s false=some (flat r):=aBN _ _ _ _ _ h b trivial trivial
  have d:=(eJ _ _ _ _ _ h b trivial trivial).1;have k2:=(Kk (eZ d)).1;rw [Ox]at k2;refine(k1.and k2).nm fun n ⟨f,g⟩=> ?_
  rw [Sj,hL (by omega),f,Cp b h]
  simp only [ez,Z,flat,g,bU];by_cases c:r.2.2=false/\r.2.1=[]/\dh (cS r.1)<=12
  .rw [if_pos c,c.1,c.2.1,ay (P:=12<dh (cS r.1)) (by omega)]
   rfl
  .rw [if_neg c]
   cases i:r.2.2
   .simp only [ez]
    cases j:r.2.1 with
    |nil=>
     rw [aA (P:=12<dh (cS r.1)) (by
      rcases ĥ (12<dh (cS r.1))with q|q
      .exact q
      .exact absurd ⟨i,j,by omega⟩ c)]
     rfl
    |cons a l=>rfl
   .rfl
 .refine W.succ (W.of fun n=> ?_)
  rw [Sj,hJ (by omega),Km b]
  rfl
theorem Uk (s:O):W fun n=>vx n s=some (gN s):=by
 by_cases d:s.length<=60
 .obtain⟨r,h⟩:=Kl s d
  obtain⟨t,a,bad,g,k1⟩:=aBS _ _ _ _ h 0 s 0 d (Ī _) rfl (by omega) trivial trivial
  have i:=(eJ _ _ _ _ _ h d trivial trivial).1;have k2:=(Kk (eZ i)).2;rw [Ox]at k2;have k1:W fun n=>vy n s 0 false 0=some (eU t s a bad):=k1
  rcases g with⟨rfl,rfl,j,k',rfl,p,f⟩|⟨rfl,b⟩
  .refine(k1.and k2).nm fun n ⟨k,u⟩=> ?_
   rw [JK,hL (by omega),k,Cp d h]
   simp only [ez,Z,eU,u,bU,cw];by_cases c:r.2.2=false/\r.2.1=[]/\dh (cS r.1)<=12
   .have:k'=s.length:=by
     have:=congrArg Þ (f.trans c.2.1);simp at this
     omega
    rw [if_pos c,ay (P:=12<dh (cS r.1)) (by omega),ay (P:= ¬_=_) (by omega)]
    rfl
   .rw [if_neg c]
    by_cases m:r.2.1=[]
    .rw [aA (P:=12<dh (cS r.1)) (by
      rcases ĥ (12<dh (cS r.1))with q|q
      .exact q
      .exact absurd ⟨j,m,by omega⟩ c)]
     cases bo (¬(k':Int)=(s.length:Int))<;>rfl
    .have:k'≠s.length:=by
      intro q;apply m
      rw [<-f,q,Ç (Î _)]
     rw [aA (P:= ¬_=_) (by omega)]
     rfl
  .refine k1.nm fun n k=> ?_
   have j:r.2.2=true:=by
    rcases b with q|q
    .exact q
    .exact absurd q (by omega)
   rw [JK,hL (by omega),k,Cp d h,if_neg (by rw [j];simp)]
   rfl
 .refine W.succ (W.of fun n=> ?_)
  rw [JK,hJ (by omega),Km d]
  rfl
theorem Kn (a b:Nat) (h:a+b<=4000000000):wrap .i64 ((a:Int)+(b:Int))=((a+b:Nat):Int):=by rw [À];omega
theorem mG (a:Nat) (h:a<=4000000000):wrap .i64 ((a:Int)+(1:Int))=((a+1:Nat):Int):=by rw [À];omega
theorem aBU (a:Nat) (h:a<=4000000000):wrap .i64 ((1:Int)+(a:Int))=((1+a:Nat):Int):=by rw [À];omega
theorem Ul {a b:Nat} (h:a=b):((a:Int)==(b:Int))=true:=by rw [h];simp
theorem Um {a b:Nat} (h: ¬a=b):((a:Int)==(b:Int))=false:=by
 rw [beq_eq_false_iff_ne];omega
theorem mH {a:Nat} {b:Int} (h:(a:Int)=b):((a:Int)==b)=true:=by rw [h];simp
theorem kH {a:Nat} {b:Int} (h: ¬(a:Int)=b):((a:Int)==b)=false:=by
 rw [beq_eq_false_iff_ne];exact h
def gD (c x:UInt8):Bool:=decide (x.toNat=c.toNat)
theorem Un (n:Nat) (c:UInt8): ∀(l:O) (m:Nat),l.length<m->AZ n m l c=some (.inl (l.dropWhile (gD c)))
 | [],m,h=>by
  obtain⟨m,rfl⟩: ∃m',m=m'+1:=⟨m-1,by omega⟩
  rw [Sv];rfl
 |a::l,m,h=>by
  obtain⟨m,rfl⟩: ∃m',m=m'+1:=⟨m-1,by omega⟩
  simp only [Á]at h;have d:bG (a::l) (0:Int)=some a:=rfl;have f:((a::l).drop 1).take ((a::l).length-1)=l:=by simp
  rw [Sv,d,hJ (by simp only [Á];omega),â]
  simp only [Y,Z,dR,f];by_cases b:a.toNat=c.toNat
  .rw [Ul b,hJ (by simp only [Á];omega),if_pos (show gD c a=true from hJ b)]
   exact Un n c l m (by omega)
  .rw [Um b,if_neg (by unfold gD;simpa using b)]
   rfl
theorem Uo (s:O) (c:UInt8):W fun n=>AY n s c=some (s.dropWhile (gD c)):=by
 refine(W.ge (s.length+1)).nm fun n b=> ?_
 rw [awO,dR,Un n c s n (by omega)]
 rfl
theorem Up (s:O) (c:UInt8) (h:c.toNat<128):W fun n=>AX n s [c]=some (s.dropWhile (gD c)):=by
 refine(Uo s c).nm fun n e=> ?_
 have b:bG ([c]:O) (0:Int)=some c:=rfl;have d:(([c]:O)==[])=false:=rfl;have f:((([c]:O).length:Int)==(1:Int))=true:=rfl;rw [awN,b,d,f];cases s with
 |nil=>rfl
 |cons a l=>
  have g:((a::l:O)==[])=false:=rfl;rw [g];simp only [ez,Y,Z,dR,e];rw [hJ (by omega)]
  rfl
def pA (c:UInt8) (l:O):O:=(l.reverse.dropWhile (gD c)).reverse
theorem aBV (c:UInt8) (l:O) (b:UInt8):pA c (l++[b])=if b.toNat=c.toNat then pA c l else l++[b]:=by
 unfold pA;simp only [ď,ĕ,ę,ê,Ć,â];by_cases h:b.toNat=c.toNat
 .rw [if_pos h,if_pos (show gD c b=true from hJ h)]
 .rw [if_neg h,if_neg (by unfold gD;simpa using h)]
  simp
theorem Uq (n:Nat) (c:UInt8): ∀(k:Nat) (l:O) (m:Nat),l.length=k->k<m->k<=1000000->wF n m l c=some (.inl (pA c l))
 |0,l,m,d,hm,_=>by
  obtain⟨m,rfl⟩: ∃m',m=m'+1:=⟨m-1,by omega⟩
  obtain rfl:=Ý.1 d;rw [Cl];rfl
 |k+1,l,m,d,hm,hk=>by
  obtain⟨m,rfl⟩: ∃m',m=m'+1:=⟨m-1,by omega⟩
  obtain⟨l',b,rfl⟩: ∃l' b,l=l'++[b]:=by
   have f:l≠ []:=by intro e;rw [e]at d;cases d
   exact⟨l.dropLast,l.getLast f,(ñ f).symm⟩
  simp only [Ê,Á,Ë]at d;have hw:wrap .i64 (((l'++[b]).length:Int)-(1:Int))=(l'.length:Int):=by
   simp only [Ê,Á,Ë];rw [À];omega
  have h:bG (l'++[b]) (l'.length:Int)=some b:=by
   rw [df (by simp)]
   simp
  rw [Cl,hJ (by simp only [Ê,Á,Ë];omega),hw,h,aBV]
  simp only [Y,Z,dR];by_cases g:b.toNat=c.toNat
  .have e:(l'++[b]).take ((Æ (l'.length:Int))-0)=l':=by simp
   rw [Ul g,if_pos g,hJ (by simp only [Ê,Á,Ë];omega),e]
   exact Uq n c k l' m (by omega) (by omega) (by omega)
  .rw [Um g,if_neg g]
   rfl
theorem Ur {p:UInt8->Bool}: ∀l:O,(∀x∈l.dropWhile p,p x=true)↔ ∀x∈l,p x=true
 | []=>Iff.rfl
 |a::l=>by
  rw [â];by_cases h:p a=true
  .rw [if_pos h,Ur l]
   constructor
   .intro k x b
    rcases è.1 b with rfl|b
    .exact h
    .exact k x b
   .exact fun k x b=>k x (by simp [b])
  .rw [if_neg h]
theorem Us {p:UInt8->Bool}: ∀l:O,l.dropWhile p=[]↔ ∀x∈l,p x=true
 | []=>by simp
 |a::l=>by
  rw [â];by_cases h:p a=true
  .rw [if_pos h,Us l]
   constructor
   .intro k x b
    rcases è.1 b with rfl|b
    .exact h
    .exact k x b
   .exact fun k x b=>k x (by simp [b])
  .rw [if_neg h]
   constructor
   .intro k;cases k
   .exact fun k=>absurd (k a (by simp)) h
theorem aBW (s:O) (d:s.length<=1000000):W fun n=>(Ij n s [32]).bind (fun y=>some (!(y==([]:O))))=some (!bo (∀c∈s,c.toNat=32)):=by
 have f:W fun n=>wE n s 32=some (pA 32 s):=(W.ge (s.length+1)).nm fun n q=>by
  rw [Sy,dR,Uq n 32 _ s n rfl (by omega) d]
  rfl
 refine(f.and (Uo (pA 32 s) 32)).nm fun n ⟨e,g⟩=> ?_
 have h:bG ([32]:O) (0:Int)=some 32:=rfl;have i:(([32]:O)==[])=false:=rfl;have j:((([32]:O).length:Int)==(1:Int))=true:=rfl;have k:decide (((32:UInt8).toNat:Int)<(128:Int))=true:=by decide
 rw [awR,h,i,j];cases s with
 |nil=>rw [aA (by simp)];rfl
 |cons a l=>
  have m:((a::l:O)==[])=false:=rfl;have p:((pA 32 (a::l)).dropWhile (gD 32)=[])↔ ∀c∈(a::l),c.toNat=32:=by
   rw [Us];unfold pA;have:(∀x∈((a::l).reverse.dropWhile (gD 32)).reverse,gD 32 x=true)↔ ∀x∈(a::l).reverse.dropWhile (gD 32),gD 32 x=true:=by simp only [Ě]
   rw [this,Ur];simp only [Ě];have b:gD 32=fz:=rfl;rw [b];simp only [fz,decide_eq_true_eq]
  rw [m];simp only [ez,Y,Z,dR,e,g,k];rw [bj,propext p]
theorem aBX (s:O) (k:Nat) (hk:k<=s.length) (q:s.length<=1048576):W fun n=>nB n s (k:Int)=some (((s.drop k).takeWhile bz).length:Int):=by
 have d: ∀i:Nat,i<=s.length->wrap .i64 ((k:Int)+(i:Int))=((k+i:Nat):Int):=fun i hi=>by rw [À];omega
 have h:=Ow (l:=s.drop k) (β:=Int) (by simp;omega) (p:=bz) (L:=fun n m i=>wD n m i k s) (W.of fun n m i hi=>by
  have b:k+i<s.length:=by simp at hi;omega
  rw [Sw,d i (by omega),bk b,df b]
  simp only [Y,Z,ü];unfold bz;by_cases f:48<=(s[k+i]).toNat
  .rw [hJ (show (48:Int)<=((s[k+i]).toNat:Int) by omega)]
   by_cases g:(s[k+i]).toNat<=57
   .rw [hJ (show ((s[k+i]).toNat:Int)<=(57:Int) by omega),hJ ⟨f,g⟩]
    rfl
   .rw [hL (show ¬((s[k+i]).toNat:Int)<=(57:Int) by omega),hL (p:=48<=(s[k+i]).toNat/\(s[k+i]).toNat<=57) (fun h=>g h.2)]
    rfl
  .rw [hL (show ¬(48:Int)<=((s[k+i]).toNat:Int) by omega),hL (p:=48<=(s[k+i]).toNat/\(s[k+i]).toNat<=57) (fun h=>f h.1)]
   rfl) (fun n m=>by
   have j:(k+(s.drop k).length)=s.length:=by simp;omega
   rw [Sw,d _ (by simp),j,ca];rfl)
 refine h.nm fun n h=> ?_
 rw [awP];rw [show wD n n (0:Int) k s=_ from h];rfl
theorem aBY (n:Nat) (s:O):Qf (n+1) s=cond (á s.length 18) ((Lib.atoi s).map fun x=>(x,false)) none:=by kernel_rfl
theorem aBZ {α β:Type} (p:α×β):(some p).bind (fun y=>some (y.1,y.2))=some p:=by cases p;rfl
def eo (w q:O):Nat:=cV w*1000000+dJ 100000 q
theorem Ut (w q:O):cV w*1000000+dJ 100000 q=eo w q:=by unfold eo;exact Eq.refl _
theorem ng {n:Nat} (h:n<=4000000000):á n mx=true:=Ó (by unfold mx;omega)
theorem aCa (k:Nat):W fun n=>qV n (k:Int)=some (if 9000000000000<k then((0:Int),false)else((k:Int),true)):=by
 have b:W fun n=>ij n (k:Int)=some (decide (k<=9000000000000)):=W.succ (W.succ (W.of fun n=>by
  rw [JT,pq,hJ (by omega)]
  simp only [Y,Z];congr 1
  rw [bU,bU];exact kY (by omega)))
 refine b.nm fun n e=> ?_
 rw [Sx,e];simp only [Z];by_cases h:9000000000000<k
 .rw [if_pos h,hL (by omega)];rfl
 .rw [if_neg h,hJ (by omega)];rfl
theorem Uu (w q:O) (hw: ∀c∈w,bz c=true) (f: ∀c∈q,bz c=true) (j:q.length<=1000):W fun n=>jP n w q=some (if 9000000000000<eo w q then((0:Int),false)else((eo w q:Int),true)):=by
 refine(((Up w 48 (by decide)).and (aCa (eo w q))).and (W.ge 1)).nm fun n ⟨⟨g,i⟩,k⟩=> ?_
 have d0:w.dropWhile (gD 48)=w.dropWhile iF:=rfl;rw [awQ,g,d0];simp only [Z];rw [ng (by omega),hJ (by refine⟨by omega, ?_⟩;simp only [Ê,Á,Ë];omega)]
 simp only [Y];by_cases h:7<(w.dropWhile iF).length
 .have:=OQ w hw h
  rw [hJ (by omega),if_pos (by unfold eo;omega)]
  rfl
 .obtain⟨n,rfl⟩: ∃m,n=m+1:=⟨n-1,by omega⟩
  have b:((q++([48,48,48,48,48,48]:O)).take (6-0)).length=6:=by simp
  have d:(q++([48,48,48,48,48,48]:O)).take (6-0)=(q++fj 6).take 6:=rfl;rw [hL (by omega),ng (by omega),ng (by rw [b];simp only [Ê,Á,Ë];omega),aBY,d,ZS w q hw f]
  rw [show á ((([48]:O)++w.dropWhile iF)++(q++fj 6).take 6).length 18=true from Ó (by
   rw [<-d,Ê,b];simp only [Ê,Á,Ë];omega)]
  simp only [Y,ez,Option.map_some,Z];rw [Ut,i];exact aBZ _
theorem Uv {p:UInt8->Bool} (l:O):l.take (l.takeWhile p).length=l.takeWhile p:=by
 induction l with
 |nil=>rfl
 |cons a l ih=>
  rw [Ñ];by_cases h:p a=true
  .rw [if_pos h,Á,List.take_succ_cons,ih]
  .rw [if_neg h];rfl
theorem aCb {p:UInt8->Bool} (l:O):(l.takeWhile p).length+(l.dropWhile p).length=l.length:=by
 have:=congrArg Þ (List.takeWhile_append_dropWhile (p:=p) (l:=l));rwa [Ê]at this
def dZ (s:O) (j:Nat):O:=match s.drop j with
 |c::t=>if c.toNat=46 then t.takeWhile bz else []
 | []=>[]
theorem Ko (s:O) (k:Nat) (neg:Bool):jK s k neg=
  (let w:=(s.drop k).takeWhile bz
   let q:=dZ s (k+w.length)
   if w=[]/\q=[]then(0,0)else if 9000000000000<eo w q then(0,0)else(cond neg (-(eo w q:Int)) (eo w q:Int),((k+w.length+(if q=[]then 0 else 1+q.length):Nat):Int))):=by
 simp only [<-Ut];exact Eq.refl _
theorem tl {s:O} {j:Nat} (h:j<s.length) (b:(s[j]).toNat=46):dZ s j=(s.drop (j+1)).takeWhile bz:=by
 unfold dZ;rw [Ä h];simp only [if_pos b]
theorem xk {s:O} {j:Nat} (h: ∀h:j<s.length,¬(s[j]).toNat=46):dZ s j=[]:=by
 unfold dZ;by_cases hj:j<s.length
 .rw [Ä hj]
  simp only [if_neg (h hj)]
 .rw [Ç (by omega)]
theorem Uw (s:O) (j:Nat): ∀c∈dZ s j,bz c=true:=by
 by_cases h: ∃h:j<s.length,(s[j]).toNat=46
 .obtain⟨h,b⟩:=h
  rw [tl h b];exact ER _
 .rw [xk (fun hj b=>h ⟨hj,b⟩)]
  intro c b;cases b
theorem rj (s:O) (k:Nat) (hk:k<=s.length):k+((s.drop k).takeWhile bz).length<=s.length:=by
 have:=ni bz (s.drop k);simp at this
 omega
theorem aCc (l:O):(l==([]:O))=decide (l=[]):=by
 cases l<;>rfl
theorem Cq {s:O} (hs:s.length<=300) {n:Nat}
  (hD: ∀k,k<s.length+1->nB n s (k:Int)=some (((s.drop k).takeWhile bz).length:Int))
  (hM: ∀k,k<s.length+1->jP n ((s.drop k).takeWhile bz) []=some (if 9000000000000<eo ((s.drop k).takeWhile bz) []then((0:Int),false)else((eo ((s.drop k).takeWhile bz) []:Int),true)))
  (ah: ∀k,k<s.length+1->jP n ((s.drop k).takeWhile bz) (dZ s (k+((s.drop k).takeWhile bz).length))=some (if 9000000000000<eo ((s.drop k).takeWhile bz) (dZ s (k+((s.drop k).takeWhile bz).length))then((0:Int),false)else((eo ((s.drop k).takeWhile bz) (dZ s (k+((s.drop k).takeWhile bz).length)):Int),true)))
  {k:Nat} (hk:k<=s.length) (neg:Bool) (fin:Int->Int->Option (Int×Int)) (u: ∀(x k:Nat),x<=9000000000000->fin x k=some (cond neg (-(x:Int)) (x:Int),(k:Int))):
  ((nB n s (k:Int)).bind fun(d:Int)=>cond (decide ((0:Int)<=(k:Int)/\(k:Int)<=(wrap .i64 ((k:Int)+d))/\(wrap .i64 ((k:Int)+d))<=(s.length:Int)))
   ((cond (decide ((wrap .i64 ((k:Int)+d))<(s.length:Int))) ((bG s (wrap .i64 ((k:Int)+d))).bind fun(z:UInt8)=>some (((z).toNat:Int)==(46:Int))) (some false):Option Bool).bind fun(ai:Bool)=>cond ai
    ((nB n s (wrap .i64 ((wrap .i64 ((k:Int)+d))+(1:Int)))).bind fun(g:Int)=>cond (decide ((0:Int)<g))
     (cond (decide ((0:Int)<=(wrap .i64 ((wrap .i64 ((k:Int)+d))+(1:Int)))/\(wrap .i64 ((wrap .i64 ((k:Int)+d))+(1:Int)))<=(wrap .i64 ((wrap .i64 ((wrap .i64 ((k:Int)+d))+(1:Int)))+g))/\(wrap .i64 ((wrap .i64 ((wrap .i64 ((k:Int)+d))+(1:Int)))+g))<=(s.length:Int)))
      ((cond (((s.drop (Æ (k:Int))).take ((Æ (wrap .i64 ((k:Int)+d)))-(Æ (k:Int))):O)==([]:O)) (some (((s.drop (Æ (wrap .i64 ((wrap .i64 ((k:Int)+d))+(1:Int))))).take ((Æ (wrap .i64 ((wrap .i64 ((wrap .i64 ((k:Int)+d))+(1:Int)))+g)))-(Æ (wrap .i64 ((wrap .i64 ((k:Int)+d))+(1:Int))))):O)==([]:O))) (some false):Option Bool).bind fun(i:Bool)=>cond i (some (((0:Int),(0:Int)):(Int×Int)))
       ((jP n ((s.drop (Æ (k:Int))).take ((Æ (wrap .i64 ((k:Int)+d)))-(Æ (k:Int)))) ((s.drop (Æ (wrap .i64 ((wrap .i64 ((k:Int)+d))+(1:Int))))).take ((Æ (wrap .i64 ((wrap .i64 ((wrap .i64 ((k:Int)+d))+(1:Int)))+g)))-(Æ (wrap .i64 ((wrap .i64 ((k:Int)+d))+(1:Int))))))).bind fun(r:(Int×Bool))=>cond (!r.2) (some (((0:Int),(0:Int)):(Int×Int))) (fin r.1 (wrap .i64 ((wrap .i64 ((k:Int)+d))+(wrap .i64 ((1:Int)+g)))))))
      none)
     ((cond (((s.drop (Æ (k:Int))).take ((Æ (wrap .i64 ((k:Int)+d)))-(Æ (k:Int))):O)==([]:O)) (some true) (some false):Option Bool).bind fun(i:Bool)=>cond i (some (((0:Int),(0:Int)):(Int×Int)))
      ((jP n ((s.drop (Æ (k:Int))).take ((Æ (wrap .i64 ((k:Int)+d)))-(Æ (k:Int)))) ([]:O)).bind fun(r:(Int×Bool))=>cond (!r.2) (some (((0:Int),(0:Int)):(Int×Int))) (fin r.1 (wrap .i64 ((k:Int)+d))))))
    ((cond (((s.drop (Æ (k:Int))).take ((Æ (wrap .i64 ((k:Int)+d)))-(Æ (k:Int))):O)==([]:O)) (some true) (some false):Option Bool).bind fun(ad:Bool)=>cond ad (some (((0:Int),(0:Int)):(Int×Int)))
     ((jP n ((s.drop (Æ (k:Int))).take ((Æ (wrap .i64 ((k:Int)+d)))-(Æ (k:Int)))) ([]:O)).bind fun(i:(Int×Bool))=>cond (!i.2) (some (((0:Int),(0:Int)):(Int×Int))) (fin i.1 (wrap .i64 ((k:Int)+d))))))
   none)=some (jK s k neg):=by
 have hw:=rj s k hk;rw [hD k (by omega),Ko]
 simp only [Z];have m0:=hM k (by omega)
 have m2:=ah k (by omega)
 have t1:(s.drop k).take (((s.drop k).takeWhile bz).length)=(s.drop k).takeWhile bz:=Uv _;revert hw m0 m2 t1
 generalize (s.drop k).takeWhile bz=w
 intro hw m0 m2 t1;have a1:wrap .i64 ((k:Int)+(w.length:Int))=((k+w.length:Nat):Int):=Kn _ _ (by omega)
 have a2:wrap .i64 (((k+w.length:Nat):Int)+1)=((k+w.length+1:Nat):Int):=mG _ (by omega)
 simp only [a1,a2,Ì,í,t1,m0,Z,aCc];rw [hJ (p:=(0:Int)<=(k:Int)/\_) (by omega)]
 simp only [Y];have base:dZ s (k+w.length)=[]->((cond (decide (w=[])) (some true) (some false):Option Bool).bind fun(ad:Bool)=>cond ad (some (((0:Int),(0:Int)):(Int×Int)))
   (cond (!(if 9000000000000<eo w []then((0:Int),false)else((eo w []:Int),true)).2) (some (((0:Int),(0:Int)):(Int×Int))) (fin (if 9000000000000<eo w []then((0:Int),false)else((eo w []:Int),true)).1 ((k+w.length:Nat):Int))))=
   some (if w=[]/\dZ s (k+w.length)=[]then(0,0)else if 9000000000000<eo w (dZ s (k+w.length))then(0,0)else(cond neg (-(eo w (dZ s (k+w.length)):Int)) (eo w (dZ s (k+w.length)):Int),((k+w.length+(if dZ s (k+w.length)=[]then 0 else 1+(dZ s (k+w.length)).length):Nat):Int))):=by
  intro hq;rw [hq];by_cases t:w=[]
  .rw [hJ t,if_pos (c:=w=[]/\([]:O)=[]) ⟨t,rfl⟩,Y,Z,Y]
  .rw [hL t,if_neg (c:=w=[]/\([]:O)=[]) (fun h=>t h.1)]
   simp only [ez,Z];by_cases hx:9000000000000<eo w []
   .simp only [if_pos hx,Ã,Y]
   .simp only [if_neg hx,Â,ez]
    rw [u _ _ (þ hx),if_pos trivial,Nat.add_zero]
 by_cases hd: ∃h:k+w.length<s.length,(s[k+w.length]).toNat=46
 .obtain⟨f,hc⟩:=hd
  rw [bk f,df f];simp only [Y,Z];rw [mH (b:=46) (by omega)]
  simp only [Y];have aj:=tl f hc;have hq:=rj s (k+w.length+1) (by omega)
  rw [hD _ (by omega)]
  have t2:(s.drop (k+w.length+1)).take (((s.drop (k+w.length+1)).takeWhile bz).length)=(s.drop (k+w.length+1)).takeWhile bz:=Uv _;rw [<-aj]at hq t2 |-;revert hq t2 m2 base
  generalize dZ s (k+w.length)=q
  intro m2 base hq t2;simp only [Z];have a3:wrap .i64 ((1:Int)+(q.length:Int))=((1+q.length:Nat):Int):=aBU _ (by omega)
  have a4:wrap .i64 (((k+w.length:Nat):Int)+((1+q.length:Nat):Int))=((k+w.length+(1+q.length):Nat):Int):=Kn _ _ (by omega)
  have a5:wrap .i64 (((k+w.length+1:Nat):Int)+(q.length:Int))=((k+w.length+1+q.length:Nat):Int):=Kn _ _ (by omega)
  simp only [a3,a4,a5,Ì,í,t2,m2,Z];by_cases m:q=[]
  .have:=base m
   subst m;rw [hL (by simp),ez]
   exact this
  .have hlen:0<q.length:=ó.2 m
   rw [hJ (p:=(0:Int)<(q.length:Int)) (by omega),hJ (p:=(0:Int)<=((k+w.length+1:Nat):Int)/\_) (by omega),hL m,if_neg (c:=w=[]/\q=[]) (fun h=>m h.2)]
   have e:(cond (decide (w=[])) (some false) (some false):Option Bool)=some false:=by cases decide (w=[])<;>rfl
   simp only [Y,e,Z,ez];by_cases hx:9000000000000<eo w q
   .simp only [if_pos hx,Ã,Y]
   .simp only [if_neg hx,if_neg m,Â,ez]
    rw [u _ _ (þ hx)]
 .have hq:=xk (s:=s) (j:=k+w.length) (fun h hc=>hd ⟨h,hc⟩)
  have e:(cond (decide (((k+w.length:Nat):Int)<(s.length:Int))) ((bG s ((k+w.length:Nat):Int)).bind fun(z:UInt8)=>some (((z).toNat:Int)==(46:Int))) (some false):Option Bool)=some false:=by
   by_cases f:k+w.length<s.length
   .rw [bk f,df f]
    simp only [Y,Z];rw [kH (b:=46) (fun hc=>hd ⟨f,by omega⟩)]
   .rw [hL (by omega)];rfl
  rw [e,Z,ez];exact base hq
theorem Kp (s:O):mc s=match s.drop (s.takeWhile fz).length with
 |c::_=>if c.toNat=45 then jK s ((s.takeWhile fz).length+1) true else if c.toNat=43 then jK s ((s.takeWhile fz).length+1) false else jK s (s.takeWhile fz).length false
 | []=>jK s (s.takeWhile fz).length false:=rfl
theorem Ux (x:Nat) (h:x<=9000000000000):wrap .i64 ((0:Int)-(x:Int))= -(x:Int):=by rw [À];omega
theorem Uy (s:O) (i:s.length<=300):W fun n=>AW n s=some (mc s):=by
 have hq: ∀j,(dZ s j).length<=1000:=fun j=>by
  by_cases h: ∃h:j<s.length,(s[j]).toNat=46
  .obtain⟨h,z⟩:=h
   rw [tl h z];have:=rj s (j+1) (by omega)
   omega
  .rw [xk (fun hj z=>h ⟨hj,z⟩)];simp
 have m:=W.lt (len:=s.length+1) fun k hk=>aBX s k (by omega) (by omega)
 have q:=W.lt (len:=s.length+1) fun k _=>Uu ((s.drop k).takeWhile bz) [] (ER _) (by simp) (by simp)
 have h3:=W.lt (len:=s.length+1) fun k _=>Uu ((s.drop k).takeWhile bz) (dZ s (k+((s.drop k).takeWhile bz).length)) (ER _) (Uw _ _) (hq _)
 refine(((Up s 32 (by decide)).and m).and (q.and h3)).nm fun n ⟨⟨e1,r⟩,t,d⟩=> ?_
 have hp:wrap .i64 ((s.length:Int)-((s.dropWhile (gD 32)).length:Int))=((s.takeWhile fz).length:Int):=by
  have h:=aCb (p:=gD 32) s;have e:s.takeWhile (gD 32)=s.takeWhile fz:=rfl;rw [e]at h;rw [À];omega
 rw [awM,e1];simp only [Z,hp];have g:=ni fz s;rw [Kp];revert g
 generalize (s.takeWhile fz).length=p
 intro g;by_cases f:p<s.length
 .have a1:wrap .i64 ((p:Int)+(1:Int))=((p+1:Nat):Int):=mG _ (by omega)
  rw [bk f,df f,Ä f];simp only [Y,Z,a1];by_cases m:(s[p]).toNat=45
  .rw [if_pos m,kH (a:=(s[p]).toNat) (b:=43) (by omega),mH (a:=(s[p]).toNat) (b:=45) (by omega)]
   simp only [Y,ez,Z];exact Cq i r t d (k:=p+1) (by omega) true (fun x e=>some (wrap .i64 ((0:Int)-x),e)) (fun x k u=>by rw [Ux x u];rfl)
  .rw [if_neg m,kH (a:=(s[p]).toNat) (b:=45) (by omega)]
   by_cases q:(s[p]).toNat=43
   .rw [if_pos q,mH (a:=(s[p]).toNat) (b:=43) (by omega)]
    simp only [Y,ez,Z];exact Cq i r t d (k:=p+1) (by omega) false (fun x e=>some (x,e)) (fun x k u=>rfl)
   .rw [if_neg q,kH (a:=(s[p]).toNat) (b:=43) (by omega)]
    simp only [ez,Z];exact Cq i r t d (k:=p) (by omega) false (fun x e=>some (x,e)) (fun x k u=>rfl)
 .rw [hL (show ¬((p:Int)<(s.length:Int)) by omega),Ç (show s.length<=p by omega)]
  simp only [ez,Z];exact Cq i r t d (k:=p) (by omega) false (fun x e=>some (x,e)) (fun x k u=>rfl)
theorem aCd:W fun n=> ∀c,ll n c=some (bz c):=W.succ (W.of fun n c=>by
 rw [asJ];unfold bz;by_cases b:48<=c.toNat
 .rw [hJ (show (48:Int)<=(c.toNat:Int) by omega)]
  simp only [Y,Z];congr 1
  rw [bU,bU];exact kY (by omega)
 .rw [hL (show ¬(48:Int)<=(c.toNat:Int) by omega),hL (p:=48<=c.toNat/\c.toNat<=57) (fun h=>b h.1)]
  rfl)
theorem aCe (n:Nat) {s:O} (g:s.length<=300): ∀(k m i:Nat),s.length-i<=k->k<m->i<=s.length->vN n m (i:Int) s=some (.inl (s,((i+((s.drop i).takeWhile fz).length:Nat):Int))):=by
 intro k;induction k with
 |zero=>
  intro m i hk hm hi;obtain⟨m,rfl⟩: ∃m',m=m'+1:=⟨m-1,by omega⟩
  obtain rfl:i=s.length:=by omega
  rw [JN,ca,Ç (Î _)];rfl
 |succ k ih=>
  intro m i hk hm hi;obtain⟨m,rfl⟩: ∃m',m=m'+1:=⟨m-1,by omega⟩
  by_cases d:i<s.length
  .rw [JN,bk d,df d,Ä d,Ñ]
   simp only [Y,Z];by_cases h:(s[i]).toNat=32
   .rw [mH (a:=(s[i]).toNat) (b:=32) (by omega),if_pos (show fz s[i]=true from hJ h),mG i (by omega),Y,ih m (i+1) (by omega) (by omega) (by omega)]
    have f:i+1+((s.drop (i+1)).takeWhile fz).length=i+(s[i]::(s.drop (i+1)).takeWhile fz).length:=by simp only [Á];omega
    rw [f]
   .rw [kH (a:=(s[i]).toNat) (b:=32) (by omega),if_neg (by unfold fz;simpa using h)]
    rfl
  .obtain rfl:i=s.length:=by omega
   rw [JN,ca,Ç (Î _)];rfl
theorem aCf {n:Nat} (hd: ∀c,ll n c=some (bz c)) {s:O} (hs:s.length<=300) (neg:Bool): ∀(k m i:Nat) (l:O) (x:Int),s.length-i<=k->k<m->i<=s.length->l.length<=i->PW l x->
  ∃g,PW (l++(s.drop i).takeWhile bz) g/\oY n m (l.length:Int) (i:Int) s x neg=some (.inl (((l++(s.drop i).takeWhile bz).length:Int),s,g,neg,((i+((s.drop i).takeWhile bz).length:Nat):Int))):=by
 intro k;induction k with
 |zero=>
  intro m i l x hk hm hi p f;obtain⟨m,rfl⟩: ∃m',m=m'+1:=⟨m-1,by omega⟩
  obtain rfl:i=s.length:=by omega
  rw [JO,ca,Ç (Î _),ì,Ø];exact⟨x,f,rfl⟩
 |succ k ih=>
  intro m i l x hk hm hi p f;obtain⟨m,rfl⟩: ∃m',m=m'+1:=⟨m-1,by omega⟩
  by_cases b:i<s.length
  .rw [JO,bk b,df b,Ä b,Ñ]
   simp only [Y,Z,dR,hd];cases h:bz s[i]
   .rw [if_neg (by simp),Ø]
    exact⟨x,f,rfl⟩
   .rw [if_pos rfl]
    obtain⟨g,j,d⟩:=ih m (i+1) (l++[s[i]]) _ (by omega) (by omega) (by omega) (by simp;omega) (ZP f h)
    have e:(l++[s[i]])++(s.drop (i+1)).takeWhile bz=l++(s[i]::(s.drop (i+1)).takeWhile bz):=by simp
    rw [e]at j d;have q:(((l++[s[i]]).length:Nat):Int)=((l.length+1:Nat):Int):=by simp
    refine⟨g,j, ?_⟩
    rw [q]at d;have r:i+1+((s.drop (i+1)).takeWhile bz).length=i+(s[i]::(s.drop (i+1)).takeWhile bz).length:=by simp;omega
    rw [r]at d;obtain⟨t,u,_,_⟩:=f;have hb:=(s[i]).toNat_lt;simp only [mG _ (show l.length<=4000000000 by omega),mG _ (show i<=4000000000 by omega),Y]
    by_cases hle:x<=9000000000000
    .have c1:wrap .i64 (((s[i]).toNat:Int)-48)=((s[i]).toNat:Int)-48:=by rw [À];omega
     have z:wrap .i64 ((((s[i]).toNat:Int)-48)*1000000)=(((s[i]).toNat:Int)-48)*1000000:=by rw [À];omega
     have c3:wrap .i64 (10*x)=10*x:=by rw [À];omega
     have c4:wrap .i64 (10*x+(((s[i]).toNat:Int)-48)*1000000)=10*x+(((s[i]).toNat:Int)-48)*1000000:=by rw [À];omega
     rw [if_pos hle]at d;rw [hJ hle,ri,c1,z,c3,c4];exact d
    .rw [if_neg hle]at d
     rw [hL hle];exact d
  .obtain rfl:i=s.length:=by omega
   rw [JO,ca,Ç (Î _),ì,Ø];exact⟨x,f,rfl⟩
theorem aCg {n:Nat} (hd: ∀c,ll n c=some (bz c)) {s:O} (hs:s.length<=300) (neg:Bool): ∀(k m i a u:Nat) (x:Int),s.length-i<=k->k<m->i<=s.length->a<=i->u<=100000->0<=x->x+(dJ u ((s.drop i).takeWhile bz):Int)<=1000000000000000->
  qQ n m (i:Int) (a:Int) (u:Int) s x neg=some (.inl (((i+((s.drop i).takeWhile bz).length:Nat):Int),x+(dJ u ((s.drop i).takeWhile bz):Int),neg,((a+((s.drop i).takeWhile bz).length:Nat):Int))):=by
 intro k;induction k with
 |zero=>
  intro m i a u x hk hm hi f hu g d;obtain⟨m,rfl⟩: ∃m',m=m'+1:=⟨m-1,by omega⟩
  obtain rfl:i=s.length:=by omega
  rw [JP,ca,Ç (Î _),ì,dJ];simp
 |succ k ih=>
  intro m i a u x hk hm hi f hu g d;obtain⟨m,rfl⟩: ∃m',m=m'+1:=⟨m-1,by omega⟩
  by_cases b:i<s.length
  .rw [Ä b,Ñ]at d |-
   rw [JP,bk b,df b];simp only [Y,Z,dR,hd];cases h:bz s[i]
   .rw [if_neg (by simp),dJ]
    simp
   .rw [h,if_pos rfl,dJ]at d
    rw [if_pos rfl,dJ];simp only [bz,decide_eq_true_eq]at h;have j:((s[i]).toNat-48)*u<=9*100000:=Ċ (by omega) hu
    have ec:(((s[i]).toNat:Int)-48)=(((s[i]).toNat-48:Nat):Int):=by omega
    have c1:wrap .i64 (((s[i]).toNat:Int)-48)=(((s[i]).toNat-48:Nat):Int):=by rw [À];omega
    have p:wrap .i64 ((((s[i]).toNat-48:Nat):Int)*(u:Int))=((((s[i]).toNat-48)*u:Nat):Int):=by
     rw [<-ò,À];omega
    have q:wrap .i64 (x+((((s[i]).toNat-48)*u:Nat):Int))=x+((((s[i]).toNat-48)*u:Nat):Int):=by rw [À];omega
    have r:wrap .i64 (Ï (u:Int) 10)=((u/10:Nat):Int):=by
     rw [show Ï (u:Int) 10=((u/10:Nat):Int)from rfl,À];omega
    rw [ri,c1,p,q,r,mG i (by omega),mG a (by omega),Y,ih m (i+1) (a+1) (u/10) _ (by omega) (by omega) (by omega) (by omega) (by omega) (by omega) (by omega)]
    have t:i+1+((s.drop (i+1)).takeWhile bz).length=i+(s[i]::(s.drop (i+1)).takeWhile bz).length:=by simp;omega
    have z:a+1+((s.drop (i+1)).takeWhile bz).length=a+(s[i]::(s.drop (i+1)).takeWhile bz).length:=by simp;omega
    have e5:x+((((s[i]).toNat-48)*u:Nat):Int)+(dJ (u/10) ((s.drop (i+1)).takeWhile bz):Int)=x+((((s[i]).toNat-48)*u+dJ (u/10) ((s.drop (i+1)).takeWhile bz):Nat):Int):=by omega
    rw [t,z,e5]
  .obtain rfl:i=s.length:=by omega
   rw [JP,ca,Ç (Î _),ì,dJ];simp
theorem Uz {w q:O} {x:Int} (i:PW w x) (j: ∀c∈q,bz c=true) (neg:Bool) (e:Int) (many:Nat) (hm:many=w.length+q.length):
  ((cond ((many:Int)==(0:Int)) (some true) (some (decide ((9000000000000:Int)<x+(dJ 100000 q:Int)))):Option Bool).bind fun(f:Bool)=>cond f (some (((0:Int),(0:Int)):(Int×Int))) (cond neg (some ((wrap .i64 ((0:Int)-(x+(dJ 100000 q:Int))),e):(Int×Int))) (some ((x+(dJ 100000 q:Int),e):(Int×Int)))))=
  some (if w=[]/\q=[]then(0,0)else if 9000000000000<eo w q then(0,0)else(cond neg (-(eo w q:Int)) (eo w q:Int),e)):=by
 have s:dJ 100000 q<1000000:=EP q 5 j;obtain⟨t,u,k,m⟩:=i;by_cases hw:w=[]/\q=[]
 .obtain⟨rfl,rfl⟩:=hw
  subst hm;rw [if_pos ⟨rfl,rfl⟩,mH (b:=0) (by simp),Y,Z,Y]
 .have p:many≠0:=by
   intro h;apply hw
   exact⟨Ý.1 (by omega),Ý.1 (by omega)⟩
  rw [if_neg hw,kH (b:=0) (by omega)]
  simp only [ez,Z];unfold eo;rcases Nat.lt_or_ge 9000000000000 (cV w*1000000)with d|d
  .have:=m d
   rw [hJ (by omega),if_pos (Nat.lt_of_lt_of_le d (Nat.le_add_right _ _)),Y]
  .have:=k d
   subst this;by_cases g:9000000000000<cV w*1000000+dJ 100000 q
   .rw [hJ (by omega),if_pos g,Y]
   .have r:((cV w:Int)*1000000+(dJ 100000 q:Int))=((cV w*1000000+dJ 100000 q:Nat):Int):=by omega
    rw [hL (by omega),if_neg g,r,Ux _ (þ g)]
    cases neg<;>simp only [Y,ez]
theorem Cr {s:O} (hs:s.length<=300) {n:Nat} (hn:400<=n) (hd: ∀c,ll n c=some (bz c)) {k:Nat} (hk:k<=s.length) (neg:Bool):
  ((oY n n (0:Int) (k:Int) s (0:Int) neg).bind fun(af:(Sum (Int×O×Int×Bool×Int) (Int×Int)))=>aw af (fun (z44:(Int×O×Int×Bool×Int))=>(cond (decide ((wrap .i64 (z44.2.2.2.2+(1:Int)))<(z44.2.1.length:Int))) ((bG z44.2.1 z44.2.2.2.2).bind fun(j:UInt8)=>cond (((j).toNat:Int)==(46:Int)) ((bG z44.2.1 (wrap .i64 (z44.2.2.2.2+(1:Int)))).bind fun(m:UInt8)=>(ll n ((É (Æ ((m).toNat:Int))):UInt8)).bind fun(p:Bool)=>some p) (some false)) (some false):Option Bool).bind fun(ag:Bool)=>cond ag ((qQ n n ((wrap .i64 (z44.2.2.2.2+(1:Int))):Int) z44.1 (100000:Int) z44.2.1 z44.2.2.1 z44.2.2.2.1).bind fun(ah:(Sum (Int×Int×Bool×Int) (Int×Int)))=>aw ah (fun (z66:(Int×Int×Bool×Int))=>(cond (z66.2.2.2==(0:Int)) (some true) (some (decide ((9000000000000:Int)<z66.2.1))):Option Bool).bind fun(ai:Bool)=>cond ai (some (((0:Int),(0:Int)):(Int×Int))) (cond z66.2.2.1 (some ((wrap .i64 ((0:Int)-z66.2.1),z66.1):(Int×Int))) (some ((z66.2.1,z66.1):(Int×Int))))) (fun (aj:(Int×Int))=>some (aj:(Int×Int)))) ((cond (z44.1==(0:Int)) (some true) (some (decide ((9000000000000:Int)<z44.2.2.1))):Option Bool).bind fun(r:Bool)=>cond r (some (((0:Int),(0:Int)):(Int×Int))) (cond z44.2.2.2.1 (some ((wrap .i64 ((0:Int)-z44.2.2.1),z44.2.2.2.2):(Int×Int))) (some ((z44.2.2.1,z44.2.2.2.2):(Int×Int)))))) (fun (nG:(Int×Int))=>some (nG:(Int×Int))))=some (jK s k neg):=by
 obtain⟨x,t,e2⟩:=aCf hd hs neg s.length n k [] 0 (by omega) (by omega) hk (by simp) ZO
 rw [ê]at t e2;rw [show oY n n (0:Int) (k:Int) s (0:Int) neg=_ from e2,Ko];have hw:=rj s k hk;revert hw t
 generalize (s.drop k).takeWhile bz=w
 intro t hw;simp only [Z,cR,mG _ (show k+w.length<=4000000000 by omega)]
 have base:dZ s (k+w.length)=[]->((cond ((w.length:Int)==(0:Int)) (some true) (some (decide ((9000000000000:Int)<x))):Option Bool).bind fun(r:Bool)=>cond r (some (((0:Int),(0:Int)):(Int×Int))) (cond neg (some ((wrap .i64 ((0:Int)-x),((k+w.length:Nat):Int)):(Int×Int))) (some ((x,((k+w.length:Nat):Int)):(Int×Int)))))=
   some (if w=[]/\dZ s (k+w.length)=[]then(0,0)else if 9000000000000<eo w (dZ s (k+w.length))then(0,0)else(cond neg (-(eo w (dZ s (k+w.length)):Int)) (eo w (dZ s (k+w.length)):Int),((k+w.length+(if dZ s (k+w.length)=[]then 0 else 1+(dZ s (k+w.length)).length):Nat):Int))):=by
  intro u;rw [u];have:=Uz t (q:=[]) (by simp) neg ((k+w.length:Nat):Int) w.length (by simp)
  rw [show (x+(dJ 100000 ([]:O):Int))=x by simp [dJ]]at this
  exact this
 by_cases z: ∃h:k+w.length+1<s.length,(s[k+w.length]).toNat=46/\bz s[k+w.length+1]=true
 .obtain⟨d,f,hg⟩:=z
  have g:=tl (show k+w.length<s.length by omega) f
  have u:=rj s (k+w.length+1) (by omega)
  have ad:dZ s (k+w.length)≠ []:=by
   rw [g,Ä d,Ñ,if_pos hg];simp
  have i:=Uw s (k+w.length);have hf:dJ 100000 (dZ s (k+w.length))<1000000:=EP _ 5 i;rw [bk d,df (show k+w.length<s.length by omega),df d]
  simp only [Y,Z,dR,hd,hg];rw [mH (a:=(s[k+w.length]).toNat) (b:=46) (by omega)]
  simp only [Y,Z];have h4:=aCg hd hs neg s.length n (k+w.length+1) w.length 100000 x (by omega) (by omega) (by omega) (by omega) (by omega) t.1 (by rw [<-g];have:=t.2.1;omega)
  rw [show qQ n n ((k+w.length+1:Nat):Int) (w.length:Int) (100000:Int) s x neg=_ from h4,<-g];rw [<-g]at u;revert ad i u
  generalize dZ s (k+w.length)=q
  intro u ad i;simp only [Z,cR];rw [Uz t i neg _ (w.length+q.length) rfl,if_neg ad];rw [show k+w.length+1+q.length=k+w.length+(1+q.length) by omega]
 .have u:dZ s (k+w.length)=[]:=by
   by_cases f: ∃h:k+w.length<s.length,(s[k+w.length]).toNat=46
   .obtain⟨h,f⟩:=f
    rw [tl h f];by_cases d:k+w.length+1<s.length
    .rw [Ä d,Ñ,if_neg (fun hg=>z ⟨d,f,hg⟩)]
    .rw [Ç (by omega)];rfl
   .exact xk (fun h hh=>f ⟨h,hh⟩)
  have e:(cond (decide (((k+w.length+1:Nat):Int)<(s.length:Int))) ((bG s ((k+w.length:Nat):Int)).bind fun(j:UInt8)=>cond (((j).toNat:Int)==(46:Int)) ((bG s ((k+w.length+1:Nat):Int)).bind fun(m:UInt8)=>(ll n ((É (Æ ((m).toNat:Int))):UInt8)).bind fun(p:Bool)=>some p) (some false)) (some false):Option Bool)=some false:=by
   by_cases d:k+w.length+1<s.length
   .rw [bk d,df (show k+w.length<s.length by omega),df d]
    simp only [Y,Z,dR,hd];by_cases f:(s[k+w.length]).toNat=46
    .rw [mH (a:=(s[k+w.length]).toNat) (b:=46) (by omega)]
     cases hg:bz s[k+w.length+1]
     .rfl
     .exact absurd ⟨d,f,hg⟩ z
    .rw [kH (a:=(s[k+w.length]).toNat) (b:=46) (by omega)];rfl
   .rw [hL (by omega)];rfl
  rw [e,Z,ez];exact base u
theorem UA (s:O) (f:s.length<=300):W fun n=>zY n s=some (mc s):=by
 refine(aCd.and (W.ge 400)).nm fun n ⟨hd,h⟩=> ?_
 have i:=aCe n f s.length n 0 (by omega) (by omega) (by omega)
 rw [ã,Ħ]at i;rw [asI,show vN n n (0:Int) s=_ from i];simp only [Z,cR];have g:=ni fz s;rw [Kp];revert g
 generalize (s.takeWhile fz).length=p
 intro g;by_cases d:p<s.length
 .rw [bk d,df d,Ä d]
  simp only [Y,Z,mG _ (show p<=4000000000 by omega)]
  by_cases j:(s[p]).toNat=45
  .rw [if_pos j,mH (a:=(s[p]).toNat) (b:=45) (by omega)]
   simp only [Y,Z];rw [Cr f h hd (k:=p+1) (by omega) true]
  .rw [if_neg j,kH (a:=(s[p]).toNat) (b:=45) (by omega)]
   by_cases m:(s[p]).toNat=43
   .rw [if_pos m,mH (a:=(s[p]).toNat) (b:=43) (by omega)]
    simp only [Y,ez,Z];rw [Cr f h hd (k:=p+1) (by omega) false]
   .rw [if_neg m,kH (a:=(s[p]).toNat) (b:=43) (by omega)]
    simp only [ez,Z];rw [Cr f h hd (k:=p) (by omega) false]
 .rw [hL (show ¬((p:Int)<(s.length:Int)) by omega),Ç (show s.length<=p by omega)]
  simp only [ez,Z];rw [Cr f h hd (k:=p) (by omega) false]
theorem Cs (s:O) (k:Nat) (hk:k<=s.length) (neg:Bool): ∃e:Nat,(jK s k neg).2=(e:Int)/\e<=s.length:=by
 rw [Ko];have hw:=rj s k hk;simp only;split
 .exact⟨0,rfl,by omega⟩
 split
 .exact⟨0,rfl,by omega⟩
 refine⟨_,rfl, ?_⟩
 split
 .omega
 .rename_i d
  by_cases h: ∃h:k+((s.drop k).takeWhile bz).length<s.length,(s[k+((s.drop k).takeWhile bz).length]).toNat=46
  .obtain⟨h,b⟩:=h
   rw [tl h b];have:=rj s (k+((s.drop k).takeWhile bz).length+1) (by omega)
   omega
  .exact absurd (xk (fun hj b=>h ⟨hj,b⟩)) d
theorem UB (s:O): ∃e:Nat,(mc s).2=(e:Int)/\e<=s.length:=by
 have b:=ni fz s;rw [Kp];revert b
 generalize (s.takeWhile fz).length=p
 intro b;by_cases d:p<s.length
 .rw [Ä d]
  simp only;split
  .exact Cs s _ (by omega) _
  split
  .exact Cs s _ (by omega) _
  .exact Cs s _ (by omega) _
 .rw [Ç (by omega)]
  exact Cs s _ (by omega) _
theorem UC (s:O) (f:s.length<=300):W fun n=>AV n s=some (fA s):=by
 obtain⟨e,he,j⟩:=UB s;refine((Uy s f).and (aBW (s.drop e) (by simp;omega))).nm fun n ⟨g,h⟩=> ?_
 rw [awL,g];unfold fA;simp only [Z,he];by_cases i:e=0
 .subst i
  rfl
 .have d:(s.drop (Æ (e:Int))).take (s.length-Æ (e:Int))=s.drop e:=by
   rw [Ì,Ù (by simp)]
  rw [kH (b:=0) (by omega),if_neg (by omega),hJ (by omega),d,Ì]
  simp only [ez,Y];rw [h];cases bo (∀c∈s.drop e,c.toNat=32)<;>rfl
theorem aCh (n:Nat) {s:O} (g:s.length<=300) (x:Int): ∀(k m i:Nat),s.length-i<=k->k<m->i<=s.length->zX n m (i:Int) s x=some (cond (bo (∀c∈s.drop i,c.toNat=32)) (.inl x) (.inr (0,false))):=by
 intro k;induction k with
 |zero=>
  intro m i hk hm hi;obtain⟨m,rfl⟩: ∃m',m=m'+1:=⟨m-1,by omega⟩
  obtain rfl:i=s.length:=by omega
  rw [JM,ca,Ç (Î _),aA (by simp)]
  rfl
 |succ k ih=>
  intro m i hk hm hi;obtain⟨m,rfl⟩: ∃m',m=m'+1:=⟨m-1,by omega⟩
  by_cases d:i<s.length
  .rw [JM,bk d,df d,Ä d]
   simp only [Y,Z];by_cases h:(s[i]).toNat=32
   .rw [show (((s[i]).toNat:Int) !=(32:Int))=false by unfold bne;rw [mH (a:=(s[i]).toNat) (b:=32) (by omega)];rfl,mG i (by omega),ez,ih m (i+1) (by omega) (by omega) (by omega)]
    have f:(∀c∈s[i]::s.drop (i+1),c.toNat=32)↔ ∀c∈s.drop (i+1),c.toNat=32:=by
     rw [List.forall_mem_cons];exact and_iff_right h
    rw [kY f]
   .rw [show (((s[i]).toNat:Int) !=(32:Int))=true by unfold bne;rw [kH (a:=(s[i]).toNat) (b:=32) (by omega)];rfl,ay (fun k=>h (k _ (List.mem_cons_self ..)))]
    rfl
  .obtain rfl:i=s.length:=by omega
   rw [JM,ca,Ç (Î _),aA (by simp)]
   rfl
theorem UD (s:O) (d:s.length<=300):W fun n=>vM n s=some (fA s):=by
 obtain⟨e,he,f⟩:=UB s;refine((UA s d).and (W.ge 400)).nm fun n ⟨g,i⟩=> ?_
 rw [asH,g];unfold fA;simp only [Z,he];by_cases h:e=0
 .subst h
  rfl
 .rw [kH (b:=0) (by omega),if_neg (by omega),ez,aCh n d _ s.length n e (by omega) (by omega) f,Ì]
  cases bo (∀c∈s.drop e,c.toNat=32)<;>rfl
theorem di (x lo hi:Int):W fun n=>cT n x lo hi=some (bo (In x lo hi)):=by
 refine W.succ (W.of fun n=> ?_)
 rw [pq];simp only [bU,iC,Z,In]
theorem cM (x lo hi:Int):W fun n=>cq n x lo hi=some (bo (In x lo hi)):=by
 refine W.succ (W.of fun n=> ?_)
 rw [xc];simp only [bU,iC,Z,In]
theorem aCi (b:UInt8):W fun n=>GU n b=some (bo (Letter b)):=by
 refine W.succ (W.of fun n=> ?_)
 rw [arS];unfold Letter
 ((try simp only [bU,Z,de]);(try simp only [dC]);(repeat' split);all_goals first|rfl|(refine cG ?_;grind)|(refine dD ?_;grind)|(refine dE ?_;grind)|(exfalso;grind))
theorem Ct (l:af) (s:O) (f:l.length<=1048576):W fun n=>qM n l s=some (bo (s∈l)):=by
 have h:=kn f (p:=fun x=>x=s) (r:=fun _=>true) (b:=()) (L:=fun n m i=>zP n m i s l) (W.of fun n m i hi=>by
  rw [Rc,bk hi,aU hi];simp only [Y,Z,bj]) (fun n m=>by rw [Rc,ca];rfl)
 refine h.nm fun n h=> ?_
 rw [arU];rcases h with⟨⟨x,d,rfl⟩,i,e⟩|⟨d,e⟩
 .rw [e,aA d];rfl
 .rw [e,ay fun h=>d s h rfl];rfl
theorem Kq (l:af) (s:O) (f:l.length<=1048576):W fun n=>wq n l s=some (bo (s∈l)):=by
 have h:=kn f (p:=fun x=>s=x) (r:=fun i=>i) (b:=()) (L:=fun n m i=>Az n m i l s (l.length:Int)) (W.of fun n m i hi=>by
  rw [Se,bk hi,aU hi];simp only [Y,Z,bj]) (fun n m=>by rw [Se,ca];rfl)
 refine W.succ (h.nm fun n h=> ?_)
 rw [avG,avH];rcases h with⟨⟨x,d,rfl⟩,i,e⟩|⟨d,e⟩
 .rw [e,aA d]
  simp only [Z,uO,bU,EF]
 .rw [e,ay fun h=>d s h rfl]
  simp only [Z,cR,bU,EG]
theorem UE:W fun n=>zQ n=some iG:=W.succ (W.of fun n=>arV n)
theorem UF:W fun n=>Ay n=some iG:=W.succ (W.of fun n=>avF n)
theorem aCj (s:O):W fun n=>GV n s=some (bo (Key s)):=by
 refine(((Ct yF s (by decide)).and (Ct iG s (by decide))).and UE).nm fun n ⟨⟨b,d⟩,f⟩=> ?_
 have b:qM n [[66,69,71,73,78],[112,114,105,110,116],[105,102],[101,108,115,101],[119,104,105,108,101],[110,101,120,116],[100,101,108,101,116,101],[78,82],[78,70]] s=some (bo (s∈yF)):=b;rw [arT,b];simp only [d,f,Z,kW];rfl
theorem aCk (s:O):W fun n=>HR n s=some (bo (Key s)):=by
 refine((Kq iG s (by decide)).and UF).nm fun n ⟨b,d⟩=> ?_
 rw [avE];simp only [b,d,Z,kW,bj];refine cG ?_
 unfold Key yF;simp only [è,ě,or_false,or_assoc]
theorem UG (s:O) (d:s.length<=1048576):W fun n=>zN n s=some (bo (je s)):=by
 have h:=km d (p:=Letter) (r:=false) (b:=s) (L:=fun n m i=>zO n m i s) ((W.all s fun b _=>aCi b).mono fun n h m i hi=>by
  rw [Rb,bk hi,df hi];simp only [Y,Z,dR,h _ (Å hi),bB];exact eF (by simp)) (fun n m=>by rw [Rb,ca];rfl)
 refine((h.and (aCj s)).and (cM s.length 1 8)).nm fun n ⟨⟨f,g⟩,j⟩=> ?_
 rw [arR,f];simp only [g,j,Z,cv];unfold je In
 ((try simp only [bB,Z,de]);(try simp only [dC]);(repeat' split);all_goals first|rfl|(refine cG ?_;grind)|(refine dD ?_;grind)|(refine dE ?_;grind)|(exfalso;grind))
theorem aCl (b:UInt8):W fun n=>HQ n b=some (bo (Letter b)):=by
 refine W.succ (W.of fun n=> ?_)
 rw [avD];unfold Letter
 ((try simp only [bU,Z,de]);(try simp only [dC]);(repeat' split);all_goals first|rfl|(refine cG ?_;grind)|(refine dD ?_;grind)|(refine dE ?_;grind)|(exfalso;grind))
theorem aCm (s:O) (k:Nat) (hk:k<=s.length) (j:s.length<=1048576):W fun n=>Ax n s (k:Int)=some (((s.drop k).takeWhile fun b=>bo (Letter b)).length:Int):=by
 have f: ∀i:Nat,i<=s.length->ā .i64 ((k:Int)+(i:Int))=((k+i:Nat):Int):=fun i hi=>by rw [À];omega
 have h:=Ow (l:=s.drop k) (β:=Int) (by simp;omega) (p:=fun b=>bo (Letter b)) (L:=fun n m i=>wj n m i k s) ((W.all s fun b _=>aCl b).mono fun n h m i hi=>by
  have d:k+i<s.length:=by simp at hi;omega
  rw [Sd,f i (by omega),bk d,df d]
  simp only [Y,Z,dR,h _ (Å d),ü]) (fun n m=>by
   have g:(k+(s.drop k).length)=s.length:=by simp;omega
   rw [Sd,f _ (by simp),g,ca];rfl)
 refine h.nm fun n h=> ?_
 rw [avC];rw [show wj n n (0:Int) k s=_ from h];rfl
theorem aCn (s:O) (f:s.length<=1048576):W fun n=>HP n s=some (bo (je s)):=by
 refine(((aCm s 0 (Ī _) f).and (aCk s)).and (di s.length 1 8)).nm fun n ⟨⟨d,g⟩,h⟩=> ?_
 have d:Ax n s 0=some ((s.takeWhile fun b=>bo (Letter b)).length:Int):=d
 have i:(((s.takeWhile fun b=>bo (Letter b)).length:Int)=(s.length:Int))↔ ∀b∈s,Letter b:=by
  rw [đ,ZJ];simp only [lY]
 rw [avB,d];simp only [g,h,Z,bj,i];unfold je In
 ((try simp only [bB,Z,de]);(try simp only [dC]);(repeat' split);all_goals first|rfl|(refine cG ?_;grind)|(refine dD ?_;grind)|(refine dE ?_;grind)|(exfalso;grind))
theorem Kr (l:List O):kx l 0:=fun _ h=>absurd h (Ģ _)
theorem Kt {l:List O} {i:Nat} (b:0<i) (h:i<l.length):kx l i↔Ö (l[i-1]'(by omega)) l[i]=true:=⟨fun k=>k h b,fun k _ _=>k⟩
theorem UH (l:af) (d:l.length<=1048576) (g: ∀s∈l,s.length<=1048576):W fun n=>Aw n l=some (bo ((∀s∈l,je s)/\(∀i,i<l.length->kx l i)/\l.length<=8)):=by
 have h:=iD d (q:=fun i=>At l je i/\kx l i) (r:=false) (b:=l) (L:=fun n m i=>sN n m i l l (l.length:Int)) ((W.all l fun s h=>aCn s (g s h)).mono fun n h m i hi=>by
  rw [Sc,bk hi,aU hi];simp only [Y,Z,h _ (Å hi),kX hi];rcases Û i with rfl|f
  .rw [hL (by omega)]
   simp only [ez,bB];exact eF (by simp [Kr])
  .rw [hJ (by omega),uP f hi d]
   simp only [Y,Z];rw [nh (Ö _ _)];simp only [bB,gL];exact eF (by rw [Kt f hi];grind)) (fun n m=>by rw [Sc,ca];rfl)
 refine h.nm fun n h=> ?_
 rw [avA,show sN n n (0:Int) l l (l.length:Int)=_ from h];simp only [Z,cv,bU,iC];refine cG ?_
 rw [<-qy];grind
theorem iO (x:Int):W fun n=>iL n x=some (bo (aX x)):=by
 refine(cM x (-9000000000000) 9000000000000).nm fun n e=> ?_
 rw [Rg,e];rfl
theorem iQ (x:Int):W fun n=>ij n x=some (bo (aX x)):=by
 refine(di x (-9000000000000) 9000000000000).nm fun n e=> ?_
 rw [JT,e];rfl
theorem aCo (c k:Int) (s:O) (n0 vars cells:Int) (_:s.length<=1048576) (r:1<=n0/\n0<=1048576):W fun n=>GX n c k s n0 vars cells=some (bo (iH c k s n0 vars cells)):=by
 refine((((iO k).and (Uk s)).and (UE.and (Ct iG s (by decide)))).and (((cM k 1 3).and (cM k 0 (n0-1))).and ((cM k 0 1).and (cM c 1 36)))).nm fun n ⟨⟨⟨b,d⟩,f,g⟩,⟨i,j⟩,m,p⟩=> ?_
 have hw:wrap .i64 (n0-1)=n0-1:=by rw [À];omega
 rw [arW,hw];simp only [b,d,f,g,i,j,m,p,Z,bU,bj,iC];rw [nh (gN s).2.2.2.2.2];simp only [iC,Z,yD];refine cG ?_
 unfold iH In;by_cases h:1<=c/\c<=36
 .obtain rfl|rfl|rfl|rfl|rfl|rfl|rfl|rfl|rfl|rfl|rfl|rfl|rfl|rfl|rfl|rfl|rfl|rfl|rfl|rfl|rfl|rfl|rfl|rfl|rfl|rfl|rfl|rfl|rfl|rfl|rfl|rfl|rfl|rfl|rfl|rfl:c=1\/c=2\/c=3\/c=4\/c=5\/c=6\/c=7\/c=8\/c=9\/c=10\/c=11\/c=12\/c=13\/c=14\/c=15\/c=16\/c=17\/c=18\/c=19\/c=20\/c=21\/c=22\/c=23\/c=24\/c=25\/c=26\/c=27\/c=28\/c=29\/c=30\/c=31\/c=32\/c=33\/c=34\/c=35\/c=36:=by omega
  all_goals simp
  all_goals grind
 .have:c≠1/\c≠2/\c≠3/\c≠4/\c≠5/\c≠6/\c≠7/\c≠8/\c≠9/\c≠10/\c≠11/\c≠12/\c≠13/\c≠14/\c≠15/\c≠16/\c≠17/\c≠18/\c≠19/\c≠20/\c≠21/\c≠22/\c≠23/\c≠24/\c≠25/\c≠26/\c≠27/\c≠28/\c≠29/\c≠30/\c≠31/\c≠32/\c≠33/\c≠34/\c≠35/\c≠36:=by omega
  simp [this]
  omega
theorem aCp (s:O) (_:s.length<=1048576):W fun n=>AH n s=some (bo ((gN s).2.2.2.2.2=true)):=by
 refine(Uj s).nm fun n e=> ?_
 rw [avQ,e,<-nh];rfl
def UI (c:Int):O:=
 if c=1 then [100]else if c=2\/c=24\/c=25 then [115]else if c=29 then [110,115]else if c=3\/c=4\/c=5\/c=6\/c=7\/c=8\/c=35\/c=30\/c=31\/c=33 then [110]else []
theorem aCq (c:Int):W fun n=>(In c 1 36/\ ∃nm,nm≠ []/\AG n c=some (nm,UI c))\/(¬In c 1 36/\AG n c=some ([],[])):=by
 refine(di c 1 36).nm fun n e=> ?_
 have hw:wrap .i64 ((37:Int)-1)=36:=by rw [À];omega
 rw [avP,hw,e];by_cases h:In c 1 36
 .left
  rw [aA h];refine⟨h, ?_⟩
  unfold In at h;obtain rfl|rfl|rfl|rfl|rfl|rfl|rfl|rfl|rfl|rfl|rfl|rfl|rfl|rfl|rfl|rfl|rfl|rfl|rfl|rfl|rfl|rfl|rfl|rfl|rfl|rfl|rfl|rfl|rfl|rfl|rfl|rfl|rfl|rfl|rfl|rfl:c=1\/c=2\/c=3\/c=4\/c=5\/c=6\/c=7\/c=8\/c=9\/c=10\/c=11\/c=12\/c=13\/c=14\/c=15\/c=16\/c=17\/c=18\/c=19\/c=20\/c=21\/c=22\/c=23\/c=24\/c=25\/c=26\/c=27\/c=28\/c=29\/c=30\/c=31\/c=32\/c=33\/c=34\/c=35\/c=36:=by omega
  all_goals exact⟨_,by decide,rfl⟩
 .right
  rw [ay h];exact⟨h,rfl⟩
theorem aCr (c k:Int) (s:O) (n0 vars cells:Int) (f:s.length<=1048576) (z:1<=n0/\n0<=1048576):W fun n=>HW n c k s n0 vars cells=some (bo (iH c k s n0 vars cells)):=by
 refine((((iQ k).and (aCp s f)).and (UF.and (Kq iG s (by decide)))).and (((di k 1 3).and (di k 0 (n0-1))).and ((di k 0 1).and (aCq c)))).nm fun n ⟨⟨⟨g,i⟩,j,m⟩,⟨p,q⟩,r,b⟩=> ?_
 have hw:wrap .i64 (n0-1)=n0-1:=by rw [À];omega
 rw [avO,hw];rcases b with⟨h,nm,t,b⟩|⟨h,b⟩
 .rw [b]
  have d:(nm==([]:O))=false:=by rw [bj,ay t]
  simp only [g,i,j,m,p,q,r,Z,d,ez];unfold In at h;obtain rfl|rfl|rfl|rfl|rfl|rfl|rfl|rfl|rfl|rfl|rfl|rfl|rfl|rfl|rfl|rfl|rfl|rfl|rfl|rfl|rfl|rfl|rfl|rfl|rfl|rfl|rfl|rfl|rfl|rfl|rfl|rfl|rfl|rfl|rfl|rfl:c=1\/c=2\/c=3\/c=4\/c=5\/c=6\/c=7\/c=8\/c=9\/c=10\/c=11\/c=12\/c=13\/c=14\/c=15\/c=16\/c=17\/c=18\/c=19\/c=20\/c=21\/c=22\/c=23\/c=24\/c=25\/c=26\/c=27\/c=28\/c=29\/c=30\/c=31\/c=32\/c=33\/c=34\/c=35\/c=36:=by omega
  all_goals simp [UI,bj,cw,bU,bB,sd,iC,gL,cH,dx,uN,iH,In]
  all_goals first
   |(refine kY ?_;grind)
   |(by_cases hk:k=0<;>by_cases u:s=[]<;>simp [hk,u,lZ,sd])
 .rw [b]
  have: ¬iH c k s n0 vars cells:=by
   unfold In at h;unfold iH;grind
  rw [ay this];rfl
theorem UJ (l:ae) (vars cells:Int) (d:l.length<=1048576) (g: ∀o∈l,o.2.2.length<=1048576):W fun n=>zR n l vars cells=some (bo (fB l vars cells)):=by
 by_cases f:0<l.length
 .have h:=km d (p:=fun o=>iH o.1 o.2.1 o.2.2 l.length vars cells) (r:=false) (b:=()) (L:=fun n m i=>vv n m i cells vars l.length l) ((W.all l fun o h=>aCo o.1 o.2.1 o.2.2 l.length vars cells (g o h) (by omega)).mono fun n h m i hi=>by
   rw [Rf,bk hi,aU hi];simp only [Y,Z,h _ (Å hi),bB];exact eF (by simp)) (fun n m=>by rw [Rf,ca];rfl)
  refine(h.and (cM l.length 1 1500)).nm fun n ⟨h,e⟩=> ?_
  rw [Re,e,yE f d,show vv n n (0:Int) cells vars l.length l=_ from h];simp only [Z,cv,cw];unfold fB In;have j:(∀h:0<l.length,(l[l.length-1]'(by omega)).1=36)↔(l[l.length-1]'(by omega)).1=36:=⟨fun k=>k f,fun k _=>k⟩
  rw [j]
  ((try simp only [bB,Z,de,Y,cH]);(try simp only [dC]);(repeat' split);all_goals first|rfl|(refine cG ?_;grind)|(refine dD ?_;grind)|(refine dE ?_;grind)|(exfalso;grind))
 .refine(cM l.length 1 1500).nm fun n e=> ?_
  rw [Re,e,ay (P:=In _ _ _) (by unfold In;omega),ay (P:=fB _ _ _) (by unfold fB;omega)]
  rfl
theorem UK (l:ae) (vars cells:Int) (d:l.length<=1048576) (g: ∀o∈l,o.2.2.length<=1048576):W fun n=>AE n l vars cells=some (bo (fB l vars cells)):=by
 by_cases f:0<l.length
 .have j:W fun n=> ∀o∈l,HV n l vars cells o.1 o.2.1 o.2.2=some (bo (¬iH o.1 o.2.1 o.2.2 l.length vars cells),l,vars,cells):=W.all l fun o h=>(aCr o.1 o.2.1 o.2.2 l.length vars cells (g o h) (by omega)).nm fun n e=>by
   rw [avN,e];simp only [Z,bB]
  have h:=kn d (p:=fun o=> ¬iH o.1 o.2.1 o.2.2 l.length vars cells) (r:=fun i=>(i,l,vars,cells)) (b:=(l,vars,cells)) (L:=fun n m i=>AF n m l vars cells i l (l.length:Int)) (j.mono fun n h m i hi=>by
   rw [Si,bk hi,aU hi];simp only [Y,Z,h _ (Å hi)]) (fun n m=>by rw [Si,ca];rfl)
  have q:W fun n=>HU n l vars cells l=some (bo (∃o∈l,¬iH o.1 o.2.1 o.2.2 l.length vars cells),l,vars,cells):=W.succ (h.nm fun n h=>by
   rw [avL,avM];refine se (l:=l) (p:=fun o=> ¬iH o.1 o.2.1 o.2.2 l.length vars cells) (c:=(l,vars,cells)) ?_
   rcases h with⟨h,i,e⟩|⟨h,e⟩
   .exact .inl ⟨h,i,by rw [e];rfl⟩
   .exact .inr ⟨h,by rw [e];rfl⟩)
  refine(q.and (di l.length 1 1500)).nm fun n ⟨h,e⟩=> ?_
  rw [Sg,e,yE f d,h];simp only [Z,cw];unfold fB In;have s:(∀h:0<l.length,(l[l.length-1]'(by omega)).1=36)↔(l[l.length-1]'(by omega)).1=36:=⟨fun k=>k f,fun k _=>k⟩
  rw [s]
  ((try simp only [bB,Z,de,Y]);(try simp only [dC]);(repeat' split);all_goals first|rfl|(refine cG ?_;grind)|(refine dD ?_;grind)|(refine dE ?_;grind)|(exfalso;grind))
 .refine(di l.length 1 1500).nm fun n e=> ?_
  rw [Sg,e,ay (P:=In _ _ _) (by unfold In;omega),ay (P:=fB _ _ _) (by unfold fB;omega)]
  rfl
def iR (vars cells:af) (start main:ae):Prop:=
 (vars.length<=1048576/\ ∀s∈vars,s.length<=1048576)/\(cells.length<=1048576/\ ∀s∈cells,s.length<=1048576)/\(start.length<=1048576/\ ∀o∈start,o.2.2.length<=1048576)/\(main.length<=1048576/\ ∀o∈main,o.2.2.length<=1048576)
theorem xl (a b:af) (c d:ae) (h:iR a b c d):W fun n=>qT n a b c d=some (bo (jf a b c d)):=by
 obtain⟨⟨f,j⟩,⟨g,k⟩,⟨q,t⟩,⟨u,z⟩⟩:=h;have k1:W fun n=> ∀s∈a,HT n a b c d s=some (bo (s∈b),a,b,c,d):=W.all a fun s _=>(Kq b s g).nm fun n e=>by
  rw [avK,e];rfl
 have h:=kn f (p:=fun s=>s∈b) (r:=fun i=>(i,a,b,c,d)) (b:=(a,b,c,d)) (L:=fun n m i=>AD n m a b c d i a (a.length:Int)) (k1.mono fun n h m i hi=>by
   rw [Sf,bk hi,aU hi];simp only [Y,Z,h _ (Å hi)]) (fun n m=>by rw [Sf,ca];rfl)
 have k2:W fun n=>HS n a b c d a=some (bo (∃s∈a,s∈b),a,b,c,d):=W.succ (h.nm fun n h=>by
   rw [avI,avJ];refine se (l:=a) (p:=fun s=>s∈b) (c:=(a,b,c,d)) ?_
   rcases h with⟨h,i,e⟩|⟨h,e⟩
   .exact .inl ⟨h,i,by rw [e];rfl⟩
   .exact .inr ⟨h,by rw [e];rfl⟩)
 refine(((UH a f j).and (UH b g k)).and (k2.and ((UK c a.length b.length q t).and (UK d a.length b.length u z)))).nm fun n ⟨⟨e1,e2⟩,e3,e4,e5⟩=> ?_
 rw [auZ,e1,e2,e3];simp only [Z,e4,e5];unfold jf
 ((try simp only [bB,Z,de]);(try simp only [dC]);(repeat' split);all_goals first|rfl|(refine cG ?_;grind)|(refine dD ?_;grind)|(refine dE ?_;grind)|(exfalso;grind))
theorem Ku (a b:af) (c d:ae) (h:iR a b c d):W fun n=>vu n a b c d=some (bo (jf a b c d)):=by
 obtain⟨⟨j,k⟩,⟨g,p⟩,⟨t,u⟩,⟨z,h8⟩⟩:=h;have k1:=iD j (q:=fun i=>At a je i/\At a (fun s=>s∉b) i/\kx a i) (r:=false) (b:=(a,b,c,d)) (L:=fun n m i=>sB n m a b c d i) (((W.all a fun s h=>UG s (k s h)).and (W.all a fun s _=>Ct b s g)).mono fun n ⟨h,h'⟩ m i hi=>by
  rw [QZ,bk hi,aU hi];simp only [Y,Z,h _ (Å hi),h' _ (Å hi),kX hi];rcases Û i with rfl|f
  .rw [hL (by omega)]
   simp only [ez,bB,gL];exact eF (by have:=Kr a;grind)
  .rw [hJ (by omega),uP f hi j]
   simp only [Y,Z];rw [nh (Ö _ _)];simp only [bB,gL];exact eF (by rw [Kt f hi];grind)) (fun n m=>by rw [QZ,ca];rfl)
 have k2:=iD g (q:=fun i=>At b je i/\kx b i) (r:=false) (b:=(a,b,c,d)) (L:=fun n m i=>sC n m a b c d i) ((W.all b fun s h=>UG s (p s h)).mono fun n h m i hi=>by
  rw [Ra,bk hi,aU hi];simp only [Y,Z,h _ (Å hi),kX hi];rcases Û i with rfl|f
  .rw [hL (by omega)]
   simp only [ez,bB];exact eF (by simp [Kr])
  .rw [hJ (by omega),uP f hi g]
   simp only [Y,Z];rw [nh (Ö _ _)];simp only [bB,gL];exact eF (by rw [Kt f hi];grind)) (fun n m=>by rw [Ra,ca];rfl)
 refine((k1.and k2).and ((UJ c a.length b.length t u).and (UJ d a.length b.length z h8))).nm fun n ⟨⟨e1,e2⟩,e4,e5⟩=> ?_
 rw [arQ,show sB n n a b c d 0=_ from e1];simp only [Z,cv,show sC n n a b c d 0=_ from e2,e4,e5,bU,iC];unfold jf;have q1:(∀i,i<a.length->At a je i/\At a (fun s=>s∉b) i/\kx a i)↔(∀s∈a,je s)/\(∀s∈a,s∉b)/\(∀i,i<a.length->kx a i):=by
  rw [<-qy,<-qy];grind
 have q2:(∀i,i<b.length->At b je i/\kx b i)↔(∀s∈b,je s)/\(∀i,i<b.length->kx b i):=by
  rw [<-qy];grind
 rw [q1,q2]
 ((try simp only [bU,bj,cw,bB,Z,È,de,cv,Y,ez,cH,dx,Â,Ã]);(try simp only [dC]);(repeat' split);all_goals first|rfl|(refine cG ?_;grind)|(refine dD ?_;grind)|(refine dE ?_;grind)|(exfalso;grind))
theorem Kv (n:Nat) (a b:O):Ik (n+1) a b=some (Í a b):=by kernel_rfl
theorem Cu: ∀a b:O,Í a b<0↔Ö a b=true
 | [],[]=>by simp [Í,Ö]
 | [],_::_=>by simp [Í,Ö]
 |_::_,[]=>by simp [Í,Ö]
 |a::x,b::y=>by
  rw [Í,Ö];by_cases h:a<b
  .simp [h]
  .rw [if_neg h]
   by_cases k:b<a
   .rw [if_pos k]
    have:a≠b:=by rintro rfl;exact h k
    simp [h,this]
   .rw [if_neg k,Cu x y]
    have:a=b:=by
     have h:=Ă.1 h;have k:=Ă.1 k;exact Ė k h
    simp [this]
theorem UL (k x:Int) (s:O):W fun n=>zW n k x s=some (bo (gz k x s)):=by
 by_cases f:s.length<=300
 .refine(((cM k 0 3).and (iO x)).and (UD s f)).nm fun n ⟨⟨b,d⟩,g⟩=> ?_
  rw [RC,b];simp only [d,g,Z];rw [nh (fA s).2];have e:fA s=(x,true)↔(fA s).1=x/\(fA s).2=true:=by rw [Prod.ext_iff]
  unfold gz In;rw [e]
  ((try simp only [bU,bj,bB,Z,de,Y]);(try simp only [dC]);(repeat' split);all_goals first|rfl|(refine cG ?_;grind)|(refine dD ?_;grind)|(refine dE ?_;grind)|(exfalso;grind))
 .refine((cM k 0 3).and (iO x)).nm fun n ⟨b,d⟩=> ?_
  rw [RC,b,ay (P:=gz k x s) (by unfold gz;omega),hJ (by omega)]
  simp only [d,Z,bB]
  ((try simp only [bj,Z,de,Y]);(try simp only [dC]);(repeat' split);all_goals first|rfl|(refine cG ?_;grind)|(refine dD ?_;grind)|(refine dE ?_;grind)|(exfalso;grind))
theorem UM (k x:Int) (s:O):W fun n=>AU n k x s=some (bo (gz k x s)):=by
 by_cases d:s.length<=300
 .refine((iQ x).and (UC s d)).nm fun n ⟨b,f⟩=> ?_
  rw [Su,b];simp only [f,Z];rw [nh (fA s).2];have e:fA s=(x,true)↔(fA s).1=x/\(fA s).2=true:=by rw [Prod.ext_iff]
  unfold gz;rw [e]
  ((try simp only [bU,bj,bB,Z,de,Y]);(try simp only [dC]);(repeat' split);all_goals first|rfl|(refine cG ?_;grind)|(refine dD ?_;grind)|(refine dE ?_;grind)|(exfalso;grind))
 .refine(iQ x).nm fun n b=> ?_
  rw [Su,b,ay (P:=gz k x s) (by unfold gz;omega),hJ (by omega)]
  simp only [Z,bB]
  ((try simp only [bj,Z,de,Y]);(try simp only [dC]);(repeat' split);all_goals first|rfl|(refine cG ?_;grind)|(refine dD ?_;grind)|(refine dE ?_;grind)|(exfalso;grind))
theorem UN {l:ai} {cells:Int} (h:0<l.length):oL l cells 0↔0<=l[0].1/\l[0].1<cells/\l[0].2.1.length<=300/\gz l[0].2.2.1 l[0].2.2.2.1 l[0].2.2.2.2:=by
 unfold oL;exact⟨fun k=>⟨(k h).1,(k h).2.1,(k h).2.2.1,(k h).2.2.2.1⟩,fun k _=>⟨k.1,k.2.1,k.2.2.1,k.2.2.2,fun h=>absurd h (Ģ _)⟩⟩
theorem UO {l:ai} {cells:Int} {i:Nat} (b:0<i) (h:i<l.length):oL l cells i↔0<=l[i].1/\l[i].1<cells/\l[i].2.1.length<=300/\gz l[i].2.2.1 l[i].2.2.2.1 l[i].2.2.2.2/\dY (l[i-1]'(by omega)).1 (l[i-1]'(by omega)).2.1 l[i].1 l[i].2.1:=by
 unfold oL;exact⟨fun k=>⟨(k h).1,(k h).2.1,(k h).2.2.1,(k h).2.2.2.1,(k h).2.2.2.2 b⟩,fun k _=>⟨k.1,k.2.1,k.2.2.1,k.2.2.2.1,fun _=>k.2.2.2.2⟩⟩
theorem UP (a:Int) (s:O) (p q:Int) (r:O) (b:Int) (t:O):W fun n=>zZ n a s p q r b t=some (bo (dY a s b t)):=by
 refine W.succ (W.of fun n=> ?_)
 rw [asK,nh (Ö s t)];unfold dY
 ((try simp only [bU,bj,Z,de]);(try simp only [dC]);(repeat' split);all_goals first|rfl|(refine cG ?_;grind)|(refine dD ?_;grind)|(refine dE ?_;grind)|(exfalso;grind))
theorem aCs (a:Int) (s:O) (p q:Int) (r:O) (b:Int) (t:O) (d f:Int) (g:O):W fun n=> ∃v,wG n a s p q r b t d f g=some v/\(0<=v↔ ¬dY a s b t):=by
 refine W.succ (W.succ (W.of fun n=> ?_))
 rw [SA,Kv];unfold dY;have:=Cu s t;by_cases h:a<b
 .rw [hJ h]
  exact⟨-1,rfl,by simp [h]⟩
 .rw [hL h]
  by_cases k:b<a
  .rw [hJ k]
   exact⟨1,rfl,by simp [h];omega⟩
  .rw [hL k]
   obtain rfl:a=b:=by omega
   refine⟨_,rfl, ?_⟩
   rw [<-this];omega
theorem aCt (vs:ae) (cs:ai) (nr err vars cells:Int) (g:vs.length<=1048576) (d:cs.length<=1048576):W fun n=>Hf n vs cs nr err vars cells=some (bo (ky vs cs nr err vars cells)):=by
 have k1:=km g (p:=fun v=>gz v.1 v.2.1 v.2.2) (r:=false) (b:=(vs,cs,nr,err,cells,vars)) (L:=fun n m i=>vL n m vs cs nr err i cells vars) ((W.all vs fun v _=>UL v.1 v.2.1 v.2.2).mono fun n h m i hi=>by
  rw [RA,bk hi,aU hi];simp only [Y,Z,h _ (Å hi),bB];exact eF (by simp)) (fun n m=>by rw [RA,ca];rfl)
 have k2:=iD d (q:=oL cs cells) (r:=false) (b:=(vs,cs,nr,err,vars)) (L:=fun n m i=>sE n m vs cs nr err i cells vars) (((W.all cs fun v _=>UL v.2.2.1 v.2.2.2.1 v.2.2.2.2).and (W.lt (len:=cs.length) fun i hi=>UP (cs[i-1]'(by omega)).1 (cs[i-1]'(by omega)).2.1 (cs[i-1]'(by omega)).2.2.1 (cs[i-1]'(by omega)).2.2.2.1 (cs[i-1]'(by omega)).2.2.2.2 cs[i].1 cs[i].2.1)).mono fun n ⟨h,j⟩ m i hi=>by
  rw [RB,bk hi,aU hi];simp only [Y,Z,h _ (Å hi),bU,bB];rcases Û i with rfl|f
  .rw [UN hi,ay (P:=(0:Int)<((0:Nat):Int)) (by omega)]
   simp only [ez,gL];exact eF (by grind)
  .rw [UO f hi,aA (P:=(0:Int)<(i:Int)) (by omega),uP f hi d]
   simp only [Y,Z,j i hi,bB,gL];exact eF (by grind)) (fun n m=>by rw [RB,ca];rfl)
 refine((k1.and k2).and ((cM nr 0 1000000).and (cM err 0 7))).nm fun n ⟨⟨k,s⟩,t,u⟩=> ?_
 rw [asG,show vL n n vs cs nr err 0 cells vars=_ from k];simp only [Z,cv,show sE n n vs cs nr err 0 cells vars=_ from s,t,u];unfold ky
 ((try simp only [bU,bj,Z,de]);(try simp only [dC]);(repeat' split);all_goals first|rfl|(refine cG ?_;grind)|(refine dD ?_;grind)|(refine dE ?_;grind)|(exfalso;grind))
theorem UQ (vs:ae) (cs:ai) (nr err vars cells:Int) (g:vs.length<=1048576) (d:cs.length<=1048576):W fun n=>AR n vs cs nr err vars cells=some (bo (ky vs cs nr err vars cells)):=by
 have j:W fun n=> ∀v∈vs,Ii n v.1 v.2.1 v.2.2=some (bo (¬gz v.1 v.2.1 v.2.2)):=W.all vs fun v _=>(UM v.1 v.2.1 v.2.2).nm fun n e=>by
  rw [awK,e];simp only [Z,bB]
 have h:=kn g (p:=fun v=> ¬gz v.1 v.2.1 v.2.2) (r:=fun i=>i) (b:=()) (L:=fun n m i=>AS n m i vs (vs.length:Int)) (j.mono fun n h m i hi=>by
   rw [Ss,bk hi,aU hi];simp only [Y,Z,h _ (Å hi)]) (fun n m=>by rw [Ss,ca];rfl)
 have k1:W fun n=>Ih n vs=some (bo (∃v∈vs,¬gz v.1 v.2.1 v.2.2)):=W.succ (h.nm fun n h=>by
   rw [awI,awJ];refine EH (l:=vs) (p:=fun v=> ¬gz v.1 v.2.1 v.2.2) ?_
   rcases h with⟨h,i,e⟩|⟨h,e⟩
   .exact .inl ⟨h,i,by rw [e];rfl⟩
   .exact .inr ⟨h,by rw [e];rfl⟩)
 have k2:=iD d (q:=oL cs cells) (r:=false) (b:=()) (L:=fun n m i=>sS n m vs cs nr err i cells cs (cs.length:Int)) (((W.all cs fun v _=>UM v.2.2.1 v.2.2.2.1 v.2.2.2.2).and (W.lt (len:=cs.length) fun i hi=>aCs (cs[i-1]'(by omega)).1 (cs[i-1]'(by omega)).2.1 (cs[i-1]'(by omega)).2.2.1 (cs[i-1]'(by omega)).2.2.2.1 (cs[i-1]'(by omega)).2.2.2.2 cs[i].1 cs[i].2.1 cs[i].2.2.1 cs[i].2.2.2.1 cs[i].2.2.2.2)).mono fun n ⟨h,k⟩ m i hi=>by
  rw [Sr,bk hi,aU hi];simp only [Y,Z,h _ (Å hi),bU,bB];rcases Û i with rfl|f
  .rw [UN hi,ay (P:=(0:Int)<((0:Nat):Int)) (by omega)]
   simp only [ez,gL];exact eF (by grind)
  .obtain⟨v,e,s⟩:=k i hi
   rw [UO f hi,aA (P:=(0:Int)<(i:Int)) (by omega),uP f hi d]
   simp only [Y,Z,e,s,gL];exact eF (by grind)) (fun n m=>by rw [Sr,ca];rfl)
 refine((k1.and k2).and ((di nr 0 1000000).and (di err 0 7))).nm fun n ⟨⟨t,u⟩,z,e4⟩=> ?_
 rw [awH,t];simp only [Z,show sS n n vs cs nr err 0 cells cs cs.length=_ from u,z,e4];unfold ky
 ((try simp only [bU,cw,bB,Z,de,cv,Y,cH]);(try simp only [dC]);(repeat' split);all_goals first|rfl|(refine cG ?_;grind)|(refine dD ?_;grind)|(refine dE ?_;grind)|(exfalso;grind))
theorem aCu (n:Nat) (s:O):sR (n+1) s [10]=some (decide (0<=Ü s 10)):=by kernel_rfl
theorem tn: ∀(s:O) (c:UInt8), -1<=Ü s c/\(0<=Ü s c↔c∈s)
 | [],c=>by simp [Ü]
 |b::s,c=>by
  have h:=tn s c;rw [Ü];by_cases e:b=c
  .subst e;simp
  .rw [if_neg (by simpa using e)]
   have d: ¬c=b:=fun k=>e k.symm
   by_cases k:Ü s c= -1
   .rw [if_pos (by simp [k])]
    have: ¬c∈s:=by rw [<-h.2];omega
    simp [this,d]
   .rw [if_neg (by simp [k])]
    have:c∈s:=by rw [<-h.2];omega
    simp [this]
    omega
theorem aCv (s:O) (d:s.length<=1048576):W fun n=>He n s=some (bo (∀b∈s,b.toNat≠10)):=by
 have h:=km d (p:=fun b=>b.toNat≠10) (r:=false) (b:=()) (L:=fun n m i=>vJ n m i s) (W.of fun n m i hi=>by
  rw [Ry,bk hi,df hi];simp only [Y,Z,bj];exact eF (by omega)) (fun n m=>by rw [Ry,ca];rfl)
 refine h.nm fun n h=> ?_
 rw [asE,show vJ n n 0 s=_ from h];simp only [Z,cv,cH]
theorem aCw (s:O):W fun n=>Ig n s=some (bo (s.length<=60/\ ∀b∈s,b.toNat≠10)):=by
 refine W.succ (W.succ (W.of fun n=> ?_))
 rw [awF,aCu];have h:=(tn s 10).2;have k:(10:UInt8)∈s↔ ¬ ∀b∈s,b.toNat≠10:=by
  constructor
  .exact fun h k=>k 10 h rfl
  .intro h
   simp only [ne_eq,ī,æ]at h;obtain⟨b,d,e⟩:=h;have:b=10:=Õ.1 e;rwa [<-this]
 have hk:(0<=Ü s 10)= ¬ ∀b∈s,b.toNat≠10:=propext (h.trans k)
 simp only [bU,hk,Z]
 ((try simp only [bB,Z,de]);(try simp only [dC]);(repeat' split);all_goals first|rfl|(refine cG ?_;grind)|(refine dD ?_;grind)|(refine dE ?_;grind)|(exfalso;grind))
theorem xm (w q:Int) (s:O) (b:s.length<=1048576):W fun n=>sD n w q s=some (bo (ew w q s)):=by
 refine(((cM w 0 2).and (cM q 1 100000)).and (aCv s b)).nm fun n ⟨⟨d,f⟩,g⟩=> ?_
 rw [asD];simp only [d,f,g,Z];unfold ew In
 ((try simp only [bU,bj,Z,de]);(try simp only [dC]);(repeat' split);all_goals first|rfl|(refine cG ?_;grind)|(refine dD ?_;grind)|(refine dE ?_;grind)|(exfalso;grind))
theorem Cv (w q:Int) (s:O):W fun n=>sQ n w q s=some (bo (ew w q s)):=by
 refine(((di w 0 2).and (di q 1 100000)).and (aCw s)).nm fun n ⟨⟨b,d⟩,f⟩=> ?_
 rw [awE];simp only [b,d,f,Z];unfold ew In
 ((try simp only [bj,Z,de]);(try simp only [dC]);(repeat' split);all_goals first|rfl|(refine cG ?_;grind)|(refine dD ?_;grind)|(refine dE ?_;grind)|(exfalso;grind))
theorem UR {a b:Int} {l:aW} (h:0<l.length):me a b l=(wrap .i64 (a+l.length),(l[l.length-1]'(by omega)).1):=by
 unfold me;rw [List.getLast?_eq_getElem?,Ô (by omega)]
theorem US (a b:Int) (l:aW) (d:l.length<=1048576):W fun n=>zU n a b l=some (me a b l):=by
 refine W.succ (W.of fun n=> ?_)
 rw [asC];rcases Û l.length with h|h
 .obtain rfl:=ä h
  rfl
 .rw [UR h,yE h d,bj,ay (by omega)]
  rfl
theorem UT (a b:Int) (l:aW) (d:l.length<=1048576):W fun n=>AQ n a b l=some (me a b l):=by
 refine W.succ (W.of fun n=> ?_)
 rw [awC];rcases Û l.length with h|h
 .obtain rfl:=ä h
  rfl
 .rw [UR h,yE h d,bj,ay (by omega)]
  rfl
def pB (l:aW):Prop:=l.length<=1048576/\ ∀e∈l,e.2.2.2.length<=1048576
theorem UU {l:aW} (j:l.length<=1048576) (t0:Int) {L:Nat->Nat->Int->Int->Option (Sum Unit Bool)}
  (d:W fun n=> ∀m (i:Nat) (t:Int) (h:i<l.length),L n (m+1) i t=cond (bo (In l[i].1 t 300/\ew l[i].2.1 l[i].2.2.1 l[i].2.2.2)) (L n m (wrap .i64 ((i:Int)+1)) l[i].1) (some (.inr false)))
  (he: ∀n m t,L n (m+1) (l.length:Int) t=some (.inl ())):W fun n=>L n n 0 t0=some (cond (bo (oM t0 l)) (.inl ()) (.inr false)):=by
 have:=jI (len:=l.length) (L:=fun n m i t=>L n m (i:Int) t) (fun i t=>oM t0 l↔oM t (l.drop i)) (fun x=>x=cond (bo (oM t0 l)) (.inl ()) (.inr false)) ?_ ?_
 .exact this.mono fun n h=>by
   obtain⟨x,f,g⟩:=h t0 (by simp)
   rw [<-g];exact f
 .refine d.mono fun n h m i t hi hinv=> ?_
  have h:=h m i t hi;rw [Ä hi,oM]at hinv;by_cases b:In l[i].1 t 300/\ew l[i].2.1 l[i].2.2.1 l[i].2.2.2
  .right
   rw [aA b]at h;exact⟨l[i].1,by rw [<-dq hi (by omega)];exact h,hinv.trans ⟨fun k=>k.2.2,fun k=>⟨b.1,b.2,k⟩⟩⟩
  .left
   rw [ay b]at h;exact⟨_,h,by rw [ay (fun k=>b ⟨(hinv.1 k).1,(hinv.1 k).2.1⟩)];rfl⟩
 .refine W.of fun n m t hinv=>⟨_,he n m t, ?_⟩
  rw [Ç (Î _),oM]at hinv;rw [aA (hinv.2 trivial)];rfl
theorem aCx (a t:Int) (l:aW) (d:pB l):W fun n=>Hd n a t l=some (bo (oN a t l)):=by
 have k:=UU d.1 t (L:=fun n m i b=>vH n m a t l i b) ((W.all l fun e h=>xm e.2.1 e.2.2.1 e.2.2.2 (d.2 e h)).and (W.ge 1) |>.mono fun n ⟨h,q⟩ m i b hi=>by
  obtain⟨n,rfl⟩: ∃k,n=k+1:=⟨n-1,by omega⟩
  have g:cq (n+1) l[i].1 b 300=some (bo (In l[i].1 b 300)):=by
   rw [xc];simp only [bU,iC,Z,In]
  rw [Rx,bk hi,aU hi];simp only [Y,Z,g,h _ (Å hi),bB,gL];exact eF (by grind)) (fun n m b=>by rw [Rx,ca];rfl)
 refine((k.and (cM a 0 300)).and (cM t 0 300)).nm fun n ⟨⟨j,f⟩,p⟩=> ?_
 by_cases h:In a 0 300
 .have hw:wrap .i64 ((300:Int)-a)=300-a:=by unfold In at h;rw [À];omega
  rw [Rw,f,hw];simp only [Z,p,show vH n n a t l 0 t=_ from j];unfold oN
  ((try simp only [bU,bB,Z,de,cv,Y,cH]);(try simp only [dC]);(repeat' split);all_goals first|rfl|(refine cG ?_;grind)|(refine dD ?_;grind)|(refine dE ?_;grind)|(exfalso;grind))
 .rw [Rw,f,ay h,ay (P:=oN a t l) (fun k=>h k.1)]
  rfl
theorem pC (x:Int):W fun n=>mC n x=some (bo (In x 0 300)):=by
 refine(di x 0 300).nm fun n e=> ?_
 rw [avZ,e];rfl
theorem aCy (x:Int):W fun n=>Ic n x=some (bo (In x (-1) 4)):=by
 refine(di x (-1) 4).nm fun n e=> ?_
 rw [awD,e];rfl
theorem aCz (a t:Int) (l:aW) (d:pB l):W fun n=>Ie n a t l=some (bo (oN a t l)):=by
 have k:=UU d.1 t (L:=fun n m i b=>wB n m i b l l.length) ((W.all l fun e h=>Cv e.2.1 e.2.2.1 e.2.2.2).and (W.ge 1) |>.mono fun n ⟨h,q⟩ m i b hi=>by
  obtain⟨n,rfl⟩: ∃k,n=k+1:=⟨n-1,by omega⟩
  have g:cT (n+1) l[i].1 b 300=some (bo (In l[i].1 b 300)):=by
   rw [pq];simp only [bU,iC,Z,In]
  rw [Sq,bk hi,aU hi];simp only [Y,Z,g,h _ (Å hi),bB,gL];exact eF (by grind)) (fun n m b=>by rw [Sq,ca];rfl)
 refine((k.and (pC a)).and (pC t)).nm fun n ⟨⟨j,f⟩,p⟩=> ?_
 have:=d.1;by_cases h:In a 0 300
 .have hw:wrap .i64 (a+(l.length:Int))=a+l.length:=by unfold In at h;rw [À];omega
  rw [Sp,f,hw];simp only [Z,p,show wB n n 0 t l l.length=_ from j];unfold oN
  ((try simp only [bU,bB,Z,de,cv,Y,cH]);(try simp only [dC]);(repeat' split);all_goals first|rfl|(refine cG ?_;grind)|(refine dD ?_;grind)|(refine dE ?_;grind)|(exfalso;grind))
 .rw [Sp,f,ay h,ay (P:=oN a t l) (fun k=>h k.1)]
  rfl
theorem UW (a b:af) (c d:ae) (vs:ae) (cs:ai) (nr err:Int) (dn:ag) (out:O) (h:iR a b c d) (f:vs.length<=1048576) (g:cs.length<=1048576) (j:dn.length<=1048576):
  W fun n=>zV n a b c d vs cs nr err dn out=some (bo (nk a b c d vs cs nr err dn out)):=by
 have k:=km j (p:=fun x=>In x 0 100000) (r:=false) (b:=(vs,cs,nr,err,dn,out,a,b,c,d)) (L:=fun n m i=>vK n m vs cs nr err dn out a b c d i) ((W.all dn fun x _=>cM x 0 100000).mono fun n h m i hi=>by
  rw [Rz,bk hi,aU hi];simp only [Y,Z,h _ (Å hi),bB];exact eF (by simp)) (fun n m=>by rw [Rz,ca];rfl)
 refine((k.and (Ku a b c d h)).and (aCt vs cs nr err a.length b.length f g)).nm fun n ⟨⟨q,s⟩,t⟩=> ?_
 rw [asF,show vK n n vs cs nr err dn out a b c d 0=_ from q];simp only [Z,cv,s,t];unfold nk
 ((try simp only [bU,bj,Z,de]);(try simp only [dC]);(repeat' split);all_goals first|rfl|(refine cG ?_;grind)|(refine dD ?_;grind)|(refine dE ?_;grind)|(exfalso;grind))
theorem Kw (a b:af) (c d:ae) (vs:ae) (cs:ai) (nr err:Int) (dn:ag) (out:O) (h:iR a b c d) (f:vs.length<=1048576) (g:cs.length<=1048576) (j:dn.length<=1048576):
  W fun n=>wC n a b c d vs cs nr err dn out=some (bo (nk a b c d vs cs nr err dn out)):=by
 have k:W fun n=> ∀v∈dn,Im n v=some (bo (¬In v 0 100000)):=W.all dn fun v _=>(di v 0 100000).nm fun n e=>by
  rw [awU,e];simp only [Z,bB]
 have q:=kn j (p:=fun v=> ¬In v 0 100000) (r:=fun i=>i) (b:=()) (L:=fun n m i=>Ba n m i dn (dn.length:Int)) (k.mono fun n h m i hi=>by
   rw [SB,bk hi,aU hi];simp only [Y,Z,h _ (Å hi)]) (fun n m=>by rw [SB,ca];rfl)
 have k1:W fun n=>Il n dn=some (bo (∃v∈dn,¬In v 0 100000)):=W.succ (q.nm fun n h=>by
   rw [awS,awT];refine EH (l:=dn) (p:=fun v=> ¬In v 0 100000) ?_
   rcases h with⟨h,i,e⟩|⟨h,e⟩
   .exact .inl ⟨h,i,by rw [e];rfl⟩
   .exact .inr ⟨h,by rw [e];rfl⟩)
 refine((k1.and (xl a b c d h)).and (UQ vs cs nr err a.length b.length f g)).nm fun n ⟨⟨s,t⟩,u⟩=> ?_
 rw [awG,t];simp only [Z,s,u];unfold nk
 ((try simp only [bU,bj,bB,Z,de]);(try simp only [dC]);(repeat' split);all_goals first|rfl|(refine cG ?_;grind)|(refine dD ?_;grind)|(refine dE ?_;grind)|(exfalso;grind))
theorem aCA (a b:af) (c d:ae) (tm g ba f:Int) (l:aW) (vs:ae) (cs:ai) (nr err:Int) (dn:ag) (out:O) (h:iR a b c d) (i:pB l) (j:vs.length<=1048576) (k:cs.length<=1048576) (m:dn.length<=1048576):
  W fun n=>Hc n a b c d tm g ba f l vs cs nr err dn out=some (bo (uR a b c d tm g ba f l vs cs nr err dn out)):=by
 refine(((UW a b c d vs cs nr err dn out h j k m).and (aCx ba f l i)).and ((US ba f l i.1).and ((cM tm 0 300).and (cM g (-1) 4)))).nm fun n ⟨⟨p,q⟩,r,s,t⟩=> ?_
 rw [asB,r];simp only [Z,p,q,s,t];unfold uR
 ((try simp only [bU,Z,de]);(try simp only [dC]);(repeat' split);all_goals first|rfl|(refine cG ?_;grind)|(refine dD ?_;grind)|(refine dE ?_;grind)|(exfalso;grind))
theorem aCB (a b:af) (c d:ae) (tm g ba f:Int) (l:aW) (vs:ae) (cs:ai) (nr err:Int) (dn:ag) (out:O) (h:iR a b c d) (i:pB l) (j:vs.length<=1048576) (k:cs.length<=1048576) (m:dn.length<=1048576):
  W fun n=>Ib n a b c d tm g ba f l vs cs nr err dn out=some (bo (uR a b c d tm g ba f l vs cs nr err dn out)):=by
 refine(((Kw a b c d vs cs nr err dn out h j k m).and (aCz ba f l i)).and ((UT ba f l i.1).and ((pC tm).and (aCy g)))).nm fun n ⟨⟨p,q⟩,r,s,t⟩=> ?_
 rw [awB,r];simp only [Z,p,q,s,t];unfold uR
 ((try simp only [bU,Z,de]);(try simp only [dC]);(repeat' split);all_goals first|rfl|(refine cG ?_;grind)|(refine dD ?_;grind)|(refine dE ?_;grind)|(exfalso;grind))
abbrev lE:Type:=Int×(Int×Int×Int×Int×aW×ae×ai×Int×Int×ag×O×Int×cf×ag×ag×Int×ae×ai×Int×Int×ag×O×bu×Int×bh)
abbrev Cw:Type:=Fx
def gE (r:Cw) (size:Int):Prop:=ES r.1 r.2.1 r.2.2.1 r.2.2.2.1 r.2.2.2.2.1 r.2.2.2.2.2.1 r.2.2.2.2.2.2.1 r.2.2.2.2.2.2.2.1 r.2.2.2.2.2.2.2.2.2 size
def Cx (r:Cw):Prop:=pB r.2.2.2.2.2.2.2.1
theorem aCC (l:aW) (most:Int) (d:pB l):W fun n=>Hg n l most=some (bo ((∀e∈l,mf most e)/\l.length<=40)):=by
 have k:=km d.1 (p:=mf most) (r:=false) (b:=l) (L:=fun n m i=>vO n m i l most) (((W.all l fun e h=>xm e.2.1 e.2.2.1 e.2.2.2 (d.2 e h)).and (W.all l fun e _=>cM e.1 0 most)).mono fun n ⟨h,f⟩ m i hi=>by
  rw [RD,bk hi,aU hi];simp only [Y,Z,h _ (Å hi),f _ (Å hi),bB,gL];exact eF (by unfold mf;grind)) (fun n m=>by rw [RD,ca];rfl)
 refine k.nm fun n e=> ?_
 rw [asM,show vO n n 0 l most=_ from e];simp only [Z,cv]
 ((try simp only [bU]);(try simp only [dC]);(repeat' split);all_goals first|rfl|(refine cG ?_;grind)|(refine dD ?_;grind)|(refine dE ?_;grind)|(exfalso;grind))
theorem aCD (l:aW) (most:Int) (d:pB l):W fun n=>Iu n l most=some (bo ((∀e∈l,mf most e)/\l.length<=40)):=by
 have f:W fun n=> ∀e∈l,Iw n most e.1 e.2.1 e.2.2.1 e.2.2.2=some (bo (¬mf most e),most):=W.all l fun e _=>((di e.1 0 most).and (Cv e.2.1 e.2.2.1 e.2.2.2)).nm fun n ⟨g,j⟩=>by
  rw [axH,g];simp only [Z,j,bB,kW];unfold mf;rw [kY (show (¬In e.1 0 most\/ ¬ew e.2.1 e.2.2.1 e.2.2.2)↔ ¬(In e.1 0 most/\ew e.2.1 e.2.2.1 e.2.2.2) by grind)]
 have k:=kn d.1 (p:=fun e=> ¬mf most e) (r:=fun i=>(i,most)) (b:=most) (L:=fun n m i=>Bf n m most i l (l.length:Int)) (f.mono fun n h m i hi=>by
   rw [SE,bk hi,aU hi];simp only [Y,Z,h _ (Å hi)]) (fun n m=>by rw [SE,ca];rfl)
 have k1:W fun n=>Iv n most l=some (bo (∃e∈l,¬mf most e),most):=W.succ (k.nm fun n h=>by
   rw [axF,axG];refine se (l:=l) (p:=fun e=> ¬mf most e) (c:=most) ?_
   rcases h with⟨h,i,e⟩|⟨h,e⟩
   .exact .inl ⟨h,i,by rw [e];rfl⟩
   .exact .inr ⟨h,by rw [e];rfl⟩)
 refine k1.nm fun n e=> ?_
 rw [axE,e];simp only [Z]
 ((try simp only [bU,bB]);(try simp only [dC]);(repeat' split);all_goals first|rfl|(refine cG ?_;grind)|(refine dD ?_;grind)|(refine dE ?_;grind)|(exfalso;grind))
theorem UX (r:Cw) (size:Int) (h:Cx r):W fun n=>Aa n r.1 r.2.1 r.2.2.1 r.2.2.2.1 r.2.2.2.2.1 r.2.2.2.2.2.1 r.2.2.2.2.2.2.1 r.2.2.2.2.2.2.2.1 r.2.2.2.2.2.2.2.2.1 r.2.2.2.2.2.2.2.2.2 size=some (bo (gE r size)):=by
 refine(((((cM r.1 1 5).and (cM size 1 5)).and ((cM r.2.1 0 (wrap .i64 (size-1))).and (cM r.2.2.1 0 (wrap .i64 (size-1))))).and (((cM r.2.2.2.1 0 300).and (cM r.2.2.2.2.1 0 300)).and ((cM r.2.2.2.2.2.1 0 300).and (cM r.2.2.2.2.2.2.1 0 300)))).and (aCC r.2.2.2.2.2.2.2.1 r.2.2.2.1 h)).nm fun n ⟨⟨⟨⟨b,d⟩,f,g⟩,⟨i,j⟩,k,m⟩,p⟩=> ?_
 rw [asL,b];simp only [Z,d,f,g,i,j,k,m,p];unfold gE ES
 ((try simp only [bU,bj,bB,Z,de,Y]);(try simp only [dC]);(repeat' split);all_goals first|rfl|(refine cG ?_;grind)|(refine dD ?_;grind)|(refine dE ?_;grind)|(exfalso;grind))
theorem UY (r:Cw) (size:Int) (h:Cx r):W fun n=>Be n r.1 r.2.1 r.2.2.1 r.2.2.2.1 r.2.2.2.2.1 r.2.2.2.2.2.1 r.2.2.2.2.2.2.1 r.2.2.2.2.2.2.2.1 r.2.2.2.2.2.2.2.2.1 r.2.2.2.2.2.2.2.2.2 size=some (bo (gE r size)):=by
 refine(((((di r.1 1 5).and (di size 1 5)).and ((di r.2.1 0 (wrap .i64 (size-1))).and (di r.2.2.1 0 (wrap .i64 (size-1))))).and (((pC r.2.2.2.1).and (pC r.2.2.2.2.1)).and ((pC r.2.2.2.2.2.1).and (pC r.2.2.2.2.2.2.1)))).and (aCD r.2.2.2.2.2.2.2.1 r.2.2.2.1 h)).nm fun n ⟨⟨⟨⟨b,d⟩,f,g⟩,⟨i,j⟩,k,m⟩,p⟩=> ?_
 rw [axD,b];simp only [Z,d,f,g,i,j,k,m,p];unfold gE ES
 ((try simp only [bU,bj,bB,Z,de,Y]);(try simp only [dC]);(repeat' split);all_goals first|rfl|(refine cG ?_;grind)|(refine dD ?_;grind)|(refine dE ?_;grind)|(exfalso;grind))
def xn (b:bu) (sure:Int):Prop:=b.length<=80000/\In sure 0 b.length
theorem aCE (b:bu) (s:Int):W fun n=>Hh n b s=some (bo (xn b s)):=by
 refine(cM s 0 b.length).nm fun n e=> ?_
 rw [asN,e];unfold xn
 ((try simp only [bU,Z,de]);(try simp only [dC]);(repeat' split);all_goals first|rfl|(refine cG ?_;grind)|(refine dD ?_;grind)|(refine dE ?_;grind)|(exfalso;grind))
theorem aCF (b:bu) (s:Int):W fun n=>Iq n b s=some (bo (xn b s)):=by
 refine(di s 0 b.length).nm fun n e=> ?_
 rw [awZ,e];unfold xn
 ((try simp only [bU,Z,de]);(try simp only [dC]);(repeat' split);all_goals first|rfl|(refine cG ?_;grind)|(refine dD ?_;grind)|(refine dE ?_;grind)|(exfalso;grind))
theorem Kx (l:ag) (many lo hi:Int) (d:l.length<=1048576):W fun n=>qW n l many lo hi=some (bo ((l.length:Int)=many/\ ∀x∈l,In x lo hi)):=by
 have f:W fun n=> ∀e∈l,Ip n lo hi e=some (bo (¬In e lo hi),lo,hi):=W.all l fun e _=>(di e lo hi).nm fun n g=>by
  rw [awY,g];simp only [Z,bB]
 have j:=kn d (p:=fun e=> ¬In e lo hi) (r:=fun i=>(i,lo,hi)) (b:=(lo,hi)) (L:=fun n m i=>Bc n m lo hi i l (l.length:Int)) (f.mono fun n h m i hi=>by
   rw [SC,bk hi,aU hi];simp only [Y,Z,h _ (Å hi)]) (fun n m=>by rw [SC,ca];rfl)
 have k1:W fun n=>Io n lo hi l=some (bo (∃e∈l,¬In e lo hi),lo,hi):=W.succ (j.nm fun n h=>by
   rw [awW,awX];refine se (l:=l) (p:=fun e=> ¬In e lo hi) (c:=(lo,hi)) ?_
   rcases h with⟨h,i,e⟩|⟨h,e⟩
   .exact .inl ⟨h,i,by rw [e];rfl⟩
   .exact .inr ⟨h,by rw [e];rfl⟩)
 refine k1.nm fun n e=> ?_
 rw [awV,e];simp only [Z]
 ((try simp only [bj,bB]);(try simp only [dC]);(repeat' split);all_goals first|rfl|(refine cG ?_;grind)|(refine dD ?_;grind)|(refine dE ?_;grind)|(exfalso;grind))
def Ky (a b:af) (c d:ae) (p:lE):Prop:=uR a b c d p.2.1 p.2.2.1 p.2.2.2.1 p.2.2.2.2.1 p.2.2.2.2.2.1 p.2.2.2.2.2.2.1 p.2.2.2.2.2.2.2.1 p.2.2.2.2.2.2.2.2.1 p.2.2.2.2.2.2.2.2.2.1 p.2.2.2.2.2.2.2.2.2.2.1 p.2.2.2.2.2.2.2.2.2.2.2.1
def Kz (a b:af) (c d:ae) (p:lE):Prop:=nk a b c d p.2.2.2.2.2.2.2.2.2.2.2.2.2.2.2.2.2.1 p.2.2.2.2.2.2.2.2.2.2.2.2.2.2.2.2.2.2.1 p.2.2.2.2.2.2.2.2.2.2.2.2.2.2.2.2.2.2.2.1 p.2.2.2.2.2.2.2.2.2.2.2.2.2.2.2.2.2.2.2.2.1 p.2.2.2.2.2.2.2.2.2.2.2.2.2.2.2.2.2.2.2.2.2.1 p.2.2.2.2.2.2.2.2.2.2.2.2.2.2.2.2.2.2.2.2.2.2.1
def eK (p:lE):Int:=(me p.2.2.2.1 p.2.2.2.2.1 p.2.2.2.2.2.1).1
def nI (a b:af) (c d:ae) (p:lE) (size:Int):Prop:=
 In size 1 5/\In p.1 0 (wrap .i64 (size-1))/\Ky a b c d p/\p.2.2.1<size/\In p.2.2.2.2.2.2.2.2.2.2.2.2.1 0 2/\(p.2.2.2.2.2.2.2.2.2.2.2.2.2.1.length:Int)=size/\(p.2.2.2.2.2.2.2.2.2.2.2.2.2.2.1.length:Int)=size/\(p.2.2.2.2.2.2.2.2.2.2.2.2.2.2.2.1.length:Int)=size/\
 (∀x∈p.2.2.2.2.2.2.2.2.2.2.2.2.2.2.1,In x 1 (wrap .i64 (eK p+1)))/\(∀x∈p.2.2.2.2.2.2.2.2.2.2.2.2.2.2.2.1,In x 0 (eK p))/\(∀r∈p.2.2.2.2.2.2.2.2.2.2.2.2.2.2.2.2.2.2.2.2.2.2.2.2.2,gE r size/\r.2.1=p.1)/\In p.2.2.2.2.2.2.2.2.2.2.2.2.2.2.2.2.1 p.2.2.2.1 (eK p)/\Kz a b c d p/\xn p.2.2.2.2.2.2.2.2.2.2.2.2.2.2.2.2.2.2.2.2.2.2.2.1 p.2.2.2.2.2.2.2.2.2.2.2.2.2.2.2.2.2.2.2.2.2.2.2.2.1/\p.2.2.2.2.2.2.2.2.2.2.2.2.2.2.2.2.2.2.2.2.2.2.2.2.2.length<=40
def KA (p:lE):Prop:=pB p.2.2.2.2.2.1/\p.2.2.2.2.2.2.1.length<=1048576/\p.2.2.2.2.2.2.2.1.length<=1048576/\p.2.2.2.2.2.2.2.2.2.2.1.length<=1048576/\p.2.2.2.2.2.2.2.2.2.2.2.2.2.2.1.length<=1048576/\p.2.2.2.2.2.2.2.2.2.2.2.2.2.2.2.1.length<=1048576/\p.2.2.2.2.2.2.2.2.2.2.2.2.2.2.2.2.2.1.length<=1048576/\p.2.2.2.2.2.2.2.2.2.2.2.2.2.2.2.2.2.2.1.length<=1048576/\p.2.2.2.2.2.2.2.2.2.2.2.2.2.2.2.2.2.2.2.2.2.1.length<=1048576/\p.2.2.2.2.2.2.2.2.2.2.2.2.2.2.2.2.2.2.2.2.2.2.2.2.2.length<=1048576/\ ∀r∈p.2.2.2.2.2.2.2.2.2.2.2.2.2.2.2.2.2.2.2.2.2.2.2.2.2,Cx r
theorem aCG (a b:af) (c d:ae) (p:lE) (size:Int) (h:iR a b c d) (hp:KA p):W fun n=>Ia n a b c d p.1 p.2.1 p.2.2.1 p.2.2.2.1 p.2.2.2.2.1 p.2.2.2.2.2.1 p.2.2.2.2.2.2.1 p.2.2.2.2.2.2.2.1 p.2.2.2.2.2.2.2.2.1 p.2.2.2.2.2.2.2.2.2.1 p.2.2.2.2.2.2.2.2.2.2.1 p.2.2.2.2.2.2.2.2.2.2.2.1 p.2.2.2.2.2.2.2.2.2.2.2.2.1 p.2.2.2.2.2.2.2.2.2.2.2.2.2.1 p.2.2.2.2.2.2.2.2.2.2.2.2.2.2.1 p.2.2.2.2.2.2.2.2.2.2.2.2.2.2.2.1 p.2.2.2.2.2.2.2.2.2.2.2.2.2.2.2.2.1 p.2.2.2.2.2.2.2.2.2.2.2.2.2.2.2.2.2.1 p.2.2.2.2.2.2.2.2.2.2.2.2.2.2.2.2.2.2.1 p.2.2.2.2.2.2.2.2.2.2.2.2.2.2.2.2.2.2.2.1 p.2.2.2.2.2.2.2.2.2.2.2.2.2.2.2.2.2.2.2.2.1 p.2.2.2.2.2.2.2.2.2.2.2.2.2.2.2.2.2.2.2.2.2.1 p.2.2.2.2.2.2.2.2.2.2.2.2.2.2.2.2.2.2.2.2.2.2.1 p.2.2.2.2.2.2.2.2.2.2.2.2.2.2.2.2.2.2.2.2.2.2.2.1 p.2.2.2.2.2.2.2.2.2.2.2.2.2.2.2.2.2.2.2.2.2.2.2.2.1 p.2.2.2.2.2.2.2.2.2.2.2.2.2.2.2.2.2.2.2.2.2.2.2.2.2 size=some (bo (nI a b c d p size)):=by
 obtain⟨hl,h6,h7,f,g,j,k,q,s,t,hr⟩:=hp;have k0:W fun n=> ∀r∈p.2.2.2.2.2.2.2.2.2.2.2.2.2.2.2.2.2.2.2.2.2.2.2.2.2,Is n size p.1 p.2.1 p.2.2.1 p.2.2.2.1 p.2.2.2.2.1 p.2.2.2.2.2.1 p.2.2.2.2.2.2.1 p.2.2.2.2.2.2.2.1 p.2.2.2.2.2.2.2.2.1 p.2.2.2.2.2.2.2.2.2.1 p.2.2.2.2.2.2.2.2.2.2.1 p.2.2.2.2.2.2.2.2.2.2.2.1 p.2.2.2.2.2.2.2.2.2.2.2.2.1 p.2.2.2.2.2.2.2.2.2.2.2.2.2.1 p.2.2.2.2.2.2.2.2.2.2.2.2.2.2.1 p.2.2.2.2.2.2.2.2.2.2.2.2.2.2.2.1 p.2.2.2.2.2.2.2.2.2.2.2.2.2.2.2.2.1 p.2.2.2.2.2.2.2.2.2.2.2.2.2.2.2.2.2.1 p.2.2.2.2.2.2.2.2.2.2.2.2.2.2.2.2.2.2.1 p.2.2.2.2.2.2.2.2.2.2.2.2.2.2.2.2.2.2.2.1 p.2.2.2.2.2.2.2.2.2.2.2.2.2.2.2.2.2.2.2.2.1 p.2.2.2.2.2.2.2.2.2.2.2.2.2.2.2.2.2.2.2.2.2.1 p.2.2.2.2.2.2.2.2.2.2.2.2.2.2.2.2.2.2.2.2.2.2.1 p.2.2.2.2.2.2.2.2.2.2.2.2.2.2.2.2.2.2.2.2.2.2.2.1 p.2.2.2.2.2.2.2.2.2.2.2.2.2.2.2.2.2.2.2.2.2.2.2.2.1 p.2.2.2.2.2.2.2.2.2.2.2.2.2.2.2.2.2.2.2.2.2.2.2.2.2 r.1 r.2.1 r.2.2.1 r.2.2.2.1 r.2.2.2.2.1 r.2.2.2.2.2.1 r.2.2.2.2.2.2.1 r.2.2.2.2.2.2.2.1 r.2.2.2.2.2.2.2.2.1 r.2.2.2.2.2.2.2.2.2=some (bo (¬(gE r size/\r.2.1=p.1)),size,p):=W.all _ fun r hm=>(UY r size (hr r hm)).nm fun n e1=>by
  rw [axC,e1];simp only [Z,bB,cw,kW];rw [kY (show (¬gE r size\/ ¬r.2.1=p.1)↔ ¬(gE r size/\r.2.1=p.1) by grind)]
 have h':=kn t (p:=fun r=> ¬(gE r size/\r.2.1=p.1)) (r:=fun i=>(i,size,p)) (b:=(size,p)) (L:=fun n m i=>Bd n m size p.1 p.2.1 p.2.2.1 p.2.2.2.1 p.2.2.2.2.1 p.2.2.2.2.2.1 p.2.2.2.2.2.2.1 p.2.2.2.2.2.2.2.1 p.2.2.2.2.2.2.2.2.1 p.2.2.2.2.2.2.2.2.2.1 p.2.2.2.2.2.2.2.2.2.2.1 p.2.2.2.2.2.2.2.2.2.2.2.1 p.2.2.2.2.2.2.2.2.2.2.2.2.1 p.2.2.2.2.2.2.2.2.2.2.2.2.2.1 p.2.2.2.2.2.2.2.2.2.2.2.2.2.2.1 p.2.2.2.2.2.2.2.2.2.2.2.2.2.2.2.1 p.2.2.2.2.2.2.2.2.2.2.2.2.2.2.2.2.1 p.2.2.2.2.2.2.2.2.2.2.2.2.2.2.2.2.2.1 p.2.2.2.2.2.2.2.2.2.2.2.2.2.2.2.2.2.2.1 p.2.2.2.2.2.2.2.2.2.2.2.2.2.2.2.2.2.2.2.1 p.2.2.2.2.2.2.2.2.2.2.2.2.2.2.2.2.2.2.2.2.1 p.2.2.2.2.2.2.2.2.2.2.2.2.2.2.2.2.2.2.2.2.2.1 p.2.2.2.2.2.2.2.2.2.2.2.2.2.2.2.2.2.2.2.2.2.2.1 p.2.2.2.2.2.2.2.2.2.2.2.2.2.2.2.2.2.2.2.2.2.2.2.1 p.2.2.2.2.2.2.2.2.2.2.2.2.2.2.2.2.2.2.2.2.2.2.2.2.1 p.2.2.2.2.2.2.2.2.2.2.2.2.2.2.2.2.2.2.2.2.2.2.2.2.2 i p.2.2.2.2.2.2.2.2.2.2.2.2.2.2.2.2.2.2.2.2.2.2.2.2.2 (p.2.2.2.2.2.2.2.2.2.2.2.2.2.2.2.2.2.2.2.2.2.2.2.2.2.length:Int)) (k0.mono fun n h m i hi=>by
   rw [SD,bk hi,aU hi];simp only [Y,Z,h _ (Å hi)]) (fun n m=>by rw [SD,ca];rfl)
 have k1:W fun n=>Ir n size p.1 p.2.1 p.2.2.1 p.2.2.2.1 p.2.2.2.2.1 p.2.2.2.2.2.1 p.2.2.2.2.2.2.1 p.2.2.2.2.2.2.2.1 p.2.2.2.2.2.2.2.2.1 p.2.2.2.2.2.2.2.2.2.1 p.2.2.2.2.2.2.2.2.2.2.1 p.2.2.2.2.2.2.2.2.2.2.2.1 p.2.2.2.2.2.2.2.2.2.2.2.2.1 p.2.2.2.2.2.2.2.2.2.2.2.2.2.1 p.2.2.2.2.2.2.2.2.2.2.2.2.2.2.1 p.2.2.2.2.2.2.2.2.2.2.2.2.2.2.2.1 p.2.2.2.2.2.2.2.2.2.2.2.2.2.2.2.2.1 p.2.2.2.2.2.2.2.2.2.2.2.2.2.2.2.2.2.1 p.2.2.2.2.2.2.2.2.2.2.2.2.2.2.2.2.2.2.1 p.2.2.2.2.2.2.2.2.2.2.2.2.2.2.2.2.2.2.2.1 p.2.2.2.2.2.2.2.2.2.2.2.2.2.2.2.2.2.2.2.2.1 p.2.2.2.2.2.2.2.2.2.2.2.2.2.2.2.2.2.2.2.2.2.1 p.2.2.2.2.2.2.2.2.2.2.2.2.2.2.2.2.2.2.2.2.2.2.1 p.2.2.2.2.2.2.2.2.2.2.2.2.2.2.2.2.2.2.2.2.2.2.2.1 p.2.2.2.2.2.2.2.2.2.2.2.2.2.2.2.2.2.2.2.2.2.2.2.2.1 p.2.2.2.2.2.2.2.2.2.2.2.2.2.2.2.2.2.2.2.2.2.2.2.2.2 p.2.2.2.2.2.2.2.2.2.2.2.2.2.2.2.2.2.2.2.2.2.2.2.2.2=some (bo (∃r∈p.2.2.2.2.2.2.2.2.2.2.2.2.2.2.2.2.2.2.2.2.2.2.2.2.2,¬(gE r size/\r.2.1=p.1)),size,p):=W.succ (h'.nm fun n h=>by
   rw [axA,axB];refine se (l:=p.2.2.2.2.2.2.2.2.2.2.2.2.2.2.2.2.2.2.2.2.2.2.2.2.2) (p:=fun r=> ¬(gE r size/\r.2.1=p.1)) (c:=(size,p)) ?_
   rcases h with⟨h,i,e⟩|⟨h,e⟩
   .exact .inl ⟨h,i,by rw [e];rfl⟩
   .exact .inr ⟨h,by rw [e];rfl⟩)
 have k2:=aCB a b c d p.2.1 p.2.2.1 p.2.2.2.1 p.2.2.2.2.1 p.2.2.2.2.2.1 p.2.2.2.2.2.2.1 p.2.2.2.2.2.2.2.1 p.2.2.2.2.2.2.2.2.1 p.2.2.2.2.2.2.2.2.2.1 p.2.2.2.2.2.2.2.2.2.2.1 p.2.2.2.2.2.2.2.2.2.2.2.1 h hl h6 h7 f;have k3:=Kw a b c d p.2.2.2.2.2.2.2.2.2.2.2.2.2.2.2.2.2.1 p.2.2.2.2.2.2.2.2.2.2.2.2.2.2.2.2.2.2.1 p.2.2.2.2.2.2.2.2.2.2.2.2.2.2.2.2.2.2.2.1 p.2.2.2.2.2.2.2.2.2.2.2.2.2.2.2.2.2.2.2.2.1 p.2.2.2.2.2.2.2.2.2.2.2.2.2.2.2.2.2.2.2.2.2.1 p.2.2.2.2.2.2.2.2.2.2.2.2.2.2.2.2.2.2.2.2.2.2.1 h k q s;have k4:=UT p.2.2.2.1 p.2.2.2.2.1 p.2.2.2.2.2.1 hl.1;have k5:=Kx p.2.2.2.2.2.2.2.2.2.2.2.2.2.2.1 size 1 (wrap .i64 (eK p+1)) g;have k6:=Kx p.2.2.2.2.2.2.2.2.2.2.2.2.2.2.2.1 size 0 (eK p) j;have k7:=aCF p.2.2.2.2.2.2.2.2.2.2.2.2.2.2.2.2.2.2.2.2.2.2.2.1 p.2.2.2.2.2.2.2.2.2.2.2.2.2.2.2.2.2.2.2.2.2.2.2.2.1;refine(((k1.and (k2.and k3)).and ((k4.and k5).and (k6.and k7))).and (((di size 1 5).and (di p.1 0 (wrap .i64 (size-1)))).and ((di p.2.2.2.2.2.2.2.2.2.2.2.2.1 0 2).and (di p.2.2.2.2.2.2.2.2.2.2.2.2.2.2.2.2.1 p.2.2.2.1 (eK p))))).nm fun n ⟨⟨⟨e1,e2,e3⟩,⟨e4,e5⟩,e6,e7⟩,⟨e8,e9⟩,u,z⟩=> ?_
 rw [awA,e8,e4];simp only [Z,show(me p.2.2.2.1 p.2.2.2.2.1 p.2.2.2.2.2.1).1=eK p from rfl,e1,e2,e3,e5,e6,e7,e9,u,z];clear e1 e2 e3 e4 e5 e6 e7 e8 e9 u z k0 k1 k2 k3 k4 k5 k6 k7 h' hr hl h6 h7 f g j k q s t h;simp only [bU,cw,bB,kW,uN,Z];refine cG ?_
 unfold nI Ky Kz;grind
theorem aCH (a b:af) (c d:ae) (p:lE) (size:Int) (h:iR a b c d) (hp:KA p):W fun n=>Hb n a b c d p.1 p.2.1 p.2.2.1 p.2.2.2.1 p.2.2.2.2.1 p.2.2.2.2.2.1 p.2.2.2.2.2.2.1 p.2.2.2.2.2.2.2.1 p.2.2.2.2.2.2.2.2.1 p.2.2.2.2.2.2.2.2.2.1 p.2.2.2.2.2.2.2.2.2.2.1 p.2.2.2.2.2.2.2.2.2.2.2.1 p.2.2.2.2.2.2.2.2.2.2.2.2.1 p.2.2.2.2.2.2.2.2.2.2.2.2.2.1 p.2.2.2.2.2.2.2.2.2.2.2.2.2.2.1 p.2.2.2.2.2.2.2.2.2.2.2.2.2.2.2.1 p.2.2.2.2.2.2.2.2.2.2.2.2.2.2.2.2.1 p.2.2.2.2.2.2.2.2.2.2.2.2.2.2.2.2.2.1 p.2.2.2.2.2.2.2.2.2.2.2.2.2.2.2.2.2.2.1 p.2.2.2.2.2.2.2.2.2.2.2.2.2.2.2.2.2.2.2.1 p.2.2.2.2.2.2.2.2.2.2.2.2.2.2.2.2.2.2.2.2.1 p.2.2.2.2.2.2.2.2.2.2.2.2.2.2.2.2.2.2.2.2.2.1 p.2.2.2.2.2.2.2.2.2.2.2.2.2.2.2.2.2.2.2.2.2.2.1 p.2.2.2.2.2.2.2.2.2.2.2.2.2.2.2.2.2.2.2.2.2.2.2.1 p.2.2.2.2.2.2.2.2.2.2.2.2.2.2.2.2.2.2.2.2.2.2.2.2.1 p.2.2.2.2.2.2.2.2.2.2.2.2.2.2.2.2.2.2.2.2.2.2.2.2.2 size=some (bo (nI a b c d p size)):=by
 obtain⟨hl,h6,h7,k,s,ak,t,u,z,ad,hr⟩:=hp;have k2:=aCA a b c d p.2.1 p.2.2.1 p.2.2.2.1 p.2.2.2.2.1 p.2.2.2.2.2.1 p.2.2.2.2.2.2.1 p.2.2.2.2.2.2.2.1 p.2.2.2.2.2.2.2.2.1 p.2.2.2.2.2.2.2.2.2.1 p.2.2.2.2.2.2.2.2.2.2.1 p.2.2.2.2.2.2.2.2.2.2.2.1 h hl h6 h7 k;have k3:=UW a b c d p.2.2.2.2.2.2.2.2.2.2.2.2.2.2.2.2.2.1 p.2.2.2.2.2.2.2.2.2.2.2.2.2.2.2.2.2.2.1 p.2.2.2.2.2.2.2.2.2.2.2.2.2.2.2.2.2.2.2.1 p.2.2.2.2.2.2.2.2.2.2.2.2.2.2.2.2.2.2.2.2.1 p.2.2.2.2.2.2.2.2.2.2.2.2.2.2.2.2.2.2.2.2.2.1 p.2.2.2.2.2.2.2.2.2.2.2.2.2.2.2.2.2.2.2.2.2.2.1 h t u z;have k4:=US p.2.2.2.1 p.2.2.2.2.1 p.2.2.2.2.2.1 hl.1;have k7:=aCE p.2.2.2.2.2.2.2.2.2.2.2.2.2.2.2.2.2.2.2.2.2.2.2.1 p.2.2.2.2.2.2.2.2.2.2.2.2.2.2.2.2.2.2.2.2.2.2.2.2.1;have k8:=(((k2.and k3).and (k4.and k7)).and (((cM size 1 5).and (cM p.1 0 (wrap .i64 (size-1)))).and ((cM p.2.2.2.2.2.2.2.2.2.2.2.2.1 0 2).and (cM p.2.2.2.2.2.2.2.2.2.2.2.2.2.2.2.2.1 p.2.2.2.1 (eK p)))));by_cases hg:(p.2.2.2.2.2.2.2.2.2.2.2.2.2.2.1.length:Int)=size/\(p.2.2.2.2.2.2.2.2.2.2.2.2.2.2.2.1.length:Int)=size
 .obtain⟨g1,g2⟩:=hg
  have q1:=iD s (q:=fun i=>At p.2.2.2.2.2.2.2.2.2.2.2.2.2.2.1 (fun x=>In x 1 (wrap .i64 (eK p+1))) i/\At p.2.2.2.2.2.2.2.2.2.2.2.2.2.2.2.1 (fun x=>In x 0 (eK p)) i) (r:=false) (b:=(p.1,p.2.1,p.2.2.1,p.2.2.2.1,p.2.2.2.2.1,p.2.2.2.2.2.1,p.2.2.2.2.2.2.1,p.2.2.2.2.2.2.2.1,p.2.2.2.2.2.2.2.2.1,p.2.2.2.2.2.2.2.2.2.1,p.2.2.2.2.2.2.2.2.2.2.1,p.2.2.2.2.2.2.2.2.2.2.2.1,p.2.2.2.2.2.2.2.2.2.2.2.2.1,p.2.2.2.2.2.2.2.2.2.2.2.2.2.1,p.2.2.2.2.2.2.2.2.2.2.2.2.2.2.1,p.2.2.2.2.2.2.2.2.2.2.2.2.2.2.2.1,p.2.2.2.2.2.2.2.2.2.2.2.2.2.2.2.2.1,p.2.2.2.2.2.2.2.2.2.2.2.2.2.2.2.2.2.1,p.2.2.2.2.2.2.2.2.2.2.2.2.2.2.2.2.2.2.1,p.2.2.2.2.2.2.2.2.2.2.2.2.2.2.2.2.2.2.2.1,p.2.2.2.2.2.2.2.2.2.2.2.2.2.2.2.2.2.2.2.2.1,p.2.2.2.2.2.2.2.2.2.2.2.2.2.2.2.2.2.2.2.2.2.1,p.2.2.2.2.2.2.2.2.2.2.2.2.2.2.2.2.2.2.2.2.2.2.1,p.2.2.2.2.2.2.2.2.2.2.2.2.2.2.2.2.2.2.2.2.2.2.2.1,p.2.2.2.2.2.2.2.2.2.2.2.2.2.2.2.2.2.2.2.2.2.2.2.2.1,p.2.2.2.2.2.2.2.2.2.2.2.2.2.2.2.2.2.2.2.2.2.2.2.2.2,a,b,c,d,size,eK p)) (L:=fun n m i=>vF n m p.1 p.2.1 p.2.2.1 p.2.2.2.1 p.2.2.2.2.1 p.2.2.2.2.2.1 p.2.2.2.2.2.2.1 p.2.2.2.2.2.2.2.1 p.2.2.2.2.2.2.2.2.1 p.2.2.2.2.2.2.2.2.2.1 p.2.2.2.2.2.2.2.2.2.2.1 p.2.2.2.2.2.2.2.2.2.2.2.1 p.2.2.2.2.2.2.2.2.2.2.2.2.1 p.2.2.2.2.2.2.2.2.2.2.2.2.2.1 p.2.2.2.2.2.2.2.2.2.2.2.2.2.2.1 p.2.2.2.2.2.2.2.2.2.2.2.2.2.2.2.1 p.2.2.2.2.2.2.2.2.2.2.2.2.2.2.2.2.1 p.2.2.2.2.2.2.2.2.2.2.2.2.2.2.2.2.2.1 p.2.2.2.2.2.2.2.2.2.2.2.2.2.2.2.2.2.2.1 p.2.2.2.2.2.2.2.2.2.2.2.2.2.2.2.2.2.2.2.1 p.2.2.2.2.2.2.2.2.2.2.2.2.2.2.2.2.2.2.2.2.1 p.2.2.2.2.2.2.2.2.2.2.2.2.2.2.2.2.2.2.2.2.2.1 p.2.2.2.2.2.2.2.2.2.2.2.2.2.2.2.2.2.2.2.2.2.2.1 p.2.2.2.2.2.2.2.2.2.2.2.2.2.2.2.2.2.2.2.2.2.2.2.1 p.2.2.2.2.2.2.2.2.2.2.2.2.2.2.2.2.2.2.2.2.2.2.2.2.1 p.2.2.2.2.2.2.2.2.2.2.2.2.2.2.2.2.2.2.2.2.2.2.2.2.2 a b c d i (eK p) size) (((W.all p.2.2.2.2.2.2.2.2.2.2.2.2.2.2.1 fun x _=>cM x 1 (wrap .i64 (eK p+1))).and (W.all p.2.2.2.2.2.2.2.2.2.2.2.2.2.2.2.1 fun x _=>cM x 0 (eK p))).mono fun n ⟨h,h'⟩ m i hi=>by
   have g:i<p.2.2.2.2.2.2.2.2.2.2.2.2.2.2.2.1.length:=by omega
   rw [Ru,hJ (by omega),aU hi,aU g]
   simp only [Y,Z,h _ (Å hi),h' _ (Å g),bB,gL,kX hi,kX g];exact eF (by grind)) (fun n m=>by rw [Ru,hL (by omega)];rfl)
  have q2:=km ad (p:=fun r=>gE r size/\r.2.1=p.1) (r:=false) (b:=(p.1,p.2.1,p.2.2.1,p.2.2.2.1,p.2.2.2.2.1,p.2.2.2.2.2.1,p.2.2.2.2.2.2.1,p.2.2.2.2.2.2.2.1,p.2.2.2.2.2.2.2.2.1,p.2.2.2.2.2.2.2.2.2.1,p.2.2.2.2.2.2.2.2.2.2.1,p.2.2.2.2.2.2.2.2.2.2.2.1,p.2.2.2.2.2.2.2.2.2.2.2.2.1,p.2.2.2.2.2.2.2.2.2.2.2.2.2.1,p.2.2.2.2.2.2.2.2.2.2.2.2.2.2.1,p.2.2.2.2.2.2.2.2.2.2.2.2.2.2.2.1,p.2.2.2.2.2.2.2.2.2.2.2.2.2.2.2.2.1,p.2.2.2.2.2.2.2.2.2.2.2.2.2.2.2.2.2.1,p.2.2.2.2.2.2.2.2.2.2.2.2.2.2.2.2.2.2.1,p.2.2.2.2.2.2.2.2.2.2.2.2.2.2.2.2.2.2.2.1,p.2.2.2.2.2.2.2.2.2.2.2.2.2.2.2.2.2.2.2.2.1,p.2.2.2.2.2.2.2.2.2.2.2.2.2.2.2.2.2.2.2.2.2.1,p.2.2.2.2.2.2.2.2.2.2.2.2.2.2.2.2.2.2.2.2.2.2.1,p.2.2.2.2.2.2.2.2.2.2.2.2.2.2.2.2.2.2.2.2.2.2.2.1,p.2.2.2.2.2.2.2.2.2.2.2.2.2.2.2.2.2.2.2.2.2.2.2.2.1,p.2.2.2.2.2.2.2.2.2.2.2.2.2.2.2.2.2.2.2.2.2.2.2.2.2,a,b,c,d,eK p)) (L:=fun n m i=>vG n m p.1 p.2.1 p.2.2.1 p.2.2.2.1 p.2.2.2.2.1 p.2.2.2.2.2.1 p.2.2.2.2.2.2.1 p.2.2.2.2.2.2.2.1 p.2.2.2.2.2.2.2.2.1 p.2.2.2.2.2.2.2.2.2.1 p.2.2.2.2.2.2.2.2.2.2.1 p.2.2.2.2.2.2.2.2.2.2.2.1 p.2.2.2.2.2.2.2.2.2.2.2.2.1 p.2.2.2.2.2.2.2.2.2.2.2.2.2.1 p.2.2.2.2.2.2.2.2.2.2.2.2.2.2.1 p.2.2.2.2.2.2.2.2.2.2.2.2.2.2.2.1 p.2.2.2.2.2.2.2.2.2.2.2.2.2.2.2.2.1 p.2.2.2.2.2.2.2.2.2.2.2.2.2.2.2.2.2.1 p.2.2.2.2.2.2.2.2.2.2.2.2.2.2.2.2.2.2.1 p.2.2.2.2.2.2.2.2.2.2.2.2.2.2.2.2.2.2.2.1 p.2.2.2.2.2.2.2.2.2.2.2.2.2.2.2.2.2.2.2.2.1 p.2.2.2.2.2.2.2.2.2.2.2.2.2.2.2.2.2.2.2.2.2.1 p.2.2.2.2.2.2.2.2.2.2.2.2.2.2.2.2.2.2.2.2.2.2.1 p.2.2.2.2.2.2.2.2.2.2.2.2.2.2.2.2.2.2.2.2.2.2.2.1 p.2.2.2.2.2.2.2.2.2.2.2.2.2.2.2.2.2.2.2.2.2.2.2.2.1 p.2.2.2.2.2.2.2.2.2.2.2.2.2.2.2.2.2.2.2.2.2.2.2.2.2 a b c d i size (eK p)) ((W.all p.2.2.2.2.2.2.2.2.2.2.2.2.2.2.2.2.2.2.2.2.2.2.2.2.2 fun r hm=>UX r size (hr r hm)).mono fun n h m i hi=>by
   rw [Rv,bk hi,aU hi];simp only [Y,Z,h _ (Å hi),bB,cw,gL];exact eF (by grind)) (fun n m=>by rw [Rv,ca];rfl)
  refine(k8.and (q1.and q2)).nm fun n ⟨⟨⟨⟨e2,e3⟩,e4,e7⟩,⟨e8,e9⟩,f,j⟩,e5,e6⟩=> ?_
  rw [Rt,e8,e4];simp only [Z,show(me p.2.2.2.1 p.2.2.2.2.1 p.2.2.2.2.2.1).1=eK p from rfl,show vF n n p.1 p.2.1 p.2.2.1 p.2.2.2.1 p.2.2.2.2.1 p.2.2.2.2.2.1 p.2.2.2.2.2.2.1 p.2.2.2.2.2.2.2.1 p.2.2.2.2.2.2.2.2.1 p.2.2.2.2.2.2.2.2.2.1 p.2.2.2.2.2.2.2.2.2.2.1 p.2.2.2.2.2.2.2.2.2.2.2.1 p.2.2.2.2.2.2.2.2.2.2.2.2.1 p.2.2.2.2.2.2.2.2.2.2.2.2.2.1 p.2.2.2.2.2.2.2.2.2.2.2.2.2.2.1 p.2.2.2.2.2.2.2.2.2.2.2.2.2.2.2.1 p.2.2.2.2.2.2.2.2.2.2.2.2.2.2.2.2.1 p.2.2.2.2.2.2.2.2.2.2.2.2.2.2.2.2.2.1 p.2.2.2.2.2.2.2.2.2.2.2.2.2.2.2.2.2.2.1 p.2.2.2.2.2.2.2.2.2.2.2.2.2.2.2.2.2.2.2.1 p.2.2.2.2.2.2.2.2.2.2.2.2.2.2.2.2.2.2.2.2.1 p.2.2.2.2.2.2.2.2.2.2.2.2.2.2.2.2.2.2.2.2.2.1 p.2.2.2.2.2.2.2.2.2.2.2.2.2.2.2.2.2.2.2.2.2.2.1 p.2.2.2.2.2.2.2.2.2.2.2.2.2.2.2.2.2.2.2.2.2.2.2.1 p.2.2.2.2.2.2.2.2.2.2.2.2.2.2.2.2.2.2.2.2.2.2.2.2.1 p.2.2.2.2.2.2.2.2.2.2.2.2.2.2.2.2.2.2.2.2.2.2.2.2.2 a b c d 0 (eK p) size=_ from e5,cv,show vG n n p.1 p.2.1 p.2.2.1 p.2.2.2.1 p.2.2.2.2.1 p.2.2.2.2.2.1 p.2.2.2.2.2.2.1 p.2.2.2.2.2.2.2.1 p.2.2.2.2.2.2.2.2.1 p.2.2.2.2.2.2.2.2.2.1 p.2.2.2.2.2.2.2.2.2.2.1 p.2.2.2.2.2.2.2.2.2.2.2.1 p.2.2.2.2.2.2.2.2.2.2.2.2.1 p.2.2.2.2.2.2.2.2.2.2.2.2.2.1 p.2.2.2.2.2.2.2.2.2.2.2.2.2.2.1 p.2.2.2.2.2.2.2.2.2.2.2.2.2.2.2.1 p.2.2.2.2.2.2.2.2.2.2.2.2.2.2.2.2.1 p.2.2.2.2.2.2.2.2.2.2.2.2.2.2.2.2.2.1 p.2.2.2.2.2.2.2.2.2.2.2.2.2.2.2.2.2.2.1 p.2.2.2.2.2.2.2.2.2.2.2.2.2.2.2.2.2.2.2.1 p.2.2.2.2.2.2.2.2.2.2.2.2.2.2.2.2.2.2.2.2.1 p.2.2.2.2.2.2.2.2.2.2.2.2.2.2.2.2.2.2.2.2.2.1 p.2.2.2.2.2.2.2.2.2.2.2.2.2.2.2.2.2.2.2.2.2.2.1 p.2.2.2.2.2.2.2.2.2.2.2.2.2.2.2.2.2.2.2.2.2.2.2.1 p.2.2.2.2.2.2.2.2.2.2.2.2.2.2.2.2.2.2.2.2.2.2.2.2.1 p.2.2.2.2.2.2.2.2.2.2.2.2.2.2.2.2.2.2.2.2.2.2.2.2.2 a b c d 0 size (eK p)=_ from e6,e2,e3,e7,e9,f,j];have q3:(∀i,i<p.2.2.2.2.2.2.2.2.2.2.2.2.2.2.1.length->At p.2.2.2.2.2.2.2.2.2.2.2.2.2.2.1 (fun x=>In x 1 (wrap .i64 (eK p+1))) i/\At p.2.2.2.2.2.2.2.2.2.2.2.2.2.2.2.1 (fun x=>In x 0 (eK p)) i)↔(∀x∈p.2.2.2.2.2.2.2.2.2.2.2.2.2.2.1,In x 1 (wrap .i64 (eK p+1)))/\(∀x∈p.2.2.2.2.2.2.2.2.2.2.2.2.2.2.2.1,In x 0 (eK p)):=by
   rw [<-qy,<-qy,show p.2.2.2.2.2.2.2.2.2.2.2.2.2.2.2.1.length=p.2.2.2.2.2.2.2.2.2.2.2.2.2.2.1.length by omega]
   grind
  rw [q3];clear e2 e3 e4 e5 e6 e7 e8 e9 f j k2 k3 k4 k7 k8 q1 q2 q3 hr hl h6 h7 k s ak t u z ad h;simp only [bU,cw,bB,kW,iC,uN,Z];refine cG ?_
  unfold nI Ky Kz;grind
 .refine k8.nm fun n ⟨⟨⟨e2,e3⟩,e4,e7⟩,⟨e8,e9⟩,f,j⟩=> ?_
  rw [Rt,e8];have hf: ¬nI a b c d p size:=by unfold nI;grind
  rw [ay hf];simp only [Z,e2,e9,f,cw,bB,bU];have: ∀x:Option Bool,cond (bo (¬(p.2.2.2.2.2.2.2.2.2.2.2.2.2.2.1.length:Int)=size)) (some true) (some (bo (¬(p.2.2.2.2.2.2.2.2.2.2.2.2.2.2.2.1.length:Int)=size)))=some true:=fun _=>by
   rw [kW,aA (by grind)]
  simp only [this none];cases bo (¬In size 1 5)<;>cases bo (¬In p.1 0 (wrap .i64 (size-1)))<;>try rfl
  all_goals simp only [ez]
  all_goals simp only [Z,Y,ğ]
theorem aCI (a:Int) (s:O):W fun n=>Ha n a s=some (bo (In a 0 300/\s.length<=1500)):=by
 refine(cM a 0 300).nm fun n e=> ?_
 rw [arZ,e]
 ((try simp only [bU,Z,de]);(try simp only [dC]);(repeat' split);all_goals first|rfl|(refine cG ?_;grind)|(refine dD ?_;grind)|(refine dE ?_;grind)|(exfalso;grind))
theorem aCJ (a:Int) (s:O):W fun n=>HZ n a s=some (bo (In a 0 300/\s.length<=1500)):=by
 refine(pC a).nm fun n e=> ?_
 rw [avY,e]
 ((try simp only [bU,Z,de]);(try simp only [dC]);(repeat' split);all_goals first|rfl|(refine cG ?_;grind)|(refine dD ?_;grind)|(refine dE ?_;grind)|(exfalso;grind))
def tp (l:ag):Prop:=l.length=3/\ ∀x∈l,In x 0 100000
theorem UZ (l:ag) (d:l.length<=1048576):W fun n=>zT n l=some (bo (tp l)):=by
 have k:=km d (p:=fun x=>In x 0 100000) (r:=false) (b:=l) (L:=fun n m i=>vE n m i l) ((W.all l fun x _=>cM x 0 100000).mono fun n h m i hi=>by
  rw [Rs,bk hi,aU hi];simp only [Y,Z,h _ (Å hi),bB];exact eF (by simp)) (fun n m=>by rw [Rs,ca];rfl)
 refine k.nm fun n e=> ?_
 rw [asA,show vE n n 0 l=_ from e];simp only [Z,cv];unfold tp
 ((try simp only [bj]);(try simp only [dC]);(repeat' split);all_goals first|rfl|(refine cG ?_;grind)|(refine dD ?_;grind)|(refine dE ?_;grind)|(exfalso;grind))
theorem Va (l:ag) (b:l.length<=1048576):W fun n=>qW n l 3 0 100000=some (bo (tp l)):=by
 refine(Kx l 3 0 100000 b).mono fun n e=> ?_
 rw [e];refine cG ?_
 unfold tp;grind
def mI (h:af) (j:af) (k:ae) (m:ae) (d:Int) (f:bZ) (q:bh) (s:Int) (t:O) (u:ag) (g:ag) (b:ae):Prop:=
 jf h j k m/\In d 1 5/\(f.length:Int)=d/\q.length<=40/\(In s 0 300/\t.length<=1500)/\tp u/\tp g/\b.length<=300/\
 (∀i,i<f.length->At f (fun p=>p.1=(i:Int)/\nI h j k m p d) i)/\(∀r∈q,gE r d)/\ ∀c∈b,ew c.1 c.2.1 c.2.2
def xo (h:af) (i:af) (j:ae) (k:ae) (_:Int) (f:bZ) (g:bh) (_:Int) (_:O) (m:ag) (d:ag) (b:ae):Prop:=
 iR h i j k/\(f.length<=1048576/\ ∀p∈f,KA p)/\(g.length<=1048576/\ ∀r∈g,Cx r)/\m.length<=1048576/\d.length<=1048576/\(b.length<=1048576/\ ∀c∈b,c.2.2.length<=1048576)
theorem aCK (j:af) (k:af) (s:ae) (t:ae) (g:Int) (u:bZ) (z:bh) (x7:Int) (x8:O) (x9:ag) (d:ag) (f:ae) (h:xo j k s t g u z x7 x8 x9 d f):W fun n=>GR n j k s t g u z x7 x8 x9 d f=some (bo (mI j k s t g u z x7 x8 x9 d f)):=by
 obtain⟨hp,⟨h5,ak⟩,⟨h6,al⟩,h9,ao,aq,aj⟩:=h;have k8:=(((Ku j k s t hp).and (cM g 1 5)).and ((aCI x7 x8).and ((UZ x9 h9).and (UZ d ao))));by_cases hg:(u.length:Int)=g
 .have q1:=iD h5 (q:=fun i=>At u (fun p=>p.1=(i:Int)/\nI j k s t p g) i) (r:=false) (b:=(j,k,s,t,g,u,z,x7,x8,x9,d,f)) (L:=fun n m i=>vn n m j k s t g u z x7 x8 x9 d f i) ((W.all u fun p hm=>aCH j k s t p g hp (ak p hm)).mono fun n h m i hi=>by
   rw [QW,hJ (by omega),aU hi]
   simp only [Y,Z,h _ (Å hi),cw,bB,gL,kX hi];exact eF (by grind)) (fun n m=>by rw [QW,hL (by omega)];rfl)
  have q2:=km h6 (p:=fun r=>gE r g) (r:=false) (b:=(j,k,s,t,g,u,z,x7,x8,x9,d,f)) (L:=fun n m i=>vo n m j k s t g u z x7 x8 x9 d f i) ((W.all z fun r hm=>UX r g (al r hm)).mono fun n h m i hi=>by
   rw [QX,bk hi,aU hi];simp only [Y,Z,h _ (Å hi),bB];exact eF (by simp)) (fun n m=>by rw [QX,ca];rfl)
  have q3:=km aq (p:=fun c=>ew c.1 c.2.1 c.2.2) (r:=false) (b:=()) (L:=fun n m i=>vr n m j k s t g u z x7 x8 x9 d f i) ((W.all f fun c hm=>xm c.1 c.2.1 c.2.2 (aj c hm)).mono fun n h m i hi=>by
   rw [QY,bk hi,aU hi];simp only [Y,Z,h _ (Å hi),bB];exact eF (by simp)) (fun n m=>by rw [QY,ca];rfl)
  refine(k8.and (q1.and (q2.and q3))).nm fun n ⟨⟨⟨e1,e2⟩,e3,e4,e5⟩,e6,e7,e8⟩=> ?_
  rw [QV,e1];simp only [Z,e2,e3,e4,e5,show vn n n j k s t g u z x7 x8 x9 d f 0=_ from e6,cv,show vo n n j k s t g u z x7 x8 x9 d f 0=_ from e7,show vr n n j k s t g u z x7 x8 x9 d f 0=_ from e8];clear e1 e2 e3 e4 e5 e6 e7 e8 k8 q1 q2 q3 h5 ak h6 al h9 ao aq aj hp;simp only [cw,bU,bB,kW,iC,cH,uN,Z];refine cG ?_
  unfold mI;grind
 .refine k8.nm fun n ⟨⟨e1,e2⟩,e3,e4,e5⟩=> ?_
  have hf: ¬mI j k s t g u z x7 x8 x9 d f:=by unfold mI;grind
  rw [QV,e1,ay hf];simp only [Z,e2,cw,aA hg,Y,ğ]
theorem aCL (s:af) (t:af) (u:ae) (z:ae) (g:Int) (j:bZ) (k:bh) (x7:Int) (x8:O) (x9:ag) (f:ag) (d:ae) (h:xo s t u z g j k x7 x8 x9 f d):W fun n=>HO n s t u z g j k x7 x8 x9 f d=some (bo (mI s t u z g j k x7 x8 x9 f d)):=by
 obtain⟨hp,⟨h5,ak⟩,⟨h6,al⟩,h9,ao,aq,ar⟩:=h;have k0:W fun n=> ∀r∈k,Iy n s t u z g j k x7 x8 x9 f d r.1 r.2.1 r.2.2.1 r.2.2.2.1 r.2.2.2.2.1 r.2.2.2.2.2.1 r.2.2.2.2.2.2.1 r.2.2.2.2.2.2.2.1 r.2.2.2.2.2.2.2.2.1 r.2.2.2.2.2.2.2.2.2=some (bo (¬gE r g),s,t,u,z,g,j,k,x7,x8,x9,f,d):=W.all _ fun r hm=>(UY r g (al r hm)).nm fun n e1=>by
  rw [axK,e1];simp only [Z,bB]
 have h':=kn h6 (p:=fun r=> ¬gE r g) (r:=fun i=>(i,s,t,u,z,g,j,k,x7,x8,x9,f,d)) (b:=(s,t,u,z,g,j,k,x7,x8,x9,f,d)) (L:=fun n m i=>Bg n m s t u z g j k x7 x8 x9 f d i k (k.length:Int)) (k0.mono fun n h m i hi=>by
   rw [SF,bk hi,aU hi];simp only [Y,Z,h _ (Å hi)]) (fun n m=>by rw [SF,ca];rfl)
 have k1:W fun n=>Ix n s t u z g j k x7 x8 x9 f d k=some (bo (∃r∈k,¬gE r g),s,t,u,z,g,j,k,x7,x8,x9,f,d):=W.succ (h'.nm fun n h=>by
   rw [axI,axJ];refine se (l:=k) (p:=fun r=> ¬gE r g) (c:=(s,t,u,z,g,j,k,x7,x8,x9,f,d)) ?_
   rcases h with⟨h,i,e⟩|⟨h,e⟩
   .exact .inl ⟨h,i,by rw [e];rfl⟩
   .exact .inr ⟨h,by rw [e];rfl⟩)
 have au:W fun n=> ∀c∈d,IA n c.1 c.2.1 c.2.2=some (bo (¬ew c.1 c.2.1 c.2.2)):=W.all _ fun c hm=>(Cv c.1 c.2.1 c.2.2).nm fun n e1=>by
  rw [axN,e1];simp only [Z,bB]
 have av:=kn aq (p:=fun c=> ¬ew c.1 c.2.1 c.2.2) (r:=fun i=>i) (b:=()) (L:=fun n m i=>Bh n m i d (d.length:Int)) (au.mono fun n h m i hi=>by
   rw [SG,bk hi,aU hi];simp only [Y,Z,h _ (Å hi)]) (fun n m=>by rw [SG,ca];rfl)
 have k2:W fun n=>Iz n d=some (bo (∃c∈d,¬ew c.1 c.2.1 c.2.2)):=W.succ (av.nm fun n h=>by
   rw [axL,axM];refine EH (l:=d) (p:=fun c=> ¬ew c.1 c.2.1 c.2.2) ?_
   rcases h with⟨h,i,e⟩|⟨h,e⟩
   .exact .inl ⟨h,i,by rw [e];rfl⟩
   .exact .inr ⟨h,by rw [e];rfl⟩)
 have q1:=iD h5 (q:=fun i=>At j (fun p=>p.1=(i:Int)/\nI s t u z p g) i) (r:=false) (b:=(s,t,u,z,g,j,k,x7,x8,x9,f,d)) (L:=fun n m i=>wi n m s t u z g j k x7 x8 x9 f d i j (j.length:Int)) ((W.all j fun p hm=>aCG s t u z p g hp (ak p hm)).mono fun n h m i hi=>by
   rw [Sb,bk hi,aU hi];simp only [Y,Z,h _ (Å hi),cw,bB,gL,kX hi];exact eF (by grind)) (fun n m=>by rw [Sb,ca];rfl)
 have k8:=(((xl s t u z hp).and (di g 1 5)).and ((aCJ x7 x8).and ((Va x9 h9).and (Va f ao))));refine(k8.and (q1.and (k1.and k2))).nm fun n ⟨⟨⟨e1,e2⟩,e3,e4,e5⟩,e6,e7,e8⟩=> ?_
 rw [auY,e1];simp only [Z,e2,e3,show wi n n s t u z g j k x7 x8 x9 f d 0 j j.length=_ from e6,cv,e4,e5,e7,e8];clear e1 e2 e3 e4 e5 e6 e7 e8 k8 q1 k0 au k1 k2 h' av h5 ak h6 al h9 ao aq ar hp;simp only [cw,bU,bB,kW,iC,uN,Z];refine cG ?_
 unfold mI;grind
theorem Vb {k:Nat} (hk:k<=9223372036854775807):W fun n=>Ah n (k:Int)=some (Ò k):=by
 refine W.succ ((W.ge (k+1)).mono fun n f=> ?_)
 rw [atD];by_cases b:k=0
 .subst b
  rw [hJ (by omega),ė (by omega)]
  rfl
 .have h:=Zy (L:=fun m x acc=>Ai n m x acc) (fun m k acc g d=>by
   rw [RG,hJ (by omega),Ó d];rfl) (fun m acc=>by rw [RG];rfl) k n [] (by omega) (by simp [mx];omega)
  rw [hL (by omega)]
  simp only [ez,h,Z,aw,Ø,dd,if_neg b]
theorem Vc (n:Nat) (x:Int):lu (n+1) x=some (Lib.itoa x):=by kernel_rfl
def lF:O->O:=fun l=>(l.reverse.dropWhile (·==48)).reverse
theorem Vd (l:O) (b:UInt8):lF (l++[b])=if b=48 then lF l else l++[b]:=by
 unfold lF;simp only [ď,ĕ,ę,ê,Ć,â];by_cases h:b=48
 .simp [h]
 .simp [h]
theorem KB (l:O):(lF l).length<=l.length:=by
 unfold lF;simp only [List.length_reverse];have:=(List.dropWhile_sublist (l:=l.reverse) (p:=(·==48))).length_le
 simpa using this
theorem Ve (l:O) (b:UInt8) (h:l.length+1<=1000000):bG (l++[b]) (wrap .i64 (((l++[b]).length:Int)-(1:Int)))=some b:=by
 have e:wrap .i64 (((l++[b]).length:Int)-(1:Int))=(l.length:Int):=by
  simp only [Ê,Á,Ë];rw [À];omega
 rw [e];unfold bG nth;rw [hJ (by omega)]
 simp
theorem Vf (l:O) (b:UInt8) (h:l.length+1<=1000000):wrap .i64 (((l++[b]).length:Int)-(1:Int))=(l.length:Int):=by
 simp only [Ê,Á,Ë];rw [À];omega
theorem Vg {l:O} (h:l≠ []): ∃l' b,l=l'++[b]:=⟨l.dropLast,l.getLast h,(ñ h).symm⟩
theorem Vh (n:Nat): ∀(k:Nat) (l:O) (m:Nat),l.length=k->k<m->k<=1000000->wF n m l 48=some (.inl (lF l))
 |0,l,m,d,hm,_=>by
  obtain⟨m,rfl⟩: ∃m',m=m'+1:=⟨m-1,by omega⟩
  obtain rfl:=Ý.1 d;rw [Cl];rfl
 |k+1,l,m,d,hm,hk=>by
  obtain⟨m,rfl⟩: ∃m',m=m'+1:=⟨m-1,by omega⟩
  obtain⟨l',b,rfl⟩:=Vg (l:=l) (by intro e;rw [e]at d;cases d)
  simp only [Ê,Á,Ë]at d;rw [Cl,hJ (by simp only [Ê,Á,Ë];omega),Ve l' b (by omega),Vf l' b (by omega),Vd]
  simp only [Y,Z];by_cases f:b=48
  .subst f
   rw [show ((((48:UInt8)).toNat:Int)==(((48:UInt8)).toNat:Int))=true from rfl,hJ (by simp only [Ê,Á,Ë];omega)]
   simp only [Y,if_true];have e:(l'++[(48:UInt8)]).take ((Æ (l'.length:Int))-0)=l':=by simp
   rw [e];exact Vh n k l' m (by omega) (by omega) (by omega)
  .have e:(((b).toNat:Int)==(((48:UInt8)).toNat:Int))=false:=by
    rw [beq_eq_false_iff_ne];intro h;exact f (Õ.1 (by omega))
   rw [e,if_neg f];rfl
theorem Vi (n:Nat) (a:Int) (q:O): ∀(k:Nat) (l:O) (m:Nat),l.length=k->k<m->k<=1000000->(∃b∈l,b≠48)->Ag n m l a q=some (.inl (a,lF l,q))
 |0,l,m,d,hm,_,j=>by
  obtain rfl:=Ý.1 d;obtain⟨b,f, -⟩:=j;cases f
 |k+1,l,m,d,hm,hk,j=>by
  obtain⟨m,rfl⟩: ∃m',m=m'+1:=⟨m-1,by omega⟩
  obtain⟨l',b,rfl⟩:=Vg (l:=l) (by intro e;rw [e]at d;cases d)
  simp only [Ê,Á,Ë]at d;rw [atA,Ve l' b (by omega),Vf l' b (by omega),Vd]
  simp only [Z];by_cases f:b=48
  .subst f
   rw [show ((((48:UInt8)).toNat:Int)==(48:Int))=true from rfl,hJ (by simp only [Ê,Á,Ë];omega)]
   simp only [Y,if_true];have e:(l'++[(48:UInt8)]).take ((Æ (l'.length:Int))-0)=l':=by simp
   rw [e];refine Vi n a q k l' m (by omega) (by omega) (by omega) ?_
   obtain⟨c,g,i⟩:=j;rcases å.1 g with g|g
   .exact⟨c,g,i⟩
   .exact absurd (by simpa using g) i
  .have e:(((b).toNat:Int)==(48:Int))=false:=by
    rw [beq_eq_false_iff_ne];intro h;exact f (Õ.1 (show b.toNat=48 by omega))
   rw [e,if_neg f];rfl
theorem tq {k:Nat} (h: ¬k<10):Ò k=Ò (k/10)++[É (48+k%10)]:=by
 rw [Ò,dif_neg h]
theorem seven {k:Nat} (h:1000000<=k) (p:k<2000000): ∃l,Ò k=49::l/\l.length=6/\(k≠1000000-> ∃b∈l,b≠48):=by
 refine⟨[É (48+k/10/10/10/10/10%10),É (48+k/10/10/10/10%10),É (48+k/10/10/10%10),É (48+k/10/10%10),É (48+k/10%10),É (48+k%10)], ?_,rfl,fun g=> ?_⟩
 .rw [tq (k:=k) (by omega),tq (k:=k/10) (by omega),tq (k:=k/10/10) (by omega),tq (k:=k/10/10/10) (by omega),tq (k:=k/10/10/10/10) (by omega),tq (k:=k/10/10/10/10/10) (by omega)]
  have e:k/10/10/10/10/10/10=1:=by omega
  rw [e,ė (by omega)]
  rfl
 .apply ù
  intro i;have d: ∀x,x<10->É (48+x)=48->x=0:=fun x q he=>by
   have:=congrArg UInt8.toNat he;simp only [UInt8.toNat_ofNat',UInt8.reduceToNat]at this;omega
  have f: ∀b∈[É (48+k/10/10/10/10/10%10),É (48+k/10/10/10/10%10),É (48+k/10/10/10%10),É (48+k/10/10%10),É (48+k/10%10),É (48+k%10)],b=48:=fun b j=>ù fun h=>i ⟨b,j,h⟩
  simp only [è,ě,or_false,forall_eq_or_imp,forall_eq]at f;obtain⟨z5,z4,z3,z2,m,z0⟩:=f;have r:=d _ (by omega) z5
  have s:=d _ (by omega) z4
  have t:=d _ (by omega) z3
  have u:=d _ (by omega) z2
  have z:=d _ (by omega) m
  have y0:=d _ (by omega) z0
  omega
def lG (k:Nat):O:=if k%1000000=0 then Ò (k/1000000)else(Ò (k/1000000)++[46])++lF ((Ò (1000000+k%1000000)).drop 1)
def lH (a:Int):O:=if a< -9000000000000\/9000000000000<a then []else if a<0 then 45::lG a.natAbs else lG a.natAbs
theorem aCM (x lo hi:Int):W fun n=>cq n x lo hi=some (decide (lo<=x)&&decide (x<=hi)):=by
 refine W.succ (W.of fun n=> ?_)
 rw [xc];cases decide (lo<=x)<;>rfl
theorem aCN (x lo hi:Int):W fun n=>cT n x lo hi=some (decide (lo<=x)&&decide (x<=hi)):=by
 refine W.succ (W.of fun n=> ?_)
 rw [pq];cases decide (lo<=x)<;>rfl
theorem Vj (x:Int):W fun n=>iL n x=some (decide (-9000000000000<=x)&&decide (x<=9000000000000)):=
 W.succ ((aCM x _ _).mono fun n h=>by rw [Rg,h];rfl)
theorem Vk (x:Int):W fun n=>ij n x=some (decide (-9000000000000<=x)&&decide (x<=9000000000000)):=
 W.succ ((aCN x _ _).mono fun n h=>by rw [JT,h];rfl)
theorem KC {x:Int} (b: -9000000000000<=x):W fun n=>vT n x=some (x.natAbs:Int):=by
 refine W.succ (W.of fun n=> ?_)
 rw [atB];by_cases h:x<0
 .rw [hJ h]
  have hw:wrap .i64 ((0:Int)-x)=(x.natAbs:Int):=by rw [À];omega
  rw [hw];rfl
 .rw [hL h]
  have hw:x=(x.natAbs:Int):=by omega
  simp only [ez];rw [<-hw]
theorem Cy {k:Nat} (h:k<=9223372036854775807):(Ò k).length<=21:=by
 have:=Lib.itoa_length_le (k:Int) (by omega) (by omega)
 rwa [EA]at this
theorem Cz {k:Nat} (h:k<=9223372036854775807):wrap .i64 ((k:Nat):Int)=(k:Int):=by rw [À];omega
theorem aCO {l:O} (b:l.length=6):W fun n=>sV n l ([48]:O)=some (lF l):=by
 have d:W fun n=>wE n l 48=some (lF l):=by
  refine W.succ ((W.ge 8).mono fun n f=> ?_)
  rw [Sy];have:=Vh n 6 l n b (by omega) (by omega)
  have e:É (Æ (((48:UInt8)).toNat:Int))=48:=rfl;rw [e,this];rfl
 refine W.succ (d.mono fun n h=> ?_)
 rw [ayD];have e:(l==([]:O))=false:=by
  cases l with
  |nil=>cases b
  |cons _ _=>rfl
 have g1:(([48]:O)==([]:O))=false:=rfl;have g2:((([48]:O).length:Int)==(1:Int))=true:=rfl;have g3:bG ([48]:O) (0:Int)=some 48:=rfl;have g4:(decide (((48:UInt8).toNat:Int)<(128:Int)))=true:=by decide
 have g5:É (Æ (((48:UInt8)).toNat:Int))=48:=rfl;rw [e,g1];simp only [ez,Z];rw [g2];simp only [Y];rw [g3];simp only [Z];rw [g4];simp only [Y];rw [g5,h];rfl
theorem pD {n:Nat} (h:n<=1000):á n mx=true:=Ó (by unfold mx;omega)
theorem aCP {l:O}:((49::l:O).drop 1).take ((49::l:O).length-1)=l:=by simp
theorem aCQ (a:Int):W fun n=>Hl n a=some (lH a):=by
 by_cases d: -9000000000000<=a/\a<=9000000000000
 .have hk:a.natAbs<=9000000000000:=by omega
  refine W.succ (((((Vj a).and (KC d.1)).and ((Vb (k:=a.natAbs/1000000) (by omega)).and (Vb (k:=1000000+a.natAbs%1000000) (by omega)))).and (W.ge 8)).mono fun n ⟨⟨⟨f,h⟩,i,j⟩,q⟩=> ?_)
  rw [RF,f,hJ d.1,hJ d.2];simp only [Z,ģ,Â,ez,h];have d1:Ï (a.natAbs:Int) (1000000:Int)=((a.natAbs/1000000:Nat):Int):=rfl;have d2:é (a.natAbs:Int) (1000000:Int)=((a.natAbs%1000000:Nat):Int):=rfl;have d3:((1000000:Int)+((a.natAbs%1000000:Nat):Int))=((1000000+a.natAbs%1000000:Nat):Int):=by omega
  rw [d1,d2,Cz (by omega),d3,Cz (by omega),i]
  simp only [Z,j];have r:=Cy (k:=a.natAbs/1000000) (by omega)
  have m:lH a=if a<0 then 45::lG a.natAbs else lG a.natAbs:=by unfold lH;rw [if_neg (by omega)]
  rw [m];unfold lG;by_cases g:a.natAbs%1000000=0
  .rw [hL (by omega),if_pos g]
   simp only [ez];by_cases b:a<0
   .rw [hJ b,if_pos b,pD (by omega)];rfl
   .rw [hL b,if_neg b];rfl
  .rw [hJ (by omega),if_neg g]
   obtain⟨l,s1,s2,p⟩:=seven (k:=1000000+a.natAbs%1000000) (by omega) (by omega)
   rw [s1];simp only [Y];rw [hJ (by simp only [Á];omega),aCP,Vi n a _ 6 l n s2 (by omega) (by omega) (p (by omega))]
   simp only [Y,Z,aw];have s:=KB l;rw [pD (by omega),pD (by simp only [Ê,Á,Ë];omega)]
   simp only [Y,Đ,ã];by_cases b:a<0
   .rw [hJ b,if_pos b,pD (by simp only [Ê,Á,Ë];omega)];rfl
   .rw [hL b,if_neg b];rfl
 .refine W.succ ((Vj a).mono fun n f=> ?_)
  rw [RF,f];have e:(decide (-9000000000000<=a)&&decide (a<=9000000000000))=false:=by
   simp only [ć,decide_eq_false_iff_not];omega
  rw [e,lH,if_pos (by omega)]
  rfl
theorem Vl (n:Nat) (k:Nat) (hk:k<=9000000000000) (pre:O) (hp:pre.length<=1)
  (i:lu n ((k/1000000:Nat):Int)=some (Ò (k/1000000))) (j:lu n ((1000000+k%1000000:Nat):Int)=some (Ò (1000000+k%1000000)))
  (d:sV n ((Ò (1000000+k%1000000)).drop 1) [48]=some (lF ((Ò (1000000+k%1000000)).drop 1))):
  ((lu n ((wrap .i64 (Ï (k:Int) (1000000:Int))):Int)).bind fun(b:O)=>cond (á (pre.length+b.length) mx) (cond (decide ((0:Int)<(é (k:Int) (1000000:Int)))) ((lu n ((wrap .i64 ((1000000:Int)+(é (k:Int) (1000000:Int)))):Int)).bind fun(f:O)=>cond (decide ((0:Int)<=(1:Int)/\(1:Int)<=(f.length:Int))) ((sV n (((f.drop 1).take (f.length-1)):O) ([48]:O)).bind fun(g:O)=>cond (á (1+g.length) mx) (cond (á ((pre++b).length+(([46]:O)++g).length) mx) (some (((pre++b)++(([46]:O)++g)):O)) (none)) (none)) (none)) (some ((pre++b):O))) (none))=some (pre++lG k):=by
 have d1:Ï (k:Int) (1000000:Int)=((k/1000000:Nat):Int):=rfl;have d2:é (k:Int) (1000000:Int)=((k%1000000:Nat):Int):=rfl;have d3:((1000000:Int)+((k%1000000:Nat):Int))=((1000000+k%1000000:Nat):Int):=by omega
 have p:=Cy (k:=k/1000000) (by omega)
 rw [d1,d2,Cz (by omega),d3,Cz (by omega),i]
 simp only [Z,j];rw [pD (by omega)]
 unfold lG;by_cases h:k%1000000=0
 .rw [hL (by omega),if_pos h];rfl
 .rw [hJ (by omega),if_neg h]
  obtain⟨l,s1,s2,q⟩:=seven (k:=1000000+k%1000000) (by omega) (by omega)
  rw [s1]at d |-;simp only [Đ,ã]at d |-;simp only [Y];have m:l.take ((49::l:O).length-1)=l:=by simp
  rw [hJ (by simp only [Á];omega),m,d]
  simp only [Y,Z];have r:=KB l;rw [pD (by omega),pD (by simp only [Ê,Á,Ë];omega)]
  simp only [Y,î]
theorem aCR (a:Int):W fun n=>ID n a=some (lH a):=by
 by_cases b: -9000000000000<=a/\a<=9000000000000
 .have hk:a.natAbs<=9000000000000:=by omega
  obtain⟨l,s1,s2,q⟩:=seven (k:=1000000+a.natAbs%1000000) (by omega) (by omega)
  have j:=aCO (l:=(Ò (1000000+a.natAbs%1000000)).drop 1) (by rw [s1];exact s2)
  refine W.succ ((((Vk a).and j).and (W.ge 8)).mono fun n ⟨⟨f,g⟩,r⟩=> ?_)
  obtain⟨n,rfl⟩: ∃m,n=m+1:=⟨n-1,by omega⟩
  have h:lu (n+1) ((a.natAbs/1000000:Nat):Int)=some (Ò (a.natAbs/1000000)):=by rw [Vc,EA]
  have i:lu (n+1) ((1000000+a.natAbs%1000000:Nat):Int)=some (Ò (1000000+a.natAbs%1000000)):=by rw [Vc,EA]
  rw [SJ,f,hJ b.1,hJ b.2];simp only [Z,ģ,Â,ez];have p:lH a=if a<0 then 45::lG a.natAbs else lG a.natAbs:=by unfold lH;rw [if_neg (by omega)]
  rw [p];by_cases d:a<0
  .rw [hJ d,if_pos d]
   have hw:wrap .i64 (0-a)=(a.natAbs:Int):=by rw [À];omega
   rw [hw];exact Vl (n+1) a.natAbs hk [45] (by simp) h i g
  .rw [hL d,if_neg d]
   obtain⟨k,rfl⟩: ∃k:Nat,a=k:=⟨a.natAbs,by omega⟩
   simp only [Int.natAbs_natCast]at h i g hk |-;exact Vl (n+1) k hk [] (by simp) h i g
 .refine W.succ ((Vk a).mono fun n f=> ?_)
  rw [SJ,f];have e:(decide (-9000000000000<=a)&&decide (a<=9000000000000))=false:=by
   simp only [ć,decide_eq_false_iff_not];omega
  rw [e,lH,if_pos (by omega)]
  rfl
def tu (b d:Int) (f:O):O:=if b=1 then lH d else f
theorem aCS (b d:Int) (g:O):W fun n=>gj n b d g=some (tu b d g):=by
 refine W.succ ((aCQ d).mono fun n h=> ?_)
 rw [asZ,h,tu];by_cases f:b=1
 .subst f;rfl
 .have e:(b==(1:Int))=false:=by simpa using f
  rw [e,if_neg f];rfl
theorem aCT (b d:Int) (g:O):W fun n=>gS n b d g=some (tu b d g):=by
 refine W.succ ((aCR d).mono fun n h=> ?_)
 rw [ayC,h,tu];by_cases f:b=1
 .subst f;rfl
 .have e:(b==(1:Int))=false:=by simpa using f
  rw [e,if_neg f];rfl
theorem wu (x:Int):wrap .u64 x=x%18446744073709551616:=by rw [ĭ]
theorem CA (x:Nat) (h:x<18446744073709551616):(ô 64 (x:Int)).toNat=x:=by
 rw [BitVec.toNat_ofInt];omega
theorem tw (m k:Nat):((m/k:Nat):Int)=Ï (m:Int) (k:Int):=Int.ofNat_tdiv m k
theorem aCU (a b n:Int):(a-b%n)%n=(a-b)%n:=by simp
theorem aCV (x:Nat) (h:x<18446744073709551616):fI .and .u64 (x:Int) (4294967295:Int)=((x%4294967296:Nat):Int):=by
 show wrap .u64 (((ô 64 (x:Int) &&&ô 64 ((4294967295:Nat):Int)).toNat:Nat):Int)=_;rw [BitVec.toNat_and,CA x h,CA _ (by omega),show(4294967295:Nat)=2^32-1 from rfl,Nat.and_two_pow_sub_one_eq_mod,wu]
 omega
theorem aCW (a b:Nat) (d:a<1048576) (f:b<17592186044416):fI .or .u64 ((a*17592186044416:Nat):Int) (b:Int)=((a*17592186044416+b:Nat):Int):=by
 show wrap .u64 (((ô 64 ((a*17592186044416:Nat):Int) |||ô 64 (b:Int)).toNat:Nat):Int)=_
 rw [BitVec.toNat_or,CA _ (by omega),CA b (by omega)]
 have e:a*17592186044416=a <<<44:=by rw [Nat.shiftLeft_eq]
 rw [e,<-Nat.shiftLeft_add_eq_or_of_lt (by omega) a,<-e,wu]
 omega
theorem aCX (n m:Nat) (a b c d e f g q:Int) (i:0<=q/\q<4294967296):wO n (m+1) a b c d 0 e f g q=some (.inl (a,b,c,q,d,0,e,f)):=by
 have h: ¬wrap .u64 (wrap .u64 (4294967296*g)+e)<wrap .u64 (q*0):=by rw [ħ,wu,wu,wu];omega
 rw [azQ,hL (show ¬(4294967296:Int)<=q by omega),hL h]
 rfl
theorem aCY (n m:Nat) (a b c d e f g q:Int) (i:0<=q/\q<4294967296):wP n (m+1) a b c d e f g q 0=some (.inl (a,b,q,c,d,e)):=by
 have h: ¬wrap .u64 (wrap .u64 (4294967296*g)+c)<wrap .u64 (q*0):=by rw [ħ,wu,wu,wu];omega
 rw [azR,hL (show ¬(4294967296:Int)<=q by omega),hL h]
 rfl
theorem aCZ (n:Nat):Jf (n+2) 1000000=some 44:=by rw [azS];kernel_rfl
theorem aDa (N V Q R d f u x:Nat) (i:N*4096=u*4294967296+V) (j:4096000000*Q+R=u) (k:x=R*4294967296+V) (b:4096000000*d+f=x) (m:f<4096000000):Q*4294967296+d=N/1000000:=by
 obtain⟨T,g⟩: ∃T,T=Q*4294967296+d:=⟨_,rfl⟩
 have h:N*4096=T*4096000000+f:=by
  rw [i,<-j,g,ċ,Ĥ,<-k,<-b,ċ,õ 4096000000 Q,õ 4096000000 d,Ē,Ē,õ 4096000000 4294967296,Ĥ]
 rw [<-g];clear g i j k b;omega
theorem aDb (h l u v x:Nat) (hu:u=h*17592186044416+l/1048576) (i:v=l%1048576*17592186044416) (f:x=u%4096000000*4294967296+v/4294967296) (j:h<1000000) (k:l<18446744073709551616):
  wrap .u64 (wrap .u64 (((u/4096000000:Nat):Int)*4294967296)+((x/4096000000:Nat):Int))=(((h*18446744073709551616+l)/1000000:Nat):Int):=by
 have d:u/4096000000<4294967296:=by omega
 have b:x/4096000000<4294967296:=by omega
 have g:(h*18446744073709551616+l)*4096=u*4294967296+v/4294967296:=by omega
 rw [<-aDa _ _ _ _ _ _ u x g (ë u 4096000000) f (ë x 4096000000) (Ġ x (by omega))]
 generalize u/4096000000=Q at d |-
 generalize x/4096000000=m at b |-
 rw [wu,wu];omega
theorem nG:wrap .u64 (44:Int)=44:=by decide +kernel
theorem Vm:wrap .u64 ((64:Int)-44)=20:=by decide +kernel
theorem m44:(2:Int)^(min (Æ (44:Int)) (Ę .u64))=17592186044416:=by decide +kernel
theorem m20:(2:Int)^(min (Æ (20:Int)) (Ę .u64))=1048576:=by decide +kernel
theorem m32:(2:Int)^(min (Æ (32:Int)) (Ę .u64))=4294967296:=by decide +kernel
theorem wy:wrap .u64 ((1000000:Int)*17592186044416)=17592186044416000000:=by decide +kernel
theorem wy1:ġ (17592186044416000000:Int) 4294967296=4096000000:=by decide +kernel
theorem wy0:fI .and .u64 (17592186044416000000:Int) 4294967295=0:=by decide +kernel
theorem Vn:((4096000000:Int) !=0)=true:=by decide
theorem Vo (m k:Nat) (hk:0<k):ġ (m:Int) (k:Int)=((m/k:Nat):Int):=by rw [Int.fdiv_eq_ediv_of_nonneg _ (by omega)];exact(Int.natCast_ediv m k).symm
theorem aDf (h l:Nat) (b:h<1000000) (d:l<18446744073709551616):W fun n=> ∃r,Je n (h:Int) (l:Int) 1000000=some ((((h*18446744073709551616+l)/1000000:Nat):Int),r):=by
 refine W.succ ((W.ge 2).mono fun n z=> ?_)
 obtain⟨n,rfl⟩: ∃m,n=m+2:=⟨n-2,by omega⟩
 rw [azP];by_cases f:h=0
 .subst f
  refine⟨é (l:Int) 1000000, ?_⟩
  have e:wrap .u64 (Ï (l:Int) 1000000)=((l/1000000:Nat):Int):=by
   rw [show (Ï (l:Int) (1000000:Int))=((l/1000000:Nat):Int)from(tw l 1000000).symm,wu];omega
  rw [e,Nat.zero_mul,Ħ,show((1000000:Int)==(0:Int))=false from by decide,hL (by omega),show(((0:Nat):Int)==(0:Int))=true from by decide,show((1000000:Int) !=(0:Int))=true from by decide]
  rw [ez,ez,Y,Y,Y]
 .have g:((h:Int)==(0:Int))=false:=by simp;omega
  rw [show ((1000000:Int)==(0:Int))=false from by decide,hL (by omega),g,aCZ,ez,ez,ez,Z]
  rw [hJ (show (0:Int)<=wrap .u64 44 by rw [nG];omega),hJ (show (0:Int)<=wrap .u64 (64-wrap .u64 44) by rw [nG,Vm];omega),Y,Y,Y,Y]
  rw [nG,Vm,m44,m20,m32,wy,wy1,wy0,Vn,Y];obtain⟨u,hu⟩: ∃u:Nat,u=h*17592186044416+l/1048576:=⟨_,rfl⟩
  obtain⟨v,i⟩: ∃v:Nat,v=l%1048576*17592186044416:=⟨_,rfl⟩
  have j:wrap .u64 ((l:Int)*17592186044416)=(v:Int):=by rw [wu];omega
  have k:wrap .u64 ((h:Int)*17592186044416)=((h*17592186044416:Nat):Int):=by rw [wu];omega
  have p:ġ (l:Int) 1048576=((l/1048576:Nat):Int):=Vo l 1048576 (by omega)
  have q:ġ (v:Int) 4294967296=((v/4294967296:Nat):Int):=Vo v 4294967296 (by omega)
  rw [j,k,p,q,aCV v (by omega),aCW h _ (by omega) (by omega),<-hu]
  have q1:wrap .u64 (Ï (u:Int) 4096000000)=((u/4096000000:Nat):Int):=by
   rw [show (Ï (u:Int) (4096000000:Int))=((u/4096000000:Nat):Int)from(tw u 4096000000).symm,wu];omega
  rw [q1,aCX _ _ _ _ _ _ _ _ _ _ (by omega),Z,cR,Vn,Y]
  obtain⟨x,s⟩: ∃x:Nat,x=u%4096000000*4294967296+v/4294967296:=⟨_,rfl⟩
  have t:wrap .u64 (wrap .u64 (wrap .u64 ((u:Int)*4294967296)+((v/4294967296:Nat):Int))-wrap .u64 (((u/4096000000:Nat):Int)*17592186044416000000))=(x:Int):=by
   rw [wu,wu,wu,wu,Int.emod_add_emod,Int.emod_sub_emod,aCU,show((u:Int)*4294967296+((v/4294967296:Nat):Int)-((u/4096000000:Nat):Int)*17592186044416000000)=(x:Int) by omega]
   exact Int.emod_eq_of_lt (by omega) (by omega)
  rw [t];have q2:wrap .u64 (Ï (x:Int) 4096000000)=((x/4096000000:Nat):Int):=by
   rw [show (Ï (x:Int) (4096000000:Int))=((x/4096000000:Nat):Int)from(tw x 4096000000).symm,wu];omega
  rw [q2,aCY _ _ _ _ _ _ _ _ _ _ (by omega),Z,cR,hJ (by omega),Y,aDb h l u v x hu i s b d]
  exact⟨_,rfl⟩
theorem xp (x:Int):W fun n=>nx n x=some (mg x):=by
 refine(iO x).nm fun n e=> ?_
 rw [atH,e];by_cases h:aX x
 .rw [aA h,uU h];rfl
 .rw [ay h,uV h];rfl
theorem aDg (a b:Int):W fun n=>Hm n a b=some (fZ a b):=by
 refine(((iO a).and (iO b)).and (xp (a+b))).nm fun n ⟨⟨h,g⟩,i⟩=> ?_
 rw [atG,h];by_cases d:aX a
 .by_cases f:aX b
  .have hw:wrap .i64 (a+b)=a+b:=by have:=ee d;have:=ee f;rw [À];omega
   simp only [Z,g,aA d,aA f,hw,i,Â,ez,fZ,aA (ð d f),Y]
  .simp only [Z,g,aA d,ay f,fZ,ay (fun k:aX a/\aX b=>f k.2),Â,Ã,ez,Y]
 .simp only [Z,ay d,fZ,ay (fun k:aX a/\aX b=>d k.1),Ã,ez,Y]
theorem aDh (a b:Int):W fun n=>Hn n a b=some (jg a b):=by
 refine(((iO a).and (iO b)).and (xp (a-b))).nm fun n ⟨⟨h,g⟩,i⟩=> ?_
 rw [atJ,h];by_cases d:aX a
 .by_cases f:aX b
  .have hw:wrap .i64 (a-b)=a-b:=by have:=ee d;have:=ee f;rw [À];omega
   simp only [Z,g,aA d,aA f,hw,i,Â,ez,jg,aA (ð d f),Y]
  .simp only [Z,g,aA d,ay f,jg,ay (fun k:aX a/\aX b=>f k.2),Â,Ã,ez,Y]
 .simp only [Z,ay d,jg,ay (fun k:aX a/\aX b=>d k.1),Ã,ez,Y]
theorem Vp (a b:Int):W fun n=>Hp n a b=some (ib a b):=by
 refine(((iO a).and (iO b)).and (xp (Ï (a*1000000) b))).nm fun n ⟨⟨i,h⟩,j⟩=> ?_
 rw [atK,i];by_cases d:aX a
 .by_cases f:aX b
  .by_cases g:b=0
   .have z0:(b==(0:Int))=true:=by simpa using g
    simp only [Z,h,aA d,aA f,ib,ay (fun k:aX a/\aX b/\b≠0=>k.2.2 g),Â,ez,Y,z0]
   .have hw:wrap .i64 (a*1000000)=a*1000000:=by have:=ee d;rw [À];omega
    have m:wrap .i64 (Ï (a*1000000) b)=Ï (a*1000000) b:=by
     have q:=ee d;have r:=ú (a*1000000) b;rw [À];omega
    have p:(b==(0:Int))=false:=by simpa using g
    have z2:(b !=(0:Int))=true:=by simpa using g
    simp only [Z,h,aA d,aA f,hw,m,j,p,z2,Â,ez,ib,aA (ð d (ð f g)),Y]
  .simp only [Z,h,aA d,ay f,ib,ay (fun k:aX a/\aX b/\b≠0=>f k.2.1),Â,Ã,ez,Y]
 .simp only [Z,ay d,ib,ay (fun k:aX a/\aX b/\b≠0=>d k.1),Ã,ez,Y]
theorem KD (x:Int):W fun n=>qV n x=some (mg x):=by
 refine(iQ x).nm fun n e=> ?_
 rw [Sx,e];by_cases h:aX x
 .rw [aA h,uU h];rfl
 .rw [ay h,uV h];rfl
theorem Vq (a b:Int):W fun n=>Bq n a b=some (fZ a b):=by
 refine(((iQ a).and (iQ b)).and (KD (a+b))).nm fun n ⟨⟨h,g⟩,i⟩=> ?_
 rw [ayB,h];by_cases d:aX a
 .by_cases f:aX b
  .have hw:wrap .i64 (a+b)=a+b:=by have:=ee d;have:=ee f;rw [À];omega
   simp only [Z,g,aA d,aA f,hw,i,Â,ez,fZ,aA (ð d f),Y]
  .simp only [Z,g,aA d,ay f,fZ,ay (fun k:aX a/\aX b=>f k.2),Â,Ã,ez,Y]
 .simp only [Z,ay d,fZ,ay (fun k:aX a/\aX b=>d k.1),Ã,ez,Y]
theorem aDi (a b:Int):W fun n=>Jb n a b=some (jg a b):=by
 refine(((iQ a).and (iQ b)).and (KD (a-b))).nm fun n ⟨⟨h,g⟩,i⟩=> ?_
 rw [azN,h];by_cases d:aX a
 .by_cases f:aX b
  .have hw:wrap .i64 (a-b)=a-b:=by have:=ee d;have:=ee f;rw [À];omega
   simp only [Z,g,aA d,aA f,hw,i,Â,ez,jg,aA (ð d f),Y]
  .simp only [Z,g,aA d,ay f,jg,ay (fun k:aX a/\aX b=>f k.2),Â,Ã,ez,Y]
 .simp only [Z,ay d,jg,ay (fun k:aX a/\aX b=>d k.1),Ã,ez,Y]
theorem aDj (a b:Int):W fun n=>Jg n a b=some (ib a b):=by
 refine(((iQ a).and (iQ b)).and (KD (Ï (a*1000000) b))).nm fun n ⟨⟨i,h⟩,j⟩=> ?_
 rw [azT,i];by_cases d:aX a
 .by_cases f:aX b
  .by_cases g:b=0
   .have z0:(b==(0:Int))=true:=by simpa using g
    simp only [Z,h,aA d,aA f,ib,ay (fun k:aX a/\aX b/\b≠0=>k.2.2 g),Â,ez,Y,z0]
   .have hw:wrap .i64 (a*1000000)=a*1000000:=by have:=ee d;rw [À];omega
    have m:wrap .i64 (Ï (a*1000000) b)=Ï (a*1000000) b:=by
     have q:=ee d;have r:=ú (a*1000000) b;rw [À];omega
    have p:(b==(0:Int))=false:=by simpa using g
    have z2:(b !=(0:Int))=true:=by simpa using g
    simp only [Z,h,aA d,aA f,hw,m,j,p,z2,Â,ez,ib,aA (ð d (ð f g)),Y]
  .simp only [Z,h,aA d,ay f,ib,ay (fun k:aX a/\aX b/\b≠0=>f k.2.1),Â,Ã,ez,Y]
 .simp only [Z,ay d,ib,ay (fun k:aX a/\aX b/\b≠0=>d k.1),Ã,ez,Y]
theorem aDk {a:Int} (h:aX a):W fun n=>HF n a=some (jh a):=by
 refine(W.ge 0).nm fun n _=> ?_
 have d:=ee h;have f:=ï a 1000000;have g:=yG a;have b:wrap .i64 (Ï a 1000000)=Ï a 1000000:=by rw [À];omega
 have hw:wrap .i64 (Ï a 1000000*1000000)=jh a:=by rw [À];unfold jh;omega
 rw [auO,b,hw]
theorem Vr {a:Int} (h:aX a):W fun n=>Bt n a=some (jh a):=by
 refine(W.ge 0).nm fun n _=> ?_
 have b:=ee h;have d:=yG a;have hw:wrap .i64 (a-é a 1000000)=jh a:=by rw [À];unfold jh;omega
 rw [ayO,hw]
def aH (v:V):O:=tu v.1 v.2.1 v.2.2
theorem aDl (a:Int):(lH a).length<=60:=by
 have key: ∀k:Nat,k<=9000000000000->(lG k).length<=59:=by
  intro k hk;have d:=Cy (k:=k/1000000) (by omega)
  have f:=Cy (k:=1000000+k%1000000) (by omega)
  have b:=KB ((Ò (1000000+k%1000000)).drop 1);unfold lG;split
  .omega
  .simp only [Ê,Á,Ë,Ĝ]at b |-
   omega
 unfold lH;split
 .simp
 split
 .have:=key a.natAbs (by omega);simp only [Á];omega
 .have:=key a.natAbs (by omega);omega
theorem kJ {v:V} (h:bM v):(aH v).length<=300:=by
 unfold aH tu;split
 .have:=aDl v.2.1;omega
 .exact h.2.1
def dm (v:V):O:=(aH v).take 300
theorem KE: ∀a b:O,Í a b=0↔a=b
 | [],[]=>by simp [Í]
 | [],_::_=>by simp [Í]
 |_::_,[]=>by simp [Í]
 |a::x,b::y=>by
  rw [Í];by_cases h:a<b
  .simp [h];rintro rfl;exact absurd h (Ğ _)
  .rw [if_neg h]
   by_cases k:b<a
   .simp [k];rintro rfl;exact absurd k (Ğ _)
   .rw [if_neg k,KE x y]
    have:a=b:=Ė (Ă.1 k) (Ă.1 h);simp [this]
noncomputable def fS (a b:V):Int:=if a.1=2\/b.1=2 then Í (aH a) (aH b)else if aJ a<aJ b then -1 else if aJ b<aJ a then 1 else 0
theorem KF (b:Bool):W fun n=>sL n b=some (cond b 1 0):=W.succ (W.of fun n=>by rw [auN];cases b<;>rfl)
theorem jR (x:Int):W fun n=>gk n x=some (nV x):=W.succ (W.of fun n=>atI n x)
theorem mJ (x:Int):W fun n=>iM n x=some (nV x):=W.succ (W.of fun n=>SI n x)
theorem rk (s:O):W fun n=>nF n s=some (tV s):=W.succ (W.of fun n=>ayM n s)
theorem CB (b:Bool):W fun n=>sK n b=some (bV b):=by
 refine((KF b).and (jR (cond b 1000000 0))).nm fun n ⟨d,f⟩=> ?_
 rw [auM,d];have hw:ā .i64 ((1000000:Int)*cond b 1 0)=cond b 1000000 0:=by cases b<;>decide
 simp only [Z,hw,f];rfl
theorem xq (b:Bool):W fun n=>qZ n b=some (bV b):=by
 refine((mJ 1000000).and (mJ 0)).nm fun n ⟨d,f⟩=> ?_
 rw [azK,d,f];cases b<;>rfl
theorem jr {v:V} (h:v.2.2.length<=300):W fun n=>gQ n v.1 v.2.1 v.2.2=some (aJ v):=by
 refine(UA v.2.2 h).nm fun n e=> ?_
 rw [atF,e];unfold aJ;cases v.1==1<;>cases v.1==3<;>cases v.1==2<;>rfl
theorem iS (v:V):W fun n=>gj n v.1 v.2.1 v.2.2=some (aH v):=aCS v.1 v.2.1 v.2.2
theorem KG (v:V):W fun n=>vR n v.1 v.2.1 v.2.2=some (gO v):=W.succ (W.of fun n=>by
 rw [asX];unfold gO;cases v.1==1<;>cases v.1==3<;>cases v.1==2<;>rfl)
theorem nJ {v:V} (h:v.2.2.length<=300):W fun n=>ln n v.1 v.2.1 v.2.2=some (aJ v):=by
 refine(Uy v.2.2 h).nm fun n e=> ?_
 rw [ayA,e];unfold aJ;cases v.1==1<;>cases v.1==3<;>cases v.1==2<;>rfl
theorem mK (v:V):W fun n=>gS n v.1 v.2.1 v.2.2=some (aH v):=aCT v.1 v.2.1 v.2.2
theorem KH (v:V):W fun n=>wH n v.1 v.2.1 v.2.2=some (gO v):=W.succ (W.of fun n=>by
 rw [axX];unfold gO;cases v.1==1<;>cases v.1==3<;>cases v.1==2<;>rfl)
theorem aDm (s:O):s.take (300-0)=s.take 300:=rfl
theorem KI (s:O):W fun n=>vY n s=some (nn s):=by
 refine(UD (s.take 300) (by simp;omega)).nm fun n e=> ?_
 rw [atP,nn];by_cases h:300<s.length
 .rw [hJ (by omega),hJ (by omega),aDm,e]
  simp only [Y,Z];cases (fA (s.take 300)).2<;>rfl
 .have b:s.take 300=s:=Ù (by omega)
  rw [b]at e |-;rw [hL (by omega),e]
  simp only [ez,Z];cases (fA s).2<;>rfl
theorem aDn (s:O):(cond (decide ((300:Int)<(s.length:Int))) (300:Int) (s.length:Int))=((min 300 s.length:Nat):Int):=by
 by_cases h:300<s.length
 .rw [hJ (by omega)];simp only [Y];omega
 .rw [hL (by omega)];simp only [ez];omega
theorem Vs (s:O):W fun n=>ph n s=some (s.take 300):=W.succ (W.of fun n=>by
 rw [ayE,aDn,hJ (by omega)]
 simp only [Y,Ì,Ā];congr 1
 rw [List.take_eq_take_iff];omega)
theorem KJ (s:O):W fun n=>wL n s=some (nn s):=by
 refine(((Vs s).and (UC (s.take 300) (by simp;omega))).and (rk (s.take 300))).nm fun n ⟨⟨b,d⟩,f⟩=> ?_
 rw [ayP,b];simp only [Z,d,f,nn];cases (fA (s.take 300)).2<;>rfl
theorem CC (v:V):W fun n=>sF n v.1 v.2.1 v.2.2=some (dm v):=by
 refine(iS v).nm fun n e=> ?_
 rw [atL,e];simp only [Z,dm];by_cases h:300<(aH v).length
 .rw [hJ (by omega),hJ (by omega)];rfl
 .rw [hL (by omega),Ù (by omega)];rfl
theorem aDo {a b:V} (p:bM a) (q:bM b):W fun n=>HJ n a.1 a.2.1 a.2.2 b.1 b.2.1 b.2.2=some (fS a b):=by
 refine(((((iS a).and (iS b)).and (jr p.2.1)).and (jr q.2.1)).and ((KF (decide (aJ b<aJ a))).and (KF (!(Ö (aH a) (aH b)||aH a==aH b))))).nm fun n ⟨⟨⟨⟨r,s⟩,t⟩,u⟩,e5,e6⟩=> ?_
 rw [auU,r];simp only [Z,s];have hB:=EB (aH a) (aH b);have j:=Cu (aH a) (aH b);have m:=KE (aH a) (aH b);have f:(cond (Ö (aH a) (aH b)) (some (-1:Int)) ((sL n (!(Ö (aH a) (aH b)||aH a==aH b))).bind fun y=>some y))=some (Í (aH a) (aH b)):=by
  rw [e6];cases d:Ö (aH a) (aH b)
  .have h1: ¬Í (aH a) (aH b)<0:=by rw [j,d];simp
   by_cases he:aH a=aH b
   .have:Í (aH a) (aH b)=0:=m.2 he
    simp [he]
    rw [he]at this;exact this.symm
   .have g:Í (aH a) (aH b)≠0:=fun k=>he (m.1 k)
    have:Í (aH a) (aH b)=1:=by omega
    have z:(aH a==aH b)=false:=by simpa using he
    simp [z,this]
  .have h1:=j.2 d
   have:Í (aH a) (aH b)= -1:=by omega
   simp [this]
 unfold fS;by_cases g:a.1=2
 .have z:(a.1 !=(2:Int))=false:=by simpa using g
  rw [z,if_pos (.inl g),<-f];rfl
 .have z:(a.1 !=(2:Int))=true:=by simpa using g
  rw [z];by_cases i:b.1=2
  .have z:(b.1 !=(2:Int))=false:=by simpa using i
   rw [z,if_pos (.inr i),<-f];rfl
  .have z:(b.1 !=(2:Int))=true:=by simpa using i
   rw [z,if_neg (by rintro(k|k)<;>contradiction)]
   simp only [Y,Z,t,u,e5];by_cases d:aJ a<aJ b
   .rw [if_pos d,hJ d];rfl
   .rw [if_neg d,hL d]
    by_cases h:aJ b<aJ a
    .rw [if_pos h,hJ h];rfl
    .rw [if_neg h,hL h];rfl
theorem aDp {a b:V} (i:bM a) (j:bM b):W fun n=>Jh n a.1 a.2.1 a.2.2 b.1 b.2.1 b.2.2=some (fS a b):=by
 refine(((((mK a).and (mK b)).and (nJ i.2.1)).and (nJ j.2.1)).and (W.ge 1)).nm fun n ⟨⟨⟨⟨p,q⟩,r⟩,s⟩,t⟩=> ?_
 obtain⟨n,rfl⟩: ∃m,n=m+1:=⟨n-1,by omega⟩
 rw [azU,p,r];simp only [Z,q,s,Kv];unfold fS;by_cases g:a.1=2
 .have z:(a.1==(2:Int))=true:=by simpa using g
  rw [z,if_pos (.inl g)];rfl
 .have z:(a.1==(2:Int))=false:=by simpa using g
  rw [z];by_cases h:b.1=2
  .have z:(b.1==(2:Int))=true:=by simpa using h
   rw [z,if_pos (.inr h)];rfl
  .have z:(b.1==(2:Int))=false:=by simpa using h
   rw [z,if_neg (by rintro(k|k)<;>contradiction)]
   simp only [ez,Z];by_cases d:aJ a<aJ b
   .rw [if_pos d,hJ d];rfl
   .rw [if_neg d,hL d]
    by_cases f:aJ b<aJ a
    .rw [if_pos f,hJ f];rfl
    .rw [if_neg f,hL f];rfl
theorem CD {α f:Type} {l:List α} (t:l.length<=1048576) {p:α->Bool} {r:Int->f} {b:f} {L:Nat->Nat->Int->Option f}
  (g:W fun n=> ∀m (i:Nat),(h:i<l.length)->L n (m+1) (i:Int)=cond (p l[i]) (some (r i)) (L n m (wrap .i64 ((i:Int)+(1:Int)))))
  (he: ∀n m,L n (m+1) (l.length:Int)=some b):W fun n=>L n n 0=some (match l.findIdx? p with|some i=>r i|none=>b):=by
 have:=jI (len:=l.length) (L:=fun n m i (_:Unit)=>L n m (i:Int)) (fun i _=> ∀j (hj:j<l.length),j<i->p l[j]=false) (fun x=>x=match l.findIdx? p with|some i=>r i|none=>b) ?_ ?_
 .exact this.mono fun n h=>by
   obtain⟨x,k,q⟩:=h () (fun j _ hj=>absurd hj (Nat.not_lt_zero _))
   rw [<-q];exact k
 .refine g.mono fun n h m i _ hi hinv=> ?_
  have h:=h m i hi;cases d:p l[i]with
  |true=>
   left
   rw [d]at h;have e:l.findIdx? p=some i:=by
    rw [à]
    exact⟨hi,d,fun j hj=>by rw [hinv j (by omega) hj];simp⟩
   exact⟨_,h,by rw [e]⟩
  |false=>
   right
   rw [d]at h;refine⟨(),by rw [<-dq hi (by omega)];exact h,fun j hj s=> ?_⟩
   by_cases e:j=i
   .subst e;exact d
   .exact hinv j hj (by omega)
 .refine W.of fun n m _ hinv=>⟨_,he n m, ?_⟩
  have e:l.findIdx? p=none:=by
   rw [û]
   intro x g;obtain⟨j,hj,rfl⟩:=List.mem_iff_getElem.1 g;exact hinv j hj hj
  rw [e]
def nK (nm:Int) (key:O) (c:VC):Bool:=cond (c.1==nm) (c.2.1==key) false
def fE (cs:List VC) (nm:Int) (key:O):Option Nat:=cs.findIdx? (nK nm key)
def xr:Option Nat->Int
 |some i=>i
 |none=> -1
def fF (cs:List VC) (nm:Int) (key:O):V:=match fE cs nm key with
 |some i=>match cs[i]? with|some c=>c.2.2|none=>v0
 |none=>v0
def nL (cs:List VC) (nm:Int) (key:O):List VC:=match fE cs nm key with
 |some i=>cs.take i++cs.drop (i+1)
 |none=>cs
noncomputable def gn (cs:List VC) (nm:Int) (key:O):Nat:=match cs.findIdx? (fun c=>bo (¬dY c.1 c.2.1 nm key))with|some i=>i|none=>cs.length
noncomputable def lI (cs:List VC) (nm:Int) (key:O) (v:V):Option (List VC):=match fE cs nm key with
 |some i=>match cs[i]? with|some c=>some (cs.set i (c.1,c.2.1,v))|none=>none
 |none=>if 40<=cs.length then none else some (cs.take (gn cs nm key)++((nm,key,v)::cs.drop (gn cs nm key)))
theorem pE {cs:List VC} {nm:Int} {key:O} {i:Nat} (h:fE cs nm key=some i):i<cs.length/\ ∀h:i<cs.length,cs[i].1=nm/\cs[i].2.1=key:=by
 unfold fE at h;obtain⟨d,b, -⟩:=à.1 h
 refine⟨d,fun _=> ?_⟩
 unfold nK at b;cases e:cs[i].1==nm with
 |true=>rw [e]at b;exact⟨by simpa using e,by simpa using b⟩
 |false=>rw [e]at b;cases b
theorem KK (cs:List VC) (nm:Int) (key:O):gn cs nm key<=cs.length:=by
 unfold gn;split
 .rename_i i h
  obtain⟨b, -, -⟩:=à.1 h
  omega
 .exact Î _
theorem KL (vs:ae) (cs:ai) (nr er nm:Int) (key:O) (d:cs.length<=1048576):W fun n=>ny n vs cs nr er nm key=some (xr (fE cs nm key)):=by
 have k:=CD d (p:=nK nm key) (r:=Sum.inr) (b:=.inl ()) (L:=fun n m i=>sG n m vs cs nr er i key nm) (W.of fun n m i hi=>by
  rw [RH,bk hi,aU hi];simp only [Y,Z,nK];cases cs[i].1==nm<;>cases cs[i].2.1==key<;>rfl) (fun n m=>by rw [RH,ca];rfl)
 refine k.nm fun n e=> ?_
 rw [atO,show sG n n vs cs nr er 0 key nm=_ from e];unfold fE;cases cs.findIdx? (nK nm key)<;>rfl
theorem KM (vs:ae) (cs:ai) (nr er nm:Int) (key:O) (d:cs.length<=1048576):W fun n=>nE n vs cs nr er nm key=some (xr (fE cs nm key)):=by
 have k:=CD d (p:=nK nm key) (r:=fun i=>.inr (i,nm,key)) (b:=.inl (nm,key)) (L:=fun n m i=>wI n m nm key i cs cs.length) ((W.ge 1).mono fun n f m i hi=>by
  obtain⟨n,rfl⟩: ∃k,n=k+1:=⟨n-1,by omega⟩
  rw [SL,bk hi,aU hi];simp only [Y,Z,ayH,nK];cases cs[i].1==nm<;>cases cs[i].2.1==key<;>rfl) (fun n m=>by rw [SL,ca];rfl)
 refine(k.nm (q:=fun n=>IF n nm key cs=some (xr (fE cs nm key),nm,key)) fun n e=> ?_).nm fun n e=> ?_
 .rw [ayG,show wI n n nm key 0 cs cs.length=_ from e]
  unfold fE;cases cs.findIdx? (nK nm key)<;>rfl
 .rw [ayF,e];rfl
theorem Vt (vs:ae) (cs:ai) (nr er nm:Int) (key:O) (b:cs.length<=1048576):W fun n=>Aj n vs cs nr er nm key=some (fF cs nm key):=by
 refine(KL vs cs nr er nm key b).nm fun n e=> ?_
 rw [atM,e];unfold fF;cases h:fE cs nm key with
 |none=>rfl
 |some i=>
  have hi:=(pE h).1;simp only [xr,Z];rw [hL (by omega),aU hi,Ô hi];rfl
theorem Vu (vs:ae) (cs:ai) (nr er nm:Int) (key:O) (b:cs.length<=1048576):W fun n=>Bs n vs cs nr er nm key=some (fF cs nm key):=by
 refine(KM vs cs nr er nm key b).nm fun n e=> ?_
 rw [ayK,e];unfold fF;cases h:fE cs nm key with
 |none=>rfl
 |some i=>
  have hi:=(pE h).1;simp only [xr,Z];rw [hL (by omega),aU hi,Ô hi];rfl
theorem bS {k:Nat} (h:k<=4000000):á k aC=true:=Ó (by unfold aC;omega)
theorem rm (vs:ae) (cs:ai) (nr er:Int) (b:vs.length<=1048576) (d:cs.length<=1048576):W fun n=>oZ n vs cs nr er=some (vs,cs,nr,er):=W.succ (W.of fun n=>by
 rw [asU,bS (by omega),bS (by omega)];rfl)
theorem Vv (n:Nat) (vs:ae):Bm (n+1) vs=cond (á (Þ vs) aC) (some vs) none:=by kernel_rfl
theorem aDq (n:Nat) (cs:ai):Qm (n+1) cs=cond (á (Þ cs) aC) (some cs) none:=by kernel_rfl
theorem aDr (n:Nat) (cs:ai) (i j:Int):Qo (n+1) cs i j=cond (decide (0<=i/\i<=j/\j<=(Þ cs:Int))) (some (cs.take i.toNat++cs.drop j.toNat)) none:=by kernel_rfl
theorem aDs (n:Nat) (cs:ai) (i:Int) (v:ai):Br (n+1) cs i v=cond (decide (0<=i/\i<=(Þ cs:Int))&&á (Þ cs+Þ v) aC) (some (cs.take i.toNat++(v++cs.drop i.toNat))) none:=by kernel_rfl
theorem tx (vs:ae) (cs:ai) (nr er:Int) (b:vs.length<=1048576) (d:cs.length<=1048576):W fun n=>nC n vs cs nr er=some (vs,cs,nr,er):=by
 refine(W.ge 1).nm fun n f=> ?_
 obtain⟨n,rfl⟩: ∃k,n=k+1:=⟨n-1,by omega⟩
 rw [axS,Vv,bS (by omega)]
 simp only [Y,Z,aDq];rw [bS (by omega)];rfl
theorem jS {i:Nat} (h:i<=1048576):wrap .i64 ((i:Int)+1)=((i+1:Nat):Int):=by rw [À];omega
theorem CE {α:Type} (l:List α) (k:Nat):(l.drop k).take (l.length-k)=l.drop k:=Ù (by simp)
theorem aDt (vs:ae) (cs:ai) (nr er nm:Int) (key:O) (j:vs.length<=1048576) (d:cs.length<=1048576):W fun n=>Hr n vs cs nr er nm key=some (vs,nL cs nm key,nr,er):=by
 refine((rm vs cs nr er j d).and (KL vs cs nr er nm key d)).nm fun n ⟨f,g⟩=> ?_
 cases h:fE cs nm key with
 |none=>
  have b:ny n vs cs nr er nm key=some (-1:Int):=by rw [g,h];rfl
  rw [RM,f];simp only [Z,b];rw [hL (by omega),nL,h];rfl
 |some i=>
  have b:ny n vs cs nr er nm key=some (i:Int):=by rw [g,h];rfl
  rw [RM,f];simp only [Z,b];have hi:=(pE h).1;have k:wrap .i64 ((i:Int)+1)=((i+1:Nat):Int):=jS (by omega)
  simp only [k];rw [hJ (by omega),hJ (by omega),hJ (by omega)]
  simp only [Y,Ì,Ā,ã,CE,nL,h];rw [bS (by simp;omega),bS (by simp;omega)];rfl
theorem aDu (vs:ae) (cs:ai) (nr er nm:Int) (key:O) (j:vs.length<=1048576) (d:cs.length<=1048576):W fun n=>II n vs cs nr er nm key=some (vs,nL cs nm key,nr,er):=by
 refine(((tx vs cs nr er j d).and (KM vs cs nr er nm key d)).and (W.ge 1)).nm fun n ⟨⟨f,g⟩,p⟩=> ?_
 obtain⟨n,rfl⟩: ∃k,n=k+1:=⟨n-1,by omega⟩
 cases h:fE cs nm key with
 |none=>
  have b:nE (n+1) vs cs nr er nm key=some (-1:Int):=by rw [g,h];rfl
  rw [SN,f];simp only [Z,b];rw [hL (by omega),nL,h];rfl
 |some i=>
  have b:nE (n+1) vs cs nr er nm key=some (i:Int):=by rw [g,h];rfl
  rw [SN,f];simp only [Z,b];have hi:=(pE h).1;have m:wrap .i64 ((i:Int)+1)=((i+1:Nat):Int):=jS (by omega)
  simp only [m];rw [hJ (by omega),aDr,hJ (by omega)]
  simp only [Y,Ì,Z];rw [nL,h]
theorem aDv (a:Int) (s:O) (p q:Int) (r:O) (b:Int) (t:O) (d f:Int) (g:O):W fun n=> ∃v,wG n a s p q r b t d f g=some v/\(0<v↔ ¬dY a s b t/\ ¬(a=b/\s=t)):=by
 refine W.succ (W.succ (W.of fun n=> ?_))
 rw [SA,Kv];unfold dY;have i:=Cu s t;have j:=KE s t;by_cases h:a<b
 .rw [hJ h]
  exact⟨-1,rfl,by simp [h]⟩
 .rw [hL h]
  by_cases k:b<a
  .rw [hJ k]
   exact⟨1,rfl,by simp [h];omega⟩
  .rw [hL k]
   obtain rfl:a=b:=by omega
   refine⟨_,rfl, ?_⟩
   rw [<-i,<-j];omega
theorem Vw (_:ae) (cs:ai) (_ _ nm:Int) (key:O) (v:V) {i:Nat} (h:fE cs nm key=some i): ∃c,cs[i]? =some c/\lI cs nm key v=some (cs.set i (c.1,c.2.1,v)):=by
 have hi:=(pE h).1;refine⟨cs[i],Ô hi, ?_⟩
 unfold lI;rw [h];simp only [Ô hi]
def mL (vs:ae) (cs:ai) (nr er:Int) (o:Option (List VC)):ae×(ai×Int×Int×Bool):=match o with
 |some l=>(vs,l,nr,er,true)
 |none=>(vs,cs,nr,er,false)
theorem aDw (cs:List VC) (nm:Int) (key:O) {b:Type} (r:Int->b):(match cs.findIdx? (fun c=>bo (¬dY c.1 c.2.1 nm key))with|some i=>r i|none=>r cs.length)=r (gn cs nm key):=by
 unfold gn;cases cs.findIdx? (fun c=>bo (¬dY c.1 c.2.1 nm key))<;>rfl
theorem Vx (vs:ae) (cs:ai) (nr er nm:Int) (key:O) (v:V) (s:vs.length<=1048576) (g:cs.length<=1048576):W fun n=>Hq n vs cs nr er nm key v.1 v.2.1 v.2.2=some (mL vs cs nr er (lI cs nm key v)):=by
 have k:=CD g (p:=fun c=>bo (¬dY c.1 c.2.1 nm key)) (r:=fun i=>Sum.inl (0,0,vs,cs,nr,er,vs,cs,nr,er,v.1,v.2.1,v.2.2,i,key,nm)) (b:=Sum.inl (0,0,vs,cs,nr,er,vs,cs,nr,er,v.1,v.2.1,v.2.2,(cs.length:Int),key,nm)) (L:=fun n m i=>vX n m 0 0 vs cs nr er vs cs nr er v.1 v.2.1 v.2.2 i key nm) ((W.all cs fun c _=>UP c.1 c.2.1 c.2.2.1 c.2.2.2.1 c.2.2.2.2 nm key).mono fun n h m i hi=>by
  rw [RL,bk hi,aU hi];simp only [Y,Z,h _ (Å hi)];exact eF (by simp)) (fun n m=>by rw [RL,ca];rfl)
 refine(((rm vs cs nr er s g).and (KL vs cs nr er nm key g)).and k).nm fun n ⟨⟨j,q⟩,t⟩=> ?_
 cases h:fE cs nm key with
 |some i=>
  have d:ny n vs cs nr er nm key=some (i:Int):=by rw [q,h];rfl
  rw [RJ,j];simp only [Z,d];have hi:=(pE h).1;obtain⟨c,u,hp⟩:=Vw vs cs nr er nm key v h;rw [hJ (by omega),hJ (by omega),hp]
  simp only [Y,aN,nth,Ì,u,Z,mL]
 |none=>
  have d:ny n vs cs nr er nm key=some (-1:Int):=by rw [q,h];rfl
  rw [RJ,j];simp only [Z,d];rw [hL (by omega)]
  unfold lI;rw [h];simp only [ez];by_cases f:40<=cs.length
  .rw [hJ (by omega),if_pos f];rfl
  .rw [hL (by omega),if_neg f,show vX n n 0 0 vs cs nr er vs cs nr er v.1 v.2.1 v.2.2 0 key nm=_ from t,aDw cs nm key fun i=>Sum.inl (0,0,vs,cs,nr,er,vs,cs,nr,er,v.1,v.2.1,v.2.2,i,key,nm)]
   have z:=KK cs nm key;simp only [ez,Z,aw];rw [hJ (by omega)]
   simp only [Y,Ì,Ā,ã,CE];rw [bS (by simp;omega),bS (by simp;omega),bS (by simp;omega)]
   simp only [Y,mL,î,ĝ,ê]
theorem aDx {α:Type} (l:List α) (p q:α->Bool) (h: ∀x∈l,p x=q x):l.findIdx? p=l.findIdx? q:=by
 induction l with
 |nil=>rfl
 |cons a l ih=>rw [Ĕ,Ĕ,h a (by simp),ih fun x b=>h x (by simp [b])]
theorem Vy {cs:List VC} {nm:Int} {key:O} (h:fE cs nm key=none): ∀c∈cs,¬(c.1=nm/\c.2.1=key):=by
 unfold fE at h;rw [û]at h
 rintro c b ⟨d,f⟩
 have:=h c b;simp [nK,d,f]at this
theorem Vz (vs:ae) (cs:ai) (nr er nm:Int) (key:O) (v:V) (z:vs.length<=1048576) (q:cs.length<=1048576):W fun n=>IE n vs cs nr er nm key v.1 v.2.1 v.2.2=some (mL vs cs nr er (lI cs nm key v)):=by
 have hq: ∀c:VC,W fun n=>IH n nm key v.1 v.2.1 v.2.2 c.1 c.2.1 c.2.2.1 c.2.2.2.1 c.2.2.2.2=some (bo (¬dY c.1 c.2.1 nm key/\ ¬(c.1=nm/\c.2.1=key)),nm,key,v.1,v.2.1,v.2.2):=fun c=>by
  refine(aDv c.1 c.2.1 c.2.2.1 c.2.2.2.1 c.2.2.2.2 nm key v.1 v.2.1 v.2.2).nm fun n ⟨x,e,hx⟩=> ?_
  rw [ayJ,e];simp only [Z,bU];rw [propext hx]
 have k:=CD q (p:=fun c=>bo (¬dY c.1 c.2.1 nm key/\ ¬(c.1=nm/\c.2.1=key))) (r:=fun i=>Sum.inr (i,nm,key,v.1,v.2.1,v.2.2)) (b:=Sum.inl (nm,key,v.1,v.2.1,v.2.2)) (L:=fun n m i=>wJ n m nm key v.1 v.2.1 v.2.2 i cs cs.length) ((W.all cs fun c _=>hq c).mono fun n h m i hi=>by
  rw [SM,bk hi,aU hi];simp only [Y,Z,h _ (Å hi)]) (fun n m=>by rw [SM,ca];rfl)
 have k2:W fun n=>IG n nm key v.1 v.2.1 v.2.2 cs=some (match cs.findIdx? (fun c=>bo (¬dY c.1 c.2.1 nm key/\ ¬(c.1=nm/\c.2.1=key)))with|some i=>((i:Int),nm,key,v.1,v.2.1,v.2.2)|none=>((-1:Int),nm,key,v.1,v.2.1,v.2.2)):=k.nm fun n e=>by
  rw [ayI,show wJ n n nm key v.1 v.2.1 v.2.2 0 cs cs.length=_ from e];cases cs.findIdx? (fun c=>bo (¬dY c.1 c.2.1 nm key/\ ¬(c.1=nm/\c.2.1=key)))<;>rfl
 refine((((tx vs cs nr er z q).and (KM vs cs nr er nm key q)).and k2).and (W.ge 1)).nm fun n ⟨⟨⟨t,u⟩,e3⟩,hn⟩=> ?_
 obtain⟨n,rfl⟩: ∃k,n=k+1:=⟨n-1,by omega⟩
 cases h:fE cs nm key with
 |some i=>
  have d:nE (n+1) vs cs nr er nm key=some (i:Int):=by rw [u,h];rfl
  rw [SK,t];simp only [Z,d];have hi:=(pE h).1;obtain⟨c,s,hp⟩:=Vw vs cs nr er nm key v h;rw [hJ (by omega),hJ (by omega),hp]
  simp only [Y,aN,nth,Ì,s,Z,mL]
 |none=>
  have d:nE (n+1) vs cs nr er nm key=some (-1:Int):=by rw [u,h];rfl
  rw [SK,t];simp only [Z,d];rw [hL (by omega)]
  unfold lI;rw [h];simp only [ez];by_cases g:40<=cs.length
  .rw [hJ (by omega),if_pos g];rfl
  .rw [hL (by omega),if_neg g,e3,aDx cs _ (fun c=>bo (¬dY c.1 c.2.1 nm key)) fun c s=>kY ⟨fun k=>k.1,fun k=>⟨k,Vy h c s⟩⟩]
   simp only [ez,Z];have f:=KK cs nm key;have fin: ∀j:Nat,j<=cs.length->((Br (n+1) cs (j:Int) [(nm,key,v.1,v.2.1,v.2.2)]).bind fun y=>some (vs,y,nr,er,true))=some (mL vs cs nr er (some (cs.take j++((nm,key,v)::cs.drop j)))):=fun j hj=>by
    rw [aDs,hJ (by omega),bS (by simp;omega)]
    rfl
   unfold gn at f |-;revert f
   cases cs.findIdx? (fun c=>bo (¬dY c.1 c.2.1 nm key))with
   |none=>
    intro f;simp only;rw [hJ (by omega)]
    exact fin cs.length f
   |some j=>
    intro f;simp only;rw [hL (by omega)]
    exact fin j f
theorem aDy {line:O} {i:Nat} (h:i<line.length) (cur:O):aQ cur (line.drop i)=cond (line[i]==32) (cond (ă cur) (aQ [] (line.drop (i+1))) (cur::aQ [] (line.drop (i+1)))) (aQ (cur++[line[i]]) (line.drop (i+1))):=by
 rw [Ä h,aQ]
theorem aDz {line:O} {i f:Nat} (h:i<line.length) (b:f<=i):(line.drop f).take (i-f)++[line[i]]=(line.drop f).take (i+1-f):=by
 rw [show i+1-f=(i-f)+1 by omega,yu (l:=line.drop f) (i:=i-f) (by simp;omega)]
 congr 2
 simp only [ü];congr 1;omega
theorem VA {line:O} {i f:Nat} (h:i<=line.length) (d:f<=i):ă ((line.drop f).take (i-f))=decide (f=i):=by
 by_cases e:f=i
 .subst e;simp
 .have:0<((line.drop f).take (i-f)).length:=by simp;omega
  cases b:(line.drop f).take (i-f)with
  |nil=>rw [b]at this;simp at this
  |cons _ _=>simp [e]
theorem VB (line:O) (hl:line.length<=1000000):W fun n=>HN n line=some (aQ [] line):=by
 have:=jI (len:=line.length+1) (L:=fun n m i (s:Nat×af)=>gR n m (i:Int) (s.1:Int) line s.2)
  (fun i s=>s.2.length<=i/\((i<=line.length/\s.1<=i/\s.2++aQ ((line.drop s.1).take (i-s.1)) (line.drop i)=aQ [] line)\/(i=line.length+1/\s.2=aQ [] line)))
  (fun x=>x=.inl (aQ [] line)) ?_ ?_
 .refine(this.mono fun n h=> ?_).nm (p:=fun n=>gR n n 0 0 line []=some (.inl (aQ [] line))) fun n e=> ?_
  .obtain⟨x,r,t⟩:=h (0,[]) ⟨by simp,.inl ⟨by omega,by simp,by simp⟩⟩
   rw [<-t];exact r
  .rw [auX,e];rfl
 .refine W.of fun n m i ⟨f,l⟩ hi hinv=> ?_
  right
  obtain⟨hlen,hinv⟩:=hinv;obtain⟨r,t,h3⟩:=hinv.resolve_right (by rintro⟨h, -⟩;omega)
  have hw:wrap .i64 ((i:Int)+1)=((i+1:Nat):Int):=jS (by omega)
  have u:l.length<=i:=hlen;have g:f<=i:=t;have b:l++aQ ((line.drop f).take (i-f)) (line.drop i)=aQ [] line:=h3;have put:f<i->(cond (decide ((0:Int)<=(f:Int)/\(f:Int)<=(i:Int)/\(i:Int)<=(line.length:Int))) (cond (á (l.length+1) aC) (gR n m ((i+1:Nat):Int) ((i+1:Nat):Int) line (l++[(line.drop (Æ (f:Int))).take ((Æ (i:Int))-(Æ (f:Int)))])) none) none)=gR n m ((i+1:Nat):Int) ((i+1:Nat):Int) line (l++[(line.drop f).take (i-f)]):=fun j=>by
   rw [hJ (by omega),bS (by omega)];rfl
  by_cases d:i<line.length
  .rw [aDy d,VA r g]at b
   by_cases q:line[i]=32
   .have z:(((line[i]).toNat:Int) !=(32:Int))=false:=by rw [q];rfl
    rw [q]at b;by_cases j:f<i
    .refine⟨(i+1,l++[(line.drop f).take (i-f)]), ?_,by simp;omega,.inl ⟨by omega,by simp, ?_⟩⟩
     .show gR n (m+1) (i:Int) (f:Int) line l=_
      rw [tf,hJ (by omega),hJ (by omega),df d]
      simp only [Y,Z,z,ez,hw];rw [hJ (by omega),Y,put j]
     .rw [hL (by omega)]at b
      rw [<-b];simp
    .refine⟨(i+1,l), ?_,by simp;omega,.inl ⟨by omega,by simp, ?_⟩⟩
     .show gR n (m+1) (i:Int) (f:Int) line l=_
      rw [tf,hJ (by omega),hJ (by omega),df d]
      simp only [Y,Z,z,ez,hw];rw [hL (by omega),ez]
     .rw [hJ (by omega)]at b
      rw [<-b];simp
   .have z:(((line[i]).toNat:Int) !=(32:Int))=true:=by
     have:(line[i]).toNat≠32:=fun k=>q (Õ.1 (by rw [k];rfl))
     simp;omega
    have zb:(line[i]==32)=false:=by simpa using q
    refine⟨(f,l), ?_,by simp;omega,.inl ⟨by omega,by simp;omega, ?_⟩⟩
    .show gR n (m+1) (i:Int) (f:Int) line l=_
     rw [tf,hJ (by omega),hJ (by omega),df d]
     simp only [Y,Z,z,hw]
    .rw [zb,ez,aDz d g]at b
     exact b
  .obtain rfl:i=line.length:=by omega
   rw [Ç (Î _),aQ,VA (Î _) g]at b;by_cases j:f<line.length
   .refine⟨(line.length+1,l++[(line.drop f).take (line.length-f)]), ?_,by simp;omega,.inr ⟨rfl, ?_⟩⟩
    .show gR n (m+1) (line.length:Int) (f:Int) line l=_
     rw [tf,hJ (by omega),hL (by omega)]
     simp only [Y,ez,hw];rw [hJ (by omega),Y,put j]
    .rw [hL (by omega)]at b
     rw [<-b];rfl
   .refine⟨(line.length+1,l), ?_,by simp;omega,.inr ⟨rfl, ?_⟩⟩
    .show gR n (m+1) (line.length:Int) (f:Int) line l=_
     rw [tf,hJ (by omega),hL (by omega)]
     simp only [Y,ez,hw];rw [hL (by omega),ez]
    .rw [hJ (by omega)]at b
     rw [<-b];simp
 .refine W.of fun n m ⟨f,l⟩ hinv=>⟨.inl l, ?_, ?_⟩
  .show gR n (m+1) ((line.length+1:Nat):Int) (f:Int) line l=_
   rw [tf,hL (by omega)];rfl
  .rcases hinv.2 with⟨h, -⟩|⟨-,h⟩
   .omega
   .have h:l=aQ [] line:=h
    rw [h]
theorem aDA (n:Nat) (line:O):Bu (n+1) line=cond (á (Þ (α:=UInt8) line) 4000000000) (some (aQ [] line)) none:=by kernel_rfl
theorem KN (line:O) (b:line.length<=1000000):W fun n=>Bu n line=some (aQ [] line):=W.succ (W.of fun n=>by
 rw [aDA,Ó (by omega)];rfl)
noncomputable def jT (line:O) (fs:List O) (k:Int):V:=if k=0 then nn line else if 1<=k/\k<=fs.length then(match fs[(k-1).toNat]? with|some s=>nn s|none=>v0)else nn []
theorem KO {x:Int} (h:aX x):wrap .i64 (Ï x 1000000)=Ï x 1000000/\ -9000000<=Ï x 1000000/\Ï x 1000000<=9000000:=by
 have b:=ee h;have d:=ï x 1000000;have f:=yG x;refine⟨?_,by omega,by omega⟩
 rw [À];omega
theorem aDB {x:Int}:Ï (jh x) 1000000=Ï x 1000000:=by
 have b:=ï x 1000000;have e:jh x=1000000*Ï x 1000000:=by unfold jh;omega
 rw [e,Int.mul_tdiv_cancel_left _ (by omega)]
def cP (v:Int):Int:=Ï v 1000000
theorem CF {v:V} (h:bM v):W fun n=>wK n v.1 v.2.1 v.2.2=some (cP (aJ v)):=by
 refine((nJ h.2.1).and (Vr (jL h))).nm fun n ⟨b,d⟩=> ?_
 rw [ayN,b];simp only [Z,d];rw [aDB,(KO (jL h)).1];rfl
theorem VD {fs:List O} {k:Int} (hk:1<=k/\k<=fs.length) (b:fs.length<=1048576):wrap .i64 (k-1)=k-1/\ ∃s,fs[(k-1).toNat]? =some s:=by
 refine⟨by rw [À];omega,fs[(k-1).toNat]'(by omega),Ô (by omega)⟩
theorem aDC (line:O) (k:Int) (h:line.length<=1000000) (j:(aQ [] line).length<=1048576):W fun n=>IK n line k=some (jT line (aQ [] line) k):=by
 by_cases hk:1<=k/\k<=(aQ [] line).length
 .obtain⟨hw,s,i⟩:=VD hk j
  refine(((KN line h).and (di k 1 ((aQ [] line).length:Int))).and (KJ s)).nm fun n ⟨⟨d,f⟩,g⟩=> ?_
  have z:(k==(0:Int))=false:=by simp;omega
  rw [SO,z,d];simp only [ez,Z,f,aA (show In k 1 _ from hk),Y,hw,aN,nth,i,g];rw [hJ (by omega),jT,if_neg (by omega),if_pos hk,i];rfl
 .refine((((KN line h).and (di k 1 ((aQ [] line).length:Int))).and (KJ line)).and (KJ [])).nm fun n ⟨⟨⟨d,f⟩,g⟩,m⟩=> ?_
  rw [SO,d,g,jT];by_cases b:k=0
  .rw [if_pos b,b];rfl
  .have z:(k==(0:Int))=false:=by simpa using b
   rw [z,if_neg b,if_neg hk];simp only [ez,Z,f,ay (show ¬In k 1 _ from hk),m]
theorem aDD (vs:ae) (cs:ai) (nr er:Int) (a b:af) (line:O) (fs:af) (out:O) (fu:Int) (dn:Bool) {v:V} (h:bM v) (p:fs.length<=1048576):W fun n=>Hs n vs cs nr er a b line fs out fu dn v.1 v.2.1 v.2.2=some ((jT line fs (cP (aJ v))).1,(jT line fs (cP (aJ v))).2.1,(jT line fs (cP (aJ v))).2.2,vs,cs,nr,er,a,b,line,fs,out,fu,dn):=by
 have hw:=(KO (jL h)).1;have f:Ï (aJ v) 1000000=cP (aJ v):=rfl;rw [f]at hw;by_cases hk:1<=cP (aJ v)/\cP (aJ v)<=fs.length
 .obtain⟨g,s,m⟩:=VD hk p
  refine(((jr h.2.1).and (cM (cP (aJ v)) 1 (fs.length:Int))).and (KI s)).nm fun n ⟨⟨i,j⟩,k⟩=> ?_
  have z:(cP (aJ v)==(0:Int))=false:=by simp;omega
  rw [RN,i];simp only [Z,f,hw,z,ez,j,aA (show In (cP (aJ v)) 1 _ from hk),Â,g,aN,nth,m,k];rw [hJ (by omega),jT,if_neg (by omega),if_pos hk,m];rfl
 .refine((((jr h.2.1).and (cM (cP (aJ v)) 1 (fs.length:Int))).and (KI line)).and (KI [])).nm fun n ⟨⟨⟨i,j⟩,k⟩,q⟩=> ?_
  rw [RN,i];simp only [Z,f,hw,k,j,ay (show ¬In (cP (aJ v)) 1 _ from hk),q];rw [jT];by_cases d:cP (aJ v)=0
  .rw [if_pos d,d];rfl
  .have z:(cP (aJ v)==(0:Int))=false:=by simpa using d
   rw [z,if_neg d,if_neg hk];rfl
theorem aDE (line:O) (fs:List O) (k:Int):bM (jT line fs k):=by
 unfold jT;split
 .exact EU _
 split
 .split
  .exact EU _
  .exact sj
 .exact EU _
theorem tz: ∀(s cur:O),(aQ cur s).length<=s.length+1
 | [],cur=>by rw [aQ];cases ă cur<;>simp
 |b::s,cur=>by
  rw [aQ];have d:=tz s [];have f:=tz s (cur++[b]);cases b==32<;>cases ă cur<;>simp only [Y,ez,Á]<;>omega
theorem aDF (n:Nat) (a b:Int):Jd (n+1) a b=some (a*b/18446744073709551616,a*b%18446744073709551616):=by kernel_rfl
theorem VE {a:Int} (h:aX a):W fun n=>BL n a=some (a.natAbs:Int):=W.succ (W.of fun n=>by
 have d:=ee h;rw [azO];by_cases b:a<0
 .rw [hJ b]
  simp only [Y];have:wrap .u64 (wrap .i64 (0-a))=(a.natAbs:Int):=by rw [wu,À];omega
  rw [this]
 .rw [hL b]
  simp only [ez];have:wrap .u64 a=(a.natAbs:Int):=by rw [wu];omega
  rw [this])
theorem sign_eq (a b:Int):(!((decide (a<(0:Int)))==(decide (b<(0:Int)))))= !decide (a<0↔b<0):=by
 by_cases d:a<0<;>by_cases f:b<0<;>simp [d,f]
theorem aDG (a b:Int) (d:aX a) (f:aX b):a.natAbs*b.natAbs<=81000000000000000000000000:=by
 have g:=ee d;have h:=ee f;exact Ċ (show a.natAbs<=9000000000000 by omega) (show b.natAbs<=9000000000000 by omega)
theorem aDH (a b:Int):W fun n=>Jc n a b=some (fO a b):=by
 by_cases d: ¬aX a
 .refine(iQ a).nm fun n g=> ?_
  rw [Cm,g,ay d,fO,ay fun k=>d k.1];rfl
 have d:=æ.1 d;by_cases f: ¬aX b
 .refine((iQ a).and (iQ b)).nm fun n ⟨g,j⟩=> ?_
  rw [Cm,g,aA d];simp only [Z,j];rw [ay f,fO,ay fun k=>f k.2.1];rfl
 have f:=æ.1 f;have hp:=aDG a b d f;obtain⟨p,h⟩: ∃p,p=a.natAbs*b.natAbs:=⟨_,rfl⟩
 have t:ga a b=p/1000000:=by rw [ga,h]
 have u: ∀n,Jd (n+1) (a.natAbs:Int) (b.natAbs:Int)=some (((p/18446744073709551616:Nat):Int),((p%18446744073709551616:Nat):Int)):=fun n=>by
  rw [aDF,<-ò,<-h];rfl
 rw [<-h]at hp;have base:=(((iQ a).and (iQ b)).and ((VE d).and (VE f))).and (W.ge 1);by_cases hh:p/18446744073709551616<1000000
 .refine(base.and (aDf _ (p%18446744073709551616) hh (Ġ _ (by omega)))).nm fun n ⟨⟨⟨⟨g,j⟩,s,i⟩,hn⟩,r,z⟩=> ?_
  obtain⟨n,rfl⟩: ∃m,n=m+1:=⟨n-1,by omega⟩
  rw [show p/18446744073709551616*18446744073709551616+p%18446744073709551616=p by rw [õ];exact ë p _,<-t]at z
  rw [Cm,g,aA d];simp only [Z,j];rw [aA f];simp only [Â,ez,Z,s,i,u];rw [hL (by omega),ez,z,Z,sign_eq]
  by_cases hm:ga a b<=9000000000000
  .rw [hL (by omega),ez,fO,aA ⟨d,f,hm⟩,Y]
   have w1:wrap .i64 ((ga a b:Nat):Int)=(ga a b:Int):=by rw [À];omega
   have w2:wrap .i64 (0-(ga a b:Int))= -(ga a b:Int):=by rw [À];omega
   rw [w1,w2];by_cases q:(a<0↔b<0)
   .rw [hJ q,if_pos q];rfl
   .rw [hL q,if_neg q];rfl
  .rw [hJ (by omega),Y,fO,ay fun k=>hm k.2.2];rfl
 .refine base.nm fun n ⟨⟨⟨g,j⟩,s,i⟩,hn⟩=> ?_
  obtain⟨n,rfl⟩: ∃m,n=m+1:=⟨n-1,by omega⟩
  rw [Cm,g,aA d];simp only [Z,j];rw [aA f];simp only [Â,ez,Z,s,i,u];rw [hJ (by omega),Y,fO,ay fun k=>absurd k.2.2 (by rw [t];omega)];rfl
theorem aDI (x y:Nat):x*y/1000000=x/1000000*y+x%1000000*y/1000000:=by
 have h:x*y=1000000*(x/1000000*y)+x%1000000*y:=by
  rw [<-Ē,<-ċ,ë]
 rw [h,Nat.mul_add_div (by omega)]
theorem aDJ (a b:Int):W fun n=>Ho n a b=some (fO a b):=by
 by_cases d: ¬aX a
 .refine(iO a).nm fun n g=> ?_
  rw [JR,g,ay d,fO,ay fun k=>d k.1];rfl
 have d:=æ.1 d;by_cases f: ¬aX b
 .refine((iO a).and (iO b)).nm fun n ⟨g,i⟩=> ?_
  rw [JR,g,aA d];simp only [Z,i];rw [ay f,fO,ay fun k=>f k.2.1];rfl
 have f:=æ.1 f;have j:=ee d;have m:=ee f;obtain⟨x,s⟩: ∃x,x=a.natAbs:=⟨_,rfl⟩
 obtain⟨y,hy⟩: ∃y,y=b.natAbs:=⟨_,rfl⟩
 have t:x<=9000000000000:=by omega
 have p:y<=9000000000000:=by omega
 have u:ga a b=x/1000000*y+x%1000000*y/1000000:=by rw [ga,<-s,<-hy,aDI]
 have hr:x%1000000*y<=8999991000000000000:=by
  have:x%1000000*y<=999999*9000000000000:=Ċ (by omega) p
  omega
 refine(((((iO a).and (iO b)).and (KC j.1)).and (KC m.1)).and ((xp (ga a b:Int)).and (xp (-(ga a b:Int))))).nm fun n ⟨⟨⟨⟨g,i⟩,e3⟩,q⟩,e4,e5⟩=> ?_
 rw [JR,g,aA d];simp only [Z,i];rw [aA f];simp only [Â,ez,Z,e3,q,<-s,<-hy];have t1:Ï (x:Int) 1000000=((x/1000000:Nat):Int):=(tw x 1000000).symm;have t2:é (x:Int) 1000000=((x%1000000:Nat):Int):=(Int.ofNat_tmod x 1000000).symm;have t3:wrap .i64 ((x/1000000:Nat):Int)=((x/1000000:Nat):Int):=by rw [À];omega
 have t4:wrap .i64 (((x%1000000:Nat):Int)*(y:Int))=((x%1000000*y:Nat):Int):=by rw [<-ò,À];omega
 have t5:wrap .i64 (Ï ((x%1000000*y:Nat):Int) 1000000)=((x%1000000*y/1000000:Nat):Int):=by
  rw [show Ï ((x%1000000*y:Nat):Int) (1000000:Int)=((x%1000000*y/1000000:Nat):Int)from(tw _ 1000000).symm,À];omega
 have fin: ∀(hw:x/1000000*y<=9000000000000),(cond (!decide (a<0↔b<0)) ((nx n (wrap .i64 ((0:Int)-(wrap .i64 ((wrap .i64 (((x/1000000:Nat):Int)*(y:Int)))+((x%1000000*y/1000000:Nat):Int)))))).bind fun z=>some (z.1,z.2)) ((nx n (wrap .i64 ((wrap .i64 (((x/1000000:Nat):Int)*(y:Int)))+((x%1000000*y/1000000:Nat):Int)))).bind fun z=>some (z.1,z.2)))=some (fO a b):=fun hw=>by
  have w1:wrap .i64 (((x/1000000:Nat):Int)*(y:Int))=((x/1000000*y:Nat):Int):=by rw [<-ò,À];omega
  have w2:wrap .i64 (((x/1000000*y:Nat):Int)+((x%1000000*y/1000000:Nat):Int))=(ga a b:Int):=by rw [u,À];omega
  have w3:wrap .i64 ((0:Int)-(ga a b:Int))= -(ga a b:Int):=by rw [À];omega
  rw [w1,w2,w3,e4,e5];by_cases hm:ga a b<=9000000000000
  .rw [fO,aA ⟨d,f,hm⟩,Y,uU (fY (by omega)),uU (fY (by omega))]
   by_cases h:(a<0↔b<0)
   .rw [hJ h,if_pos h];rfl
   .rw [hL h,if_neg h];rfl
  .rw [fO,ay fun k=>hm k.2.2,uV (fun k=>hm (by have:=ee k;omega)),uV (fun k=>hm (by have:=ee k;omega))]
   cases decide (a<0↔b<0)<;>rfl
 simp only [t1,t2,t3,t4,t5,sign_eq];by_cases r:0<y
 .obtain⟨k,hk⟩: ∃k:Nat,k=9000000000000/y:=⟨_,rfl⟩
  have aj:k<=9000000000000:=hk▸Nat.div_le_self _ _;have td:Ï (9000000000000:Int) (y:Int)=(k:Int):=hk▸(tw 9000000000000 y).symm;have d1:wrap .i64 (Ï 9000000000000 (y:Int))=(k:Int):=by rw [td,À];omega
  have k1:k*y<=9000000000000:=hk▸Nat.div_mul_le_self 9000000000000 y;have k2:9000000000000<y*k+y:=by
   have m:=ë 9000000000000 y;have h3:=Ġ 9000000000000 r;rw [<-hk]at m;omega
  have z:((y:Int) !=(0:Int))=true:=by simp;omega
  rw [hJ (show (0:Int)<(y:Int) by omega),z]
  simp only [Y,Z,d1];by_cases hw:x/1000000<=k
  .rw [hL (show ¬(k:Int)<((x/1000000:Nat):Int) by omega),ez]
   exact fin (Ĩ (Č y hw) k1)
  .rw [hJ (show (k:Int)<((x/1000000:Nat):Int) by omega),Y,fO,ay fun c=> ?_]
   .rfl
   .have j:(k+1)*y<=x/1000000*y:=Č y (by omega)
    rw [ċ,õ k y]at j;have:=c.2.2;omega
 .obtain rfl:y=0:=by omega
  rw [hL (by omega)]
  simp only [ez,Z];exact fin (by omega)
def gT:Sum Int V->Int
 |.inl c=>c
 |.inr _=>0
def pF (r:Int×Bool):Sum Int V:=cond r.2 (.inr (nV r.1)) (.inl 1)
noncomputable def cN (op x y:Int):Sum Int V:=if op=0 then pF (fZ x y)else if op=1 then pF (jg x y)else if op=2 then pF (fO x y)else if y=0 then .inl 2 else if op=4 then .inr (nV (é x y))else pF (ib x y)
def nM (k c:Int):Bool:=if k=0 then decide (c<0)else if k=1 then decide (c<=0)else if k=2 then decide (0<c)else if k=3 then decide (0<=c)else if k=4 then c==0 else c !=0
noncomputable def dP (c:Int) (a b:V):Sum Int V:=if c<=16 then cN (c-12) (aJ a) (aJ b)else if c=17 then(if 300<(aH a++aH b).length then .inl 3 else .inr (tV (aH a++aH b)))else .inr (bV (nM (c-18) (fS a b)))
theorem VF (vs:ae) (cs:ai) (nr er:Int) (a b:af) (line:O) (fs:af) (out:O) (fu:Int) (dn:Bool) (c:Int):W fun n=>ig n vs cs nr er a b line fs out fu dn c=some (vs,cs,nr,cond (er==0) c er,a,b,line,fs,out,fu,dn):=W.succ (W.of fun n=>by
 rw [asV];cases er==0<;>rfl)
theorem kK (vs:ae) (cs:ai) (nr:Int) (a b:af) (line:O) (fs:af) (out:O) (fu:Int) (dn:Bool) (c:Int):W fun n=>ig n vs cs nr 0 a b line fs out fu dn c=some (vs,cs,nr,c,a,b,line,fs,out,fu,dn):=VF vs cs nr 0 a b line fs out fu dn c
theorem KP (vs:ae) (cs:ai) (nr:Int) (a b:af) (line:O) (fs:af) (out:O) (fu:Int) (dn:Bool) (op x y:Int) (h:0<=op/\op<=4):W fun n=> ∃v:V,vV n vs cs nr 0 a b line fs out fu dn op x y=some (v.1,v.2.1,v.2.2,vs,cs,nr,gT (cN op x y),a,b,line,fs,out,fu,dn)/\ ∀w,cN op x y=.inr w->v=w:=by
 by_cases i:op=0
 .subst i
  refine(((aDg x y).and (kK vs cs nr a b line fs out fu dn 1)).and (jR (fZ x y).1)).nm fun n ⟨⟨d,f⟩,g⟩=> ?_
  rw [tc,show((0:Int)==(0:Int))=true from rfl,d,cN,if_pos rfl];simp only [Y,Z,f,g];obtain⟨p,q⟩:=fZ x y;cases q
  .exact⟨nV p,rfl,fun w k=>by cases k⟩
  .exact⟨nV p,rfl,fun w k=>by cases k;rfl⟩
 by_cases j:op=1
 .subst j
  refine(((aDh x y).and (kK vs cs nr a b line fs out fu dn 1)).and (jR (jg x y).1)).nm fun n ⟨⟨d,f⟩,g⟩=> ?_
  rw [tc,show((1:Int)==(0:Int))=false from rfl,show((1:Int)==(1:Int))=true from rfl,d,cN,if_neg (show ¬(1:Int)=0 by omega),if_pos rfl]
  simp only [Y,ez,Z,f,g];obtain⟨p,q⟩:=jg x y;cases q
  .exact⟨nV p,rfl,fun w k=>by cases k⟩
  .exact⟨nV p,rfl,fun w k=>by cases k;rfl⟩
 by_cases m:op=2
 .subst m
  refine(((aDJ x y).and (kK vs cs nr a b line fs out fu dn 1)).and (jR (fO x y).1)).nm fun n ⟨⟨d,f⟩,g⟩=> ?_
  rw [tc,show((2:Int)==(0:Int))=false from rfl,show((2:Int)==(1:Int))=false from rfl,show((2:Int)==(2:Int))=true from rfl,d,cN,if_neg (show ¬(2:Int)=0 by omega),if_neg (show ¬(2:Int)=1 by omega),if_pos rfl]
  simp only [Y,ez,Z,f,g];obtain⟨p,q⟩:=fO x y;cases q
  .exact⟨nV p,rfl,fun w k=>by cases k⟩
  .exact⟨nV p,rfl,fun w k=>by cases k;rfl⟩
 have z0:(op==(0:Int))=false:=by simpa using i
 have r:(op==(1:Int))=false:=by simpa using j
 have z2:(op==(2:Int))=false:=by simpa using m
 by_cases hy:y=0
 .subst hy
  refine(kK vs cs nr a b line fs out fu dn 2).nm fun n f=> ?_
  rw [tc,z0,r,z2,cN,if_neg i,if_neg j,if_neg m,if_pos rfl];simp only [ez,f];exact⟨v0,rfl,fun w k=>by cases k⟩
 have u:(y==(0:Int))=false:=by simpa using hy
 have s:(y !=(0:Int))=true:=by simpa using hy
 by_cases t:op=4
 .subst t
  refine((Vp x y).and (jR (é x y))).nm fun n ⟨d,g⟩=> ?_
  rw [tc,z0,r,z2,u,s,d,cN,if_neg i,if_neg j,if_neg m,if_neg hy,if_pos rfl];simp only [ez,Z,g];exact⟨nV _,rfl,fun w k=>by cases k;rfl⟩
 .have z4:(op==(4:Int))=false:=by simpa using t
  refine(((Vp x y).and (kK vs cs nr a b line fs out fu dn 1)).and (jR (ib x y).1)).nm fun n ⟨⟨d,f⟩,g⟩=> ?_
  rw [tc,z0,r,z2,u,d,cN,if_neg i,if_neg j,if_neg m,if_neg hy,if_neg t];simp only [ez,Z,z4,f,g];obtain⟨p,q⟩:=ib x y;cases q
  .exact⟨nV p,rfl,fun w k=>by cases k⟩
  .exact⟨nV p,rfl,fun w k=>by cases k;rfl⟩
theorem aDK (op x y:Int) (h:0<=op/\op<=4):W fun n=> ∃k:Int,Ja n (op+9) x y=some (k,gT (cN op x y))/\ ∀w,cN op x y=.inr w->nV k=w:=by
 by_cases d:op=0
 .subst d
  refine(Vq x y).nm fun n b=> ?_
  rw [tg,show((0:Int)+9==(9:Int))=true from rfl,b,cN,if_pos rfl];simp only [Y,Z];obtain⟨p,q⟩:=fZ x y;cases q
  .exact⟨0,rfl,fun w k=>by cases k⟩
  .exact⟨p,rfl,fun w k=>by cases k;rfl⟩
 by_cases f:op=1
 .subst f
  refine(aDi x y).nm fun n b=> ?_
  rw [tg,show((1:Int)+9==(9:Int))=false from rfl,show((1:Int)+9==(10:Int))=true from rfl,b,cN,if_neg (show ¬(1:Int)=0 by omega),if_pos rfl]
  simp only [Y,ez,Z];obtain⟨p,q⟩:=jg x y;cases q
  .exact⟨0,rfl,fun w k=>by cases k⟩
  .exact⟨p,rfl,fun w k=>by cases k;rfl⟩
 by_cases g:op=2
 .subst g
  refine(aDH x y).nm fun n b=> ?_
  rw [tg,show((2:Int)+9==(9:Int))=false from rfl,show((2:Int)+9==(10:Int))=false from rfl,show((2:Int)+9==(11:Int))=true from rfl,b,cN,if_neg (show ¬(2:Int)=0 by omega),if_neg (show ¬(2:Int)=1 by omega),if_pos rfl]
  simp only [Y,ez,Z];obtain⟨p,q⟩:=fO x y;cases q
  .exact⟨0,rfl,fun w k=>by cases k⟩
  .exact⟨p,rfl,fun w k=>by cases k;rfl⟩
 have z0:(op+9==(9:Int))=false:=by simp;omega
 have i:(op+9==(10:Int))=false:=by simp;omega
 have z2:(op+9==(11:Int))=false:=by simp;omega
 by_cases hy:y=0
 .subst hy
  refine(W.ge 0).nm fun n _=> ?_
  rw [tg,z0,i,z2,cN,if_neg d,if_neg f,if_neg g,if_pos rfl];exact⟨0,rfl,fun w k=>by cases k⟩
 have m:(y==(0:Int))=false:=by simpa using hy
 have j:(y !=(0:Int))=true:=by simpa using hy
 by_cases r:op=4
 .subst r
  refine(W.ge 0).nm fun n _=> ?_
  rw [tg,z0,i,z2,m,j,cN,if_neg d,if_neg f,if_neg g,if_neg hy,if_pos rfl];exact⟨é x y,rfl,fun w k=>by cases k;rfl⟩
 .have z4:(op+9==(13:Int))=false:=by simp;omega
  refine(aDj x y).nm fun n b=> ?_
  rw [tg,z0,i,z2,m,z4,b,cN,if_neg d,if_neg f,if_neg g,if_neg hy,if_neg r];simp only [ez,Z];obtain⟨p,q⟩:=ib x y;cases q
  .exact⟨0,rfl,fun w k=>by cases k⟩
  .exact⟨p,rfl,fun w k=>by cases k;rfl⟩
theorem VG {a b:V} (d:bM a) (f:bM b):á ((aH a).length+(aH b).length) mx=true:=by
 have g:=kJ d;have h:=kJ f;exact pD (by omega)
theorem aDL (vs:ae) (cs:ai) (nr:Int) (a b:af) (line:O) (fs:af) (out:O) (fu:Int) (dn:Bool) {x y:V} (d:bM x) (hy:bM y):W fun n=> ∃v:V,Ht n vs cs nr 0 a b line fs out fu dn x.1 x.2.1 x.2.2 y.1 y.2.1 y.2.2=some (v.1,v.2.1,v.2.2,vs,cs,nr,gT (dP 17 x y),a,b,line,fs,out,fu,dn)/\ ∀w,dP 17 x y=.inr w->v=w:=by
 refine(((iS x).and (iS y)).and (kK vs cs nr a b line fs out fu dn 3)).nm fun n ⟨⟨f,g⟩,i⟩=> ?_
 rw [atQ,f,Z,g,Z,VG d hy,Y,dP,if_neg (by omega),if_pos rfl]
 by_cases h:300<(aH x++aH y).length
 .rw [hJ (by omega),if_pos h,Y,i]
  exact⟨v0,rfl,fun w k=>by cases k⟩
 .rw [hL (by omega),if_neg h]
  exact⟨tV (aH x++aH y),rfl,fun w k=>by cases k;rfl⟩
theorem aDM (k:Int) {x y:V} (b:bM x) (hy:bM y) (hk:0<=k/\k<=5):W fun n=>HI n k x.1 x.2.1 x.2.2 y.1 y.2.1 y.2.2=some (bV (nM k (fS x y))):=by
 refine((aDo b hy).and (CB (nM k (fS x y)))).nm fun n ⟨d,f⟩=> ?_
 rw [auT,d,Z,hJ (show 0<=k/\k<6 by omega),Y]
 have e:aN [decide (fS x y<0),decide (fS x y<=0),decide (0<fS x y),decide (0<=fS x y),fS x y==0,fS x y !=0] (Æ k)=some (nM k (fS x y)):=by
  generalize fS x y=c
  obtain rfl|rfl|rfl|rfl|rfl|rfl:k=0\/k=1\/k=2\/k=3\/k=4\/k=5:=by omega
  all_goals rfl
 rw [e,Z,f];rfl
theorem aDN (k c:Int) (hk:0<=k/\k<=5):W fun n=>Ji n (k+15) c=some (nM k c):=W.succ (W.of fun n=>by
 rw [azV];obtain rfl|rfl|rfl|rfl|rfl|rfl:k=0\/k=1\/k=2\/k=3\/k=4\/k=5:=by omega
 all_goals rfl)
theorem VH (c:Int) {x y:V} (i:bM x) (hy:bM y) (s:12<=c/\c<=23):W fun n=> ∃v:V,IZ n (c-12+9) x.1 x.2.1 x.2.2 y.1 y.2.1 y.2.2=some (v.1,v.2.1,v.2.2,gT (dP c x y))/\ ∀w,dP c x y=.inr w->v=w:=by
 by_cases j:c<=16
 .refine((((di (c-12+9) 9 13).and (nJ i.2.1)).and (nJ hy.2.1)).and (aDK (c-12) (aJ x) (aJ y) (by omega))).nm fun n ⟨⟨⟨b,d⟩,f⟩,k,g,q⟩=> ?_
  have r:iM (n) k=some (nV k):=by
   cases n with
   |zero=>cases b
   |succ n=>exact SI n k
  rw [Ka,b,Z,aA (show In (c-12+9) 9 13 from⟨by omega,by omega⟩),Y,d,Z,f,Z,g,Z,r,dP,if_pos j]
  exact⟨nV k,rfl,q⟩
 have m: ¬In (c-12+9) 9 13:=fun k=>by have:=k.2;omega
 by_cases p:c=17
 .subst p
  refine((((di ((17:Int)-12+9) 9 13).and (mK x)).and (mK y)).and (rk (aH x++aH y))).nm fun n ⟨⟨⟨b,d⟩,f⟩,g⟩=> ?_
  rw [Ka,b,Z,ay m,ez,show((17:Int)-12+9==14)=true from rfl,Y,d,Z,f,Z,VG i hy,Y,dP,if_neg j,if_pos rfl];by_cases h:300<(aH x++aH y).length
  .rw [hJ (by omega),if_pos h]
   exact⟨v0,rfl,fun w k=>by cases k⟩
  .rw [hL (by omega),if_neg h,g]
   exact⟨tV (aH x++aH y),rfl,fun w k=>by cases k;rfl⟩
 .refine((((di (c-12+9) 9 13).and (aDp i hy)).and (aDN (c-18) (fS x y) (by omega))).and (xq (nM (c-18) (fS x y)))).nm fun n ⟨⟨⟨b,d⟩,f⟩,g⟩=> ?_
  have z:(c-12+9==(14:Int))=false:=by simp;omega
  rw [Ka,b,Z,ay m,ez,z,ez,d,Z,show c-12+9=c-18+15 by omega,f,Z,g,dP,if_neg j,if_neg p]
  exact⟨bV (nM (c-18) (fS x y)),rfl,fun w k=>by cases k;rfl⟩
theorem CG {r:Int×Bool} (h:aX r.1) {w:V} (e:pF r=.inr w):bM w:=by
 obtain⟨p,q⟩:=r;cases q
 .cases e
 .cases e;exact mh h
theorem aDO {op x y:Int} (b:aX x) {w:V} (e:cN op x y=.inr w):bM w:=by
 unfold cN at e;split at e
 .exact CG (ZT x y) e
 split at e
 .exact CG (ZU x y) e
 split at e
 .exact CG (ZW x y) e
 split at e
 .cases e
 split at e
 .cases e
  refine mh (fY ?_)
  have d:=ee b;have f:(é x y).natAbs<=x.natAbs:=by rw [Int.natAbs_tmod];exact Nat.mod_le _ _
  omega
 .exact CG (ZV x y) e
theorem KQ {β:Type} {f:UInt8->UInt8} {len:Nat} (d:len<=1048576) {L:Nat->Int->O->Option (Sum O β)}
  (b: ∀m (i:Nat) (l:O) (h:i<l.length),l.length=len->L (m+1) (i:Int) l=L m (wrap .i64 ((i:Int)+(1:Int))) (l.set i (f l[i])))
  (he: ∀m (l:O),l.length=len->L (m+1) (len:Int) l=some (.inl l)): ∀k m (i:Nat) (l:O),l.length=len->i+k=len->k<m->L m (i:Int) l=some (.inl (l.take i++(l.drop i).map f))
 |0,m,i,l,e,h,hm=>by
  obtain⟨m,rfl⟩: ∃m',m=m'+1:=⟨m-1,by omega⟩
  obtain rfl:i=len:=by omega
  rw [he m l e,Ù (by omega),Ą (by omega)];simp
 |k+1,m,i,l,e,h,hm=>by
  obtain⟨m,rfl⟩: ∃m',m=m'+1:=⟨m-1,by omega⟩
  have hi:i<l.length:=by omega
  rw [b m i l hi e,dq (len:=len) (by omega) (by omega),KQ d b he k m (i+1) (l.set i (f l[i])) (by simp [e]) (by omega) (by omega)]
  congr 2
  rw [List.drop_set_of_lt (by omega),Ä hi,List.map_cons,List.take_set,yu hi,Ĉ _ _ (by simp;omega)]
  simp [Nat.min_eq_left (Nat.le_of_lt hi)]
def nN (p q c:UInt8):UInt8:=if p.toNat<=c.toNat/\c.toNat<p.toNat+26 then É (c.toNat-p.toNat+q.toNat)else c
def mM (p q:UInt8) (s:O):O:=s.map (nN p q)
theorem CH {l:O} {i:Nat} (h:i<l.length):l.set i l[i]=l:=by simp
theorem VI {p:UInt8} (hp:p.toNat<=200):wrap .u8 ((p.toNat:Int)+26)=(p.toNat:Int)+26:=by rw [ą];omega
theorem VJ {p q c:UInt8} (_:p.toNat<=200) (d:q.toNat<=200) (h:p.toNat<=c.toNat) (b:c.toNat<p.toNat+26):É (Æ (wrap .u8 ((wrap .u8 ((c.toNat:Int)-(p.toNat:Int)))+(q.toNat:Int))))=nN p q c:=by
 rw [nN,if_pos ⟨h,b⟩];congr 1
 rw [ą,ą];omega
theorem VK (s:O) (p q:UInt8) (hp:p.toNat<=200) (b:q.toNat<=200) (d:s.length<=1048576):W fun n=>sM n s p q=some (mM p q s):=by
 refine((W.ge (s.length+1)).and (W.ge 1)).nm fun n ⟨k,_⟩=> ?_
 have key:=KQ (f:=nN p q) d (L:=fun m i l=>pd n m i q p l)
  (fun m i l h e=>by
   show pd n (m+1) (i:Int) q p l=_;rw [RZ,dR,dR,bk h,hJ (show (0:Int)<=(i:Int)/\(i:Int)<(l.length:Int) by omega),fh h]
   simp only [Y,Z];by_cases g:p.toNat<=(l[i]).toNat
   .rw [hJ (by omega),Y,VI hp]
    by_cases j:(l[i]).toNat<p.toNat+26
    .rw [hJ (by omega),Y,VJ hp b g j];rfl
    .rw [hL (by omega),ez,nN,if_neg (by omega),CH h]
   .rw [hL (by omega),ez,nN,if_neg (by omega),CH h])
  (fun m l e=>by
   show pd n (m+1) (s.length:Int) q p l=_;rw [RZ,e,ca,ez]) s.length n 0 s rfl (by omega) (by omega)
 rw [auR,dR,dR,bS (by omega),Y]
 refine(congrArg (fun o=>Ĭ o _) key).trans ?_
 simp [aw,mM]
theorem VL (s:O) (p q:UInt8) (hp:p.toNat<=200) (b:q.toNat<=200) (d:s.length<=1048576):W fun n=>sZ n s p q=some (mM p q s):=by
 refine((W.ge (s.length+1)).and (W.ge 1)).nm fun n ⟨k,_⟩=> ?_
 have key:=KQ (f:=nN p q) d (L:=fun m i l=>pk n m i q p l (s.length:Int))
  (fun m i l h e=>by
   show pk n (m+1) (i:Int) q p l (s.length:Int)=_;rw [Tb,dR,dR,<-e,bk h,hJ (show (0:Int)<=(i:Int)/\(i:Int)<(l.length:Int) by omega),fh h]
   simp only [Y,Z];by_cases g:p.toNat<=(l[i]).toNat
   .rw [hJ (by omega),Y,VI hp]
    by_cases j:(l[i]).toNat<p.toNat+26
    .rw [hJ (by omega),Y,VJ hp b g j];rfl
    .rw [hL (by omega),ez,nN,if_neg (by omega),CH h]
   .rw [hL (by omega),ez,nN,if_neg (by omega),CH h])
  (fun m l e=>by
   show pk n (m+1) (s.length:Int) q p l (s.length:Int)=_;rw [Tb,ca,ez]) s.length n 0 s rfl (by omega) (by omega)
 rw [azL,dR,dR,bS (by omega),Y]
 refine(congrArg (fun o=>Ĭ o _) key).trans ?_
 simp [aw,mM]
theorem tA: ∀(t s:O), -1<=cJ t s/\cJ t s<=s.length
 |t,[]=>by rw [cJ];cases Ú t ([]:O)<;>simp
 |t,b::s=>by
  have ih:=tA t s;rw [cJ];cases Ú t (b::s)
  .simp only [ez,Á]
   by_cases h:0<=cJ t s
   .rw [hJ h,Y];omega
   .rw [hL h,ez];omega
  .simp only [Y];omega
theorem VM {t s:O} (h:s.length<t.length):Ú t s=false:=by
 cases e:Ú t s
 .rfl
 .have:=(ç.1 e).length_le;omega
theorem aDP (t s:O):Ú t s=(s.take t.length==t):=by
 rw [Bool.eq_iff_iff,ç,beq_iff_eq];exact⟨fun h=>(ÿ.1 h).symm,fun h=>ÿ.2 h.symm⟩
theorem VN: ∀(t s:O),s.length<t.length->cJ t s= -1
 |t,[],h=>by rw [cJ,VM h];rfl
 |t,b::s,h=>by rw [cJ,VM h,VN t s (by simp at h;omega)];rfl
theorem aDQ {t s:O} {i:Nat} (h:i<s.length) (hp:Ú t (s.drop i)=false):cJ t (s.drop i)=cond (decide (0<=cJ t (s.drop (i+1)))) (cJ t (s.drop (i+1))+1) (-1):=by
 rw [Ä h]at hp |-;rw [cJ,hp,ez]
theorem VO {t s:O} (hp:Ú t s=true):cJ t s=0:=by
 cases s with
 |nil=>rw [cJ,hp];rfl
 |cons b s=>rw [cJ,hp];rfl
theorem VP {t s:O} (f:s.length<=1048576) (g:t.length<=1048576) (n:Nat): ∀k m (i:Nat),s.length-i=k->k<m->i<=s.length+1->
  Av n m (i:Int) t s=some (cond (decide (0<=cJ t (s.drop i))&&decide (i<=s.length)) (.inr ((i:Int)+cJ t (s.drop i)+1)) (.inl ()))
 |k,0,i,e,hm,hi=>by omega
 |k,m+1,i,e,hm,hi=>by
  have hw:wrap .i64 ((i:Int)+(t.length:Int))=((i+t.length:Nat):Int):=by rw [À];omega
  rw [auQ,hw];by_cases h:i+t.length<=s.length
  .have p:=tA t (s.drop i)
   rw [hJ (by omega),Y,hJ (by omega),Y,hJ (show i<=s.length by omega),ē]
   have j:(s.drop (Æ (i:Int))).take (Æ ((i+t.length:Nat):Int)-Æ (i:Int))=(s.drop i).take t.length:=by
    rw [Ì,Ì,í]
   rw [j,<-aDP,dq (len:=i+1) (by omega) (by omega)]
   cases hp:Ú t (s.drop i)
   .rw [ez]
    by_cases b:i<s.length
    .rw [VP f g n (s.length-(i+1)) m (i+1) rfl (by omega) (by omega),aDQ b hp,hJ (show i+1<=s.length by omega),ē]
     by_cases d:0<=cJ t (s.drop (i+1))
     .rw [hJ d,Y,Y,hJ (by omega),Y]
      congr 2;omega
     .rw [hL d,ez,ez];rfl
    .have:t=[]:=ä (by omega)
     subst this;cases hp
   .rw [VO hp,Y]
    congr 2
  .rw [hL (show ¬((i+t.length:Nat):Int)<=(s.length:Int) by omega),ez]
   by_cases b:i<=s.length
   .rw [VN t (s.drop i) (by simp;omega)];rfl
   .rw [hL b,Bool.and_false];rfl
theorem aDR (s t:O) (d:s.length<=1048576) (f:t.length<=1048576):W fun n=>HG n s t=some (cJ t s+1):=by
 refine(W.ge (s.length+1)).nm fun n g=> ?_
 rw [auP,show(0:Int)=((0:Nat):Int)from rfl,VP d f n (s.length-0) n 0 rfl (by omega) (by omega),Z]
 have h:=tA t s;rw [hJ (show 0<=s.length by omega),ē,ã]
 by_cases b:0<=cJ t s
 .rw [hJ b,Y,uO];congr 1;omega
 .rw [hL b,ez,cR];congr 1;omega
theorem aDS (n:Nat) (s t:O):IY (n+1) s t=cond (á (Þ (α:=UInt8) s) 4000000000) (some (cJ t s)) none:=by kernel_rfl
theorem aDT (s t:O) (b:s.length<=1048576):W fun n=>IY n s t=some (cJ t s):=W.succ (W.of fun n=>by
 rw [aDS,Ó (by omega)];rfl)
def nO (s:O) (f t:Int):O:=if min t (s.length:Int)<max f 1 then []else(s.drop (max f 1-1).toNat).take ((min t (s.length:Int)).toNat-(max f 1-1).toNat)
theorem aDU (s:O) (f t:Int):(nO s f t).length<=s.length:=by
 unfold nO;split
 .simp
 .simp only [List.length_take,Ĝ];omega
theorem KR (s:O) (f t:Int):cond (decide (min t (s.length:Int)<max f 1)) (some []) (cond (decide (0<=max f 1-1/\max f 1-1<=min t (s.length:Int)/\min t (s.length:Int)<=(s.length:Int))) (some ((s.drop (Æ (max f 1-1))).take (Æ (min t (s.length:Int))-Æ (max f 1-1)))) none)=some (nO s f t):=by
 rw [nO];by_cases h:min t (s.length:Int)<max f 1
 .rw [hJ h,if_pos h];rfl
 .rw [hL h,if_neg h,ez,hJ (by omega),Y]
theorem VQ (s:O) (f t:Int) (_:s.length<=1048576) (j: -100000000<=f/\f<=100000000):W fun n=>BK n s f t=some (nO s f t):=W.succ (W.of fun n=>by
 have b:cond (decide ((s.length:Int)<t)) (s.length:Int) t=min t (s.length:Int):=by
  by_cases h:(s.length:Int)<t
  .rw [hJ h,Y];omega
  .rw [hL h,ez];omega
 have d:cond (decide (f<1)) 1 f=max f 1:=by
  by_cases h:f<1
  .rw [hJ h,Y];omega
  .rw [hL h,ez];omega
 have g:wrap .i64 (max f 1-1)=max f 1-1:=by rw [À];omega
 rw [azM,b,d,g,KR])
theorem VR (x y:Int):W fun n=>Ad n x y=some (min y x):=W.succ (W.of fun n=>by
 rw [asT];by_cases h:x<y
 .rw [hJ h,Y];congr 1;omega
 .rw [hL h,ez];congr 1;omega)
theorem VS (x y:Int):W fun n=>qP n x y=some (max x y):=W.succ (W.of fun n=>by
 rw [Rr];by_cases h:y<x
 .rw [hJ h,Y];congr 1;omega
 .rw [hL h,ez];congr 1;omega)
def ah (l:List V) (i:Nat):V:=l.getD i v0
theorem js {l:List V} {i:Nat} (h:i<l.length):ar l (i:Int)=some (ah l i):=by
 rw [aU h,ah];simp [h]
theorem eL {l:List V} (b: ∀v∈l,bM v) (i:Nat):bM (ah l i):=by
 by_cases h:i<l.length
 .have e:ah l i=l[i]:=by rw [ah];simp [h]
  rw [e];exact b _ (Å h)
 .have e:ah l i=v0:=by rw [ah];simp [h]
  rw [e];exact sj
def xt:O:=[108,101,110,103,116,104]
def KS:O:=[115,117,98,115,116,114]
def CI:O:=[105,110,100,101,120]
def CJ:O:=[105,110,116]
def CM:O:=[117,112,112,101,114]
def CN:O:=[108,111,119,101,114]
noncomputable def tB (l:List V):Int:=if l.length=3 then cP (aJ (ah l 1))+cP (aJ (ah l 2))-1 else((aH (ah l 0)).length:Int)
noncomputable def iT (nm:O) (l:List V):V:=
 if nm=xt then nV (1000000*((aH (ah l 0)).length:Int))else if nm=CJ then nV (jh (aJ (ah l 0)))else if nm=CI then nV (1000000*(cJ (aH (ah l 1)) (aH (ah l 0))+1))
 else if nm=CM then tV (mM 97 65 (aH (ah l 0)))else if nm=CN then tV (mM 65 97 (aH (ah l 0)))else tV (nO (aH (ah l 0)) (cP (aJ (ah l 1))) (tB l))
theorem KT {nm:O} (h:nm∈iG):nm=xt\/nm=KS\/nm=CI\/nm=CJ\/nm=CM\/nm=CN:=by
 simpa [iG,xt,KS,CI,CJ,CM,CN]using h
theorem CO {v:V} (h:bM v):wrap .i64 (Ï (aJ v) 1000000)=cP (aJ v)/\ -9000000<=cP (aJ v)/\cP (aJ v)<=9000000:=KO (jL h)
theorem aDV (l:List V) (b: ∀v∈l,bM v) (h2:2<=l.length/\l.length<=3):W fun n=>HH n l=some (nO (aH (ah l 0)) (cP (aJ (ah l 1))) (tB l)):=by
 have p:=eL b 0;have d:=eL b 1;have g:=eL b 2;obtain⟨q,b1⟩:=CO d;obtain⟨r,b2⟩:=CO g;have hl:=kJ p;have t:wrap .i64 (wrap .i64 (cP (aJ (ah l 1))+cP (aJ (ah l 2)))-1)=cP (aJ (ah l 1))+cP (aJ (ah l 2))-1:=by rw [À,À];omega
 have base:=((((iS (ah l 0)).and (jr d.2.1)).and (jr g.2.1)).and (VS (cP (aJ (ah l 1))) 1)).and (VR ((aH (ah l 0)).length:Int) (cP (aJ (ah l 1))+cP (aJ (ah l 2))-1));refine base.nm fun n ⟨⟨⟨⟨u,e2⟩,e3⟩,h⟩,e5⟩=> ?_
 have a0:ar l 0=some (ah l 0):=js (i:=0) (by omega)
 have a1:ar l 1=some (ah l 1):=js (i:=1) (by omega)
 rw [auS,tB,a0,Z,u,Z,a1,Z,e2,Z,q];generalize cP (aJ (ah l 1))=f at*
 generalize aH (ah l 0)=s at*
 have j:wrap .i64 (max f 1-1)=max f 1-1:=by rw [À];omega
 by_cases m:l.length=3
 .have a2:ar l 2=some (ah l 2):=js (i:=2) (by omega)
  have z:((l.length:Int)==3)=true:=by simp;omega
  rw [z,Y,a2,Z,e3,Z,r,t,e5,Z,h,Z,j,KR,if_pos m]
 .have z:((l.length:Int)==3)=false:=by simp;omega
  have k:=KR s f (s.length:Int);rw [Int.min_self]at k;rw [z,ez,h,Z,j,k,if_neg m]
theorem VT {a b:O} (h:a≠b):(a==b)=false:=by simpa using h
theorem VU (nm:O) (l:List V) (f: ∀v∈l,bM v) (p:1<=l.length/\l.length<=3) (k:l.length=1->nm=xt\/nm=CJ\/nm=CM\/nm=CN) (q:nm∈iG):W fun n=>we n nm l=some (iT nm l):=by
 have g:=eL f 0;have r:=eL f 1;have u:=kJ g;have z:=kJ r;have a0:ar l 0=some (ah l 0):=js (i:=0) (by omega)
 rcases KT q with rfl|rfl|rfl|rfl|rfl|rfl
 .refine((iS (ah l 0)).and (jR (1000000*((aH (ah l 0)).length:Int)))).nm fun n ⟨d,b⟩=> ?_
  have w:wrap .i64 (1000000*((aH (ah l 0)).length:Int))=1000000*((aH (ah l 0)).length:Int):=by rw [À];omega
  rw [te,show(xt==([108,101,110,103,116,104]:O))=true from rfl,Y,a0,Z,d,Z,w,b,iT,if_pos rfl];rfl
 .have m:2<=l.length:=by
   by_cases h:l.length=1
   .rcases k h with h|h|h|h<;>exact absurd h (by decide)
   .omega
  refine(aDV l f ⟨m,p.2⟩).nm fun n d=> ?_
  rw [te,d];rfl
 .have m:2<=l.length:=by
   by_cases h:l.length=1
   .rcases k h with h|h|h|h<;>exact absurd h (by decide)
   .omega
  have s:ar l 1=some (ah l 1):=js (i:=1) (by omega)
  have hb:=tA (aH (ah l 1)) (aH (ah l 0));have w:wrap .i64 (1000000*(cJ (aH (ah l 1)) (aH (ah l 0))+1))=1000000*(cJ (aH (ah l 1)) (aH (ah l 0))+1):=by rw [À];omega
  refine((((iS (ah l 0)).and (iS (ah l 1))).and (aDR (aH (ah l 0)) (aH (ah l 1)) (by omega) (by omega))).and (jR (1000000*(cJ (aH (ah l 1)) (aH (ah l 0))+1)))).nm fun n ⟨⟨⟨d,b⟩,j⟩,t⟩=> ?_
  rw [te,a0,s];simp only [Z,d,b,j,w,t];rfl
 .refine(((jr g.2.1).and (aDk (jL g))).and (jR (jh (aJ (ah l 0))))).nm fun n ⟨⟨d,b⟩,j⟩=> ?_
  rw [te,a0];simp only [Z,d,b,j];rfl
 .refine((iS (ah l 0)).and (VK (aH (ah l 0)) 97 65 (by decide) (by decide) (by omega))).nm fun n ⟨d,b⟩=> ?_
  rw [te,a0];have b:sM n (aH (ah l 0)) ((É (Æ 97)):UInt8) ((É (Æ 65)):UInt8)=_:=b;simp only [Z,d,b];rfl
 .refine((iS (ah l 0)).and (VK (aH (ah l 0)) 65 97 (by decide) (by decide) (by omega))).nm fun n ⟨d,b⟩=> ?_
  rw [te,a0];have b:sM n (aH (ah l 0)) ((É (Æ 65)):UInt8) ((É (Æ 97)):UInt8)=_:=b;simp only [Z,d,b];rfl
theorem CP {l:List V} (_:1<=l.length) (i:Nat):ah (l++[v0]) i=ah l i:=by
 unfold ah;by_cases h:i<l.length
 .simp [List.getElem?_append_left h]
 .simp only [List.getD_eq_getElem?_getD]
  rw [ø (by omega),List.getElem?_eq_none (show l.length<=i by omega)]
  cases i-l.length<;>simp
theorem aDW {l:List V} {nm:O} (b:l.length=1):iT nm (l++[v0])=iT nm l:=by
 unfold iT tB;rw [CP (by omega),CP (by omega),CP (by omega),if_neg (show ¬(l++[v0]).length=3 by simp;omega),if_neg (show ¬l.length=3 by omega)]
theorem aDX {l:List V} (b: ∀v∈l,bM v): ∀v∈l++[v0],bM v:=fun v h=>by
 rcases å.1 h with h|h
 .exact b v h
 .rw [List.mem_singleton.1 h];exact sj
theorem aDY (nm:O) (l:List V) (g: ∀v∈l,bM v) (j:1<=l.length/\l.length<=3) (f:nm∈iG):W fun n=>HE n nm l=some (iT nm l):=by
 by_cases b:l.length=1/\(nm=CI\/nm=KS)
 .refine(VU nm (l++[v0]) (aDX g) (by simp;omega) (fun h=>absurd h (by rw [Ê,List.length_singleton];omega)) f).nm fun n d=> ?_
  have d:we n nm (l++[(0,0,[])])=some (iT nm (l++[v0])):=d;rw [RY,hJ (show (l.length:Int)<2 by omega),Y]
  have k:(cond (nm==([105,110,100,101,120]:O)) (some true) (some (nm==([115,117,98,115,116,114]:O))))=some true:=by
   rcases b.2 with rfl|rfl<;>rfl
  rw [k,Z,Y,bS (by omega),Y,bS (by omega),Y,d,aDW b.1];rfl
 .refine(VU nm l g j (fun h=> ?_) f).nm fun n d=> ?_
  .rcases KT f with k|k|k|k|k|k
   .exact .inl k
   .exact absurd ⟨h,.inr k⟩ b
   .exact absurd ⟨h,.inl k⟩ b
   .exact .inr (.inl k)
   .exact .inr (.inr (.inl k))
   .exact .inr (.inr (.inr k))
  .rw [RY]
   by_cases i:l.length=1
   .have k1:(nm==([105,110,100,101,120]:O))=false:=VT fun k=>b ⟨i,.inl k⟩
    have k2:(nm==([115,117,98,115,116,114]:O))=false:=VT fun k=>b ⟨i,.inr k⟩
    rw [hJ (show (l.length:Int)<2 by omega),k1,k2]
    simp only [Y,ez,Z,d]
   .rw [hL (show ¬(l.length:Int)<2 by omega)]
    simp only [ez,Z,d]
def iU (l:List V):List V:=if l.length=1 then l++[v0]else l
theorem aDZ {l:List V} (h:1<=l.length):2<=(iU l).length/\((iU l).length=3↔l.length=3)/\(l.length<=3->(iU l).length<=3):=by
 unfold iU;split
 .simp;omega
 .omega
theorem aEa (l:List V) (nm:O) (d:1<=l.length/\l.length<=3):W fun n=>BJ n n 0 0 [] l nm=some (.inl (0,0,[],iU l,nm)):=by
 refine(W.ge 2).mono fun n f=> ?_
 obtain⟨n,rfl⟩: ∃k,n=k+2:=⟨n-2,by omega⟩
 rw [Ta,iU];by_cases h:l.length=1
 .have b:Bm (n+2) l=some l:=by rw [Vv,bS (by omega)];rfl
  rw [hJ (by omega),Y,b,Z,bS (by omega),Y,Ta,hL (by simp;omega),if_pos h];rfl
 .rw [hL (by omega),if_neg h];rfl
theorem aEb {l:List V} (b:1<=l.length) (i:Nat):ah (iU l) i=ah l i:=by
 unfold iU;split
 .exact CP b i
 .rfl
theorem at0 {l:List V} {i:Nat} (h:i<(iU l).length) (b:1<=l.length):aN (iU l) i=some (ah l i):=by
 have k:=fh h;rw [Ì]at k;rw [k,<-aEb b,ah];simp [h]
theorem aEc (nm:O) (l:List V) (m: ∀v∈l,bM v) (j:1<=l.length/\l.length<=3) (u:nm∈iG):W fun n=>IX n nm l=some (iT nm l):=by
 have p:=eL m 0;have k:=eL m 1;have s:=eL m 2;have l0:=kJ p;have l1:=kJ k;have hp:=aDZ j.1;have a0:=at0 (l:=l) (i:=0) (by omega) j.1
 have q:=at0 (l:=l) (i:=1) (by omega) j.1
 have g0:decide ((0:Int)<=0/\(0:Int)<((iU l).length:Int))=true:=hJ (by omega)
 have g1:decide ((0:Int)<=1/\(1:Int)<((iU l).length:Int))=true:=hJ (by omega)
 have base:=(aEa l nm j).and (mK (ah l 0));rcases KT u with rfl|rfl|rfl|rfl|rfl|rfl
 .refine(base.and (mJ (1000000*((aH (ah l 0)).length:Int)))).nm fun n ⟨⟨d,f⟩,b⟩=> ?_
  have w:wrap .i64 (((aH (ah l 0)).length:Int)*1000000)=1000000*((aH (ah l 0)).length:Int):=by rw [À];omega
  rw [rh,d,Z,cR,g0,Y,a0,Z,f,Z,w,b];rfl
 .obtain⟨w1,b1⟩:=CO k
  obtain⟨w2,b2⟩:=CO s;by_cases t:l.length=3
  .have a2:=at0 (l:=l) (i:=2) (by omega) j.1
   have g2:decide ((0:Int)<=2/\(2:Int)<((iU l).length:Int))=true:=hJ (by omega)
   have z:wrap .i64 (wrap .i64 (cP (aJ (ah l 1))+cP (aJ (ah l 2)))-1)=cP (aJ (ah l 1))+cP (aJ (ah l 2))-1:=by rw [À,À];omega
   refine((((base.and (CF k)).and (CF s)).and (VQ (aH (ah l 0)) (cP (aJ (ah l 1))) (cP (aJ (ah l 1))+cP (aJ (ah l 2))-1) (by omega) (by omega))).and (rk (nO (aH (ah l 0)) (cP (aJ (ah l 1))) (cP (aJ (ah l 1))+cP (aJ (ah l 2))-1)))).nm fun n ⟨⟨⟨⟨⟨d,f⟩,b⟩,g⟩,h⟩,r⟩=> ?_
   rw [rh,d,Z,cR,g0,Y,a0,Z,f,Z];simp only [g1,g2,q,a2,Z,b,g,z,h,r,Y];rw [hJ (show (2:Int)<((iU l).length:Int) by omega),iT,tB,if_pos t];rfl
  .refine(((base.and (CF k)).and (VQ (aH (ah l 0)) (cP (aJ (ah l 1))) ((aH (ah l 0)).length:Int) (by omega) (by omega))).and (rk (nO (aH (ah l 0)) (cP (aJ (ah l 1))) ((aH (ah l 0)).length:Int)))).nm fun n ⟨⟨⟨⟨d,f⟩,b⟩,h⟩,r⟩=> ?_
   rw [rh,d,Z,cR,g0,Y,a0,Z,f,Z];simp only [g1,q,Z,b,h,r,Y];rw [hL (show ¬(2:Int)<((iU l).length:Int) by omega),iT,tB,if_neg t];rfl
 .have hb:=tA (aH (ah l 1)) (aH (ah l 0))
  have w0:wrap .i64 (cJ (aH (ah l 1)) (aH (ah l 0))+1)=cJ (aH (ah l 1)) (aH (ah l 0))+1:=by rw [À];omega
  have w:wrap .i64 ((cJ (aH (ah l 1)) (aH (ah l 0))+1)*1000000)=1000000*(cJ (aH (ah l 1)) (aH (ah l 0))+1):=by rw [À];omega
  refine(((base.and (mK (ah l 1))).and (aDT (aH (ah l 0)) (aH (ah l 1)) (by omega))).and (mJ (1000000*(cJ (aH (ah l 1)) (aH (ah l 0))+1)))).nm fun n ⟨⟨⟨⟨d,f⟩,b⟩,g⟩,h⟩=> ?_
  rw [rh,d,Z,cR,g0,Y,a0,Z,f,Z];simp only [g1,q,Z,b,g,w0,w,h,Y];rfl
 .refine(((base.and (nJ p.2.1)).and (Vr (jL p))).and (mJ (jh (aJ (ah l 0))))).nm fun n ⟨⟨⟨⟨d,f⟩,b⟩,g⟩,h⟩=> ?_
  rw [rh,d,Z,cR,g0,Y,a0,Z,f,Z];simp only [Z,b,g,h,Y];rfl
 .refine((base.and (VL (aH (ah l 0)) 97 65 (by decide) (by decide) (by omega))).and (rk (mM 97 65 (aH (ah l 0))))).nm fun n ⟨⟨⟨d,f⟩,b⟩,g⟩=> ?_
  have b:sZ n (aH (ah l 0)) ((É (Æ 97)):UInt8) ((É (Æ 65)):UInt8)=_:=b;rw [rh,d,Z,cR,g0,Y,a0,Z,f,Z];simp only [Z,b,g];rfl
 .refine((base.and (VL (aH (ah l 0)) 65 97 (by decide) (by decide) (by omega))).and (rk (mM 65 97 (aH (ah l 0))))).nm fun n ⟨⟨⟨d,f⟩,b⟩,g⟩=> ?_
  have b:sZ n (aH (ah l 0)) ((É (Æ 65)):UInt8) ((É (Æ 97)):UInt8)=_:=b;rw [rh,d,Z,cR,g0,Y,a0,Z,f,Z];simp only [Z,b,g];rfl
theorem aEd (nm:O) {l:List V} (d: ∀v∈l,bM v):bM (iT nm l):=by
 have f:=eL d 0;have g:=eL d 1;have b:=kJ f;unfold iT;split
 .exact mh (fY (by omega))
 split
 .exact mh (ZX (jL f))
 split
 .have h:=tA (aH (ah l 1)) (aH (ah l 0))
  exact mh (fY (by omega))
 split
 .exact sk (by simpa [mM]using b)
 split
 .exact sk (by simpa [mM]using b)
 .exact sk (Ĩ (aDU _ _ _) b)
theorem VV {s:O} (h:jM s) {i:Nat} (d:1<=i) (b:i<s.length): ¬(s[i]).toNat<=(s[i-1]'(by omega)).toNat:=by
 have:=List.pairwise_iff_getElem.1 h (i-1) i (by omega) b (by omega)
 omega
theorem VW {s:O} {i:Nat} (b:1<=i) (d:i<s.length) (f:s.length<=1048576):bG s (wrap .i64 ((i:Int)-1))=some (s[i-1]'(by omega)):=by
 rw [show wrap .i64 ((i:Int)-1)=((i-1:Nat):Int) by rw [À];omega,df (by omega)]
theorem VX {s:O} (d:s.length<=1048576) (h:jM s) (n:Nat): ∀k m (i:Nat),s.length-i=k->k<m->1<=i->Am n m (i:Int) s=some (.inl ())
 |k,0,i,e,hm,hi=>by omega
 |k,m+1,i,e,hm,hi=>by
  rw [auA];by_cases b:i<s.length
  .rw [bk b,VW hi b d,df b]
   simp only [Y,Z];have k:=VV h hi b;rw [hL (by omega),ez,dq b (by omega)]
   exact VX d h n _ m (i+1) rfl (by omega) (by omega)
  .rw [hL (by omega)];rfl
theorem aEe {s:O} (b:s.length<=1048576) (h:jM s):W fun n=>sH n s=some true:=by
 refine(W.ge (s.length+1)).nm fun n d=> ?_
 rw [atY,show(1:Int)=((1:Nat):Int)from rfl,VX b h n _ n 1 rfl (by omega) (by omega)];rfl
theorem KU {s:O} (d:s.length<=1048576) (h:jM s) (n:Nat) (o c:Int) (neg:Bool) (ks:aT): ∀k m (i:Nat),s.length-i=k->k<m->i<=s.length->wN n m o c s neg ks (i:Int) (s.length:Int)=some (.inl (o,c,s,neg,ks))
 |k,0,i,e,hm,hi=>by omega
 |k,m+1,i,e,hm,hi=>by
  rw [azA];by_cases b:i<s.length
  .rw [bk b,Y,dq b (by omega)]
   by_cases f:0<i
   .rw [hJ (show (0:Int)<(i:Int) by omega),VW f b d,df b]
    simp only [Y,Z];have k:=VV h f b;rw [hL (by omega),ez]
    exact KU d h n o c neg ks _ m (i+1) rfl (by omega) (by omega)
   .rw [hL (show ¬(0:Int)<(i:Int) by omega),ez]
    exact KU d h n o c neg ks _ m (i+1) rfl (by omega) (by omega)
  .rw [hL (by omega)];rfl
theorem VY (t q:O): ∀p:O,0<=cJ t (p++(t++q))
 | []=>by
  rw [VO]
  .exact ý _
  .rw [ê,ç];exact List.prefix_append _ _
 |b::p=>by
  have ih:=VY t q p;rw [ĝ,cJ];cases Ú t (b::(p++(t++q)))
  .rw [ez,hJ ih,Y];omega
  .exact ý _
theorem aEf (n:Nat) (s:O):sR (n+1) s [93]=some (decide (0<=Ü s 93)):=by kernel_rfl
theorem aEg (n:Nat) (s:O):sR (n+1) s [92,93,94]=cond (á (Þ (α:=UInt8) s) 4000000000) (some (decide (0<=cJ [92,93,94] s))) none:=by kernel_rfl
theorem KV {s:O} (h:jM s):s.length<=256:=by
 have key: ∀(l:O) (k:Nat),jM l->(∀b∈l,k<=b.toNat)->l.length+k<=256\/l=[]:=by
  intro l;induction l with
  |nil=>intro k _ _;exact .inr rfl
  |cons a l ih=>
   intro k d f;have m:=a.toNat_lt;have hk:=f a (by simp)
   obtain⟨g,i⟩:=List.pairwise_cons.1 d;rcases ih (a.toNat+1) i (fun b j=>g b j)with h|h
   .left;simp only [Á];omega
   .left;rw [h];simp only [Á,Ë];omega
 rcases key s 0 h (fun _ _=>by omega)with h|h
 .omega
 .rw [h];simp
theorem aEh {s:O} {neg:Bool} (h:yI s neg) (o c:Int) (ks:aT):W fun n=>By n o c s neg ks=some true:=by
 obtain⟨f,d,g,b⟩:=h;have m:=KV d;refine(W.ge (s.length+2)).nm fun n r=> ?_
 obtain⟨n,rfl⟩: ∃q,n=q+1:=⟨n-1,by omega⟩
 have i:(s==([]:O))=false:=by simpa using f
 rw [ayZ,show(0:Int)=((0:Nat):Int)from rfl,KU (by omega) d (n+1) o c neg ks _ (n+1) 0 rfl (by omega) (by omega),Z,cR]
 dsimp only
 rw [aEf,aEg,Ó (by omega),i]
 have k:(cond (decide (0<=Ü s 93)) (some (!decide (0<=cJ [92,93,94] s))) (some false):Option Bool)=some false:=by
  by_cases hm:(93:UInt8)∈s
  .obtain⟨p,q,e⟩:=g hm
   rw [hJ ((tn s 93).2.2 hm),Y,e,hJ (VY _ _ _)];rfl
  .rw [hL (fun k=>hm ((tn s 93).2.1 k))];rfl
 simp only [Z,Y]at k |-;rw [k];rcases b with rfl|b
 .rfl
 .have j:(s==([94]:O))=false:=by simpa using b
  rw [j];cases neg<;>rfl
theorem KW: ∀(ks:List Tr) (a:Int),0<=a->(∀k∈ks,0<=dh k/\dh k<=ef k)->a<=fX a ks/\(∀k∈ks,dh k<=fX a ks)/\fX a ks<=a+cA ks
 | [],a,f,h=>by rw [fX,cA];exact⟨ý _,fun k hk=>(by cases hk),by omega⟩
 |t::r,a,f,h=>by
  have g:=h t (by simp)
  rw [fX,cA];have key: ∀b:Int,a<=b->dh t<=b->b<=a+ef t->a<=fX b r/\(∀k∈t::r,dh k<=fX b r)/\fX b r<=a+((ef t+cA r:Nat):Int):=fun b d i j=>by
   obtain⟨i1,i2,i3⟩:=KW r b (by omega) (fun k hk=>h k (by simp [hk]))
   refine⟨by omega,fun k hk=> ?_,by omega⟩
   rcases è.1 hk with rfl|hk
   .omega
   .exact i2 k hk
  by_cases d:a<dh t
  .rw [hJ d,Y];exact key _ (by omega) (by omega) (by omega)
  .rw [hL d,ez];exact key _ (by omega) (by omega) (by omega)
theorem CQ: ∀ {ks:List Tr} {k:Tr},k∈ks->ef k<=cA ks
 |a::r,k,h=>by
  rw [cA];rcases è.1 h with rfl|h
  .omega
  .have:=CQ h;omega
theorem KX {t:Tr} (h:fP t):ef t<=1000000->1<=dh t/\dh t<=ef t/\dh t=fX 0 (dO t)+1:=by
 induction h with
 |mk h k ih=>
  rename_i t;intro d;rw [EW]at d |-;obtain⟨i1,i2,i3⟩:=KW (dO t) 0 (ý _) (fun x b=>by
   have:=CQ b;have:=ih x b (by omega)
   omega)
  have e:dh t=fX 0 (dO t)+1:=by rw [Kj,À];omega
  rw [e];omega
theorem aEi {t:Tr} (h:fP t) (d:ef t<=1000000) {x:Tr} (b:x∈dO t):dh x+1<=dh t:=by
 obtain⟨-, -,e⟩:=KX h d;obtain⟨h,k⟩:=h;rw [EW]at d;have:=(KW (dO t) 0 (ý _) (fun x b=>by
   have f:=CQ b;have:=KX (k x b) (by omega)
   omega)).2.1 x b
 omega
theorem VZ {o c:Int} {s:O} {neg:Bool} {ks:List Tr} (d:ks.length<=1048576) {n:Nat} (h: ∀x∈ks,wa n (aF x).1 (aF x).2.1 (aF x).2.2.1 (aF x).2.2.2.1 (aF x).2.2.2.2=some true): ∀k m (i:Nat),ks.length-i=k->k<m->i<=ks.length->Al n m o c s neg ks (i:Int)=some (.inl (o,c,s,neg,ks))
 |k,0,i,e,hm,hi=>by omega
 |k,m+1,i,e,hm,hi=>by
  rw [atX];by_cases b:i<ks.length
  .rw [bk b,Y,mE b,Z,h _ (Å b),dq b (by omega)]
   exact VZ d h _ m (i+1) rfl (by omega) (by omega)
  .rw [hL (by omega)];rfl
theorem aEj {o c:Int} {s:O} {neg:Bool} {k:Nat} (h:EV o c s neg k) {n:Nat} (hu:jM s->sH n s=some true) (i: ∀x lo hi:Int,cq n x lo hi=some (bo (In x lo hi))):
  cond (o==(1:Int)) (((cq n c 0 255).bind fun f=>cond f (cond (s==([]:O)) (cond (!neg) (some ((k:Int)==(0:Int))) (some false)) (some false)) (some false)).bind fun d=>some d) (cond (o==(3:Int)) ((cond (c==(0:Int)) (cond (!(s==([]:O))) ((sH n s).bind fun f=>cond f (some ((k:Int)==(0:Int))) (some false)) (some false)) (some false)).bind fun d=>some d) (cond (o==(6:Int)) ((cond (c==(0:Int)) (cond (s==([]:O)) (cond (!neg) (some (decide ((2:Int)<=(k:Int)))) (some false)) (some false)) (some false)).bind fun d=>some d) (cond (o==(7:Int)) ((cond (c==(0:Int)) (cond (s==([]:O)) (cond (!neg) (some (decide ((2:Int)<=(k:Int)))) (some false)) (some false)) (some false)).bind fun d=>some d) (cond (o==(8:Int)) ((cond (c==(0:Int)) (cond (s==([]:O)) (cond (!neg) (some ((k:Int)==(1:Int))) (some false)) (some false)) (some false)).bind fun d=>some d) (cond (o==(9:Int)) ((cond (c==(0:Int)) (cond (s==([]:O)) (cond (!neg) (some ((k:Int)==(1:Int))) (some false)) (some false)) (some false)).bind fun d=>some d) (cond (o==(10:Int)) ((cond (c==(0:Int)) (cond (s==([]:O)) (cond (!neg) (some ((k:Int)==(1:Int))) (some false)) (some false)) (some false)).bind fun d=>some d) (((cq n o 2 11).bind fun f=>cond f (cond (c==(0:Int)) (cond (s==([]:O)) (cond (!neg) (some ((k:Int)==(0:Int))) (some false)) (some false)) (some false)) (some false)).bind fun d=>some d)))))))=some true:=by
 rcases h with⟨rfl,a,b,rfl,rfl,rfl⟩|⟨rfl,rfl,⟨a,b, -⟩,rfl⟩|⟨g,rfl,rfl,rfl,hk⟩|⟨g,rfl,rfl,rfl,rfl⟩|⟨g,rfl,rfl,rfl,rfl⟩
 .rw [i,aA ⟨a,b⟩];rfl
 .have j:(s==([]:O))=false:=by simpa using a
  rw [hu b,j];rfl
 .have e:decide ((2:Int)<=(k:Int))=true:=hJ (by omega)
  rcases g with rfl|rfl<;>rw [e]<;>rfl
 .rcases g with rfl|rfl|rfl<;>rfl
 .rcases g with rfl|rfl|rfl|rfl<;>rw [i,i,aA (show In _ 2 11 from⟨by omega,by omega⟩)]<;>rfl
theorem Wa:W fun n=> ∀x lo hi:Int,cq n x lo hi=some (bo (In x lo hi)):=W.succ (W.of fun n x lo hi=>by
 obtain⟨N,h⟩:=cM x lo hi;rw [<-h (max N (n+1)) (Nat.le_max_left _ _)];obtain⟨q,b⟩: ∃q,max N (n+1)=q+1:=⟨max N (n+1)-1,by omega⟩
 rw [b,xc,xc])
theorem aEk {t:Tr} (h:fP t) (g:ia t):W fun n=>wa n (aF t).1 (aF t).2.1 (aF t).2.2.1 (aF t).2.2.2.1 (aF t).2.2.2.2=some true:=by
 induction h with
 |mk h k ih=>
  rename_i t;obtain⟨p,hk⟩:=g;have b:W fun n=>jM (aF t).2.2.1->sH n (aF t).2.2.1=some true:=by
   by_cases d:jM (aF t).2.2.1
   .exact(aEe (by have:=KV d;omega) d).mono fun n e _=>e
   .exact W.of fun n k=>absurd k d
  refine((((W.all (dO t) fun x f=>ih x f (hk x f)).and b).and Wa).and (W.ge ((dO t).length+1))).nm fun n ⟨⟨⟨i,j⟩,m⟩,q⟩=> ?_
  rw [atW,show(0:Int)=((0:Nat):Int)from rfl,show(aF t).2.2.2.2=dO t from rfl,VZ (by omega) i _ n 0 rfl (by omega) (by omega),Z,cR]
  exact aEj h j m
theorem Wb {ks:List Tr} (f:ks.length<=1048576) (d:Int) {n:Nat} (h: ∀x∈ks,Bx n d (aF x).1 (aF x).2.1 (aF x).2.2.1 (aF x).2.2.2.1 (aF x).2.2.2.2=some (false,d)): ∀k m (i:Nat),ks.length-i=k->k<m->i<=ks.length->Bw n m d (i:Int) ks (ks.length:Int)=some (.inl d)
 |k,0,i,e,hm,hi=>by omega
 |k,m+1,i,e,hm,hi=>by
  rw [ayX];by_cases b:i<ks.length
  .rw [bk b,Y,mE b,Z,h _ (Å b),dq b (by omega)]
   exact Wb f d h _ m (i+1) rfl (by omega) (by omega)
  .rw [hL (by omega)];rfl
theorem aEl {t:Tr} (h:fP t) (hs:ia t): ∀d:Int,ef t<=1000000->dh t<=d->d<=100->W fun n=>Bv n (aF t).1 (aF t).2.1 (aF t).2.2.1 (aF t).2.2.2.1 (aF t).2.2.2.2 d=some true:=by
 induction h with
 |mk h k ih=>
  rename_i t;intro d m hd u;obtain⟨hl,hk⟩:=hs;have hr:fP t:=.mk h k;obtain⟨d1, -, -⟩:=KX hr m;have hw:wrap .i64 (d-1)=d-1:=by rw [À];omega
  have g:W fun n=> ∀x∈dO t,Bx n d (aF x).1 (aF x).2.1 (aF x).2.2.1 (aF x).2.2.2.1 (aF x).2.2.2.2=some (false,d):=by
   refine W.all (dO t) fun x j=> ?_
   have ah:=aEi hr m j;have ai:=CQ j;rw [EW]at m;refine(ih x j (hk x j) (d-1) (by omega) (by omega) (by omega)).nm fun n e=> ?_
   rw [ayY,hw,e];rfl
  have p:W fun n=>jn n d (dO t)=some (false,d):=by
   refine W.succ ((g.and (W.ge ((dO t).length+1))).nm fun n ⟨q,e2⟩=> ?_)
   rw [ayV,ayW,show(0:Int)=((0:Nat):Int)from rfl,Wb (by omega) d q _ n 0 rfl (by omega) (by omega)];rfl
  have f:W fun n=>yI (aF t).2.2.1 (aF t).2.2.2.1->By n (aF t).1 (aF t).2.1 (aF t).2.2.1 (aF t).2.2.2.1 (aF t).2.2.2.2=some true:=by
   by_cases ha:yI (aF t).2.2.1 (aF t).2.2.2.1
   .exact(aEh ha _ _ _).mono fun n e _=>e
   .exact W.of fun n k=>absurd k ha
  refine((p.and f).and (di (aF t).2.1 0 255)).nm fun n ⟨⟨q,e2⟩,e3⟩=> ?_
  have z:(d==(0:Int))=false:=by simp;omega
  have r:jn n d (aF t).2.2.2.2=some (false,d):=q;rw [ayU,z,r,e3];have hlen:(dO t).length=(aF t).2.2.2.2.length:=rfl;rw [hlen]at h;generalize (aF t).2.2.2.2.length=kl at*
  generalize (aF t).1=o at*
  generalize (aF t).2.1=c at*
  generalize (aF t).2.2.1=s at*
  generalize (aF t).2.2.2.1=neg at*
  rcases h with⟨rfl,a,b,rfl,rfl,rfl⟩|⟨rfl,rfl,f,rfl⟩|⟨i,rfl,rfl,rfl,al⟩|⟨i,rfl,rfl,rfl,rfl⟩|⟨i,rfl,rfl,rfl,rfl⟩
  .rw [aA ⟨a,b⟩];rfl
  .rw [e2 f];rfl
  .have e:decide ((1:Int)<(kl:Int))=true:=hJ (by omega)
   rcases i with rfl|rfl<;>rw [e]<;>rfl
  .rcases i with rfl|rfl|rfl<;>rfl
  .rcases i with rfl|rfl|rfl|rfl<;>rfl
theorem aEm {t:Tr} (h:fP t) (b:ia t) (_:ef t<=1000000) (hd:dh t<=12):W fun n=>Hw n (aF t).1 (aF t).2.1 (aF t).2.2.1 (aF t).2.2.2.1 (aF t).2.2.2.2=some true:=by
 refine((Kk b).2.and (aEk h b)).nm fun n ⟨d,f⟩=> ?_
 rw [atV,d,Z,hJ hd,Y,f];rfl
theorem aEn {t:Tr} (h:fP t) (b:ia t) (d:ef t<=1000000) (hd:dh t<=12):W fun n=>IP n (aF t).1 (aF t).2.1 (aF t).2.2.1 (aF t).2.2.2.1 (aF t).2.2.2.2=some true:=by
 refine(aEl h b 12 d hd (by omega)).nm fun n f=> ?_
 rw [ayT,f];rfl
def pl (o a b:Int):Pl:=(o,0,[],false,a,b)
theorem mN {α:Type} (l:List α) (x y:α) (r:List α):(l++x::r).set l.length y=l++y::r:=by
 rw [Ĉ _ _ (Î _),ĩ];rfl
theorem jU {α:Type} (l:List α) (x:α) (r:List α):aN (l++x::r) l.length=some x:=by
 show(l++x::r)[l.length]? =some x;rw [ø (Î _),ĩ];rfl
theorem nP {α:Type} (l:List α) (x:α) (r:List α):decide ((0:Int)<=(l.length:Int)/\(l.length:Int)<((l++x::r).length:Int))=true:=hJ (by simp;omega)
theorem xu (l:List Pl) (o:Int) (b:l.length<=1048576):W fun n=>mB n l o=some (l++[pl o 0 0]):=W.succ (W.of fun n=>by
 rw [Cj,bS (by omega)];rfl)
def jt (S:Tr->Nat->List Pl):List Tr->Nat->List Pl
 | [],_=>[]
 |k::r,b=>S k b++jt S r (b+(S k b).length)
def dG (S:Tr->Nat->List Pl) (e:Int):List Tr->Nat->List Pl
 | [],_=>[]
 |k::r,b=>pl 7 ((b+1:Nat):Int) ((b+2+(S k (b+1)).length:Nat):Int)::(S k (b+1)++pl 6 e 0::dG S e r (b+2+(S k (b+1)).length))
def il (S:Tr->Nat->List Pl):List Tr->Nat->List Int
 | [],_=>[]
 |k::r,b=>((b+1+(S k (b+1)).length:Nat):Int)::il S r (b+2+(S k (b+1)).length)
def ju (t:Tr) (S:Nat->List Pl):Prop:=
 (∀b,(S b).length+2<=5*ef t)/\ ∀l:List Pl,l.length+6*ef t<=1000000->
  (W fun n=>mA n l (aF t).1 (aF t).2.1 (aF t).2.2.1 (aF t).2.2.2.1 (aF t).2.2.2.2=some (l++S l.length))/\
  (W fun n=>jQ n l (aF t).1 (aF t).2.1 (aF t).2.2.1 (aF t).2.2.2.1 (aF t).2.2.2.2=some (l++S l.length))
theorem Wc {S:Tr->Nat->List Pl}: ∀(ks:List Tr) (b:Nat),(∀k∈ks,ju k (S k))->(jt S ks b).length<=5*cA ks
 | [],b,h=>by simp [jt]
 |k::r,b,h=>by
  have d:=(h k (by simp)).1 b
  have f:=Wc r (b+(S k b).length) (fun k hk=>h k (by simp [hk]))
  rw [jt,cA,Ê];omega
theorem KY {S:Tr->Nat->List Pl} {e:Int}: ∀(ks:List Tr) (b:Nat),(∀k∈ks,ju k (S k))->(dG S e ks b).length<=5*cA ks
 | [],b,h=>by simp [dG]
 |k::r,b,h=>by
  have d:=(h k (by simp)).1 (b+1)
  have f:=KY (S:=S) (e:=e) r (b+2+(S k (b+1)).length) (fun k hk=>h k (by simp [hk]))
  rw [dG,cA,Á,Ê,Á];omega
theorem drop_cons {ks r:List Tr} {k:Tr} {i:Nat} (h:ks.drop i=k::r): ∃hi:i<ks.length,ks[i]=k/\ks.drop (i+1)=r:=by
 have hi:i<ks.length:=by
  by_cases c:i<ks.length
  .exact c
  .rw [Ą (by omega)]at h;cases h
 rw [Ä hi]at h;exact⟨hi,(List.cons.inj h).1,(List.cons.inj h).2⟩
theorem drop_nil {ks:List Tr} {i:Nat} (h:ks.drop i=[]):ks.length<=i:=č.1 h
theorem Wd {S:Tr->Nat->List Pl} {o c:Int} {s:O} {neg:Bool} {ks:List Tr} (f:ks.length<=1048576): ∀(r:List Tr) (i:Nat) (l:List Pl),ks.drop i=r->i<=ks.length->(∀k∈r,ju k (S k))->l.length+6*cA r<=1000000->
  W fun n=> ∀m,r.length<m->An n m o c s neg ks (i:Int) l=some (.inl (l++jt S r l.length))
 | [],i,l,e,hi,h,d=>W.of fun n m hm=>by
  obtain⟨m,rfl⟩: ∃q,m=q+1:=⟨m-1,by simp at hm;omega⟩
  have:=drop_nil e;rw [RO,hL (by omega),ez,jt,Ø]
 |k::r,i,l,e,hi,h,d=>by
  obtain⟨b,g,j⟩:=drop_cons e;rw [cA]at d;have hk:=h k (by simp)
  have u:=hk.1 l.length;have ih:=Wd (o:=o) (c:=c) (s:=s) (neg:=neg) f r (i+1) (l++S k l.length) j (by omega) (fun k hk=>h k (by simp [hk])) (by rw [Ê];omega)
  refine((hk.2 l (by omega)).1.and ih).mono fun n ⟨p,t⟩ m hm=> ?_
  obtain⟨m,rfl⟩: ∃q,m=q+1:=⟨m-1,by simp at hm;omega⟩
  rw [RO,bk b,Y,mE b,g,Z,p,Z,dq b (by omega),t m (by simpa using hm),jt,Ê,î]
theorem We {S:Tr->Nat->List Pl} {ks:List Tr} (f:ks.length<=1048576): ∀(r:List Tr) (i:Nat) (l:List Pl),ks.drop i=r->i<=ks.length->(∀k∈r,ju k (S k))->l.length+6*cA r<=1000000->
  W fun n=> ∀m,r.length<m->Bz n m (i:Int) l ks (ks.length:Int)=some (.inl (l++jt S r l.length))
 | [],i,l,e,hi,h,d=>W.of fun n m hm=>by
  obtain⟨m,rfl⟩: ∃q,m=q+1:=⟨m-1,by simp at hm;omega⟩
  have:=drop_nil e;rw [SP,hL (by omega),ez,jt,Ø]
 |k::r,i,l,e,hi,h,d=>by
  obtain⟨b,g,j⟩:=drop_cons e;rw [cA]at d;have hk:=h k (by simp)
  have t:=hk.1 l.length;have ih:=We f r (i+1) (l++S k l.length) j (by omega) (fun k hk=>h k (by simp [hk])) (by rw [Ê];omega)
  refine((hk.2 l (by omega)).2.and ih).mono fun n ⟨p,s⟩ m hm=> ?_
  obtain⟨m,rfl⟩: ∃q,m=q+1:=⟨m-1,by simp at hm;omega⟩
  rw [SP,bk b,Y,mE b,g,Z,p,Z,dq b (by omega),s m (by simpa using hm),jt,Ê,î]
theorem Wf (S:Tr->Nat->List Pl) (k:Tr) (r:List Tr) (l:List Pl) (e:Int):(l++pl 7 ((l.length+1:Nat):Int) ((l.length+2+(S k (l.length+1)).length:Nat):Int)::(S k (l.length+1)++[pl 6 e 0]))++dG S e r (l++pl 7 ((l.length+1:Nat):Int) ((l.length+2+(S k (l.length+1)).length:Nat):Int)::(S k (l.length+1)++[pl 6 e 0])).length=l++dG S e (k::r) l.length:=by
 have b:(l++pl 7 ((l.length+1:Nat):Int) ((l.length+2+(S k (l.length+1)).length:Nat):Int)::(S k (l.length+1)++[pl 6 e 0])).length=l.length+2+(S k (l.length+1)).length:=by simp;omega
 rw [b,dG];simp
theorem Wg {S:Tr->Nat->List Pl} {ks:List Tr} (hl:ks.length<=1048576) (j:ks≠ []): ∀(r:List Tr) (i:Nat) (l:List Pl) (J:List Int),(ks.dropLast).drop i=r->i<=ks.dropLast.length->(∀k∈r,ju k (S k))->l.length+6*cA r+6<=1000000->J.length+r.length<=1048576->
  W fun n=> ∀m,r.length<m->Ao n m (i:Int) J ks l=some (.inl (J++il S r l.length,ks,l++dG S 0 r l.length))
 | [],i,l,J,e,hi,h,p,t=>W.of fun n m hm=>by
  obtain⟨m,rfl⟩: ∃q,m=q+1:=⟨m-1,by simp at hm;omega⟩
  have u:=drop_nil e;have z:0<ks.length:=ó.2 j;have h3:ks.dropLast.length=ks.length-1:=Ď;have hw:wrap .i64 ((ks.length:Int)-1)=((ks.length-1:Nat):Int):=by rw [À];omega
  rw [RP,hw,hL (by omega),ez,dG,il,Ø,Ø]
 |k::r,i,l,J,e,hi,h,p,t=>by
  obtain⟨u,z,h3⟩:=drop_cons e;have h4:ks.dropLast.length=ks.length-1:=Ď;have hw:wrap .i64 ((ks.length:Int)-1)=((ks.length-1:Nat):Int):=by rw [À];omega
  have h5:ks[i]'(by omega)=k:=by rw [<-z,List.getElem_dropLast]
  rw [cA]at p;have hk:=h k (by simp)
  have hb:=hk.1 (l.length+1);obtain⟨s,g⟩: ∃s,s=S k (l.length+1):=⟨_,rfl⟩
  have ai:s.length+2<=5*ef k:=g▸hb;have p1:=xu l 7 (by omega)
  have p2:=xu (l++[pl 7 0 0]++s) 6 (by simp;omega)
  have d:=(hk.2 (l++[pl 7 0 0]) (by simp;omega)).1
  rw [show (l++[pl 7 0 0]).length=l.length+1 by simp,<-g]at d
  simp only [Á]at t;have f:(l++pl 7 ((l.length+1:Nat):Int) ((l.length+2+s.length:Nat):Int)::(s++[pl 6 0 0])).length=l.length+2+s.length:=by simp;omega
  have ih:=Wg hl j r (i+1) (l++pl 7 ((l.length+1:Nat):Int) ((l.length+2+s.length:Nat):Int)::(s++[pl 6 0 0])) (J++[((l.length+1+s.length:Nat):Int)]) h3 (by omega) (fun k hk=>h k (by simp [hk])) (by rw [f];omega) (by simp;omega)
  refine(((p1.and p2).and d).and ih).mono fun n ⟨⟨⟨e1,e2⟩,e3⟩,e4⟩ m hm=> ?_
  obtain⟨m,rfl⟩: ∃q,m=q+1:=⟨m-1,by simp at hm;omega⟩
  have hr:l++[pl 7 0 0]++s++[pl 6 0 0]=l++pl 7 0 0::(s++[pl 6 0 0]):=by simp
  have hlen:(l++[pl 7 0 0]++s).length=l.length+1+s.length:=by simp;omega
  rw [RP,hw,hJ (show (i:Int)<((ks.length-1:Nat):Int) by omega),Y,e1,Z,mE (show i<ks.length by omega),h5,Z,e3,Z,bS (by omega),Y,e2,Z,hr,nP,Y,Ì,jU,Z,mN,nP,Y,jU,Z,mN,dq u (by omega),jS (by omega),hlen]
  have k1:=e4 m (by simpa using hm)
  have b:((l++((pl 7 0 0).1,(pl 7 0 0).2.1,(pl 7 0 0).2.2.1,(pl 7 0 0).2.2.2.1,((l.length+1:Nat):Int),(pl 7 0 0).2.2.2.2.2)::(s++[pl 6 0 0])).length:Int)=((l.length+2+s.length:Nat):Int):=by simp;omega
  rw [b];refine k1.trans ?_
  have ho:=Wf S k r l 0;rw [<-g]at ho;rw [ho,f,il,<-g];simp
theorem Wh {S:Tr->Nat->List Pl} {ks:List Tr} (hl:ks.length<=1048576) (p:List Tr): ∀(r:List Tr) (i:Nat) (l:List Pl) (J:List Int),ks.drop i=r->i<=ks.length->(∀k∈r,ju k (S k))->l.length+6*cA r+6<=1000000->J.length+r.length<=1048576->
  W fun n=> ∀m,r.length<m->BA n m (i:Int) J l ks p (ks.length:Int)=some (.inl (J++il S r l.length,p,l++dG S 0 r l.length))
 | [],i,l,J,e,hi,h,u,z=>W.of fun n m hm=>by
  obtain⟨m,rfl⟩: ∃q,m=q+1:=⟨m-1,by simp at hm;omega⟩
  have g:=drop_nil e;rw [SQ,hL (by omega),ez,dG,il,Ø,Ø]
 |k::r,i,l,J,e,hi,h,u,z=>by
  obtain⟨g,h2,h3⟩:=drop_cons e;rw [cA]at u;have hk:=h k (by simp)
  have hb:=hk.1 (l.length+1);obtain⟨s,j⟩: ∃s,s=S k (l.length+1):=⟨_,rfl⟩
  have ai:s.length+2<=5*ef k:=j▸hb;have d:=(hk.2 (l++[pl 7 ((l.length+1:Nat):Int) 0]) (by simp;omega)).2
  rw [show (l++[pl 7 ((l.length+1:Nat):Int) 0]).length=l.length+1 by simp,<-j]at d
  simp only [Á]at z;have f:(l++pl 7 ((l.length+1:Nat):Int) ((l.length+2+s.length:Nat):Int)::(s++[pl 6 0 0])).length=l.length+2+s.length:=by simp;omega
  have ih:=Wh hl p r (i+1) (l++pl 7 ((l.length+1:Nat):Int) ((l.length+2+s.length:Nat):Int)::(s++[pl 6 0 0])) (J++[((l.length+1+s.length:Nat):Int)]) h3 (by omega) (fun k hk=>h k (by simp [hk])) (by rw [f];omega) (by simp;omega)
  refine(d.and ih).mono fun n ⟨e3,e4⟩ m hm=> ?_
  obtain⟨m,rfl⟩: ∃q,m=q+1:=⟨m-1,by simp at hm;omega⟩
  have t:jQ n (l++[((7:Int),(0:Int),([]:O),false,((l.length+1:Nat):Int),(0:Int))]) (aF k).1 (aF k).2.1 (aF k).2.2.1 (aF k).2.2.2.1 (aF k).2.2.2.2=some (l++[pl 7 ((l.length+1:Nat):Int) 0]++s):=e3;have hr:l++[pl 7 ((l.length+1:Nat):Int) 0]++s++[((6:Int),(0:Int),([]:O),false,(0:Int),(0:Int))]=l++pl 7 ((l.length+1:Nat):Int) 0::(s++[pl 6 0 0]):=by simp [pl]
  have hlen:(l++[pl 7 ((l.length+1:Nat):Int) 0]++s).length=l.length+1+s.length:=by simp;omega
  have b:((l++pl 7 ((l.length+1:Nat):Int) 0::(s++[pl 6 0 0])).length:Int)=((l.length+2+s.length:Nat):Int):=by simp;omega
  rw [SQ,bk g,Y,mE g,h2,Z,bS (by omega),Y,jS (by omega),t,Z,bS (by omega),Y,hlen,bS (by omega),Y,hr,nP,Y,Ì,jU,Z,mN,b,dq g (by omega)]
  have k1:=e4 m (by simpa using hm)
  refine k1.trans ?_
  have ho:=Wf S k r l 0;rw [<-j]at ho;rw [ho,f,il,<-j];simp
theorem KZ {S:Tr->Nat->List Pl} {δ:Type} {z:List Pl} {J:List Int} {L:Nat->Int->List Pl->Option (Sum (List Pl) δ)} {e:Nat} (h:J.length<=1048576)
  (hx: ∀m (i:Nat) (l:List Pl) (j:Nat) (x:Pl),l.length=e->J[i]? =some (j:Int)->l[j]? =some x->L (m+1) (i:Int) l=L m ((i+1:Nat):Int) (l.set j (x.1,x.2.1,x.2.2.1,x.2.2.2.1,(e:Int),x.2.2.2.2.2)))
  (he: ∀m (i:Nat) l,J.length<=i->L (m+1) (i:Int) l=some (.inl l)): ∀(r:List Tr) (i m:Nat) (l:List Pl),J.drop i=il S r l.length->r.length<m->(l++(dG S 0 r l.length++z)).length=e->
  L m (i:Int) (l++(dG S 0 r l.length++z))=some (.inl (l++(dG S (e:Int) r l.length++z)))
 | [],i,m,l,f,hm,hlen=>by
  obtain⟨m,rfl⟩: ∃q,m=q+1:=⟨m-1,by simp at hm;omega⟩
  rw [il]at f;rw [he m i _ (č.1 f),dG,dG]
 |k::r,i,m,l,f,hm,hlen=>by
  obtain⟨m,rfl⟩: ∃q,m=q+1:=⟨m-1,by simp at hm;omega⟩
  obtain⟨s,p⟩: ∃s,s=S k (l.length+1):=⟨_,rfl⟩
  rw [il]at f;rw [dG,<-p]at hlen |-;rw [dG,<-p];rw [<-p]at f;have hi:J[i]? =some ((l.length+1+s.length:Nat):Int):=by
   have:=congrArg (fun q=>q[0]?) f
   simpa using this
  have hd:J.drop (i+1)=il S r (l.length+2+s.length):=by
   have:=congrArg List.tail f;rw [ĉ]at this;exact this
  have b: ∀t:Int,l++(pl 7 ((l.length+1:Nat):Int) ((l.length+2+s.length:Nat):Int)::(s++pl 6 t 0::dG S 0 r (l.length+2+s.length))++z)=(l++pl 7 ((l.length+1:Nat):Int) ((l.length+2+s.length:Nat):Int)::s)++pl 6 t 0::(dG S 0 r (l.length+2+s.length)++z):=fun t=>by simp
  have d: ∀q:List Pl,(l++pl 7 ((l.length+1:Nat):Int) ((l.length+2+s.length:Nat):Int)::s)++pl 6 (e:Int) 0::q=(l++pl 7 ((l.length+1:Nat):Int) ((l.length+2+s.length:Nat):Int)::(s++[pl 6 (e:Int) 0]))++q:=fun q=>by simp
  have hp:(l++pl 7 ((l.length+1:Nat):Int) ((l.length+2+s.length:Nat):Int)::s).length=l.length+1+s.length:=by simp;omega
  have g:(l++pl 7 ((l.length+1:Nat):Int) ((l.length+2+s.length:Nat):Int)::(s++[pl 6 (e:Int) 0])).length=l.length+2+s.length:=by simp;omega
  have u:=hx m i (l++(pl 7 ((l.length+1:Nat):Int) ((l.length+2+s.length:Nat):Int)::(s++pl 6 0 0::dG S 0 r (l.length+2+s.length))++z)) (l.length+1+s.length) (pl 6 0 0) hlen hi (by
   rw [b 0,<-hp];exact jU _ _ _)
  rw [u,b 0,<-hp,mN];have ih:=KZ h hx he r (i+1) m (l++pl 7 ((l.length+1:Nat):Int) ((l.length+2+s.length:Nat):Int)::(s++[pl 6 (e:Int) 0])) (by rw [g];exact hd) (by simpa using hm) (by
   rw [g,<-d];rw [b 0]at hlen;simpa using hlen)
  rw [g]at ih;rw [show ((pl 6 0 0).1,(pl 6 0 0).2.1,(pl 6 0 0).2.2.1,(pl 6 0 0).2.2.2.1,(e:Int),(pl 6 0 0).2.2.2.2.2)=pl 6 (e:Int) 0 from rfl,d];refine ih.trans ?_
  simp
end Go.Proofs.YtfpfjmahdneehaaGreatDoor
