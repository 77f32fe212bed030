/- Texts of the law, part 1. -/
import Derived.Test.YtfpfjmahdneehaaGreatDoorLaw
import Derived.Test.YtfpfjmahdneehaaGreatDoorEv4
open Go.IntKind renaming wrap_i64->À,wrap->ā,wrap_u8->ą,bits->Ę,wrap_u64->ĭ
open List renaming length_cons->Á,drop_eq_getElem_cons->Ä,getElem_mem->Å,drop_eq_nil_of_le->Ç,length_append->Ê,length_nil->Ë,takeWhile_cons->Ñ,getElem?_eq_getElem->Ô,append_nil->Ø,take_of_length_le->Ù,isPrefixOf->Ú,length_eq_zero_iff->Ý,length->Þ,tail_cons->ß,findIdx?_eq_some_iff_getElem->à,dropWhile_cons->â,drop_zero->ã,eq_nil_of_length_eq_zero->ä,mem_append->å,isPrefixOf_iff_prefix->ç,mem_cons->è,nil_append->ê,takeWhile_nil->ì,append_assoc->î,dropLast_concat_getLast->ñ,length_pos_iff->ó,replicate->ö,getElem?_append_right->ø,findIdx?_eq_none_iff->û,getElem_drop->ü,prefix_iff_eq_take->ÿ,isEmpty->ă,drop_of_length_le->Ą,singleton_append->Ć,set_append_right->Ĉ,tail_drop->ĉ,drop_eq_nil_iff->č,length_dropLast->Ď,reverse_append->ď,drop_succ_cons->Đ,findIdx?_cons->Ĕ,reverse_cons->ĕ,reverse_nil->ę,mem_reverse->Ě,mem_nil_iff->ě,length_drop->Ĝ,cons_append->ĝ
open Bool renaming not_true->Â,not_false->Ã,and_eq_false_iff->ć,and_true->ē,cond_self->ğ,and_self->ģ
open Int renaming toNat->Æ,toNat_natCast->Ì,tdiv->Ï,tmod->é,mul_tdiv_add_tmod->ï,natCast_mul->ò,natAbs_tdiv_le_natAbs->ú,le_refl->ý,ofNat_inj->đ,fdiv->ġ,mul_zero->ħ
open Option renaming bind_none->È,bind_eq_some_iff->Ð,bind->Ĭ
open UInt8 renaming ofNat->É,toNat_inj->Õ,not_lt->Ă,le_antisymm->Ė,lt_irrefl->Ğ
open Go.Lib renaming compareBytes->Í,decDigits->Ò,indexByte->Ü,decDigits_one->ė
open Nat renaming le_refl->Î,ble_eq_true_of_le->Ó,eq_zero_or_pos->Û,ble->á,div_add_mod->ë,add_sub_cancel_left->í,mul_comm->õ,le_of_not_lt->þ,sub_zero->Ā,mul_le_mul->Ċ,add_mul->ċ,mul_le_mul_right->Č,mul_assoc->Ē,mod_lt->Ġ,lt_irrefl->Ģ,add_assoc->Ĥ,zero_add->Ħ,le_trans->Ĩ,sub_self->ĩ,zero_le->Ī
open Go.Op renaming bytesLess->Ö
open Classical renaming not_not->æ,byContradiction->ù,em->ĥ,not_forall->ī
open And renaming intro->ð
open BitVec renaming ofInt->ô
open Go.IntKind
namespace Go.Proofs.YtfpfjmahdneehaaGreatDoor
open Go Go.Ev
theorem la (x:Nd):kO x=cQ x:=rfl
theorem wE (ks:List Tr) (i:Nat):lS ks i=(ks[i]?).map aF:=by
 show(nth ks i).map _=_;unfold nth;congr 1
 funext t
 cases t;rfl
theorem mb {ks:List Tr} {i:Nat} (h:i<ks.length):fO ks (i:Int)=some (aF ks[i]):=by
 have:fO ks (i:Int)=lS ks i:=rfl;rw [this,wE,Ô h]
 rfl
def flat (r:Nd×O×Bool):Int×(Int×O×Bool×List Tr×O×Bool):=(r.1.1,r.1.2.1,r.1.2.2.1,r.1.2.2.2.1,r.1.2.2.2.2,r.2)
theorem ld (s:O) (b:Bool):W fun n=>qA n s b=some (match eP s b with|some c=>(c,true,s,b)|none=>(0,false,s,b)):=by
 refine W.succ (W.of fun n=> ?_)
 rw [asZ];cases b
 .cases s with
  |nil=>rfl
  |cons c r=>
   have e:bF (c::r) (0:Int)=some c:=rfl;have d:((c::r:O)==[])=false:=rfl;rw [e,d];simp only [ez,Z,dS];rfl
 .cases h:(s==([]:O))
  .rfl
  .rfl
theorem mc (s:O):(s.drop 1).take (s.length-1)=s.tail:=by
 cases s with
 |nil=>rfl
 |cons c r=>simp
theorem aAk (c d:UInt8):(((c.toNat:Int) !=(d.toNat:Int))=true)↔c≠d:=by
 rw [bne_iff_ne,ne_eq,đ,Õ]
theorem wF (s:O) (b:Bool) (d:UInt8):W fun n=>nf n s b d=some (if eP s b=some d then(true,s.tail,b)else(false,s,b)):=by
 refine(ld s b).nm fun n e=> ?_
 rw [atB,e];cases h:eP s b with
 |none=>simp
 |some c=>
  obtain⟨rfl,f⟩:=fK h;have g:1<=s.length:=by rw [f];simp
  simp only [Z,Â,ez,mc];by_cases e:c=d
  .subst e
   rw [if_pos rfl,show(((c.toNat:Int) !=(c.toNat:Int))=false) by simp]
   simp only [ez];rw [hJ (by omega)]
   rfl
  .rw [if_neg (by simpa using e),(aAk c d).2 e]
   rfl
theorem SN (c:UInt8):W fun n=>Ae n c=some (gI c):=by
 refine W.succ (W.of fun n=> ?_)
 rw [atD];unfold gI;simp only [bp];by_cases b:c.toNat=42
 .rw [if_pos b,aB (by omega)];rfl
 rw [if_neg b,az (P:=(c.toNat:Int)=42) (by omega)]
 by_cases d:c.toNat=43
 .rw [if_pos d,aB (by omega)];rfl
 rw [if_neg d,az (P:=(c.toNat:Int)=43) (by omega)]
 by_cases f:c.toNat=63
 .rw [if_pos f,aB (by omega)];rfl
 rw [if_neg f,az (P:=(c.toNat:Int)=63) (by omega)]
 rfl
def cJ (p:Nat->Nat->Prop):Prop:= ∃N,∀n m,N<=n->N<=m->p n m
theorem cJ.diag {p:Nat->Nat->Prop} (h:cJ p):W fun n=>p n n:=by
 obtain⟨N,h⟩:=h;exact⟨N,fun n b=>h n n b b⟩
theorem cJ.step {p:Nat->Prop} {q r:Nat->Nat->Prop} (h:W p) (k:cJ q) (f: ∀n m,p n->q n m->r n (m+1)):cJ r:=by
 obtain⟨N,h⟩:=h;obtain⟨M,k⟩:=k;refine⟨max N M+1,fun n m b hm=> ?_⟩
 obtain⟨m,rfl⟩: ∃m',m=m'+1:=⟨m-1,by omega⟩
 exact f n m (h n (by omega)) (k n m (by omega) (by omega))
theorem cJ.stop {p:Nat->Prop} {r:Nat->Nat->Prop} (h:W p) (f: ∀n m,p n->r n (m+1)):cJ r:=by
 obtain⟨N,h⟩:=h;refine⟨N+1,fun n m b hm=> ?_⟩
 obtain⟨m,rfl⟩: ∃m',m=m'+1:=⟨m-1,by omega⟩
 exact f n m (h n (by omega))
theorem oS {n:Nat} (h:n<=1000):á n aD=true:=Ó (by unfold aD;omega)
theorem SO (n:Nat) (s:O) (c:UInt8):ss (n+1) s c=some (Ü s c):=by kernel_rfl
theorem qJ (c:UInt8):wrap .i64 (c.toNat:Int)=(c.toNat:Int):=by have:=c.toNat_lt;rw [À];omega
theorem Jl (n:Nat) (f:O) (g:Bool) (i k:Int) (p:O) (q:Bool) (r s:Int) (t:O) (u:Bool) (lo hi:UInt8) (has:List Bool) (b:O) (d:Int) (hn:300<=n) (z:has.length=256):
  ng n n f g i k p q r s t u (lo.toNat:Int) has b d (hi.toNat:Int)=some (.inl (f,g,i,k,p,q,r,s,t,u,dI has lo.toNat (hi.toNat+1-lo.toNat),b,d)):=by
 have h1:=lo.toNat_lt;have h2:=hi.toNat_lt;refine DX (hi:=hi.toNat) (L:=fun m j h=>ng n m f g i k p q r s t u j h b d (hi.toNat:Int)) (out:=fun h=>(f,g,i,k,p,q,r,s,t,u,h,b,d)) (by omega) (fun m j h hj hh=> ?_) (fun m j h hj=> ?_) _ n lo.toNat has rfl (by omega) z
 .rw [Rf,hJ (by omega),hJ (by omega),ff (by omega)]
  rfl
 .rw [Rf,hL (by omega)]
  rfl
theorem aAl (n:Nat) (j:300<=n) (rest body:O) (nt:Bool) (z: ∀c∈body,c.toNat≠93) (ad:body.length<=100): ∀k m (i:Nat) has bad,body.length-i<=k->k<m->has.length=256->i<=body.length->
  oL n m rest bad 0 0 [] false 3 0 [] nt has (i:Int) body=some (.inl (rest,(setB (body.drop i) has bad).2,0,0,[],false,3,0,[],nt,(setB (body.drop i) has bad).1)):=by
 intro k;induction k with
 |zero=>
  intro m i has bad hk hm b hi;obtain⟨m,rfl⟩: ∃m',m=m'+1:=⟨m-1,by omega⟩
  obtain rfl:i=body.length:=by omega
  rw [Jg,ck,Ç (Î _)];rfl
 |succ k ih=>
  intro m i has bad hk hm b hi;obtain⟨m,rfl⟩: ∃m',m=m'+1:=⟨m-1,by omega⟩
  by_cases d:i<body.length
  .have p:wrap .i64 ((i:Int)+1)=((i+1:Nat):Int):=by rw [À];omega
   have w2:wrap .i64 ((i:Int)+2)=((i+2:Nat):Int):=by rw [À];omega
   have w3:wrap .i64 (((i+2:Nat):Int)+1)=((i+3:Nat):Int):=by rw [À];omega
   have q:body.drop i=body[i]::body.drop (i+1):=Ä d;have s:(has.set body[i].toNat true)=dI has body[i].toNat 1:=rfl;have one: ∀f,ng n n rest f 0 0 [] false 3 0 [] nt (body[i].toNat:Int) has body (i:Int) (body[i].toNat:Int)=some (.inl (rest,f,0,0,[],false,3,0,[],nt,dI has body[i].toNat 1,body,(i:Int))):=fun f=>by
    have:=Jl n rest f 0 0 [] false 3 0 [] nt body[i] body[i] has body (i:Int) j b;rwa [show body[i].toNat+1-body[i].toNat=1 by omega]at this
   rw [Jg,bu d,df d];simp only [Y,Z,p,w2,qJ];by_cases g:i+2<body.length
   .have t:body.drop (i+1)=body[i+1]::body.drop (i+2):=Ä (by omega)
    have u:body.drop (i+2)=body[i+2]::body.drop (i+3):=Ä g;rw [bu g,df (show i+1<body.length by omega),df g]
    simp only [Y,Z,bp];by_cases hd:body[i+1].toNat=45
    .have hh:=z _ (Å g)
     rw [aB (by omega),q,t,u,DW _ _ _ _ _ _ ⟨hd,hh⟩]
     simp only [Y];have r:decide ((body[i+2].toNat:Int)<(body[i].toNat:Int))=decide (body[i+2].toNat<body[i].toNat):=by
      rw [bL,bL];exact mR (by omega)
     rw [Jl n rest true 0 0 [] false 3 0 [] nt body[i] body[i+2] has body _ j b,Jl n rest _ 0 0 [] false 3 0 [] nt body[i] body[i+2] has body _ j b];simp only [Z,cP,w3];rw [ih m (i+3) _ true (by omega) (by omega) (by rw [ke];exact b) (by omega),ih m (i+3) _ (decide _) (by omega) (by omega) (by rw [ke];exact b) (by omega),r]
     cases bad<;>rfl
    .rw [az (by omega),one]
     simp only [ez,Z,cP,p];rw [ih m (i+1) _ bad (by omega) (by omega) (by rw [ke];exact b) (by omega),q,t,u,DU _ _ _ _ _ _ (fun h=>hd h.1)]
   .rw [hL (by omega),one]
    simp only [ez,Z,cP,p];rw [ih m (i+1) _ bad (by omega) (by omega) (by rw [ke];exact b) (by omega),q,ur _ _ _ _ (by simp;omega)]
  .obtain rfl:i=body.length:=by omega
   rw [Jg,ck,Ç (Î _)];rfl
theorem wG: ∀(l:O) (has:List Bool) (b:Bool),(setB l has b).1.length=has.length
 | [],_,_=>rfl
 | [lo],has,b=>by simp only [setB,ke]
 | [lo,d],has,b=>by rw [setB,wG [d],ke]
 |lo::d::hi::r,has,b=>by
  rw [setB];split
  .rw [wG r,ke]
  .rw [wG (d::hi::r),ke]
theorem SP (s:O):W fun n=>nf n s false 94=some ((bI s).2,(bI s).1,false):=by
 refine(wF s false 94).mono fun n e=> ?_
 rw [e];cases s with
 |nil=>rfl
 |cons c r=>
  show some (if some c=some (94:UInt8)then(true,r,false)else(false,c::r,false))=some ((if c.toNat=94 then(r,true)else(c::r,false)).2,((if c.toNat=94 then(r,true)else(c::r,false)).1,false))
  by_cases h:c.toNat=94
  .have:c=94:=Õ.1 h
   subst this;rfl
  .rw [if_neg (fun k=>h (by cases k;rfl)),if_neg h]
theorem aAm (s:O) (hs:s.length<=60):W fun n=>Hj n s false=some ((fI s).1.1,(fI s).1.2.1,(fI s).1.2.2.1,(fI s).1.2.2.2.1,(fI s).2):=by
 have r:=NB s;have d:=Nw (bI s).1;have t:=mS aK (bI s).1;by_cases h:((bI s).1.takeWhile aK).length=(bI s).1.length\/(bI s).1.takeWhile aK=[]
 .refine((SP s).and (W.ge 1)).nm fun n ⟨e,u⟩=> ?_
  obtain⟨n,rfl⟩: ∃m,n=m+1:=⟨n-1,by omega⟩
  rw [Re,show nf (n+1) s false (É (Æ 94))=_ from e];simp only [Z];rw [show ss (n+1) (bI s).1 (É (Æ 93))=_ from SO n (bI s).1 93,d];simp only [Z];have f:(if ((bI s).1.takeWhile aK).length=(bI s).1.length then(-1:Int)else(((bI s).1.takeWhile aK).length:Int))<1:=by
   rcases h with h|h
   .rw [if_pos h];omega
   .rw [h];split<;>simp
  rw [hJ f];unfold fI;simp only;rw [if_pos h];rfl
 .have g: ¬((bI s).1.takeWhile aK).length=(bI s).1.length:=fun k=>h (.inl k)
  have p:0<((bI s).1.takeWhile aK).length:=ó.2 fun k=>h (.inr k)
  have b:=wG ((bI s).1.takeWhile aK) dF false;have b:(setB ((bI s).1.takeWhile aK) dF false).1.length=256:=by rw [b,rM]
  have kb:=Nu b (L:=fun n m i o=>sr n m ((bI s).1.drop (((bI s).1.takeWhile aK).length+1)) (setB ((bI s).1.takeWhile aK) dF false).2 0 0 [] false 3 0 [] (bI s).2 i o (setB ((bI s).1.takeWhile aK) dF false).1 256) (out:=fun o=>((bI s).1.drop (((bI s).1.takeWhile aK).length+1),(setB ((bI s).1.takeWhile aK) dF false).2,0,0,[],false,3,0,[],(bI s).2,o))
   (fun n m i o hi ho=>by
    rw [Rg,hJ (by omega),hJ (by omega),ff (by omega),Nv i hi]
    simp only [Y,Z];rw [oS (by omega),getD_at (show i<(setB ((bI s).1.takeWhile aK) dF false).1.length by omega)]
    cases (setB ((bI s).1.takeWhile aK) dF false).1[i]<;>simp) (fun n m o=>by rw [Rg];rfl)
  refine((SP s).and (kb.and (W.ge 400))).nm fun n ⟨e,z,u⟩=> ?_
  obtain⟨n,rfl⟩: ∃m,n=m+1:=⟨n-1,by omega⟩
  rw [Re,show nf (n+1) s false (É (Æ 94))=_ from e];simp only [Z];rw [show ss (n+1) (bI s).1 (É (Æ 93))=_ from SO n (bI s).1 93,d,if_neg g];simp only [Z];have w1:wrap .i64 ((((bI s).1.takeWhile aK).length:Int)+1)=((((bI s).1.takeWhile aK).length+1:Nat):Int):=by rw [À];omega
  rw [w1,hL (by omega),hJ (by omega),hJ (by omega),hJ (by unfold aD;omega)]
  simp only [Y,ez,Ì,Ā,Nx];have j:(((bI s).1.drop (((bI s).1.takeWhile aK).length+1)).take ((bI s).1.length-(((bI s).1.takeWhile aK).length+1)))=(bI s).1.drop (((bI s).1.takeWhile aK).length+1):=Ù (by simp)
  rw [j];have q:=aAl (n+1) (by omega) ((bI s).1.drop (((bI s).1.takeWhile aK).length+1)) ((bI s).1.takeWhile aK) (bI s).2 (DY _) (by omega) ((bI s).1.takeWhile aK).length (n+1) 0 dF false (by omega) (by omega) rM (by omega)
  rw [ã]at q;rw [show oL (n+1) (n+1) ((bI s).1.drop (((bI s).1.takeWhile aK).length+1)) false 0 0 [] false 3 0 [] (bI s).2 (ö (Æ 256) false) 0 ((bI s).1.takeWhile aK)=_ from q];simp only [Z,cP,b];rw [show sr (n+1) (n+1) _ _ 0 0 [] false 3 0 [] _ 0 [] _ ((256:Nat):Int)=_ from z];unfold fI;simp only;rw [if_neg h];rfl
def aAn (md:Md) (s:O) (b:Bool) (r:Nd×O×Bool):Prop:=
 match md with
 |.pat=>W fun n=>vL n s b=some (flat r)
 |.part=>W fun n=>Aa n s b=some (flat r)
 |.piece=>W fun n=>Hh n s b=some (flat r)
 |.atom=>W fun n=>Ad n s b=some (flat r)
 |.fJ ks=>cJ fun n m=> ∃d s' b',vM n m s b 0 0 [] false ks=some (.inl (s',b',0,0,[],false,d))/\(gY d,s',b')=r
 |.fg ks=>cJ fun n m=> ∃d s' b',Ab n m s b 0 0 [] false ks=some (.inl (s',b',0,0,[],false,d))/\(gw d,s',b')=r
 |.iA t=>cJ fun n m=>Ac n m s b 0 0 [] false t.1 t.2.1 t.2.2.1 t.2.2.2.1 t.2.2.2.2=some (.inr (flat r))
theorem aAo (ks:List Tr) (st:O×Bool):(cond ((ks.length:Int)==(1:Int)) (cond (decide ((0:Int)<=(0:Int)/\(0:Int)<(ks.length:Int))) ((lS ks 0).bind fun d=>some (d.1,d.2.1,d.2.2.1,d.2.2.2.1,d.2.2.2.2,st.1,st.2)) none) (some ((7:Int),(0:Int),([]:O),false,ks,st.1,st.2)))=some (flat (gY ks,st)):=by
 match ks with
 | []=>rfl
 | [k]=>rw [wE];rfl
 |a::b::r=>
  rw [bp,az (by simp only [Á];omega)]
  rfl
theorem aAp (ks:List Tr) (st:O×Bool):(cond ((ks.length:Int)==(0:Int)) (some ((11:Int),(0:Int),([]:O),false,([]:List Tr),st.1,st.2)) (cond ((ks.length:Int)==(1:Int)) (cond (decide ((0:Int)<=(0:Int)/\(0:Int)<(ks.length:Int))) ((lS ks 0).bind fun d=>some (d.1,d.2.1,d.2.2.1,d.2.2.2.1,d.2.2.2.2,st.1,st.2)) none) (some ((6:Int),(0:Int),([]:O),false,ks,st.1,st.2))))=some (flat (gw ks,st)):=by
 match ks with
 | []=>rfl
 | [k]=>rw [wE];rfl
 |a::b::r=>
  rw [bp,bp,az (P:=_=(0:Int)) (by simp only [Á];omega),az (P:=_=(1:Int)) (by simp only [Á];omega)]
  rfl
theorem oT:(É (Æ 124):UInt8)=124:=rfl
theorem aAq {s:O} {b:Bool} {c:UInt8} (h:eP s b=some c) (k:c.toNat=124):eP s b=some 124:=by
 rw [h];exact congrArg some (Õ.1 k)
theorem aAr: ∀f md s b r,iP f md s b=some r->s.length<=60->lN md s b->kh md s->aAn md s b r:=by
 intro f;induction f with
 |zero=>intro md s b r h;simp [iP]at h
 |succ f ih=>
  intro md s b r h hs ae af;cases md with
  |pat=>
   simp only [iP,Ð]at h;obtain⟨x,z,h2⟩:=h;obtain⟨a1,a2,a3⟩:=eJ _ _ _ _ _ z hs trivial trivial;simp only [dU]at a2;have k1:=ih _ _ _ _ z hs trivial trivial;have k2:=ih _ _ _ _ h2 (by omega) trivial ⟨by simp;omega,by simpa using eX a1⟩
   refine((show W _ from k1).and (cJ.diag k2)).nm fun n ⟨e1,p,s',b',g,j⟩=> ?_
   subst j;rw [asX,e1];simp only [Z,flat,la];rw [show vM n n x.2.1 x.2.2 0 0 [] false [cQ (x.1.1,x.1.2.1,x.1.2.2.1,x.1.2.2.2.1,x.1.2.2.2.2)]=_ from g];simp only [Z,cP];exact aAo p (s',b')
  |fJ ks=>
   simp only [iP]at h;split at h
   .rename_i i
    cases h;refine cJ.stop (wF s b 124) fun n m e=>⟨ks,s,b, ?_,rfl⟩
    rw [Jd,oT,e,i];rfl
   .rename_i c i
    obtain⟨rfl,e⟩:=fK i;have hl:s.length=s.tail.length+1:=by rw [e];simp
    split at h
    .rename_i u
     simp only [Ð]at h;obtain⟨x,z,h2⟩:=h;obtain⟨a1,a2,a3⟩:=eJ _ _ _ _ _ z (by omega) trivial trivial
     simp only [dU]at a2;have au:=af.1;have k1:=ih _ _ _ _ z (by omega) trivial trivial
     have k2:=ih _ _ _ _ h2 (by omega) trivial ⟨by simp;omega,by
      intro k hk;rcases å.1 hk with hk|hk
      .exact af.2 k hk
      .simp at hk;subst hk;exact eX a1⟩
     refine cJ.step ((show W _ from k1).and (wF s false 124)) k2 fun n m ⟨e1,g⟩ ⟨p,s',b',j,e4⟩=>⟨p,s',b', ?_,e4⟩
     rw [Jd,oT,g,if_pos (aAq i u)];simp only [Z,Y,e1,flat,la];rw [oS (by omega)]
     exact j
    .rename_i u
     cases h;refine cJ.stop (wF s false 124) fun n m e=>⟨ks,s,false, ?_,rfl⟩
     rw [Jd,oT,e,if_neg (by rw [i];intro k;cases k;exact u rfl)]
     rfl
  |part=>
   simp only [iP]at h;have k:=ih (.fg []) _ _ _ h hs trivial ⟨by simp;omega,by simp⟩
   refine(cJ.diag k).nm fun n ⟨p,s',b',g,j⟩=> ?_
   subst j;rw [asY,g];simp only [Z,cP];exact aAp p (s',b')
  |fg ks=>
   simp only [iP]at h;split at h
   .rename_i i
    cases h;refine cJ.stop (ld s b) fun n m e=>⟨ks,s,b, ?_,rfl⟩
    rw [Je,e,i];rfl
   .rename_i c i
    obtain⟨rfl,e⟩:=fK i;split at h
    .rename_i u
     cases h;refine cJ.stop (ld s false) fun n m e=>⟨ks,s,false, ?_,rfl⟩
     rw [Je,e,i];simp only [Z,Â,ez,bp];rcases u with u|u
     .rw [aB (by omega)];rfl
     .rw [az (by omega),aB (by omega)];rfl
    .rename_i u
     simp only [Ð]at h;obtain⟨x,z,h2⟩:=h;have ag:lN .piece s false:=⟨by rw [e];simp,rfl⟩
     obtain⟨a1,a2,a3⟩:=eJ _ _ _ _ _ z hs ag trivial;simp only [dU]at a2;have au:=af.1;have k1:=ih _ _ _ _ z hs ag trivial;have k2:=ih _ _ _ _ h2 (by omega) trivial ⟨by simp;omega,by
      intro k hk;rcases å.1 hk with hk|hk
      .exact af.2 k hk
      .simp at hk;subst hk;exact eX a1⟩
     refine cJ.step ((show W _ from k1).and (ld s false)) k2 fun n m ⟨e1,g⟩ ⟨p,s',b',j,e4⟩=>⟨p,s',b', ?_,e4⟩
     rw [Je,g,i];simp only [Z,Â,ez,bp];rw [az (P:=(c.toNat:Int)=124) (by omega),az (P:=(c.toNat:Int)=41) (by omega)]
     simp only [ez,e1,Z,flat,la];rw [oS (by omega)]
     exact j
  |piece=>
   simp only [iP,Ð]at h;obtain⟨x,z,h2⟩:=h;obtain⟨a1,a2,a3⟩:=eJ _ _ _ _ _ z hs ae trivial;simp only [dU]at a2;have k1:=ih _ _ _ _ z hs ae trivial;have k2:=ih _ _ _ _ h2 (by omega) trivial a1
   refine((show W _ from k1).and (cJ.diag k2)).nm fun n ⟨e1,g⟩=> ?_
   rw [atA,e1];simp only [Z,flat];rw [g];rfl
  |iA t=>
   simp only [iP]at h;split at h
   .rename_i i
    cases h;refine cJ.stop (ld s b) fun n m e=> ?_
    rw [Jf,e,i];rfl
   .rename_i c i
    obtain⟨rfl,e⟩:=fK i;have hl:s.length=s.tail.length+1:=by rw [e];simp
    split at h
    .rename_i u
     cases h;refine cJ.stop ((ld s false).and (SN c)) fun n m ⟨e,g⟩=> ?_
     rw [Jf,e,i];simp only [Z,Â,ez,dS,g,u];rfl
    .rename_i u
     have k2:=ih _ _ _ _ h (by omega) trivial ⟨by simp,by simpa using eX af⟩
     refine cJ.step ((ld s false).and (SN c)) k2 fun n m ⟨e,g⟩ j=> ?_
     rw [Jf,e,i];simp only [Z,Â,ez,dS,g,bp,az u,mc,la];rw [hJ (by omega)]
     exact j
  |atom=>
   obtain⟨aw,rfl⟩:=ae;cases s with
   |nil=>exact absurd rfl aw
   |cons c rr=>
    simp only [Á]at hs;have i:eP (c::rr) false=some c:=rfl;simp only [iP]at h;split at h
    .rename_i u
     simp only [Ð]at h;obtain⟨x,z,h2⟩:=h;have k1:=ih _ _ _ _ z (by omega) trivial trivial
     cases h2;refine(((show W _ from k1).and (ld (c::rr) false)).and (wF x.2.1 x.2.2 41)).nm fun n ⟨⟨e1,g⟩,j⟩=> ?_
     rw [oQ,g,i];simp only [Z,mc,ß,bp];rw [hJ (by simp only [Á];omega),aB (by omega)]
     simp only [Y,e1,Z,flat];rw [show nf n x.2.1 x.2.2 (É (Æ 41))=_ from j];unfold gZ;cases hx:eP x.2.1 x.2.2 with
     |none=>rfl
     |some d=>
      by_cases hd:d.toNat=41
      .have:d=41:=Õ.1 hd
       subst this;rfl
      .have: ¬(some d=some (41:UInt8)):=by intro k;cases k;exact hd rfl
       rw [if_neg this];simp only [hd,if_false];rfl
    .rename_i u
     cases h;have base:=ld (c::rr) false;have q:bo ((c.toNat:Int)=40)=false:=az (by omega)
     show W fun n=>Ad n (c::rr) false=some (flat (kf c rr))
     unfold kf;by_cases c1:c.toNat=46
     .rw [if_pos c1]
      refine base.nm fun n g=> ?_
      rw [oQ,g,i];simp only [Z,mc,ß,bp,q,aB (show (c.toNat:Int)=46 by omega)]
      rw [hJ (by simp only [Á];omega)]
      rfl
     rw [if_neg c1];have ad:bo ((c.toNat:Int)=46)=false:=az (by omega)
     by_cases c2:c.toNat=94
     .rw [if_pos c2]
      refine base.nm fun n g=> ?_
      rw [oQ,g,i];simp only [Z,mc,ß,bp,q,ad,aB (show (c.toNat:Int)=94 by omega)]
      rw [hJ (by simp only [Á];omega)]
      rfl
     rw [if_neg c2];have ai:bo ((c.toNat:Int)=94)=false:=az (by omega)
     by_cases c3:c.toNat=36
     .rw [if_pos c3]
      refine base.nm fun n g=> ?_
      rw [oQ,g,i];simp only [Z,mc,ß,bp,q,ad,ai,aB (show (c.toNat:Int)=36 by omega)]
      rw [hJ (by simp only [Á];omega)]
      rfl
     rw [if_neg c3];have al:bo ((c.toNat:Int)=36)=false:=az (by omega)
     by_cases c4:c.toNat=91
     .rw [if_pos c4]
      refine(base.and (aAm rr (by omega))).nm fun n ⟨g,j⟩=> ?_
      rw [oQ,g,i];simp only [Z,mc,ß,bp,q,ad,ai,al,aB (show (c.toNat:Int)=91 by omega)]
      rw [hJ (by simp only [Á];omega)]
      simp only [Y,ez,j,Z];have hk:(fI rr).1.2.2.2.2=[]:=by
       unfold fI;simp only;split<;>rfl
      unfold flat;rw [hk]
     rw [if_neg c4];have ar:bo ((c.toNat:Int)=91)=false:=az (by omega)
     by_cases c5:c.toNat=92
     .rw [if_pos c5]
      cases rr with
      |nil=>
       refine(base.and (ld [] false)).nm fun n ⟨g,j⟩=> ?_
       rw [oQ,g,i];simp only [Z,mc,ß,bp,q,ad,ai,al,ar,aB (show (c.toNat:Int)=92 by omega),j]
       rfl
      |cons d rr=>
       refine(base.and (ld (d::rr) false)).nm fun n ⟨g,j⟩=> ?_
       rw [oQ,g,i];simp only [Z,mc,ß,bp,q,ad,ai,al,ar,aB (show (c.toNat:Int)=92 by omega),j]
       rw [hJ (by simp only [Á];omega),show eP (d::rr) false=some d from rfl]
       simp only [Y,ez,Â];rw [hJ (by simp only [Á];omega),show wrap .i64 (d.toNat:Int)=(d.toNat:Int) by have:=d.toNat_lt;rw [À];omega]
       rfl
     rw [if_neg c5];have ax:bo ((c.toNat:Int)=92)=false:=az (by omega)
     refine base.nm fun n g=> ?_
     rw [oQ,g,i];simp only [Z,mc,ß,bp,q,ad,ai,al,ar,ax];rw [hJ (by simp only [Á];omega)]
     by_cases c6:c.toNat=42
     .rw [if_pos (.inl c6),aB (by omega)];rfl
     by_cases c7:c.toNat=43
     .rw [if_pos (.inr (.inl c7)),az (P:=(c.toNat:Int)=42) (by omega),aB (by omega)];rfl
     by_cases c8:c.toNat=63
     .rw [if_pos (.inr (.inr c8)),az (P:=(c.toNat:Int)=42) (by omega),az (P:=(c.toNat:Int)=43) (by omega),aB (by omega)];rfl
     rw [if_neg (by omega),az (P:=(c.toNat:Int)=42) (by omega),az (P:=(c.toNat:Int)=43) (by omega),az (P:=(c.toNat:Int)=63) (by omega),show wrap .i64 (c.toNat:Int)=(c.toNat:Int) by have:=c.toNat_lt;rw [À];omega]
     rfl
def eS (t:Nd) (S:O) (a:Int) (bad:Bool):Int×(Int×O×Bool×List Tr×O×Int×Bool):=(t.1,t.2.1,t.2.2.1,t.2.2.2.1,t.2.2.2.2,S,a,bad)
def sN (d:Nat) (st:O×Bool):Prop:=st.2=true\/st.1.length<d
def Sync (d:Nat) (S:O) (r:Nd×O×Bool) (t:Nd) (a:Int) (bad:Bool):Prop:=
 (bad=false/\t=r.1/\r.2.2=false/\ ∃k:Nat,a=k/\k<=S.length/\S.drop k=r.2.1)\/(bad=true/\sN d r.2)
theorem sN.mono {d:Nat} {f md s b r} (h:iP f md s b=some r) (g:s.length<=60) (hp:lN md s b) (i:kh md s) (hd:sN d (s,b)):sN d r.2:=by
 obtain⟨-,j,k⟩:=eJ _ _ _ _ _ h g hp i;rcases hd with hd|hd
 .exact .inl (k hd)
 .refine .inr ?_
  have:r.2.1.length<=s.length:=by
   cases md<;>simp only [dU]at j<;>omega
  show r.2.1.length<d;have hd:s.length<d:=hd;omega
theorem lg (S:O) (k:Nat) (hk:k<=S.length) (c:UInt8):W fun n=>eR n S (k:Int) false c=some (bo (eP (S.drop k) false=some c),S,(k:Int),false):=by
 refine W.succ (W.of fun n=> ?_)
 rw [Qi];simp only [Ã,Y];by_cases h:k<S.length
 .rw [bu h,df h]
  simp only [Y,Z,bp];rw [mR (show ((S[k].toNat:Int)=(c.toNat:Int))↔eP (S.drop k) false=some c by
   rw [Ä h];show _↔some S[k]=some c;rw [đ,Õ];simp)]
 .rw [hL (by omega)]
  obtain rfl:k=S.length:=by omega
  rw [Ç (Î _)];simp only [ez,Z];rw [az (by simp [eP])]
theorem Jm (S:O) (a:Int) (c:UInt8):W fun n=>eR n S a true c=some (false,S,a,true):=by
 refine W.succ (W.of fun n=> ?_)
 rw [Qi];rfl
def Jn (S:O) (r:Nd×O×Bool) (set:O) (nt:Bool) (o c a:Int) (bad:Bool):Prop:=
 (bad=false/\r.1=(o,c,set,nt,[])/\r.2.2=false/\ ∃k:Nat,a=k/\k<=S.length/\S.drop k=r.2.1)\/(bad=true/\r.2.2=true)
theorem Jo (n:Nat) (p:O) (q:Int) (r:Bool) (s t:Int) (u:O) (z:Bool) (x7 x8:Int) (x9:O) (b:Bool) (lo hi:UInt8) (has:List Bool) (d:Bool) (f:UInt8) (g:O) (i k:Int) (hn:300<=n) (hl:has.length=256):
  jH n n p q r s t u z x7 x8 x9 b (lo.toNat:Int) has d f g i k (hi.toNat:Int)=some (.inl (p,q,r,s,t,u,z,x7,x8,x9,b,dI has lo.toNat (hi.toNat+1-lo.toNat),d,f,g,i,k)):=by
 have h1:=lo.toNat_lt;have h2:=hi.toNat_lt;refine DX (hi:=hi.toNat) (L:=fun m j h=>jH n m p q r s t u z x7 x8 x9 b j h d f g i k (hi.toNat:Int)) (out:=fun h=>(p,q,r,s,t,u,z,x7,x8,x9,b,h,d,f,g,i,k)) (by omega) (fun m j h hj hh=> ?_) (fun m j h hj=> ?_) _ n lo.toNat has rfl (by omega) hl
 .rw [Qk,hJ (by omega),hJ (by omega),ff (by omega),dS]
  rfl
 .rw [Qk,hL (by omega),dS]
  rfl
theorem aAs (c:UInt8) (t:O) (has:List Bool) (b:Bool) (h: ∀d hi r,t=d::hi::r-> ¬(d.toNat=45/\hi.toNat≠93)):setB (c::t.takeWhile aK) has b=setB (t.takeWhile aK) (dI has c.toNat 1) b:=by
 match t,h with
 | [],_=>exact ur _ _ _ _ (by simp)
 | [d],_=>exact ur _ _ _ _ (by have:=mS aK [d];simp only [Á,Ë]at this;omega)
 |d::hi::r,h=>
  have h:=h d hi r rfl;rw [Ñ];by_cases f:aK d=true
  .rw [if_pos f,Ñ]
   by_cases g:aK hi=true
   .rw [if_pos g,DU _ _ _ _ _ _ h]
   .rw [if_neg g];rfl
  .rw [if_neg f];rfl
theorem SQ (n:Nat) (hn:300<=n) (S:O) (hS:S.length<=60) (nt:Bool): ∀q m (k:Nat) has bad (mn:Nat),S.length-k<=q->q<m->has.length=256->k<=S.length->mn+(S.length-k)<=200->
  ∃b:Nat,mn<=b/\b<=200/\((S.drop k).takeWhile aK=[]->b=mn)/\((S.drop k).takeWhile aK≠ []->mn<b)/\
  gL n m S (k:Int) bad 0 0 [] false 3 0 [] nt has (mn:Int)=some (.inl (S,((k+((S.drop k).takeWhile aK).length:Nat):Int),(setB ((S.drop k).takeWhile aK) has bad).2,0,0,[],false,3,0,[],nt,(setB ((S.drop k).takeWhile aK) has bad).1,(b:Int))):=by
 intro q;induction q with
 |zero=>
  intro m k has bad mn hk hm z aj ak;obtain⟨m,rfl⟩: ∃m',m=m'+1:=⟨m-1,by omega⟩
  obtain rfl:k=S.length:=by omega
  refine⟨mn,Î _,by omega,fun _=>rfl,fun h=>absurd (by rw [Ç (Î _)];rfl) h, ?_⟩
  rw [IQ,ck,Ç (Î _)];rfl
 |succ q ih=>
  intro m k has bad mn hk hm z aj ak;obtain⟨m,rfl⟩: ∃m',m=m'+1:=⟨m-1,by omega⟩
  by_cases s:k<S.length
  .have w1:wrap .i64 ((k:Int)+1)=((k+1:Nat):Int):=by rw [À];omega
   have w2:wrap .i64 (((k+1:Nat):Int)+1)=((k+2:Nat):Int):=by rw [À];omega
   have w3:wrap .i64 (((k+1:Nat):Int)+2)=((k+3:Nat):Int):=by rw [À];omega
   have wm:wrap .i64 ((mn:Int)+1)=((mn+1:Nat):Int):=by rw [À];omega
   have e0:S.drop k=S[k]::S.drop (k+1):=Ä s;rw [IQ,bu s,df s];simp only [Y,Z,w1,w2,w3,qJ,cu];by_cases ad:S[k].toNat=93
   .have f:(S.drop k).takeWhile aK=[]:=by rw [e0,Ñ,if_neg (by simp [aK,ad])]
    refine⟨mn,Î _,by omega,fun _=>rfl,fun h=>absurd f h, ?_⟩
    rw [az (P:= ¬(S[k].toNat:Int)=93) (by omega),f]
    rfl
   .have al:aK S[k]=true:=by simp [aK,ad]
    have f:(S.drop k).takeWhile aK=S[k]::(S.drop (k+1)).takeWhile aK:=by rw [e0,Ñ,if_pos al]
    have ao:decide ((S[k].toNat:Int)<(S[k].toNat:Int))=false:=hL (by omega)
    rw [aB (P:= ¬(S[k].toNat:Int)=93) (by omega)]
    simp only [Y,ao,ez];have one: ∀x1 g i,jH n n S x1 bad 0 0 [] false 3 0 [] nt (S[k].toNat:Int) has g i S (k:Int) (mn:Int) (S[k].toNat:Int)=some (.inl (S,x1,bad,0,0,[],false,3,0,[],nt,dI has S[k].toNat 1,g,i,S,(k:Int),(mn:Int))):=fun x1 g i=>by
     have:=Jo n S x1 bad 0 0 [] false 3 0 [] nt S[k] S[k] has g i S (k:Int) (mn:Int) hn z;rwa [show S[k].toNat+1-S[k].toNat=1 by omega]at this
    have t:(∀d hi r,S.drop (k+1)=d::hi::r-> ¬(d.toNat=45/\hi.toNat≠93))-> ∃b:Nat,mn<=b/\b<=200/\((S.drop k).takeWhile aK=[]->b=mn)/\((S.drop k).takeWhile aK≠ []->mn<b)/\
      gL n m S ((k+1:Nat):Int) bad 0 0 [] false 3 0 [] nt (dI has S[k].toNat 1) ((mn+1:Nat):Int)=some (.inl (S,((k+((S.drop k).takeWhile aK).length:Nat):Int),(setB ((S.drop k).takeWhile aK) has bad).2,0,0,[],false,3,0,[],nt,(setB ((S.drop k).takeWhile aK) has bad).1,(b:Int))):=fun u=>by
     obtain⟨b,g1,g2,g3,g4,g5⟩:=ih m (k+1) (dI has S[k].toNat 1) bad (mn+1) (by omega) (by omega) (by rw [ke];exact z) (by omega) (by omega)
     refine⟨b,by omega,g2,fun h=>absurd h (by rw [f];simp),fun _=>by omega, ?_⟩
     rw [g5,f,aAs _ _ _ _ u,Á,show k+(((S.drop (k+1)).takeWhile aK).length+1)=k+1+((S.drop (k+1)).takeWhile aK).length by omega]
    by_cases h2:k+2<S.length
    .have e1:S.drop (k+1)=S[k+1]::S.drop (k+2):=Ä (by omega)
     have e2:S.drop (k+2)=S[k+2]::S.drop (k+3):=Ä h2;rw [bu h2,df (show k+1<S.length by omega),df h2]
     simp only [Y,Z,bp,one,cP,wm];by_cases hd:S[k+1].toNat=45
     .rw [aB (P:=(S[k+1].toNat:Int)=45) (by omega)]
      simp only [Y];by_cases hh:S[k+2].toNat=93
      .rw [az (P:= ¬(S[k+2].toNat:Int)=93) (by omega)]
       simp only [ez];refine t fun d hi r e=> ?_
       rw [e1,e2]at e;cases e;exact fun h=>h.2 hh
      .rw [aB (P:= ¬(S[k+2].toNat:Int)=93) (by omega)]
       simp only [Y];have aw:aK S[k+1]=true:=by simp [aK,hd]
       have ax:aK S[k+2]=true:=by simp [aK,hh]
       have ae:(S.drop k).takeWhile aK=S[k]::S[k+1]::S[k+2]::(S.drop (k+3)).takeWhile aK:=by
        rw [f,e1,Ñ,if_pos aw,e2,Ñ,if_pos ax]
       have j: ∀bd,bd=(bad||decide (S[k+2].toNat<S[k].toNat))-> ∃b:Nat,mn<=b/\b<=200/\((S.drop k).takeWhile aK=[]->b=mn)/\((S.drop k).takeWhile aK≠ []->mn<b)/\
         gL n m S ((k+3:Nat):Int) bd 0 0 [] false 3 0 [] nt (dI has S[k].toNat (S[k+2].toNat+1-S[k].toNat)) ((mn+1:Nat):Int)=some (.inl (S,((k+((S.drop k).takeWhile aK).length:Nat):Int),(setB ((S.drop k).takeWhile aK) has bad).2,0,0,[],false,3,0,[],nt,(setB ((S.drop k).takeWhile aK) has bad).1,(b:Int))):=fun bd ay=>by
        obtain⟨b,g1,g2,g3,g4,g5⟩:=ih m (k+3) (dI has S[k].toNat (S[k+2].toNat+1-S[k].toNat)) bd (mn+1) (by omega) (by omega) (by rw [ke];exact z) (by omega) (by omega)
        refine⟨b,by omega,g2,fun h=>absurd h (by rw [f];simp),fun _=>by omega, ?_⟩
        rw [g5,ae,DW _ _ _ _ _ _ ⟨hd,hh⟩,ay];simp only [Á];rw [show k+(((S.drop (k+3)).takeWhile aK).length+1+1+1)=k+3+((S.drop (k+3)).takeWhile aK).length by omega]
       by_cases p:S[k+2].toNat<S[k].toNat
       .rw [hJ (show (S[k+2].toNat:Int)<(S[k].toNat:Int) by omega),Jo n S _ true 0 0 [] false 3 0 [] nt S[k] S[k+2] has _ _ S (k:Int) (mn:Int) hn z]
        simp only [Y,Z,cP,wm];exact j true (by rw [hJ p];simp)
       .rw [hL (show ¬(S[k+2].toNat:Int)<(S[k].toNat:Int) by omega),Jo n S _ bad 0 0 [] false 3 0 [] nt S[k] S[k+2] has _ _ S (k:Int) (mn:Int) hn z]
        simp only [ez,Z,cP,wm];exact j bad (by rw [hL p];simp)
     .rw [az (P:=(S[k+1].toNat:Int)=45) (by omega)]
      simp only [ez];refine t fun d hi r e=> ?_
      rw [e1,e2]at e;cases e;exact fun h=>hd h.1
    .rw [hL (by omega)]
     simp only [ez,Z,one,cP,wm];refine t fun d hi r e=> ?_
     have:(S.drop (k+1)).length=(d::hi::r).length:=by rw [e]
     simp at this
     omega
  .obtain rfl:k=S.length:=by omega
   refine⟨mn,Î _,by omega,fun _=>rfl,fun h=>absurd (by rw [Ç (Î _)];rfl) h, ?_⟩
   rw [IQ,ck,Ç (Î _)];rfl
theorem SR (S:O) (k:Nat) (hk:k<=S.length) (s:S.length<=60) (nt:Bool): ∃(set:O) (a:Int) (bad:Bool),
  ((((S.drop k).takeWhile aK).length=(S.drop k).length\/(S.drop k).takeWhile aK=[])/\bad=true\/
   ¬(((S.drop k).takeWhile aK).length=(S.drop k).length\/(S.drop k).takeWhile aK=[])/\set=bytesOf (setB ((S.drop k).takeWhile aK) dF false).1 256/\bad=(setB ((S.drop k).takeWhile aK) dF false).2/\a=((k+((S.drop k).takeWhile aK).length+1:Nat):Int))/\
  W fun n=>((gL n n S (k:Int) false 0 0 [] false 3 0 [] nt (ö (Æ (256:Int)) false) 0).bind fun z=>ay z (fun z2=>(cond (decide ((z2.1.length:Int)<=z2.2.1)) (some true) (some (z2.2.2.2.2.2.2.2.2.2.2.2.2==(0:Int))):Option Bool).bind fun j=>cond j ((kT n n z2.1 (wrap .i64 (z2.2.1+1)) true z2.2.2.2.1 z2.2.2.2.2.1 z2.2.2.2.2.2.1 z2.2.2.2.2.2.2.1 z2.2.2.2.2.2.2.2.1 z2.2.2.2.2.2.2.2.2.1 z2.2.2.2.2.2.2.2.2.2.1 z2.2.2.2.2.2.2.2.2.2.2.1 0 [] z2.2.2.2.2.2.2.2.2.2.2.2.1).bind fun d=>ay d (fun z24=>some (z24.2.2.2.2.2.2.2.1,z24.2.2.2.2.2.2.2.2.1,z24.2.2.2.2.2.2.2.2.2.2.2,z24.2.2.2.2.2.2.2.2.2.2.1,z24.1,z24.2.1,z24.2.2.1)) (fun f=>some f))
   ((kT n n z2.1 (wrap .i64 (z2.2.1+1)) z2.2.2.1 z2.2.2.2.1 z2.2.2.2.2.1 z2.2.2.2.2.2.1 z2.2.2.2.2.2.2.1 z2.2.2.2.2.2.2.2.1 z2.2.2.2.2.2.2.2.2.1 z2.2.2.2.2.2.2.2.2.2.1 z2.2.2.2.2.2.2.2.2.2.2.1 0 [] z2.2.2.2.2.2.2.2.2.2.2.2.1).bind fun d=>ay d (fun z24=>some (z24.2.2.2.2.2.2.2.1,z24.2.2.2.2.2.2.2.2.1,z24.2.2.2.2.2.2.2.2.2.2.2,z24.2.2.2.2.2.2.2.2.2.2.1,z24.1,z24.2.1,z24.2.2.1)) (fun f=>some f))) (fun w2=>some w2))=some (3,0,set,nt,S,a,bad):=by
 have b:=wG ((S.drop k).takeWhile aK) dF false;have b:(setB ((S.drop k).takeWhile aK) dF false).1.length=256:=by rw [b,rM]
 have ae:=mS aK (S.drop k);have af:(S.drop k).length=S.length-k:=by simp
 have kb: ∀(a:Int) (bad:Bool),W fun n=>kT n n S a bad 0 0 [] false 3 0 [] nt 0 [] (setB ((S.drop k).takeWhile aK) dF false).1=some (.inl (S,a,bad,0,0,[],false,3,0,[],nt,bytesOf (setB ((S.drop k).takeWhile aK) dF false).1 256)):=fun a bad=>
  Nu b (L:=fun n m i o=>kT n m S a bad 0 0 [] false 3 0 [] nt i o (setB ((S.drop k).takeWhile aK) dF false).1) (out:=fun o=>(S,a,bad,0,0,[],false,3,0,[],nt,o))
   (fun n m i o hi ho=>by
    rw [Ql,hJ (by omega),hJ (by omega),ff (by omega),Nv i hi]
    simp only [Y,Z];rw [oS (by omega),getD_at (show i<(setB ((S.drop k).takeWhile aK) dF false).1.length by omega)]
    cases (setB ((S.drop k).takeWhile aK) dF false).1[i]<;>simp) (fun n m o=>by rw [Ql];rfl)
 have t:wrap .i64 (((k+((S.drop k).takeWhile aK).length:Nat):Int)+1)=((k+((S.drop k).takeWhile aK).length+1:Nat):Int):=by rw [À];omega
 by_cases h:((S.drop k).takeWhile aK).length=(S.drop k).length\/(S.drop k).takeWhile aK=[]
 .refine⟨bytesOf (setB ((S.drop k).takeWhile aK) dF false).1 256,((k+((S.drop k).takeWhile aK).length+1:Nat):Int),true,.inl ⟨h,rfl⟩,((kb ((k+((S.drop k).takeWhile aK).length+1:Nat):Int) true).and (W.ge 400)).mono fun n ⟨p,hn⟩=> ?_⟩
  obtain⟨g,g1,g2,g3,g4,g5⟩:=SQ n (by omega) S s nt S.length n k dF false 0 (by omega) (by omega) rM hk (by omega)
  rw [show gL n n S (k:Int) false 0 0 [] false 3 0 [] nt (ö (Æ 256) false) 0=_ from g5];simp only [Z,cP,t];have r:(cond (decide ((S.length:Int)<=((k+((S.drop k).takeWhile aK).length:Nat):Int))) (some true) (some ((g:Int)==(0:Int))):Option Bool)=some true:=by
   rcases h with h|h
   .rw [hJ (by omega)];rfl
   .rw [g3 h]
    cases decide ((S.length:Int)<=((k+((S.drop k).takeWhile aK).length:Nat):Int))<;>rfl
  rw [r];simp only [Z,Y];rw [p];rfl
 .refine⟨bytesOf (setB ((S.drop k).takeWhile aK) dF false).1 256,((k+((S.drop k).takeWhile aK).length+1:Nat):Int),(setB ((S.drop k).takeWhile aK) dF false).2,.inr ⟨h,rfl,rfl,rfl⟩,((kb ((k+((S.drop k).takeWhile aK).length+1:Nat):Int) (setB ((S.drop k).takeWhile aK) dF false).2).and (W.ge 400)).mono fun n ⟨p,hn⟩=> ?_⟩
  obtain⟨g,g1,g2,g3,g4,g5⟩:=SQ n (by omega) S s nt S.length n k dF false 0 (by omega) (by omega) rM hk (by omega)
  rw [show gL n n S (k:Int) false 0 0 [] false 3 0 [] nt (ö (Æ 256) false) 0=_ from g5];simp only [Z,cP,t];have ah: ¬((S.drop k).takeWhile aK).length=(S.drop k).length:=fun q=>h (.inl q)
  have u:=g4 (fun q=>h (.inr q))
  have r:(cond (decide ((S.length:Int)<=((k+((S.drop k).takeWhile aK).length:Nat):Int))) (some true) (some ((g:Int)==(0:Int))):Option Bool)=some false:=by
   rw [hL (by omega),bp,az (by omega)];rfl
  rw [r];simp only [Z,ez];rw [p];rfl
theorem aAt (S:O) (k:Nat) (hk:k<=S.length) (m:S.length<=60): ∃set nt o c a bad,Jn S (fI (S.drop k)) set nt o c a bad/\W fun n=>Gb n S (k:Int) false=some (o,c,set,nt,S,a,bad):=by
 have fin: ∀(j:Nat) (nt:Bool),j<=S.length->bI (S.drop k)=(S.drop j,nt)-> ∀set a bad,((((S.drop j).takeWhile aK).length=(S.drop j).length\/(S.drop j).takeWhile aK=[])/\bad=true\/
   ¬(((S.drop j).takeWhile aK).length=(S.drop j).length\/(S.drop j).takeWhile aK=[])/\set=bytesOf (setB ((S.drop j).takeWhile aK) dF false).1 256/\bad=(setB ((S.drop j).takeWhile aK) dF false).2/\a=((j+((S.drop j).takeWhile aK).length+1:Nat):Int))->Jn S (fI (S.drop k)) set nt 3 0 a bad:=by
  intro j nt hj b set a bad h;have p:=mS aK (S.drop j);have s:(S.drop j).length=S.length-j:=by simp
  unfold fI Jn;rw [b];simp only;rcases h with⟨h,rfl⟩|⟨h,d,f,t⟩
  .rw [if_pos h]
   exact .inr ⟨rfl,rfl⟩
  .rw [if_neg h,d,f,t]
   simp only;cases hb:(setB ((S.drop j).takeWhile aK) dF false).2
   .refine .inl ⟨rfl,by simp only,rfl,_,rfl, ?_, ?_⟩
    .have u: ¬((S.drop j).takeWhile aK).length=(S.drop j).length:=fun q=>h (.inl q)
     omega
    .rw [List.drop_drop]
     rfl
   .exact .inr ⟨rfl,rfl⟩
 by_cases h:eP (S.drop k) false=some 94
 .obtain⟨-,e⟩:=fK h
  have z:k<S.length:=by
   by_cases h':k<S.length
   .exact h'
   .rw [Ç (by omega)]at h;cases h
  have b:bI (S.drop k)=(S.drop (k+1),true):=by
   have ht:(S.drop k).tail=S.drop (k+1):=ĉ;rw [e,ht];rfl
  obtain⟨set,a,bad,g,i⟩:=SR S (k+1) (by omega) m true
  refine⟨set,true,3,0,a,bad,fin (k+1) true (by omega) b set a bad g,(i.and (lg S k hk 94)).nm fun n ⟨d,f⟩=> ?_⟩
  rw [Qj,show eR n S (k:Int) false (É (Æ 94))=_ from f,aB h];simp only [Z,Y];rw [hJ (by unfold aD;omega),show wrap .i64 ((k:Int)+1)=((k+1:Nat):Int) by rw [À];omega]
  exact d
 .have b:bI (S.drop k)=(S.drop k,false):=by
   cases e:S.drop k with
   |nil=>rfl
   |cons c r=>
    rw [e]at h;show(if c.toNat=94 then(r,true)else(c::r,false))=_
    have hc:c.toNat≠94:=fun q=>h (congrArg some (Õ.1 q))
    rw [if_neg hc]
  obtain⟨set,a,bad,g,i⟩:=SR S k hk m false;refine⟨set,false,3,0,a,bad,fin k false hk b set a bad g,(i.and (lg S k hk 94)).nm fun n ⟨d,f⟩=> ?_⟩
  rw [Qj,show eR n S (k:Int) false (É (Æ 94))=_ from f,az h];simp only [Z,ez];rw [hJ (by unfold aD;omega)]
  exact d
def aAu (md:Md) (d:Nat) (S:O) (k:Nat) (r:Nd×O×Bool):Prop:=
 match md with
 |.pat=> ∃t a bad,Sync d S r t a bad/\W fun n=>uV n S k false d=some (eS t S a bad)
 |.part=> ∃t a bad,Sync d S r t a bad/\W fun n=>zl n S k false d=some (eS t S a bad)
 |.piece=> ∃t a bad,Sync d S r t a bad/\W fun n=>Ga n S k false d=some (eS t S a bad)
 |.atom=> ∃t a bad,Sync d S r t a bad/\W fun n=>uX n S k false d=some (eS t S a bad)
 |.fJ ks=> ∃b a bad,Sync d S r (gY b) a bad/\cJ fun n m=>qt n m S k false 0 0 [] false d ks=some (.inl (S,a,bad,0,0,[],false,b))
 |.fg ks=> ∃b a bad,Sync d S r (gw b) a bad/\cJ fun n m=>uW n m S k false 0 0 [] false d ks=some (.inl (S,a,bad,0,0,[],false,b))
 |.iA t=> ∃f a bad,Sync d S r f a bad/\cJ fun n m=>qu n m S k false 0 0 [] false t.1 t.2.1 t.2.2.1 t.2.2.2.1 t.2.2.2.2=some (.inl (S,a,bad,0,0,[],false,f.1,f.2.1,f.2.2.1,f.2.2.2.1,f.2.2.2.2))
theorem SS (ks:List Tr) (S:O) (a:Int) (bad:Bool):(cond ((ks.length:Int)==(1:Int)) (cond (decide ((0:Int)<=(0:Int)/\(0:Int)<(ks.length:Int))) ((lS ks 0).bind fun d=>some (d.1,d.2.1,d.2.2.1,d.2.2.2.1,d.2.2.2.2,S,a,bad)) none) (some ((7:Int),(0:Int),([]:O),false,ks,S,a,bad)))=some (eS (gY ks) S a bad):=by
 match ks with
 | []=>rfl
 | [k]=>rw [wE];rfl
 |a::b::r=>
  rw [bp,az (by simp only [Á];omega)]
  rfl
theorem aAv (ks:List Tr) (S:O) (a:Int) (bad:Bool):(cond ((ks.length:Int)==(0:Int)) (some ((11:Int),(0:Int),([]:O),false,([]:List Tr),S,a,bad)) (cond ((ks.length:Int)==(1:Int)) (cond (decide ((0:Int)<=(0:Int)/\(0:Int)<(ks.length:Int))) ((lS ks 0).bind fun d=>some (d.1,d.2.1,d.2.2.1,d.2.2.2.1,d.2.2.2.2,S,a,bad)) none) (some ((6:Int),(0:Int),([]:O),false,ks,S,a,bad))))=some (eS (gw ks) S a bad):=by
 match ks with
 | []=>rfl
 | [k]=>rw [wE];rfl
 |a::b::r=>
  rw [bp,bp,az (P:=_=(0:Int)) (by simp only [Á];omega),az (P:=_=(1:Int)) (by simp only [Á];omega)]
  rfl
theorem wk {k:Nat} (h:k<=1000):wrap .i64 ((k:Int)+(1:Int))=((k+1:Nat):Int):=by rw [À];omega
theorem drop_tail {S s:O} {k:Nat} (h:S.drop k=s):S.drop (k+1)=s.tail:=by rw [<-h,ĉ]
theorem BE {S:O} {k:Nat} {c:UInt8} {t:O} (h:S.drop k=c::t): ∃hk:k<S.length,S[k]=c:=by
 have hk:k<S.length:=by
  by_cases b:k<S.length
  .exact b
  .rw [Ç (by omega)]at h;cases h
 refine⟨hk, ?_⟩
 rw [Ä hk]at h;exact(List.cons.inj h).1
theorem sO {s:O} {c d:UInt8} (h:eP s false=some c):eP s false=some d↔c.toNat=d.toNat:=by
 rw [h];constructor
 .intro k;cases k;rfl
 .intro k;exact congrArg some (Õ.1 k)
theorem aAw: ∀f md s r,iP f md s false=some r-> ∀d (S:O) k,S.length<=60->k<=S.length->S.drop k=s->d+s.length<=60->lN md s false->kh md s->aAu md d S k r:=by
 intro f;induction f with
 |zero=>intro md s r h;simp [iP]at h
 |succ f ih=>
  intro md s r h d S k hS hk hd a7 a8 bd;have hs:s.length<=60:=by omega
  have ch:S.length-k=s.length:=by rw [<-hd];simp
  cases md with
  |pat=>
   simp only [iP,Ð]at h;obtain⟨x,h1,h2⟩:=h;obtain⟨a1,a2,a3⟩:=eJ _ _ _ _ _ h1 hs trivial trivial;simp only [dU]at a2;have ae:kh (.fJ [cQ x.1]) x.2.1:=⟨by simp;omega,by simpa using eX a1⟩
   obtain⟨t,a,bad,z,g⟩:=ih _ _ _ h1 d S k hS hk hd a7 trivial trivial;rcases z with⟨rfl,rfl,hb,k',rfl,ah,af⟩|⟨rfl,j⟩
   .rw [hb]at h2
    obtain⟨ai,a',u,ad,p⟩:=ih _ _ _ h2 d S k' hS ah af (by omega) trivial ae
    refine⟨gY ai,a',u,ad,(g.and (cJ.diag p)).nm fun n ⟨g,p⟩=> ?_⟩
    rw [Qf,g];simp only [Z,eS,la];rw [show qt n n S k' false 0 0 [] false d [cQ (x.1.1,x.1.2.1,x.1.2.2.1,x.1.2.2.2.1,x.1.2.2.2.2)]=_ from p];simp only [Z,cP];exact SS ai S a' u
   .have b:=j.mono h2 (by omega) trivial ae
    refine⟨gY [cQ t],a,true,.inr ⟨rfl,b⟩,((g.and (Jm S a 124)).and (W.ge 1)).nm fun n ⟨⟨g,p⟩,hn⟩=> ?_⟩
    rw [Qf,g];simp only [Z,eS,la];obtain⟨m,hm⟩: ∃m,n=m+1:=⟨n-1,by omega⟩
    have e3:qt n n S a true 0 0 [] false d [cQ (t.1,t.2.1,t.2.2.1,t.2.2.2.1,t.2.2.2.2)]=some (.inl (S,a,true,0,0,[],false,[cQ t])):=by
     conv=>lhs;arg 2;rw [hm]
     rw [sH,show eR n S a true (É (Æ 124))=_ from p];rfl
    rw [e3];simp only [Z,cP];exact SS [cQ t] S a true
  |fJ ks=>
   have cn:=bd.1;simp only [iP]at h;split at h
   .rename_i hn
    cases h;refine⟨ks,k,false,.inl ⟨rfl,rfl,rfl,k,rfl,hk,hd⟩,cJ.stop (lg S k hk 124) fun n m e=> ?_⟩
    rw [sH,oT,e,hd,hn,az (by simp)]
    rfl
   .rename_i c hn
    obtain⟨-,e⟩:=fK hn;have hl:s.length=s.tail.length+1:=by rw [e];simp
    split at h
    .rename_i hc
     simp only [Ð]at h;obtain⟨x,h1,h2⟩:=h;obtain⟨a1,a2,a3⟩:=eJ _ _ _ _ _ h1 (by omega) trivial trivial
     simp only [dU]at a2;have ae:kh (.fJ (ks++[cQ x.1])) x.2.1:=⟨by simp;omega,by
      intro k hk;rcases å.1 hk with hk|hk
      .exact bd.2 k hk
      .simp at hk;subst hk;exact eX a1⟩
     have br:eP (S.drop k) false=some 124:=by rw [hd];exact(sO (d:=124) hn).2 hc
     obtain⟨t,a,bad,z,g⟩:=ih _ _ _ h1 d S (k+1) hS (by omega) (drop_tail hd) (by omega) trivial trivial
     rcases z with⟨rfl,rfl,hb,k',rfl,ah,af⟩|⟨rfl,j⟩
     .rw [hb]at h2
      obtain⟨ai,a',u,ad,p⟩:=ih _ _ _ h2 d S k' hS ah af (by omega) trivial ae
      refine⟨ai,a',u,ad,cJ.step ((lg S k hk 124).and g) p fun n m ⟨e0,g⟩ p=> ?_⟩
      rw [sH,oT,e0,aB br];simp only [Z,Y,wk (show k<=1000 by omega),g,eS,la]
      rw [oS (by omega)]
      exact p
     .have b:=j.mono h2 (by omega) trivial ae
      have al:cJ fun n m=>qt n m S a true 0 0 [] false d (ks++[cQ t])=some (.inl (S,a,true,0,0,[],false,ks++[cQ t])):=cJ.stop (Jm S a 124) fun n m e=>by
       rw [sH,oT,e];rfl
      refine⟨ks++[cQ t],a,true,.inr ⟨rfl,b⟩,cJ.step ((lg S k hk 124).and g) al fun n m ⟨e0,g⟩ p=> ?_⟩
      rw [sH,oT,e0,aB br];simp only [Z,Y,wk (show k<=1000 by omega),g,eS,la]
      rw [oS (by omega)]
      exact p
    .rename_i hc
     cases h;refine⟨ks,k,false,.inl ⟨rfl,rfl,rfl,k,rfl,hk,hd⟩,cJ.stop (lg S k hk 124) fun n m e=> ?_⟩
     rw [sH,oT,e,hd,az (fun q=>hc ((sO (d:=124) hn).1 q))]
     rfl
  |part=>
   simp only [iP]at h;obtain⟨ai,a,bad,z,e⟩:=ih (.fg []) _ _ h d S k hS hk hd a7 trivial ⟨by simp;omega,by simp⟩
   refine⟨gw ai,a,bad,z,(cJ.diag e).nm fun n e=> ?_⟩
   rw [apH,e];simp only [Z,cP];exact aAv ai S a bad
  |fg ks=>
   have cn:=bd.1;simp only [iP]at h;split at h
   .rename_i hn
    cases h;have cj:s=[]:=by
     cases s with
     |nil=>rfl
     |cons c t=>simp [eP]at hn
    subst cj;refine⟨ks,k,false,.inl ⟨rfl,rfl,rfl,k,rfl,hk,hd⟩,cJ.stop (W.ge 0) fun n m _=> ?_⟩
    rw [wA,hL (by simp at ch;omega)]
    rfl
   .rename_i c hn
    obtain⟨-,e⟩:=fK hn;obtain⟨ao,bf⟩:=BE (hd.trans e);split at h
    .rename_i hc
     cases h;refine⟨ks,k,false,.inl ⟨rfl,rfl,rfl,k,rfl,hk,hd⟩,cJ.stop (W.ge 0) fun n m _=> ?_⟩
     rw [wA,bu ao,df ao,bf];simp only [Ã,Y,Z,cu];rcases hc with hc|hc
     .rw [az (P:= ¬(c.toNat:Int)=124) (by omega)];rfl
     .rw [aB (P:= ¬(c.toNat:Int)=124) (by omega),az (P:= ¬(c.toNat:Int)=41) (by omega)];rfl
    .rename_i hc
     simp only [Ð]at h;obtain⟨x,h1,h2⟩:=h;have bg:lN .piece s false:=⟨by rw [e];simp,rfl⟩
     obtain⟨a1,a2,a3⟩:=eJ _ _ _ _ _ h1 hs bg trivial;simp only [dU]at a2;have ae:kh (.fg (ks++[cQ x.1])) x.2.1:=⟨by simp;omega,by
      intro k hk;rcases å.1 hk with hk|hk
      .exact bd.2 k hk
      .simp at hk;subst hk;exact eX a1⟩
     obtain⟨t,a,bad,z,g⟩:=ih _ _ _ h1 d S k hS hk hd a7 bg trivial;rcases z with⟨rfl,rfl,hb,k',rfl,ah,af⟩|⟨rfl,j⟩
     .rw [hb]at h2
      obtain⟨ai,a',u,ad,p⟩:=ih _ _ _ h2 d S k' hS ah af (by omega) trivial ae
      refine⟨ai,a',u,ad,cJ.step g p fun n m g p=> ?_⟩
      rw [wA,bu ao,df ao,bf];simp only [Ã,Y,Z,cu];rw [aB (P:= ¬(c.toNat:Int)=124) (by omega),aB (P:= ¬(c.toNat:Int)=41) (by omega)]
      simp only [Z,Y,g,eS,la];rw [oS (by omega)]
      exact p
     .have b:=j.mono h2 (by omega) trivial ae
      have al:cJ fun n m=>uW n m S a true 0 0 [] false d (ks++[cQ t])=some (.inl (S,a,true,0,0,[],false,ks++[cQ t])):=cJ.stop (W.ge 0) fun n m e=>by
       rw [wA];rfl
      refine⟨ks++[cQ t],a,true,.inr ⟨rfl,b⟩,cJ.step g al fun n m g p=> ?_⟩
      rw [wA,bu ao,df ao,bf];simp only [Ã,Y,Z,cu];rw [aB (P:= ¬(c.toNat:Int)=124) (by omega),aB (P:= ¬(c.toNat:Int)=41) (by omega)]
      simp only [Z,Y,g,eS,la];rw [oS (by omega)]
      exact p
  |piece=>
   simp only [iP,Ð]at h;obtain⟨x,h1,h2⟩:=h;obtain⟨a1,a2,a3⟩:=eJ _ _ _ _ _ h1 hs a8 trivial;simp only [dU]at a2;obtain⟨t,a,bad,z,g⟩:=ih _ _ _ h1 d S k hS hk hd a7 a8 trivial;rcases z with⟨rfl,rfl,hb,k',rfl,ah,af⟩|⟨rfl,j⟩
   .rw [hb]at h2
    obtain⟨t',a',u,ad,p⟩:=ih _ _ _ h2 d S k' hS ah af (by omega) trivial a1
    refine⟨t',a',u,ad,(g.and (cJ.diag p)).nm fun n ⟨g,p⟩=> ?_⟩
    rw [Qg,g];simp only [Z,eS];rw [p];rfl
   .have b:=j.mono h2 (by omega) trivial a1
    have al:cJ fun n m=>qu n m S a true 0 0 [] false t.1 t.2.1 t.2.2.1 t.2.2.2.1 t.2.2.2.2=some (.inl (S,a,true,0,0,[],false,t.1,t.2.1,t.2.2.1,t.2.2.2.1,t.2.2.2.2)):=cJ.stop (W.ge 0) fun n m e=>by
     rw [By];rfl
    refine⟨t,a,true,.inr ⟨rfl,b⟩,(g.and (cJ.diag al)).nm fun n ⟨g,p⟩=> ?_⟩
    rw [Qg,g];simp only [Z,eS];rw [p];rfl
  |iA t=>
   have base:=(lg S k hk 42).and ((lg S k hk 43).and (lg S k hk 63));simp only [iP]at h;split at h
   .rename_i hn
    cases h;refine⟨t,k,false,.inl ⟨rfl,rfl,rfl,k,rfl,hk,hd⟩,cJ.stop base fun n m ⟨g,p,e3⟩=> ?_⟩
    rw [By];simp only [Ã,Y];rw [show eR n S (k:Int) false (É (Æ 42))=_ from g,hd,hn,az (by simp)]
    simp only [Z,ez];rw [show eR n S (k:Int) false (É (Æ 43))=_ from p,hd,hn,az (by simp)]
    simp only [Z,ez];rw [show eR n S (k:Int) false (É (Æ 63))=_ from e3,hd,hn,az (by simp)]
    rfl
   .rename_i c hn
    obtain⟨-,e⟩:=fK hn;have hl:s.length=s.tail.length+1:=by rw [e];simp
    have q1:=sO (d:=42) hn;have q2:=sO (d:=43) hn;have q3:=sO (d:=63) hn;rw [<-hd]at q1 q2 q3;split at h
    .rename_i hc
     cases h;refine⟨t,k,false,.inl ⟨rfl,rfl,rfl,k,rfl,hk,hd⟩,cJ.stop base fun n m ⟨g,p,e3⟩=> ?_⟩
     have bx:c.toNat≠42/\c.toNat≠43/\c.toNat≠63:=by
      unfold gI at hc;repeat' split at hc
      all_goals omega
     rw [By];simp only [Ã,Y];rw [show eR n S (k:Int) false (É (Æ 42))=_ from g,az (fun q=>bx.1 (q1.1 q))]
     simp only [Z,ez];rw [show eR n S (k:Int) false (É (Æ 43))=_ from p,az (fun q=>bx.2.1 (q2.1 q))]
     simp only [Z,ez];rw [show eR n S (k:Int) false (É (Æ 63))=_ from e3,az (fun q=>bx.2.2 (q3.1 q))]
     rfl
    .rename_i hc
     obtain⟨t',a',u,ad,e4⟩:=ih _ _ _ h d S (k+1) hS (by omega) (drop_tail hd) (by omega) trivial ⟨by simp,by simpa using eX bd⟩
     refine⟨t',a',u,ad,cJ.step base e4 fun n m ⟨g,p,e3⟩ e4=> ?_⟩
     rw [By];simp only [Ã,Y];rw [show eR n S (k:Int) false (É (Æ 42))=_ from g];simp only [Z,wk (show k<=1000 by omega),la]
     by_cases c1:c.toNat=42
     .rw [aB (q1.2 c1)]
      have:gI c=8:=by unfold gI;rw [if_pos c1]
      rw [this]at e4;exact e4
     rw [az (fun q=>c1 (q1.1 q))]
     simp only [ez];rw [show eR n S (k:Int) false (É (Æ 43))=_ from p];simp only [Z,wk (show k<=1000 by omega)]
     by_cases c2:c.toNat=43
     .rw [aB (q2.2 c2)]
      have:gI c=9:=by unfold gI;rw [if_neg c1,if_pos c2]
      rw [this]at e4;exact e4
     rw [az (fun q=>c2 (q2.1 q))]
     simp only [ez];rw [show eR n S (k:Int) false (É (Æ 63))=_ from e3];simp only [Z,wk (show k<=1000 by omega)]
     by_cases c3:c.toNat=63
     .rw [aB (q3.2 c3)]
      have:gI c=10:=by unfold gI;rw [if_neg c1,if_neg c2,if_pos c3]
      rw [this]at e4;exact e4
     exfalso
     apply hc
     unfold gI;rw [if_neg c1,if_neg c2,if_neg c3]
  |atom=>
   obtain⟨cr, -⟩:=a8;have ct:=h;cases s with
   |nil=>exact absurd rfl cr
   |cons c rr=>
    obtain⟨ao,bf⟩:=BE hd;simp only [Á]at hs a7;have aq:S.drop (k+1)=rr:=drop_tail hd;by_cases cv:40<d
    .refine⟨leaf 0 0,k,true,.inr ⟨rfl,sN.mono ct (by simpa using hs) ⟨by simp,rfl⟩ trivial (.inr (by simp only [Á];omega))⟩,W.succ (W.of fun n=> ?_)⟩
     rw [Qh,hL (show ¬(S.length:Int)<=(k:Int) by omega),hJ (show (40:Int)<(d:Int) by omega)]
     rfl
    have i: ∀n,uX (n+1) S k false d=_:=fun n=>by
     rw [Qh,hL (show ¬(S.length:Int)<=(k:Int) by omega),hL (show ¬(40:Int)<(d:Int) by omega),df ao,bf,wk (show k<=1000 by omega)]
    simp only [iP]at h;split at h
    .rename_i hc
     simp only [Ð]at h;obtain⟨x,h1,h2⟩:=h;cases h2;obtain⟨a1,a2,a3⟩:=eJ _ _ _ _ _ h1 (by omega) trivial trivial
     simp only [dU]at a2;obtain⟨t,a,bad,z,g⟩:=ih _ _ _ h1 (d+1) S (k+1) hS (by omega) aq (by omega) trivial trivial
     rcases z with⟨rfl,rfl,hb,k',rfl,ah,af⟩|⟨rfl,j⟩
     .by_cases bh:eP x.2.1 false=some 41
      .have bj:gZ x=(x.1,x.2.1.tail,false):=by
        unfold gZ;rw [hb,bh];rfl
       obtain⟨-,p⟩:=fK bh;have c0:k'<S.length:=(BE (af.trans p)).1;refine⟨x.1,((k'+1:Nat):Int),false,.inl ⟨rfl,by rw [bj],by rw [bj],k'+1,rfl,by omega,by rw [bj];exact drop_tail af⟩,(g.and (lg S k' ah 41)).nm fun n ⟨g,e3⟩=> ?_⟩
       rw [i];simp only [ez,Z,bp];rw [aB (show (c.toNat:Int)=40 by omega),wk (show d<=1000 by omega)]
       simp only [Y,g,Z,eS];rw [show eR n S (k':Int) false (É (Æ 41))=_ from e3,af,aB bh];simp only [Z,Â,ez,wk (show k'<=1000 by omega)]
      .have bj:(gZ x).2.2=true:=by
        unfold gZ;rw [hb];split
        .rename_i dd bz
         split
         .rename_i hq
          exact absurd ((sO (d:=41) bz).2 hq) bh
         .rfl
        .rfl
       refine⟨x.1,((k'+1:Nat):Int),true,.inr ⟨rfl,.inl bj⟩,(g.and (lg S k' ah 41)).nm fun n ⟨g,e3⟩=> ?_⟩
       rw [i];simp only [ez,Z,bp];rw [aB (show (c.toNat:Int)=40 by omega),wk (show d<=1000 by omega)]
       simp only [Y,g,Z,eS];rw [show eR n S (k':Int) false (É (Æ 41))=_ from e3,af,az bh];simp only [Z,Ã,Y,wk (show k'<=1000 by omega)]
     .have b:sN d (gZ x).2:=by
       unfold gZ;split
       .rename_i dd bz
        obtain⟨hb,p⟩:=fK bz;split
        .rcases j with hq|hq
         .rw [hb]at hq;cases hq
         .refine .inr ?_
          show x.2.1.tail.length<d;rw [p]at hq;simp only [Á]at hq;omega
        .exact .inl rfl
       .exact .inl rfl
      refine⟨t,wrap .i64 (a+1),true,.inr ⟨rfl,b⟩,(g.and (Jm S a 41)).nm fun n ⟨g,e3⟩=> ?_⟩
      rw [i];simp only [ez,Z,bp];rw [aB (show (c.toNat:Int)=40 by omega),wk (show d<=1000 by omega)]
      simp only [Y,g,Z,eS];rw [show eR n S a true (É (Æ 41))=_ from e3];rfl
    .rename_i hc
     cases h;have ar:bo ((c.toNat:Int)=40)=false:=az (by omega)
     show ∃t a bad,Sync d S (kf c rr) t a bad/\W fun n=>uX n S k false d=some (eS t S a bad)
     unfold kf;by_cases c1:c.toNat=46
     .rw [if_pos c1]
      refine⟨leaf 2 0,((k+1:Nat):Int),false,.inl ⟨rfl,rfl,rfl,k+1,rfl,by omega,aq⟩,W.succ (W.of fun n=> ?_)⟩
      rw [i];simp only [ez,Z,bp];rw [ar,aB (show (c.toNat:Int)=46 by omega)]
      rfl
     rw [if_neg c1];have av:bo ((c.toNat:Int)=46)=false:=az (by omega)
     by_cases c2:c.toNat=94
     .rw [if_pos c2]
      refine⟨leaf 4 0,((k+1:Nat):Int),false,.inl ⟨rfl,rfl,rfl,k+1,rfl,by omega,aq⟩,W.succ (W.of fun n=> ?_)⟩
      rw [i];simp only [ez,Z,bp];rw [ar,av,aB (show (c.toNat:Int)=94 by omega)]
      rfl
     rw [if_neg c2];have ax:bo ((c.toNat:Int)=94)=false:=az (by omega)
     by_cases c3:c.toNat=36
     .rw [if_pos c3]
      refine⟨leaf 5 0,((k+1:Nat):Int),false,.inl ⟨rfl,rfl,rfl,k+1,rfl,by omega,aq⟩,W.succ (W.of fun n=> ?_)⟩
      rw [i];simp only [ez,Z,bp];rw [ar,av,ax,aB (show (c.toNat:Int)=36 by omega)]
      rfl
     rw [if_neg c3];have bk:bo ((c.toNat:Int)=36)=false:=az (by omega)
     by_cases c4:c.toNat=91
     .rw [if_pos c4]
      obtain⟨set,nt,o,cc,a,bad,z,g⟩:=aAt S (k+1) (by omega) hS
      rw [aq]at z;refine⟨(o,cc,set,nt,[]),a,bad, ?_,g.nm fun n g=> ?_⟩
      .rcases z with⟨h1,h2,h3,h4⟩|⟨h1,h2⟩
       .exact .inl ⟨h1,h2.symm,h3,h4⟩
       .exact .inr ⟨h1,.inl h2⟩
      .rw [i]
       simp only [ez,Z,bp];rw [ar,av,ax,bk,aB (show (c.toNat:Int)=91 by omega)]
       simp only [Y,ez,g,Z,eS]
     rw [if_neg c4];have bq:bo ((c.toNat:Int)=91)=false:=az (by omega)
     by_cases c5:c.toNat=92
     .rw [if_pos c5]
      cases rr with
      |nil=>
       have da:k+1=S.length:=by simp at ch;omega
       refine⟨leaf 0 0,((k+1:Nat):Int),true,.inr ⟨rfl,.inl rfl⟩,W.succ (W.of fun n=> ?_)⟩
       rw [i];simp only [ez,Z,bp];rw [ar,av,ax,bk,bq,aB (show (c.toNat:Int)=92 by omega),hJ (show (S.length:Int)<=((k+1:Nat):Int) by omega)]
       rfl
      |cons dd rr=>
       obtain⟨ck,cw⟩:=BE aq;refine⟨leaf 1 dd.toNat,((k+2:Nat):Int),false,.inl ⟨rfl,rfl,rfl,k+2,rfl,by omega,drop_tail aq⟩,W.succ (W.of fun n=> ?_)⟩
       rw [i];simp only [ez,Z,bp];rw [ar,av,ax,bk,bq,aB (show (c.toNat:Int)=92 by omega),hL (show ¬(S.length:Int)<=((k+1:Nat):Int) by omega),df ck,cw,wk (show k+1<=1000 by omega)]
       simp only [Y,ez,Z,qJ,eS,leaf]
     rw [if_neg c5];have cl:bo ((c.toNat:Int)=92)=false:=az (by omega)
     by_cases c6:c.toNat=42\/c.toNat=43\/c.toNat=63
     .rw [if_pos c6]
      refine⟨leaf 1 c.toNat,((k+1:Nat):Int),true,.inr ⟨rfl,.inl rfl⟩,W.succ (W.of fun n=> ?_)⟩
      rw [i];simp only [ez,Z,bp];rw [ar,av,ax,bk,bq,cl];simp only [ez,qJ,eS,leaf];rcases c6 with c6|c6|c6
      .rw [aB (P:=(c.toNat:Int)=42) (by omega)];rfl
      .rw [az (P:=(c.toNat:Int)=42) (by omega),aB (P:=(c.toNat:Int)=43) (by omega)];rfl
      .rw [az (P:=(c.toNat:Int)=42) (by omega),az (P:=(c.toNat:Int)=43) (by omega),aB (P:=(c.toNat:Int)=63) (by omega)];rfl
     .rw [if_neg c6]
      refine⟨leaf 1 c.toNat,((k+1:Nat):Int),false,.inl ⟨rfl,rfl,rfl,k+1,rfl,by omega,aq⟩,W.succ (W.of fun n=> ?_)⟩
      rw [i];simp only [ez,Z,bp];rw [ar,av,ax,bk,bq,cl,az (P:=(c.toNat:Int)=42) (by omega),az (P:=(c.toNat:Int)=43) (by omega),az (P:=(c.toNat:Int)=63) (by omega)]
      simp only [ez,qJ,eS,leaf]
theorem SU {ks:List Tr} (g:ks.length<=1048576) (a0:Int) {L:Nat->Nat->Int->Int->Option (Sum Int Int)}
  (b:W fun n=> ∀m (i:Nat) (a:Int) (h:i<ks.length),L n (m+1) i a=L n m (ā .i64 ((i:Int)+1)) (cond (decide (a<dh ks[i])) (dh ks[i]) a))
  (he: ∀n m a,L n (m+1) (ks.length:Int) a=some (.inl a)):W fun n=>L n n 0 a0=some (.inl (fV a0 ks)):=by
 have:=jZ (len:=ks.length) (L:=fun n m i a=>L n m (i:Int) a) (fun i a=>fV a0 ks=fV a (ks.drop i)) (fun x=>x=.inl (fV a0 ks)) ?_ ?_
 .exact this.mono fun n h=>by
   obtain⟨x,d,f⟩:=h a0 (by simp)
   rw [<-f];exact d
 .refine b.mono fun n h m i a hi hinv=>.inr ⟨cond (decide (a<dh ks[i])) (dh ks[i]) a, ?_, ?_⟩
  .have h:=h m i a hi
   rw [<-dy hi (by omega)];exact h
  .rw [hinv,Ä hi,fV]
 .refine W.of fun n m a hinv=>⟨_,he n m a, ?_⟩
  rw [hinv,Ç (Î _),fV]
theorem Jp (t:Tr):dh t=ā .i64 (fV 0 (dO t)+1):=by
 cases t;rw [dh];rfl
theorem aAx (n:Nat) (a b:Int):qv (n+1) a b=some (cond (decide (a<b)) b a):=by
 rw [Qn];by_cases h:b<a
 .rw [hJ h,hL (by omega)];rfl
 .rw [hL h]
  by_cases k:a<b
  .rw [hJ k];rfl
  .rw [hL k,show a=b by omega];rfl
theorem Jq {t:Tr} (h:hC t):(W fun n=>Af n (aF t).1 (aF t).2.1 (aF t).2.2.1 (aF t).2.2.2.1 (aF t).2.2.2.2=some (dh t))/\
  (W fun n=>uY n (aF t).1 (aF t).2.1 (aF t).2.2.1 (aF t).2.2.2.1 (aF t).2.2.2.2=some (dh t)):=by
 induction h with
 |mk d hk ih=>
  rename_i t;constructor
  .have k:=SU (ks:=dO t) (by omega) 0 (L:=fun n m i a=>vN n m i a (dO t) (dO t).length) ((W.all (dO t) fun x b=>(ih x b).1).mono fun n h m i a hi=>by
    rw [Ri,bu hi,mb hi];simp only [Y,Z,h _ (Å hi)]) (fun n m a=>by rw [Ri,ck];rfl)
   refine k.nm fun n e=> ?_
   rw [atE,Jp,show vN n n 0 0 (aF t).2.2.2.2 (aF t).2.2.2.2.length=_ from e];rfl
  .have k:=SU (ks:=dO t) (by omega) 0 (L:=fun n m i a=>uZ n m (aF t).1 (aF t).2.1 (aF t).2.2.1 (aF t).2.2.2.1 (dO t) i a) (((W.all (dO t) fun x b=>(ih x b).2).and (W.ge 1)).mono fun n ⟨h,f⟩ m i a hi=>by
    obtain⟨n,rfl⟩: ∃q,n=q+1:=⟨n-1,by omega⟩
    rw [Qm,bu hi,mb hi];simp only [Y,Z,h _ (Å hi),aAx]) (fun n m a=>by rw [Qm,ck];rfl)
   refine k.nm fun n e=> ?_
   rw [apI,Jp,show uZ n n (aF t).1 (aF t).2.1 (aF t).2.2.1 (aF t).2.2.2.1 (aF t).2.2.2.2 0 0=_ from e];rfl
theorem Jr (s:O) (b:s.length<=60): ∃r,iP 1000 .pat s false=some r:=
 Yz 1000 .pat s false (by simp only [need];omega) b trivial trivial
theorem BF {s:O} (b:s.length<=60) {r} (h:iP 1000 .pat s false=some r):gJ s=if r.2.2=false/\r.2.1=[]/\dh (cQ r.1)<=12 then(r.1.1,r.1.2.1,r.1.2.2.1,r.1.2.2.2.1,r.1.2.2.2.2,true)else(0,0,[],false,[],false):=by
 unfold gJ;rw [if_pos b,h]
theorem Js {s:O} (b: ¬s.length<=60):gJ s=(0,0,[],false,[],false):=by
 unfold gJ;rw [if_neg b]
theorem SV (s:O):W fun n=>zZ n s=some (gJ s):=by
 by_cases b:s.length<=60
 .obtain⟨r,h⟩:=Jr s b
  have k1:W fun n=>vL n s false=some (flat r):=aAr _ _ _ _ _ h b trivial trivial
  have d:=(eJ _ _ _ _ _ h b trivial trivial).1;have k2:=(Jq (eX d)).1;rw [Nr]at k2;refine(k1.and k2).nm fun n ⟨f,g⟩=> ?_
  rw [Rc,hL (by omega),f,BF b h]
  simp only [ez,Z,flat,g,bL];by_cases c:r.2.2=false/\r.2.1=[]/\dh (cQ r.1)<=12
  .rw [if_pos c,c.1,c.2.1,az (P:=12<dh (cQ r.1)) (by omega)]
   rfl
  .rw [if_neg c]
   cases i:r.2.2
   .simp only [ez]
    cases j:r.2.1 with
    |nil=>
     rw [aB (P:=12<dh (cQ r.1)) (by
      rcases ĥ (12<dh (cQ r.1))with q|q
      .exact q
      .exact absurd ⟨i,j,by omega⟩ c)]
     rfl
    |cons a l=>rfl
   .rfl
 .refine W.succ (W.of fun n=> ?_)
  rw [Rc,hJ (by omega),Js b]
  rfl
theorem SW (s:O):W fun n=>uU n s=some (gJ s):=by
 by_cases d:s.length<=60
 .obtain⟨r,h⟩:=Jr s d
  obtain⟨t,a,bad,g,k1⟩:=aAw _ _ _ _ h 0 s 0 d (Ī _) rfl (by omega) trivial trivial
  have i:=(eJ _ _ _ _ _ h d trivial trivial).1;have k2:=(Jq (eX i)).2;rw [Nr]at k2;have k1:W fun n=>uV n s 0 false 0=some (eS t s a bad):=k1
  rcases g with⟨rfl,rfl,j,k',rfl,p,f⟩|⟨rfl,b⟩
  .refine(k1.and k2).nm fun n ⟨k,u⟩=> ?_
   rw [IP,hL (by omega),k,BF d h]
   simp only [ez,Z,eS,u,bL,cu];by_cases c:r.2.2=false/\r.2.1=[]/\dh (cQ r.1)<=12
   .have:k'=s.length:=by
     have:=congrArg Þ (f.trans c.2.1);simp at this
     omega
    rw [if_pos c,az (P:=12<dh (cQ r.1)) (by omega),az (P:= ¬_=_) (by omega)]
    rfl
   .rw [if_neg c]
    by_cases m:r.2.1=[]
    .rw [aB (P:=12<dh (cQ r.1)) (by
      rcases ĥ (12<dh (cQ r.1))with q|q
      .exact q
      .exact absurd ⟨j,m,by omega⟩ c)]
     cases bo (¬(k':Int)=(s.length:Int))<;>rfl
    .have:k'≠s.length:=by
      intro q;apply m
      rw [<-f,q,Ç (Î _)]
     rw [aB (P:= ¬_=_) (by omega)]
     rfl
  .refine k1.nm fun n k=> ?_
   have j:r.2.2=true:=by
    rcases b with q|q
    .exact q
    .exact absurd q (by omega)
   rw [IP,hL (by omega),k,BF d h,if_neg (by rw [j];simp)]
   rfl
 .refine W.succ (W.of fun n=> ?_)
  rw [IP,hJ (by omega),Js d]
  rfl
theorem Jt (a b:Nat) (h:a+b<=4000000000):wrap .i64 ((a:Int)+(b:Int))=((a+b:Nat):Int):=by rw [À];omega
theorem me (a:Nat) (h:a<=4000000000):wrap .i64 ((a:Int)+(1:Int))=((a+1:Nat):Int):=by rw [À];omega
theorem aAy (a:Nat) (h:a<=4000000000):wrap .i64 ((1:Int)+(a:Int))=((1+a:Nat):Int):=by rw [À];omega
theorem SX {a b:Nat} (h:a=b):((a:Int)==(b:Int))=true:=by rw [h];simp
theorem SY {a b:Nat} (h: ¬a=b):((a:Int)==(b:Int))=false:=by
 rw [beq_eq_false_iff_ne];omega
theorem mf {a:Nat} {b:Int} (h:(a:Int)=b):((a:Int)==b)=true:=by rw [h];simp
theorem ku {a:Nat} {b:Int} (h: ¬(a:Int)=b):((a:Int)==b)=false:=by
 rw [beq_eq_false_iff_ne];exact h
def gA (c x:UInt8):Bool:=decide (x.toNat=c.toNat)
theorem SZ (n:Nat) (c:UInt8): ∀(l:O) (m:Nat),l.length<m->Ao n m l c=some (.inl (l.dropWhile (gA c)))
 | [],m,h=>by
  obtain⟨m,rfl⟩: ∃m',m=m'+1:=⟨m-1,by omega⟩
  rw [Rp];rfl
 |a::l,m,h=>by
  obtain⟨m,rfl⟩: ∃m',m=m'+1:=⟨m-1,by omega⟩
  simp only [Á]at h;have d:bF (a::l) (0:Int)=some a:=rfl;have f:((a::l).drop 1).take ((a::l).length-1)=l:=by simp
  rw [Rp,d,hJ (by simp only [Á];omega),â]
  simp only [Y,Z,dS,f];by_cases b:a.toNat=c.toNat
  .rw [SX b,hJ (by simp only [Á];omega),if_pos (show gA c a=true from hJ b)]
   exact SZ n c l m (by omega)
  .rw [SY b,if_neg (by unfold gA;simpa using b)]
   rfl
theorem Ta (s:O) (c:UInt8):W fun n=>An n s c=some (s.dropWhile (gA c)):=by
 refine(W.ge (s.length+1)).nm fun n b=> ?_
 rw [atX,dS,SZ n c s n (by omega)]
 rfl
theorem Tb (s:O) (c:UInt8) (h:c.toNat<128):W fun n=>Am n s [c]=some (s.dropWhile (gA c)):=by
 refine(Ta s c).nm fun n e=> ?_
 have b:bF ([c]:O) (0:Int)=some c:=rfl;have d:(([c]:O)==[])=false:=rfl;have f:((([c]:O).length:Int)==(1:Int))=true:=rfl;rw [atW,b,d,f];cases s with
 |nil=>rfl
 |cons a l=>
  have g:((a::l:O)==[])=false:=rfl;rw [g];simp only [ez,Y,Z,dS,e];rw [hJ (by omega)]
  rfl
def oU (c:UInt8) (l:O):O:=(l.reverse.dropWhile (gA c)).reverse
theorem aAz (c:UInt8) (l:O) (b:UInt8):oU c (l++[b])=if b.toNat=c.toNat then oU c l else l++[b]:=by
 unfold oU;simp only [ď,ĕ,ę,ê,Ć,â];by_cases h:b.toNat=c.toNat
 .rw [if_pos h,if_pos (show gA c b=true from hJ h)]
 .rw [if_neg h,if_neg (by unfold gA;simpa using h)]
  simp
theorem Tc (n:Nat) (c:UInt8): ∀(k:Nat) (l:O) (m:Nat),l.length=k->k<m->k<=1000000->vT n m l c=some (.inl (oU c l))
 |0,l,m,d,hm,_=>by
  obtain⟨m,rfl⟩: ∃m',m=m'+1:=⟨m-1,by omega⟩
  obtain rfl:=Ý.1 d;rw [BB];rfl
 |k+1,l,m,d,hm,hk=>by
  obtain⟨m,rfl⟩: ∃m',m=m'+1:=⟨m-1,by omega⟩
  obtain⟨l',b,rfl⟩: ∃l' b,l=l'++[b]:=by
   have f:l≠ []:=by intro e;rw [e]at d;cases d
   exact⟨l.dropLast,l.getLast f,(ñ f).symm⟩
  simp only [Ê,Á,Ë]at d;have hw:wrap .i64 (((l'++[b]).length:Int)-(1:Int))=(l'.length:Int):=by
   simp only [Ê,Á,Ë];rw [À];omega
  have h:bF (l'++[b]) (l'.length:Int)=some b:=by
   rw [df (by simp)]
   simp
  rw [BB,hJ (by simp only [Ê,Á,Ë];omega),hw,h,aAz]
  simp only [Y,Z,dS];by_cases g:b.toNat=c.toNat
  .have e:(l'++[b]).take ((Æ (l'.length:Int))-0)=l':=by simp
   rw [SX g,if_pos g,hJ (by simp only [Ê,Á,Ë];omega),e]
   exact Tc n c k l' m (by omega) (by omega) (by omega)
  .rw [SY g,if_neg g]
   rfl
theorem Td {p:UInt8->Bool}: ∀l:O,(∀x∈l.dropWhile p,p x=true)↔ ∀x∈l,p x=true
 | []=>Iff.rfl
 |a::l=>by
  rw [â];by_cases h:p a=true
  .rw [if_pos h,Td l]
   constructor
   .intro k x b
    rcases è.1 b with rfl|b
    .exact h
    .exact k x b
   .exact fun k x b=>k x (by simp [b])
  .rw [if_neg h]
theorem Te {p:UInt8->Bool}: ∀l:O,l.dropWhile p=[]↔ ∀x∈l,p x=true
 | []=>by simp
 |a::l=>by
  rw [â];by_cases h:p a=true
  .rw [if_pos h,Te l]
   constructor
   .intro k x b
    rcases è.1 b with rfl|b
    .exact h
    .exact k x b
   .exact fun k x b=>k x (by simp [b])
  .rw [if_neg h]
   constructor
   .intro k;cases k
   .exact fun k=>absurd (k a (by simp)) h
theorem aAA (s:O) (d:s.length<=1000000):W fun n=>(Hs n s [32]).bind (fun y=>some (!(y==([]:O))))=some (!bo (∀c∈s,c.toNat=32)):=by
 have f:W fun n=>vR n s 32=some (oU 32 s):=(W.ge (s.length+1)).nm fun n q=>by
  rw [Rs,dS,Tc n 32 _ s n rfl (by omega) d]
  rfl
 refine(f.and (Ta (oU 32 s) 32)).nm fun n ⟨e,g⟩=> ?_
 have h:bF ([32]:O) (0:Int)=some 32:=rfl;have i:(([32]:O)==[])=false:=rfl;have j:((([32]:O).length:Int)==(1:Int))=true:=rfl;have k:decide (((32:UInt8).toNat:Int)<(128:Int))=true:=by decide
 rw [auB,h,i,j];cases s with
 |nil=>rw [aB (by simp)];rfl
 |cons a l=>
  have m:((a::l:O)==[])=false:=rfl;have p:((oU 32 (a::l)).dropWhile (gA 32)=[])↔ ∀c∈(a::l),c.toNat=32:=by
   rw [Te];unfold oU;have:(∀x∈((a::l).reverse.dropWhile (gA 32)).reverse,gA 32 x=true)↔ ∀x∈(a::l).reverse.dropWhile (gA 32),gA 32 x=true:=by simp only [Ě]
   rw [this,Td];simp only [Ě];have b:gA 32=fw:=rfl;rw [b];simp only [fw,decide_eq_true_eq]
  rw [m];simp only [ez,Y,Z,dS,e,g,k];rw [bp,propext p]
theorem aAB (s:O) (k:Nat) (hk:k<=s.length) (q:s.length<=1048576):W fun n=>nh n s (k:Int)=some (((s.drop k).takeWhile bw).length:Int):=by
 have d: ∀i:Nat,i<=s.length->wrap .i64 ((k:Int)+(i:Int))=((k+i:Nat):Int):=fun i hi=>by rw [À];omega
 have h:=Nq (l:=s.drop k) (β:=Int) (by simp;omega) (p:=bw) (L:=fun n m i=>vQ n m i k s) (W.of fun n m i hi=>by
  have b:k+i<s.length:=by simp at hi;omega
  rw [Rq,d i (by omega),bu b,df b]
  simp only [Y,Z,ü];unfold bw;by_cases f:48<=(s[k+i]).toNat
  .rw [hJ (show (48:Int)<=((s[k+i]).toNat:Int) by omega)]
   by_cases g:(s[k+i]).toNat<=57
   .rw [hJ (show ((s[k+i]).toNat:Int)<=(57:Int) by omega),hJ ⟨f,g⟩]
    rfl
   .rw [hL (show ¬((s[k+i]).toNat:Int)<=(57:Int) by omega),hL (p:=48<=(s[k+i]).toNat/\(s[k+i]).toNat<=57) (fun h=>g h.2)]
    rfl
  .rw [hL (show ¬(48:Int)<=((s[k+i]).toNat:Int) by omega),hL (p:=48<=(s[k+i]).toNat/\(s[k+i]).toNat<=57) (fun h=>f h.1)]
   rfl) (fun n m=>by
   have j:(k+(s.drop k).length)=s.length:=by simp;omega
   rw [Rq,d _ (by simp),j,ck];rfl)
 refine h.nm fun n h=> ?_
 rw [atY];rw [show vQ n n (0:Int) k s=_ from h];rfl
theorem aAC (n:Nat) (s:O):OX (n+1) s=cond (á s.length 18) ((Lib.atoi s).map fun x=>(x,false)) none:=by kernel_rfl
theorem aAD {α β:Type} (p:α×β):(some p).bind (fun y=>some (y.1,y.2))=some p:=by cases p;rfl
def eu (w q:O):Nat:=cW w*1000000+dJ 100000 q
theorem Tf (w q:O):cW w*1000000+dJ 100000 q=eu w q:=by unfold eu;exact Eq.refl _
theorem mP {n:Nat} (h:n<=4000000000):á n mx=true:=Ó (by unfold mx;omega)
theorem aAE (k:Nat):W fun n=>qB n (k:Int)=some (if 9000000000000<k then((0:Int),false)else((k:Int),true)):=by
 have b:W fun n=>ic n (k:Int)=some (decide (k<=9000000000000)):=W.succ (W.succ (W.of fun n=>by
  rw [Jc,oP,hJ (by omega)]
  simp only [Y,Z];congr 1
  rw [bL,bL];exact mR (by omega)))
 refine b.nm fun n e=> ?_
 rw [Rr,e];simp only [Z];by_cases h:9000000000000<k
 .rw [if_pos h,hL (by omega)];rfl
 .rw [if_neg h,hJ (by omega)];rfl
theorem Tg (w q:O) (hw: ∀c∈w,bw c=true) (f: ∀c∈q,bw c=true) (j:q.length<=1000):W fun n=>jI n w q=some (if 9000000000000<eu w q then((0:Int),false)else((eu w q:Int),true)):=by
 refine(((Tb w 48 (by decide)).and (aAE (eu w q))).and (W.ge 1)).nm fun n ⟨⟨g,i⟩,k⟩=> ?_
 have d0:w.dropWhile (gA 48)=w.dropWhile iB:=rfl;rw [auA,g,d0];simp only [Z];rw [mP (by omega),hJ (by refine⟨by omega, ?_⟩;simp only [Ê,Á,Ë];omega)]
 simp only [Y];by_cases h:7<(w.dropWhile iB).length
 .have:=NJ w hw h
  rw [hJ (by omega),if_pos (by unfold eu;omega)]
  rfl
 .obtain⟨n,rfl⟩: ∃m,n=m+1:=⟨n-1,by omega⟩
  have b:((q++([48,48,48,48,48,48]:O)).take (6-0)).length=6:=by simp
  have d:(q++([48,48,48,48,48,48]:O)).take (6-0)=(q++fh 6).take 6:=rfl;rw [hL (by omega),mP (by omega),mP (by rw [b];simp only [Ê,Á,Ë];omega),aAC,d,YF w q hw f]
  rw [show á ((([48]:O)++w.dropWhile iB)++(q++fh 6).take 6).length 18=true from Ó (by
   rw [<-d,Ê,b];simp only [Ê,Á,Ë];omega)]
  simp only [Y,ez,Option.map_some,Z];rw [Tf,i];exact aAD _
theorem Th {p:UInt8->Bool} (l:O):l.take (l.takeWhile p).length=l.takeWhile p:=by
 induction l with
 |nil=>rfl
 |cons a l ih=>
  rw [Ñ];by_cases h:p a=true
  .rw [if_pos h,Á,List.take_succ_cons,ih]
  .rw [if_neg h];rfl
theorem aAF {p:UInt8->Bool} (l:O):(l.takeWhile p).length+(l.dropWhile p).length=l.length:=by
 have:=congrArg Þ (List.takeWhile_append_dropWhile (p:=p) (l:=l));rwa [Ê]at this
def eb (s:O) (j:Nat):O:=match s.drop j with
 |c::t=>if c.toNat=46 then t.takeWhile bw else []
 | []=>[]
theorem Ju (s:O) (k:Nat) (neg:Bool):jE s k neg=
  (let w:=(s.drop k).takeWhile bw
   let q:=eb s (k+w.length)
   if w=[]/\q=[]then(0,0)else if 9000000000000<eu w q then(0,0)else(cond neg (-(eu w q:Int)) (eu w q:Int),((k+w.length+(if q=[]then 0 else 1+q.length):Nat):Int))):=by
 simp only [<-Tf];exact Eq.refl _
theorem sP {s:O} {j:Nat} (h:j<s.length) (b:(s[j]).toNat=46):eb s j=(s.drop (j+1)).takeWhile bw:=by
 unfold eb;rw [Ä h];simp only [if_pos b]
theorem wH {s:O} {j:Nat} (h: ∀h:j<s.length,¬(s[j]).toNat=46):eb s j=[]:=by
 unfold eb;by_cases hj:j<s.length
 .rw [Ä hj]
  simp only [if_neg (h hj)]
 .rw [Ç (by omega)]
theorem Ti (s:O) (j:Nat): ∀c∈eb s j,bw c=true:=by
 by_cases h: ∃h:j<s.length,(s[j]).toNat=46
 .obtain⟨h,b⟩:=h
  rw [sP h b];exact Ed _
 .rw [wH (fun hj b=>h ⟨hj,b⟩)]
  intro c b;cases b
theorem qK (s:O) (k:Nat) (hk:k<=s.length):k+((s.drop k).takeWhile bw).length<=s.length:=by
 have:=mS bw (s.drop k);simp at this
 omega
theorem aAG (l:O):(l==([]:O))=decide (l=[]):=by
 cases l<;>rfl
theorem BG {s:O} (hs:s.length<=300) {n:Nat}
  (hD: ∀k,k<s.length+1->nh n s (k:Int)=some (((s.drop k).takeWhile bw).length:Int))
  (hM: ∀k,k<s.length+1->jI n ((s.drop k).takeWhile bw) []=some (if 9000000000000<eu ((s.drop k).takeWhile bw) []then((0:Int),false)else((eu ((s.drop k).takeWhile bw) []:Int),true)))
  (ah: ∀k,k<s.length+1->jI n ((s.drop k).takeWhile bw) (eb s (k+((s.drop k).takeWhile bw).length))=some (if 9000000000000<eu ((s.drop k).takeWhile bw) (eb s (k+((s.drop k).takeWhile bw).length))then((0:Int),false)else((eu ((s.drop k).takeWhile bw) (eb s (k+((s.drop k).takeWhile bw).length)):Int),true)))
  {k:Nat} (hk:k<=s.length) (neg:Bool) (fin:Int->Int->Option (Int×Int)) (u: ∀(x k:Nat),x<=9000000000000->fin x k=some (cond neg (-(x:Int)) (x:Int),(k:Int))):
  ((nh n s (k:Int)).bind fun(d:Int)=>cond (decide ((0:Int)<=(k:Int)/\(k:Int)<=(wrap .i64 ((k:Int)+d))/\(wrap .i64 ((k:Int)+d))<=(s.length:Int)))
   ((cond (decide ((wrap .i64 ((k:Int)+d))<(s.length:Int))) ((bF s (wrap .i64 ((k:Int)+d))).bind fun(z:UInt8)=>some (((z).toNat:Int)==(46:Int))) (some false):Option Bool).bind fun(ai:Bool)=>cond ai
    ((nh n s (wrap .i64 ((wrap .i64 ((k:Int)+d))+(1:Int)))).bind fun(g:Int)=>cond (decide ((0:Int)<g))
     (cond (decide ((0:Int)<=(wrap .i64 ((wrap .i64 ((k:Int)+d))+(1:Int)))/\(wrap .i64 ((wrap .i64 ((k:Int)+d))+(1:Int)))<=(wrap .i64 ((wrap .i64 ((wrap .i64 ((k:Int)+d))+(1:Int)))+g))/\(wrap .i64 ((wrap .i64 ((wrap .i64 ((k:Int)+d))+(1:Int)))+g))<=(s.length:Int)))
      ((cond (((s.drop (Æ (k:Int))).take ((Æ (wrap .i64 ((k:Int)+d)))-(Æ (k:Int))):O)==([]:O)) (some (((s.drop (Æ (wrap .i64 ((wrap .i64 ((k:Int)+d))+(1:Int))))).take ((Æ (wrap .i64 ((wrap .i64 ((wrap .i64 ((k:Int)+d))+(1:Int)))+g)))-(Æ (wrap .i64 ((wrap .i64 ((k:Int)+d))+(1:Int))))):O)==([]:O))) (some false):Option Bool).bind fun(i:Bool)=>cond i (some (((0:Int),(0:Int)):(Int×Int)))
       ((jI n ((s.drop (Æ (k:Int))).take ((Æ (wrap .i64 ((k:Int)+d)))-(Æ (k:Int)))) ((s.drop (Æ (wrap .i64 ((wrap .i64 ((k:Int)+d))+(1:Int))))).take ((Æ (wrap .i64 ((wrap .i64 ((wrap .i64 ((k:Int)+d))+(1:Int)))+g)))-(Æ (wrap .i64 ((wrap .i64 ((k:Int)+d))+(1:Int))))))).bind fun(r:(Int×Bool))=>cond (!r.2) (some (((0:Int),(0:Int)):(Int×Int))) (fin r.1 (wrap .i64 ((wrap .i64 ((k:Int)+d))+(wrap .i64 ((1:Int)+g)))))))
      none)
     ((cond (((s.drop (Æ (k:Int))).take ((Æ (wrap .i64 ((k:Int)+d)))-(Æ (k:Int))):O)==([]:O)) (some true) (some false):Option Bool).bind fun(i:Bool)=>cond i (some (((0:Int),(0:Int)):(Int×Int)))
      ((jI n ((s.drop (Æ (k:Int))).take ((Æ (wrap .i64 ((k:Int)+d)))-(Æ (k:Int)))) ([]:O)).bind fun(r:(Int×Bool))=>cond (!r.2) (some (((0:Int),(0:Int)):(Int×Int))) (fin r.1 (wrap .i64 ((k:Int)+d))))))
    ((cond (((s.drop (Æ (k:Int))).take ((Æ (wrap .i64 ((k:Int)+d)))-(Æ (k:Int))):O)==([]:O)) (some true) (some false):Option Bool).bind fun(ad:Bool)=>cond ad (some (((0:Int),(0:Int)):(Int×Int)))
     ((jI n ((s.drop (Æ (k:Int))).take ((Æ (wrap .i64 ((k:Int)+d)))-(Æ (k:Int)))) ([]:O)).bind fun(i:(Int×Bool))=>cond (!i.2) (some (((0:Int),(0:Int)):(Int×Int))) (fin i.1 (wrap .i64 ((k:Int)+d))))))
   none)=some (jE s k neg):=by
 have hw:=qK s k hk;rw [hD k (by omega),Ju]
 simp only [Z];have m0:=hM k (by omega)
 have m2:=ah k (by omega)
 have t1:(s.drop k).take (((s.drop k).takeWhile bw).length)=(s.drop k).takeWhile bw:=Th _;revert hw m0 m2 t1
 generalize (s.drop k).takeWhile bw=w
 intro hw m0 m2 t1;have a1:wrap .i64 ((k:Int)+(w.length:Int))=((k+w.length:Nat):Int):=Jt _ _ (by omega)
 have a2:wrap .i64 (((k+w.length:Nat):Int)+1)=((k+w.length+1:Nat):Int):=me _ (by omega)
 simp only [a1,a2,Ì,í,t1,m0,Z,aAG];rw [hJ (p:=(0:Int)<=(k:Int)/\_) (by omega)]
 simp only [Y];have base:eb s (k+w.length)=[]->((cond (decide (w=[])) (some true) (some false):Option Bool).bind fun(ad:Bool)=>cond ad (some (((0:Int),(0:Int)):(Int×Int)))
   (cond (!(if 9000000000000<eu w []then((0:Int),false)else((eu w []:Int),true)).2) (some (((0:Int),(0:Int)):(Int×Int))) (fin (if 9000000000000<eu w []then((0:Int),false)else((eu w []:Int),true)).1 ((k+w.length:Nat):Int))))=
   some (if w=[]/\eb s (k+w.length)=[]then(0,0)else if 9000000000000<eu w (eb s (k+w.length))then(0,0)else(cond neg (-(eu w (eb s (k+w.length)):Int)) (eu w (eb s (k+w.length)):Int),((k+w.length+(if eb s (k+w.length)=[]then 0 else 1+(eb s (k+w.length)).length):Nat):Int))):=by
  intro hq;rw [hq];by_cases t:w=[]
  .rw [hJ t,if_pos (c:=w=[]/\([]:O)=[]) ⟨t,rfl⟩,Y,Z,Y]
  .rw [hL t,if_neg (c:=w=[]/\([]:O)=[]) (fun h=>t h.1)]
   simp only [ez,Z];by_cases hx:9000000000000<eu w []
   .simp only [if_pos hx,Ã,Y]
   .simp only [if_neg hx,Â,ez]
    rw [u _ _ (þ hx),if_pos trivial,Nat.add_zero]
 by_cases hd: ∃h:k+w.length<s.length,(s[k+w.length]).toNat=46
 .obtain⟨f,hc⟩:=hd
  rw [bu f,df f];simp only [Y,Z];rw [mf (b:=46) (by omega)]
  simp only [Y];have aj:=sP f hc;have hq:=qK s (k+w.length+1) (by omega)
  rw [hD _ (by omega)]
  have t2:(s.drop (k+w.length+1)).take (((s.drop (k+w.length+1)).takeWhile bw).length)=(s.drop (k+w.length+1)).takeWhile bw:=Th _;rw [<-aj]at hq t2 |-;revert hq t2 m2 base
  generalize eb s (k+w.length)=q
  intro m2 base hq t2;simp only [Z];have a3:wrap .i64 ((1:Int)+(q.length:Int))=((1+q.length:Nat):Int):=aAy _ (by omega)
  have a4:wrap .i64 (((k+w.length:Nat):Int)+((1+q.length:Nat):Int))=((k+w.length+(1+q.length):Nat):Int):=Jt _ _ (by omega)
  have a5:wrap .i64 (((k+w.length+1:Nat):Int)+(q.length:Int))=((k+w.length+1+q.length:Nat):Int):=Jt _ _ (by omega)
  simp only [a3,a4,a5,Ì,í,t2,m2,Z];by_cases m:q=[]
  .have:=base m
   subst m;rw [hL (by simp),ez]
   exact this
  .have hlen:0<q.length:=ó.2 m
   rw [hJ (p:=(0:Int)<(q.length:Int)) (by omega),hJ (p:=(0:Int)<=((k+w.length+1:Nat):Int)/\_) (by omega),hL m,if_neg (c:=w=[]/\q=[]) (fun h=>m h.2)]
   have e:(cond (decide (w=[])) (some false) (some false):Option Bool)=some false:=by cases decide (w=[])<;>rfl
   simp only [Y,e,Z,ez];by_cases hx:9000000000000<eu w q
   .simp only [if_pos hx,Ã,Y]
   .simp only [if_neg hx,if_neg m,Â,ez]
    rw [u _ _ (þ hx)]
 .have hq:=wH (s:=s) (j:=k+w.length) (fun h hc=>hd ⟨h,hc⟩)
  have e:(cond (decide (((k+w.length:Nat):Int)<(s.length:Int))) ((bF s ((k+w.length:Nat):Int)).bind fun(z:UInt8)=>some (((z).toNat:Int)==(46:Int))) (some false):Option Bool)=some false:=by
   by_cases f:k+w.length<s.length
   .rw [bu f,df f]
    simp only [Y,Z];rw [ku (b:=46) (fun hc=>hd ⟨f,by omega⟩)]
   .rw [hL (by omega)];rfl
  rw [e,Z,ez];exact base hq
theorem Jv (s:O):lO s=match s.drop (s.takeWhile fw).length with
 |c::_=>if c.toNat=45 then jE s ((s.takeWhile fw).length+1) true else if c.toNat=43 then jE s ((s.takeWhile fw).length+1) false else jE s (s.takeWhile fw).length false
 | []=>jE s (s.takeWhile fw).length false:=rfl
theorem Tj (x:Nat) (h:x<=9000000000000):wrap .i64 ((0:Int)-(x:Int))= -(x:Int):=by rw [À];omega
theorem Tk (s:O) (i:s.length<=300):W fun n=>Al n s=some (lO s):=by
 have hq: ∀j,(eb s j).length<=1000:=fun j=>by
  by_cases h: ∃h:j<s.length,(s[j]).toNat=46
  .obtain⟨h,z⟩:=h
   rw [sP h z];have:=qK s (j+1) (by omega)
   omega
  .rw [wH (fun hj z=>h ⟨hj,z⟩)];simp
 have m:=W.lt (len:=s.length+1) fun k hk=>aAB s k (by omega) (by omega)
 have q:=W.lt (len:=s.length+1) fun k _=>Tg ((s.drop k).takeWhile bw) [] (Ed _) (by simp) (by simp)
 have h3:=W.lt (len:=s.length+1) fun k _=>Tg ((s.drop k).takeWhile bw) (eb s (k+((s.drop k).takeWhile bw).length)) (Ed _) (Ti _ _) (hq _)
 refine(((Tb s 32 (by decide)).and m).and (q.and h3)).nm fun n ⟨⟨e1,r⟩,t,d⟩=> ?_
 have hp:wrap .i64 ((s.length:Int)-((s.dropWhile (gA 32)).length:Int))=((s.takeWhile fw).length:Int):=by
  have h:=aAF (p:=gA 32) s;have e:s.takeWhile (gA 32)=s.takeWhile fw:=rfl;rw [e]at h;rw [À];omega
 rw [atV,e1];simp only [Z,hp];have g:=mS fw s;rw [Jv];revert g
 generalize (s.takeWhile fw).length=p
 intro g;by_cases f:p<s.length
 .have a1:wrap .i64 ((p:Int)+(1:Int))=((p+1:Nat):Int):=me _ (by omega)
  rw [bu f,df f,Ä f];simp only [Y,Z,a1];by_cases m:(s[p]).toNat=45
  .rw [if_pos m,ku (a:=(s[p]).toNat) (b:=43) (by omega),mf (a:=(s[p]).toNat) (b:=45) (by omega)]
   simp only [Y,ez,Z];exact BG i r t d (k:=p+1) (by omega) true (fun x e=>some (wrap .i64 ((0:Int)-x),e)) (fun x k u=>by rw [Tj x u];rfl)
  .rw [if_neg m,ku (a:=(s[p]).toNat) (b:=45) (by omega)]
   by_cases q:(s[p]).toNat=43
   .rw [if_pos q,mf (a:=(s[p]).toNat) (b:=43) (by omega)]
    simp only [Y,ez,Z];exact BG i r t d (k:=p+1) (by omega) false (fun x e=>some (x,e)) (fun x k u=>rfl)
   .rw [if_neg q,ku (a:=(s[p]).toNat) (b:=43) (by omega)]
    simp only [ez,Z];exact BG i r t d (k:=p) (by omega) false (fun x e=>some (x,e)) (fun x k u=>rfl)
 .rw [hL (show ¬((p:Int)<(s.length:Int)) by omega),Ç (show s.length<=p by omega)]
  simp only [ez,Z];exact BG i r t d (k:=p) (by omega) false (fun x e=>some (x,e)) (fun x k u=>rfl)
theorem aAH:W fun n=> ∀c,kV n c=some (bw c):=W.succ (W.of fun n c=>by
 rw [apT];unfold bw;by_cases b:48<=c.toNat
 .rw [hJ (show (48:Int)<=(c.toNat:Int) by omega)]
  simp only [Y,Z];congr 1
  rw [bL,bL];exact mR (by omega)
 .rw [hL (show ¬(48:Int)<=(c.toNat:Int) by omega),hL (p:=48<=c.toNat/\c.toNat<=57) (fun h=>b h.1)]
  rfl)
theorem aAI (n:Nat) {s:O} (g:s.length<=300): ∀(k m i:Nat),s.length-i<=k->k<m->i<=s.length->vm n m (i:Int) s=some (.inl (s,((i+((s.drop i).takeWhile fw).length:Nat):Int))):=by
 intro k;induction k with
 |zero=>
  intro m i hk hm hi;obtain⟨m,rfl⟩: ∃m',m=m'+1:=⟨m-1,by omega⟩
  obtain rfl:i=s.length:=by omega
  rw [IW,ck,Ç (Î _)];rfl
 |succ k ih=>
  intro m i hk hm hi;obtain⟨m,rfl⟩: ∃m',m=m'+1:=⟨m-1,by omega⟩
  by_cases d:i<s.length
  .rw [IW,bu d,df d,Ä d,Ñ]
   simp only [Y,Z];by_cases h:(s[i]).toNat=32
   .rw [mf (a:=(s[i]).toNat) (b:=32) (by omega),if_pos (show fw s[i]=true from hJ h),me i (by omega),Y,ih m (i+1) (by omega) (by omega) (by omega)]
    have f:i+1+((s.drop (i+1)).takeWhile fw).length=i+(s[i]::(s.drop (i+1)).takeWhile fw).length:=by simp only [Á];omega
    rw [f]
   .rw [ku (a:=(s[i]).toNat) (b:=32) (by omega),if_neg (by unfold fw;simpa using h)]
    rfl
  .obtain rfl:i=s.length:=by omega
   rw [IW,ck,Ç (Î _)];rfl
theorem aAJ {n:Nat} (hd: ∀c,kV n c=some (bw c)) {s:O} (hs:s.length<=300) (neg:Bool): ∀(k m i:Nat) (l:O) (x:Int),s.length-i<=k->k<m->i<=s.length->l.length<=i->PW l x->
  ∃g,PW (l++(s.drop i).takeWhile bw) g/\oG n m (l.length:Int) (i:Int) s x neg=some (.inl (((l++(s.drop i).takeWhile bw).length:Int),s,g,neg,((i+((s.drop i).takeWhile bw).length:Nat):Int))):=by
 intro k;induction k with
 |zero=>
  intro m i l x hk hm hi p f;obtain⟨m,rfl⟩: ∃m',m=m'+1:=⟨m-1,by omega⟩
  obtain rfl:i=s.length:=by omega
  rw [IX,ck,Ç (Î _),ì,Ø];exact⟨x,f,rfl⟩
 |succ k ih=>
  intro m i l x hk hm hi p f;obtain⟨m,rfl⟩: ∃m',m=m'+1:=⟨m-1,by omega⟩
  by_cases b:i<s.length
  .rw [IX,bu b,df b,Ä b,Ñ]
   simp only [Y,Z,dS,hd];cases h:bw s[i]
   .rw [if_neg (by simp),Ø]
    exact⟨x,f,rfl⟩
   .rw [if_pos rfl]
    obtain⟨g,j,d⟩:=ih m (i+1) (l++[s[i]]) _ (by omega) (by omega) (by omega) (by simp;omega) (YC f h)
    have e:(l++[s[i]])++(s.drop (i+1)).takeWhile bw=l++(s[i]::(s.drop (i+1)).takeWhile bw):=by simp
    rw [e]at j d;have q:(((l++[s[i]]).length:Nat):Int)=((l.length+1:Nat):Int):=by simp
    refine⟨g,j, ?_⟩
    rw [q]at d;have r:i+1+((s.drop (i+1)).takeWhile bw).length=i+(s[i]::(s.drop (i+1)).takeWhile bw).length:=by simp;omega
    rw [r]at d;obtain⟨t,u,_,_⟩:=f;have hb:=(s[i]).toNat_lt;simp only [me _ (show l.length<=4000000000 by omega),me _ (show i<=4000000000 by omega),Y]
    by_cases hle:x<=9000000000000
    .have c1:wrap .i64 (((s[i]).toNat:Int)-48)=((s[i]).toNat:Int)-48:=by rw [À];omega
     have z:wrap .i64 ((((s[i]).toNat:Int)-48)*1000000)=(((s[i]).toNat:Int)-48)*1000000:=by rw [À];omega
     have c3:wrap .i64 (10*x)=10*x:=by rw [À];omega
     have c4:wrap .i64 (10*x+(((s[i]).toNat:Int)-48)*1000000)=10*x+(((s[i]).toNat:Int)-48)*1000000:=by rw [À];omega
     rw [if_pos hle]at d;rw [hJ hle,qJ,c1,z,c3,c4];exact d
    .rw [if_neg hle]at d
     rw [hL hle];exact d
  .obtain rfl:i=s.length:=by omega
   rw [IX,ck,Ç (Î _),ì,Ø];exact⟨x,f,rfl⟩
theorem aAK {n:Nat} (hd: ∀c,kV n c=some (bw c)) {s:O} (hs:s.length<=300) (neg:Bool): ∀(k m i a u:Nat) (x:Int),s.length-i<=k->k<m->i<=s.length->a<=i->u<=100000->0<=x->x+(dJ u ((s.drop i).takeWhile bw):Int)<=1000000000000000->
  qw n m (i:Int) (a:Int) (u:Int) s x neg=some (.inl (((i+((s.drop i).takeWhile bw).length:Nat):Int),x+(dJ u ((s.drop i).takeWhile bw):Int),neg,((a+((s.drop i).takeWhile bw).length:Nat):Int))):=by
 intro k;induction k with
 |zero=>
  intro m i a u x hk hm hi f hu g d;obtain⟨m,rfl⟩: ∃m',m=m'+1:=⟨m-1,by omega⟩
  obtain rfl:i=s.length:=by omega
  rw [IY,ck,Ç (Î _),ì,dJ];simp
 |succ k ih=>
  intro m i a u x hk hm hi f hu g d;obtain⟨m,rfl⟩: ∃m',m=m'+1:=⟨m-1,by omega⟩
  by_cases b:i<s.length
  .rw [Ä b,Ñ]at d |-
   rw [IY,bu b,df b];simp only [Y,Z,dS,hd];cases h:bw s[i]
   .rw [if_neg (by simp),dJ]
    simp
   .rw [h,if_pos rfl,dJ]at d
    rw [if_pos rfl,dJ];simp only [bw,decide_eq_true_eq]at h;have j:((s[i]).toNat-48)*u<=9*100000:=Ċ (by omega) hu
    have ec:(((s[i]).toNat:Int)-48)=(((s[i]).toNat-48:Nat):Int):=by omega
    have c1:wrap .i64 (((s[i]).toNat:Int)-48)=(((s[i]).toNat-48:Nat):Int):=by rw [À];omega
    have p:wrap .i64 ((((s[i]).toNat-48:Nat):Int)*(u:Int))=((((s[i]).toNat-48)*u:Nat):Int):=by
     rw [<-ò,À];omega
    have q:wrap .i64 (x+((((s[i]).toNat-48)*u:Nat):Int))=x+((((s[i]).toNat-48)*u:Nat):Int):=by rw [À];omega
    have r:wrap .i64 (Ï (u:Int) 10)=((u/10:Nat):Int):=by
     rw [show Ï (u:Int) 10=((u/10:Nat):Int)from rfl,À];omega
    rw [qJ,c1,p,q,r,me i (by omega),me a (by omega),Y,ih m (i+1) (a+1) (u/10) _ (by omega) (by omega) (by omega) (by omega) (by omega) (by omega) (by omega)]
    have t:i+1+((s.drop (i+1)).takeWhile bw).length=i+(s[i]::(s.drop (i+1)).takeWhile bw).length:=by simp;omega
    have z:a+1+((s.drop (i+1)).takeWhile bw).length=a+(s[i]::(s.drop (i+1)).takeWhile bw).length:=by simp;omega
    have e5:x+((((s[i]).toNat-48)*u:Nat):Int)+(dJ (u/10) ((s.drop (i+1)).takeWhile bw):Int)=x+((((s[i]).toNat-48)*u+dJ (u/10) ((s.drop (i+1)).takeWhile bw):Nat):Int):=by omega
    rw [t,z,e5]
  .obtain rfl:i=s.length:=by omega
   rw [IY,ck,Ç (Î _),ì,dJ];simp
theorem Tl {w q:O} {x:Int} (i:PW w x) (j: ∀c∈q,bw c=true) (neg:Bool) (e:Int) (many:Nat) (hm:many=w.length+q.length):
  ((cond ((many:Int)==(0:Int)) (some true) (some (decide ((9000000000000:Int)<x+(dJ 100000 q:Int)))):Option Bool).bind fun(f:Bool)=>cond f (some (((0:Int),(0:Int)):(Int×Int))) (cond neg (some ((wrap .i64 ((0:Int)-(x+(dJ 100000 q:Int))),e):(Int×Int))) (some ((x+(dJ 100000 q:Int),e):(Int×Int)))))=
  some (if w=[]/\q=[]then(0,0)else if 9000000000000<eu w q then(0,0)else(cond neg (-(eu w q:Int)) (eu w q:Int),e)):=by
 have s:dJ 100000 q<1000000:=Ec q 5 j;obtain⟨t,u,k,m⟩:=i;by_cases hw:w=[]/\q=[]
 .obtain⟨rfl,rfl⟩:=hw
  subst hm;rw [if_pos ⟨rfl,rfl⟩,mf (b:=0) (by simp),Y,Z,Y]
 .have p:many≠0:=by
   intro h;apply hw
   exact⟨Ý.1 (by omega),Ý.1 (by omega)⟩
  rw [if_neg hw,ku (b:=0) (by omega)]
  simp only [ez,Z];unfold eu;rcases Nat.lt_or_ge 9000000000000 (cW w*1000000)with d|d
  .have:=m d
   rw [hJ (by omega),if_pos (Nat.lt_of_lt_of_le d (Nat.le_add_right _ _)),Y]
  .have:=k d
   subst this;by_cases g:9000000000000<cW w*1000000+dJ 100000 q
   .rw [hJ (by omega),if_pos g,Y]
   .have r:((cW w:Int)*1000000+(dJ 100000 q:Int))=((cW w*1000000+dJ 100000 q:Nat):Int):=by omega
    rw [hL (by omega),if_neg g,r,Tj _ (þ g)]
    cases neg<;>simp only [Y,ez]
theorem BH {s:O} (hs:s.length<=300) {n:Nat} (hn:400<=n) (hd: ∀c,kV n c=some (bw c)) {k:Nat} (hk:k<=s.length) (neg:Bool):
  ((oG n n (0:Int) (k:Int) s (0:Int) neg).bind fun(af:(Sum (Int×O×Int×Bool×Int) (Int×Int)))=>ay af (fun (z44:(Int×O×Int×Bool×Int))=>(cond (decide ((wrap .i64 (z44.2.2.2.2+(1:Int)))<(z44.2.1.length:Int))) ((bF z44.2.1 z44.2.2.2.2).bind fun(j:UInt8)=>cond (((j).toNat:Int)==(46:Int)) ((bF z44.2.1 (wrap .i64 (z44.2.2.2.2+(1:Int)))).bind fun(m:UInt8)=>(kV n ((É (Æ ((m).toNat:Int))):UInt8)).bind fun(p:Bool)=>some p) (some false)) (some false):Option Bool).bind fun(ag:Bool)=>cond ag ((qw n n ((wrap .i64 (z44.2.2.2.2+(1:Int))):Int) z44.1 (100000:Int) z44.2.1 z44.2.2.1 z44.2.2.2.1).bind fun(ah:(Sum (Int×Int×Bool×Int) (Int×Int)))=>ay ah (fun (z66:(Int×Int×Bool×Int))=>(cond (z66.2.2.2==(0:Int)) (some true) (some (decide ((9000000000000:Int)<z66.2.1))):Option Bool).bind fun(ai:Bool)=>cond ai (some (((0:Int),(0:Int)):(Int×Int))) (cond z66.2.2.1 (some ((wrap .i64 ((0:Int)-z66.2.1),z66.1):(Int×Int))) (some ((z66.2.1,z66.1):(Int×Int))))) (fun (aj:(Int×Int))=>some (aj:(Int×Int)))) ((cond (z44.1==(0:Int)) (some true) (some (decide ((9000000000000:Int)<z44.2.2.1))):Option Bool).bind fun(r:Bool)=>cond r (some (((0:Int),(0:Int)):(Int×Int))) (cond z44.2.2.2.1 (some ((wrap .i64 ((0:Int)-z44.2.2.1),z44.2.2.2.2):(Int×Int))) (some ((z44.2.2.1,z44.2.2.2.2):(Int×Int)))))) (fun (np:(Int×Int))=>some (np:(Int×Int))))=some (jE s k neg):=by
 obtain⟨x,t,e2⟩:=aAJ hd hs neg s.length n k [] 0 (by omega) (by omega) hk (by simp) YB
 rw [ê]at t e2;rw [show oG n n (0:Int) (k:Int) s (0:Int) neg=_ from e2,Ju];have hw:=qK s k hk;revert hw t
 generalize (s.drop k).takeWhile bw=w
 intro t hw;simp only [Z,cP,me _ (show k+w.length<=4000000000 by omega)]
 have base:eb s (k+w.length)=[]->((cond ((w.length:Int)==(0:Int)) (some true) (some (decide ((9000000000000:Int)<x))):Option Bool).bind fun(r:Bool)=>cond r (some (((0:Int),(0:Int)):(Int×Int))) (cond neg (some ((wrap .i64 ((0:Int)-x),((k+w.length:Nat):Int)):(Int×Int))) (some ((x,((k+w.length:Nat):Int)):(Int×Int)))))=
   some (if w=[]/\eb s (k+w.length)=[]then(0,0)else if 9000000000000<eu w (eb s (k+w.length))then(0,0)else(cond neg (-(eu w (eb s (k+w.length)):Int)) (eu w (eb s (k+w.length)):Int),((k+w.length+(if eb s (k+w.length)=[]then 0 else 1+(eb s (k+w.length)).length):Nat):Int))):=by
  intro u;rw [u];have:=Tl t (q:=[]) (by simp) neg ((k+w.length:Nat):Int) w.length (by simp)
  rw [show (x+(dJ 100000 ([]:O):Int))=x by simp [dJ]]at this
  exact this
 by_cases z: ∃h:k+w.length+1<s.length,(s[k+w.length]).toNat=46/\bw s[k+w.length+1]=true
 .obtain⟨d,f,hg⟩:=z
  have g:=sP (show k+w.length<s.length by omega) f
  have u:=qK s (k+w.length+1) (by omega)
  have ad:eb s (k+w.length)≠ []:=by
   rw [g,Ä d,Ñ,if_pos hg];simp
  have i:=Ti s (k+w.length);have hf:dJ 100000 (eb s (k+w.length))<1000000:=Ec _ 5 i;rw [bu d,df (show k+w.length<s.length by omega),df d]
  simp only [Y,Z,dS,hd,hg];rw [mf (a:=(s[k+w.length]).toNat) (b:=46) (by omega)]
  simp only [Y,Z];have h4:=aAK hd hs neg s.length n (k+w.length+1) w.length 100000 x (by omega) (by omega) (by omega) (by omega) (by omega) t.1 (by rw [<-g];have:=t.2.1;omega)
  rw [show qw n n ((k+w.length+1:Nat):Int) (w.length:Int) (100000:Int) s x neg=_ from h4,<-g];rw [<-g]at u;revert ad i u
  generalize eb s (k+w.length)=q
  intro u ad i;simp only [Z,cP];rw [Tl t i neg _ (w.length+q.length) rfl,if_neg ad];rw [show k+w.length+1+q.length=k+w.length+(1+q.length) by omega]
 .have u:eb s (k+w.length)=[]:=by
   by_cases f: ∃h:k+w.length<s.length,(s[k+w.length]).toNat=46
   .obtain⟨h,f⟩:=f
    rw [sP h f];by_cases d:k+w.length+1<s.length
    .rw [Ä d,Ñ,if_neg (fun hg=>z ⟨d,f,hg⟩)]
    .rw [Ç (by omega)];rfl
   .exact wH (fun h hh=>f ⟨h,hh⟩)
  have e:(cond (decide (((k+w.length+1:Nat):Int)<(s.length:Int))) ((bF s ((k+w.length:Nat):Int)).bind fun(j:UInt8)=>cond (((j).toNat:Int)==(46:Int)) ((bF s ((k+w.length+1:Nat):Int)).bind fun(m:UInt8)=>(kV n ((É (Æ ((m).toNat:Int))):UInt8)).bind fun(p:Bool)=>some p) (some false)) (some false):Option Bool)=some false:=by
   by_cases d:k+w.length+1<s.length
   .rw [bu d,df (show k+w.length<s.length by omega),df d]
    simp only [Y,Z,dS,hd];by_cases f:(s[k+w.length]).toNat=46
    .rw [mf (a:=(s[k+w.length]).toNat) (b:=46) (by omega)]
     cases hg:bw s[k+w.length+1]
     .rfl
     .exact absurd ⟨d,f,hg⟩ z
    .rw [ku (a:=(s[k+w.length]).toNat) (b:=46) (by omega)];rfl
   .rw [hL (by omega)];rfl
  rw [e,Z,ez];exact base u
theorem Tn (s:O) (f:s.length<=300):W fun n=>zr n s=some (lO s):=by
 refine(aAH.and (W.ge 400)).nm fun n ⟨hd,h⟩=> ?_
 have i:=aAI n f s.length n 0 (by omega) (by omega) (by omega)
 rw [ã,Ħ]at i;rw [apS,show vm n n (0:Int) s=_ from i];simp only [Z,cP];have g:=mS fw s;rw [Jv];revert g
 generalize (s.takeWhile fw).length=p
 intro g;by_cases d:p<s.length
 .rw [bu d,df d,Ä d]
  simp only [Y,Z,me _ (show p<=4000000000 by omega)]
  by_cases j:(s[p]).toNat=45
  .rw [if_pos j,mf (a:=(s[p]).toNat) (b:=45) (by omega)]
   simp only [Y,Z];rw [BH f h hd (k:=p+1) (by omega) true]
  .rw [if_neg j,ku (a:=(s[p]).toNat) (b:=45) (by omega)]
   by_cases m:(s[p]).toNat=43
   .rw [if_pos m,mf (a:=(s[p]).toNat) (b:=43) (by omega)]
    simp only [Y,ez,Z];rw [BH f h hd (k:=p+1) (by omega) false]
   .rw [if_neg m,ku (a:=(s[p]).toNat) (b:=43) (by omega)]
    simp only [ez,Z];rw [BH f h hd (k:=p) (by omega) false]
 .rw [hL (show ¬((p:Int)<(s.length:Int)) by omega),Ç (show s.length<=p by omega)]
  simp only [ez,Z];rw [BH f h hd (k:=p) (by omega) false]
theorem BI (s:O) (k:Nat) (hk:k<=s.length) (neg:Bool): ∃e:Nat,(jE s k neg).2=(e:Int)/\e<=s.length:=by
 rw [Ju];have hw:=qK s k hk;simp only;split
 .exact⟨0,rfl,by omega⟩
 split
 .exact⟨0,rfl,by omega⟩
 refine⟨_,rfl, ?_⟩
 split
 .omega
 .rename_i d
  by_cases h: ∃h:k+((s.drop k).takeWhile bw).length<s.length,(s[k+((s.drop k).takeWhile bw).length]).toNat=46
  .obtain⟨h,b⟩:=h
   rw [sP h b];have:=qK s (k+((s.drop k).takeWhile bw).length+1) (by omega)
   omega
  .exact absurd (wH (fun hj b=>h ⟨hj,b⟩)) d
theorem Tp (s:O): ∃e:Nat,(lO s).2=(e:Int)/\e<=s.length:=by
 have b:=mS fw s;rw [Jv];revert b
 generalize (s.takeWhile fw).length=p
 intro b;by_cases d:p<s.length
 .rw [Ä d]
  simp only;split
  .exact BI s _ (by omega) _
  split
  .exact BI s _ (by omega) _
  .exact BI s _ (by omega) _
 .rw [Ç (by omega)]
  exact BI s _ (by omega) _
theorem Tq (s:O) (f:s.length<=300):W fun n=>Ak n s=some (fx s):=by
 obtain⟨e,he,j⟩:=Tp s;refine((Tk s f).and (aAA (s.drop e) (by simp;omega))).nm fun n ⟨g,h⟩=> ?_
 rw [atU,g];unfold fx;simp only [Z,he];by_cases i:e=0
 .subst i
  rfl
 .have d:(s.drop (Æ (e:Int))).take (s.length-Æ (e:Int))=s.drop e:=by
   rw [Ì,Ù (by simp)]
  rw [ku (b:=0) (by omega),if_neg (by omega),hJ (by omega),d,Ì]
  simp only [ez,Y];rw [h];cases bo (∀c∈s.drop e,c.toNat=32)<;>rfl
theorem aAL (n:Nat) {s:O} (g:s.length<=300) (x:Int): ∀(k m i:Nat),s.length-i<=k->k<m->i<=s.length->zq n m (i:Int) s x=some (cond (bo (∀c∈s.drop i,c.toNat=32)) (.inl x) (.inr (0,false))):=by
 intro k;induction k with
 |zero=>
  intro m i hk hm hi;obtain⟨m,rfl⟩: ∃m',m=m'+1:=⟨m-1,by omega⟩
  obtain rfl:i=s.length:=by omega
  rw [IU,ck,Ç (Î _),aB (by simp)]
  rfl
 |succ k ih=>
  intro m i hk hm hi;obtain⟨m,rfl⟩: ∃m',m=m'+1:=⟨m-1,by omega⟩
  by_cases d:i<s.length
  .rw [IU,bu d,df d,Ä d]
   simp only [Y,Z];by_cases h:(s[i]).toNat=32
   .rw [show (((s[i]).toNat:Int) !=(32:Int))=false by unfold bne;rw [mf (a:=(s[i]).toNat) (b:=32) (by omega)];rfl,me i (by omega),ez,ih m (i+1) (by omega) (by omega) (by omega)]
    have f:(∀c∈s[i]::s.drop (i+1),c.toNat=32)↔ ∀c∈s.drop (i+1),c.toNat=32:=by
     rw [List.forall_mem_cons];exact and_iff_right h
    rw [mR f]
   .rw [show (((s[i]).toNat:Int) !=(32:Int))=true by unfold bne;rw [ku (a:=(s[i]).toNat) (b:=32) (by omega)];rfl,az (fun k=>h (k _ (List.mem_cons_self ..)))]
    rfl
  .obtain rfl:i=s.length:=by omega
   rw [IU,ck,Ç (Î _),aB (by simp)]
   rfl
theorem Ts (s:O) (d:s.length<=300):W fun n=>vk n s=some (fx s):=by
 obtain⟨e,he,f⟩:=Tp s;refine((Tn s d).and (W.ge 400)).nm fun n ⟨g,i⟩=> ?_
 rw [apR,g];unfold fx;simp only [Z,he];by_cases h:e=0
 .subst h
  rfl
 .rw [ku (b:=0) (by omega),if_neg (by omega),ez,aAL n d _ s.length n e (by omega) (by omega) f,Ì]
  cases bo (∀c∈s.drop e,c.toNat=32)<;>rfl
theorem di (x lo hi:Int):W fun n=>cR n x lo hi=some (bo (In x lo hi)):=by
 refine W.succ (W.of fun n=> ?_)
 rw [oP];simp only [bL,gX,Z,In]
theorem cS (x lo hi:Int):W fun n=>cq n x lo hi=some (bo (In x lo hi)):=by
 refine W.succ (W.of fun n=> ?_)
 rw [wz];simp only [bL,gX,Z,In]
theorem aAM (b:UInt8):W fun n=>FX n b=some (bo (Letter b)):=by
 refine W.succ (W.of fun n=> ?_)
 rw [apC];unfold Letter
 ((try simp only [bL,Z,cV]);(try simp only [dC]);(repeat' split);all_goals first|rfl|(refine cG ?_;grind)|(refine dD ?_;grind)|(refine dE ?_;grind)|(exfalso;grind))
theorem BJ (l:af) (s:O) (f:l.length<=1048576):W fun n=>qs n l s=some (bo (s∈l)):=by
 have h:=kd f (p:=fun x=>x=s) (r:=fun _=>true) (b:=()) (L:=fun n m i=>zi n m i s l) (W.of fun n m i hi=>by
  rw [Qb,bu hi,bg hi];simp only [Y,Z,bp]) (fun n m=>by rw [Qb,ck];rfl)
 refine h.nm fun n h=> ?_
 rw [apE];rcases h with⟨⟨x,d,rfl⟩,i,e⟩|⟨d,e⟩
 .rw [e,aB d];rfl
 .rw [e,az fun h=>d s h rfl];rfl
theorem Jw (l:af) (s:O) (f:l.length<=1048576):W fun n=>vK n l s=some (bo (s∈l)):=by
 have h:=kd f (p:=fun x=>s=x) (r:=fun i=>i) (b:=()) (L:=fun n m i=>zT n m i l s (l.length:Int)) (W.of fun n m i hi=>by
  rw [QY,bu hi,bg hi];simp only [Y,Z,bp]) (fun n m=>by rw [QY,ck];rfl)
 refine W.succ (h.nm fun n h=> ?_)
 rw [asL,asM];rcases h with⟨⟨x,d,rfl⟩,i,e⟩|⟨d,e⟩
 .rw [e,aB d]
  simp only [Z,uo,bL,DR]
 .rw [e,az fun h=>d s h rfl]
  simp only [Z,cP,bL,DS]
theorem Tt:W fun n=>zj n=some iC:=W.succ (W.of fun n=>apF n)
theorem Tu:W fun n=>zS n=some iC:=W.succ (W.of fun n=>asK n)
theorem aAN (s:O):W fun n=>FY n s=some (bo (Key s)):=by
 refine(((BJ yd s (by decide)).and (BJ iC s (by decide))).and Tt).nm fun n ⟨⟨b,d⟩,f⟩=> ?_
 have b:qs n [[66,69,71,73,78],[112,114,105,110,116],[105,102],[101,108,115,101],[119,104,105,108,101],[110,101,120,116],[100,101,108,101,116,101],[78,82],[78,70]] s=some (bo (s∈yd)):=b;rw [apD,b];simp only [d,f,Z,kK];rfl
theorem aAO (s:O):W fun n=>Hb n s=some (bo (Key s)):=by
 refine((Jw iC s (by decide)).and Tu).nm fun n ⟨b,d⟩=> ?_
 rw [asJ];simp only [b,d,Z,kK,bp];refine cG ?_
 unfold Key yd;simp only [è,ě,or_false,or_assoc]
theorem Tv (s:O) (d:s.length<=1048576):W fun n=>zg n s=some (bo (iZ s)):=by
 have h:=kc d (p:=Letter) (r:=false) (b:=s) (L:=fun n m i=>zh n m i s) ((W.all s fun b _=>aAM b).mono fun n h m i hi=>by
  rw [Qa,bu hi,df hi];simp only [Y,Z,dS,h _ (Å hi),bA];exact dZ (by simp)) (fun n m=>by rw [Qa,ck];rfl)
 refine((h.and (aAN s)).and (cS s.length 1 8)).nm fun n ⟨⟨f,g⟩,j⟩=> ?_
 rw [apB,f];simp only [g,j,Z,cz];unfold iZ In
 ((try simp only [bA,Z,cV]);(try simp only [dC]);(repeat' split);all_goals first|rfl|(refine cG ?_;grind)|(refine dD ?_;grind)|(refine dE ?_;grind)|(exfalso;grind))
theorem aAP (b:UInt8):W fun n=>Ha n b=some (bo (Letter b)):=by
 refine W.succ (W.of fun n=> ?_)
 rw [asI];unfold Letter
 ((try simp only [bL,Z,cV]);(try simp only [dC]);(repeat' split);all_goals first|rfl|(refine cG ?_;grind)|(refine dD ?_;grind)|(refine dE ?_;grind)|(exfalso;grind))
theorem aAQ (s:O) (k:Nat) (hk:k<=s.length) (j:s.length<=1048576):W fun n=>zR n s (k:Int)=some (((s.drop k).takeWhile fun b=>bo (Letter b)).length:Int):=by
 have f: ∀i:Nat,i<=s.length->ā .i64 ((k:Int)+(i:Int))=((k+i:Nat):Int):=fun i hi=>by rw [À];omega
 have h:=Nq (l:=s.drop k) (β:=Int) (by simp;omega) (p:=fun b=>bo (Letter b)) (L:=fun n m i=>vJ n m i k s) ((W.all s fun b _=>aAP b).mono fun n h m i hi=>by
  have d:k+i<s.length:=by simp at hi;omega
  rw [QX,f i (by omega),bu d,df d]
  simp only [Y,Z,dS,h _ (Å d),ü]) (fun n m=>by
   have g:(k+(s.drop k).length)=s.length:=by simp;omega
   rw [QX,f _ (by simp),g,ck];rfl)
 refine h.nm fun n h=> ?_
 rw [asH];rw [show vJ n n (0:Int) k s=_ from h];rfl
theorem aAR (s:O) (f:s.length<=1048576):W fun n=>GZ n s=some (bo (iZ s)):=by
 refine(((aAQ s 0 (Ī _) f).and (aAO s)).and (di s.length 1 8)).nm fun n ⟨⟨d,g⟩,h⟩=> ?_
 have d:zR n s 0=some ((s.takeWhile fun b=>bo (Letter b)).length:Int):=d
 have i:(((s.takeWhile fun b=>bo (Letter b)).length:Int)=(s.length:Int))↔ ∀b∈s,Letter b:=by
  rw [đ,Yw];simp only [rI]
 rw [asG,d];simp only [g,h,Z,bp,i];unfold iZ In
 ((try simp only [bA,Z,cV]);(try simp only [dC]);(repeat' split);all_goals first|rfl|(refine cG ?_;grind)|(refine dD ?_;grind)|(refine dE ?_;grind)|(exfalso;grind))
theorem Jx (l:List O):ki l 0:=fun _ h=>absurd h (Ģ _)
theorem Jy {l:List O} {i:Nat} (b:0<i) (h:i<l.length):ki l i↔Ö (l[i-1]'(by omega)) l[i]=true:=⟨fun k=>k h b,fun k _ _=>k⟩
theorem Tw (l:af) (d:l.length<=1048576) (g: ∀s∈l,s.length<=1048576):W fun n=>zQ n l=some (bo ((∀s∈l,iZ s)/\(∀i,i<l.length->ki l i)/\l.length<=8)):=by
 have h:=jD d (q:=fun i=>At l iZ i/\ki l i) (r:=false) (b:=l) (L:=fun n m i=>so n m i l l (l.length:Int)) ((W.all l fun s h=>aAR s (g s h)).mono fun n h m i hi=>by
  rw [QW,bu hi,bg hi];simp only [Y,Z,h _ (Å hi),kL hi];rcases Û i with rfl|f
  .rw [hL (by omega)]
   simp only [ez,bA];exact dZ (by simp [Jx])
  .rw [hJ (by omega),uq f hi d]
   simp only [Y,Z];rw [mQ (Ö _ _)];simp only [bA,fU];exact dZ (by rw [Jy f hi];grind)) (fun n m=>by rw [QW,ck];rfl)
 refine h.nm fun n h=> ?_
 rw [asF,show so n n (0:Int) l l (l.length:Int)=_ from h];simp only [Z,cz,bL,gX];refine cG ?_
 rw [<-qd];grind
theorem iK (x:Int):W fun n=>iH n x=some (bo (aW x)):=by
 refine(cS x (-9000000000000) 9000000000000).nm fun n e=> ?_
 rw [Qe,e];rfl
theorem iL (x:Int):W fun n=>ic n x=some (bo (aW x)):=by
 refine(di x (-9000000000000) 9000000000000).nm fun n e=> ?_
 rw [Jc,e];rfl
theorem aAS (c k:Int) (s:O) (n0 vars cells:Int) (_:s.length<=1048576) (r:1<=n0/\n0<=1048576):W fun n=>FZ n c k s n0 vars cells=some (bo (iD c k s n0 vars cells)):=by
 refine((((iK k).and (SW s)).and (Tt.and (BJ iC s (by decide)))).and (((cS k 1 3).and (cS k 0 (n0-1))).and ((cS k 0 1).and (cS c 1 36)))).nm fun n ⟨⟨⟨b,d⟩,f,g⟩,⟨i,j⟩,m,p⟩=> ?_
 have hw:wrap .i64 (n0-1)=n0-1:=by rw [À];omega
 rw [apG,hw];simp only [b,d,f,g,i,j,m,p,Z,bL,bp,gX];rw [mQ (gJ s).2.2.2.2.2];simp only [gX,Z,yb];refine cG ?_
 unfold iD In;by_cases h:1<=c/\c<=36
 .obtain rfl|rfl|rfl|rfl|rfl|rfl|rfl|rfl|rfl|rfl|rfl|rfl|rfl|rfl|rfl|rfl|rfl|rfl|rfl|rfl|rfl|rfl|rfl|rfl|rfl|rfl|rfl|rfl|rfl|rfl|rfl|rfl|rfl|rfl|rfl|rfl:c=1\/c=2\/c=3\/c=4\/c=5\/c=6\/c=7\/c=8\/c=9\/c=10\/c=11\/c=12\/c=13\/c=14\/c=15\/c=16\/c=17\/c=18\/c=19\/c=20\/c=21\/c=22\/c=23\/c=24\/c=25\/c=26\/c=27\/c=28\/c=29\/c=30\/c=31\/c=32\/c=33\/c=34\/c=35\/c=36:=by omega
  all_goals simp
  all_goals grind
 .have:c≠1/\c≠2/\c≠3/\c≠4/\c≠5/\c≠6/\c≠7/\c≠8/\c≠9/\c≠10/\c≠11/\c≠12/\c≠13/\c≠14/\c≠15/\c≠16/\c≠17/\c≠18/\c≠19/\c≠20/\c≠21/\c≠22/\c≠23/\c≠24/\c≠25/\c≠26/\c≠27/\c≠28/\c≠29/\c≠30/\c≠31/\c≠32/\c≠33/\c≠34/\c≠35/\c≠36:=by omega
  simp [this]
  omega
theorem aAT (s:O) (_:s.length<=1048576):W fun n=>zY n s=some (bo ((gJ s).2.2.2.2.2=true)):=by
 refine(SV s).nm fun n e=> ?_
 rw [asW,e,<-mQ];rfl
def Tx (c:Int):O:=
 if c=1 then [100]else if c=2\/c=24\/c=25 then [115]else if c=29 then [110,115]else if c=3\/c=4\/c=5\/c=6\/c=7\/c=8\/c=35\/c=30\/c=31\/c=33 then [110]else []
theorem aAU (c:Int):W fun n=>(In c 1 36/\ ∃nm,nm≠ []/\zX n c=some (nm,Tx c))\/(¬In c 1 36/\zX n c=some ([],[])):=by
 refine(di c 1 36).nm fun n e=> ?_
 have hw:wrap .i64 ((37:Int)-1)=36:=by rw [À];omega
 rw [asV,hw,e];by_cases h:In c 1 36
 .left
  rw [aB h];refine⟨h, ?_⟩
  unfold In at h;obtain rfl|rfl|rfl|rfl|rfl|rfl|rfl|rfl|rfl|rfl|rfl|rfl|rfl|rfl|rfl|rfl|rfl|rfl|rfl|rfl|rfl|rfl|rfl|rfl|rfl|rfl|rfl|rfl|rfl|rfl|rfl|rfl|rfl|rfl|rfl|rfl:c=1\/c=2\/c=3\/c=4\/c=5\/c=6\/c=7\/c=8\/c=9\/c=10\/c=11\/c=12\/c=13\/c=14\/c=15\/c=16\/c=17\/c=18\/c=19\/c=20\/c=21\/c=22\/c=23\/c=24\/c=25\/c=26\/c=27\/c=28\/c=29\/c=30\/c=31\/c=32\/c=33\/c=34\/c=35\/c=36:=by omega
  all_goals exact⟨_,by decide,rfl⟩
 .right
  rw [az h];exact⟨h,rfl⟩
theorem aAV (c k:Int) (s:O) (n0 vars cells:Int) (f:s.length<=1048576) (z:1<=n0/\n0<=1048576):W fun n=>Hg n c k s n0 vars cells=some (bo (iD c k s n0 vars cells)):=by
 refine((((iL k).and (aAT s f)).and (Tu.and (Jw iC s (by decide)))).and (((di k 1 3).and (di k 0 (n0-1))).and ((di k 0 1).and (aAU c)))).nm fun n ⟨⟨⟨g,i⟩,j,m⟩,⟨p,q⟩,r,b⟩=> ?_
 have hw:wrap .i64 (n0-1)=n0-1:=by rw [À];omega
 rw [asU,hw];rcases b with⟨h,nm,t,b⟩|⟨h,b⟩
 .rw [b]
  have d:(nm==([]:O))=false:=by rw [bp,az t]
  simp only [g,i,j,m,p,q,r,Z,d,ez];unfold In at h;obtain rfl|rfl|rfl|rfl|rfl|rfl|rfl|rfl|rfl|rfl|rfl|rfl|rfl|rfl|rfl|rfl|rfl|rfl|rfl|rfl|rfl|rfl|rfl|rfl|rfl|rfl|rfl|rfl|rfl|rfl|rfl|rfl|rfl|rfl|rfl|rfl:c=1\/c=2\/c=3\/c=4\/c=5\/c=6\/c=7\/c=8\/c=9\/c=10\/c=11\/c=12\/c=13\/c=14\/c=15\/c=16\/c=17\/c=18\/c=19\/c=20\/c=21\/c=22\/c=23\/c=24\/c=25\/c=26\/c=27\/c=28\/c=29\/c=30\/c=31\/c=32\/c=33\/c=34\/c=35\/c=36:=by omega
  all_goals simp [Tx,bp,cu,bL,bA,rK,gX,fU,cT,dw,um,iD,In]
  all_goals first
   |(refine mR ?_;grind)
   |(by_cases hk:k=0<;>by_cases u:s=[]<;>simp [hk,u,rJ,rK])
 .rw [b]
  have: ¬iD c k s n0 vars cells:=by
   unfold In at h;unfold iD;grind
  rw [az this];rfl
theorem Ty (l:ae) (vars cells:Int) (d:l.length<=1048576) (g: ∀o∈l,o.2.2.length<=1048576):W fun n=>zk n l vars cells=some (bo (fy l vars cells)):=by
 by_cases f:0<l.length
 .have h:=kc d (p:=fun o=>iD o.1 o.2.1 o.2.2 l.length vars cells) (r:=false) (b:=()) (L:=fun n m i=>uT n m i cells vars l.length l) ((W.all l fun o h=>aAS o.1 o.2.1 o.2.2 l.length vars cells (g o h) (by omega)).mono fun n h m i hi=>by
   rw [Qd,bu hi,bg hi];simp only [Y,Z,h _ (Å hi),bA];exact dZ (by simp)) (fun n m=>by rw [Qd,ck];rfl)
  refine(h.and (cS l.length 1 1500)).nm fun n ⟨h,e⟩=> ?_
  rw [Qc,e,yc f d,show uT n n (0:Int) cells vars l.length l=_ from h];simp only [Z,cz,cu];unfold fy In;have j:(∀h:0<l.length,(l[l.length-1]'(by omega)).1=36)↔(l[l.length-1]'(by omega)).1=36:=⟨fun k=>k f,fun k _=>k⟩
  rw [j]
  ((try simp only [bA,Z,cV,Y,cT]);(try simp only [dC]);(repeat' split);all_goals first|rfl|(refine cG ?_;grind)|(refine dD ?_;grind)|(refine dE ?_;grind)|(exfalso;grind))
 .refine(cS l.length 1 1500).nm fun n e=> ?_
  rw [Qc,e,az (P:=In _ _ _) (by unfold In;omega),az (P:=fy _ _ _) (by unfold fy;omega)]
  rfl
theorem Tz (l:ae) (vars cells:Int) (d:l.length<=1048576) (g: ∀o∈l,o.2.2.length<=1048576):W fun n=>zV n l vars cells=some (bo (fy l vars cells)):=by
 by_cases f:0<l.length
 .have j:W fun n=> ∀o∈l,Hf n l vars cells o.1 o.2.1 o.2.2=some (bo (¬iD o.1 o.2.1 o.2.2 l.length vars cells),l,vars,cells):=W.all l fun o h=>(aAV o.1 o.2.1 o.2.2 l.length vars cells (g o h) (by omega)).nm fun n e=>by
   rw [asT,e];simp only [Z,bA]
  have h:=kd d (p:=fun o=> ¬iD o.1 o.2.1 o.2.2 l.length vars cells) (r:=fun i=>(i,l,vars,cells)) (b:=(l,vars,cells)) (L:=fun n m i=>zW n m l vars cells i l (l.length:Int)) (j.mono fun n h m i hi=>by
   rw [Rb,bu hi,bg hi];simp only [Y,Z,h _ (Å hi)]) (fun n m=>by rw [Rb,ck];rfl)
  have q:W fun n=>He n l vars cells l=some (bo (∃o∈l,¬iD o.1 o.2.1 o.2.2 l.length vars cells),l,vars,cells):=W.succ (h.nm fun n h=>by
   rw [asQ,asR];refine rL (l:=l) (p:=fun o=> ¬iD o.1 o.2.1 o.2.2 l.length vars cells) (c:=(l,vars,cells)) ?_
   rcases h with⟨h,i,e⟩|⟨h,e⟩
   .exact .inl ⟨h,i,by rw [e];rfl⟩
   .exact .inr ⟨h,by rw [e];rfl⟩)
  refine(q.and (di l.length 1 1500)).nm fun n ⟨h,e⟩=> ?_
  rw [Ra,e,yc f d,h];simp only [Z,cu];unfold fy In;have s:(∀h:0<l.length,(l[l.length-1]'(by omega)).1=36)↔(l[l.length-1]'(by omega)).1=36:=⟨fun k=>k f,fun k _=>k⟩
  rw [s]
  ((try simp only [bA,Z,cV,Y]);(try simp only [dC]);(repeat' split);all_goals first|rfl|(refine cG ?_;grind)|(refine dD ?_;grind)|(refine dE ?_;grind)|(exfalso;grind))
 .refine(di l.length 1 1500).nm fun n e=> ?_
  rw [Ra,e,az (P:=In _ _ _) (by unfold In;omega),az (P:=fy _ _ _) (by unfold fy;omega)]
  rfl
def iM (vars cells:af) (start main:ae):Prop:=
 (vars.length<=1048576/\ ∀s∈vars,s.length<=1048576)/\(cells.length<=1048576/\ ∀s∈cells,s.length<=1048576)/\(start.length<=1048576/\ ∀o∈start,o.2.2.length<=1048576)/\(main.length<=1048576/\ ∀o∈main,o.2.2.length<=1048576)
theorem wI (a b:af) (c d:ae) (h:iM a b c d):W fun n=>qz n a b c d=some (bo (ja a b c d)):=by
 obtain⟨⟨f,j⟩,⟨g,k⟩,⟨q,t⟩,⟨u,z⟩⟩:=h;have k1:W fun n=> ∀s∈a,Hd n a b c d s=some (bo (s∈b),a,b,c,d):=W.all a fun s _=>(Jw b s g).nm fun n e=>by
  rw [asP,e];rfl
 have h:=kd f (p:=fun s=>s∈b) (r:=fun i=>(i,a,b,c,d)) (b:=(a,b,c,d)) (L:=fun n m i=>zU n m a b c d i a (a.length:Int)) (k1.mono fun n h m i hi=>by
   rw [QZ,bu hi,bg hi];simp only [Y,Z,h _ (Å hi)]) (fun n m=>by rw [QZ,ck];rfl)
 have k2:W fun n=>Hc n a b c d a=some (bo (∃s∈a,s∈b),a,b,c,d):=W.succ (h.nm fun n h=>by
   rw [asN,asO];refine rL (l:=a) (p:=fun s=>s∈b) (c:=(a,b,c,d)) ?_
   rcases h with⟨h,i,e⟩|⟨h,e⟩
   .exact .inl ⟨h,i,by rw [e];rfl⟩
   .exact .inr ⟨h,by rw [e];rfl⟩)
 refine(((Tw a f j).and (Tw b g k)).and (k2.and ((Tz c a.length b.length q t).and (Tz d a.length b.length u z)))).nm fun n ⟨⟨e1,e2⟩,e3,e4,e5⟩=> ?_
 rw [asE,e1,e2,e3];simp only [Z,e4,e5];unfold ja
 ((try simp only [bA,Z,cV]);(try simp only [dC]);(repeat' split);all_goals first|rfl|(refine cG ?_;grind)|(refine dD ?_;grind)|(refine dE ?_;grind)|(exfalso;grind))
theorem Jz (a b:af) (c d:ae) (h:iM a b c d):W fun n=>uR n a b c d=some (bo (ja a b c d)):=by
 obtain⟨⟨j,k⟩,⟨g,p⟩,⟨t,u⟩,⟨z,h8⟩⟩:=h;have k1:=jD j (q:=fun i=>At a iZ i/\At a (fun s=>s∉b) i/\ki a i) (r:=false) (b:=(a,b,c,d)) (L:=fun n m i=>rX n m a b c d i) (((W.all a fun s h=>Tv s (k s h)).and (W.all a fun s _=>BJ b s g)).mono fun n ⟨h,h'⟩ m i hi=>by
  rw [PY,bu hi,bg hi];simp only [Y,Z,h _ (Å hi),h' _ (Å hi),kL hi];rcases Û i with rfl|f
  .rw [hL (by omega)]
   simp only [ez,bA,fU];exact dZ (by have:=Jx a;grind)
  .rw [hJ (by omega),uq f hi j]
   simp only [Y,Z];rw [mQ (Ö _ _)];simp only [bA,fU];exact dZ (by rw [Jy f hi];grind)) (fun n m=>by rw [PY,ck];rfl)
 have k2:=jD g (q:=fun i=>At b iZ i/\ki b i) (r:=false) (b:=(a,b,c,d)) (L:=fun n m i=>rY n m a b c d i) ((W.all b fun s h=>Tv s (p s h)).mono fun n h m i hi=>by
  rw [PZ,bu hi,bg hi];simp only [Y,Z,h _ (Å hi),kL hi];rcases Û i with rfl|f
  .rw [hL (by omega)]
   simp only [ez,bA];exact dZ (by simp [Jx])
  .rw [hJ (by omega),uq f hi g]
   simp only [Y,Z];rw [mQ (Ö _ _)];simp only [bA,fU];exact dZ (by rw [Jy f hi];grind)) (fun n m=>by rw [PZ,ck];rfl)
 refine((k1.and k2).and ((Ty c a.length b.length t u).and (Ty d a.length b.length z h8))).nm fun n ⟨⟨e1,e2⟩,e4,e5⟩=> ?_
 rw [apA,show rX n n a b c d 0=_ from e1];simp only [Z,cz,show rY n n a b c d 0=_ from e2,e4,e5,bL,gX];unfold ja;have q1:(∀i,i<a.length->At a iZ i/\At a (fun s=>s∉b) i/\ki a i)↔(∀s∈a,iZ s)/\(∀s∈a,s∉b)/\(∀i,i<a.length->ki a i):=by
  rw [<-qd,<-qd];grind
 have q2:(∀i,i<b.length->At b iZ i/\ki b i)↔(∀s∈b,iZ s)/\(∀i,i<b.length->ki b i):=by
  rw [<-qd];grind
 rw [q1,q2]
 ((try simp only [bL,bp,cu,bA,Z,È,cV,cz,Y,ez,cT,dw,Â,Ã]);(try simp only [dC]);(repeat' split);all_goals first|rfl|(refine cG ?_;grind)|(refine dD ?_;grind)|(refine dE ?_;grind)|(exfalso;grind))
theorem JA (n:Nat) (a b:O):Ht (n+1) a b=some (Í a b):=by kernel_rfl
theorem BK: ∀a b:O,Í a b<0↔Ö a b=true
 | [],[]=>by simp [Í,Ö]
 | [],_::_=>by simp [Í,Ö]
 |_::_,[]=>by simp [Í,Ö]
 |a::x,b::y=>by
  rw [Í,Ö];by_cases h:a<b
  .simp [h]
  .rw [if_neg h]
   by_cases k:b<a
   .rw [if_pos k]
    have:a≠b:=by rintro rfl;exact h k
    simp [h,this]
   .rw [if_neg k,BK x y]
    have:a=b:=by
     have h:=Ă.1 h;have k:=Ă.1 k;exact Ė k h
    simp [this]
theorem TA (k x:Int) (s:O):W fun n=>zp n k x s=some (bo (gx k x s)):=by
 by_cases f:s.length<=300
 .refine(((cS k 0 3).and (iK x)).and (Ts s f)).nm fun n ⟨⟨b,d⟩,g⟩=> ?_
  rw [Qy,b];simp only [d,g,Z];rw [mQ (fx s).2];have e:fx s=(x,true)↔(fx s).1=x/\(fx s).2=true:=by rw [Prod.ext_iff]
  unfold gx In;rw [e]
  ((try simp only [bL,bp,bA,Z,cV,Y]);(try simp only [dC]);(repeat' split);all_goals first|rfl|(refine cG ?_;grind)|(refine dD ?_;grind)|(refine dE ?_;grind)|(exfalso;grind))
 .refine((cS k 0 3).and (iK x)).nm fun n ⟨b,d⟩=> ?_
  rw [Qy,b,az (P:=gx k x s) (by unfold gx;omega),hJ (by omega)]
  simp only [d,Z,bA]
  ((try simp only [bp,Z,cV,Y]);(try simp only [dC]);(repeat' split);all_goals first|rfl|(refine cG ?_;grind)|(refine dD ?_;grind)|(refine dE ?_;grind)|(exfalso;grind))
theorem TB (k x:Int) (s:O):W fun n=>Aj n k x s=some (bo (gx k x s)):=by
 by_cases d:s.length<=300
 .refine((iL x).and (Tq s d)).nm fun n ⟨b,f⟩=> ?_
  rw [Ro,b];simp only [f,Z];rw [mQ (fx s).2];have e:fx s=(x,true)↔(fx s).1=x/\(fx s).2=true:=by rw [Prod.ext_iff]
  unfold gx;rw [e]
  ((try simp only [bL,bp,bA,Z,cV,Y]);(try simp only [dC]);(repeat' split);all_goals first|rfl|(refine cG ?_;grind)|(refine dD ?_;grind)|(refine dE ?_;grind)|(exfalso;grind))
 .refine(iL x).nm fun n b=> ?_
  rw [Ro,b,az (P:=gx k x s) (by unfold gx;omega),hJ (by omega)]
  simp only [Z,bA]
  ((try simp only [bp,Z,cV,Y]);(try simp only [dC]);(repeat' split);all_goals first|rfl|(refine cG ?_;grind)|(refine dD ?_;grind)|(refine dE ?_;grind)|(exfalso;grind))
theorem TC {l:ai} {cells:Int} (h:0<l.length):ot l cells 0↔0<=l[0].1/\l[0].1<cells/\l[0].2.1.length<=300/\gx l[0].2.2.1 l[0].2.2.2.1 l[0].2.2.2.2:=by
 unfold ot;exact⟨fun k=>⟨(k h).1,(k h).2.1,(k h).2.2.1,(k h).2.2.2.1⟩,fun k _=>⟨k.1,k.2.1,k.2.2.1,k.2.2.2,fun h=>absurd h (Ģ _)⟩⟩
theorem TD {l:ai} {cells:Int} {i:Nat} (b:0<i) (h:i<l.length):ot l cells i↔0<=l[i].1/\l[i].1<cells/\l[i].2.1.length<=300/\gx l[i].2.2.1 l[i].2.2.2.1 l[i].2.2.2.2/\ea (l[i-1]'(by omega)).1 (l[i-1]'(by omega)).2.1 l[i].1 l[i].2.1:=by
 unfold ot;exact⟨fun k=>⟨(k h).1,(k h).2.1,(k h).2.2.1,(k h).2.2.2.1,(k h).2.2.2.2 b⟩,fun k _=>⟨k.1,k.2.1,k.2.2.1,k.2.2.2.1,fun _=>k.2.2.2.2⟩⟩
theorem TE (a:Int) (s:O) (p q:Int) (r:O) (b:Int) (t:O):W fun n=>zt n a s p q r b t=some (bo (ea a s b t)):=by
 refine W.succ (W.of fun n=> ?_)
 rw [apU,mQ (Ö s t)];unfold ea
 ((try simp only [bL,bp,Z,cV]);(try simp only [dC]);(repeat' split);all_goals first|rfl|(refine cG ?_;grind)|(refine dD ?_;grind)|(refine dE ?_;grind)|(exfalso;grind))
theorem aAW (a:Int) (s:O) (p q:Int) (r:O) (b:Int) (t:O) (d f:Int) (g:O):W fun n=> ∃v,vV n a s p q r b t d f g=some v/\(0<=v↔ ¬ea a s b t):=by
 refine W.succ (W.succ (W.of fun n=> ?_))
 rw [Rt,JA];unfold ea;have:=BK s t;by_cases h:a<b
 .rw [hJ h]
  exact⟨-1,rfl,by simp [h]⟩
 .rw [hL h]
  by_cases k:b<a
  .rw [hJ k]
   exact⟨1,rfl,by simp [h];omega⟩
  .rw [hL k]
   obtain rfl:a=b:=by omega
   refine⟨_,rfl, ?_⟩
   rw [<-this];omega
theorem aAX (vs:ae) (cs:ai) (nr err vars cells:Int) (g:vs.length<=1048576) (d:cs.length<=1048576):W fun n=>Gh n vs cs nr err vars cells=some (bo (kj vs cs nr err vars cells)):=by
 have k1:=kc g (p:=fun v=>gx v.1 v.2.1 v.2.2) (r:=false) (b:=(vs,cs,nr,err,cells,vars)) (L:=fun n m i=>vj n m vs cs nr err i cells vars) ((W.all vs fun v _=>TA v.1 v.2.1 v.2.2).mono fun n h m i hi=>by
  rw [Qw,bu hi,bg hi];simp only [Y,Z,h _ (Å hi),bA];exact dZ (by simp)) (fun n m=>by rw [Qw,ck];rfl)
 have k2:=jD d (q:=ot cs cells) (r:=false) (b:=(vs,cs,nr,err,vars)) (L:=fun n m i=>sa n m vs cs nr err i cells vars) (((W.all cs fun v _=>TA v.2.2.1 v.2.2.2.1 v.2.2.2.2).and (W.lt (len:=cs.length) fun i hi=>TE (cs[i-1]'(by omega)).1 (cs[i-1]'(by omega)).2.1 (cs[i-1]'(by omega)).2.2.1 (cs[i-1]'(by omega)).2.2.2.1 (cs[i-1]'(by omega)).2.2.2.2 cs[i].1 cs[i].2.1)).mono fun n ⟨h,j⟩ m i hi=>by
  rw [Qx,bu hi,bg hi];simp only [Y,Z,h _ (Å hi),bL,bA];rcases Û i with rfl|f
  .rw [TC hi,az (P:=(0:Int)<((0:Nat):Int)) (by omega)]
   simp only [ez,fU];exact dZ (by grind)
  .rw [TD f hi,aB (P:=(0:Int)<(i:Int)) (by omega),uq f hi d]
   simp only [Y,Z,j i hi,bA,fU];exact dZ (by grind)) (fun n m=>by rw [Qx,ck];rfl)
 refine((k1.and k2).and ((cS nr 0 1000000).and (cS err 0 7))).nm fun n ⟨⟨k,s⟩,t,u⟩=> ?_
 rw [apQ,show vj n n vs cs nr err 0 cells vars=_ from k];simp only [Z,cz,show sa n n vs cs nr err 0 cells vars=_ from s,t,u];unfold kj
 ((try simp only [bL,bp,Z,cV]);(try simp only [dC]);(repeat' split);all_goals first|rfl|(refine cG ?_;grind)|(refine dD ?_;grind)|(refine dE ?_;grind)|(exfalso;grind))
theorem TF (vs:ae) (cs:ai) (nr err vars cells:Int) (g:vs.length<=1048576) (d:cs.length<=1048576):W fun n=>Ah n vs cs nr err vars cells=some (bo (kj vs cs nr err vars cells)):=by
 have j:W fun n=> ∀v∈vs,Hr n v.1 v.2.1 v.2.2=some (bo (¬gx v.1 v.2.1 v.2.2)):=W.all vs fun v _=>(TB v.1 v.2.1 v.2.2).nm fun n e=>by
  rw [atT,e];simp only [Z,bA]
 have h:=kd g (p:=fun v=> ¬gx v.1 v.2.1 v.2.2) (r:=fun i=>i) (b:=()) (L:=fun n m i=>Ai n m i vs (vs.length:Int)) (j.mono fun n h m i hi=>by
   rw [Rn,bu hi,bg hi];simp only [Y,Z,h _ (Å hi)]) (fun n m=>by rw [Rn,ck];rfl)
 have k1:W fun n=>Hq n vs=some (bo (∃v∈vs,¬gx v.1 v.2.1 v.2.2)):=W.succ (h.nm fun n h=>by
   rw [atQ,atS];refine DT (l:=vs) (p:=fun v=> ¬gx v.1 v.2.1 v.2.2) ?_
   rcases h with⟨h,i,e⟩|⟨h,e⟩
   .exact .inl ⟨h,i,by rw [e];rfl⟩
   .exact .inr ⟨h,by rw [e];rfl⟩)
 have k2:=jD d (q:=ot cs cells) (r:=false) (b:=()) (L:=fun n m i=>sx n m vs cs nr err i cells cs (cs.length:Int)) (((W.all cs fun v _=>TB v.2.2.1 v.2.2.2.1 v.2.2.2.2).and (W.lt (len:=cs.length) fun i hi=>aAW (cs[i-1]'(by omega)).1 (cs[i-1]'(by omega)).2.1 (cs[i-1]'(by omega)).2.2.1 (cs[i-1]'(by omega)).2.2.2.1 (cs[i-1]'(by omega)).2.2.2.2 cs[i].1 cs[i].2.1 cs[i].2.2.1 cs[i].2.2.2.1 cs[i].2.2.2.2)).mono fun n ⟨h,k⟩ m i hi=>by
  rw [Rm,bu hi,bg hi];simp only [Y,Z,h _ (Å hi),bL,bA];rcases Û i with rfl|f
  .rw [TC hi,az (P:=(0:Int)<((0:Nat):Int)) (by omega)]
   simp only [ez,fU];exact dZ (by grind)
  .obtain⟨v,e,s⟩:=k i hi
   rw [TD f hi,aB (P:=(0:Int)<(i:Int)) (by omega),uq f hi d]
   simp only [Y,Z,e,s,fU];exact dZ (by grind)) (fun n m=>by rw [Rm,ck];rfl)
 refine((k1.and k2).and ((di nr 0 1000000).and (di err 0 7))).nm fun n ⟨⟨t,u⟩,z,e4⟩=> ?_
 rw [atP,t];simp only [Z,show sx n n vs cs nr err 0 cells cs cs.length=_ from u,z,e4];unfold kj
 ((try simp only [bL,cu,bA,Z,cV,cz,Y,cT]);(try simp only [dC]);(repeat' split);all_goals first|rfl|(refine cG ?_;grind)|(refine dD ?_;grind)|(refine dE ?_;grind)|(exfalso;grind))
theorem aAY (n:Nat) (s:O):sw (n+1) s [10]=some (decide (0<=Ü s 10)):=by kernel_rfl
theorem sQ: ∀(s:O) (c:UInt8), -1<=Ü s c/\(0<=Ü s c↔c∈s)
 | [],c=>by simp [Ü]
 |b::s,c=>by
  have h:=sQ s c;rw [Ü];by_cases e:b=c
  .subst e;simp
  .rw [if_neg (by simpa using e)]
   have d: ¬c=b:=fun k=>e k.symm
   by_cases k:Ü s c= -1
   .rw [if_pos (by simp [k])]
    have: ¬c∈s:=by rw [<-h.2];omega
    simp [this,d]
   .rw [if_neg (by simp [k])]
    have:c∈s:=by rw [<-h.2];omega
    simp [this]
    omega
theorem aAZ (s:O) (d:s.length<=1048576):W fun n=>Gg n s=some (bo (∀b∈s,b.toNat≠10)):=by
 have h:=kc d (p:=fun b=>b.toNat≠10) (r:=false) (b:=()) (L:=fun n m i=>vh n m i s) (W.of fun n m i hi=>by
  rw [Qu,bu hi,df hi];simp only [Y,Z,bp];exact dZ (by omega)) (fun n m=>by rw [Qu,ck];rfl)
 refine h.nm fun n h=> ?_
 rw [apO,show vh n n 0 s=_ from h];simp only [Z,cz,cT]
theorem aBa (s:O):W fun n=>Hp n s=some (bo (s.length<=60/\ ∀b∈s,b.toNat≠10)):=by
 refine W.succ (W.succ (W.of fun n=> ?_))
 rw [atM,aAY];have h:=(sQ s 10).2;have k:(10:UInt8)∈s↔ ¬ ∀b∈s,b.toNat≠10:=by
  constructor
  .exact fun h k=>k 10 h rfl
  .intro h
   simp only [ne_eq,ī,æ]at h;obtain⟨b,d,e⟩:=h;have:b=10:=Õ.1 e;rwa [<-this]
 have hk:(0<=Ü s 10)= ¬ ∀b∈s,b.toNat≠10:=propext (h.trans k)
 simp only [bL,hk,Z]
 ((try simp only [bA,Z,cV]);(try simp only [dC]);(repeat' split);all_goals first|rfl|(refine cG ?_;grind)|(refine dD ?_;grind)|(refine dE ?_;grind)|(exfalso;grind))
theorem wJ (w q:Int) (s:O) (b:s.length<=1048576):W fun n=>rZ n w q s=some (bo (dP w q s)):=by
 refine(((cS w 0 2).and (cS q 1 100000)).and (aAZ s b)).nm fun n ⟨⟨d,f⟩,g⟩=> ?_
 rw [apN];simp only [d,f,g,Z];unfold dP In
 ((try simp only [bL,bp,Z,cV]);(try simp only [dC]);(repeat' split);all_goals first|rfl|(refine cG ?_;grind)|(refine dD ?_;grind)|(refine dE ?_;grind)|(exfalso;grind))
theorem BL (w q:Int) (s:O):W fun n=>sv n w q s=some (bo (dP w q s)):=by
 refine(((di w 0 2).and (di q 1 100000)).and (aBa s)).nm fun n ⟨⟨b,d⟩,f⟩=> ?_
 rw [atL];simp only [b,d,f,Z];unfold dP In
 ((try simp only [bp,Z,cV]);(try simp only [dC]);(repeat' split);all_goals first|rfl|(refine cG ?_;grind)|(refine dD ?_;grind)|(refine dE ?_;grind)|(exfalso;grind))
theorem TG {a b:Int} {l:aZ} (h:0<l.length):ox a b l=(wrap .i64 (a+l.length),(l[l.length-1]'(by omega)).1):=by
 unfold ox;rw [List.getLast?_eq_getElem?,Ô (by omega)]
theorem TH (a b:Int) (l:aZ) (d:l.length<=1048576):W fun n=>zn n a b l=some (ox a b l):=by
 refine W.succ (W.of fun n=> ?_)
 rw [apM];rcases Û l.length with h|h
 .obtain rfl:=ä h
  rfl
 .rw [TG h,yc h d,bp,az (by omega)]
  rfl
theorem TI (a b:Int) (l:aZ) (d:l.length<=1048576):W fun n=>Ag n a b l=some (ox a b l):=by
 refine W.succ (W.of fun n=> ?_)
 rw [atJ];rcases Û l.length with h|h
 .obtain rfl:=ä h
  rfl
 .rw [TG h,yc h d,bp,az (by omega)]
  rfl
def oV (l:aZ):Prop:=l.length<=1048576/\ ∀e∈l,e.2.2.2.length<=1048576
theorem TJ {l:aZ} (j:l.length<=1048576) (t0:Int) {L:Nat->Nat->Int->Int->Option (Sum Unit Bool)}
  (d:W fun n=> ∀m (i:Nat) (t:Int) (h:i<l.length),L n (m+1) i t=cond (bo (In l[i].1 t 300/\dP l[i].2.1 l[i].2.2.1 l[i].2.2.2)) (L n m (wrap .i64 ((i:Int)+1)) l[i].1) (some (.inr false)))
  (he: ∀n m t,L n (m+1) (l.length:Int) t=some (.inl ())):W fun n=>L n n 0 t0=some (cond (bo (oy t0 l)) (.inl ()) (.inr false)):=by
 have:=jZ (len:=l.length) (L:=fun n m i t=>L n m (i:Int) t) (fun i t=>oy t0 l↔oy t (l.drop i)) (fun x=>x=cond (bo (oy t0 l)) (.inl ()) (.inr false)) ?_ ?_
 .exact this.mono fun n h=>by
   obtain⟨x,f,g⟩:=h t0 (by simp)
   rw [<-g];exact f
 .refine d.mono fun n h m i t hi hinv=> ?_
  have h:=h m i t hi;rw [Ä hi,oy]at hinv;by_cases b:In l[i].1 t 300/\dP l[i].2.1 l[i].2.2.1 l[i].2.2.2
  .right
   rw [aB b]at h;exact⟨l[i].1,by rw [<-dy hi (by omega)];exact h,hinv.trans ⟨fun k=>k.2.2,fun k=>⟨b.1,b.2,k⟩⟩⟩
  .left
   rw [az b]at h;exact⟨_,h,by rw [az (fun k=>b ⟨(hinv.1 k).1,(hinv.1 k).2.1⟩)];rfl⟩
 .refine W.of fun n m t hinv=>⟨_,he n m t, ?_⟩
  rw [Ç (Î _),oy]at hinv;rw [aB (hinv.2 trivial)];rfl
theorem aBb (a t:Int) (l:aZ) (d:oV l):W fun n=>Gf n a t l=some (bo (qe a t l)):=by
 have k:=TJ d.1 t (L:=fun n m i b=>vg n m a t l i b) ((W.all l fun e h=>wJ e.2.1 e.2.2.1 e.2.2.2 (d.2 e h)).and (W.ge 1) |>.mono fun n ⟨h,q⟩ m i b hi=>by
  obtain⟨n,rfl⟩: ∃k,n=k+1:=⟨n-1,by omega⟩
  have g:cq (n+1) l[i].1 b 300=some (bo (In l[i].1 b 300)):=by
   rw [wz];simp only [bL,gX,Z,In]
  rw [Qt,bu hi,bg hi];simp only [Y,Z,g,h _ (Å hi),bA,fU];exact dZ (by grind)) (fun n m b=>by rw [Qt,ck];rfl)
 refine((k.and (cS a 0 300)).and (cS t 0 300)).nm fun n ⟨⟨j,f⟩,p⟩=> ?_
 by_cases h:In a 0 300
 .have hw:wrap .i64 ((300:Int)-a)=300-a:=by unfold In at h;rw [À];omega
  rw [Qs,f,hw];simp only [Z,p,show vg n n a t l 0 t=_ from j];unfold qe
  ((try simp only [bL,bA,Z,cV,cz,Y,cT]);(try simp only [dC]);(repeat' split);all_goals first|rfl|(refine cG ?_;grind)|(refine dD ?_;grind)|(refine dE ?_;grind)|(exfalso;grind))
 .rw [Qs,f,az h,az (P:=qe a t l) (fun k=>h k.1)]
  rfl
theorem oW (x:Int):W fun n=>lY n x=some (bo (In x 0 300)):=by
 refine(di x 0 300).nm fun n e=> ?_
 rw [atG,e];rfl
theorem aBc (x:Int):W fun n=>Hn n x=some (bo (In x (-1) 4)):=by
 refine(di x (-1) 4).nm fun n e=> ?_
 rw [atK,e];rfl
theorem aBd (a t:Int) (l:aZ) (d:oV l):W fun n=>Ho n a t l=some (bo (qe a t l)):=by
 have k:=TJ d.1 t (L:=fun n m i b=>vO n m i b l l.length) ((W.all l fun e h=>BL e.2.1 e.2.2.1 e.2.2.2).and (W.ge 1) |>.mono fun n ⟨h,q⟩ m i b hi=>by
  obtain⟨n,rfl⟩: ∃k,n=k+1:=⟨n-1,by omega⟩
  have g:cR (n+1) l[i].1 b 300=some (bo (In l[i].1 b 300)):=by
   rw [oP];simp only [bL,gX,Z,In]
  rw [Rk,bu hi,bg hi];simp only [Y,Z,g,h _ (Å hi),bA,fU];exact dZ (by grind)) (fun n m b=>by rw [Rk,ck];rfl)
 refine((k.and (oW a)).and (oW t)).nm fun n ⟨⟨j,f⟩,p⟩=> ?_
 have:=d.1;by_cases h:In a 0 300
 .have hw:wrap .i64 (a+(l.length:Int))=a+l.length:=by unfold In at h;rw [À];omega
  rw [Rj,f,hw];simp only [Z,p,show vO n n 0 t l l.length=_ from j];unfold qe
  ((try simp only [bL,bA,Z,cV,cz,Y,cT]);(try simp only [dC]);(repeat' split);all_goals first|rfl|(refine cG ?_;grind)|(refine dD ?_;grind)|(refine dE ?_;grind)|(exfalso;grind))
 .rw [Rj,f,az h,az (P:=qe a t l) (fun k=>h k.1)]
  rfl
theorem TK (a b:af) (c d:ae) (vs:ae) (cs:ai) (nr err:Int) (dn:ah) (out:O) (h:iM a b c d) (f:vs.length<=1048576) (g:cs.length<=1048576) (j:dn.length<=1048576):
  W fun n=>zo n a b c d vs cs nr err dn out=some (bo (ou a b c d vs cs nr err dn out)):=by
 have k:=kc j (p:=fun x=>In x 0 100000) (r:=false) (b:=(vs,cs,nr,err,dn,out,a,b,c,d)) (L:=fun n m i=>vi n m vs cs nr err dn out a b c d i) ((W.all dn fun x _=>cS x 0 100000).mono fun n h m i hi=>by
  rw [Qv,bu hi,bg hi];simp only [Y,Z,h _ (Å hi),bA];exact dZ (by simp)) (fun n m=>by rw [Qv,ck];rfl)
 refine((k.and (Jz a b c d h)).and (aAX vs cs nr err a.length b.length f g)).nm fun n ⟨⟨q,s⟩,t⟩=> ?_
 rw [apP,show vi n n vs cs nr err dn out a b c d 0=_ from q];simp only [Z,cz,s,t];unfold ou
 ((try simp only [bL,bp,Z,cV]);(try simp only [dC]);(repeat' split);all_goals first|rfl|(refine cG ?_;grind)|(refine dD ?_;grind)|(refine dE ?_;grind)|(exfalso;grind))
theorem JB (a b:af) (c d:ae) (vs:ae) (cs:ai) (nr err:Int) (dn:ah) (out:O) (h:iM a b c d) (f:vs.length<=1048576) (g:cs.length<=1048576) (j:dn.length<=1048576):
  W fun n=>vP n a b c d vs cs nr err dn out=some (bo (ou a b c d vs cs nr err dn out)):=by
 have k:W fun n=> ∀v∈dn,Hv n v=some (bo (¬In v 0 100000)):=W.all dn fun v _=>(di v 0 100000).nm fun n e=>by
  rw [auE,e];simp only [Z,bA]
 have q:=kd j (p:=fun v=> ¬In v 0 100000) (r:=fun i=>i) (b:=()) (L:=fun n m i=>Ap n m i dn (dn.length:Int)) (k.mono fun n h m i hi=>by
   rw [Ru,bu hi,bg hi];simp only [Y,Z,h _ (Å hi)]) (fun n m=>by rw [Ru,ck];rfl)
 have k1:W fun n=>Hu n dn=some (bo (∃v∈dn,¬In v 0 100000)):=W.succ (q.nm fun n h=>by
   rw [auC,auD];refine DT (l:=dn) (p:=fun v=> ¬In v 0 100000) ?_
   rcases h with⟨h,i,e⟩|⟨h,e⟩
   .exact .inl ⟨h,i,by rw [e];rfl⟩
   .exact .inr ⟨h,by rw [e];rfl⟩)
 refine((k1.and (wI a b c d h)).and (TF vs cs nr err a.length b.length f g)).nm fun n ⟨⟨s,t⟩,u⟩=> ?_
 rw [atO,t];simp only [Z,s,u];unfold ou
 ((try simp only [bL,bp,bA,Z,cV]);(try simp only [dC]);(repeat' split);all_goals first|rfl|(refine cG ?_;grind)|(refine dD ?_;grind)|(refine dE ?_;grind)|(exfalso;grind))
theorem aBe (a b:af) (c d:ae) (tm g ba f:Int) (l:aZ) (vs:ae) (cs:ai) (nr err:Int) (dn:ah) (out:O) (h:iM a b c d) (i:oV l) (j:vs.length<=1048576) (k:cs.length<=1048576) (m:dn.length<=1048576):
  W fun n=>Ge n a b c d tm g ba f l vs cs nr err dn out=some (bo (uu a b c d tm g ba f l vs cs nr err dn out)):=by
 refine(((TK a b c d vs cs nr err dn out h j k m).and (aBb ba f l i)).and ((TH ba f l i.1).and ((cS tm 0 300).and (cS g (-1) 4)))).nm fun n ⟨⟨p,q⟩,r,s,t⟩=> ?_
 rw [apL,r];simp only [Z,p,q,s,t];unfold uu
 ((try simp only [bL,Z,cV]);(try simp only [dC]);(repeat' split);all_goals first|rfl|(refine cG ?_;grind)|(refine dD ?_;grind)|(refine dE ?_;grind)|(exfalso;grind))
theorem aBf (a b:af) (c d:ae) (tm g ba f:Int) (l:aZ) (vs:ae) (cs:ai) (nr err:Int) (dn:ah) (out:O) (h:iM a b c d) (i:oV l) (j:vs.length<=1048576) (k:cs.length<=1048576) (m:dn.length<=1048576):
  W fun n=>Hm n a b c d tm g ba f l vs cs nr err dn out=some (bo (uu a b c d tm g ba f l vs cs nr err dn out)):=by
 refine(((JB a b c d vs cs nr err dn out h j k m).and (aBd ba f l i)).and ((TI ba f l i.1).and ((oW tm).and (aBc g)))).nm fun n ⟨⟨p,q⟩,r,s,t⟩=> ?_
 rw [atI,r];simp only [Z,p,q,s,t];unfold uu
 ((try simp only [bL,Z,cV]);(try simp only [dC]);(repeat' split);all_goals first|rfl|(refine cG ?_;grind)|(refine dD ?_;grind)|(refine dE ?_;grind)|(exfalso;grind))
abbrev qL:Type:=Int×(Int×Int×Int×Int×aZ×ae×ai×Int×Int×ah×O×Int×ch×ah×ah×Int×ae×ai×Int×Int×ah×O×bY×Int×bn)
abbrev BM:Type:=ED
def gB (r:BM) (size:Int):Prop:=Ee r.1 r.2.1 r.2.2.1 r.2.2.2.1 r.2.2.2.2.1 r.2.2.2.2.2.1 r.2.2.2.2.2.2.1 r.2.2.2.2.2.2.2.1 r.2.2.2.2.2.2.2.2.2 size
def BN (r:BM):Prop:=oV r.2.2.2.2.2.2.2.1
theorem aBg (l:aZ) (most:Int) (d:oV l):W fun n=>Gi n l most=some (bo ((∀e∈l,lP most e)/\l.length<=40)):=by
 have k:=kc d.1 (p:=lP most) (r:=false) (b:=l) (L:=fun n m i=>vn n m i l most) (((W.all l fun e h=>wJ e.2.1 e.2.2.1 e.2.2.2 (d.2 e h)).and (W.all l fun e _=>cS e.1 0 most)).mono fun n ⟨h,f⟩ m i hi=>by
  rw [Qz,bu hi,bg hi];simp only [Y,Z,h _ (Å hi),f _ (Å hi),bA,fU];exact dZ (by unfold lP;grind)) (fun n m=>by rw [Qz,ck];rfl)
 refine k.nm fun n e=> ?_
 rw [apW,show vn n n 0 l most=_ from e];simp only [Z,cz]
 ((try simp only [bL]);(try simp only [dC]);(repeat' split);all_goals first|rfl|(refine cG ?_;grind)|(refine dD ?_;grind)|(refine dE ?_;grind)|(exfalso;grind))
theorem aBh (l:aZ) (most:Int) (d:oV l):W fun n=>HC n l most=some (bo ((∀e∈l,lP most e)/\l.length<=40)):=by
 have f:W fun n=> ∀e∈l,HE n most e.1 e.2.1 e.2.2.1 e.2.2.2=some (bo (¬lP most e),most):=W.all l fun e _=>((di e.1 0 most).and (BL e.2.1 e.2.2.1 e.2.2.2)).nm fun n ⟨g,j⟩=>by
  rw [auR,g];simp only [Z,j,bA,kK];unfold lP;rw [mR (show (¬In e.1 0 most\/ ¬dP e.2.1 e.2.2.1 e.2.2.2)↔ ¬(In e.1 0 most/\dP e.2.1 e.2.2.1 e.2.2.2) by grind)]
 have k:=kd d.1 (p:=fun e=> ¬lP most e) (r:=fun i=>(i,most)) (b:=most) (L:=fun n m i=>Au n m most i l (l.length:Int)) (f.mono fun n h m i hi=>by
   rw [Rx,bu hi,bg hi];simp only [Y,Z,h _ (Å hi)]) (fun n m=>by rw [Rx,ck];rfl)
 have k1:W fun n=>HD n most l=some (bo (∃e∈l,¬lP most e),most):=W.succ (k.nm fun n h=>by
   rw [auP,auQ];refine rL (l:=l) (p:=fun e=> ¬lP most e) (c:=most) ?_
   rcases h with⟨h,i,e⟩|⟨h,e⟩
   .exact .inl ⟨h,i,by rw [e];rfl⟩
   .exact .inr ⟨h,by rw [e];rfl⟩)
 refine k1.nm fun n e=> ?_
 rw [auO,e];simp only [Z]
 ((try simp only [bL,bA]);(try simp only [dC]);(repeat' split);all_goals first|rfl|(refine cG ?_;grind)|(refine dD ?_;grind)|(refine dE ?_;grind)|(exfalso;grind))
theorem TL (r:BM) (size:Int) (h:BN r):W fun n=>zu n r.1 r.2.1 r.2.2.1 r.2.2.2.1 r.2.2.2.2.1 r.2.2.2.2.2.1 r.2.2.2.2.2.2.1 r.2.2.2.2.2.2.2.1 r.2.2.2.2.2.2.2.2.1 r.2.2.2.2.2.2.2.2.2 size=some (bo (gB r size)):=by
 refine(((((cS r.1 1 5).and (cS size 1 5)).and ((cS r.2.1 0 (wrap .i64 (size-1))).and (cS r.2.2.1 0 (wrap .i64 (size-1))))).and (((cS r.2.2.2.1 0 300).and (cS r.2.2.2.2.1 0 300)).and ((cS r.2.2.2.2.2.1 0 300).and (cS r.2.2.2.2.2.2.1 0 300)))).and (aBg r.2.2.2.2.2.2.2.1 r.2.2.2.1 h)).nm fun n ⟨⟨⟨⟨b,d⟩,f,g⟩,⟨i,j⟩,k,m⟩,p⟩=> ?_
 rw [apV,b];simp only [Z,d,f,g,i,j,k,m,p];unfold gB Ee
 ((try simp only [bL,bp,bA,Z,cV,Y]);(try simp only [dC]);(repeat' split);all_goals first|rfl|(refine cG ?_;grind)|(refine dD ?_;grind)|(refine dE ?_;grind)|(exfalso;grind))
theorem TM (r:BM) (size:Int) (h:BN r):W fun n=>As n r.1 r.2.1 r.2.2.1 r.2.2.2.1 r.2.2.2.2.1 r.2.2.2.2.2.1 r.2.2.2.2.2.2.1 r.2.2.2.2.2.2.2.1 r.2.2.2.2.2.2.2.2.1 r.2.2.2.2.2.2.2.2.2 size=some (bo (gB r size)):=by
 refine(((((di r.1 1 5).and (di size 1 5)).and ((di r.2.1 0 (wrap .i64 (size-1))).and (di r.2.2.1 0 (wrap .i64 (size-1))))).and (((oW r.2.2.2.1).and (oW r.2.2.2.2.1)).and ((oW r.2.2.2.2.2.1).and (oW r.2.2.2.2.2.2.1)))).and (aBh r.2.2.2.2.2.2.2.1 r.2.2.2.1 h)).nm fun n ⟨⟨⟨⟨b,d⟩,f,g⟩,⟨i,j⟩,k,m⟩,p⟩=> ?_
 rw [auN,b];simp only [Z,d,f,g,i,j,k,m,p];unfold gB Ee
 ((try simp only [bL,bp,bA,Z,cV,Y]);(try simp only [dC]);(repeat' split);all_goals first|rfl|(refine cG ?_;grind)|(refine dD ?_;grind)|(refine dE ?_;grind)|(exfalso;grind))
def wK (b:bY) (sure:Int):Prop:=b.length<=80000/\In sure 0 b.length
theorem aBi (b:bY) (s:Int):W fun n=>Gj n b s=some (bo (wK b s)):=by
 refine(cS s 0 b.length).nm fun n e=> ?_
 rw [apX,e];unfold wK
 ((try simp only [bL,Z,cV]);(try simp only [dC]);(repeat' split);all_goals first|rfl|(refine cG ?_;grind)|(refine dD ?_;grind)|(refine dE ?_;grind)|(exfalso;grind))
theorem aBj (b:bY) (s:Int):W fun n=>Hz n b s=some (bo (wK b s)):=by
 refine(di s 0 b.length).nm fun n e=> ?_
 rw [auJ,e];unfold wK
 ((try simp only [bL,Z,cV]);(try simp only [dC]);(repeat' split);all_goals first|rfl|(refine cG ?_;grind)|(refine dD ?_;grind)|(refine dE ?_;grind)|(exfalso;grind))
theorem JC (l:ah) (many lo hi:Int) (d:l.length<=1048576):W fun n=>qC n l many lo hi=some (bo ((l.length:Int)=many/\ ∀x∈l,In x lo hi)):=by
 have f:W fun n=> ∀e∈l,Hy n lo hi e=some (bo (¬In e lo hi),lo,hi):=W.all l fun e _=>(di e lo hi).nm fun n g=>by
  rw [auI,g];simp only [Z,bA]
 have j:=kd d (p:=fun e=> ¬In e lo hi) (r:=fun i=>(i,lo,hi)) (b:=(lo,hi)) (L:=fun n m i=>Aq n m lo hi i l (l.length:Int)) (f.mono fun n h m i hi=>by
   rw [Rv,bu hi,bg hi];simp only [Y,Z,h _ (Å hi)]) (fun n m=>by rw [Rv,ck];rfl)
 have k1:W fun n=>Hw n lo hi l=some (bo (∃e∈l,¬In e lo hi),lo,hi):=W.succ (j.nm fun n h=>by
   rw [auG,auH];refine rL (l:=l) (p:=fun e=> ¬In e lo hi) (c:=(lo,hi)) ?_
   rcases h with⟨h,i,e⟩|⟨h,e⟩
   .exact .inl ⟨h,i,by rw [e];rfl⟩
   .exact .inr ⟨h,by rw [e];rfl⟩)
 refine k1.nm fun n e=> ?_
 rw [auF,e];simp only [Z]
 ((try simp only [bp,bA]);(try simp only [dC]);(repeat' split);all_goals first|rfl|(refine cG ?_;grind)|(refine dD ?_;grind)|(refine dE ?_;grind)|(exfalso;grind))
def JD (a b:af) (c d:ae) (p:qL):Prop:=uu a b c d p.2.1 p.2.2.1 p.2.2.2.1 p.2.2.2.2.1 p.2.2.2.2.2.1 p.2.2.2.2.2.2.1 p.2.2.2.2.2.2.2.1 p.2.2.2.2.2.2.2.2.1 p.2.2.2.2.2.2.2.2.2.1 p.2.2.2.2.2.2.2.2.2.2.1 p.2.2.2.2.2.2.2.2.2.2.2.1
def JE (a b:af) (c d:ae) (p:qL):Prop:=ou a b c d p.2.2.2.2.2.2.2.2.2.2.2.2.2.2.2.2.2.1 p.2.2.2.2.2.2.2.2.2.2.2.2.2.2.2.2.2.2.1 p.2.2.2.2.2.2.2.2.2.2.2.2.2.2.2.2.2.2.2.1 p.2.2.2.2.2.2.2.2.2.2.2.2.2.2.2.2.2.2.2.2.1 p.2.2.2.2.2.2.2.2.2.2.2.2.2.2.2.2.2.2.2.2.2.1 p.2.2.2.2.2.2.2.2.2.2.2.2.2.2.2.2.2.2.2.2.2.2.1
def eZ (p:qL):Int:=(ox p.2.2.2.1 p.2.2.2.2.1 p.2.2.2.2.2.1).1
def ns (a b:af) (c d:ae) (p:qL) (size:Int):Prop:=
 In size 1 5/\In p.1 0 (wrap .i64 (size-1))/\JD a b c d p/\p.2.2.1<size/\In p.2.2.2.2.2.2.2.2.2.2.2.2.1 0 2/\(p.2.2.2.2.2.2.2.2.2.2.2.2.2.1.length:Int)=size/\(p.2.2.2.2.2.2.2.2.2.2.2.2.2.2.1.length:Int)=size/\(p.2.2.2.2.2.2.2.2.2.2.2.2.2.2.2.1.length:Int)=size/\
 (∀x∈p.2.2.2.2.2.2.2.2.2.2.2.2.2.2.1,In x 1 (wrap .i64 (eZ p+1)))/\(∀x∈p.2.2.2.2.2.2.2.2.2.2.2.2.2.2.2.1,In x 0 (eZ p))/\(∀r∈p.2.2.2.2.2.2.2.2.2.2.2.2.2.2.2.2.2.2.2.2.2.2.2.2.2,gB r size/\r.2.1=p.1)/\In p.2.2.2.2.2.2.2.2.2.2.2.2.2.2.2.2.1 p.2.2.2.1 (eZ p)/\JE a b c d p/\wK p.2.2.2.2.2.2.2.2.2.2.2.2.2.2.2.2.2.2.2.2.2.2.2.1 p.2.2.2.2.2.2.2.2.2.2.2.2.2.2.2.2.2.2.2.2.2.2.2.2.1/\p.2.2.2.2.2.2.2.2.2.2.2.2.2.2.2.2.2.2.2.2.2.2.2.2.2.length<=40
def JF (p:qL):Prop:=oV p.2.2.2.2.2.1/\p.2.2.2.2.2.2.1.length<=1048576/\p.2.2.2.2.2.2.2.1.length<=1048576/\p.2.2.2.2.2.2.2.2.2.2.1.length<=1048576/\p.2.2.2.2.2.2.2.2.2.2.2.2.2.2.1.length<=1048576/\p.2.2.2.2.2.2.2.2.2.2.2.2.2.2.2.1.length<=1048576/\p.2.2.2.2.2.2.2.2.2.2.2.2.2.2.2.2.2.1.length<=1048576/\p.2.2.2.2.2.2.2.2.2.2.2.2.2.2.2.2.2.2.1.length<=1048576/\p.2.2.2.2.2.2.2.2.2.2.2.2.2.2.2.2.2.2.2.2.2.1.length<=1048576/\p.2.2.2.2.2.2.2.2.2.2.2.2.2.2.2.2.2.2.2.2.2.2.2.2.2.length<=1048576/\ ∀r∈p.2.2.2.2.2.2.2.2.2.2.2.2.2.2.2.2.2.2.2.2.2.2.2.2.2,BN r
theorem aBk (a b:af) (c d:ae) (p:qL) (size:Int) (h:iM a b c d) (hp:JF p):W fun n=>Hl n a b c d p.1 p.2.1 p.2.2.1 p.2.2.2.1 p.2.2.2.2.1 p.2.2.2.2.2.1 p.2.2.2.2.2.2.1 p.2.2.2.2.2.2.2.1 p.2.2.2.2.2.2.2.2.1 p.2.2.2.2.2.2.2.2.2.1 p.2.2.2.2.2.2.2.2.2.2.1 p.2.2.2.2.2.2.2.2.2.2.2.1 p.2.2.2.2.2.2.2.2.2.2.2.2.1 p.2.2.2.2.2.2.2.2.2.2.2.2.2.1 p.2.2.2.2.2.2.2.2.2.2.2.2.2.2.1 p.2.2.2.2.2.2.2.2.2.2.2.2.2.2.2.1 p.2.2.2.2.2.2.2.2.2.2.2.2.2.2.2.2.1 p.2.2.2.2.2.2.2.2.2.2.2.2.2.2.2.2.2.1 p.2.2.2.2.2.2.2.2.2.2.2.2.2.2.2.2.2.2.1 p.2.2.2.2.2.2.2.2.2.2.2.2.2.2.2.2.2.2.2.1 p.2.2.2.2.2.2.2.2.2.2.2.2.2.2.2.2.2.2.2.2.1 p.2.2.2.2.2.2.2.2.2.2.2.2.2.2.2.2.2.2.2.2.2.1 p.2.2.2.2.2.2.2.2.2.2.2.2.2.2.2.2.2.2.2.2.2.2.1 p.2.2.2.2.2.2.2.2.2.2.2.2.2.2.2.2.2.2.2.2.2.2.2.1 p.2.2.2.2.2.2.2.2.2.2.2.2.2.2.2.2.2.2.2.2.2.2.2.2.1 p.2.2.2.2.2.2.2.2.2.2.2.2.2.2.2.2.2.2.2.2.2.2.2.2.2 size=some (bo (ns a b c d p size)):=by
 obtain⟨hl,h6,h7,f,g,j,k,q,s,t,hr⟩:=hp;have k0:W fun n=> ∀r∈p.2.2.2.2.2.2.2.2.2.2.2.2.2.2.2.2.2.2.2.2.2.2.2.2.2,HB n size p.1 p.2.1 p.2.2.1 p.2.2.2.1 p.2.2.2.2.1 p.2.2.2.2.2.1 p.2.2.2.2.2.2.1 p.2.2.2.2.2.2.2.1 p.2.2.2.2.2.2.2.2.1 p.2.2.2.2.2.2.2.2.2.1 p.2.2.2.2.2.2.2.2.2.2.1 p.2.2.2.2.2.2.2.2.2.2.2.1 p.2.2.2.2.2.2.2.2.2.2.2.2.1 p.2.2.2.2.2.2.2.2.2.2.2.2.2.1 p.2.2.2.2.2.2.2.2.2.2.2.2.2.2.1 p.2.2.2.2.2.2.2.2.2.2.2.2.2.2.2.1 p.2.2.2.2.2.2.2.2.2.2.2.2.2.2.2.2.1 p.2.2.2.2.2.2.2.2.2.2.2.2.2.2.2.2.2.1 p.2.2.2.2.2.2.2.2.2.2.2.2.2.2.2.2.2.2.1 p.2.2.2.2.2.2.2.2.2.2.2.2.2.2.2.2.2.2.2.1 p.2.2.2.2.2.2.2.2.2.2.2.2.2.2.2.2.2.2.2.2.1 p.2.2.2.2.2.2.2.2.2.2.2.2.2.2.2.2.2.2.2.2.2.1 p.2.2.2.2.2.2.2.2.2.2.2.2.2.2.2.2.2.2.2.2.2.2.1 p.2.2.2.2.2.2.2.2.2.2.2.2.2.2.2.2.2.2.2.2.2.2.2.1 p.2.2.2.2.2.2.2.2.2.2.2.2.2.2.2.2.2.2.2.2.2.2.2.2.1 p.2.2.2.2.2.2.2.2.2.2.2.2.2.2.2.2.2.2.2.2.2.2.2.2.2 r.1 r.2.1 r.2.2.1 r.2.2.2.1 r.2.2.2.2.1 r.2.2.2.2.2.1 r.2.2.2.2.2.2.1 r.2.2.2.2.2.2.2.1 r.2.2.2.2.2.2.2.2.1 r.2.2.2.2.2.2.2.2.2=some (bo (¬(gB r size/\r.2.1=p.1)),size,p):=W.all _ fun r hm=>(TM r size (hr r hm)).nm fun n e1=>by
  rw [auM,e1];simp only [Z,bA,cu,kK];rw [mR (show (¬gB r size\/ ¬r.2.1=p.1)↔ ¬(gB r size/\r.2.1=p.1) by grind)]
 have h':=kd t (p:=fun r=> ¬(gB r size/\r.2.1=p.1)) (r:=fun i=>(i,size,p)) (b:=(size,p)) (L:=fun n m i=>Ar n m size p.1 p.2.1 p.2.2.1 p.2.2.2.1 p.2.2.2.2.1 p.2.2.2.2.2.1 p.2.2.2.2.2.2.1 p.2.2.2.2.2.2.2.1 p.2.2.2.2.2.2.2.2.1 p.2.2.2.2.2.2.2.2.2.1 p.2.2.2.2.2.2.2.2.2.2.1 p.2.2.2.2.2.2.2.2.2.2.2.1 p.2.2.2.2.2.2.2.2.2.2.2.2.1 p.2.2.2.2.2.2.2.2.2.2.2.2.2.1 p.2.2.2.2.2.2.2.2.2.2.2.2.2.2.1 p.2.2.2.2.2.2.2.2.2.2.2.2.2.2.2.1 p.2.2.2.2.2.2.2.2.2.2.2.2.2.2.2.2.1 p.2.2.2.2.2.2.2.2.2.2.2.2.2.2.2.2.2.1 p.2.2.2.2.2.2.2.2.2.2.2.2.2.2.2.2.2.2.1 p.2.2.2.2.2.2.2.2.2.2.2.2.2.2.2.2.2.2.2.1 p.2.2.2.2.2.2.2.2.2.2.2.2.2.2.2.2.2.2.2.2.1 p.2.2.2.2.2.2.2.2.2.2.2.2.2.2.2.2.2.2.2.2.2.1 p.2.2.2.2.2.2.2.2.2.2.2.2.2.2.2.2.2.2.2.2.2.2.1 p.2.2.2.2.2.2.2.2.2.2.2.2.2.2.2.2.2.2.2.2.2.2.2.1 p.2.2.2.2.2.2.2.2.2.2.2.2.2.2.2.2.2.2.2.2.2.2.2.2.1 p.2.2.2.2.2.2.2.2.2.2.2.2.2.2.2.2.2.2.2.2.2.2.2.2.2 i p.2.2.2.2.2.2.2.2.2.2.2.2.2.2.2.2.2.2.2.2.2.2.2.2.2 (p.2.2.2.2.2.2.2.2.2.2.2.2.2.2.2.2.2.2.2.2.2.2.2.2.2.length:Int)) (k0.mono fun n h m i hi=>by
   rw [Rw,bu hi,bg hi];simp only [Y,Z,h _ (Å hi)]) (fun n m=>by rw [Rw,ck];rfl)
 have k1:W fun n=>HA n size p.1 p.2.1 p.2.2.1 p.2.2.2.1 p.2.2.2.2.1 p.2.2.2.2.2.1 p.2.2.2.2.2.2.1 p.2.2.2.2.2.2.2.1 p.2.2.2.2.2.2.2.2.1 p.2.2.2.2.2.2.2.2.2.1 p.2.2.2.2.2.2.2.2.2.2.1 p.2.2.2.2.2.2.2.2.2.2.2.1 p.2.2.2.2.2.2.2.2.2.2.2.2.1 p.2.2.2.2.2.2.2.2.2.2.2.2.2.1 p.2.2.2.2.2.2.2.2.2.2.2.2.2.2.1 p.2.2.2.2.2.2.2.2.2.2.2.2.2.2.2.1 p.2.2.2.2.2.2.2.2.2.2.2.2.2.2.2.2.1 p.2.2.2.2.2.2.2.2.2.2.2.2.2.2.2.2.2.1 p.2.2.2.2.2.2.2.2.2.2.2.2.2.2.2.2.2.2.1 p.2.2.2.2.2.2.2.2.2.2.2.2.2.2.2.2.2.2.2.1 p.2.2.2.2.2.2.2.2.2.2.2.2.2.2.2.2.2.2.2.2.1 p.2.2.2.2.2.2.2.2.2.2.2.2.2.2.2.2.2.2.2.2.2.1 p.2.2.2.2.2.2.2.2.2.2.2.2.2.2.2.2.2.2.2.2.2.2.1 p.2.2.2.2.2.2.2.2.2.2.2.2.2.2.2.2.2.2.2.2.2.2.2.1 p.2.2.2.2.2.2.2.2.2.2.2.2.2.2.2.2.2.2.2.2.2.2.2.2.1 p.2.2.2.2.2.2.2.2.2.2.2.2.2.2.2.2.2.2.2.2.2.2.2.2.2 p.2.2.2.2.2.2.2.2.2.2.2.2.2.2.2.2.2.2.2.2.2.2.2.2.2=some (bo (∃r∈p.2.2.2.2.2.2.2.2.2.2.2.2.2.2.2.2.2.2.2.2.2.2.2.2.2,¬(gB r size/\r.2.1=p.1)),size,p):=W.succ (h'.nm fun n h=>by
   rw [auK,auL];refine rL (l:=p.2.2.2.2.2.2.2.2.2.2.2.2.2.2.2.2.2.2.2.2.2.2.2.2.2) (p:=fun r=> ¬(gB r size/\r.2.1=p.1)) (c:=(size,p)) ?_
   rcases h with⟨h,i,e⟩|⟨h,e⟩
   .exact .inl ⟨h,i,by rw [e];rfl⟩
   .exact .inr ⟨h,by rw [e];rfl⟩)
 have k2:=aBf a b c d p.2.1 p.2.2.1 p.2.2.2.1 p.2.2.2.2.1 p.2.2.2.2.2.1 p.2.2.2.2.2.2.1 p.2.2.2.2.2.2.2.1 p.2.2.2.2.2.2.2.2.1 p.2.2.2.2.2.2.2.2.2.1 p.2.2.2.2.2.2.2.2.2.2.1 p.2.2.2.2.2.2.2.2.2.2.2.1 h hl h6 h7 f;have k3:=JB a b c d p.2.2.2.2.2.2.2.2.2.2.2.2.2.2.2.2.2.1 p.2.2.2.2.2.2.2.2.2.2.2.2.2.2.2.2.2.2.1 p.2.2.2.2.2.2.2.2.2.2.2.2.2.2.2.2.2.2.2.1 p.2.2.2.2.2.2.2.2.2.2.2.2.2.2.2.2.2.2.2.2.1 p.2.2.2.2.2.2.2.2.2.2.2.2.2.2.2.2.2.2.2.2.2.1 p.2.2.2.2.2.2.2.2.2.2.2.2.2.2.2.2.2.2.2.2.2.2.1 h k q s;have k4:=TI p.2.2.2.1 p.2.2.2.2.1 p.2.2.2.2.2.1 hl.1;have k5:=JC p.2.2.2.2.2.2.2.2.2.2.2.2.2.2.1 size 1 (wrap .i64 (eZ p+1)) g;have k6:=JC p.2.2.2.2.2.2.2.2.2.2.2.2.2.2.2.1 size 0 (eZ p) j;have k7:=aBj p.2.2.2.2.2.2.2.2.2.2.2.2.2.2.2.2.2.2.2.2.2.2.2.1 p.2.2.2.2.2.2.2.2.2.2.2.2.2.2.2.2.2.2.2.2.2.2.2.2.1;refine(((k1.and (k2.and k3)).and ((k4.and k5).and (k6.and k7))).and (((di size 1 5).and (di p.1 0 (wrap .i64 (size-1)))).and ((di p.2.2.2.2.2.2.2.2.2.2.2.2.1 0 2).and (di p.2.2.2.2.2.2.2.2.2.2.2.2.2.2.2.2.1 p.2.2.2.1 (eZ p))))).nm fun n ⟨⟨⟨e1,e2,e3⟩,⟨e4,e5⟩,e6,e7⟩,⟨e8,e9⟩,u,z⟩=> ?_
 rw [atH,e8,e4];simp only [Z,show(ox p.2.2.2.1 p.2.2.2.2.1 p.2.2.2.2.2.1).1=eZ p from rfl,e1,e2,e3,e5,e6,e7,e9,u,z];clear e1 e2 e3 e4 e5 e6 e7 e8 e9 u z k0 k1 k2 k3 k4 k5 k6 k7 h' hr hl h6 h7 f g j k q s t h;simp only [bL,cu,bA,kK,um,Z];refine cG ?_
 unfold ns JD JE;grind
theorem aBl (a b:af) (c d:ae) (p:qL) (size:Int) (h:iM a b c d) (hp:JF p):W fun n=>Gd n a b c d p.1 p.2.1 p.2.2.1 p.2.2.2.1 p.2.2.2.2.1 p.2.2.2.2.2.1 p.2.2.2.2.2.2.1 p.2.2.2.2.2.2.2.1 p.2.2.2.2.2.2.2.2.1 p.2.2.2.2.2.2.2.2.2.1 p.2.2.2.2.2.2.2.2.2.2.1 p.2.2.2.2.2.2.2.2.2.2.2.1 p.2.2.2.2.2.2.2.2.2.2.2.2.1 p.2.2.2.2.2.2.2.2.2.2.2.2.2.1 p.2.2.2.2.2.2.2.2.2.2.2.2.2.2.1 p.2.2.2.2.2.2.2.2.2.2.2.2.2.2.2.1 p.2.2.2.2.2.2.2.2.2.2.2.2.2.2.2.2.1 p.2.2.2.2.2.2.2.2.2.2.2.2.2.2.2.2.2.1 p.2.2.2.2.2.2.2.2.2.2.2.2.2.2.2.2.2.2.1 p.2.2.2.2.2.2.2.2.2.2.2.2.2.2.2.2.2.2.2.1 p.2.2.2.2.2.2.2.2.2.2.2.2.2.2.2.2.2.2.2.2.1 p.2.2.2.2.2.2.2.2.2.2.2.2.2.2.2.2.2.2.2.2.2.1 p.2.2.2.2.2.2.2.2.2.2.2.2.2.2.2.2.2.2.2.2.2.2.1 p.2.2.2.2.2.2.2.2.2.2.2.2.2.2.2.2.2.2.2.2.2.2.2.1 p.2.2.2.2.2.2.2.2.2.2.2.2.2.2.2.2.2.2.2.2.2.2.2.2.1 p.2.2.2.2.2.2.2.2.2.2.2.2.2.2.2.2.2.2.2.2.2.2.2.2.2 size=some (bo (ns a b c d p size)):=by
 obtain⟨hl,h6,h7,k,s,ak,t,u,z,ad,hr⟩:=hp;have k2:=aBe a b c d p.2.1 p.2.2.1 p.2.2.2.1 p.2.2.2.2.1 p.2.2.2.2.2.1 p.2.2.2.2.2.2.1 p.2.2.2.2.2.2.2.1 p.2.2.2.2.2.2.2.2.1 p.2.2.2.2.2.2.2.2.2.1 p.2.2.2.2.2.2.2.2.2.2.1 p.2.2.2.2.2.2.2.2.2.2.2.1 h hl h6 h7 k;have k3:=TK a b c d p.2.2.2.2.2.2.2.2.2.2.2.2.2.2.2.2.2.1 p.2.2.2.2.2.2.2.2.2.2.2.2.2.2.2.2.2.2.1 p.2.2.2.2.2.2.2.2.2.2.2.2.2.2.2.2.2.2.2.1 p.2.2.2.2.2.2.2.2.2.2.2.2.2.2.2.2.2.2.2.2.1 p.2.2.2.2.2.2.2.2.2.2.2.2.2.2.2.2.2.2.2.2.2.1 p.2.2.2.2.2.2.2.2.2.2.2.2.2.2.2.2.2.2.2.2.2.2.1 h t u z;have k4:=TH p.2.2.2.1 p.2.2.2.2.1 p.2.2.2.2.2.1 hl.1;have k7:=aBi p.2.2.2.2.2.2.2.2.2.2.2.2.2.2.2.2.2.2.2.2.2.2.2.1 p.2.2.2.2.2.2.2.2.2.2.2.2.2.2.2.2.2.2.2.2.2.2.2.2.1;have k8:=(((k2.and k3).and (k4.and k7)).and (((cS size 1 5).and (cS p.1 0 (wrap .i64 (size-1)))).and ((cS p.2.2.2.2.2.2.2.2.2.2.2.2.1 0 2).and (cS p.2.2.2.2.2.2.2.2.2.2.2.2.2.2.2.2.1 p.2.2.2.1 (eZ p)))));by_cases hg:(p.2.2.2.2.2.2.2.2.2.2.2.2.2.2.1.length:Int)=size/\(p.2.2.2.2.2.2.2.2.2.2.2.2.2.2.2.1.length:Int)=size
 .obtain⟨g1,g2⟩:=hg
  have q1:=jD s (q:=fun i=>At p.2.2.2.2.2.2.2.2.2.2.2.2.2.2.1 (fun x=>In x 1 (wrap .i64 (eZ p+1))) i/\At p.2.2.2.2.2.2.2.2.2.2.2.2.2.2.2.1 (fun x=>In x 0 (eZ p)) i) (r:=false) (b:=(p.1,p.2.1,p.2.2.1,p.2.2.2.1,p.2.2.2.2.1,p.2.2.2.2.2.1,p.2.2.2.2.2.2.1,p.2.2.2.2.2.2.2.1,p.2.2.2.2.2.2.2.2.1,p.2.2.2.2.2.2.2.2.2.1,p.2.2.2.2.2.2.2.2.2.2.1,p.2.2.2.2.2.2.2.2.2.2.2.1,p.2.2.2.2.2.2.2.2.2.2.2.2.1,p.2.2.2.2.2.2.2.2.2.2.2.2.2.1,p.2.2.2.2.2.2.2.2.2.2.2.2.2.2.1,p.2.2.2.2.2.2.2.2.2.2.2.2.2.2.2.1,p.2.2.2.2.2.2.2.2.2.2.2.2.2.2.2.2.1,p.2.2.2.2.2.2.2.2.2.2.2.2.2.2.2.2.2.1,p.2.2.2.2.2.2.2.2.2.2.2.2.2.2.2.2.2.2.1,p.2.2.2.2.2.2.2.2.2.2.2.2.2.2.2.2.2.2.2.1,p.2.2.2.2.2.2.2.2.2.2.2.2.2.2.2.2.2.2.2.2.1,p.2.2.2.2.2.2.2.2.2.2.2.2.2.2.2.2.2.2.2.2.2.1,p.2.2.2.2.2.2.2.2.2.2.2.2.2.2.2.2.2.2.2.2.2.2.1,p.2.2.2.2.2.2.2.2.2.2.2.2.2.2.2.2.2.2.2.2.2.2.2.1,p.2.2.2.2.2.2.2.2.2.2.2.2.2.2.2.2.2.2.2.2.2.2.2.2.1,p.2.2.2.2.2.2.2.2.2.2.2.2.2.2.2.2.2.2.2.2.2.2.2.2.2,a,b,c,d,size,eZ p)) (L:=fun n m i=>ve n m p.1 p.2.1 p.2.2.1 p.2.2.2.1 p.2.2.2.2.1 p.2.2.2.2.2.1 p.2.2.2.2.2.2.1 p.2.2.2.2.2.2.2.1 p.2.2.2.2.2.2.2.2.1 p.2.2.2.2.2.2.2.2.2.1 p.2.2.2.2.2.2.2.2.2.2.1 p.2.2.2.2.2.2.2.2.2.2.2.1 p.2.2.2.2.2.2.2.2.2.2.2.2.1 p.2.2.2.2.2.2.2.2.2.2.2.2.2.1 p.2.2.2.2.2.2.2.2.2.2.2.2.2.2.1 p.2.2.2.2.2.2.2.2.2.2.2.2.2.2.2.1 p.2.2.2.2.2.2.2.2.2.2.2.2.2.2.2.2.1 p.2.2.2.2.2.2.2.2.2.2.2.2.2.2.2.2.2.1 p.2.2.2.2.2.2.2.2.2.2.2.2.2.2.2.2.2.2.1 p.2.2.2.2.2.2.2.2.2.2.2.2.2.2.2.2.2.2.2.1 p.2.2.2.2.2.2.2.2.2.2.2.2.2.2.2.2.2.2.2.2.1 p.2.2.2.2.2.2.2.2.2.2.2.2.2.2.2.2.2.2.2.2.2.1 p.2.2.2.2.2.2.2.2.2.2.2.2.2.2.2.2.2.2.2.2.2.2.1 p.2.2.2.2.2.2.2.2.2.2.2.2.2.2.2.2.2.2.2.2.2.2.2.1 p.2.2.2.2.2.2.2.2.2.2.2.2.2.2.2.2.2.2.2.2.2.2.2.2.1 p.2.2.2.2.2.2.2.2.2.2.2.2.2.2.2.2.2.2.2.2.2.2.2.2.2 a b c d i (eZ p) size) (((W.all p.2.2.2.2.2.2.2.2.2.2.2.2.2.2.1 fun x _=>cS x 1 (wrap .i64 (eZ p+1))).and (W.all p.2.2.2.2.2.2.2.2.2.2.2.2.2.2.2.1 fun x _=>cS x 0 (eZ p))).mono fun n ⟨h,h'⟩ m i hi=>by
   have g:i<p.2.2.2.2.2.2.2.2.2.2.2.2.2.2.2.1.length:=by omega
   rw [Qq,hJ (by omega),bg hi,bg g]
   simp only [Y,Z,h _ (Å hi),h' _ (Å g),bA,fU,kL hi,kL g];exact dZ (by grind)) (fun n m=>by rw [Qq,hL (by omega)];rfl)
  have q2:=kc ad (p:=fun r=>gB r size/\r.2.1=p.1) (r:=false) (b:=(p.1,p.2.1,p.2.2.1,p.2.2.2.1,p.2.2.2.2.1,p.2.2.2.2.2.1,p.2.2.2.2.2.2.1,p.2.2.2.2.2.2.2.1,p.2.2.2.2.2.2.2.2.1,p.2.2.2.2.2.2.2.2.2.1,p.2.2.2.2.2.2.2.2.2.2.1,p.2.2.2.2.2.2.2.2.2.2.2.1,p.2.2.2.2.2.2.2.2.2.2.2.2.1,p.2.2.2.2.2.2.2.2.2.2.2.2.2.1,p.2.2.2.2.2.2.2.2.2.2.2.2.2.2.1,p.2.2.2.2.2.2.2.2.2.2.2.2.2.2.2.1,p.2.2.2.2.2.2.2.2.2.2.2.2.2.2.2.2.1,p.2.2.2.2.2.2.2.2.2.2.2.2.2.2.2.2.2.1,p.2.2.2.2.2.2.2.2.2.2.2.2.2.2.2.2.2.2.1,p.2.2.2.2.2.2.2.2.2.2.2.2.2.2.2.2.2.2.2.1,p.2.2.2.2.2.2.2.2.2.2.2.2.2.2.2.2.2.2.2.2.1,p.2.2.2.2.2.2.2.2.2.2.2.2.2.2.2.2.2.2.2.2.2.1,p.2.2.2.2.2.2.2.2.2.2.2.2.2.2.2.2.2.2.2.2.2.2.1,p.2.2.2.2.2.2.2.2.2.2.2.2.2.2.2.2.2.2.2.2.2.2.2.1,p.2.2.2.2.2.2.2.2.2.2.2.2.2.2.2.2.2.2.2.2.2.2.2.2.1,p.2.2.2.2.2.2.2.2.2.2.2.2.2.2.2.2.2.2.2.2.2.2.2.2.2,a,b,c,d,eZ p)) (L:=fun n m i=>vf n m p.1 p.2.1 p.2.2.1 p.2.2.2.1 p.2.2.2.2.1 p.2.2.2.2.2.1 p.2.2.2.2.2.2.1 p.2.2.2.2.2.2.2.1 p.2.2.2.2.2.2.2.2.1 p.2.2.2.2.2.2.2.2.2.1 p.2.2.2.2.2.2.2.2.2.2.1 p.2.2.2.2.2.2.2.2.2.2.2.1 p.2.2.2.2.2.2.2.2.2.2.2.2.1 p.2.2.2.2.2.2.2.2.2.2.2.2.2.1 p.2.2.2.2.2.2.2.2.2.2.2.2.2.2.1 p.2.2.2.2.2.2.2.2.2.2.2.2.2.2.2.1 p.2.2.2.2.2.2.2.2.2.2.2.2.2.2.2.2.1 p.2.2.2.2.2.2.2.2.2.2.2.2.2.2.2.2.2.1 p.2.2.2.2.2.2.2.2.2.2.2.2.2.2.2.2.2.2.1 p.2.2.2.2.2.2.2.2.2.2.2.2.2.2.2.2.2.2.2.1 p.2.2.2.2.2.2.2.2.2.2.2.2.2.2.2.2.2.2.2.2.1 p.2.2.2.2.2.2.2.2.2.2.2.2.2.2.2.2.2.2.2.2.2.1 p.2.2.2.2.2.2.2.2.2.2.2.2.2.2.2.2.2.2.2.2.2.2.1 p.2.2.2.2.2.2.2.2.2.2.2.2.2.2.2.2.2.2.2.2.2.2.2.1 p.2.2.2.2.2.2.2.2.2.2.2.2.2.2.2.2.2.2.2.2.2.2.2.2.1 p.2.2.2.2.2.2.2.2.2.2.2.2.2.2.2.2.2.2.2.2.2.2.2.2.2 a b c d i size (eZ p)) ((W.all p.2.2.2.2.2.2.2.2.2.2.2.2.2.2.2.2.2.2.2.2.2.2.2.2.2 fun r hm=>TL r size (hr r hm)).mono fun n h m i hi=>by
   rw [Qr,bu hi,bg hi];simp only [Y,Z,h _ (Å hi),bA,cu,fU];exact dZ (by grind)) (fun n m=>by rw [Qr,ck];rfl)
  refine(k8.and (q1.and q2)).nm fun n ⟨⟨⟨⟨e2,e3⟩,e4,e7⟩,⟨e8,e9⟩,f,j⟩,e5,e6⟩=> ?_
  rw [Qp,e8,e4];simp only [Z,show(ox p.2.2.2.1 p.2.2.2.2.1 p.2.2.2.2.2.1).1=eZ p from rfl,show ve n n p.1 p.2.1 p.2.2.1 p.2.2.2.1 p.2.2.2.2.1 p.2.2.2.2.2.1 p.2.2.2.2.2.2.1 p.2.2.2.2.2.2.2.1 p.2.2.2.2.2.2.2.2.1 p.2.2.2.2.2.2.2.2.2.1 p.2.2.2.2.2.2.2.2.2.2.1 p.2.2.2.2.2.2.2.2.2.2.2.1 p.2.2.2.2.2.2.2.2.2.2.2.2.1 p.2.2.2.2.2.2.2.2.2.2.2.2.2.1 p.2.2.2.2.2.2.2.2.2.2.2.2.2.2.1 p.2.2.2.2.2.2.2.2.2.2.2.2.2.2.2.1 p.2.2.2.2.2.2.2.2.2.2.2.2.2.2.2.2.1 p.2.2.2.2.2.2.2.2.2.2.2.2.2.2.2.2.2.1 p.2.2.2.2.2.2.2.2.2.2.2.2.2.2.2.2.2.2.1 p.2.2.2.2.2.2.2.2.2.2.2.2.2.2.2.2.2.2.2.1 p.2.2.2.2.2.2.2.2.2.2.2.2.2.2.2.2.2.2.2.2.1 p.2.2.2.2.2.2.2.2.2.2.2.2.2.2.2.2.2.2.2.2.2.1 p.2.2.2.2.2.2.2.2.2.2.2.2.2.2.2.2.2.2.2.2.2.2.1 p.2.2.2.2.2.2.2.2.2.2.2.2.2.2.2.2.2.2.2.2.2.2.2.1 p.2.2.2.2.2.2.2.2.2.2.2.2.2.2.2.2.2.2.2.2.2.2.2.2.1 p.2.2.2.2.2.2.2.2.2.2.2.2.2.2.2.2.2.2.2.2.2.2.2.2.2 a b c d 0 (eZ p) size=_ from e5,cz,show vf n n p.1 p.2.1 p.2.2.1 p.2.2.2.1 p.2.2.2.2.1 p.2.2.2.2.2.1 p.2.2.2.2.2.2.1 p.2.2.2.2.2.2.2.1 p.2.2.2.2.2.2.2.2.1 p.2.2.2.2.2.2.2.2.2.1 p.2.2.2.2.2.2.2.2.2.2.1 p.2.2.2.2.2.2.2.2.2.2.2.1 p.2.2.2.2.2.2.2.2.2.2.2.2.1 p.2.2.2.2.2.2.2.2.2.2.2.2.2.1 p.2.2.2.2.2.2.2.2.2.2.2.2.2.2.1 p.2.2.2.2.2.2.2.2.2.2.2.2.2.2.2.1 p.2.2.2.2.2.2.2.2.2.2.2.2.2.2.2.2.1 p.2.2.2.2.2.2.2.2.2.2.2.2.2.2.2.2.2.1 p.2.2.2.2.2.2.2.2.2.2.2.2.2.2.2.2.2.2.1 p.2.2.2.2.2.2.2.2.2.2.2.2.2.2.2.2.2.2.2.1 p.2.2.2.2.2.2.2.2.2.2.2.2.2.2.2.2.2.2.2.2.1 p.2.2.2.2.2.2.2.2.2.2.2.2.2.2.2.2.2.2.2.2.2.1 p.2.2.2.2.2.2.2.2.2.2.2.2.2.2.2.2.2.2.2.2.2.2.1 p.2.2.2.2.2.2.2.2.2.2.2.2.2.2.2.2.2.2.2.2.2.2.2.1 p.2.2.2.2.2.2.2.2.2.2.2.2.2.2.2.2.2.2.2.2.2.2.2.2.1 p.2.2.2.2.2.2.2.2.2.2.2.2.2.2.2.2.2.2.2.2.2.2.2.2.2 a b c d 0 size (eZ p)=_ from e6,e2,e3,e7,e9,f,j];have q3:(∀i,i<p.2.2.2.2.2.2.2.2.2.2.2.2.2.2.1.length->At p.2.2.2.2.2.2.2.2.2.2.2.2.2.2.1 (fun x=>In x 1 (wrap .i64 (eZ p+1))) i/\At p.2.2.2.2.2.2.2.2.2.2.2.2.2.2.2.1 (fun x=>In x 0 (eZ p)) i)↔(∀x∈p.2.2.2.2.2.2.2.2.2.2.2.2.2.2.1,In x 1 (wrap .i64 (eZ p+1)))/\(∀x∈p.2.2.2.2.2.2.2.2.2.2.2.2.2.2.2.1,In x 0 (eZ p)):=by
   rw [<-qd,<-qd,show p.2.2.2.2.2.2.2.2.2.2.2.2.2.2.2.1.length=p.2.2.2.2.2.2.2.2.2.2.2.2.2.2.1.length by omega]
   grind
  rw [q3];clear e2 e3 e4 e5 e6 e7 e8 e9 f j k2 k3 k4 k7 k8 q1 q2 q3 hr hl h6 h7 k s ak t u z ad h;simp only [bL,cu,bA,kK,gX,um,Z];refine cG ?_
  unfold ns JD JE;grind
 .refine k8.nm fun n ⟨⟨⟨e2,e3⟩,e4,e7⟩,⟨e8,e9⟩,f,j⟩=> ?_
  rw [Qp,e8];have hf: ¬ns a b c d p size:=by unfold ns;grind
  rw [az hf];simp only [Z,e2,e9,f,cu,bA,bL];have: ∀x:Option Bool,cond (bo (¬(p.2.2.2.2.2.2.2.2.2.2.2.2.2.2.1.length:Int)=size)) (some true) (some (bo (¬(p.2.2.2.2.2.2.2.2.2.2.2.2.2.2.2.1.length:Int)=size)))=some true:=fun _=>by
   rw [kK,aB (by grind)]
  simp only [this none];cases bo (¬In size 1 5)<;>cases bo (¬In p.1 0 (wrap .i64 (size-1)))<;>try rfl
  all_goals simp only [ez]
  all_goals simp only [Z,Y,ğ]
theorem aBm (a:Int) (s:O):W fun n=>Gc n a s=some (bo (In a 0 300/\s.length<=1500)):=by
 refine(cS a 0 300).nm fun n e=> ?_
 rw [apJ,e]
 ((try simp only [bL,Z,cV]);(try simp only [dC]);(repeat' split);all_goals first|rfl|(refine cG ?_;grind)|(refine dD ?_;grind)|(refine dE ?_;grind)|(exfalso;grind))
theorem aBn (a:Int) (s:O):W fun n=>Hk n a s=some (bo (In a 0 300/\s.length<=1500)):=by
 refine(oW a).nm fun n e=> ?_
 rw [atF,e]
 ((try simp only [bL,Z,cV]);(try simp only [dC]);(repeat' split);all_goals first|rfl|(refine cG ?_;grind)|(refine dD ?_;grind)|(refine dE ?_;grind)|(exfalso;grind))
def sR (l:ah):Prop:=l.length=3/\ ∀x∈l,In x 0 100000
theorem TN (l:ah) (d:l.length<=1048576):W fun n=>zm n l=some (bo (sR l)):=by
 have k:=kc d (p:=fun x=>In x 0 100000) (r:=false) (b:=l) (L:=fun n m i=>vd n m i l) ((W.all l fun x _=>cS x 0 100000).mono fun n h m i hi=>by
  rw [Qo,bu hi,bg hi];simp only [Y,Z,h _ (Å hi),bA];exact dZ (by simp)) (fun n m=>by rw [Qo,ck];rfl)
 refine k.nm fun n e=> ?_
 rw [apK,show vd n n 0 l=_ from e];simp only [Z,cz];unfold sR
 ((try simp only [bp]);(try simp only [dC]);(repeat' split);all_goals first|rfl|(refine cG ?_;grind)|(refine dD ?_;grind)|(refine dE ?_;grind)|(exfalso;grind))
theorem TP (l:ah) (b:l.length<=1048576):W fun n=>qC n l 3 0 100000=some (bo (sR l)):=by
 refine(JC l 3 0 100000 b).mono fun n e=> ?_
 rw [e];refine cG ?_
 unfold sR;grind
def mg (h:af) (j:af) (k:ae) (m:ae) (d:Int) (f:cj) (q:bn) (s:Int) (t:O) (u:ah) (g:ah) (b:ae):Prop:=
 ja h j k m/\In d 1 5/\(f.length:Int)=d/\q.length<=40/\(In s 0 300/\t.length<=1500)/\sR u/\sR g/\b.length<=300/\
 (∀i,i<f.length->At f (fun p=>p.1=(i:Int)/\ns h j k m p d) i)/\(∀r∈q,gB r d)/\ ∀c∈b,dP c.1 c.2.1 c.2.2
def wL (h:af) (i:af) (j:ae) (k:ae) (_:Int) (f:cj) (g:bn) (_:Int) (_:O) (m:ah) (d:ah) (b:ae):Prop:=
 iM h i j k/\(f.length<=1048576/\ ∀p∈f,JF p)/\(g.length<=1048576/\ ∀r∈g,BN r)/\m.length<=1048576/\d.length<=1048576/\(b.length<=1048576/\ ∀c∈b,c.2.2.length<=1048576)
theorem aBo (j:af) (k:af) (s:ae) (t:ae) (g:Int) (u:cj) (z:bn) (x7:Int) (x8:O) (x9:ah) (d:ah) (f:ae) (h:wL j k s t g u z x7 x8 x9 d f):W fun n=>FW n j k s t g u z x7 x8 x9 d f=some (bo (mg j k s t g u z x7 x8 x9 d f)):=by
 obtain⟨hp,⟨h5,ak⟩,⟨h6,al⟩,h9,ao,aq,aj⟩:=h;have k8:=(((Jz j k s t hp).and (cS g 1 5)).and ((aBm x7 x8).and ((TN x9 h9).and (TN d ao))));by_cases hg:(u.length:Int)=g
 .have q1:=jD h5 (q:=fun i=>At u (fun p=>p.1=(i:Int)/\ns j k s t p g) i) (r:=false) (b:=(j,k,s,t,g,u,z,x7,x8,x9,d,f)) (L:=fun n m i=>uO n m j k s t g u z x7 x8 x9 d f i) ((W.all u fun p hm=>aBl j k s t p g hp (ak p hm)).mono fun n h m i hi=>by
   rw [PU,hJ (by omega),bg hi]
   simp only [Y,Z,h _ (Å hi),cu,bA,fU,kL hi];exact dZ (by grind)) (fun n m=>by rw [PU,hL (by omega)];rfl)
  have q2:=kc h6 (p:=fun r=>gB r g) (r:=false) (b:=(j,k,s,t,g,u,z,x7,x8,x9,d,f)) (L:=fun n m i=>uP n m j k s t g u z x7 x8 x9 d f i) ((W.all z fun r hm=>TL r g (al r hm)).mono fun n h m i hi=>by
   rw [PV,bu hi,bg hi];simp only [Y,Z,h _ (Å hi),bA];exact dZ (by simp)) (fun n m=>by rw [PV,ck];rfl)
  have q3:=kc aq (p:=fun c=>dP c.1 c.2.1 c.2.2) (r:=false) (b:=()) (L:=fun n m i=>uQ n m j k s t g u z x7 x8 x9 d f i) ((W.all f fun c hm=>wJ c.1 c.2.1 c.2.2 (aj c hm)).mono fun n h m i hi=>by
   rw [PX,bu hi,bg hi];simp only [Y,Z,h _ (Å hi),bA];exact dZ (by simp)) (fun n m=>by rw [PX,ck];rfl)
  refine(k8.and (q1.and (q2.and q3))).nm fun n ⟨⟨⟨e1,e2⟩,e3,e4,e5⟩,e6,e7,e8⟩=> ?_
  rw [PT,e1];simp only [Z,e2,e3,e4,e5,show uO n n j k s t g u z x7 x8 x9 d f 0=_ from e6,cz,show uP n n j k s t g u z x7 x8 x9 d f 0=_ from e7,show uQ n n j k s t g u z x7 x8 x9 d f 0=_ from e8];clear e1 e2 e3 e4 e5 e6 e7 e8 k8 q1 q2 q3 h5 ak h6 al h9 ao aq aj hp;simp only [cu,bL,bA,kK,gX,cT,um,Z];refine cG ?_
  unfold mg;grind
 .refine k8.nm fun n ⟨⟨e1,e2⟩,e3,e4,e5⟩=> ?_
  have hf: ¬mg j k s t g u z x7 x8 x9 d f:=by unfold mg;grind
  rw [PT,e1,az hf];simp only [Z,e2,cu,aB hg,Y,ğ]
theorem aBp (s:af) (t:af) (u:ae) (z:ae) (g:Int) (j:cj) (k:bn) (x7:Int) (x8:O) (x9:ah) (f:ah) (d:ae) (h:wL s t u z g j k x7 x8 x9 f d):W fun n=>GY n s t u z g j k x7 x8 x9 f d=some (bo (mg s t u z g j k x7 x8 x9 f d)):=by
 obtain⟨hp,⟨h5,ak⟩,⟨h6,al⟩,h9,ao,aq,ar⟩:=h;have k0:W fun n=> ∀r∈k,HG n s t u z g j k x7 x8 x9 f d r.1 r.2.1 r.2.2.1 r.2.2.2.1 r.2.2.2.2.1 r.2.2.2.2.2.1 r.2.2.2.2.2.2.1 r.2.2.2.2.2.2.2.1 r.2.2.2.2.2.2.2.2.1 r.2.2.2.2.2.2.2.2.2=some (bo (¬gB r g),s,t,u,z,g,j,k,x7,x8,x9,f,d):=W.all _ fun r hm=>(TM r g (al r hm)).nm fun n e1=>by
  rw [auU,e1];simp only [Z,bA]
 have h':=kd h6 (p:=fun r=> ¬gB r g) (r:=fun i=>(i,s,t,u,z,g,j,k,x7,x8,x9,f,d)) (b:=(s,t,u,z,g,j,k,x7,x8,x9,f,d)) (L:=fun n m i=>Av n m s t u z g j k x7 x8 x9 f d i k (k.length:Int)) (k0.mono fun n h m i hi=>by
   rw [Ry,bu hi,bg hi];simp only [Y,Z,h _ (Å hi)]) (fun n m=>by rw [Ry,ck];rfl)
 have k1:W fun n=>HF n s t u z g j k x7 x8 x9 f d k=some (bo (∃r∈k,¬gB r g),s,t,u,z,g,j,k,x7,x8,x9,f,d):=W.succ (h'.nm fun n h=>by
   rw [auS,auT];refine rL (l:=k) (p:=fun r=> ¬gB r g) (c:=(s,t,u,z,g,j,k,x7,x8,x9,f,d)) ?_
   rcases h with⟨h,i,e⟩|⟨h,e⟩
   .exact .inl ⟨h,i,by rw [e];rfl⟩
   .exact .inr ⟨h,by rw [e];rfl⟩)
 have au:W fun n=> ∀c∈d,HI n c.1 c.2.1 c.2.2=some (bo (¬dP c.1 c.2.1 c.2.2)):=W.all _ fun c hm=>(BL c.1 c.2.1 c.2.2).nm fun n e1=>by
  rw [auX,e1];simp only [Z,bA]
 have av:=kd aq (p:=fun c=> ¬dP c.1 c.2.1 c.2.2) (r:=fun i=>i) (b:=()) (L:=fun n m i=>Aw n m i d (d.length:Int)) (au.mono fun n h m i hi=>by
   rw [Rz,bu hi,bg hi];simp only [Y,Z,h _ (Å hi)]) (fun n m=>by rw [Rz,ck];rfl)
 have k2:W fun n=>HH n d=some (bo (∃c∈d,¬dP c.1 c.2.1 c.2.2)):=W.succ (av.nm fun n h=>by
   rw [auV,auW];refine DT (l:=d) (p:=fun c=> ¬dP c.1 c.2.1 c.2.2) ?_
   rcases h with⟨h,i,e⟩|⟨h,e⟩
   .exact .inl ⟨h,i,by rw [e];rfl⟩
   .exact .inr ⟨h,by rw [e];rfl⟩)
 have q1:=jD h5 (q:=fun i=>At j (fun p=>p.1=(i:Int)/\ns s t u z p g) i) (r:=false) (b:=(s,t,u,z,g,j,k,x7,x8,x9,f,d)) (L:=fun n m i=>vH n m s t u z g j k x7 x8 x9 f d i j (j.length:Int)) ((W.all j fun p hm=>aBk s t u z p g hp (ak p hm)).mono fun n h m i hi=>by
   rw [QV,bu hi,bg hi];simp only [Y,Z,h _ (Å hi),cu,bA,fU,kL hi];exact dZ (by grind)) (fun n m=>by rw [QV,ck];rfl)
 have k8:=(((wI s t u z hp).and (di g 1 5)).and ((aBn x7 x8).and ((TP x9 h9).and (TP f ao))));refine(k8.and (q1.and (k1.and k2))).nm fun n ⟨⟨⟨e1,e2⟩,e3,e4,e5⟩,e6,e7,e8⟩=> ?_
 rw [asD,e1];simp only [Z,e2,e3,show vH n n s t u z g j k x7 x8 x9 f d 0 j j.length=_ from e6,cz,e4,e5,e7,e8];clear e1 e2 e3 e4 e5 e6 e7 e8 k8 q1 k0 au k1 k2 h' av h5 ak h6 al h9 ao aq ar hp;simp only [cu,bL,bA,kK,gX,um,Z];refine cG ?_
 unfold mg;grind
theorem TQ {k:Nat} (hk:k<=9223372036854775807):W fun n=>zC n (k:Int)=some (Ò k):=by
 refine W.succ ((W.ge (k+1)).mono fun n f=> ?_)
 rw [aqL];by_cases b:k=0
 .subst b
  rw [hJ (by omega),ė (by omega)]
  rfl
 .have h:=Yl (L:=fun m x acc=>zD n m x acc) (fun m k acc g d=>by
   rw [QC,hJ (by omega),Ó d];rfl) (fun m acc=>by rw [QC];rfl) k n [] (by omega) (by simp [mx];omega)
  rw [hL (by omega)]
  simp only [ez,h,Z,ay,Ø,dd,if_neg b]
theorem TR (n:Nat) (x:Int):kX (n+1) x=some (Lib.itoa x):=by kernel_rfl
def lh:O->O:=fun l=>(l.reverse.dropWhile (·==48)).reverse
theorem TS (l:O) (b:UInt8):lh (l++[b])=if b=48 then lh l else l++[b]:=by
 unfold lh;simp only [ď,ĕ,ę,ê,Ć,â];by_cases h:b=48
 .simp [h]
 .simp [h]
theorem JG (l:O):(lh l).length<=l.length:=by
 unfold lh;simp only [List.length_reverse];have:=(List.dropWhile_sublist (l:=l.reverse) (p:=(·==48))).length_le
 simpa using this
theorem TT (l:O) (b:UInt8) (h:l.length+1<=1000000):bF (l++[b]) (wrap .i64 (((l++[b]).length:Int)-(1:Int)))=some b:=by
 have e:wrap .i64 (((l++[b]).length:Int)-(1:Int))=(l.length:Int):=by
  simp only [Ê,Á,Ë];rw [À];omega
 rw [e];unfold bF nth;rw [hJ (by omega)]
 simp
theorem TU (l:O) (b:UInt8) (h:l.length+1<=1000000):wrap .i64 (((l++[b]).length:Int)-(1:Int))=(l.length:Int):=by
 simp only [Ê,Á,Ë];rw [À];omega
theorem TW {l:O} (h:l≠ []): ∃l' b,l=l'++[b]:=⟨l.dropLast,l.getLast h,(ñ h).symm⟩
theorem TX (n:Nat): ∀(k:Nat) (l:O) (m:Nat),l.length=k->k<m->k<=1000000->vT n m l 48=some (.inl (lh l))
 |0,l,m,d,hm,_=>by
  obtain⟨m,rfl⟩: ∃m',m=m'+1:=⟨m-1,by omega⟩
  obtain rfl:=Ý.1 d;rw [BB];rfl
 |k+1,l,m,d,hm,hk=>by
  obtain⟨m,rfl⟩: ∃m',m=m'+1:=⟨m-1,by omega⟩
  obtain⟨l',b,rfl⟩:=TW (l:=l) (by intro e;rw [e]at d;cases d)
  simp only [Ê,Á,Ë]at d;rw [BB,hJ (by simp only [Ê,Á,Ë];omega),TT l' b (by omega),TU l' b (by omega),TS]
  simp only [Y,Z];by_cases f:b=48
  .subst f
   rw [show ((((48:UInt8)).toNat:Int)==(((48:UInt8)).toNat:Int))=true from rfl,hJ (by simp only [Ê,Á,Ë];omega)]
   simp only [Y,if_true];have e:(l'++[(48:UInt8)]).take ((Æ (l'.length:Int))-0)=l':=by simp
   rw [e];exact TX n k l' m (by omega) (by omega) (by omega)
  .have e:(((b).toNat:Int)==(((48:UInt8)).toNat:Int))=false:=by
    rw [beq_eq_false_iff_ne];intro h;exact f (Õ.1 (by omega))
   rw [e,if_neg f];rfl
theorem TY (n:Nat) (a:Int) (q:O): ∀(k:Nat) (l:O) (m:Nat),l.length=k->k<m->k<=1000000->(∃b∈l,b≠48)->zB n m l a q=some (.inl (a,lh l,q))
 |0,l,m,d,hm,_,j=>by
  obtain rfl:=Ý.1 d;obtain⟨b,f, -⟩:=j;cases f
 |k+1,l,m,d,hm,hk,j=>by
  obtain⟨m,rfl⟩: ∃m',m=m'+1:=⟨m-1,by omega⟩
  obtain⟨l',b,rfl⟩:=TW (l:=l) (by intro e;rw [e]at d;cases d)
  simp only [Ê,Á,Ë]at d;rw [aqJ,TT l' b (by omega),TU l' b (by omega),TS]
  simp only [Z];by_cases f:b=48
  .subst f
   rw [show ((((48:UInt8)).toNat:Int)==(48:Int))=true from rfl,hJ (by simp only [Ê,Á,Ë];omega)]
   simp only [Y,if_true];have e:(l'++[(48:UInt8)]).take ((Æ (l'.length:Int))-0)=l':=by simp
   rw [e];refine TY n a q k l' m (by omega) (by omega) (by omega) ?_
   obtain⟨c,g,i⟩:=j;rcases å.1 g with g|g
   .exact⟨c,g,i⟩
   .exact absurd (by simpa using g) i
  .have e:(((b).toNat:Int)==(48:Int))=false:=by
    rw [beq_eq_false_iff_ne];intro h;exact f (Õ.1 (show b.toNat=48 by omega))
   rw [e,if_neg f];rfl
theorem sS {k:Nat} (h: ¬k<10):Ò k=Ò (k/10)++[É (48+k%10)]:=by
 rw [Ò,dif_neg h]
theorem seven {k:Nat} (h:1000000<=k) (p:k<2000000): ∃l,Ò k=49::l/\l.length=6/\(k≠1000000-> ∃b∈l,b≠48):=by
 refine⟨[É (48+k/10/10/10/10/10%10),É (48+k/10/10/10/10%10),É (48+k/10/10/10%10),É (48+k/10/10%10),É (48+k/10%10),É (48+k%10)], ?_,rfl,fun g=> ?_⟩
 .rw [sS (k:=k) (by omega),sS (k:=k/10) (by omega),sS (k:=k/10/10) (by omega),sS (k:=k/10/10/10) (by omega),sS (k:=k/10/10/10/10) (by omega),sS (k:=k/10/10/10/10/10) (by omega)]
  have e:k/10/10/10/10/10/10=1:=by omega
  rw [e,ė (by omega)]
  rfl
 .apply ù
  intro i;have d: ∀x,x<10->É (48+x)=48->x=0:=fun x q he=>by
   have:=congrArg UInt8.toNat he;simp only [UInt8.toNat_ofNat',UInt8.reduceToNat]at this;omega
  have f: ∀b∈[É (48+k/10/10/10/10/10%10),É (48+k/10/10/10/10%10),É (48+k/10/10/10%10),É (48+k/10/10%10),É (48+k/10%10),É (48+k%10)],b=48:=fun b j=>ù fun h=>i ⟨b,j,h⟩
  simp only [è,ě,or_false,forall_eq_or_imp,forall_eq]at f;obtain⟨z5,z4,z3,z2,m,z0⟩:=f;have r:=d _ (by omega) z5
  have s:=d _ (by omega) z4
  have t:=d _ (by omega) z3
  have u:=d _ (by omega) z2
  have z:=d _ (by omega) m
  have y0:=d _ (by omega) z0
  omega
def lj (k:Nat):O:=if k%1000000=0 then Ò (k/1000000)else(Ò (k/1000000)++[46])++lh ((Ò (1000000+k%1000000)).drop 1)
def lk (a:Int):O:=if a< -9000000000000\/9000000000000<a then []else if a<0 then 45::lj a.natAbs else lj a.natAbs
theorem aBq (x lo hi:Int):W fun n=>cq n x lo hi=some (decide (lo<=x)&&decide (x<=hi)):=by
 refine W.succ (W.of fun n=> ?_)
 rw [wz];cases decide (lo<=x)<;>rfl
theorem aBr (x lo hi:Int):W fun n=>cR n x lo hi=some (decide (lo<=x)&&decide (x<=hi)):=by
 refine W.succ (W.of fun n=> ?_)
 rw [oP];cases decide (lo<=x)<;>rfl
theorem TZ (x:Int):W fun n=>iH n x=some (decide (-9000000000000<=x)&&decide (x<=9000000000000)):=
 W.succ ((aBq x _ _).mono fun n h=>by rw [Qe,h];rfl)
theorem Ua (x:Int):W fun n=>ic n x=some (decide (-9000000000000<=x)&&decide (x<=9000000000000)):=
 W.succ ((aBr x _ _).mono fun n h=>by rw [Jc,h];rfl)
theorem JH {x:Int} (b: -9000000000000<=x):W fun n=>vv n x=some (x.natAbs:Int):=by
 refine W.succ (W.of fun n=> ?_)
 rw [aqK];by_cases h:x<0
 .rw [hJ h]
  have hw:wrap .i64 ((0:Int)-x)=(x.natAbs:Int):=by rw [À];omega
  rw [hw];rfl
 .rw [hL h]
  have hw:x=(x.natAbs:Int):=by omega
  simp only [ez];rw [<-hw]
theorem BO {k:Nat} (h:k<=9223372036854775807):(Ò k).length<=21:=by
 have:=Lib.itoa_length_le (k:Int) (by omega) (by omega)
 rwa [DM]at this
theorem BP {k:Nat} (h:k<=9223372036854775807):wrap .i64 ((k:Nat):Int)=(k:Int):=by rw [À];omega
theorem aBs {l:O} (b:l.length=6):W fun n=>sA n l ([48]:O)=some (lh l):=by
 have d:W fun n=>vR n l 48=some (lh l):=by
  refine W.succ ((W.ge 8).mono fun n f=> ?_)
  rw [Rs];have:=TX n 6 l n b (by omega) (by omega)
  have e:É (Æ (((48:UInt8)).toNat:Int))=48:=rfl;rw [e,this];rfl
 refine W.succ (d.mono fun n h=> ?_)
 rw [avN];have e:(l==([]:O))=false:=by
  cases l with
  |nil=>cases b
  |cons _ _=>rfl
 have g1:(([48]:O)==([]:O))=false:=rfl;have g2:((([48]:O).length:Int)==(1:Int))=true:=rfl;have g3:bF ([48]:O) (0:Int)=some 48:=rfl;have g4:(decide (((48:UInt8).toNat:Int)<(128:Int)))=true:=by decide
 have g5:É (Æ (((48:UInt8)).toNat:Int))=48:=rfl;rw [e,g1];simp only [ez,Z];rw [g2];simp only [Y];rw [g3];simp only [Z];rw [g4];simp only [Y];rw [g5,h];rfl
theorem oX {n:Nat} (h:n<=1000):á n mx=true:=Ó (by unfold mx;omega)
theorem aBt {l:O}:((49::l:O).drop 1).take ((49::l:O).length-1)=l:=by simp
theorem aBu (a:Int):W fun n=>Gn n a=some (lk a):=by
 by_cases d: -9000000000000<=a/\a<=9000000000000
 .have hk:a.natAbs<=9000000000000:=by omega
  refine W.succ (((((TZ a).and (JH d.1)).and ((TQ (k:=a.natAbs/1000000) (by omega)).and (TQ (k:=1000000+a.natAbs%1000000) (by omega)))).and (W.ge 8)).mono fun n ⟨⟨⟨f,h⟩,i,j⟩,q⟩=> ?_)
  rw [QB,f,hJ d.1,hJ d.2];simp only [Z,ģ,Â,ez,h];have d1:Ï (a.natAbs:Int) (1000000:Int)=((a.natAbs/1000000:Nat):Int):=rfl;have d2:é (a.natAbs:Int) (1000000:Int)=((a.natAbs%1000000:Nat):Int):=rfl;have d3:((1000000:Int)+((a.natAbs%1000000:Nat):Int))=((1000000+a.natAbs%1000000:Nat):Int):=by omega
  rw [d1,d2,BP (by omega),d3,BP (by omega),i]
  simp only [Z,j];have r:=BO (k:=a.natAbs/1000000) (by omega)
  have m:lk a=if a<0 then 45::lj a.natAbs else lj a.natAbs:=by unfold lk;rw [if_neg (by omega)]
  rw [m];unfold lj;by_cases g:a.natAbs%1000000=0
  .rw [hL (by omega),if_pos g]
   simp only [ez];by_cases b:a<0
   .rw [hJ b,if_pos b,oX (by omega)];rfl
   .rw [hL b,if_neg b];rfl
  .rw [hJ (by omega),if_neg g]
   obtain⟨l,s1,s2,p⟩:=seven (k:=1000000+a.natAbs%1000000) (by omega) (by omega)
   rw [s1];simp only [Y];rw [hJ (by simp only [Á];omega),aBt,TY n a _ 6 l n s2 (by omega) (by omega) (p (by omega))]
   simp only [Y,Z,ay];have s:=JG l;rw [oX (by omega),oX (by simp only [Ê,Á,Ë];omega)]
   simp only [Y,Đ,ã];by_cases b:a<0
   .rw [hJ b,if_pos b,oX (by simp only [Ê,Á,Ë];omega)];rfl
   .rw [hL b,if_neg b];rfl
 .refine W.succ ((TZ a).mono fun n f=> ?_)
  rw [QB,f];have e:(decide (-9000000000000<=a)&&decide (a<=9000000000000))=false:=by
   simp only [ć,decide_eq_false_iff_not];omega
  rw [e,lk,if_pos (by omega)]
  rfl
theorem Ub (n:Nat) (k:Nat) (hk:k<=9000000000000) (pre:O) (hp:pre.length<=1)
  (i:kX n ((k/1000000:Nat):Int)=some (Ò (k/1000000))) (j:kX n ((1000000+k%1000000:Nat):Int)=some (Ò (1000000+k%1000000)))
  (d:sA n ((Ò (1000000+k%1000000)).drop 1) [48]=some (lh ((Ò (1000000+k%1000000)).drop 1))):
  ((kX n ((wrap .i64 (Ï (k:Int) (1000000:Int))):Int)).bind fun(b:O)=>cond (á (pre.length+b.length) mx) (cond (decide ((0:Int)<(é (k:Int) (1000000:Int)))) ((kX n ((wrap .i64 ((1000000:Int)+(é (k:Int) (1000000:Int)))):Int)).bind fun(f:O)=>cond (decide ((0:Int)<=(1:Int)/\(1:Int)<=(f.length:Int))) ((sA n (((f.drop 1).take (f.length-1)):O) ([48]:O)).bind fun(g:O)=>cond (á (1+g.length) mx) (cond (á ((pre++b).length+(([46]:O)++g).length) mx) (some (((pre++b)++(([46]:O)++g)):O)) (none)) (none)) (none)) (some ((pre++b):O))) (none))=some (pre++lj k):=by
 have d1:Ï (k:Int) (1000000:Int)=((k/1000000:Nat):Int):=rfl;have d2:é (k:Int) (1000000:Int)=((k%1000000:Nat):Int):=rfl;have d3:((1000000:Int)+((k%1000000:Nat):Int))=((1000000+k%1000000:Nat):Int):=by omega
 have p:=BO (k:=k/1000000) (by omega)
 rw [d1,d2,BP (by omega),d3,BP (by omega),i]
 simp only [Z,j];rw [oX (by omega)]
 unfold lj;by_cases h:k%1000000=0
 .rw [hL (by omega),if_pos h];rfl
 .rw [hJ (by omega),if_neg h]
  obtain⟨l,s1,s2,q⟩:=seven (k:=1000000+k%1000000) (by omega) (by omega)
  rw [s1]at d |-;simp only [Đ,ã]at d |-;simp only [Y];have m:l.take ((49::l:O).length-1)=l:=by simp
  rw [hJ (by simp only [Á];omega),m,d]
  simp only [Y,Z];have r:=JG l;rw [oX (by omega),oX (by simp only [Ê,Á,Ë];omega)]
  simp only [Y,î]
theorem aBv (a:Int):W fun n=>HM n a=some (lk a):=by
 by_cases b: -9000000000000<=a/\a<=9000000000000
 .have hk:a.natAbs<=9000000000000:=by omega
  obtain⟨l,s1,s2,q⟩:=seven (k:=1000000+a.natAbs%1000000) (by omega) (by omega)
  have j:=aBs (l:=(Ò (1000000+a.natAbs%1000000)).drop 1) (by rw [s1];exact s2)
  refine W.succ ((((Ua a).and j).and (W.ge 8)).mono fun n ⟨⟨f,g⟩,r⟩=> ?_)
  obtain⟨n,rfl⟩: ∃m,n=m+1:=⟨n-1,by omega⟩
  have h:kX (n+1) ((a.natAbs/1000000:Nat):Int)=some (Ò (a.natAbs/1000000)):=by rw [TR,DM]
  have i:kX (n+1) ((1000000+a.natAbs%1000000:Nat):Int)=some (Ò (1000000+a.natAbs%1000000)):=by rw [TR,DM]
  rw [RC,f,hJ b.1,hJ b.2];simp only [Z,ģ,Â,ez];have p:lk a=if a<0 then 45::lj a.natAbs else lj a.natAbs:=by unfold lk;rw [if_neg (by omega)]
  rw [p];by_cases d:a<0
  .rw [hJ d,if_pos d]
   have hw:wrap .i64 (0-a)=(a.natAbs:Int):=by rw [À];omega
   rw [hw];exact Ub (n+1) a.natAbs hk [45] (by simp) h i g
  .rw [hL d,if_neg d]
   obtain⟨k,rfl⟩: ∃k:Nat,a=k:=⟨a.natAbs,by omega⟩
   simp only [Int.natAbs_natCast]at h i g hk |-;exact Ub (n+1) k hk [] (by simp) h i g
 .refine W.succ ((Ua a).mono fun n f=> ?_)
  rw [RC,f];have e:(decide (-9000000000000<=a)&&decide (a<=9000000000000))=false:=by
   simp only [ć,decide_eq_false_iff_not];omega
  rw [e,lk,if_pos (by omega)]
  rfl
def sU (b d:Int) (f:O):O:=if b=1 then lk d else f
theorem aBw (b d:Int) (g:O):W fun n=>gg n b d g=some (sU b d g):=by
 refine W.succ ((aBu d).mono fun n h=> ?_)
 rw [aqI,h,sU];by_cases f:b=1
 .subst f;rfl
 .have e:(b==(1:Int))=false:=by simpa using f
  rw [e,if_neg f];rfl
theorem aBx (b d:Int) (g:O):W fun n=>gO n b d g=some (sU b d g):=by
 refine W.succ ((aBv d).mono fun n h=> ?_)
 rw [avM,h,sU];by_cases f:b=1
 .subst f;rfl
 .have e:(b==(1:Int))=false:=by simpa using f
  rw [e,if_neg f];rfl
theorem wu (x:Int):wrap .u64 x=x%18446744073709551616:=by rw [ĭ]
theorem BQ (x:Nat) (h:x<18446744073709551616):(ô 64 (x:Int)).toNat=x:=by
 rw [BitVec.toNat_ofInt];omega
theorem sV (m k:Nat):((m/k:Nat):Int)=Ï (m:Int) (k:Int):=Int.ofNat_tdiv m k
theorem aBy (a b n:Int):(a-b%n)%n=(a-b)%n:=by simp
theorem aBz (x:Nat) (h:x<18446744073709551616):fF .and .u64 (x:Int) (4294967295:Int)=((x%4294967296:Nat):Int):=by
 show wrap .u64 (((ô 64 (x:Int) &&&ô 64 ((4294967295:Nat):Int)).toNat:Nat):Int)=_;rw [BitVec.toNat_and,BQ x h,BQ _ (by omega),show(4294967295:Nat)=2^32-1 from rfl,Nat.and_two_pow_sub_one_eq_mod,wu]
 omega
theorem aBA (a b:Nat) (d:a<1048576) (f:b<17592186044416):fF .or .u64 ((a*17592186044416:Nat):Int) (b:Int)=((a*17592186044416+b:Nat):Int):=by
 show wrap .u64 (((ô 64 ((a*17592186044416:Nat):Int) |||ô 64 (b:Int)).toNat:Nat):Int)=_
 rw [BitVec.toNat_or,BQ _ (by omega),BQ b (by omega)]
 have e:a*17592186044416=a <<<44:=by rw [Nat.shiftLeft_eq]
 rw [e,<-Nat.shiftLeft_add_eq_or_of_lt (by omega) a,<-e,wu]
 omega
theorem aBB (n m:Nat) (a b c d e f g q:Int) (i:0<=q/\q<4294967296):wh n (m+1) a b c d 0 e f g q=some (.inl (a,b,c,q,d,0,e,f)):=by
 have h: ¬wrap .u64 (wrap .u64 (4294967296*g)+e)<wrap .u64 (q*0):=by rw [ħ,wu,wu,wu];omega
 rw [axA,hL (show ¬(4294967296:Int)<=q by omega),hL h]
 rfl
theorem aBC (n m:Nat) (a b c d e f g q:Int) (i:0<=q/\q<4294967296):wi n (m+1) a b c d e f g q 0=some (.inl (a,b,q,c,d,e)):=by
 have h: ¬wrap .u64 (wrap .u64 (4294967296*g)+c)<wrap .u64 (q*0):=by rw [ħ,wu,wu,wu];omega
 rw [axB,hL (show ¬(4294967296:Int)<=q by omega),hL h]
 rfl
theorem aBD (n:Nat):Ik (n+2) 1000000=some 44:=by rw [axC];kernel_rfl
theorem aBE (N V Q R d f u x:Nat) (i:N*4096=u*4294967296+V) (j:4096000000*Q+R=u) (k:x=R*4294967296+V) (b:4096000000*d+f=x) (m:f<4096000000):Q*4294967296+d=N/1000000:=by
 obtain⟨T,g⟩: ∃T,T=Q*4294967296+d:=⟨_,rfl⟩
 have h:N*4096=T*4096000000+f:=by
  rw [i,<-j,g,ċ,Ĥ,<-k,<-b,ċ,õ 4096000000 Q,õ 4096000000 d,Ē,Ē,õ 4096000000 4294967296,Ĥ]
 rw [<-g];clear g i j k b;omega
theorem aBF (h l u v x:Nat) (hu:u=h*17592186044416+l/1048576) (i:v=l%1048576*17592186044416) (f:x=u%4096000000*4294967296+v/4294967296) (j:h<1000000) (k:l<18446744073709551616):
  wrap .u64 (wrap .u64 (((u/4096000000:Nat):Int)*4294967296)+((x/4096000000:Nat):Int))=(((h*18446744073709551616+l)/1000000:Nat):Int):=by
 have d:u/4096000000<4294967296:=by omega
 have b:x/4096000000<4294967296:=by omega
 have g:(h*18446744073709551616+l)*4096=u*4294967296+v/4294967296:=by omega
 rw [<-aBE _ _ _ _ _ _ u x g (ë u 4096000000) f (ë x 4096000000) (Ġ x (by omega))]
 generalize u/4096000000=Q at d |-
 generalize x/4096000000=m at b |-
 rw [wu,wu];omega
theorem np:wrap .u64 (44:Int)=44:=by decide +kernel
theorem Uc:wrap .u64 ((64:Int)-44)=20:=by decide +kernel
theorem m44:(2:Int)^(min (Æ (44:Int)) (Ę .u64))=17592186044416:=by decide +kernel
theorem m20:(2:Int)^(min (Æ (20:Int)) (Ę .u64))=1048576:=by decide +kernel
theorem m32:(2:Int)^(min (Æ (32:Int)) (Ę .u64))=4294967296:=by decide +kernel
theorem wy:wrap .u64 ((1000000:Int)*17592186044416)=17592186044416000000:=by decide +kernel
theorem wy1:ġ (17592186044416000000:Int) 4294967296=4096000000:=by decide +kernel
theorem wy0:fF .and .u64 (17592186044416000000:Int) 4294967295=0:=by decide +kernel
theorem Ud:((4096000000:Int) !=0)=true:=by decide
theorem Ue (m k:Nat) (hk:0<k):ġ (m:Int) (k:Int)=((m/k:Nat):Int):=by rw [Int.fdiv_eq_ediv_of_nonneg _ (by omega)];exact(Int.natCast_ediv m k).symm
theorem aBJ (h l:Nat) (b:h<1000000) (d:l<18446744073709551616):W fun n=> ∃r,Ij n (h:Int) (l:Int) 1000000=some ((((h*18446744073709551616+l)/1000000:Nat):Int),r):=by
 refine W.succ ((W.ge 2).mono fun n z=> ?_)
 obtain⟨n,rfl⟩: ∃m,n=m+2:=⟨n-2,by omega⟩
 rw [awZ];by_cases f:h=0
 .subst f
  refine⟨é (l:Int) 1000000, ?_⟩
  have e:wrap .u64 (Ï (l:Int) 1000000)=((l/1000000:Nat):Int):=by
   rw [show (Ï (l:Int) (1000000:Int))=((l/1000000:Nat):Int)from(sV l 1000000).symm,wu];omega
  rw [e,Nat.zero_mul,Ħ,show((1000000:Int)==(0:Int))=false from by decide,hL (by omega),show(((0:Nat):Int)==(0:Int))=true from by decide,show((1000000:Int) !=(0:Int))=true from by decide]
  rw [ez,ez,Y,Y,Y]
 .have g:((h:Int)==(0:Int))=false:=by simp;omega
  rw [show ((1000000:Int)==(0:Int))=false from by decide,hL (by omega),g,aBD,ez,ez,ez,Z]
  rw [hJ (show (0:Int)<=wrap .u64 44 by rw [np];omega),hJ (show (0:Int)<=wrap .u64 (64-wrap .u64 44) by rw [np,Uc];omega),Y,Y,Y,Y]
  rw [np,Uc,m44,m20,m32,wy,wy1,wy0,Ud,Y];obtain⟨u,hu⟩: ∃u:Nat,u=h*17592186044416+l/1048576:=⟨_,rfl⟩
  obtain⟨v,i⟩: ∃v:Nat,v=l%1048576*17592186044416:=⟨_,rfl⟩
  have j:wrap .u64 ((l:Int)*17592186044416)=(v:Int):=by rw [wu];omega
  have k:wrap .u64 ((h:Int)*17592186044416)=((h*17592186044416:Nat):Int):=by rw [wu];omega
  have p:ġ (l:Int) 1048576=((l/1048576:Nat):Int):=Ue l 1048576 (by omega)
  have q:ġ (v:Int) 4294967296=((v/4294967296:Nat):Int):=Ue v 4294967296 (by omega)
  rw [j,k,p,q,aBz v (by omega),aBA h _ (by omega) (by omega),<-hu]
  have q1:wrap .u64 (Ï (u:Int) 4096000000)=((u/4096000000:Nat):Int):=by
   rw [show (Ï (u:Int) (4096000000:Int))=((u/4096000000:Nat):Int)from(sV u 4096000000).symm,wu];omega
  rw [q1,aBB _ _ _ _ _ _ _ _ _ _ (by omega),Z,cP,Ud,Y]
  obtain⟨x,s⟩: ∃x:Nat,x=u%4096000000*4294967296+v/4294967296:=⟨_,rfl⟩
  have t:wrap .u64 (wrap .u64 (wrap .u64 ((u:Int)*4294967296)+((v/4294967296:Nat):Int))-wrap .u64 (((u/4096000000:Nat):Int)*17592186044416000000))=(x:Int):=by
   rw [wu,wu,wu,wu,Int.emod_add_emod,Int.emod_sub_emod,aBy,show((u:Int)*4294967296+((v/4294967296:Nat):Int)-((u/4096000000:Nat):Int)*17592186044416000000)=(x:Int) by omega]
   exact Int.emod_eq_of_lt (by omega) (by omega)
  rw [t];have q2:wrap .u64 (Ï (x:Int) 4096000000)=((x/4096000000:Nat):Int):=by
   rw [show (Ï (x:Int) (4096000000:Int))=((x/4096000000:Nat):Int)from(sV x 4096000000).symm,wu];omega
  rw [q2,aBC _ _ _ _ _ _ _ _ _ _ (by omega),Z,cP,hJ (by omega),Y,aBF h l u v x hu i s b d]
  exact⟨_,rfl⟩
theorem wM (x:Int):W fun n=>na n x=some (lQ x):=by
 refine(iK x).nm fun n e=> ?_
 rw [aqP,e];by_cases h:aW x
 .rw [aB h,ux h];rfl
 .rw [az h,uy h];rfl
theorem aBK (a b:Int):W fun n=>Gp n a b=some (fX a b):=by
 refine(((iK a).and (iK b)).and (wM (a+b))).nm fun n ⟨⟨h,g⟩,i⟩=> ?_
 rw [aqO,h];by_cases d:aW a
 .by_cases f:aW b
  .have hw:wrap .i64 (a+b)=a+b:=by have:=eF d;have:=eF f;rw [À];omega
   simp only [Z,g,aB d,aB f,hw,i,Â,ez,fX,aB (ð d f),Y]
  .simp only [Z,g,aB d,az f,fX,az (fun k:aW a/\aW b=>f k.2),Â,Ã,ez,Y]
 .simp only [Z,az d,fX,az (fun k:aW a/\aW b=>d k.1),Ã,ez,Y]
theorem aBL (a b:Int):W fun n=>Gq n a b=some (jb a b):=by
 refine(((iK a).and (iK b)).and (wM (a-b))).nm fun n ⟨⟨h,g⟩,i⟩=> ?_
 rw [aqR,h];by_cases d:aW a
 .by_cases f:aW b
  .have hw:wrap .i64 (a-b)=a-b:=by have:=eF d;have:=eF f;rw [À];omega
   simp only [Z,g,aB d,aB f,hw,i,Â,ez,jb,aB (ð d f),Y]
  .simp only [Z,g,aB d,az f,jb,az (fun k:aW a/\aW b=>f k.2),Â,Ã,ez,Y]
 .simp only [Z,az d,jb,az (fun k:aW a/\aW b=>d k.1),Ã,ez,Y]
theorem Uf (a b:Int):W fun n=>Gs n a b=some (hU a b):=by
 refine(((iK a).and (iK b)).and (wM (Ï (a*1000000) b))).nm fun n ⟨⟨i,h⟩,j⟩=> ?_
 rw [aqS,i];by_cases d:aW a
 .by_cases f:aW b
  .by_cases g:b=0
   .have z0:(b==(0:Int))=true:=by simpa using g
    simp only [Z,h,aB d,aB f,hU,az (fun k:aW a/\aW b/\b≠0=>k.2.2 g),Â,ez,Y,z0]
   .have hw:wrap .i64 (a*1000000)=a*1000000:=by have:=eF d;rw [À];omega
    have m:wrap .i64 (Ï (a*1000000) b)=Ï (a*1000000) b:=by
     have q:=eF d;have r:=ú (a*1000000) b;rw [À];omega
    have p:(b==(0:Int))=false:=by simpa using g
    have z2:(b !=(0:Int))=true:=by simpa using g
    simp only [Z,h,aB d,aB f,hw,m,j,p,z2,Â,ez,hU,aB (ð d (ð f g)),Y]
  .simp only [Z,h,aB d,az f,hU,az (fun k:aW a/\aW b/\b≠0=>f k.2.1),Â,Ã,ez,Y]
 .simp only [Z,az d,hU,az (fun k:aW a/\aW b/\b≠0=>d k.1),Ã,ez,Y]
theorem JI (x:Int):W fun n=>qB n x=some (lQ x):=by
 refine(iL x).nm fun n e=> ?_
 rw [Rr,e];by_cases h:aW x
 .rw [aB h,ux h];rfl
 .rw [az h,uy h];rfl
theorem Ug (a b:Int):W fun n=>AG n a b=some (fX a b):=by
 refine(((iL a).and (iL b)).and (JI (a+b))).nm fun n ⟨⟨h,g⟩,i⟩=> ?_
 rw [avL,h];by_cases d:aW a
 .by_cases f:aW b
  .have hw:wrap .i64 (a+b)=a+b:=by have:=eF d;have:=eF f;rw [À];omega
   simp only [Z,g,aB d,aB f,hw,i,Â,ez,fX,aB (ð d f),Y]
  .simp only [Z,g,aB d,az f,fX,az (fun k:aW a/\aW b=>f k.2),Â,Ã,ez,Y]
 .simp only [Z,az d,fX,az (fun k:aW a/\aW b=>d k.1),Ã,ez,Y]
theorem aBM (a b:Int):W fun n=>Ig n a b=some (jb a b):=by
 refine(((iL a).and (iL b)).and (JI (a-b))).nm fun n ⟨⟨h,g⟩,i⟩=> ?_
 rw [awX,h];by_cases d:aW a
 .by_cases f:aW b
  .have hw:wrap .i64 (a-b)=a-b:=by have:=eF d;have:=eF f;rw [À];omega
   simp only [Z,g,aB d,aB f,hw,i,Â,ez,jb,aB (ð d f),Y]
  .simp only [Z,g,aB d,az f,jb,az (fun k:aW a/\aW b=>f k.2),Â,Ã,ez,Y]
 .simp only [Z,az d,jb,az (fun k:aW a/\aW b=>d k.1),Ã,ez,Y]
theorem aBN (a b:Int):W fun n=>Il n a b=some (hU a b):=by
 refine(((iL a).and (iL b)).and (JI (Ï (a*1000000) b))).nm fun n ⟨⟨i,h⟩,j⟩=> ?_
 rw [axD,i];by_cases d:aW a
 .by_cases f:aW b
  .by_cases g:b=0
   .have z0:(b==(0:Int))=true:=by simpa using g
    simp only [Z,h,aB d,aB f,hU,az (fun k:aW a/\aW b/\b≠0=>k.2.2 g),Â,ez,Y,z0]
   .have hw:wrap .i64 (a*1000000)=a*1000000:=by have:=eF d;rw [À];omega
    have m:wrap .i64 (Ï (a*1000000) b)=Ï (a*1000000) b:=by
     have q:=eF d;have r:=ú (a*1000000) b;rw [À];omega
    have p:(b==(0:Int))=false:=by simpa using g
    have z2:(b !=(0:Int))=true:=by simpa using g
    simp only [Z,h,aB d,aB f,hw,m,j,p,z2,Â,ez,hU,aB (ð d (ð f g)),Y]
  .simp only [Z,h,aB d,az f,hU,az (fun k:aW a/\aW b/\b≠0=>f k.2.1),Â,Ã,ez,Y]
 .simp only [Z,az d,hU,az (fun k:aW a/\aW b/\b≠0=>d k.1),Ã,ez,Y]
theorem aBO {a:Int} (h:aW a):W fun n=>GK n a=some (jc a):=by
 refine(W.ge 0).nm fun n _=> ?_
 have d:=eF h;have f:=ï a 1000000;have g:=ye a;have b:wrap .i64 (Ï a 1000000)=Ï a 1000000:=by rw [À];omega
 have hw:wrap .i64 (Ï a 1000000*1000000)=jc a:=by rw [À];unfold jc;omega
 rw [arT,b,hw]
theorem Uh {a:Int} (h:aW a):W fun n=>AJ n a=some (jc a):=by
 refine(W.ge 0).nm fun n _=> ?_
 have b:=eF h;have d:=ye a;have hw:wrap .i64 (a-é a 1000000)=jc a:=by rw [À];unfold jc;omega
 rw [avY,hw]
def aH (v:V):O:=sU v.1 v.2.1 v.2.2
theorem aBP (a:Int):(lk a).length<=60:=by
 have key: ∀k:Nat,k<=9000000000000->(lj k).length<=59:=by
  intro k hk;have d:=BO (k:=k/1000000) (by omega)
  have f:=BO (k:=1000000+k%1000000) (by omega)
  have b:=JG ((Ò (1000000+k%1000000)).drop 1);unfold lj;split
  .omega
  .simp only [Ê,Á,Ë,Ĝ]at b |-
   omega
 unfold lk;split
 .simp
 split
 .have:=key a.natAbs (by omega);simp only [Á];omega
 .have:=key a.natAbs (by omega);omega
theorem kx {v:V} (h:bR v):(aH v).length<=300:=by
 unfold aH sU;split
 .have:=aBP v.2.1;omega
 .exact h.2.1
def dm (v:V):O:=(aH v).take 300
theorem JJ: ∀a b:O,Í a b=0↔a=b
 | [],[]=>by simp [Í]
 | [],_::_=>by simp [Í]
 |_::_,[]=>by simp [Í]
 |a::x,b::y=>by
  rw [Í];by_cases h:a<b
  .simp [h];rintro rfl;exact absurd h (Ğ _)
  .rw [if_neg h]
   by_cases k:b<a
   .simp [k];rintro rfl;exact absurd k (Ğ _)
   .rw [if_neg k,JJ x y]
    have:a=b:=Ė (Ă.1 k) (Ă.1 h);simp [this]
noncomputable def fP (a b:V):Int:=if a.1=2\/b.1=2 then Í (aH a) (aH b)else if aJ a<aJ b then -1 else if aJ b<aJ a then 1 else 0
theorem JK (b:Bool):W fun n=>sk n b=some (cond b 1 0):=W.succ (W.of fun n=>by rw [arS];cases b<;>rfl)
theorem jK (x:Int):W fun n=>gh n x=some (nV x):=W.succ (W.of fun n=>aqQ n x)
theorem mh (x:Int):W fun n=>iI n x=some (nV x):=W.succ (W.of fun n=>RB n x)
theorem qM (s:O):W fun n=>nn n s=some (tV s):=W.succ (W.of fun n=>avW n s)
theorem BR (b:Bool):W fun n=>sj n b=some (bV b):=by
 refine((JK b).and (jK (cond b 1000000 0))).nm fun n ⟨d,f⟩=> ?_
 rw [arR,d];have hw:ā .i64 ((1000000:Int)*cond b 1 0)=cond b 1000000 0:=by cases b<;>decide
 simp only [Z,hw,f];rfl
theorem wN (b:Bool):W fun n=>qF n b=some (bV b):=by
 refine((mh 1000000).and (mh 0)).nm fun n ⟨d,f⟩=> ?_
 rw [awU,d,f];cases b<;>rfl
theorem jl {v:V} (h:v.2.2.length<=300):W fun n=>gM n v.1 v.2.1 v.2.2=some (aJ v):=by
 refine(Tn v.2.2 h).nm fun n e=> ?_
 rw [aqN,e];unfold aJ;cases v.1==1<;>cases v.1==3<;>cases v.1==2<;>rfl
theorem iN (v:V):W fun n=>gg n v.1 v.2.1 v.2.2=some (aH v):=aBw v.1 v.2.1 v.2.2
theorem JL (v:V):W fun n=>vu n v.1 v.2.1 v.2.2=some (gK v):=W.succ (W.of fun n=>by
 rw [aqG];unfold gK;cases v.1==1<;>cases v.1==3<;>cases v.1==2<;>rfl)
theorem nu {v:V} (h:v.2.2.length<=300):W fun n=>kW n v.1 v.2.1 v.2.2=some (aJ v):=by
 refine(Tk v.2.2 h).nm fun n e=> ?_
 rw [avK,e];unfold aJ;cases v.1==1<;>cases v.1==3<;>cases v.1==2<;>rfl
theorem mj (v:V):W fun n=>gO n v.1 v.2.1 v.2.2=some (aH v):=aBx v.1 v.2.1 v.2.2
theorem JM (v:V):W fun n=>vW n v.1 v.2.1 v.2.2=some (gK v):=W.succ (W.of fun n=>by
 rw [avH];unfold gK;cases v.1==1<;>cases v.1==3<;>cases v.1==2<;>rfl)
theorem aBQ (s:O):s.take (300-0)=s.take 300:=rfl
theorem JN (s:O):W fun n=>vA n s=some (mU s):=by
 refine(Ts (s.take 300) (by simp;omega)).nm fun n e=> ?_
 rw [aqW,mU];by_cases h:300<s.length
 .rw [hJ (by omega),hJ (by omega),aBQ,e]
  simp only [Y,Z];cases (fx (s.take 300)).2<;>rfl
 .have b:s.take 300=s:=Ù (by omega)
  rw [b]at e |-;rw [hL (by omega),e]
  simp only [ez,Z];cases (fx s).2<;>rfl
theorem aBR (s:O):(cond (decide ((300:Int)<(s.length:Int))) (300:Int) (s.length:Int))=((min 300 s.length:Nat):Int):=by
 by_cases h:300<s.length
 .rw [hJ (by omega)];simp only [Y];omega
 .rw [hL (by omega)];simp only [ez];omega
theorem Ui (s:O):W fun n=>oM n s=some (s.take 300):=W.succ (W.of fun n=>by
 rw [avO,aBR,hJ (by omega)]
 simp only [Y,Ì,Ā];congr 1
 rw [List.take_eq_take_iff];omega)
theorem JO (s:O):W fun n=>wa n s=some (mU s):=by
 refine(((Ui s).and (Tq (s.take 300) (by simp;omega))).and (qM (s.take 300))).nm fun n ⟨⟨b,d⟩,f⟩=> ?_
 rw [avZ,b];simp only [Z,d,f,mU];cases (fx (s.take 300)).2<;>rfl
theorem BS (v:V):W fun n=>sb n v.1 v.2.1 v.2.2=some (dm v):=by
 refine(iN v).nm fun n e=> ?_
 rw [aqT,e];simp only [Z,dm];by_cases h:300<(aH v).length
 .rw [hJ (by omega),hJ (by omega)];rfl
 .rw [hL (by omega),Ù (by omega)];rfl
theorem aBS {a b:V} (p:bR a) (q:bR b):W fun n=>GQ n a.1 a.2.1 a.2.2 b.1 b.2.1 b.2.2=some (fP a b):=by
 refine(((((iN a).and (iN b)).and (jl p.2.1)).and (jl q.2.1)).and ((JK (decide (aJ b<aJ a))).and (JK (!(Ö (aH a) (aH b)||aH a==aH b))))).nm fun n ⟨⟨⟨⟨r,s⟩,t⟩,u⟩,e5,e6⟩=> ?_
 rw [arZ,r];simp only [Z,s];have hB:=DN (aH a) (aH b);have j:=BK (aH a) (aH b);have m:=JJ (aH a) (aH b);have f:(cond (Ö (aH a) (aH b)) (some (-1:Int)) ((sk n (!(Ö (aH a) (aH b)||aH a==aH b))).bind fun y=>some y))=some (Í (aH a) (aH b)):=by
  rw [e6];cases d:Ö (aH a) (aH b)
  .have h1: ¬Í (aH a) (aH b)<0:=by rw [j,d];simp
   by_cases he:aH a=aH b
   .have:Í (aH a) (aH b)=0:=m.2 he
    simp [he]
    rw [he]at this;exact this.symm
   .have g:Í (aH a) (aH b)≠0:=fun k=>he (m.1 k)
    have:Í (aH a) (aH b)=1:=by omega
    have z:(aH a==aH b)=false:=by simpa using he
    simp [z,this]
  .have h1:=j.2 d
   have:Í (aH a) (aH b)= -1:=by omega
   simp [this]
 unfold fP;by_cases g:a.1=2
 .have z:(a.1 !=(2:Int))=false:=by simpa using g
  rw [z,if_pos (.inl g),<-f];rfl
 .have z:(a.1 !=(2:Int))=true:=by simpa using g
  rw [z];by_cases i:b.1=2
  .have z:(b.1 !=(2:Int))=false:=by simpa using i
   rw [z,if_pos (.inr i),<-f];rfl
  .have z:(b.1 !=(2:Int))=true:=by simpa using i
   rw [z,if_neg (by rintro(k|k)<;>contradiction)]
   simp only [Y,Z,t,u,e5];by_cases d:aJ a<aJ b
   .rw [if_pos d,hJ d];rfl
   .rw [if_neg d,hL d]
    by_cases h:aJ b<aJ a
    .rw [if_pos h,hJ h];rfl
    .rw [if_neg h,hL h];rfl
theorem aBT {a b:V} (i:bR a) (j:bR b):W fun n=>Im n a.1 a.2.1 a.2.2 b.1 b.2.1 b.2.2=some (fP a b):=by
 refine(((((mj a).and (mj b)).and (nu i.2.1)).and (nu j.2.1)).and (W.ge 1)).nm fun n ⟨⟨⟨⟨p,q⟩,r⟩,s⟩,t⟩=> ?_
 obtain⟨n,rfl⟩: ∃m,n=m+1:=⟨n-1,by omega⟩
 rw [axE,p,r];simp only [Z,q,s,JA];unfold fP;by_cases g:a.1=2
 .have z:(a.1==(2:Int))=true:=by simpa using g
  rw [z,if_pos (.inl g)];rfl
 .have z:(a.1==(2:Int))=false:=by simpa using g
  rw [z];by_cases h:b.1=2
  .have z:(b.1==(2:Int))=true:=by simpa using h
   rw [z,if_pos (.inr h)];rfl
  .have z:(b.1==(2:Int))=false:=by simpa using h
   rw [z,if_neg (by rintro(k|k)<;>contradiction)]
   simp only [ez,Z];by_cases d:aJ a<aJ b
   .rw [if_pos d,hJ d];rfl
   .rw [if_neg d,hL d]
    by_cases f:aJ b<aJ a
    .rw [if_pos f,hJ f];rfl
    .rw [if_neg f,hL f];rfl
theorem BT {α f:Type} {l:List α} (t:l.length<=1048576) {p:α->Bool} {r:Int->f} {b:f} {L:Nat->Nat->Int->Option f}
  (g:W fun n=> ∀m (i:Nat),(h:i<l.length)->L n (m+1) (i:Int)=cond (p l[i]) (some (r i)) (L n m (wrap .i64 ((i:Int)+(1:Int)))))
  (he: ∀n m,L n (m+1) (l.length:Int)=some b):W fun n=>L n n 0=some (match l.findIdx? p with|some i=>r i|none=>b):=by
 have:=jZ (len:=l.length) (L:=fun n m i (_:Unit)=>L n m (i:Int)) (fun i _=> ∀j (hj:j<l.length),j<i->p l[j]=false) (fun x=>x=match l.findIdx? p with|some i=>r i|none=>b) ?_ ?_
 .exact this.mono fun n h=>by
   obtain⟨x,k,q⟩:=h () (fun j _ hj=>absurd hj (Nat.not_lt_zero _))
   rw [<-q];exact k
 .refine g.mono fun n h m i _ hi hinv=> ?_
  have h:=h m i hi;cases d:p l[i]with
  |true=>
   left
   rw [d]at h;have e:l.findIdx? p=some i:=by
    rw [à]
    exact⟨hi,d,fun j hj=>by rw [hinv j (by omega) hj];simp⟩
   exact⟨_,h,by rw [e]⟩
  |false=>
   right
   rw [d]at h;refine⟨(),by rw [<-dy hi (by omega)];exact h,fun j hj s=> ?_⟩
   by_cases e:j=i
   .subst e;exact d
   .exact hinv j hj (by omega)
 .refine W.of fun n m _ hinv=>⟨_,he n m, ?_⟩
  have e:l.findIdx? p=none:=by
   rw [û]
   intro x g;obtain⟨j,hj,rfl⟩:=List.mem_iff_getElem.1 g;exact hinv j hj hj
  rw [e]
def nv (nm:Int) (key:O) (c:VC):Bool:=cond (c.1==nm) (c.2.1==key) false
def fB (cs:List VC) (nm:Int) (key:O):Option Nat:=cs.findIdx? (nv nm key)
def wO:Option Nat->Int
 |some i=>i
 |none=> -1
def fC (cs:List VC) (nm:Int) (key:O):V:=match fB cs nm key with
 |some i=>match cs[i]? with|some c=>c.2.2|none=>v0
 |none=>v0
def nw (cs:List VC) (nm:Int) (key:O):List VC:=match fB cs nm key with
 |some i=>cs.take i++cs.drop (i+1)
 |none=>cs
noncomputable def gk (cs:List VC) (nm:Int) (key:O):Nat:=match cs.findIdx? (fun c=>bo (¬ea c.1 c.2.1 nm key))with|some i=>i|none=>cs.length
noncomputable def ll (cs:List VC) (nm:Int) (key:O) (v:V):Option (List VC):=match fB cs nm key with
 |some i=>match cs[i]? with|some c=>some (cs.set i (c.1,c.2.1,v))|none=>none
 |none=>if 40<=cs.length then none else some (cs.take (gk cs nm key)++((nm,key,v)::cs.drop (gk cs nm key)))
theorem oY {cs:List VC} {nm:Int} {key:O} {i:Nat} (h:fB cs nm key=some i):i<cs.length/\ ∀h:i<cs.length,cs[i].1=nm/\cs[i].2.1=key:=by
 unfold fB at h;obtain⟨d,b, -⟩:=à.1 h
 refine⟨d,fun _=> ?_⟩
 unfold nv at b;cases e:cs[i].1==nm with
 |true=>rw [e]at b;exact⟨by simpa using e,by simpa using b⟩
 |false=>rw [e]at b;cases b
theorem JP (cs:List VC) (nm:Int) (key:O):gk cs nm key<=cs.length:=by
 unfold gk;split
 .rename_i i h
  obtain⟨b, -, -⟩:=à.1 h
  omega
 .exact Î _
theorem JQ (vs:ae) (cs:ai) (nr er nm:Int) (key:O) (d:cs.length<=1048576):W fun n=>nc n vs cs nr er nm key=some (wO (fB cs nm key)):=by
 have k:=BT d (p:=nv nm key) (r:=Sum.inr) (b:=.inl ()) (L:=fun n m i=>sd n m vs cs nr er i key nm) (W.of fun n m i hi=>by
  rw [QD,bu hi,bg hi];simp only [Y,Z,nv];cases cs[i].1==nm<;>cases cs[i].2.1==key<;>rfl) (fun n m=>by rw [QD,ck];rfl)
 refine k.nm fun n e=> ?_
 rw [aqV,show sd n n vs cs nr er 0 key nm=_ from e];unfold fB;cases cs.findIdx? (nv nm key)<;>rfl
theorem JR (vs:ae) (cs:ai) (nr er nm:Int) (key:O) (d:cs.length<=1048576):W fun n=>nk n vs cs nr er nm key=some (wO (fB cs nm key)):=by
 have k:=BT d (p:=nv nm key) (r:=fun i=>.inr (i,nm,key)) (b:=.inl (nm,key)) (L:=fun n m i=>vX n m nm key i cs cs.length) ((W.ge 1).mono fun n f m i hi=>by
  obtain⟨n,rfl⟩: ∃k,n=k+1:=⟨n-1,by omega⟩
  rw [RE,bu hi,bg hi];simp only [Y,Z,avR,nv];cases cs[i].1==nm<;>cases cs[i].2.1==key<;>rfl) (fun n m=>by rw [RE,ck];rfl)
 refine(k.nm (q:=fun n=>HO n nm key cs=some (wO (fB cs nm key),nm,key)) fun n e=> ?_).nm fun n e=> ?_
 .rw [avQ,show vX n n nm key 0 cs cs.length=_ from e]
  unfold fB;cases cs.findIdx? (nv nm key)<;>rfl
 .rw [avP,e];rfl
theorem Uj (vs:ae) (cs:ai) (nr er nm:Int) (key:O) (b:cs.length<=1048576):W fun n=>zE n vs cs nr er nm key=some (fC cs nm key):=by
 refine(JQ vs cs nr er nm key b).nm fun n e=> ?_
 rw [aqU,e];unfold fC;cases h:fB cs nm key with
 |none=>rfl
 |some i=>
  have hi:=(oY h).1;simp only [wO,Z];rw [hL (by omega),bg hi,Ô hi];rfl
theorem Uk (vs:ae) (cs:ai) (nr er nm:Int) (key:O) (b:cs.length<=1048576):W fun n=>AI n vs cs nr er nm key=some (fC cs nm key):=by
 refine(JR vs cs nr er nm key b).nm fun n e=> ?_
 rw [avU,e];unfold fC;cases h:fB cs nm key with
 |none=>rfl
 |some i=>
  have hi:=(oY h).1;simp only [wO,Z];rw [hL (by omega),bg hi,Ô hi];rfl
theorem cA {k:Nat} (h:k<=4000000):á k aD=true:=Ó (by unfold aD;omega)
theorem qN (vs:ae) (cs:ai) (nr er:Int) (b:vs.length<=1048576) (d:cs.length<=1048576):W fun n=>oH n vs cs nr er=some (vs,cs,nr,er):=W.succ (W.of fun n=>by
 rw [aqD,cA (by omega),cA (by omega)];rfl)
theorem Ul (n:Nat) (vs:ae):Az (n+1) vs=cond (á (Þ vs) aD) (some vs) none:=by kernel_rfl
theorem aBU (n:Nat) (cs:ai):Pf (n+1) cs=cond (á (Þ cs) aD) (some cs) none:=by kernel_rfl
theorem aBV (n:Nat) (cs:ai) (i j:Int):Ph (n+1) cs i j=cond (decide (0<=i/\i<=j/\j<=(Þ cs:Int))) (some (cs.take i.toNat++cs.drop j.toNat)) none:=by kernel_rfl
theorem aBW (n:Nat) (cs:ai) (i:Int) (v:ai):AH (n+1) cs i v=cond (decide (0<=i/\i<=(Þ cs:Int))&&á (Þ cs+Þ v) aD) (some (cs.take i.toNat++(v++cs.drop i.toNat))) none:=by kernel_rfl
theorem sW (vs:ae) (cs:ai) (nr er:Int) (b:vs.length<=1048576) (d:cs.length<=1048576):W fun n=>ni n vs cs nr er=some (vs,cs,nr,er):=by
 refine(W.ge 1).nm fun n f=> ?_
 obtain⟨n,rfl⟩: ∃k,n=k+1:=⟨n-1,by omega⟩
 rw [avC,Ul,cA (by omega)]
 simp only [Y,Z,aBU];rw [cA (by omega)];rfl
theorem jL {i:Nat} (h:i<=1048576):wrap .i64 ((i:Int)+1)=((i+1:Nat):Int):=by rw [À];omega
theorem BU {α:Type} (l:List α) (k:Nat):(l.drop k).take (l.length-k)=l.drop k:=Ù (by simp)
theorem aBX (vs:ae) (cs:ai) (nr er nm:Int) (key:O) (j:vs.length<=1048576) (d:cs.length<=1048576):W fun n=>Gu n vs cs nr er nm key=some (vs,nw cs nm key,nr,er):=by
 refine((qN vs cs nr er j d).and (JQ vs cs nr er nm key d)).nm fun n ⟨f,g⟩=> ?_
 cases h:fB cs nm key with
 |none=>
  have b:nc n vs cs nr er nm key=some (-1:Int):=by rw [g,h];rfl
  rw [QH,f];simp only [Z,b];rw [hL (by omega),nw,h];rfl
 |some i=>
  have b:nc n vs cs nr er nm key=some (i:Int):=by rw [g,h];rfl
  rw [QH,f];simp only [Z,b];have hi:=(oY h).1;have k:wrap .i64 ((i:Int)+1)=((i+1:Nat):Int):=jL (by omega)
  simp only [k];rw [hJ (by omega),hJ (by omega),hJ (by omega)]
  simp only [Y,Ì,Ā,ã,BU,nw,h];rw [cA (by simp;omega),cA (by simp;omega)];rfl
theorem aBY (vs:ae) (cs:ai) (nr er nm:Int) (key:O) (j:vs.length<=1048576) (d:cs.length<=1048576):W fun n=>HR n vs cs nr er nm key=some (vs,nw cs nm key,nr,er):=by
 refine(((sW vs cs nr er j d).and (JR vs cs nr er nm key d)).and (W.ge 1)).nm fun n ⟨⟨f,g⟩,p⟩=> ?_
 obtain⟨n,rfl⟩: ∃k,n=k+1:=⟨n-1,by omega⟩
 cases h:fB cs nm key with
 |none=>
  have b:nk (n+1) vs cs nr er nm key=some (-1:Int):=by rw [g,h];rfl
  rw [RG,f];simp only [Z,b];rw [hL (by omega),nw,h];rfl
 |some i=>
  have b:nk (n+1) vs cs nr er nm key=some (i:Int):=by rw [g,h];rfl
  rw [RG,f];simp only [Z,b];have hi:=(oY h).1;have m:wrap .i64 ((i:Int)+1)=((i+1:Nat):Int):=jL (by omega)
  simp only [m];rw [hJ (by omega),aBV,hJ (by omega)]
  simp only [Y,Ì,Z];rw [nw,h]
theorem aBZ (a:Int) (s:O) (p q:Int) (r:O) (b:Int) (t:O) (d f:Int) (g:O):W fun n=> ∃v,vV n a s p q r b t d f g=some v/\(0<v↔ ¬ea a s b t/\ ¬(a=b/\s=t)):=by
 refine W.succ (W.succ (W.of fun n=> ?_))
 rw [Rt,JA];unfold ea;have i:=BK s t;have j:=JJ s t;by_cases h:a<b
 .rw [hJ h]
  exact⟨-1,rfl,by simp [h]⟩
 .rw [hL h]
  by_cases k:b<a
  .rw [hJ k]
   exact⟨1,rfl,by simp [h];omega⟩
  .rw [hL k]
   obtain rfl:a=b:=by omega
   refine⟨_,rfl, ?_⟩
   rw [<-i,<-j];omega
theorem Um (_:ae) (cs:ai) (_ _ nm:Int) (key:O) (v:V) {i:Nat} (h:fB cs nm key=some i): ∃c,cs[i]? =some c/\ll cs nm key v=some (cs.set i (c.1,c.2.1,v)):=by
 have hi:=(oY h).1;refine⟨cs[i],Ô hi, ?_⟩
 unfold ll;rw [h];simp only [Ô hi]
def mm (vs:ae) (cs:ai) (nr er:Int) (o:Option (List VC)):ae×(ai×Int×Int×Bool):=match o with
 |some l=>(vs,l,nr,er,true)
 |none=>(vs,cs,nr,er,false)
theorem aCa (cs:List VC) (nm:Int) (key:O) {b:Type} (r:Int->b):(match cs.findIdx? (fun c=>bo (¬ea c.1 c.2.1 nm key))with|some i=>r i|none=>r cs.length)=r (gk cs nm key):=by
 unfold gk;cases cs.findIdx? (fun c=>bo (¬ea c.1 c.2.1 nm key))<;>rfl
theorem Un (vs:ae) (cs:ai) (nr er nm:Int) (key:O) (v:V) (s:vs.length<=1048576) (g:cs.length<=1048576):W fun n=>Gt n vs cs nr er nm key v.1 v.2.1 v.2.2=some (mm vs cs nr er (ll cs nm key v)):=by
 have k:=BT g (p:=fun c=>bo (¬ea c.1 c.2.1 nm key)) (r:=fun i=>Sum.inl (0,0,vs,cs,nr,er,vs,cs,nr,er,v.1,v.2.1,v.2.2,i,key,nm)) (b:=Sum.inl (0,0,vs,cs,nr,er,vs,cs,nr,er,v.1,v.2.1,v.2.2,(cs.length:Int),key,nm)) (L:=fun n m i=>vz n m 0 0 vs cs nr er vs cs nr er v.1 v.2.1 v.2.2 i key nm) ((W.all cs fun c _=>TE c.1 c.2.1 c.2.2.1 c.2.2.2.1 c.2.2.2.2 nm key).mono fun n h m i hi=>by
  rw [QG,bu hi,bg hi];simp only [Y,Z,h _ (Å hi)];exact dZ (by simp)) (fun n m=>by rw [QG,ck];rfl)
 refine(((qN vs cs nr er s g).and (JQ vs cs nr er nm key g)).and k).nm fun n ⟨⟨j,q⟩,t⟩=> ?_
 cases h:fB cs nm key with
 |some i=>
  have d:nc n vs cs nr er nm key=some (i:Int):=by rw [q,h];rfl
  rw [QF,j];simp only [Z,d];have hi:=(oY h).1;obtain⟨c,u,hp⟩:=Um vs cs nr er nm key v h;rw [hJ (by omega),hJ (by omega),hp]
  simp only [Y,aM,nth,Ì,u,Z,mm]
 |none=>
  have d:nc n vs cs nr er nm key=some (-1:Int):=by rw [q,h];rfl
  rw [QF,j];simp only [Z,d];rw [hL (by omega)]
  unfold ll;rw [h];simp only [ez];by_cases f:40<=cs.length
  .rw [hJ (by omega),if_pos f];rfl
  .rw [hL (by omega),if_neg f,show vz n n 0 0 vs cs nr er vs cs nr er v.1 v.2.1 v.2.2 0 key nm=_ from t,aCa cs nm key fun i=>Sum.inl (0,0,vs,cs,nr,er,vs,cs,nr,er,v.1,v.2.1,v.2.2,i,key,nm)]
   have z:=JP cs nm key;simp only [ez,Z,ay];rw [hJ (by omega)]
   simp only [Y,Ì,Ā,ã,BU];rw [cA (by simp;omega),cA (by simp;omega),cA (by simp;omega)]
   simp only [Y,mm,î,ĝ,ê]
theorem aCb {α:Type} (l:List α) (p q:α->Bool) (h: ∀x∈l,p x=q x):l.findIdx? p=l.findIdx? q:=by
 induction l with
 |nil=>rfl
 |cons a l ih=>rw [Ĕ,Ĕ,h a (by simp),ih fun x b=>h x (by simp [b])]
theorem Uo {cs:List VC} {nm:Int} {key:O} (h:fB cs nm key=none): ∀c∈cs,¬(c.1=nm/\c.2.1=key):=by
 unfold fB at h;rw [û]at h
 rintro c b ⟨d,f⟩
 have:=h c b;simp [nv,d,f]at this
theorem Up (vs:ae) (cs:ai) (nr er nm:Int) (key:O) (v:V) (z:vs.length<=1048576) (q:cs.length<=1048576):W fun n=>HN n vs cs nr er nm key v.1 v.2.1 v.2.2=some (mm vs cs nr er (ll cs nm key v)):=by
 have hq: ∀c:VC,W fun n=>HQ n nm key v.1 v.2.1 v.2.2 c.1 c.2.1 c.2.2.1 c.2.2.2.1 c.2.2.2.2=some (bo (¬ea c.1 c.2.1 nm key/\ ¬(c.1=nm/\c.2.1=key)),nm,key,v.1,v.2.1,v.2.2):=fun c=>by
  refine(aBZ c.1 c.2.1 c.2.2.1 c.2.2.2.1 c.2.2.2.2 nm key v.1 v.2.1 v.2.2).nm fun n ⟨x,e,hx⟩=> ?_
  rw [avT,e];simp only [Z,bL];rw [propext hx]
 have k:=BT q (p:=fun c=>bo (¬ea c.1 c.2.1 nm key/\ ¬(c.1=nm/\c.2.1=key))) (r:=fun i=>Sum.inr (i,nm,key,v.1,v.2.1,v.2.2)) (b:=Sum.inl (nm,key,v.1,v.2.1,v.2.2)) (L:=fun n m i=>vY n m nm key v.1 v.2.1 v.2.2 i cs cs.length) ((W.all cs fun c _=>hq c).mono fun n h m i hi=>by
  rw [RF,bu hi,bg hi];simp only [Y,Z,h _ (Å hi)]) (fun n m=>by rw [RF,ck];rfl)
 have k2:W fun n=>HP n nm key v.1 v.2.1 v.2.2 cs=some (match cs.findIdx? (fun c=>bo (¬ea c.1 c.2.1 nm key/\ ¬(c.1=nm/\c.2.1=key)))with|some i=>((i:Int),nm,key,v.1,v.2.1,v.2.2)|none=>((-1:Int),nm,key,v.1,v.2.1,v.2.2)):=k.nm fun n e=>by
  rw [avS,show vY n n nm key v.1 v.2.1 v.2.2 0 cs cs.length=_ from e];cases cs.findIdx? (fun c=>bo (¬ea c.1 c.2.1 nm key/\ ¬(c.1=nm/\c.2.1=key)))<;>rfl
 refine((((sW vs cs nr er z q).and (JR vs cs nr er nm key q)).and k2).and (W.ge 1)).nm fun n ⟨⟨⟨t,u⟩,e3⟩,hn⟩=> ?_
 obtain⟨n,rfl⟩: ∃k,n=k+1:=⟨n-1,by omega⟩
 cases h:fB cs nm key with
 |some i=>
  have d:nk (n+1) vs cs nr er nm key=some (i:Int):=by rw [u,h];rfl
  rw [RD,t];simp only [Z,d];have hi:=(oY h).1;obtain⟨c,s,hp⟩:=Um vs cs nr er nm key v h;rw [hJ (by omega),hJ (by omega),hp]
  simp only [Y,aM,nth,Ì,s,Z,mm]
 |none=>
  have d:nk (n+1) vs cs nr er nm key=some (-1:Int):=by rw [u,h];rfl
  rw [RD,t];simp only [Z,d];rw [hL (by omega)]
  unfold ll;rw [h];simp only [ez];by_cases g:40<=cs.length
  .rw [hJ (by omega),if_pos g];rfl
  .rw [hL (by omega),if_neg g,e3,aCb cs _ (fun c=>bo (¬ea c.1 c.2.1 nm key)) fun c s=>mR ⟨fun k=>k.1,fun k=>⟨k,Uo h c s⟩⟩]
   simp only [ez,Z];have f:=JP cs nm key;have fin: ∀j:Nat,j<=cs.length->((AH (n+1) cs (j:Int) [(nm,key,v.1,v.2.1,v.2.2)]).bind fun y=>some (vs,y,nr,er,true))=some (mm vs cs nr er (some (cs.take j++((nm,key,v)::cs.drop j)))):=fun j hj=>by
    rw [aBW,hJ (by omega),cA (by simp;omega)]
    rfl
   unfold gk at f |-;revert f
   cases cs.findIdx? (fun c=>bo (¬ea c.1 c.2.1 nm key))with
   |none=>
    intro f;simp only;rw [hJ (by omega)]
    exact fin cs.length f
   |some j=>
    intro f;simp only;rw [hL (by omega)]
    exact fin j f
theorem aCc {line:O} {i:Nat} (h:i<line.length) (cur:O):aQ cur (line.drop i)=cond (line[i]==32) (cond (ă cur) (aQ [] (line.drop (i+1))) (cur::aQ [] (line.drop (i+1)))) (aQ (cur++[line[i]]) (line.drop (i+1))):=by
 rw [Ä h,aQ]
theorem aCd {line:O} {i f:Nat} (h:i<line.length) (b:f<=i):(line.drop f).take (i-f)++[line[i]]=(line.drop f).take (i+1-f):=by
 rw [show i+1-f=(i-f)+1 by omega,xS (l:=line.drop f) (i:=i-f) (by simp;omega)]
 congr 2
 simp only [ü];congr 1;omega
theorem Uq {line:O} {i f:Nat} (h:i<=line.length) (d:f<=i):ă ((line.drop f).take (i-f))=decide (f=i):=by
 by_cases e:f=i
 .subst e;simp
 .have:0<((line.drop f).take (i-f)).length:=by simp;omega
  cases b:(line.drop f).take (i-f)with
  |nil=>rw [b]at this;simp at this
  |cons _ _=>simp [e]
theorem Ur (line:O) (hl:line.length<=1000000):W fun n=>GX n line=some (aQ [] line):=by
 have:=jZ (len:=line.length+1) (L:=fun n m i (s:Nat×af)=>gN n m (i:Int) (s.1:Int) line s.2)
  (fun i s=>s.2.length<=i/\((i<=line.length/\s.1<=i/\s.2++aQ ((line.drop s.1).take (i-s.1)) (line.drop i)=aQ [] line)\/(i=line.length+1/\s.2=aQ [] line)))
  (fun x=>x=.inl (aQ [] line)) ?_ ?_
 .refine(this.mono fun n h=> ?_).nm (p:=fun n=>gN n n 0 0 line []=some (.inl (aQ [] line))) fun n e=> ?_
  .obtain⟨x,r,t⟩:=h (0,[]) ⟨by simp,.inl ⟨by omega,by simp,by simp⟩⟩
   rw [<-t];exact r
  .rw [asC,e];rfl
 .refine W.of fun n m i ⟨f,l⟩ hi hinv=> ?_
  right
  obtain⟨hlen,hinv⟩:=hinv;obtain⟨r,t,h3⟩:=hinv.resolve_right (by rintro⟨h, -⟩;omega)
  have hw:wrap .i64 ((i:Int)+1)=((i+1:Nat):Int):=jL (by omega)
  have u:l.length<=i:=hlen;have g:f<=i:=t;have b:l++aQ ((line.drop f).take (i-f)) (line.drop i)=aQ [] line:=h3;have put:f<i->(cond (decide ((0:Int)<=(f:Int)/\(f:Int)<=(i:Int)/\(i:Int)<=(line.length:Int))) (cond (á (l.length+1) aD) (gN n m ((i+1:Nat):Int) ((i+1:Nat):Int) line (l++[(line.drop (Æ (f:Int))).take ((Æ (i:Int))-(Æ (f:Int)))])) none) none)=gN n m ((i+1:Nat):Int) ((i+1:Nat):Int) line (l++[(line.drop f).take (i-f)]):=fun j=>by
   rw [hJ (by omega),cA (by omega)];rfl
  by_cases d:i<line.length
  .rw [aCc d,Uq r g]at b
   by_cases q:line[i]=32
   .have z:(((line[i]).toNat:Int) !=(32:Int))=false:=by rw [q];rfl
    rw [q]at b;by_cases j:f<i
    .refine⟨(i+1,l++[(line.drop f).take (i-f)]), ?_,by simp;omega,.inl ⟨by omega,by simp, ?_⟩⟩
     .show gN n (m+1) (i:Int) (f:Int) line l=_
      rw [sL,hJ (by omega),hJ (by omega),df d]
      simp only [Y,Z,z,ez,hw];rw [hJ (by omega),Y,put j]
     .rw [hL (by omega)]at b
      rw [<-b];simp
    .refine⟨(i+1,l), ?_,by simp;omega,.inl ⟨by omega,by simp, ?_⟩⟩
     .show gN n (m+1) (i:Int) (f:Int) line l=_
      rw [sL,hJ (by omega),hJ (by omega),df d]
      simp only [Y,Z,z,ez,hw];rw [hL (by omega),ez]
     .rw [hJ (by omega)]at b
      rw [<-b];simp
   .have z:(((line[i]).toNat:Int) !=(32:Int))=true:=by
     have:(line[i]).toNat≠32:=fun k=>q (Õ.1 (by rw [k];rfl))
     simp;omega
    have zb:(line[i]==32)=false:=by simpa using q
    refine⟨(f,l), ?_,by simp;omega,.inl ⟨by omega,by simp;omega, ?_⟩⟩
    .show gN n (m+1) (i:Int) (f:Int) line l=_
     rw [sL,hJ (by omega),hJ (by omega),df d]
     simp only [Y,Z,z,hw]
    .rw [zb,ez,aCd d g]at b
     exact b
  .obtain rfl:i=line.length:=by omega
   rw [Ç (Î _),aQ,Uq (Î _) g]at b;by_cases j:f<line.length
   .refine⟨(line.length+1,l++[(line.drop f).take (line.length-f)]), ?_,by simp;omega,.inr ⟨rfl, ?_⟩⟩
    .show gN n (m+1) (line.length:Int) (f:Int) line l=_
     rw [sL,hJ (by omega),hL (by omega)]
     simp only [Y,ez,hw];rw [hJ (by omega),Y,put j]
    .rw [hL (by omega)]at b
     rw [<-b];rfl
   .refine⟨(line.length+1,l), ?_,by simp;omega,.inr ⟨rfl, ?_⟩⟩
    .show gN n (m+1) (line.length:Int) (f:Int) line l=_
     rw [sL,hJ (by omega),hL (by omega)]
     simp only [Y,ez,hw];rw [hL (by omega),ez]
    .rw [hJ (by omega)]at b
     rw [<-b];simp
 .refine W.of fun n m ⟨f,l⟩ hinv=>⟨.inl l, ?_, ?_⟩
  .show gN n (m+1) ((line.length+1:Nat):Int) (f:Int) line l=_
   rw [sL,hL (by omega)];rfl
  .rcases hinv.2 with⟨h, -⟩|⟨-,h⟩
   .omega
   .have h:l=aQ [] line:=h
    rw [h]
theorem aCe (n:Nat) (line:O):AK (n+1) line=cond (á (Þ (α:=UInt8) line) 4000000000) (some (aQ [] line)) none:=by kernel_rfl
theorem JS (line:O) (b:line.length<=1000000):W fun n=>AK n line=some (aQ [] line):=W.succ (W.of fun n=>by
 rw [aCe,Ó (by omega)];rfl)
noncomputable def jM (line:O) (fs:List O) (k:Int):V:=if k=0 then mU line else if 1<=k/\k<=fs.length then(match fs[(k-1).toNat]? with|some s=>mU s|none=>v0)else mU []
theorem JT {x:Int} (h:aW x):wrap .i64 (Ï x 1000000)=Ï x 1000000/\ -9000000<=Ï x 1000000/\Ï x 1000000<=9000000:=by
 have b:=eF h;have d:=ï x 1000000;have f:=ye x;refine⟨?_,by omega,by omega⟩
 rw [À];omega
theorem aCf {x:Int}:Ï (jc x) 1000000=Ï x 1000000:=by
 have b:=ï x 1000000;have e:jc x=1000000*Ï x 1000000:=by unfold jc;omega
 rw [e,Int.mul_tdiv_cancel_left _ (by omega)]
def cN (v:Int):Int:=Ï v 1000000
theorem BV {v:V} (h:bR v):W fun n=>vZ n v.1 v.2.1 v.2.2=some (cN (aJ v)):=by
 refine((nu h.2.1).and (Uh (jF h))).nm fun n ⟨b,d⟩=> ?_
 rw [avX,b];simp only [Z,d];rw [aCf,(JT (jF h)).1];rfl
theorem Us {fs:List O} {k:Int} (hk:1<=k/\k<=fs.length) (b:fs.length<=1048576):wrap .i64 (k-1)=k-1/\ ∃s,fs[(k-1).toNat]? =some s:=by
 refine⟨by rw [À];omega,fs[(k-1).toNat]'(by omega),Ô (by omega)⟩
theorem aCg (line:O) (k:Int) (h:line.length<=1000000) (j:(aQ [] line).length<=1048576):W fun n=>HT n line k=some (jM line (aQ [] line) k):=by
 by_cases hk:1<=k/\k<=(aQ [] line).length
 .obtain⟨hw,s,i⟩:=Us hk j
  refine(((JS line h).and (di k 1 ((aQ [] line).length:Int))).and (JO s)).nm fun n ⟨⟨d,f⟩,g⟩=> ?_
  have z:(k==(0:Int))=false:=by simp;omega
  rw [RH,z,d];simp only [ez,Z,f,aB (show In k 1 _ from hk),Y,hw,aM,nth,i,g];rw [hJ (by omega),jM,if_neg (by omega),if_pos hk,i];rfl
 .refine((((JS line h).and (di k 1 ((aQ [] line).length:Int))).and (JO line)).and (JO [])).nm fun n ⟨⟨⟨d,f⟩,g⟩,m⟩=> ?_
  rw [RH,d,g,jM];by_cases b:k=0
  .rw [if_pos b,b];rfl
  .have z:(k==(0:Int))=false:=by simpa using b
   rw [z,if_neg b,if_neg hk];simp only [ez,Z,f,az (show ¬In k 1 _ from hk),m]
theorem aCh (vs:ae) (cs:ai) (nr er:Int) (a b:af) (line:O) (fs:af) (out:O) (fu:Int) (dn:Bool) {v:V} (h:bR v) (p:fs.length<=1048576):W fun n=>Gv n vs cs nr er a b line fs out fu dn v.1 v.2.1 v.2.2=some ((jM line fs (cN (aJ v))).1,(jM line fs (cN (aJ v))).2.1,(jM line fs (cN (aJ v))).2.2,vs,cs,nr,er,a,b,line,fs,out,fu,dn):=by
 have hw:=(JT (jF h)).1;have f:Ï (aJ v) 1000000=cN (aJ v):=rfl;rw [f]at hw;by_cases hk:1<=cN (aJ v)/\cN (aJ v)<=fs.length
 .obtain⟨g,s,m⟩:=Us hk p
  refine(((jl h.2.1).and (cS (cN (aJ v)) 1 (fs.length:Int))).and (JN s)).nm fun n ⟨⟨i,j⟩,k⟩=> ?_
  have z:(cN (aJ v)==(0:Int))=false:=by simp;omega
  rw [QI,i];simp only [Z,f,hw,z,ez,j,aB (show In (cN (aJ v)) 1 _ from hk),Â,g,aM,nth,m,k];rw [hJ (by omega),jM,if_neg (by omega),if_pos hk,m];rfl
 .refine((((jl h.2.1).and (cS (cN (aJ v)) 1 (fs.length:Int))).and (JN line)).and (JN [])).nm fun n ⟨⟨⟨i,j⟩,k⟩,q⟩=> ?_
  rw [QI,i];simp only [Z,f,hw,k,j,az (show ¬In (cN (aJ v)) 1 _ from hk),q];rw [jM];by_cases d:cN (aJ v)=0
  .rw [if_pos d,d];rfl
  .have z:(cN (aJ v)==(0:Int))=false:=by simpa using d
   rw [z,if_neg d,if_neg hk];rfl
theorem aCi (line:O) (fs:List O) (k:Int):bR (jM line fs k):=by
 unfold jM;split
 .exact Eg _
 split
 .split
  .exact Eg _
  .exact rO
 .exact Eg _
theorem sX: ∀(s cur:O),(aQ cur s).length<=s.length+1
 | [],cur=>by rw [aQ];cases ă cur<;>simp
 |b::s,cur=>by
  rw [aQ];have d:=sX s [];have f:=sX s (cur++[b]);cases b==32<;>cases ă cur<;>simp only [Y,ez,Á]<;>omega
theorem aCj (n:Nat) (a b:Int):Ii (n+1) a b=some (a*b/18446744073709551616,a*b%18446744073709551616):=by kernel_rfl
theorem Ut {a:Int} (h:aW a):W fun n=>Be n a=some (a.natAbs:Int):=W.succ (W.of fun n=>by
 have d:=eF h;rw [awY];by_cases b:a<0
 .rw [hJ b]
  simp only [Y];have:wrap .u64 (wrap .i64 (0-a))=(a.natAbs:Int):=by rw [wu,À];omega
  rw [this]
 .rw [hL b]
  simp only [ez];have:wrap .u64 a=(a.natAbs:Int):=by rw [wu];omega
  rw [this])
theorem sign_eq (a b:Int):(!((decide (a<(0:Int)))==(decide (b<(0:Int)))))= !decide (a<0↔b<0):=by
 by_cases d:a<0<;>by_cases f:b<0<;>simp [d,f]
theorem aCk (a b:Int) (d:aW a) (f:aW b):a.natAbs*b.natAbs<=81000000000000000000000000:=by
 have g:=eF d;have h:=eF f;exact Ċ (show a.natAbs<=9000000000000 by omega) (show b.natAbs<=9000000000000 by omega)
theorem aCl (a b:Int):W fun n=>Ih n a b=some (fL a b):=by
 by_cases d: ¬aW a
 .refine(iL a).nm fun n g=> ?_
  rw [BC,g,az d,fL,az fun k=>d k.1];rfl
 have d:=æ.1 d;by_cases f: ¬aW b
 .refine((iL a).and (iL b)).nm fun n ⟨g,j⟩=> ?_
  rw [BC,g,aB d];simp only [Z,j];rw [az f,fL,az fun k=>f k.2.1];rfl
 have f:=æ.1 f;have hp:=aCk a b d f;obtain⟨p,h⟩: ∃p,p=a.natAbs*b.natAbs:=⟨_,rfl⟩
 have t:fY a b=p/1000000:=by rw [fY,h]
 have u: ∀n,Ii (n+1) (a.natAbs:Int) (b.natAbs:Int)=some (((p/18446744073709551616:Nat):Int),((p%18446744073709551616:Nat):Int)):=fun n=>by
  rw [aCj,<-ò,<-h];rfl
 rw [<-h]at hp;have base:=(((iL a).and (iL b)).and ((Ut d).and (Ut f))).and (W.ge 1);by_cases hh:p/18446744073709551616<1000000
 .refine(base.and (aBJ _ (p%18446744073709551616) hh (Ġ _ (by omega)))).nm fun n ⟨⟨⟨⟨g,j⟩,s,i⟩,hn⟩,r,z⟩=> ?_
  obtain⟨n,rfl⟩: ∃m,n=m+1:=⟨n-1,by omega⟩
  rw [show p/18446744073709551616*18446744073709551616+p%18446744073709551616=p by rw [õ];exact ë p _,<-t]at z
  rw [BC,g,aB d];simp only [Z,j];rw [aB f];simp only [Â,ez,Z,s,i,u];rw [hL (by omega),ez,z,Z,sign_eq]
  by_cases hm:fY a b<=9000000000000
  .rw [hL (by omega),ez,fL,aB ⟨d,f,hm⟩,Y]
   have w1:wrap .i64 ((fY a b:Nat):Int)=(fY a b:Int):=by rw [À];omega
   have w2:wrap .i64 (0-(fY a b:Int))= -(fY a b:Int):=by rw [À];omega
   rw [w1,w2];by_cases q:(a<0↔b<0)
   .rw [hJ q,if_pos q];rfl
   .rw [hL q,if_neg q];rfl
  .rw [hJ (by omega),Y,fL,az fun k=>hm k.2.2];rfl
 .refine base.nm fun n ⟨⟨⟨g,j⟩,s,i⟩,hn⟩=> ?_
  obtain⟨n,rfl⟩: ∃m,n=m+1:=⟨n-1,by omega⟩
  rw [BC,g,aB d];simp only [Z,j];rw [aB f];simp only [Â,ez,Z,s,i,u];rw [hJ (by omega),Y,fL,az fun k=>absurd k.2.2 (by rw [t];omega)];rfl
theorem aCm (x y:Nat):x*y/1000000=x/1000000*y+x%1000000*y/1000000:=by
 have h:x*y=1000000*(x/1000000*y)+x%1000000*y:=by
  rw [<-Ē,<-ċ,ë]
 rw [h,Nat.mul_add_div (by omega)]
theorem aCn (a b:Int):W fun n=>Gr n a b=some (fL a b):=by
 by_cases d: ¬aW a
 .refine(iK a).nm fun n g=> ?_
  rw [Ja,g,az d,fL,az fun k=>d k.1];rfl
 have d:=æ.1 d;by_cases f: ¬aW b
 .refine((iK a).and (iK b)).nm fun n ⟨g,i⟩=> ?_
  rw [Ja,g,aB d];simp only [Z,i];rw [az f,fL,az fun k=>f k.2.1];rfl
 have f:=æ.1 f;have j:=eF d;have m:=eF f;obtain⟨x,s⟩: ∃x,x=a.natAbs:=⟨_,rfl⟩
 obtain⟨y,hy⟩: ∃y,y=b.natAbs:=⟨_,rfl⟩
 have t:x<=9000000000000:=by omega
 have p:y<=9000000000000:=by omega
 have u:fY a b=x/1000000*y+x%1000000*y/1000000:=by rw [fY,<-s,<-hy,aCm]
 have hr:x%1000000*y<=8999991000000000000:=by
  have:x%1000000*y<=999999*9000000000000:=Ċ (by omega) p
  omega
 refine(((((iK a).and (iK b)).and (JH j.1)).and (JH m.1)).and ((wM (fY a b:Int)).and (wM (-(fY a b:Int))))).nm fun n ⟨⟨⟨⟨g,i⟩,e3⟩,q⟩,e4,e5⟩=> ?_
 rw [Ja,g,aB d];simp only [Z,i];rw [aB f];simp only [Â,ez,Z,e3,q,<-s,<-hy];have t1:Ï (x:Int) 1000000=((x/1000000:Nat):Int):=(sV x 1000000).symm;have t2:é (x:Int) 1000000=((x%1000000:Nat):Int):=(Int.ofNat_tmod x 1000000).symm;have t3:wrap .i64 ((x/1000000:Nat):Int)=((x/1000000:Nat):Int):=by rw [À];omega
 have t4:wrap .i64 (((x%1000000:Nat):Int)*(y:Int))=((x%1000000*y:Nat):Int):=by rw [<-ò,À];omega
 have t5:wrap .i64 (Ï ((x%1000000*y:Nat):Int) 1000000)=((x%1000000*y/1000000:Nat):Int):=by
  rw [show Ï ((x%1000000*y:Nat):Int) (1000000:Int)=((x%1000000*y/1000000:Nat):Int)from(sV _ 1000000).symm,À];omega
 have fin: ∀(hw:x/1000000*y<=9000000000000),(cond (!decide (a<0↔b<0)) ((na n (wrap .i64 ((0:Int)-(wrap .i64 ((wrap .i64 (((x/1000000:Nat):Int)*(y:Int)))+((x%1000000*y/1000000:Nat):Int)))))).bind fun z=>some (z.1,z.2)) ((na n (wrap .i64 ((wrap .i64 (((x/1000000:Nat):Int)*(y:Int)))+((x%1000000*y/1000000:Nat):Int)))).bind fun z=>some (z.1,z.2)))=some (fL a b):=fun hw=>by
  have w1:wrap .i64 (((x/1000000:Nat):Int)*(y:Int))=((x/1000000*y:Nat):Int):=by rw [<-ò,À];omega
  have w2:wrap .i64 (((x/1000000*y:Nat):Int)+((x%1000000*y/1000000:Nat):Int))=(fY a b:Int):=by rw [u,À];omega
  have w3:wrap .i64 ((0:Int)-(fY a b:Int))= -(fY a b:Int):=by rw [À];omega
  rw [w1,w2,w3,e4,e5];by_cases hm:fY a b<=9000000000000
  .rw [fL,aB ⟨d,f,hm⟩,Y,ux (fW (by omega)),ux (fW (by omega))]
   by_cases h:(a<0↔b<0)
   .rw [hJ h,if_pos h];rfl
   .rw [hL h,if_neg h];rfl
  .rw [fL,az fun k=>hm k.2.2,uy (fun k=>hm (by have:=eF k;omega)),uy (fun k=>hm (by have:=eF k;omega))]
   cases decide (a<0↔b<0)<;>rfl
 simp only [t1,t2,t3,t4,t5,sign_eq];by_cases r:0<y
 .obtain⟨k,hk⟩: ∃k:Nat,k=9000000000000/y:=⟨_,rfl⟩
  have aj:k<=9000000000000:=hk▸Nat.div_le_self _ _;have td:Ï (9000000000000:Int) (y:Int)=(k:Int):=hk▸(sV 9000000000000 y).symm;have d1:wrap .i64 (Ï 9000000000000 (y:Int))=(k:Int):=by rw [td,À];omega
  have k1:k*y<=9000000000000:=hk▸Nat.div_mul_le_self 9000000000000 y;have k2:9000000000000<y*k+y:=by
   have m:=ë 9000000000000 y;have h3:=Ġ 9000000000000 r;rw [<-hk]at m;omega
  have z:((y:Int) !=(0:Int))=true:=by simp;omega
  rw [hJ (show (0:Int)<(y:Int) by omega),z]
  simp only [Y,Z,d1];by_cases hw:x/1000000<=k
  .rw [hL (show ¬(k:Int)<((x/1000000:Nat):Int) by omega),ez]
   exact fin (Ĩ (Č y hw) k1)
  .rw [hJ (show (k:Int)<((x/1000000:Nat):Int) by omega),Y,fL,az fun c=> ?_]
   .rfl
   .have j:(k+1)*y<=x/1000000*y:=Č y (by omega)
    rw [ċ,õ k y]at j;have:=c.2.2;omega
 .obtain rfl:y=0:=by omega
  rw [hL (by omega)]
  simp only [ez,Z];exact fin (by omega)
def gP:Sum Int V->Int
 |.inl c=>c
 |.inr _=>0
def oZ (r:Int×Bool):Sum Int V:=cond r.2 (.inr (nV r.1)) (.inl 1)
noncomputable def cK (op x y:Int):Sum Int V:=if op=0 then oZ (fX x y)else if op=1 then oZ (jb x y)else if op=2 then oZ (fL x y)else if y=0 then .inl 2 else if op=4 then .inr (nV (é x y))else oZ (hU x y)
def nx (k c:Int):Bool:=if k=0 then decide (c<0)else if k=1 then decide (c<=0)else if k=2 then decide (0<c)else if k=3 then decide (0<=c)else if k=4 then c==0 else c !=0
noncomputable def dQ (c:Int) (a b:V):Sum Int V:=if c<=16 then cK (c-12) (aJ a) (aJ b)else if c=17 then(if 300<(aH a++aH b).length then .inl 3 else .inr (tV (aH a++aH b)))else .inr (bV (nx (c-18) (fP a b)))
theorem Uu (vs:ae) (cs:ai) (nr er:Int) (a b:af) (line:O) (fs:af) (out:O) (fu:Int) (dn:Bool) (c:Int):W fun n=>ib n vs cs nr er a b line fs out fu dn c=some (vs,cs,nr,cond (er==0) c er,a,b,line,fs,out,fu,dn):=W.succ (W.of fun n=>by
 rw [aqE];cases er==0<;>rfl)
theorem ky (vs:ae) (cs:ai) (nr:Int) (a b:af) (line:O) (fs:af) (out:O) (fu:Int) (dn:Bool) (c:Int):W fun n=>ib n vs cs nr 0 a b line fs out fu dn c=some (vs,cs,nr,c,a,b,line,fs,out,fu,dn):=Uu vs cs nr 0 a b line fs out fu dn c
theorem JU (vs:ae) (cs:ai) (nr:Int) (a b:af) (line:O) (fs:af) (out:O) (fu:Int) (dn:Bool) (op x y:Int) (h:0<=op/\op<=4):W fun n=> ∃v:V,vx n vs cs nr 0 a b line fs out fu dn op x y=some (v.1,v.2.1,v.2.2,vs,cs,nr,gP (cK op x y),a,b,line,fs,out,fu,dn)/\ ∀w,cK op x y=.inr w->v=w:=by
 by_cases i:op=0
 .subst i
  refine(((aBK x y).and (ky vs cs nr a b line fs out fu dn 1)).and (jK (fX x y).1)).nm fun n ⟨⟨d,f⟩,g⟩=> ?_
  rw [sJ,show((0:Int)==(0:Int))=true from rfl,d,cK,if_pos rfl];simp only [Y,Z,f,g];obtain⟨p,q⟩:=fX x y;cases q
  .exact⟨nV p,rfl,fun w k=>by cases k⟩
  .exact⟨nV p,rfl,fun w k=>by cases k;rfl⟩
 by_cases j:op=1
 .subst j
  refine(((aBL x y).and (ky vs cs nr a b line fs out fu dn 1)).and (jK (jb x y).1)).nm fun n ⟨⟨d,f⟩,g⟩=> ?_
  rw [sJ,show((1:Int)==(0:Int))=false from rfl,show((1:Int)==(1:Int))=true from rfl,d,cK,if_neg (show ¬(1:Int)=0 by omega),if_pos rfl]
  simp only [Y,ez,Z,f,g];obtain⟨p,q⟩:=jb x y;cases q
  .exact⟨nV p,rfl,fun w k=>by cases k⟩
  .exact⟨nV p,rfl,fun w k=>by cases k;rfl⟩
 by_cases m:op=2
 .subst m
  refine(((aCn x y).and (ky vs cs nr a b line fs out fu dn 1)).and (jK (fL x y).1)).nm fun n ⟨⟨d,f⟩,g⟩=> ?_
  rw [sJ,show((2:Int)==(0:Int))=false from rfl,show((2:Int)==(1:Int))=false from rfl,show((2:Int)==(2:Int))=true from rfl,d,cK,if_neg (show ¬(2:Int)=0 by omega),if_neg (show ¬(2:Int)=1 by omega),if_pos rfl]
  simp only [Y,ez,Z,f,g];obtain⟨p,q⟩:=fL x y;cases q
  .exact⟨nV p,rfl,fun w k=>by cases k⟩
  .exact⟨nV p,rfl,fun w k=>by cases k;rfl⟩
 have z0:(op==(0:Int))=false:=by simpa using i
 have r:(op==(1:Int))=false:=by simpa using j
 have z2:(op==(2:Int))=false:=by simpa using m
 by_cases hy:y=0
 .subst hy
  refine(ky vs cs nr a b line fs out fu dn 2).nm fun n f=> ?_
  rw [sJ,z0,r,z2,cK,if_neg i,if_neg j,if_neg m,if_pos rfl];simp only [ez,f];exact⟨v0,rfl,fun w k=>by cases k⟩
 have u:(y==(0:Int))=false:=by simpa using hy
 have s:(y !=(0:Int))=true:=by simpa using hy
 by_cases t:op=4
 .subst t
  refine((Uf x y).and (jK (é x y))).nm fun n ⟨d,g⟩=> ?_
  rw [sJ,z0,r,z2,u,s,d,cK,if_neg i,if_neg j,if_neg m,if_neg hy,if_pos rfl];simp only [ez,Z,g];exact⟨nV _,rfl,fun w k=>by cases k;rfl⟩
 .have z4:(op==(4:Int))=false:=by simpa using t
  refine(((Uf x y).and (ky vs cs nr a b line fs out fu dn 1)).and (jK (hU x y).1)).nm fun n ⟨⟨d,f⟩,g⟩=> ?_
  rw [sJ,z0,r,z2,u,d,cK,if_neg i,if_neg j,if_neg m,if_neg hy,if_neg t];simp only [ez,Z,z4,f,g];obtain⟨p,q⟩:=hU x y;cases q
  .exact⟨nV p,rfl,fun w k=>by cases k⟩
  .exact⟨nV p,rfl,fun w k=>by cases k;rfl⟩
theorem aCo (op x y:Int) (h:0<=op/\op<=4):W fun n=> ∃k:Int,Ie n (op+9) x y=some (k,gP (cK op x y))/\ ∀w,cK op x y=.inr w->nV k=w:=by
 by_cases d:op=0
 .subst d
  refine(Ug x y).nm fun n b=> ?_
  rw [sM,show((0:Int)+9==(9:Int))=true from rfl,b,cK,if_pos rfl];simp only [Y,Z];obtain⟨p,q⟩:=fX x y;cases q
  .exact⟨0,rfl,fun w k=>by cases k⟩
  .exact⟨p,rfl,fun w k=>by cases k;rfl⟩
 by_cases f:op=1
 .subst f
  refine(aBM x y).nm fun n b=> ?_
  rw [sM,show((1:Int)+9==(9:Int))=false from rfl,show((1:Int)+9==(10:Int))=true from rfl,b,cK,if_neg (show ¬(1:Int)=0 by omega),if_pos rfl]
  simp only [Y,ez,Z];obtain⟨p,q⟩:=jb x y;cases q
  .exact⟨0,rfl,fun w k=>by cases k⟩
  .exact⟨p,rfl,fun w k=>by cases k;rfl⟩
 by_cases g:op=2
 .subst g
  refine(aCl x y).nm fun n b=> ?_
  rw [sM,show((2:Int)+9==(9:Int))=false from rfl,show((2:Int)+9==(10:Int))=false from rfl,show((2:Int)+9==(11:Int))=true from rfl,b,cK,if_neg (show ¬(2:Int)=0 by omega),if_neg (show ¬(2:Int)=1 by omega),if_pos rfl]
  simp only [Y,ez,Z];obtain⟨p,q⟩:=fL x y;cases q
  .exact⟨0,rfl,fun w k=>by cases k⟩
  .exact⟨p,rfl,fun w k=>by cases k;rfl⟩
 have z0:(op+9==(9:Int))=false:=by simp;omega
 have i:(op+9==(10:Int))=false:=by simp;omega
 have z2:(op+9==(11:Int))=false:=by simp;omega
 by_cases hy:y=0
 .subst hy
  refine(W.ge 0).nm fun n _=> ?_
  rw [sM,z0,i,z2,cK,if_neg d,if_neg f,if_neg g,if_pos rfl];exact⟨0,rfl,fun w k=>by cases k⟩
 have m:(y==(0:Int))=false:=by simpa using hy
 have j:(y !=(0:Int))=true:=by simpa using hy
 by_cases r:op=4
 .subst r
  refine(W.ge 0).nm fun n _=> ?_
  rw [sM,z0,i,z2,m,j,cK,if_neg d,if_neg f,if_neg g,if_neg hy,if_pos rfl];exact⟨é x y,rfl,fun w k=>by cases k;rfl⟩
 .have z4:(op+9==(13:Int))=false:=by simp;omega
  refine(aBN x y).nm fun n b=> ?_
  rw [sM,z0,i,z2,m,z4,b,cK,if_neg d,if_neg f,if_neg g,if_neg hy,if_neg r];simp only [ez,Z];obtain⟨p,q⟩:=hU x y;cases q
  .exact⟨0,rfl,fun w k=>by cases k⟩
  .exact⟨p,rfl,fun w k=>by cases k;rfl⟩
theorem Uv {a b:V} (d:bR a) (f:bR b):á ((aH a).length+(aH b).length) mx=true:=by
 have g:=kx d;have h:=kx f;exact oX (by omega)
theorem aCp (vs:ae) (cs:ai) (nr:Int) (a b:af) (line:O) (fs:af) (out:O) (fu:Int) (dn:Bool) {x y:V} (d:bR x) (hy:bR y):W fun n=> ∃v:V,Gw n vs cs nr 0 a b line fs out fu dn x.1 x.2.1 x.2.2 y.1 y.2.1 y.2.2=some (v.1,v.2.1,v.2.2,vs,cs,nr,gP (dQ 17 x y),a,b,line,fs,out,fu,dn)/\ ∀w,dQ 17 x y=.inr w->v=w:=by
 refine(((iN x).and (iN y)).and (ky vs cs nr a b line fs out fu dn 3)).nm fun n ⟨⟨f,g⟩,i⟩=> ?_
 rw [aqX,f,Z,g,Z,Uv d hy,Y,dQ,if_neg (by omega),if_pos rfl]
 by_cases h:300<(aH x++aH y).length
 .rw [hJ (by omega),if_pos h,Y,i]
  exact⟨v0,rfl,fun w k=>by cases k⟩
 .rw [hL (by omega),if_neg h]
  exact⟨tV (aH x++aH y),rfl,fun w k=>by cases k;rfl⟩
theorem aCq (k:Int) {x y:V} (b:bR x) (hy:bR y) (hk:0<=k/\k<=5):W fun n=>GN n k x.1 x.2.1 x.2.2 y.1 y.2.1 y.2.2=some (bV (nx k (fP x y))):=by
 refine((aBS b hy).and (BR (nx k (fP x y)))).nm fun n ⟨d,f⟩=> ?_
 rw [arY,d,Z,hJ (show 0<=k/\k<6 by omega),Y]
 have e:aM [decide (fP x y<0),decide (fP x y<=0),decide (0<fP x y),decide (0<=fP x y),fP x y==0,fP x y !=0] (Æ k)=some (nx k (fP x y)):=by
  generalize fP x y=c
  obtain rfl|rfl|rfl|rfl|rfl|rfl:k=0\/k=1\/k=2\/k=3\/k=4\/k=5:=by omega
  all_goals rfl
 rw [e,Z,f];rfl
theorem aCr (k c:Int) (hk:0<=k/\k<=5):W fun n=>Io n (k+15) c=some (nx k c):=W.succ (W.of fun n=>by
 rw [axF];obtain rfl|rfl|rfl|rfl|rfl|rfl:k=0\/k=1\/k=2\/k=3\/k=4\/k=5:=by omega
 all_goals rfl)
theorem Uw (c:Int) {x y:V} (i:bR x) (hy:bR y) (s:12<=c/\c<=23):W fun n=> ∃v:V,Ic n (c-12+9) x.1 x.2.1 x.2.2 y.1 y.2.1 y.2.2=some (v.1,v.2.1,v.2.2,gP (dQ c x y))/\ ∀w,dQ c x y=.inr w->v=w:=by
 by_cases j:c<=16
 .refine((((di (c-12+9) 9 13).and (nu i.2.1)).and (nu hy.2.1)).and (aCo (c-12) (aJ x) (aJ y) (by omega))).nm fun n ⟨⟨⟨b,d⟩,f⟩,k,g,q⟩=> ?_
  have r:iI (n) k=some (nV k):=by
   cases n with
   |zero=>cases b
   |succ n=>exact RB n k
  rw [Jj,b,Z,aB (show In (c-12+9) 9 13 from⟨by omega,by omega⟩),Y,d,Z,f,Z,g,Z,r,dQ,if_pos j]
  exact⟨nV k,rfl,q⟩
 have m: ¬In (c-12+9) 9 13:=fun k=>by have:=k.2;omega
 by_cases p:c=17
 .subst p
  refine((((di ((17:Int)-12+9) 9 13).and (mj x)).and (mj y)).and (qM (aH x++aH y))).nm fun n ⟨⟨⟨b,d⟩,f⟩,g⟩=> ?_
  rw [Jj,b,Z,az m,ez,show((17:Int)-12+9==14)=true from rfl,Y,d,Z,f,Z,Uv i hy,Y,dQ,if_neg j,if_pos rfl];by_cases h:300<(aH x++aH y).length
  .rw [hJ (by omega),if_pos h]
   exact⟨v0,rfl,fun w k=>by cases k⟩
  .rw [hL (by omega),if_neg h,g]
   exact⟨tV (aH x++aH y),rfl,fun w k=>by cases k;rfl⟩
 .refine((((di (c-12+9) 9 13).and (aBT i hy)).and (aCr (c-18) (fP x y) (by omega))).and (wN (nx (c-18) (fP x y)))).nm fun n ⟨⟨⟨b,d⟩,f⟩,g⟩=> ?_
  have z:(c-12+9==(14:Int))=false:=by simp;omega
  rw [Jj,b,Z,az m,ez,z,ez,d,Z,show c-12+9=c-18+15 by omega,f,Z,g,dQ,if_neg j,if_neg p]
  exact⟨bV (nx (c-18) (fP x y)),rfl,fun w k=>by cases k;rfl⟩
theorem BW {r:Int×Bool} (h:aW r.1) {w:V} (e:oZ r=.inr w):bR w:=by
 obtain⟨p,q⟩:=r;cases q
 .cases e
 .cases e;exact lR h
theorem aCs {op x y:Int} (b:aW x) {w:V} (e:cK op x y=.inr w):bR w:=by
 unfold cK at e;split at e
 .exact BW (YG x y) e
 split at e
 .exact BW (YH x y) e
 split at e
 .exact BW (YJ x y) e
 split at e
 .cases e
 split at e
 .cases e
  refine lR (fW ?_)
  have d:=eF b;have f:(é x y).natAbs<=x.natAbs:=by rw [Int.natAbs_tmod];exact Nat.mod_le _ _
  omega
 .exact BW (YI x y) e
theorem JV {β:Type} {f:UInt8->UInt8} {len:Nat} (d:len<=1048576) {L:Nat->Int->O->Option (Sum O β)}
  (b: ∀m (i:Nat) (l:O) (h:i<l.length),l.length=len->L (m+1) (i:Int) l=L m (wrap .i64 ((i:Int)+(1:Int))) (l.set i (f l[i])))
  (he: ∀m (l:O),l.length=len->L (m+1) (len:Int) l=some (.inl l)): ∀k m (i:Nat) (l:O),l.length=len->i+k=len->k<m->L m (i:Int) l=some (.inl (l.take i++(l.drop i).map f))
 |0,m,i,l,e,h,hm=>by
  obtain⟨m,rfl⟩: ∃m',m=m'+1:=⟨m-1,by omega⟩
  obtain rfl:i=len:=by omega
  rw [he m l e,Ù (by omega),Ą (by omega)];simp
 |k+1,m,i,l,e,h,hm=>by
  obtain⟨m,rfl⟩: ∃m',m=m'+1:=⟨m-1,by omega⟩
  have hi:i<l.length:=by omega
  rw [b m i l hi e,dy (len:=len) (by omega) (by omega),JV d b he k m (i+1) (l.set i (f l[i])) (by simp [e]) (by omega) (by omega)]
  congr 2
  rw [List.drop_set_of_lt (by omega),Ä hi,List.map_cons,List.take_set,xS hi,Ĉ _ _ (by simp;omega)]
  simp [Nat.min_eq_left (Nat.le_of_lt hi)]
def ny (p q c:UInt8):UInt8:=if p.toNat<=c.toNat/\c.toNat<p.toNat+26 then É (c.toNat-p.toNat+q.toNat)else c
def mo (p q:UInt8) (s:O):O:=s.map (ny p q)
theorem BX {l:O} {i:Nat} (h:i<l.length):l.set i l[i]=l:=by simp
theorem Ux {p:UInt8} (hp:p.toNat<=200):wrap .u8 ((p.toNat:Int)+26)=(p.toNat:Int)+26:=by rw [ą];omega
theorem Uy {p q c:UInt8} (_:p.toNat<=200) (d:q.toNat<=200) (h:p.toNat<=c.toNat) (b:c.toNat<p.toNat+26):É (Æ (wrap .u8 ((wrap .u8 ((c.toNat:Int)-(p.toNat:Int)))+(q.toNat:Int))))=ny p q c:=by
 rw [ny,if_pos ⟨h,b⟩];congr 1
 rw [ą,ą];omega
theorem Uz (s:O) (p q:UInt8) (hp:p.toNat<=200) (b:q.toNat<=200) (d:s.length<=1048576):W fun n=>sn n s p q=some (mo p q s):=by
 refine((W.ge (s.length+1)).and (W.ge 1)).nm fun n ⟨k,_⟩=> ?_
 have key:=JV (f:=ny p q) d (L:=fun m i l=>oK n m i q p l)
  (fun m i l h e=>by
   show oK n (m+1) (i:Int) q p l=_;rw [QT,dS,dS,bu h,hJ (show (0:Int)<=(i:Int)/\(i:Int)<(l.length:Int) by omega),ff h]
   simp only [Y,Z];by_cases g:p.toNat<=(l[i]).toNat
   .rw [hJ (by omega),Y,Ux hp]
    by_cases j:(l[i]).toNat<p.toNat+26
    .rw [hJ (by omega),Y,Uy hp b g j];rfl
    .rw [hL (by omega),ez,ny,if_neg (by omega),BX h]
   .rw [hL (by omega),ez,ny,if_neg (by omega),BX h])
  (fun m l e=>by
   show oK n (m+1) (s.length:Int) q p l=_;rw [QT,e,ck,ez]) s.length n 0 s rfl (by omega) (by omega)
 rw [arW,dS,dS,cA (by omega),Y]
 refine(congrArg (fun o=>Ĭ o _) key).trans ?_
 simp [ay,mo]
theorem UA (s:O) (p q:UInt8) (hp:p.toNat<=200) (b:q.toNat<=200) (d:s.length<=1048576):W fun n=>sE n s p q=some (mo p q s):=by
 refine((W.ge (s.length+1)).and (W.ge 1)).nm fun n ⟨k,_⟩=> ?_
 have key:=JV (f:=ny p q) d (L:=fun m i l=>oO n m i q p l (s.length:Int))
  (fun m i l h e=>by
   show oO n (m+1) (i:Int) q p l (s.length:Int)=_;rw [RV,dS,dS,<-e,bu h,hJ (show (0:Int)<=(i:Int)/\(i:Int)<(l.length:Int) by omega),ff h]
   simp only [Y,Z];by_cases g:p.toNat<=(l[i]).toNat
   .rw [hJ (by omega),Y,Ux hp]
    by_cases j:(l[i]).toNat<p.toNat+26
    .rw [hJ (by omega),Y,Uy hp b g j];rfl
    .rw [hL (by omega),ez,ny,if_neg (by omega),BX h]
   .rw [hL (by omega),ez,ny,if_neg (by omega),BX h])
  (fun m l e=>by
   show oO n (m+1) (s.length:Int) q p l (s.length:Int)=_;rw [RV,ck,ez]) s.length n 0 s rfl (by omega) (by omega)
 rw [awV,dS,dS,cA (by omega),Y]
 refine(congrArg (fun o=>Ĭ o _) key).trans ?_
 simp [ay,mo]
theorem sY: ∀(t s:O), -1<=cI t s/\cI t s<=s.length
 |t,[]=>by rw [cI];cases Ú t ([]:O)<;>simp
 |t,b::s=>by
  have ih:=sY t s;rw [cI];cases Ú t (b::s)
  .simp only [ez,Á]
   by_cases h:0<=cI t s
   .rw [hJ h,Y];omega
   .rw [hL h,ez];omega
  .simp only [Y];omega
theorem UB {t s:O} (h:s.length<t.length):Ú t s=false:=by
 cases e:Ú t s
 .rfl
 .have:=(ç.1 e).length_le;omega
theorem aCt (t s:O):Ú t s=(s.take t.length==t):=by
 rw [Bool.eq_iff_iff,ç,beq_iff_eq];exact⟨fun h=>(ÿ.1 h).symm,fun h=>ÿ.2 h.symm⟩
theorem UC: ∀(t s:O),s.length<t.length->cI t s= -1
 |t,[],h=>by rw [cI,UB h];rfl
 |t,b::s,h=>by rw [cI,UB h,UC t s (by simp at h;omega)];rfl
theorem aCu {t s:O} {i:Nat} (h:i<s.length) (hp:Ú t (s.drop i)=false):cI t (s.drop i)=cond (decide (0<=cI t (s.drop (i+1)))) (cI t (s.drop (i+1))+1) (-1):=by
 rw [Ä h]at hp |-;rw [cI,hp,ez]
theorem UD {t s:O} (hp:Ú t s=true):cI t s=0:=by
 cases s with
 |nil=>rw [cI,hp];rfl
 |cons b s=>rw [cI,hp];rfl
theorem UE {t s:O} (f:s.length<=1048576) (g:t.length<=1048576) (n:Nat): ∀k m (i:Nat),s.length-i=k->k<m->i<=s.length+1->
  zP n m (i:Int) t s=some (cond (decide (0<=cI t (s.drop i))&&decide (i<=s.length)) (.inr ((i:Int)+cI t (s.drop i)+1)) (.inl ()))
 |k,0,i,e,hm,hi=>by omega
 |k,m+1,i,e,hm,hi=>by
  have hw:wrap .i64 ((i:Int)+(t.length:Int))=((i+t.length:Nat):Int):=by rw [À];omega
  rw [arV,hw];by_cases h:i+t.length<=s.length
  .have p:=sY t (s.drop i)
   rw [hJ (by omega),Y,hJ (by omega),Y,hJ (show i<=s.length by omega),ē]
   have j:(s.drop (Æ (i:Int))).take (Æ ((i+t.length:Nat):Int)-Æ (i:Int))=(s.drop i).take t.length:=by
    rw [Ì,Ì,í]
   rw [j,<-aCt,dy (len:=i+1) (by omega) (by omega)]
   cases hp:Ú t (s.drop i)
   .rw [ez]
    by_cases b:i<s.length
    .rw [UE f g n (s.length-(i+1)) m (i+1) rfl (by omega) (by omega),aCu b hp,hJ (show i+1<=s.length by omega),ē]
     by_cases d:0<=cI t (s.drop (i+1))
     .rw [hJ d,Y,Y,hJ (by omega),Y]
      congr 2;omega
     .rw [hL d,ez,ez];rfl
    .have:t=[]:=ä (by omega)
     subst this;cases hp
   .rw [UD hp,Y]
    congr 2
  .rw [hL (show ¬((i+t.length:Nat):Int)<=(s.length:Int) by omega),ez]
   by_cases b:i<=s.length
   .rw [UC t (s.drop i) (by simp;omega)];rfl
   .rw [hL b,Bool.and_false];rfl
theorem aCv (s t:O) (d:s.length<=1048576) (f:t.length<=1048576):W fun n=>GL n s t=some (cI t s+1):=by
 refine(W.ge (s.length+1)).nm fun n g=> ?_
 rw [arU,show(0:Int)=((0:Nat):Int)from rfl,UE d f n (s.length-0) n 0 rfl (by omega) (by omega),Z]
 have h:=sY t s;rw [hJ (show 0<=s.length by omega),ē,ã]
 by_cases b:0<=cI t s
 .rw [hJ b,Y,uo];congr 1;omega
 .rw [hL b,ez,cP];congr 1;omega
theorem aCw (n:Nat) (s t:O):Ib (n+1) s t=cond (á (Þ (α:=UInt8) s) 4000000000) (some (cI t s)) none:=by kernel_rfl
theorem aCx (s t:O) (b:s.length<=1048576):W fun n=>Ib n s t=some (cI t s):=W.succ (W.of fun n=>by
 rw [aCw,Ó (by omega)];rfl)
def nz (s:O) (f t:Int):O:=if min t (s.length:Int)<max f 1 then []else(s.drop (max f 1-1).toNat).take ((min t (s.length:Int)).toNat-(max f 1-1).toNat)
theorem aCy (s:O) (f t:Int):(nz s f t).length<=s.length:=by
 unfold nz;split
 .simp
 .simp only [List.length_take,Ĝ];omega
theorem JW (s:O) (f t:Int):cond (decide (min t (s.length:Int)<max f 1)) (some []) (cond (decide (0<=max f 1-1/\max f 1-1<=min t (s.length:Int)/\min t (s.length:Int)<=(s.length:Int))) (some ((s.drop (Æ (max f 1-1))).take (Æ (min t (s.length:Int))-Æ (max f 1-1)))) none)=some (nz s f t):=by
 rw [nz];by_cases h:min t (s.length:Int)<max f 1
 .rw [hJ h,if_pos h];rfl
 .rw [hL h,if_neg h,ez,hJ (by omega),Y]
theorem UF (s:O) (f t:Int) (_:s.length<=1048576) (j: -100000000<=f/\f<=100000000):W fun n=>Bd n s f t=some (nz s f t):=W.succ (W.of fun n=>by
 have b:cond (decide ((s.length:Int)<t)) (s.length:Int) t=min t (s.length:Int):=by
  by_cases h:(s.length:Int)<t
  .rw [hJ h,Y];omega
  .rw [hL h,ez];omega
 have d:cond (decide (f<1)) 1 f=max f 1:=by
  by_cases h:f<1
  .rw [hJ h,Y];omega
  .rw [hL h,ez];omega
 have g:wrap .i64 (max f 1-1)=max f 1-1:=by rw [À];omega
 rw [awW,b,d,g,JW])
theorem UG (x y:Int):W fun n=>zw n x y=some (min y x):=W.succ (W.of fun n=>by
 rw [aqC];by_cases h:x<y
 .rw [hJ h,Y];congr 1;omega
 .rw [hL h,ez];congr 1;omega)
theorem UH (x y:Int):W fun n=>qv n x y=some (max x y):=W.succ (W.of fun n=>by
 rw [Qn];by_cases h:y<x
 .rw [hJ h,Y];congr 1;omega
 .rw [hL h,ez];congr 1;omega)
def ag (l:List V) (i:Nat):V:=l.getD i v0
theorem jm {l:List V} {i:Nat} (h:i<l.length):au l (i:Int)=some (ag l i):=by
 rw [bg h,ag];simp [h]
theorem eK {l:List V} (b: ∀v∈l,bR v) (i:Nat):bR (ag l i):=by
 by_cases h:i<l.length
 .have e:ag l i=l[i]:=by rw [ag];simp [h]
  rw [e];exact b _ (Å h)
 .have e:ag l i=v0:=by rw [ag];simp [h]
  rw [e];exact rO
def wP:O:=[108,101,110,103,116,104]
def JX:O:=[115,117,98,115,116,114]
def BY:O:=[105,110,100,101,120]
def BZ:O:=[105,110,116]
def Ca:O:=[117,112,112,101,114]
def Cb:O:=[108,111,119,101,114]
noncomputable def sZ (l:List V):Int:=if l.length=3 then cN (aJ (ag l 1))+cN (aJ (ag l 2))-1 else((aH (ag l 0)).length:Int)
noncomputable def iO (nm:O) (l:List V):V:=
 if nm=wP then nV (1000000*((aH (ag l 0)).length:Int))else if nm=BZ then nV (jc (aJ (ag l 0)))else if nm=BY then nV (1000000*(cI (aH (ag l 1)) (aH (ag l 0))+1))
 else if nm=Ca then tV (mo 97 65 (aH (ag l 0)))else if nm=Cb then tV (mo 65 97 (aH (ag l 0)))else tV (nz (aH (ag l 0)) (cN (aJ (ag l 1))) (sZ l))
theorem JY {nm:O} (h:nm∈iC):nm=wP\/nm=JX\/nm=BY\/nm=BZ\/nm=Ca\/nm=Cb:=by
 simpa [iC,wP,JX,BY,BZ,Ca,Cb]using h
theorem Cc {v:V} (h:bR v):wrap .i64 (Ï (aJ v) 1000000)=cN (aJ v)/\ -9000000<=cN (aJ v)/\cN (aJ v)<=9000000:=JT (jF h)
theorem aCz (l:List V) (b: ∀v∈l,bR v) (h2:2<=l.length/\l.length<=3):W fun n=>GM n l=some (nz (aH (ag l 0)) (cN (aJ (ag l 1))) (sZ l)):=by
 have p:=eK b 0;have d:=eK b 1;have g:=eK b 2;obtain⟨q,b1⟩:=Cc d;obtain⟨r,b2⟩:=Cc g;have hl:=kx p;have t:wrap .i64 (wrap .i64 (cN (aJ (ag l 1))+cN (aJ (ag l 2)))-1)=cN (aJ (ag l 1))+cN (aJ (ag l 2))-1:=by rw [À,À];omega
 have base:=((((iN (ag l 0)).and (jl d.2.1)).and (jl g.2.1)).and (UH (cN (aJ (ag l 1))) 1)).and (UG ((aH (ag l 0)).length:Int) (cN (aJ (ag l 1))+cN (aJ (ag l 2))-1));refine base.nm fun n ⟨⟨⟨⟨u,e2⟩,e3⟩,h⟩,e5⟩=> ?_
 have a0:au l 0=some (ag l 0):=jm (i:=0) (by omega)
 have a1:au l 1=some (ag l 1):=jm (i:=1) (by omega)
 rw [arX,sZ,a0,Z,u,Z,a1,Z,e2,Z,q];generalize cN (aJ (ag l 1))=f at*
 generalize aH (ag l 0)=s at*
 have j:wrap .i64 (max f 1-1)=max f 1-1:=by rw [À];omega
 by_cases m:l.length=3
 .have a2:au l 2=some (ag l 2):=jm (i:=2) (by omega)
  have z:((l.length:Int)==3)=true:=by simp;omega
  rw [z,Y,a2,Z,e3,Z,r,t,e5,Z,h,Z,j,JW,if_pos m]
 .have z:((l.length:Int)==3)=false:=by simp;omega
  have k:=JW s f (s.length:Int);rw [Int.min_self]at k;rw [z,ez,h,Z,j,k,if_neg m]
theorem UI {a b:O} (h:a≠b):(a==b)=false:=by simpa using h
theorem UJ (nm:O) (l:List V) (f: ∀v∈l,bR v) (p:1<=l.length/\l.length<=3) (k:l.length=1->nm=wP\/nm=BZ\/nm=Ca\/nm=Cb) (q:nm∈iC):W fun n=>vF n nm l=some (iO nm l):=by
 have g:=eK f 0;have r:=eK f 1;have u:=kx g;have z:=kx r;have a0:au l 0=some (ag l 0):=jm (i:=0) (by omega)
 rcases JY q with rfl|rfl|rfl|rfl|rfl|rfl
 .refine((iN (ag l 0)).and (jK (1000000*((aH (ag l 0)).length:Int)))).nm fun n ⟨d,b⟩=> ?_
  have w:wrap .i64 (1000000*((aH (ag l 0)).length:Int))=1000000*((aH (ag l 0)).length:Int):=by rw [À];omega
  rw [sK,show(wP==([108,101,110,103,116,104]:O))=true from rfl,Y,a0,Z,d,Z,w,b,iO,if_pos rfl];rfl
 .have m:2<=l.length:=by
   by_cases h:l.length=1
   .rcases k h with h|h|h|h<;>exact absurd h (by decide)
   .omega
  refine(aCz l f ⟨m,p.2⟩).nm fun n d=> ?_
  rw [sK,d];rfl
 .have m:2<=l.length:=by
   by_cases h:l.length=1
   .rcases k h with h|h|h|h<;>exact absurd h (by decide)
   .omega
  have s:au l 1=some (ag l 1):=jm (i:=1) (by omega)
  have hb:=sY (aH (ag l 1)) (aH (ag l 0));have w:wrap .i64 (1000000*(cI (aH (ag l 1)) (aH (ag l 0))+1))=1000000*(cI (aH (ag l 1)) (aH (ag l 0))+1):=by rw [À];omega
  refine((((iN (ag l 0)).and (iN (ag l 1))).and (aCv (aH (ag l 0)) (aH (ag l 1)) (by omega) (by omega))).and (jK (1000000*(cI (aH (ag l 1)) (aH (ag l 0))+1)))).nm fun n ⟨⟨⟨d,b⟩,j⟩,t⟩=> ?_
  rw [sK,a0,s];simp only [Z,d,b,j,w,t];rfl
 .refine(((jl g.2.1).and (aBO (jF g))).and (jK (jc (aJ (ag l 0))))).nm fun n ⟨⟨d,b⟩,j⟩=> ?_
  rw [sK,a0];simp only [Z,d,b,j];rfl
 .refine((iN (ag l 0)).and (Uz (aH (ag l 0)) 97 65 (by decide) (by decide) (by omega))).nm fun n ⟨d,b⟩=> ?_
  rw [sK,a0];have b:sn n (aH (ag l 0)) ((É (Æ 97)):UInt8) ((É (Æ 65)):UInt8)=_:=b;simp only [Z,d,b];rfl
 .refine((iN (ag l 0)).and (Uz (aH (ag l 0)) 65 97 (by decide) (by decide) (by omega))).nm fun n ⟨d,b⟩=> ?_
  rw [sK,a0];have b:sn n (aH (ag l 0)) ((É (Æ 65)):UInt8) ((É (Æ 97)):UInt8)=_:=b;simp only [Z,d,b];rfl
theorem Cd {l:List V} (_:1<=l.length) (i:Nat):ag (l++[v0]) i=ag l i:=by
 unfold ag;by_cases h:i<l.length
 .simp [List.getElem?_append_left h]
 .simp only [List.getD_eq_getElem?_getD]
  rw [ø (by omega),List.getElem?_eq_none (show l.length<=i by omega)]
  cases i-l.length<;>simp
theorem aCA {l:List V} {nm:O} (b:l.length=1):iO nm (l++[v0])=iO nm l:=by
 unfold iO sZ;rw [Cd (by omega),Cd (by omega),Cd (by omega),if_neg (show ¬(l++[v0]).length=3 by simp;omega),if_neg (show ¬l.length=3 by omega)]
theorem aCB {l:List V} (b: ∀v∈l,bR v): ∀v∈l++[v0],bR v:=fun v h=>by
 rcases å.1 h with h|h
 .exact b v h
 .rw [List.mem_singleton.1 h];exact rO
theorem aCC (nm:O) (l:List V) (g: ∀v∈l,bR v) (j:1<=l.length/\l.length<=3) (f:nm∈iC):W fun n=>GJ n nm l=some (iO nm l):=by
 by_cases b:l.length=1/\(nm=BY\/nm=JX)
 .refine(UJ nm (l++[v0]) (aCB g) (by simp;omega) (fun h=>absurd h (by rw [Ê,List.length_singleton];omega)) f).nm fun n d=> ?_
  have d:vF n nm (l++[(0,0,[])])=some (iO nm (l++[v0])):=d;rw [QS,hJ (show (l.length:Int)<2 by omega),Y]
  have k:(cond (nm==([105,110,100,101,120]:O)) (some true) (some (nm==([115,117,98,115,116,114]:O))))=some true:=by
   rcases b.2 with rfl|rfl<;>rfl
  rw [k,Z,Y,cA (by omega),Y,cA (by omega),Y,d,aCA b.1];rfl
 .refine(UJ nm l g j (fun h=> ?_) f).nm fun n d=> ?_
  .rcases JY f with k|k|k|k|k|k
   .exact .inl k
   .exact absurd ⟨h,.inr k⟩ b
   .exact absurd ⟨h,.inl k⟩ b
   .exact .inr (.inl k)
   .exact .inr (.inr (.inl k))
   .exact .inr (.inr (.inr k))
  .rw [QS]
   by_cases i:l.length=1
   .have k1:(nm==([105,110,100,101,120]:O))=false:=UI fun k=>b ⟨i,.inl k⟩
    have k2:(nm==([115,117,98,115,116,114]:O))=false:=UI fun k=>b ⟨i,.inr k⟩
    rw [hJ (show (l.length:Int)<2 by omega),k1,k2]
    simp only [Y,ez,Z,d]
   .rw [hL (show ¬(l.length:Int)<2 by omega)]
    simp only [ez,Z,d]
def iQ (l:List V):List V:=if l.length=1 then l++[v0]else l
theorem aCD {l:List V} (h:1<=l.length):2<=(iQ l).length/\((iQ l).length=3↔l.length=3)/\(l.length<=3->(iQ l).length<=3):=by
 unfold iQ;split
 .simp;omega
 .omega
theorem aCE (l:List V) (nm:O) (d:1<=l.length/\l.length<=3):W fun n=>Bc n n 0 0 [] l nm=some (.inl (0,0,[],iQ l,nm)):=by
 refine(W.ge 2).mono fun n f=> ?_
 obtain⟨n,rfl⟩: ∃k,n=k+2:=⟨n-2,by omega⟩
 rw [RU,iQ];by_cases h:l.length=1
 .have b:Az (n+2) l=some l:=by rw [Ul,cA (by omega)];rfl
  rw [hJ (by omega),Y,b,Z,cA (by omega),Y,RU,hL (by simp;omega),if_pos h];rfl
 .rw [hL (by omega),if_neg h];rfl
theorem aCF {l:List V} (b:1<=l.length) (i:Nat):ag (iQ l) i=ag l i:=by
 unfold iQ;split
 .exact Cd b i
 .rfl
theorem at0 {l:List V} {i:Nat} (h:i<(iQ l).length) (b:1<=l.length):aM (iQ l) i=some (ag l i):=by
 have k:=ff h;rw [Ì]at k;rw [k,<-aCF b,ag];simp [h]
theorem aCG (nm:O) (l:List V) (m: ∀v∈l,bR v) (j:1<=l.length/\l.length<=3) (u:nm∈iC):W fun n=>Ia n nm l=some (iO nm l):=by
 have p:=eK m 0;have k:=eK m 1;have s:=eK m 2;have l0:=kx p;have l1:=kx k;have hp:=aCD j.1;have a0:=at0 (l:=l) (i:=0) (by omega) j.1
 have q:=at0 (l:=l) (i:=1) (by omega) j.1
 have g0:decide ((0:Int)<=0/\(0:Int)<((iQ l).length:Int))=true:=hJ (by omega)
 have g1:decide ((0:Int)<=1/\(1:Int)<((iQ l).length:Int))=true:=hJ (by omega)
 have base:=(aCE l nm j).and (mj (ag l 0));rcases JY u with rfl|rfl|rfl|rfl|rfl|rfl
 .refine(base.and (mh (1000000*((aH (ag l 0)).length:Int)))).nm fun n ⟨⟨d,f⟩,b⟩=> ?_
  have w:wrap .i64 (((aH (ag l 0)).length:Int)*1000000)=1000000*((aH (ag l 0)).length:Int):=by rw [À];omega
  rw [qI,d,Z,cP,g0,Y,a0,Z,f,Z,w,b];rfl
 .obtain⟨w1,b1⟩:=Cc k
  obtain⟨w2,b2⟩:=Cc s;by_cases t:l.length=3
  .have a2:=at0 (l:=l) (i:=2) (by omega) j.1
   have g2:decide ((0:Int)<=2/\(2:Int)<((iQ l).length:Int))=true:=hJ (by omega)
   have z:wrap .i64 (wrap .i64 (cN (aJ (ag l 1))+cN (aJ (ag l 2)))-1)=cN (aJ (ag l 1))+cN (aJ (ag l 2))-1:=by rw [À,À];omega
   refine((((base.and (BV k)).and (BV s)).and (UF (aH (ag l 0)) (cN (aJ (ag l 1))) (cN (aJ (ag l 1))+cN (aJ (ag l 2))-1) (by omega) (by omega))).and (qM (nz (aH (ag l 0)) (cN (aJ (ag l 1))) (cN (aJ (ag l 1))+cN (aJ (ag l 2))-1)))).nm fun n ⟨⟨⟨⟨⟨d,f⟩,b⟩,g⟩,h⟩,r⟩=> ?_
   rw [qI,d,Z,cP,g0,Y,a0,Z,f,Z];simp only [g1,g2,q,a2,Z,b,g,z,h,r,Y];rw [hJ (show (2:Int)<((iQ l).length:Int) by omega),iO,sZ,if_pos t];rfl
  .refine(((base.and (BV k)).and (UF (aH (ag l 0)) (cN (aJ (ag l 1))) ((aH (ag l 0)).length:Int) (by omega) (by omega))).and (qM (nz (aH (ag l 0)) (cN (aJ (ag l 1))) ((aH (ag l 0)).length:Int)))).nm fun n ⟨⟨⟨⟨d,f⟩,b⟩,h⟩,r⟩=> ?_
   rw [qI,d,Z,cP,g0,Y,a0,Z,f,Z];simp only [g1,q,Z,b,h,r,Y];rw [hL (show ¬(2:Int)<((iQ l).length:Int) by omega),iO,sZ,if_neg t];rfl
 .have hb:=sY (aH (ag l 1)) (aH (ag l 0))
  have w0:wrap .i64 (cI (aH (ag l 1)) (aH (ag l 0))+1)=cI (aH (ag l 1)) (aH (ag l 0))+1:=by rw [À];omega
  have w:wrap .i64 ((cI (aH (ag l 1)) (aH (ag l 0))+1)*1000000)=1000000*(cI (aH (ag l 1)) (aH (ag l 0))+1):=by rw [À];omega
  refine(((base.and (mj (ag l 1))).and (aCx (aH (ag l 0)) (aH (ag l 1)) (by omega))).and (mh (1000000*(cI (aH (ag l 1)) (aH (ag l 0))+1)))).nm fun n ⟨⟨⟨⟨d,f⟩,b⟩,g⟩,h⟩=> ?_
  rw [qI,d,Z,cP,g0,Y,a0,Z,f,Z];simp only [g1,q,Z,b,g,w0,w,h,Y];rfl
 .refine(((base.and (nu p.2.1)).and (Uh (jF p))).and (mh (jc (aJ (ag l 0))))).nm fun n ⟨⟨⟨⟨d,f⟩,b⟩,g⟩,h⟩=> ?_
  rw [qI,d,Z,cP,g0,Y,a0,Z,f,Z];simp only [Z,b,g,h,Y];rfl
 .refine((base.and (UA (aH (ag l 0)) 97 65 (by decide) (by decide) (by omega))).and (qM (mo 97 65 (aH (ag l 0))))).nm fun n ⟨⟨⟨d,f⟩,b⟩,g⟩=> ?_
  have b:sE n (aH (ag l 0)) ((É (Æ 97)):UInt8) ((É (Æ 65)):UInt8)=_:=b;rw [qI,d,Z,cP,g0,Y,a0,Z,f,Z];simp only [Z,b,g];rfl
 .refine((base.and (UA (aH (ag l 0)) 65 97 (by decide) (by decide) (by omega))).and (qM (mo 65 97 (aH (ag l 0))))).nm fun n ⟨⟨⟨d,f⟩,b⟩,g⟩=> ?_
  have b:sE n (aH (ag l 0)) ((É (Æ 65)):UInt8) ((É (Æ 97)):UInt8)=_:=b;rw [qI,d,Z,cP,g0,Y,a0,Z,f,Z];simp only [Z,b,g];rfl
theorem aCH (nm:O) {l:List V} (d: ∀v∈l,bR v):bR (iO nm l):=by
 have f:=eK d 0;have g:=eK d 1;have b:=kx f;unfold iO;split
 .exact lR (fW (by omega))
 split
 .exact lR (YK (jF f))
 split
 .have h:=sY (aH (ag l 1)) (aH (ag l 0))
  exact lR (fW (by omega))
 split
 .exact rP (by simpa [mo]using b)
 split
 .exact rP (by simpa [mo]using b)
 .exact rP (Ĩ (aCy _ _ _) b)
theorem UK {s:O} (h:jG s) {i:Nat} (d:1<=i) (b:i<s.length): ¬(s[i]).toNat<=(s[i-1]'(by omega)).toNat:=by
 have:=List.pairwise_iff_getElem.1 h (i-1) i (by omega) b (by omega)
 omega
theorem UL {s:O} {i:Nat} (b:1<=i) (d:i<s.length) (f:s.length<=1048576):bF s (wrap .i64 ((i:Int)-1))=some (s[i-1]'(by omega)):=by
 rw [show wrap .i64 ((i:Int)-1)=((i-1:Nat):Int) by rw [À];omega,df (by omega)]
theorem UM {s:O} (d:s.length<=1048576) (h:jG s) (n:Nat): ∀k m (i:Nat),s.length-i=k->k<m->1<=i->zH n m (i:Int) s=some (.inl ())
 |k,0,i,e,hm,hi=>by omega
 |k,m+1,i,e,hm,hi=>by
  rw [arF];by_cases b:i<s.length
  .rw [bu b,UL hi b d,df b]
   simp only [Y,Z];have k:=UK h hi b;rw [hL (by omega),ez,dy b (by omega)]
   exact UM d h n _ m (i+1) rfl (by omega) (by omega)
  .rw [hL (by omega)];rfl
theorem aCI {s:O} (b:s.length<=1048576) (h:jG s):W fun n=>se n s=some true:=by
 refine(W.ge (s.length+1)).nm fun n d=> ?_
 rw [arE,show(1:Int)=((1:Nat):Int)from rfl,UM b h n _ n 1 rfl (by omega) (by omega)];rfl
theorem JZ {s:O} (d:s.length<=1048576) (h:jG s) (n:Nat) (o c:Int) (neg:Bool) (ks:aT): ∀k m (i:Nat),s.length-i=k->k<m->i<=s.length->we n m o c s neg ks (i:Int) (s.length:Int)=some (.inl (o,c,s,neg,ks))
 |k,0,i,e,hm,hi=>by omega
 |k,m+1,i,e,hm,hi=>by
  rw [awK];by_cases b:i<s.length
  .rw [bu b,Y,dy b (by omega)]
   by_cases f:0<i
   .rw [hJ (show (0:Int)<(i:Int) by omega),UL f b d,df b]
    simp only [Y,Z];have k:=UK h f b;rw [hL (by omega),ez]
    exact JZ d h n o c neg ks _ m (i+1) rfl (by omega) (by omega)
   .rw [hL (show ¬(0:Int)<(i:Int) by omega),ez]
    exact JZ d h n o c neg ks _ m (i+1) rfl (by omega) (by omega)
  .rw [hL (by omega)];rfl
theorem UN (t q:O): ∀p:O,0<=cI t (p++(t++q))
 | []=>by
  rw [UD]
  .exact ý _
  .rw [ê,ç];exact List.prefix_append _ _
 |b::p=>by
  have ih:=UN t q p;rw [ĝ,cI];cases Ú t (b::(p++(t++q)))
  .rw [ez,hJ ih,Y];omega
  .exact ý _
theorem aCJ (n:Nat) (s:O):sw (n+1) s [93]=some (decide (0<=Ü s 93)):=by kernel_rfl
theorem aCK (n:Nat) (s:O):sw (n+1) s [92,93,94]=cond (á (Þ (α:=UInt8) s) 4000000000) (some (decide (0<=cI [92,93,94] s))) none:=by kernel_rfl
theorem Ka {s:O} (h:jG s):s.length<=256:=by
 have key: ∀(l:O) (k:Nat),jG l->(∀b∈l,k<=b.toNat)->l.length+k<=256\/l=[]:=by
  intro l;induction l with
  |nil=>intro k _ _;exact .inr rfl
  |cons a l ih=>
   intro k d f;have m:=a.toNat_lt;have hk:=f a (by simp)
   obtain⟨g,i⟩:=List.pairwise_cons.1 d;rcases ih (a.toNat+1) i (fun b j=>g b j)with h|h
   .left;simp only [Á];omega
   .left;rw [h];simp only [Á,Ë];omega
 rcases key s 0 h (fun _ _=>by omega)with h|h
 .omega
 .rw [h];simp
theorem aCL {s:O} {neg:Bool} (h:yg s neg) (o c:Int) (ks:aT):W fun n=>AP n o c s neg ks=some true:=by
 obtain⟨f,d,g,b⟩:=h;have m:=Ka d;refine(W.ge (s.length+2)).nm fun n r=> ?_
 obtain⟨n,rfl⟩: ∃q,n=q+1:=⟨n-1,by omega⟩
 have i:(s==([]:O))=false:=by simpa using f
 rw [awJ,show(0:Int)=((0:Nat):Int)from rfl,JZ (by omega) d (n+1) o c neg ks _ (n+1) 0 rfl (by omega) (by omega),Z,cP]
 dsimp only
 rw [aCJ,aCK,Ó (by omega),i]
 have k:(cond (decide (0<=Ü s 93)) (some (!decide (0<=cI [92,93,94] s))) (some false):Option Bool)=some false:=by
  by_cases hm:(93:UInt8)∈s
  .obtain⟨p,q,e⟩:=g hm
   rw [hJ ((sQ s 93).2.2 hm),Y,e,hJ (UN _ _ _)];rfl
  .rw [hL (fun k=>hm ((sQ s 93).2.1 k))];rfl
 simp only [Z,Y]at k |-;rw [k];rcases b with rfl|b
 .rfl
 .have j:(s==([94]:O))=false:=by simpa using b
  rw [j];cases neg<;>rfl
theorem Kb: ∀(ks:List Tr) (a:Int),0<=a->(∀k∈ks,0<=dh k/\dh k<=eh k)->a<=fV a ks/\(∀k∈ks,dh k<=fV a ks)/\fV a ks<=a+cx ks
 | [],a,f,h=>by rw [fV,cx];exact⟨ý _,fun k hk=>(by cases hk),by omega⟩
 |t::r,a,f,h=>by
  have g:=h t (by simp)
  rw [fV,cx];have key: ∀b:Int,a<=b->dh t<=b->b<=a+eh t->a<=fV b r/\(∀k∈t::r,dh k<=fV b r)/\fV b r<=a+((eh t+cx r:Nat):Int):=fun b d i j=>by
   obtain⟨i1,i2,i3⟩:=Kb r b (by omega) (fun k hk=>h k (by simp [hk]))
   refine⟨by omega,fun k hk=> ?_,by omega⟩
   rcases è.1 hk with rfl|hk
   .omega
   .exact i2 k hk
  by_cases d:a<dh t
  .rw [hJ d,Y];exact key _ (by omega) (by omega) (by omega)
  .rw [hL d,ez];exact key _ (by omega) (by omega) (by omega)
theorem Ce: ∀ {ks:List Tr} {k:Tr},k∈ks->eh k<=cx ks
 |a::r,k,h=>by
  rw [cx];rcases è.1 h with rfl|h
  .omega
  .have:=Ce h;omega
theorem Kc {t:Tr} (h:fM t):eh t<=1000000->1<=dh t/\dh t<=eh t/\dh t=fV 0 (dO t)+1:=by
 induction h with
 |mk h k ih=>
  rename_i t;intro d;rw [Ei]at d |-;obtain⟨i1,i2,i3⟩:=Kb (dO t) 0 (ý _) (fun x b=>by
   have:=Ce b;have:=ih x b (by omega)
   omega)
  have e:dh t=fV 0 (dO t)+1:=by rw [Jp,À];omega
  rw [e];omega
theorem aCM {t:Tr} (h:fM t) (d:eh t<=1000000) {x:Tr} (b:x∈dO t):dh x+1<=dh t:=by
 obtain⟨-, -,e⟩:=Kc h d;obtain⟨h,k⟩:=h;rw [Ei]at d;have:=(Kb (dO t) 0 (ý _) (fun x b=>by
   have f:=Ce b;have:=Kc (k x b) (by omega)
   omega)).2.1 x b
 omega
theorem UO {o c:Int} {s:O} {neg:Bool} {ks:List Tr} (d:ks.length<=1048576) {n:Nat} (h: ∀x∈ks,vD n (aF x).1 (aF x).2.1 (aF x).2.2.1 (aF x).2.2.2.1 (aF x).2.2.2.2=some true): ∀k m (i:Nat),ks.length-i=k->k<m->i<=ks.length->zG n m o c s neg ks (i:Int)=some (.inl (o,c,s,neg,ks))
 |k,0,i,e,hm,hi=>by omega
 |k,m+1,i,e,hm,hi=>by
  rw [arD];by_cases b:i<ks.length
  .rw [bu b,Y,mb b,Z,h _ (Å b),dy b (by omega)]
   exact UO d h _ m (i+1) rfl (by omega) (by omega)
  .rw [hL (by omega)];rfl
theorem aCN {o c:Int} {s:O} {neg:Bool} {k:Nat} (h:Eh o c s neg k) {n:Nat} (hu:jG s->se n s=some true) (i: ∀x lo hi:Int,cq n x lo hi=some (bo (In x lo hi))):
  cond (o==(1:Int)) (((cq n c 0 255).bind fun f=>cond f (cond (s==([]:O)) (cond (!neg) (some ((k:Int)==(0:Int))) (some false)) (some false)) (some false)).bind fun d=>some d) (cond (o==(3:Int)) ((cond (c==(0:Int)) (cond (!(s==([]:O))) ((se n s).bind fun f=>cond f (some ((k:Int)==(0:Int))) (some false)) (some false)) (some false)).bind fun d=>some d) (cond (o==(6:Int)) ((cond (c==(0:Int)) (cond (s==([]:O)) (cond (!neg) (some (decide ((2:Int)<=(k:Int)))) (some false)) (some false)) (some false)).bind fun d=>some d) (cond (o==(7:Int)) ((cond (c==(0:Int)) (cond (s==([]:O)) (cond (!neg) (some (decide ((2:Int)<=(k:Int)))) (some false)) (some false)) (some false)).bind fun d=>some d) (cond (o==(8:Int)) ((cond (c==(0:Int)) (cond (s==([]:O)) (cond (!neg) (some ((k:Int)==(1:Int))) (some false)) (some false)) (some false)).bind fun d=>some d) (cond (o==(9:Int)) ((cond (c==(0:Int)) (cond (s==([]:O)) (cond (!neg) (some ((k:Int)==(1:Int))) (some false)) (some false)) (some false)).bind fun d=>some d) (cond (o==(10:Int)) ((cond (c==(0:Int)) (cond (s==([]:O)) (cond (!neg) (some ((k:Int)==(1:Int))) (some false)) (some false)) (some false)).bind fun d=>some d) (((cq n o 2 11).bind fun f=>cond f (cond (c==(0:Int)) (cond (s==([]:O)) (cond (!neg) (some ((k:Int)==(0:Int))) (some false)) (some false)) (some false)) (some false)).bind fun d=>some d)))))))=some true:=by
 rcases h with⟨rfl,a,b,rfl,rfl,rfl⟩|⟨rfl,rfl,⟨a,b, -⟩,rfl⟩|⟨g,rfl,rfl,rfl,hk⟩|⟨g,rfl,rfl,rfl,rfl⟩|⟨g,rfl,rfl,rfl,rfl⟩
 .rw [i,aB ⟨a,b⟩];rfl
 .have j:(s==([]:O))=false:=by simpa using a
  rw [hu b,j];rfl
 .have e:decide ((2:Int)<=(k:Int))=true:=hJ (by omega)
  rcases g with rfl|rfl<;>rw [e]<;>rfl
 .rcases g with rfl|rfl|rfl<;>rfl
 .rcases g with rfl|rfl|rfl|rfl<;>rw [i,i,aB (show In _ 2 11 from⟨by omega,by omega⟩)]<;>rfl
theorem UP:W fun n=> ∀x lo hi:Int,cq n x lo hi=some (bo (In x lo hi)):=W.succ (W.of fun n x lo hi=>by
 obtain⟨N,h⟩:=cS x lo hi;rw [<-h (max N (n+1)) (Nat.le_max_left _ _)];obtain⟨q,b⟩: ∃q,max N (n+1)=q+1:=⟨max N (n+1)-1,by omega⟩
 rw [b,wz,wz])
theorem aCO {t:Tr} (h:fM t) (g:hC t):W fun n=>vD n (aF t).1 (aF t).2.1 (aF t).2.2.1 (aF t).2.2.2.1 (aF t).2.2.2.2=some true:=by
 induction h with
 |mk h k ih=>
  rename_i t;obtain⟨p,hk⟩:=g;have b:W fun n=>jG (aF t).2.2.1->se n (aF t).2.2.1=some true:=by
   by_cases d:jG (aF t).2.2.1
   .exact(aCI (by have:=Ka d;omega) d).mono fun n e _=>e
   .exact W.of fun n k=>absurd k d
  refine((((W.all (dO t) fun x f=>ih x f (hk x f)).and b).and UP).and (W.ge ((dO t).length+1))).nm fun n ⟨⟨⟨i,j⟩,m⟩,q⟩=> ?_
  rw [arC,show(0:Int)=((0:Nat):Int)from rfl,show(aF t).2.2.2.2=dO t from rfl,UO (by omega) i _ n 0 rfl (by omega) (by omega),Z,cP]
  exact aCN h j m
theorem UQ {ks:List Tr} (f:ks.length<=1048576) (d:Int) {n:Nat} (h: ∀x∈ks,AO n d (aF x).1 (aF x).2.1 (aF x).2.2.1 (aF x).2.2.2.1 (aF x).2.2.2.2=some (false,d)): ∀k m (i:Nat),ks.length-i=k->k<m->i<=ks.length->AM n m d (i:Int) ks (ks.length:Int)=some (.inl d)
 |k,0,i,e,hm,hi=>by omega
 |k,m+1,i,e,hm,hi=>by
  rw [awH];by_cases b:i<ks.length
  .rw [bu b,Y,mb b,Z,h _ (Å b),dy b (by omega)]
   exact UQ f d h _ m (i+1) rfl (by omega) (by omega)
  .rw [hL (by omega)];rfl
theorem aCP {t:Tr} (h:fM t) (hs:hC t): ∀d:Int,eh t<=1000000->dh t<=d->d<=100->W fun n=>AL n (aF t).1 (aF t).2.1 (aF t).2.2.1 (aF t).2.2.2.1 (aF t).2.2.2.2 d=some true:=by
 induction h with
 |mk h k ih=>
  rename_i t;intro d m hd u;obtain⟨hl,hk⟩:=hs;have hr:fM t:=.mk h k;obtain⟨d1, -, -⟩:=Kc hr m;have hw:wrap .i64 (d-1)=d-1:=by rw [À];omega
  have g:W fun n=> ∀x∈dO t,AO n d (aF x).1 (aF x).2.1 (aF x).2.2.1 (aF x).2.2.2.1 (aF x).2.2.2.2=some (false,d):=by
   refine W.all (dO t) fun x j=> ?_
   have ah:=aCM hr m j;have ai:=Ce j;rw [Ei]at m;refine(ih x j (hk x j) (d-1) (by omega) (by omega) (by omega)).nm fun n e=> ?_
   rw [awI,hw,e];rfl
  have p:W fun n=>ji n d (dO t)=some (false,d):=by
   refine W.succ ((g.and (W.ge ((dO t).length+1))).nm fun n ⟨q,e2⟩=> ?_)
   rw [awF,awG,show(0:Int)=((0:Nat):Int)from rfl,UQ (by omega) d q _ n 0 rfl (by omega) (by omega)];rfl
  have f:W fun n=>yg (aF t).2.2.1 (aF t).2.2.2.1->AP n (aF t).1 (aF t).2.1 (aF t).2.2.1 (aF t).2.2.2.1 (aF t).2.2.2.2=some true:=by
   by_cases ha:yg (aF t).2.2.1 (aF t).2.2.2.1
   .exact(aCL ha _ _ _).mono fun n e _=>e
   .exact W.of fun n k=>absurd k ha
  refine((p.and f).and (di (aF t).2.1 0 255)).nm fun n ⟨⟨q,e2⟩,e3⟩=> ?_
  have z:(d==(0:Int))=false:=by simp;omega
  have r:ji n d (aF t).2.2.2.2=some (false,d):=q;rw [awE,z,r,e3];have hlen:(dO t).length=(aF t).2.2.2.2.length:=rfl;rw [hlen]at h;generalize (aF t).2.2.2.2.length=kl at*
  generalize (aF t).1=o at*
  generalize (aF t).2.1=c at*
  generalize (aF t).2.2.1=s at*
  generalize (aF t).2.2.2.1=neg at*
  rcases h with⟨rfl,a,b,rfl,rfl,rfl⟩|⟨rfl,rfl,f,rfl⟩|⟨i,rfl,rfl,rfl,al⟩|⟨i,rfl,rfl,rfl,rfl⟩|⟨i,rfl,rfl,rfl,rfl⟩
  .rw [aB ⟨a,b⟩];rfl
  .rw [e2 f];rfl
  .have e:decide ((1:Int)<(kl:Int))=true:=hJ (by omega)
   rcases i with rfl|rfl<;>rw [e]<;>rfl
  .rcases i with rfl|rfl|rfl<;>rfl
  .rcases i with rfl|rfl|rfl|rfl<;>rfl
theorem aCQ {t:Tr} (h:fM t) (b:hC t) (_:eh t<=1000000) (hd:dh t<=12):W fun n=>Gz n (aF t).1 (aF t).2.1 (aF t).2.2.1 (aF t).2.2.2.1 (aF t).2.2.2.2=some true:=by
 refine((Jq b).2.and (aCO h b)).nm fun n ⟨d,f⟩=> ?_
 rw [arB,d,Z,hJ hd,Y,f];rfl
theorem aCR {t:Tr} (h:fM t) (b:hC t) (d:eh t<=1000000) (hd:dh t<=12):W fun n=>HW n (aF t).1 (aF t).2.1 (aF t).2.2.1 (aF t).2.2.2.1 (aF t).2.2.2.2=some true:=by
 refine(aCP h b 12 d hd (by omega)).nm fun n f=> ?_
 rw [awD,f];rfl
def pl (o a b:Int):Pl:=(o,0,[],false,a,b)
theorem my {α:Type} (l:List α) (x y:α) (r:List α):(l++x::r).set l.length y=l++y::r:=by
 rw [Ĉ _ _ (Î _),ĩ];rfl
theorem jN {α:Type} (l:List α) (x:α) (r:List α):aM (l++x::r) l.length=some x:=by
 show(l++x::r)[l.length]? =some x;rw [ø (Î _),ĩ];rfl
theorem nA {α:Type} (l:List α) (x:α) (r:List α):decide ((0:Int)<=(l.length:Int)/\(l.length:Int)<((l++x::r).length:Int))=true:=hJ (by simp;omega)
theorem wQ (l:List Pl) (o:Int) (b:l.length<=1048576):W fun n=>lX n l o=some (l++[pl o 0 0]):=W.succ (W.of fun n=>by
 rw [Bz,cA (by omega)];rfl)
def jn (S:Tr->Nat->List Pl):List Tr->Nat->List Pl
 | [],_=>[]
 |k::r,b=>S k b++jn S r (b+(S k b).length)
def dG (S:Tr->Nat->List Pl) (e:Int):List Tr->Nat->List Pl
 | [],_=>[]
 |k::r,b=>pl 7 ((b+1:Nat):Int) ((b+2+(S k (b+1)).length:Nat):Int)::(S k (b+1)++pl 6 e 0::dG S e r (b+2+(S k (b+1)).length))
def ie (S:Tr->Nat->List Pl):List Tr->Nat->List Int
 | [],_=>[]
 |k::r,b=>((b+1+(S k (b+1)).length:Nat):Int)::ie S r (b+2+(S k (b+1)).length)
def jo (t:Tr) (S:Nat->List Pl):Prop:=
 (∀b,(S b).length+2<=5*eh t)/\ ∀l:List Pl,l.length+6*eh t<=1000000->
  (W fun n=>lW n l (aF t).1 (aF t).2.1 (aF t).2.2.1 (aF t).2.2.2.1 (aF t).2.2.2.2=some (l++S l.length))/\
  (W fun n=>jJ n l (aF t).1 (aF t).2.1 (aF t).2.2.1 (aF t).2.2.2.1 (aF t).2.2.2.2=some (l++S l.length))
theorem UR {S:Tr->Nat->List Pl}: ∀(ks:List Tr) (b:Nat),(∀k∈ks,jo k (S k))->(jn S ks b).length<=5*cx ks
 | [],b,h=>by simp [jn]
 |k::r,b,h=>by
  have d:=(h k (by simp)).1 b
  have f:=UR r (b+(S k b).length) (fun k hk=>h k (by simp [hk]))
  rw [jn,cx,Ê];omega
theorem Kd {S:Tr->Nat->List Pl} {e:Int}: ∀(ks:List Tr) (b:Nat),(∀k∈ks,jo k (S k))->(dG S e ks b).length<=5*cx ks
 | [],b,h=>by simp [dG]
 |k::r,b,h=>by
  have d:=(h k (by simp)).1 (b+1)
  have f:=Kd (S:=S) (e:=e) r (b+2+(S k (b+1)).length) (fun k hk=>h k (by simp [hk]))
  rw [dG,cx,Á,Ê,Á];omega
theorem drop_cons {ks r:List Tr} {k:Tr} {i:Nat} (h:ks.drop i=k::r): ∃hi:i<ks.length,ks[i]=k/\ks.drop (i+1)=r:=by
 have hi:i<ks.length:=by
  by_cases c:i<ks.length
  .exact c
  .rw [Ą (by omega)]at h;cases h
 rw [Ä hi]at h;exact⟨hi,(List.cons.inj h).1,(List.cons.inj h).2⟩
theorem drop_nil {ks:List Tr} {i:Nat} (h:ks.drop i=[]):ks.length<=i:=č.1 h
theorem US {S:Tr->Nat->List Pl} {o c:Int} {s:O} {neg:Bool} {ks:List Tr} (f:ks.length<=1048576): ∀(r:List Tr) (i:Nat) (l:List Pl),ks.drop i=r->i<=ks.length->(∀k∈r,jo k (S k))->l.length+6*cx r<=1000000->
  W fun n=> ∀m,r.length<m->zI n m o c s neg ks (i:Int) l=some (.inl (l++jn S r l.length))
 | [],i,l,e,hi,h,d=>W.of fun n m hm=>by
  obtain⟨m,rfl⟩: ∃q,m=q+1:=⟨m-1,by simp at hm;omega⟩
  have:=drop_nil e;rw [QJ,hL (by omega),ez,jn,Ø]
 |k::r,i,l,e,hi,h,d=>by
  obtain⟨b,g,j⟩:=drop_cons e;rw [cx]at d;have hk:=h k (by simp)
  have u:=hk.1 l.length;have ih:=US (o:=o) (c:=c) (s:=s) (neg:=neg) f r (i+1) (l++S k l.length) j (by omega) (fun k hk=>h k (by simp [hk])) (by rw [Ê];omega)
  refine((hk.2 l (by omega)).1.and ih).mono fun n ⟨p,t⟩ m hm=> ?_
  obtain⟨m,rfl⟩: ∃q,m=q+1:=⟨m-1,by simp at hm;omega⟩
  rw [QJ,bu b,Y,mb b,g,Z,p,Z,dy b (by omega),t m (by simpa using hm),jn,Ê,î]
theorem UT {S:Tr->Nat->List Pl} {ks:List Tr} (f:ks.length<=1048576): ∀(r:List Tr) (i:Nat) (l:List Pl),ks.drop i=r->i<=ks.length->(∀k∈r,jo k (S k))->l.length+6*cx r<=1000000->
  W fun n=> ∀m,r.length<m->AQ n m (i:Int) l ks (ks.length:Int)=some (.inl (l++jn S r l.length))
 | [],i,l,e,hi,h,d=>W.of fun n m hm=>by
  obtain⟨m,rfl⟩: ∃q,m=q+1:=⟨m-1,by simp at hm;omega⟩
  have:=drop_nil e;rw [RI,hL (by omega),ez,jn,Ø]
 |k::r,i,l,e,hi,h,d=>by
  obtain⟨b,g,j⟩:=drop_cons e;rw [cx]at d;have hk:=h k (by simp)
  have t:=hk.1 l.length;have ih:=UT f r (i+1) (l++S k l.length) j (by omega) (fun k hk=>h k (by simp [hk])) (by rw [Ê];omega)
  refine((hk.2 l (by omega)).2.and ih).mono fun n ⟨p,s⟩ m hm=> ?_
  obtain⟨m,rfl⟩: ∃q,m=q+1:=⟨m-1,by simp at hm;omega⟩
  rw [RI,bu b,Y,mb b,g,Z,p,Z,dy b (by omega),s m (by simpa using hm),jn,Ê,î]
theorem UU (S:Tr->Nat->List Pl) (k:Tr) (r:List Tr) (l:List Pl) (e:Int):(l++pl 7 ((l.length+1:Nat):Int) ((l.length+2+(S k (l.length+1)).length:Nat):Int)::(S k (l.length+1)++[pl 6 e 0]))++dG S e r (l++pl 7 ((l.length+1:Nat):Int) ((l.length+2+(S k (l.length+1)).length:Nat):Int)::(S k (l.length+1)++[pl 6 e 0])).length=l++dG S e (k::r) l.length:=by
 have b:(l++pl 7 ((l.length+1:Nat):Int) ((l.length+2+(S k (l.length+1)).length:Nat):Int)::(S k (l.length+1)++[pl 6 e 0])).length=l.length+2+(S k (l.length+1)).length:=by simp;omega
 rw [b,dG];simp
theorem UW {S:Tr->Nat->List Pl} {ks:List Tr} (hl:ks.length<=1048576) (j:ks≠ []): ∀(r:List Tr) (i:Nat) (l:List Pl) (J:List Int),(ks.dropLast).drop i=r->i<=ks.dropLast.length->(∀k∈r,jo k (S k))->l.length+6*cx r+6<=1000000->J.length+r.length<=1048576->
  W fun n=> ∀m,r.length<m->zJ n m (i:Int) J ks l=some (.inl (J++ie S r l.length,ks,l++dG S 0 r l.length))
 | [],i,l,J,e,hi,h,p,t=>W.of fun n m hm=>by
  obtain⟨m,rfl⟩: ∃q,m=q+1:=⟨m-1,by simp at hm;omega⟩
  have u:=drop_nil e;have z:0<ks.length:=ó.2 j;have h3:ks.dropLast.length=ks.length-1:=Ď;have hw:wrap .i64 ((ks.length:Int)-1)=((ks.length-1:Nat):Int):=by rw [À];omega
  rw [QK,hw,hL (by omega),ez,dG,ie,Ø,Ø]
 |k::r,i,l,J,e,hi,h,p,t=>by
  obtain⟨u,z,h3⟩:=drop_cons e;have h4:ks.dropLast.length=ks.length-1:=Ď;have hw:wrap .i64 ((ks.length:Int)-1)=((ks.length-1:Nat):Int):=by rw [À];omega
  have h5:ks[i]'(by omega)=k:=by rw [<-z,List.getElem_dropLast]
  rw [cx]at p;have hk:=h k (by simp)
  have hb:=hk.1 (l.length+1);obtain⟨s,g⟩: ∃s,s=S k (l.length+1):=⟨_,rfl⟩
  have ai:s.length+2<=5*eh k:=g▸hb;have p1:=wQ l 7 (by omega)
  have p2:=wQ (l++[pl 7 0 0]++s) 6 (by simp;omega)
  have d:=(hk.2 (l++[pl 7 0 0]) (by simp;omega)).1
  rw [show (l++[pl 7 0 0]).length=l.length+1 by simp,<-g]at d
  simp only [Á]at t;have f:(l++pl 7 ((l.length+1:Nat):Int) ((l.length+2+s.length:Nat):Int)::(s++[pl 6 0 0])).length=l.length+2+s.length:=by simp;omega
  have ih:=UW hl j r (i+1) (l++pl 7 ((l.length+1:Nat):Int) ((l.length+2+s.length:Nat):Int)::(s++[pl 6 0 0])) (J++[((l.length+1+s.length:Nat):Int)]) h3 (by omega) (fun k hk=>h k (by simp [hk])) (by rw [f];omega) (by simp;omega)
  refine(((p1.and p2).and d).and ih).mono fun n ⟨⟨⟨e1,e2⟩,e3⟩,e4⟩ m hm=> ?_
  obtain⟨m,rfl⟩: ∃q,m=q+1:=⟨m-1,by simp at hm;omega⟩
  have hr:l++[pl 7 0 0]++s++[pl 6 0 0]=l++pl 7 0 0::(s++[pl 6 0 0]):=by simp
  have hlen:(l++[pl 7 0 0]++s).length=l.length+1+s.length:=by simp;omega
  rw [QK,hw,hJ (show (i:Int)<((ks.length-1:Nat):Int) by omega),Y,e1,Z,mb (show i<ks.length by omega),h5,Z,e3,Z,cA (by omega),Y,e2,Z,hr,nA,Y,Ì,jN,Z,my,nA,Y,jN,Z,my,dy u (by omega),jL (by omega),hlen]
  have k1:=e4 m (by simpa using hm)
  have b:((l++((pl 7 0 0).1,(pl 7 0 0).2.1,(pl 7 0 0).2.2.1,(pl 7 0 0).2.2.2.1,((l.length+1:Nat):Int),(pl 7 0 0).2.2.2.2.2)::(s++[pl 6 0 0])).length:Int)=((l.length+2+s.length:Nat):Int):=by simp;omega
  rw [b];refine k1.trans ?_
  have ho:=UU S k r l 0;rw [<-g]at ho;rw [ho,f,ie,<-g];simp
theorem UX {S:Tr->Nat->List Pl} {ks:List Tr} (hl:ks.length<=1048576) (p:List Tr): ∀(r:List Tr) (i:Nat) (l:List Pl) (J:List Int),ks.drop i=r->i<=ks.length->(∀k∈r,jo k (S k))->l.length+6*cx r+6<=1000000->J.length+r.length<=1048576->
  W fun n=> ∀m,r.length<m->AR n m (i:Int) J l ks p (ks.length:Int)=some (.inl (J++ie S r l.length,p,l++dG S 0 r l.length))
 | [],i,l,J,e,hi,h,u,z=>W.of fun n m hm=>by
  obtain⟨m,rfl⟩: ∃q,m=q+1:=⟨m-1,by simp at hm;omega⟩
  have g:=drop_nil e;rw [RJ,hL (by omega),ez,dG,ie,Ø,Ø]
 |k::r,i,l,J,e,hi,h,u,z=>by
  obtain⟨g,h2,h3⟩:=drop_cons e;rw [cx]at u;have hk:=h k (by simp)
  have hb:=hk.1 (l.length+1);obtain⟨s,j⟩: ∃s,s=S k (l.length+1):=⟨_,rfl⟩
  have ai:s.length+2<=5*eh k:=j▸hb;have d:=(hk.2 (l++[pl 7 ((l.length+1:Nat):Int) 0]) (by simp;omega)).2
  rw [show (l++[pl 7 ((l.length+1:Nat):Int) 0]).length=l.length+1 by simp,<-j]at d
  simp only [Á]at z;have f:(l++pl 7 ((l.length+1:Nat):Int) ((l.length+2+s.length:Nat):Int)::(s++[pl 6 0 0])).length=l.length+2+s.length:=by simp;omega
  have ih:=UX hl p r (i+1) (l++pl 7 ((l.length+1:Nat):Int) ((l.length+2+s.length:Nat):Int)::(s++[pl 6 0 0])) (J++[((l.length+1+s.length:Nat):Int)]) h3 (by omega) (fun k hk=>h k (by simp [hk])) (by rw [f];omega) (by simp;omega)
  refine(d.and ih).mono fun n ⟨e3,e4⟩ m hm=> ?_
  obtain⟨m,rfl⟩: ∃q,m=q+1:=⟨m-1,by simp at hm;omega⟩
  have t:jJ n (l++[((7:Int),(0:Int),([]:O),false,((l.length+1:Nat):Int),(0:Int))]) (aF k).1 (aF k).2.1 (aF k).2.2.1 (aF k).2.2.2.1 (aF k).2.2.2.2=some (l++[pl 7 ((l.length+1:Nat):Int) 0]++s):=e3;have hr:l++[pl 7 ((l.length+1:Nat):Int) 0]++s++[((6:Int),(0:Int),([]:O),false,(0:Int),(0:Int))]=l++pl 7 ((l.length+1:Nat):Int) 0::(s++[pl 6 0 0]):=by simp [pl]
  have hlen:(l++[pl 7 ((l.length+1:Nat):Int) 0]++s).length=l.length+1+s.length:=by simp;omega
  have b:((l++pl 7 ((l.length+1:Nat):Int) 0::(s++[pl 6 0 0])).length:Int)=((l.length+2+s.length:Nat):Int):=by simp;omega
  rw [RJ,bu g,Y,mb g,h2,Z,cA (by omega),Y,jL (by omega),t,Z,cA (by omega),Y,hlen,cA (by omega),Y,hr,nA,Y,Ì,jN,Z,my,b,dy g (by omega)]
  have k1:=e4 m (by simpa using hm)
  refine k1.trans ?_
  have ho:=UU S k r l 0;rw [<-j]at ho;rw [ho,f,ie,<-j];simp
theorem Ke {S:Tr->Nat->List Pl} {δ:Type} {z:List Pl} {J:List Int} {L:Nat->Int->List Pl->Option (Sum (List Pl) δ)} {e:Nat} (h:J.length<=1048576)
  (hx: ∀m (i:Nat) (l:List Pl) (j:Nat) (x:Pl),l.length=e->J[i]? =some (j:Int)->l[j]? =some x->L (m+1) (i:Int) l=L m ((i+1:Nat):Int) (l.set j (x.1,x.2.1,x.2.2.1,x.2.2.2.1,(e:Int),x.2.2.2.2.2)))
  (he: ∀m (i:Nat) l,J.length<=i->L (m+1) (i:Int) l=some (.inl l)): ∀(r:List Tr) (i m:Nat) (l:List Pl),J.drop i=ie S r l.length->r.length<m->(l++(dG S 0 r l.length++z)).length=e->
  L m (i:Int) (l++(dG S 0 r l.length++z))=some (.inl (l++(dG S (e:Int) r l.length++z)))
 | [],i,m,l,f,hm,hlen=>by
  obtain⟨m,rfl⟩: ∃q,m=q+1:=⟨m-1,by simp at hm;omega⟩
  rw [ie]at f;rw [he m i _ (č.1 f),dG,dG]
 |k::r,i,m,l,f,hm,hlen=>by
  obtain⟨m,rfl⟩: ∃q,m=q+1:=⟨m-1,by simp at hm;omega⟩
  obtain⟨s,p⟩: ∃s,s=S k (l.length+1):=⟨_,rfl⟩
  rw [ie]at f;rw [dG,<-p]at hlen |-;rw [dG,<-p];rw [<-p]at f;have hi:J[i]? =some ((l.length+1+s.length:Nat):Int):=by
   have:=congrArg (fun q=>q[0]?) f
   simpa using this
  have hd:J.drop (i+1)=ie S r (l.length+2+s.length):=by
   have:=congrArg List.tail f;rw [ĉ]at this;exact this
  have b: ∀t:Int,l++(pl 7 ((l.length+1:Nat):Int) ((l.length+2+s.length:Nat):Int)::(s++pl 6 t 0::dG S 0 r (l.length+2+s.length))++z)=(l++pl 7 ((l.length+1:Nat):Int) ((l.length+2+s.length:Nat):Int)::s)++pl 6 t 0::(dG S 0 r (l.length+2+s.length)++z):=fun t=>by simp
  have d: ∀q:List Pl,(l++pl 7 ((l.length+1:Nat):Int) ((l.length+2+s.length:Nat):Int)::s)++pl 6 (e:Int) 0::q=(l++pl 7 ((l.length+1:Nat):Int) ((l.length+2+s.length:Nat):Int)::(s++[pl 6 (e:Int) 0]))++q:=fun q=>by simp
  have hp:(l++pl 7 ((l.length+1:Nat):Int) ((l.length+2+s.length:Nat):Int)::s).length=l.length+1+s.length:=by simp;omega
  have g:(l++pl 7 ((l.length+1:Nat):Int) ((l.length+2+s.length:Nat):Int)::(s++[pl 6 (e:Int) 0])).length=l.length+2+s.length:=by simp;omega
  have u:=hx m i (l++(pl 7 ((l.length+1:Nat):Int) ((l.length+2+s.length:Nat):Int)::(s++pl 6 0 0::dG S 0 r (l.length+2+s.length))++z)) (l.length+1+s.length) (pl 6 0 0) hlen hi (by
   rw [b 0,<-hp];exact jN _ _ _)
  rw [u,b 0,<-hp,my];have ih:=Ke h hx he r (i+1) m (l++pl 7 ((l.length+1:Nat):Int) ((l.length+2+s.length:Nat):Int)::(s++[pl 6 (e:Int) 0])) (by rw [g];exact hd) (by simpa using hm) (by
   rw [g,<-d];rw [b 0]at hlen;simpa using hlen)
  rw [g]at ih;rw [show ((pl 6 0 0).1,(pl 6 0 0).2.1,(pl 6 0 0).2.2.1,(pl 6 0 0).2.2.2.1,(e:Int),(pl 6 0 0).2.2.2.2.2)=pl 6 (e:Int) 0 from rfl,d];refine ih.trans ?_
  simp
end Go.Proofs.YtfpfjmahdneehaaGreatDoor
