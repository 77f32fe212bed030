/- A verified evaluator of the machine's code, part 1: no program in sight. -/
import Derived.Calls
import Derived.RowKit3
import Derived.Below
import Derived.Laws.AppendOwn
import Derived.Laws.IdiomCopy
import Derived.WalkKit
import Derived.Laws.StructEq
open Option renaming isSome_iff_exists->À,map_eq_some_iff->Á,bind_eq_some_iff->Ò
open Prod.mk renaming injEq->Â
open Nat renaming beq->Ã,mul_le_mul_right->Æ,eq_of_beq_eq_true->Ç,le_of_ble_eq_true->È,ble->Ê,min_eq_left->Ð,lt_of_lt_of_le->Ñ,add_sub_cancel->è,add_zero->í,min_eq_right->ï,add_mul->ð,add_comm->ö,succ_mul->ø,one_mul->û,sub_mul->ü,mod_le->ý
open Option.some renaming injEq->Ä
open List renaming mem_cons->Å,eq_nil_iff_forall_not_mem->Ë,take_append_drop->Î,getElem?_eq_some_iff->Ï,take_of_length_le->Ô,drop_of_length_le->Õ,drop_take->Ø,take_take->Ù,drop_drop->Ú,length_take->Û,eq_nil_of_length_eq_zero->Ü,take_succ_cons->Ý,drop_eq_getElem_cons->Þ,flatMap_cons->ß,cons_append->á,append_eq_nil_iff->æ,drop_succ_cons->ç,length_append->é,getElem?_take->ê,getElem?_drop->ë,length_cons->î,nil_append->ò,mem_append->ó,length_nil->ô,replicate->õ,length->ù,append->ú,take->þ,drop->ÿ,cons->Ā,set->Ă,map->ă
open Bool renaming false_eq_true->É,and_eq_true->à
open BitVec renaming ofInt->Ì
open Go.Op renaming equalIn->Í,stringOp->Ó,equal->â,intCmp->ã,bytesLess->ä,intBits->ì,intArith->ñ,intDiv->ā,shift->Ą
open Go.Result renaming andThen_ok->Ö
open Go.Sem renaming run_bind->å
namespace Go.Ev
theorem Z {α β:Type _} (a:α) (f:α->Option β):(some a).bind f=f a:=rfl
theorem Y {α:Sort _} {a b:α}:cond true a b=a:=rfl
theorem ez {α:Sort _} {a b:α}:cond false a b=b:=rfl
theorem hJ {p:Prop} [h:Decidable p] (a:p):decide p=true:=_root_.decide_eq_true a
theorem hL {p:Prop} [h:Decidable p] (a:¬p):decide p=false:=_root_.decide_eq_false a
theorem hZ {a:Option Func} {b c:Func} (h:a=some b) (e:b=c):a=some c:=h.trans (congrArg some e)
abbrev O:=List UInt8
mutual
inductive CT where
 |bool
 |int (k:IntKind)
 |str
 |sl (ts:aR)
 |tree (fs:aR)
inductive aR where
 |one (c:CT)
 |cons (c:CT) (cs:aR)
end
instance:Inhabited CT:=⟨.bool⟩
instance:Inhabited aR:=⟨.one .bool⟩
mutual
def CT.beq:CT->CT->Bool
 |.bool,.bool=>true
 |.int a,.int b=>decide (a=b)
 |.str,.str=>true
 |.sl a,.sl b=>aR.beq a b
 |.tree a,.tree b=>aR.beq a b
 |_,_=>false
def aR.beq:aR->aR->Bool
 |.one a,.one b=>CT.beq a b
 |.cons a x,.cons b y=>CT.beq a b&&aR.beq x y
 |_,_=>false
end
mutual
theorem CT.eq_of_beq: ∀(a b:CT),a.beq b=true->a=b
 |.bool,b,h=>by cases b<;>simp_all [CT.beq]
 |.int _,b,h=>by cases b<;>simp_all [CT.beq]
 |.str,b,h=>by cases b<;>simp_all [CT.beq]
 |.sl x,b,h=>by
  cases b<;>simp only [CT.beq,É]at h
  rw [aR.eq_of_beq _ _ h]
 |.tree x,b,h=>by
  cases b<;>simp only [CT.beq,É]at h
  rw [aR.eq_of_beq _ _ h]
theorem aR.eq_of_beq: ∀(a b:aR),a.beq b=true->a=b
 |.one x,b,h=>by
  cases b<;>simp only [aR.beq,É]at h
  rw [CT.eq_of_beq _ _ h]
 |.cons x xs,b,h=>by
  cases b<;>simp only [aR.beq,É,à]at h
  rw [CT.eq_of_beq _ _ h.1,aR.eq_of_beq _ _ h.2]
end
inductive RT (F:Type) where
 |mk (x:F) (kids:List (RT F))
def pQ:IntKind->Type
 |.u8=>UInt8
 |_=>Int
mutual
abbrev Interp:CT->Type
 |.bool=>Bool
 |.int k=>pQ k
 |.str=>O
 |.sl ts=>List (bg ts)
 |.tree fs=>List (RT (bg fs))
abbrev bg:aR->Type
 |.one c=>Interp c
 |.cons c cs=>Interp c×bg cs
end
def aR.size:aR->Nat
 |.one _=>1
 |.cons _ cs=>cs.size+1
abbrev aR.snoc:aR->CT->aR
 |.one c,d=>.cons c (.one d)
 |.cons c cs,d=>.cons c (cs.snoc d)
def aR.list:aR->List CT
 |.one c=>[c]
 |.cons c cs=>c::cs.list
inductive bf where
 |b (x:Bool)
 |i (k:IntKind) (n:Int)
 |s (x:O)
 |l (sz:Nat) (cs:List bf)
def jz:(k:IntKind)->pQ k->Int
 |.u8,x=>((show UInt8 from x).toNat:Int)
 |.u16,x=>x|.u32,x=>x|.u64,x=>x
 |.i8,x=>x|.i16,x=>x|.i32,x=>x|.i64,x=>x
def tO:(k:IntKind)->Int->pQ k
 |.u8,n=>UInt8.ofNat n.toNat
 |.u16,n=>n|.u32,n=>n|.u64,n=>n
 |.i8,n=>n|.i16,n=>n|.i32,n=>n|.i64,n=>n
mutual
def RT.enc {F:Type} (f:F->List bf) (sz:Nat):RT F->List bf
 |.mk x kids=>f x++[.l sz (RT.tP f sz kids)]
def RT.tP {F:Type} (f:F->List bf) (sz:Nat):List (RT F)->List bf
 | []=>[]
 |k::ks=>RT.enc f sz k++RT.tP f sz ks
end
mutual
def enc:(c:CT)->Interp c->bf
 |.bool,x=>.b x
 |.int k,x=>.i k (jz k x)
 |.str,x=>.s x
 |.sl ts,xs=>.l ts.size (List.flatMap (bH ts) xs)
 |.tree fs,xs=>.l (fs.size+1) (RT.tP (bH fs) (fs.size+1) xs)
def bH:(ts:aR)->bg ts->List bf
 |.one c,x=>[enc c x]
 |.cons c cs,x=>enc c x.1::bH cs x.2
end
abbrev ak:CT->aR
 |.sl ts=>ts
 |.tree fs=>fs.snoc (.tree fs)
 |c=>.one c
def pR:(fs:aR)->(c:CT)->bg fs->Interp c->bg (fs.snoc c)
 |.one _,_,x,y=>(x,y)
 |.cons _ cs,c,x,y=>(x.1,pR cs c x.2 y)
def nX:(fs:aR)->(c:CT)->bg (fs.snoc c)->bg fs×Interp c
 |.one _,_,x=>(x.1,x.2)
 |.cons _ cs,c,x=>((x.1,(nX cs c x.2).1),(nX cs c x.2).2)
def xB (fs:aR):RT (bg fs)->bg (fs.snoc (.tree fs))
 |.mk x kids=>pR fs (.tree fs) x kids
def tQ (fs:aR) (x:bg (fs.snoc (.tree fs))):RT (bg fs):=
 .mk (nX fs (.tree fs) x).1 (nX fs (.tree fs) x).2
def bN:CT->Bool
 |.sl _|.tree _=>true
 |_=>false
def aE:(c:CT)->Interp c->Nat
 |.sl _,xs=>ù xs
 |.tree _,xs=>ù xs
 |_,_=>0
def nth {α:Type} (l:List α) (i:Nat):Option α:=l[i]?
def jV:(c:CT)->Interp c->Nat->Option (bg (ak c))
 |.sl ts,xs,i=>nth (α:=bg ts) xs i
 |.tree fs,xs,i=>(nth (α:=RT (bg fs)) xs i).map (xB fs)
 |_,_,_=>none
def lL:(c:CT)->Interp c->Nat->bg (ak c)->Interp c
 |.sl _,xs,i,e=>Ă xs i e
 |.tree fs,xs,i,e=>Ă xs i (tQ fs e)
 |_,x,_,_=>x
def jA:(c:CT)->Interp c->Interp c->Interp c
 |.sl _,xs,b=>ú xs b
 |.tree _,xs,b=>ú xs b
 |_,x,_=>x
def fU:(c:CT)->Nat->Interp c->Interp c
 |.sl _,n,xs=>þ n xs
 |.tree _,n,xs=>þ n xs
 |_,_,x=>x
def gp:(c:CT)->Nat->Interp c->Interp c
 |.sl _,n,xs=>ÿ n xs
 |.tree _,n,xs=>ÿ n xs
 |_,_,x=>x
def LP:(k:IntKind)->pQ k
 |.u8=>(0:UInt8)
 |.u16=>(0:Int)|.u32=>(0:Int)|.u64=>(0:Int)
 |.i8=>(0:Int)|.i16=>(0:Int)|.i32=>(0:Int)|.i64=>(0:Int)
def ea:(c:CT)->Interp c
 |.bool=>false
 |.int k=>LP k
 |.str=>[]
 |.sl _=>[]
 |.tree _=>[]
def mS:(ts:aR)->bg ts
 |.one c=>ea c
 |.cons c cs=>(ea c,mS cs)
def pS:(c:CT)->bg (ak c)->Interp c->Interp c
 |.sl _,x,xs=>Ā x xs
 |.tree fs,x,xs=>Ā (tQ fs x) xs
 |_,_,xs=>xs
end Go.Ev
namespace Go.Ev
abbrev Heap:=Nat->Option Obj
def ir (n:Nat) (f:Nat×Nat):Prop:= ∀o,o<n-> ¬(f.1<=o/\o<f.2)
def nY (sz n:Nat) (f:Nat×Nat):Prop:=ir n f/\(sz=1\/f=(0,0))
mutual
def aD (H:Heap) (R:Nat->Prop) (own:Bool):bf->Value->List Nat->Prop
 |.b x,v,fp=>v=.bool x/\fp=[]
 |.i k n,v,fp=>v=.int k n/\(k.min<=n/\n<=k.max)/\fp=[]
 |.s x,v,fp=>v=.string ⟨x.toArray⟩/\x.length<=maxLen/\fp=[]
 |.l sz cs,v,fp=> ∃a len cap,v=.slice a len cap/\0<sz/\cs.length=len*sz/\len<=cap/\cap<=maxLen/\
   ((own=true/\((cap=0/\fp=[])\/ ∃g cur ty frz fps,a=some ⟨g,0,none⟩/\H g=some (.cells cur ty frz)/\cur.size=cap*sz/\nY sz cur.size frz/\
     fp=g::fps/\au H R own cs (cur.toList.take (len*sz)) fps))\/
    (own=false/\fp=[]/\(cs=[]\/ ∃g off cur ty frz,a=some ⟨g,off,none⟩/\R g/\H g=some (.cells cur ty frz)/\off+len*sz<=cur.size/\
     au H R own cs ((cur.toList.drop off).take (len*sz)) [])))
def au (H:Heap) (R:Nat->Prop) (own:Bool):List bf->List Value->List Nat->Prop
 | [],vs,fp=>vs=[]/\fp=[]
 |d::ds,vs,fp=> ∃v f f1 f2,vs=v::f/\fp=f1++f2/\aD H R own d v f1/\au H R own ds f f2
end
variable {H H':Heap} {R R':Nat→Prop} {own:Bool}
theorem au.length: ∀ {ds:List bf} {vs:List Value} {fp:List Nat},au H R own ds vs fp->ds.length=vs.length
 | [],vs,fp,h=>by simp [au]at h;simp [h.1]
 |d::ds,vs,fp,h=>by
  simp only [au]at h;obtain⟨v,b,f1,f2,rfl, -, -,f⟩:=h;simp [au.length f]
mutual
theorem aD.frame: ∀ {d:bf} {v:Value} {fp:List Nat},aD H R own d v fp->(∀b,b∈fp\/R b->H' b=H b)->(∀b,R b->R' b)->aD H' R' own d v fp
 |.b _,_,_,h,_,_=>by simpa [aD]using h
 |.i _ _,_,_,h,_,_=>by simpa [aD]using h
 |.s _,_,_,h,_,_=>by simpa [aD]using h
 |.l sz cs,v,fp,h,j,p=>by
  simp only [aD]at h |-;obtain⟨a,len,cap,rfl,h0,r,t,h3,f⟩:=h;refine⟨a,len,cap,rfl,h0,r,t,h3, ?_⟩
  rcases f with⟨u,f⟩|⟨u,k,f⟩
  .left
   refine⟨u, ?_⟩
   rcases f with f|⟨g,cur,ty,frz,fps,z,hg,hs,hz,k,hr⟩
   .exact .inl f
   .subst k
    exact .inr ⟨g,cur,ty,frz,fps,z,(j g (.inl (by simp))).trans hg,hs,hz,rfl,au.frame hr (fun b m=>j b (m.imp (fun h=>by simp [h]) id)) p⟩
  .right
   refine⟨u,k, ?_⟩
   rcases f with f|⟨g,off,cur,ty,frz,z,q,hg,hs,hr⟩
   .exact .inl f
   .exact .inr ⟨g,off,cur,ty,frz,z,p g q,(j g (.inr q)).trans hg,hs,au.frame hr (fun b m=>j b (m.imp (fun h=>by simp at h) id)) p⟩
theorem au.frame: ∀ {ds:List bf} {vs:List Value} {fp:List Nat},au H R own ds vs fp->(∀b,b∈fp\/R b->H' b=H b)->(∀b,R b->R' b)->au H' R' own ds vs fp
 | [],_,_,h,_,_=>by simpa [au]using h
 |d::ds,vs,fp,h,j,p=>by
  simp only [au]at h |-;obtain⟨v,ag,f1,f2,rfl,rfl,r,t⟩:=h;exact⟨v,ag,f1,f2,rfl,rfl,aD.frame r (fun b m=>j b (m.imp (fun h=>by simp [h]) id)) p,au.frame t (fun b m=>j b (m.imp (fun h=>by simp [h]) id)) p⟩
end
mutual
theorem aD.share: ∀ {d:bf} {v:Value} {fp:List Nat},aD H R true d v fp->(∀b,b∈fp->R' b)->aD H R' false d v []
 |.b _,_,_,h,_=>by simp [aD]at h |-;exact h.1
 |.i _ _,_,_,h,_=>by simp [aD]at h |-;exact⟨h.1,h.2.1⟩
 |.s _,_,_,h,_=>by simp [aD]at h |-;exact⟨h.1,h.2.1⟩
 |.l sz cs,v,fp,h,f=>by
  simp only [aD]at h |-;obtain⟨a,len,cap,rfl,t,k,m,u,p⟩:=h;refine⟨a,len,cap,rfl,t,k,m,u,.inr ⟨by simp,by simp, ?_⟩⟩
  rcases p with⟨-,p⟩|⟨z, -⟩
  .rcases p with⟨hc, -⟩|⟨g,cur,ty,frz,fps,ha,hg,hs,hz,q,hr⟩
   .left
    have:len=0:=by omega
    subst this;exact Ü (by simpa using k)
   .subst q
    refine .inr ⟨g,0,cur,ty,frz,ha,f g (by simp),hg, ?_, ?_⟩
    .have:=Æ sz m
     omega
    .simpa using au.share hr (fun b j=>f b (by simp [j]))
  .simp at z
theorem au.share: ∀ {ds:List bf} {vs:List Value} {fp:List Nat},au H R true ds vs fp->(∀b,b∈fp->R' b)->au H R' false ds vs []
 | [],_,_,h,_=>by simp [au]at h |-;exact h.1
 |d::ds,vs,fp,h,f=>by
  simp only [au]at h |-;obtain⟨v,r,f1,f2,rfl,rfl,k,m⟩:=h;exact⟨v,r,[],[],rfl,rfl,aD.share k (fun b j=>f b (by simp [j])),au.share m (fun b j=>f b (by simp [j]))⟩
end
theorem au.append: ∀ {ds es:List bf} {vs us:List Value} {f g:List Nat},au H R own ds vs f->au H R own es us g->au H R own (ds++es) (vs++us) (f++g)
 | [],es,vs,us,f,g,h,k=>by
  simp only [au]at h;obtain⟨rfl,rfl⟩:=h;simpa using k
 |d::ds,es,vs,us,f,g,h,k=>by
  simp only [au]at h;obtain⟨v,b,f1,f2,rfl,rfl,i,j⟩:=h;simp only [á,au];exact⟨v,b++us,f1,f2++g,rfl,by simp,i,au.append j k⟩
theorem au.split: ∀ {ds es:List bf} {vs:List Value} {f:List Nat},au H R own (ds++es) vs f->
  ∃f1 f2,f=f1++f2/\au H R own ds (vs.take ds.length) f1/\au H R own es (vs.drop ds.length) f2
 | [],es,vs,f,h=>⟨[],f,rfl,by simp [au],by simpa using h⟩
 |d::ds,es,vs,f,h=>by
  simp only [á,au]at h;obtain⟨v,b,f1,f2,rfl,rfl,g,i⟩:=h;obtain⟨g1,g2,rfl,k1,k2⟩:=au.split i;refine⟨f1++g1,g2,by simp, ?_,by simpa using k2⟩
  simp only [î,Ý,au];exact⟨v,_,f1,g1,rfl,rfl,g,k1⟩
def cC:Value->Bool
 |.agg _|.tuple _=>false
 |_=>true
theorem aD.cC {d:bf} {v:Value} {fp:List Nat} (h:aD H R own d v fp):cC v=true:=by
 cases d<;>simp only [aD]at h
 .obtain⟨rfl, -⟩:=h;rfl
 .obtain⟨rfl, -⟩:=h;rfl
 .obtain⟨rfl, -⟩:=h;rfl
 .obtain⟨a,l,c,rfl, -⟩:=h;rfl
theorem au.cC: ∀ {ds:List bf} {vs:List Value} {fp:List Nat},au H R own ds vs fp-> ∀v∈vs,Ev.cC v=true
 | [],vs,fp,h,v,b=>by simp [au]at h;simp [h.1]at b
 |d::ds,vs,fp,h,v,b=>by
  simp only [au]at h;obtain⟨u,f,f1,f2,rfl,rfl,g,i⟩:=h;rcases Å.1 b with rfl|b
  .exact g.cC
  .exact au.cC i v b
end Go.Ev
namespace Go.Ev
def dy:(c:CT)->Interp c->List (bg (ak c))
 |.sl ts,xs=>ă (fun x:bg ts=>x) xs
 |.tree fs,xs=>ă (xB fs) xs
 |.bool,_=>[]|.int _,_=>[]|.str,_=>[]
theorem aR.size_pos: ∀ts:aR,0<ts.size
 |.one _=>by simp [aR.size]
 |.cons _ _=>by simp [aR.size]
theorem aR.LQ (c:CT): ∀fs:aR,(fs.snoc c).size=fs.size+1
 |.one _=>rfl
 |.cons _ cs=>by simp [aR.size,aR.LQ c cs]
theorem kM: ∀(ts:aR) (x:bg ts),(bH ts x).length=ts.size
 |.one c,x=>by simp [bH,aR.size]
 |.cons c cs,x=>by simp [bH,aR.size,kM cs x.2]
theorem LR (c:CT): ∀(fs:aR) (x:bg fs) (y:Interp c),bH (fs.snoc c) (pR fs c x y)=bH fs x++[enc c y]
 |.one d,x,y=>by simp [bH,pR]
 |.cons d ds,x,y=>by simp [bH,pR,LR c ds x.2 y]
theorem LS (c:CT): ∀(fs:aR) (x:bg (fs.snoc c)),pR fs c (nX fs c x).1 (nX fs c x).2=x
 |.one d,x=>rfl
 |.cons d ds,x=>by
  have h:=LS c ds x.2;show(x.1,pR ds c (nX ds c x.2).1 (nX ds c x.2).2)=_;rw [h]
theorem Dh (fs:aR) (x:bg (fs.snoc (.tree fs))):xB fs (tQ fs x)=x:=LS _ _ _
theorem RT.LU {F:Type} (f:F->List bf) (sz:Nat): ∀l:List (RT F),RT.tP f sz l=l.flatMap (RT.enc f sz)
 | []=>rfl
 |k::ks=>by simp [RT.tP,RT.LU f sz ks]
theorem Xz (fs:aR) (t:RT (bg fs)):bH (fs.snoc (.tree fs)) (xB fs t)=RT.enc (bH fs) (fs.size+1) t:=by
 cases t with
 |mk x kids=>exact LR (.tree fs) fs x kids
def cz (c:CT) (x:Interp c):List bf:=(dy c x).flatMap (bH (ak c))
theorem tR {c:CT} (h:bN c=true) (x:Interp c):enc c x=.l (ak c).size (cz c x):=by
 cases c<;>simp [bN]at h
 .simp [enc,cz,dy,ak]
 .rename_i fs
  simp only [enc,cz,dy,ak,aR.LQ,RT.LU];congr 1
  rw [List.flatMap_map];congr 1
  funext t
  rw [Xz]
theorem iu {c:CT} (x:Interp c):aE c x=(dy c x).length:=by
 cases c<;>simp [aE,dy]
theorem LV {c:CT} (x:Interp c) (i:Nat):jV c x i=(dy c x)[i]? :=by
 cases c<;>simp [jV,dy,nth,ak]
theorem XA {c:CT} (x:Interp c) (i:Nat) (e:bg (ak c)) (h:bN c=true):dy c (lL c x i e)=(dy c x).set i e:=by
 cases c<;>simp [bN]at h
 .simp [lL,dy]
 .rename_i fs
  simp only [lL,dy,List.map_set];congr 1
  exact Dh fs e
theorem LW {c:CT} (x y:Interp c) (h:bN c=true):dy c (jA c x y)=dy c x++dy c y:=by
 cases c<;>simp [bN]at h
 .simp [jA,dy]
 .simp only [jA,dy];exact List.map_append
theorem xC {c:CT} (n:Nat) (x:Interp c):dy c (fU c n x)=(dy c x).take n:=by
 cases c<;>simp [fU,dy,List.map_take]
theorem xD {c:CT} (n:Nat) (x:Interp c):dy c (gp c n x)=(dy c x).drop n:=by
 cases c<;>simp [gp,dy,List.map_drop]
theorem LX {c:CT} (e:bg (ak c)) (x:Interp c) (h:bN c=true):dy c (pS c e x)=e::dy c x:=by
 cases c<;>simp [bN]at h
 .simp [pS,dy]
 .rename_i fs
  simp only [pS,dy,List.map_cons];congr 1
  exact Dh fs e
theorem xE {c:CT}:dy c (ea c)=[]:=by
 cases c<;>simp [ea,dy]
theorem LY {α β:Type} (f:α->List β) (s:Nat) (b: ∀x,(f x).length=s): ∀l:List α,(l.flatMap f).length=l.length*s
 | []=>by simp
 |a::l=>by simp [LY f s b l,b,ð,ö]
theorem LZ {α β:Type} (f:α->List β) (s:Nat) (b: ∀x,(f x).length=s): ∀(l:List α) (n:Nat),(l.take n).flatMap f=(l.flatMap f).take (n*s)
 | [],n=>by simp
 |a::l,0=>by simp
 |a::l,n+1=>by
  simp only [Ý,ß,LZ f s b l n,ð,û];rw [List.take_append,b,Ô (l:=f a) (by rw [b];omega),è]
theorem Ma {α β:Type} (f:α->List β) (s:Nat) (b: ∀x,(f x).length=s): ∀(l:List α) (n:Nat),(l.drop n).flatMap f=(l.flatMap f).drop (n*s)
 | [],n=>by simp
 |a::l,0=>by simp
 |a::l,n+1=>by
  simp only [ç,ß,Ma f s b l n,ð,û];rw [List.drop_append,b,Õ (l:=f a) (by rw [b];omega),è,ò]
theorem gX {c:CT} (x:Interp c):(cz c x).length=aE c x*(ak c).size:=by
 rw [iu];exact LY _ _ (kM _) _
theorem XB {c:CT} (x y:Interp c) (h:bN c=true):cz c (jA c x y)=cz c x++cz c y:=by
 simp [cz,LW x y h]
theorem xF {c:CT} (n:Nat) (x:Interp c):cz c (fU c n x)=(cz c x).take (n*(ak c).size):=by
 rw [cz,xC];exact LZ _ _ (kM _) _ _
theorem Di {c:CT} (n:Nat) (x:Interp c):cz c (gp c n x)=(cz c x).drop (n*(ak c).size):=by
 rw [cz,xD];exact Ma _ _ (kM _) _ _
theorem Dj {c:CT} {x:Interp c} {i:Nat} {e:bg (ak c)} (h:jV c x i=some e):
  cz c x=(cz c x).take (i*(ak c).size)++(bH (ak c) e++(cz c x).drop ((i+1)*(ak c).size)):=by
 rw [<-xF,<-Di];simp only [cz,xC,xD];rw [LV]at h;have b:i<(dy c x).length:=(Ï.1 h).1
 conv=>lhs;rw [<-Î i (dy c x),List.flatMap_append]
 congr 1
 rw [Þ b];simp only [ß];congr 2
 exact(Ï.1 h).2
theorem XC {c:CT} (b:bN c=true) {x:Interp c} {i:Nat} (e:bg (ak c)) (h:i<aE c x):
  cz c (lL c x i e)=(cz c x).take (i*(ak c).size)++(bH (ak c) e++(cz c x).drop ((i+1)*(ak c).size)):=by
 rw [<-xF,<-Di];simp only [cz,xC,xD,XA x i e b];rw [iu]at h;rw [List.set_eq_take_append_cons_drop,if_pos h];simp
theorem xG {c:CT} (x:Interp c) (i:Nat) (e:bg (ak c)):aE c (lL c x i e)=aE c x:=by
 cases c<;>simp [aE,lL]
theorem XD {c:CT} (x y:Interp c) (h:bN c=true):aE c (jA c x y)=aE c x+aE c y:=by
 rw [iu,iu,iu,LW _ _ h,é]
theorem tS {c:CT} (n:Nat) (x:Interp c):aE c (fU c n x)=min n (aE c x):=by
 rw [iu,iu,xC,Û]
theorem XE {c:CT} (n:Nat) (x:Interp c):aE c (gp c n x)=aE c x-n:=by
 rw [iu,iu,xD,List.length_drop]
end Go.Ev
namespace Go.Ev
inductive Cell where
 |undef
 |b (x:Bool)
 |i (k:IntKind) (n:Int)
 |s (x:O)
 |sh (c:CT) (x:Interp c)
 |kN (c:CT) (x:Interp c)
 |nl
 |z0
 |ob (k aG:Nat) (vw:Option Nat)
 |gs (k aG wv:Nat) (pl:Option (Nat×Nat)) (c:CT) (x:Interp c)
 |eV
 |pb (bx off:Nat)
 |pe (k aG:Nat) (i off:Nat)
 |pr (ts:aR) (x:bg ts) (off:Nat)
 |ft
 |pg (k aG wv:Nat) (ts:aR) (x:bg ts) (off:Nat)
 |fn (f:FuncId) (fst caps:List Cell)
 |er (x:Bool)
instance:Inhabited Cell:=⟨.undef⟩
inductive TV where
 |one (c:Cell)
 |agg (cs:List Cell)
 |aP (vs:List TV)
instance:Inhabited TV:=⟨.one .undef⟩
def TV.cells:TV->List Cell
 |.one c=>[c]
 |.agg cs=>cs
 |.aP _=>[]
structure DV where
 c:CT
 x:Interp c
structure OB where
 aG:Nat
 wv:Nat
 bp:Option DV
structure St where
 tmps:Nat->TV
 boxes:Nat->Option (List Cell)
 aj:Nat->OB
def aS {α:Type} (f:Nat->α) (k:Nat) (v:α):Nat->α:=fun j=>cond (Ã j k) v (f j)
theorem bC {α:Type} (f:Nat->α) (k:Nat) (v:α):aS f k v k=v:=by simp [aS]
theorem aZ {α:Type} (f:Nat->α) {k j:Nat} (v:α) (h:j≠k):aS f k v j=f j:=by
 have:Ã j k=false:=by
  cases b:Ã j k with
  |true=>exact absurd (Ç b) h
  |false=>rfl
 simp [aS,this]
theorem XF {α:Type} (f:Nat->α) {k j:Nat} (u v:α) (h:j≠k):aS (aS f k u) j v=aS (aS f j v) k u:=by
 funext i
 by_cases b:i=j
 .subst b;rw [bC,aZ _ _ h,bC]
 .rw [aZ _ _ b]
  by_cases d:i=k
  .subst d;rw [bC,bC]
  .rw [aZ _ _ d,aZ _ _ d,aZ _ _ b]
def St.put (st:St) (dst:Option Nat) (v:TV):St:=
 match dst with
 |some d=>{st with tmps:=aS st.tmps d v}
 |none=>st
inductive M (α:Type):Type 1 where
 |ret (a:α)
 |fail
 |rb (b:Nat) (k:List Cell->M α)
 |wb (b:Nat) (cs:List Cell) (m:M α)
 |nb (b:Nat) (cs:List Cell) (m:M α)
 |ro (k:Nat) (f:OB->M α)
 |wo (k:Nat) (o:OB) (m:M α)
 |opt {β:Type} (x:Option β) (f:β->M α)
 |br (x:Bool) (m1 m2:M α)
def M.gd {α:Type} (x:Bool) (m:M α):M α:=.br x m .fail
structure Log where
 rd:List Nat
 wr:List Nat
def Log.none:Log:=⟨[],[]⟩
def Log.r (l:Log) (n:Nat):Log:=⟨n::l.rd,l.wr⟩
def Log.w (l:Log) (n:Nat):Log:=⟨l.rd,n::l.wr⟩
def M.run {α:Type}:M α->St->Option (α×St×Log)
 |.ret a,st=>some (a,st,.none)
 |.fail,_=>none
 |.rb b k,st=>match st.boxes b with
  |some cs=>((k cs).run st).map fun r=>(r.1,r.2.1,r.2.2.r (2*b))
  |none=>none
 |.wb b cs m,st=>match st.boxes b with
  |some _=>(m.run {st with boxes:=aS st.boxes b (some cs)}).map fun r=>(r.1,r.2.1,r.2.2.w (2*b))
  |none=>none
 |.nb b cs m,st=>match st.boxes b with
  |some _=>none
  |none=>(m.run {st with boxes:=aS st.boxes b (some cs)}).map fun r=>(r.1,r.2.1,r.2.2.w (2*b))
 |.ro k f,st=>((f (st.aj k)).run st).map fun r=>(r.1,r.2.1,r.2.2.r (2*k+1))
 |.wo k o m,st=>(m.run {st with aj:=aS st.aj k o}).map fun r=>(r.1,r.2.1,r.2.2.w (2*k+1))
 |.opt x f,st=>x.bind fun y=>(f y).run st
 |.br x m1 m2,st=>match x with
  |true=>m1.run st
  |false=>m2.run st
def M.go {α R:Type}:M α->St->Log->(α->St->Log->Option R)->Option R
 |.ret a,st,l,K=>K a st l
 |.fail,_,_,_=>none
 |.rb b k,st,l,K=>match st.boxes b with
  |some cs=>(k cs).go st (l.r (2*b)) K
  |none=>none
 |.wb b cs m,st,l,K=>match st.boxes b with
  |some _=>m.go {st with boxes:=aS st.boxes b (some cs)} (l.w (2*b)) K
  |none=>none
 |.nb b cs m,st,l,K=>match st.boxes b with
  |some _=>none
  |none=>m.go {st with boxes:=aS st.boxes b (some cs)} (l.w (2*b)) K
 |.ro k f,st,l,K=>(f (st.aj k)).go st (l.r (2*k+1)) K
 |.wo k o m,st,l,K=>m.go {st with aj:=aS st.aj k o} (l.w (2*k+1)) K
 |.opt x f,st,l,K=>x.bind fun y=>(f y).go st l K
 |.br x m1 m2,st,l,K=>cond x (m1.go st l K) (m2.go st l K)
def Log.sub (l l':Log):Prop:=(∀n∈l.rd,n∈l'.rd)/\(∀n∈l.wr,n∈l'.wr)
theorem M.jW {α R:Type}: ∀(m:M α) (st:St) (l:Log) (K:α->St->Log->Option R) (r:R),m.go st l K=some r->
  ∃a st' j l',m.run st=some (a,st',j)/\K a st' l'=some r/\l.sub l'/\j.sub l'
 |.ret a,st,l,K,r,h=>⟨a,st,.none,l,rfl,h,⟨fun _ h=>h,fun _ h=>h⟩,⟨by simp [Log.none],by simp [Log.none]⟩⟩
 |.fail,_,_,_,_,h=>by simp [M.go]at h
 |.rb b k,st,l,K,r,h=>by
  simp only [M.go]at h;split at h
  .rename_i cs s
   obtain⟨a,st',j,l',p,q,g,i⟩:=M.jW _ _ _ _ _ h;refine⟨a,st',j.r (2*b),l',by simp [M.run,s,p],q,⟨fun n d=>g.1 n (by simp [Log.r,d]),fun n d=>g.2 n (by simpa [Log.r]using d)⟩, ?_, ?_⟩
   .intro n d
    simp only [Log.r,Å]at d;rcases d with rfl|d
    .exact g.1 _ (by simp [Log.r])
    .exact i.1 n d
   .intro n d;exact i.2 n (by simpa [Log.r]using d)
  .cases h
 |.wb b cs m,st,l,K,r,h=>by
  simp only [M.go]at h;split at h
  .rename_i t s
   obtain⟨a,st',j,l',p,q,g,i⟩:=M.jW _ _ _ _ _ h;refine⟨a,st',j.w (2*b),l',by simp [M.run,s,p],q,⟨fun n d=>g.1 n (by simpa [Log.w]using d),fun n d=>g.2 n (by simp [Log.w,d])⟩, ?_, ?_⟩
   .intro n d;exact i.1 n (by simpa [Log.w]using d)
   .intro n d
    simp only [Log.w,Å]at d;rcases d with rfl|d
    .exact g.2 _ (by simp [Log.w])
    .exact i.2 n d
  .cases h
 |.nb b cs m,st,l,K,r,h=>by
  simp only [M.go]at h;split at h
  .cases h
  .rename_i s
   obtain⟨a,st',j,l',p,q,g,i⟩:=M.jW _ _ _ _ _ h;refine⟨a,st',j.w (2*b),l',by simp [M.run,s,p],q,⟨fun n d=>g.1 n (by simpa [Log.w]using d),fun n d=>g.2 n (by simp [Log.w,d])⟩, ?_, ?_⟩
   .intro n d;exact i.1 n (by simpa [Log.w]using d)
   .intro n d
    simp only [Log.w,Å]at d;rcases d with rfl|d
    .exact g.2 _ (by simp [Log.w])
    .exact i.2 n d
 |.ro k f,st,l,K,r,h=>by
  simp only [M.go]at h;obtain⟨a,st',j,l',p,q,g,i⟩:=M.jW _ _ _ _ _ h;refine⟨a,st',j.r (2*k+1),l',by simp [M.run,p],q,⟨fun n d=>g.1 n (by simp [Log.r,d]),fun n d=>g.2 n (by simpa [Log.r]using d)⟩, ?_, ?_⟩
  .intro n d
   simp only [Log.r,Å]at d;rcases d with rfl|d
   .exact g.1 _ (by simp [Log.r])
   .exact i.1 n d
  .intro n d;exact i.2 n (by simpa [Log.r]using d)
 |.wo k o m,st,l,K,r,h=>by
  simp only [M.go]at h;obtain⟨a,st',j,l',p,q,g,i⟩:=M.jW _ _ _ _ _ h;refine⟨a,st',j.w (2*k+1),l',by simp [M.run,p],q,⟨fun n d=>g.1 n (by simpa [Log.w]using d),fun n d=>g.2 n (by simp [Log.w,d])⟩, ?_, ?_⟩
  .intro n d;exact i.1 n (by simpa [Log.w]using d)
  .intro n d
   simp only [Log.w,Å]at d;rcases d with rfl|d
   .exact g.2 _ (by simp [Log.w])
   .exact i.2 n d
 |.opt x f,st,l,K,r,h=>by
  simp only [M.go]at h;cases x with
  |none=>simp at h
  |some y=>
   simp only [Z]at h;obtain⟨a,st',j,l',p,q,g,i⟩:=M.jW _ _ _ _ _ h;exact⟨a,st',j,l',by simp [M.run,p],q,g,i⟩
 |.br x m1 m2,st,l,K,r,h=>by
  simp only [M.go]at h;cases x with
  |true=>
   obtain⟨a,st',j,l',p,q,g,i⟩:=M.jW _ _ _ _ _ h;exact⟨a,st',j,l',by simp [M.run,p],q,g,i⟩
  |false=>
   obtain⟨a,st',j,l',p,q,g,i⟩:=M.jW _ _ _ _ _ h;exact⟨a,st',j,l',by simp [M.run,p],q,g,i⟩
def same (st st':St) (n:Nat):Prop:=(∀b,n=2*b->st'.boxes b=st.boxes b)/\(∀k,n=2*k+1->st'.aj k=st.aj k)
theorem M.gY {α:Type}: ∀(m:M α) (st:St) (a:α) (st':St) (l:Log),m.run st=some (a,st',l)->st'.tmps=st.tmps/\ ∀n,n∉l.wr->same st st' n
 |.ret _,st,a,st',l,h=>by
  simp only [M.run,Ä,Â]at h;obtain⟨-,rfl, -⟩:=h;exact⟨rfl,fun n _=>⟨fun _ _=>rfl,fun _ _=>rfl⟩⟩
 |.fail,_,_,_,_,h=>by simp [M.run]at h
 |.rb b k,st,a,st',l,h=>by
  simp only [M.run]at h;split at h
  .simp only [Á]at h
   obtain⟨⟨p,s1,q⟩,i,d⟩:=h;simp only [Â]at d;obtain⟨rfl,rfl,rfl⟩:=d;have hk:=M.gY _ _ _ _ _ i;exact⟨hk.1,fun n g=>hk.2 n (by simpa [Log.r]using g)⟩
  .cases h
 |.wb b cs m,st,a,st',l,h=>by
  simp only [M.run]at h;split at h
  .simp only [Á]at h
   obtain⟨⟨p,s1,q⟩,i,d⟩:=h;simp only [Â]at d;obtain⟨rfl,rfl,rfl⟩:=d;obtain⟨k1,k2⟩:=M.gY _ _ _ _ _ i;refine⟨k1,fun n g=> ?_⟩
   simp only [Log.w,Å,not_or]at g;obtain⟨g1,g2⟩:=k2 n g.2;exact⟨fun b' j=>(g1 b' j).trans (aZ _ _ (by omega)),g2⟩
  .cases h
 |.nb b cs m,st,a,st',l,h=>by
  simp only [M.run]at h;split at h
  .cases h
  .simp only [Á]at h
   obtain⟨⟨p,s1,q⟩,i,d⟩:=h;simp only [Â]at d;obtain⟨rfl,rfl,rfl⟩:=d;obtain⟨k1,k2⟩:=M.gY _ _ _ _ _ i;refine⟨k1,fun n g=> ?_⟩
   simp only [Log.w,Å,not_or]at g;obtain⟨g1,g2⟩:=k2 n g.2;exact⟨fun b' j=>(g1 b' j).trans (aZ _ _ (by omega)),g2⟩
 |.ro k f,st,a,st',l,h=>by
  simp only [M.run,Á]at h;obtain⟨⟨p,s1,q⟩,i,d⟩:=h;simp only [Â]at d;obtain⟨rfl,rfl,rfl⟩:=d;have hk:=M.gY _ _ _ _ _ i;exact⟨hk.1,fun n g=>hk.2 n (by simpa [Log.r]using g)⟩
 |.wo k o m,st,a,st',l,h=>by
  simp only [M.run,Á]at h;obtain⟨⟨p,s1,q⟩,i,d⟩:=h;simp only [Â]at d;obtain⟨rfl,rfl,rfl⟩:=d;obtain⟨k1,k2⟩:=M.gY _ _ _ _ _ i;refine⟨k1,fun n g=> ?_⟩
  simp only [Log.w,Å,not_or]at g;obtain⟨g1,g2⟩:=k2 n g.2;exact⟨g1,fun k' s=>(g2 k' s).trans (aZ _ _ (by omega))⟩
 |.opt x f,st,a,st',l,h=>by
  simp only [M.run,Ò]at h;obtain⟨y, -,h⟩:=h;exact M.gY _ _ _ _ _ h
 |.br x m1 m2,st,a,st',l,h=>by
  cases x<;>simp only [M.run]at h<;>exact M.gY _ _ _ _ _ h
theorem M.mT {α:Type}: ∀(m:M α) (st:St) (a:α) (st':St) (l:Log),m.run st=some (a,st',l)->
  ∀s:St,(∀n,n∈l.rd\/n∈l.wr->same st s n)-> ∃s',m.run s=some (a,s',l)/\ ∀n,(n∈l.wr->same st' s' n)/\(n∉l.wr->same s s' n)
 |.ret _,st,a,st',l,h,s,j=>by
  simp only [M.run,Ä,Â]at h;obtain⟨rfl,rfl,rfl⟩:=h;exact⟨s,rfl,fun n=>⟨fun h=>by simp [Log.none]at h,fun _=>⟨fun _ _=>rfl,fun _ _=>rfl⟩⟩⟩
 |.fail,_,_,_,_,h,_,_=>by simp [M.run]at h
 |.rb b k,st,a,st',l,h,s,j=>by
  simp only [M.run]at h;split at h
  .rename_i cs hb
   simp only [Á]at h;obtain⟨⟨a1,s1,z⟩,u,p⟩:=h;simp only [Â]at p;obtain⟨rfl,rfl,rfl⟩:=p;have d:s.boxes b=some cs:=((j (2*b) (.inl (by simp [Log.r]))).1 b rfl).trans hb
   obtain⟨s',q,hk⟩:=M.mT _ _ _ _ _ u s (fun n g=>j n (g.imp (fun h=>by simp [Log.r,h]) (fun h=>by simpa [Log.r]using h)))
   exact⟨s',by simp [M.run,d,q],hk⟩
  .cases h
 |.wb b cs m,st,a,st',l,h,s,j=>by
  simp only [M.run]at h;split at h
  .rename_i ag hb
   simp only [Á]at h;obtain⟨⟨a1,s1,z⟩,u,p⟩:=h;simp only [Â]at p;obtain⟨rfl,rfl,rfl⟩:=p;have d:s.boxes b=some ag:=((j (2*b) (.inr (by simp [Log.w]))).1 b rfl).trans hb
   have i:=(M.gY _ _ _ _ _ u).2;obtain⟨s',q,hk⟩:=M.mT _ _ _ _ _ u {s with boxes:=aS s.boxes b (some cs)} (fun n g=>by
    obtain⟨g1,g2⟩:=j n (g.imp (fun h=>by simpa [Log.w]using h) (fun h=>by simp [Log.w,h]))
    refine⟨fun b' d=> ?_,g2⟩
    by_cases e:b'=b
    .subst e;simp [bC]
    .simp only [aZ _ _ e];exact g1 b' d)
   refine⟨s',by simp [M.run,d,q],fun n=> ?_⟩
   obtain⟨k1,k2⟩:=hk n;by_cases g:n∈z.wr
   .exact⟨fun _=>k1 g,fun h=>absurd (by simp [Log.w,g]) h⟩
   .obtain⟨q1,q2⟩:=k2 g
    obtain⟨p1,p2⟩:=i n g;by_cases e:n=2*b
    .subst e
     refine⟨fun _=>⟨fun b' d=> ?_,fun k' t=>by omega⟩,fun h=>absurd (by simp [Log.w]) h⟩
     have:b'=b:=by omega
     subst this;rw [q1 b' rfl,p1 b' rfl];simp [bC]
    .refine⟨fun h=> ?_,fun _=>⟨fun b' d=> ?_,q2⟩⟩
     .simp only [Log.w,Å]at h;exact absurd h (by simp [e,g])
     .rw [q1 b' d];exact aZ _ _ (by omega)
  .cases h
 |.nb b cs m,st,a,st',l,h,s,j=>by
  simp only [M.run]at h;split at h
  .cases h
  .rename_i hb
   simp only [Á]at h;obtain⟨⟨a1,s1,z⟩,u,p⟩:=h;simp only [Â]at p;obtain⟨rfl,rfl,rfl⟩:=p;have d:s.boxes b=none:=((j (2*b) (.inr (by simp [Log.w]))).1 b rfl).trans hb
   have i:=(M.gY _ _ _ _ _ u).2;obtain⟨s',q,hk⟩:=M.mT _ _ _ _ _ u {s with boxes:=aS s.boxes b (some cs)} (fun n g=>by
    obtain⟨g1,g2⟩:=j n (g.imp (fun h=>by simpa [Log.w]using h) (fun h=>by simp [Log.w,h]))
    refine⟨fun b' d=> ?_,g2⟩
    by_cases e:b'=b
    .subst e;simp [bC]
    .simp only [aZ _ _ e];exact g1 b' d)
   refine⟨s',by simp [M.run,d,q],fun n=> ?_⟩
   obtain⟨k1,k2⟩:=hk n;by_cases g:n∈z.wr
   .exact⟨fun _=>k1 g,fun h=>absurd (by simp [Log.w,g]) h⟩
   .obtain⟨q1,q2⟩:=k2 g
    obtain⟨p1,p2⟩:=i n g;by_cases e:n=2*b
    .subst e
     refine⟨fun _=>⟨fun b' d=> ?_,fun k' t=>by omega⟩,fun h=>absurd (by simp [Log.w]) h⟩
     have:b'=b:=by omega
     subst this;rw [q1 b' rfl,p1 b' rfl];simp [bC]
    .refine⟨fun h=> ?_,fun _=>⟨fun b' d=> ?_,q2⟩⟩
     .simp only [Log.w,Å]at h;exact absurd h (by simp [e,g])
     .rw [q1 b' d];exact aZ _ _ (by omega)
 |.ro k f,st,a,st',l,h,s,j=>by
  simp only [M.run,Á]at h;obtain⟨⟨a1,s1,z⟩,u,p⟩:=h;simp only [Â]at p;obtain⟨rfl,rfl,rfl⟩:=p;have ho:s.aj k=st.aj k:=(j (2*k+1) (.inl (by simp [Log.r]))).2 k rfl
  obtain⟨s',q,hk⟩:=M.mT _ _ _ _ _ u s (fun n g=>j n (g.imp (fun h=>by simp [Log.r,h]) (fun h=>by simpa [Log.r]using h)))
  exact⟨s',by simp [M.run,ho,q],hk⟩
 |.wo k o m,st,a,st',l,h,s,j=>by
  simp only [M.run,Á]at h;obtain⟨⟨a1,s1,z⟩,u,p⟩:=h;simp only [Â]at p;obtain⟨rfl,rfl,rfl⟩:=p;have i:=(M.gY _ _ _ _ _ u).2;obtain⟨s',q,hk⟩:=M.mT _ _ _ _ _ u {s with aj:=aS s.aj k o} (fun n g=>by
   obtain⟨g1,g2⟩:=j n (g.imp (fun h=>by simpa [Log.w]using h) (fun h=>by simp [Log.w,h]))
   refine⟨g1,fun k' t=> ?_⟩
   by_cases e:k'=k
   .subst e;simp [bC]
   .simp only [aZ _ _ e];exact g2 k' t)
  refine⟨s',by simp [M.run,q],fun n=> ?_⟩
  obtain⟨k1,k2⟩:=hk n;by_cases g:n∈z.wr
  .exact⟨fun _=>k1 g,fun h=>absurd (by simp [Log.w,g]) h⟩
  .obtain⟨q1,q2⟩:=k2 g
   obtain⟨p1,p2⟩:=i n g;by_cases e:n=2*k+1
   .subst e
    refine⟨fun _=>⟨fun b' d=>by omega,fun k' t=> ?_⟩,fun h=>absurd (by simp [Log.w]) h⟩
    have:k'=k:=by omega
    subst this;rw [q2 k' rfl,p2 k' rfl];simp [bC]
   .refine⟨fun h=> ?_,fun _=>⟨q1,fun k' t=> ?_⟩⟩
    .simp only [Log.w,Å]at h;exact absurd h (by simp [e,g])
    .rw [q2 k' t];exact aZ _ _ (by omega)
 |.opt x f,st,a,st',l,h,s,j=>by
  simp only [M.run,Ò]at h;obtain⟨y,rfl,h⟩:=h;obtain⟨s',q,hk⟩:=M.mT _ _ _ _ _ h s j;exact⟨s',by simp [M.run,q],hk⟩
 |.br x m1 m2,st,a,st',l,h,s,j=>by
  cases x<;>simp only [M.run]at h<;>
  .obtain⟨s',q,hk⟩:=M.mT _ _ _ _ _ h s j
   exact⟨s',by simp [M.run,q],hk⟩
end Go.Ev
namespace Go.Ev
inductive U where
 |bool
 |int (k:IntKind)
 |str
 |slice (e:TypeId)
 |struct (fs:List (Nat×TypeId))
 |ptr
 |func
 |iface
 |other
structure TyI where
 u:U
 size:Nat
 bytes:Nat
 zero:List Cell
 bA:Option aR
 eq:Bool
def dX (c b:CT) (x:Interp c):Option (Interp b):=
 if h:c.beq b=true then some (CT.eq_of_beq c b h▸x)else none
def fH (d j:Nat):Nat:=2*(64*d+j)
def nZ (b off:Nat):Nat:=2*(64*b+off)+1
def XG:Option Nat->Nat
 |some d=>d
 |none=>9999
def cD (c:CT) (vw:Option Nat) (x:Interp c):Interp c:=
 match vw with
 |none=>x
 |some n=>fU c n x
def jB (c:CT) (vw:Option Nat) (x:Interp c):Bool:=
 match vw with
 |none=>true
 |some n=>Ê n (aE c x)
section
variable {α:Type}
def M.iv (v:TV) (k:Cell->M α):M α:=
 match v with
 |.one c=>k c
 |_=>.fail
def oa (v:TV) (k:List Cell->M α):M α:=
 match v with
 |.one .undef=>.fail
 |.one c=>k [c]
 |.agg cs=>k cs
 |.aP _=>.fail
def fc (c:Cell) (nil:M α) (k:(c:CT)->Interp c->M α):M α:=
 match c with
 |.nl=>nil
 |.z0=>nil
 |.sh c x=>k c x
 |.kN c x=>k c x
 |.ob n v vw=>.ro n fun o=>match o.bp with
  |some d=>.gd (Ã v o.aG) (.gd (jB d.c vw d.x) (k d.c (cD d.c vw d.x)))
  |none=>.fail
 |.gs n v wv _ c x=>.ro n fun o=>match o.bp with
  |some _=>.gd (Ã v o.aG) (.gd (Ã wv o.wv) (k c x))
  |none=>.fail
 |_=>.fail
def fV (nm:Nat) (c:CT) (x:Interp c) (k:Cell->M α):M α:=
 .ro nm fun o=>match o.bp with
  |none=>.wo nm ⟨o.aG+1,0,some ⟨c,x⟩⟩ (k (.ob nm (o.aG+1) none))
  |some _=>.fail
def pT (c:CT) (x:Interp c) (i:Int):Option (bg (ak c)):=
 cond (decide (0<=i)) (jV c x i.toNat) none
def bG (s:O) (i:Int):Option UInt8:=
 cond (decide (0<=i)) (nth s i.toNat) none
def lM (c:CT) (v:Cell) (k:Interp c->M α):M α:=
 match v with
 |.nl=>.gd (bN c) (k (ea c))
 |.z0=>.gd (bN c) (k (ea c))
 |.ob n v vw=>.ro n fun o=>match o.bp with
  |some d=>.gd (Ã v o.aG) (.gd (jB d.c vw d.x) (.wo n ⟨o.aG+1,0,none⟩ (.opt (dX d.c c (cD d.c vw d.x)) k)))
  |none=>.fail
 |.gs n v wv (some _) b x=>.ro n fun o=>match o.bp with
  |some _=>.gd (Ã v o.aG) (.gd (Ã wv o.wv) (.wo n ⟨o.aG+1,0,none⟩ (.opt (dX b c x) k)))
  |none=>.fail
 |_=>.fail
def rC:(c:CT)->Cell->(Interp c->M α)->M α
 |.bool,.b x,k=>k x
 |.int f,.i d n,k=>.gd (decide (f=d)) (k (tO f n))
 |.str,.s x,k=>k x
 |.sl ts,v,k=>lM (.sl ts) v k
 |.tree fs,v,k=>lM (.tree fs) v k
 |_,_,_=>.fail
def oc:(ts:aR)->List Cell->(bg ts->M α)->M α
 |.one c,[v],k=>rC c v k
 |.cons c cs,v::vs,k=>rC c v fun x=>oc cs vs fun y=>k (x,y)
 |_,_,_=>.fail
def jX:(ts:aR)->Nat->List Cell->bg ts->(bg ts->M α)->M α
 |.one c,0,[v],_,k=>rC c v k
 |.one _,0,[],e,k=>k e
 |.cons _ _,0,[],e,k=>k e
 |.cons c cs,0,v::vs,e,k=>rC c v fun x=>jX cs 0 vs e.2 fun y=>k (x,y)
 |.cons _ cs,s+1,vs,e,k=>jX cs s vs e.2 fun y=>k (e.1,y)
 |_,_,_,_,_=>.fail
end
def od (f:Nat->(c:CT)->Interp c->Cell) (j:Nat):(c:CT)->Interp c->Cell
 |.bool,x=>.b x
 |.int k,x=>.i k (jz k x)
 |.str,x=>.s x
 |.sl ts,x=>f j (.sl ts) x
 |.tree fs,x=>f j (.tree fs) x
def pU (f:Nat->(c:CT)->Interp c->Cell):Nat->(ts:aR)->bg ts->List Cell
 |j,.one c,x=>[od f j c x]
 |j,.cons c cs,x=>od f j c x.1::pU f (j+1) cs x.2
def Dk (_:Nat) (c:CT) (x:Interp c):Cell:=.sh c x
def Dl (k aG wv i j:Nat) (c:CT) (x:Interp c):Cell:=.gs k aG wv (some (i,j)) c x
def Dm (k aG wv:Nat) (_:Nat) (c:CT) (x:Interp c):Cell:=.gs k aG wv none c x
def kO (agg:Bool) (cs:List Cell):TV:=
 match agg,cs with
 |false,[c]=>.one c
 |true,cs=>.agg cs
 |_,_=>.one .undef
def sub (cs:List Cell) (off n:Nat):List Cell:=(cs.drop off).take n
def Dn (agg:Bool) (n:Nat) (p:Cell):M TV:=
 match p with
 |.pb b off=>.rb b fun cs=>.gd (Ê (off+n) cs.length) (.ret (kO agg (sub cs off n)))
 |.pe k v i off=>.ro k fun o=>match o.bp with
  |some d=>.gd (Ã v o.aG) (.opt (jV d.c d.x i) fun e=>.gd (Ê (off+n) (ak d.c).size) (.ret (kO agg (sub (pU (Dl k o.aG o.wv i) 0 (ak d.c) e) off n))))
  |none=>.fail
 |.pr ts e off=>.gd (Ê (off+n) ts.size) (.ret (kO agg (sub (pU Dk 0 ts e) off n)))
 |.pg k v wv ts e off=>.ro k fun o=>match o.bp with
  |some _=>.gd (Ã v o.aG) (.gd (Ã wv o.wv) (.gd (Ê (off+n) ts.size) (.ret (kO agg (sub (pU (Dm k v wv) 0 ts e) off n)))))
  |none=>.fail
 |_=>.fail
def stM (n:Nat) (p:Cell) (vs:List Cell):M TV:=
 .gd (Ã vs.length n)<|
 match p with
 |.pb b off=>.rb b fun cs=>.gd (Ê (off+n) cs.length) (.wb b (cs.take off++(vs++cs.drop (off+n))) (.ret (.one .undef)))
 |.pe k v i off=>.ro k fun o=>match o.bp with
  |some d=>.gd (Ã v o.aG) (.opt (jV d.c d.x i) fun e=>jX (ak d.c) off vs e fun f=>
    .ro k fun g=>.gd g.bp.isSome (.wo k ⟨o.aG,o.wv+1,some ⟨d.c,lL d.c d.x i f⟩⟩ (.ret (.one .undef))))
  |none=>.fail
 |_=>.fail
def jY:List Bool->Bool
 | []=>true
 | [b]=>b
 |b::bs=>b&&jY bs
def tT:Cell->Cell->Option Bool
 |.b x,.b y=>some (x==y)
 |.i k x,.i k' y=>cond (decide (k=k')) (some (x==y)) none
 |.s x,.s y=>some (x==y)
 |_,_=>none
def eW:List Cell->List Cell->Option (List Bool)
 | [],[]=>some []
 |x::xs,y::d=>match tT x y,eW xs d with
  |some b,some bs=>some (b::bs)
  |_,_=>none
 |_,_=>none
def fI (op:BinOp) (k:IntKind) (x y:Int):Int:=
 match op with
 |.and=>k.wrap (Ì k.bits x &&&Ì k.bits y).toNat
 |.or=>k.wrap (Ì k.bits x |||Ì k.bits y).toNat
 |.xor=>k.wrap (Ì k.bits x ^^^Ì k.bits y).toNat
 |_=>k.wrap (Ì k.bits x &&& ~~~(Ì k.bits y)).toNat
def mx:Nat:=9223372036854775807
def aC:Nat:=137438953472
def c1 (c:Cell):M TV:=.ret (.one c)
def uB:Option TyI->Bool
 |some ⟨.bool,_,_,_,_,_⟩=>true
 |_=>false
def uF:Option TyI->Bool
 |some ⟨.iface,_,_,_,_,_⟩=>true
 |_=>false
def uS:Option TyI->Bool
 |some ⟨.slice _,_,_,_,_,_⟩=>true
 |_=>false
def mU:CT->Cell->Bool
 |.bool,.b _=>true
 |.int k,.i k' _=>decide (k=k')
 |.str,.s _=>true
 |_,_=>false
def kP:aR->List Cell->Bool
 |.one c,[x]=>mU c x
 |.cons c cs,x::xs=>mU c x&&kP cs xs
 |_,_=>false
def uE (b:Option TyI) (xs d:List Cell):Bool:=
 match b with
 |some ⟨_,_,_,_,some ts,e⟩=>e&&(kP ts xs&&kP ts d)
 |_=>false
def xH:Operand->Bool
 |.const _=>true
 |_=>false
def Dp (d:Option TyI) (g:Bool) (op:BinOp) (x y:TV):M TV:=
 match op,x,y with
 |.shl,.one (.i k a),.one (.i _ b)=>.gd (decide (0<=b)) (c1 (.i k (k.wrap (a*2^(min b.toNat k.bits)))))
 |.shr,.one (.i k a),.one (.i _ b)=>.gd (decide (0<=b)) (c1 (.i k (a.fdiv (2^(min b.toNat k.bits)))))
 |.add,.one (.i k a),.one (.i k' b)=>.gd (decide (k=k')) (c1 (.i k (k.wrap (a+b))))
 |.sub,.one (.i k a),.one (.i k' b)=>.gd (decide (k=k')) (c1 (.i k (k.wrap (a-b))))
 |.mul,.one (.i k a),.one (.i k' b)=>.gd (decide (k=k')) (c1 (.i k (k.wrap (a*b))))
 |.quo,.one (.i k a),.one (.i k' b)=>.gd (decide (k=k')) (.gd (b !=0) (c1 (.i k (k.wrap (a.tdiv b)))))
 |.rem,.one (.i k a),.one (.i k' b)=>.gd (decide (k=k')) (.gd (b !=0) (c1 (.i k (a.tmod b))))
 |.and,.one (.i k a),.one (.i k' b)=>.gd (decide (k=k')) (c1 (.i k (fI .and k a b)))
 |.or,.one (.i k a),.one (.i k' b)=>.gd (decide (k=k')) (c1 (.i k (fI .or k a b)))
 |.xor,.one (.i k a),.one (.i k' b)=>.gd (decide (k=k')) (c1 (.i k (fI .xor k a b)))
 |.andNot,.one (.i k a),.one (.i k' b)=>.gd (decide (k=k')) (c1 (.i k (fI .andNot k a b)))
 |.eql,.one (.i k a),.one (.i k' b)=>.gd (decide (k=k')) (c1 (.b (a==b)))
 |.neq,.one (.i k a),.one (.i k' b)=>.gd (decide (k=k')) (c1 (.b (a !=b)))
 |.lss,.one (.i k a),.one (.i k' b)=>.gd (decide (k=k')) (c1 (.b (decide (a<b))))
 |.leq,.one (.i k a),.one (.i k' b)=>.gd (decide (k=k')) (c1 (.b (decide (a<=b))))
 |.gtr,.one (.i k a),.one (.i k' b)=>.gd (decide (k=k')) (c1 (.b (decide (b<a))))
 |.geq,.one (.i k a),.one (.i k' b)=>.gd (decide (k=k')) (c1 (.b (decide (b<=a))))
 |.add,.one (.s a),.one (.s b)=>.gd (Ê (a.length+b.length) mx) (c1 (.s (a++b)))
 |.eql,.one (.s a),.one (.s b)=>c1 (.b (a==b))
 |.neq,.one (.s a),.one (.s b)=>c1 (.b (!(a==b)))
 |.lss,.one (.s a),.one (.s b)=>c1 (.b (ä a b))
 |.leq,.one (.s a),.one (.s b)=>c1 (.b (ä a b||a==b))
 |.gtr,.one (.s a),.one (.s b)=>c1 (.b (!(ä a b||a==b)))
 |.geq,.one (.s a),.one (.s b)=>c1 (.b (!(ä a b)))
 |.eql,.one (.b a),.one (.b b)=>.gd (uB d) (c1 (.b (a==b)))
 |.neq,.one (.b a),.one (.b b)=>.gd (uB d) (c1 (.b (!(a==b))))
 |.eql,.one (.er a),.one (.er false)=>.gd (uF d) (.gd g (c1 (.b (!a))))
 |.neq,.one (.er a),.one (.er false)=>.gd (uF d) (.gd g (c1 (.b a)))
 |.eql,.agg xs,.agg f=>.gd (uE d xs f) (match eW xs f with
  |some bs=>c1 (.b (jY bs))
  |none=>.fail)
 |.neq,.agg xs,.agg f=>.gd (uE d xs f) (match eW xs f with
  |some bs=>c1 (.b (!jY bs))
  |none=>.fail)
 |.eql,.one .nl,.one .nl=>.gd (uS d) (c1 (.b true))
 |.eql,.one (.kN _ _),.one .nl=>.gd (uS d) (c1 (.b false))
 |_,_,_=>.fail
def cB:CT:=.sl (.one (.int .u8))
def pV:Option TyI->Bool
 |some ⟨.str,_,_,_,_,_⟩=>true
 |_=>false
def jZ (b:Option CT) (c:CT):Bool:=
 match b with
 |some d=>d.beq c
 |none=>false
def Dq (b:Option TyI) (c:Cell):M TV:=
 match c with
 |.s x=>.gd (pV b) (c1 (.i .i64 (x.length:Int)))
 |c=>.gd (uS b) (fc c (c1 (.i .i64 0)) fun c x=>c1 (.i .i64 (aE c x:Int)))
def lN (len:Nat) (lo hi:Option TV) (k:Nat->Nat->M TV):M TV:=
 match lo,hi with
 |none,none=>k 0 len
 |none,some (.one (.i _ h))=>.gd (decide (0<=h/\h<=len)) (k 0 h.toNat)
 |some (.one (.i _ l)),none=>.gd (decide (0<=l/\l<=len)) (k l.toNat len)
 |some (.one (.i _ l)),some (.one (.i _ h))=>.gd (decide (0<=l/\l<=h/\h<=len)) (k l.toNat h.toNat)
 |_,_=>.fail
def Dr (f:Option TyI) (b:Option CT) (x:TV) (lo hi:Option TV):M TV:=
 match x with
 |.one (.s s)=>.gd (pV f) (lN s.length lo hi fun l h=>c1 (.s ((s.drop l).take (h-l))))
 |.one .nl=>.gd b.isSome (lN 0 lo hi fun _ _=>c1 .nl)
 |.one .z0=>.gd b.isSome (lN 0 lo hi fun _ _=>c1 .z0)
 |.one (.sh c x)=>.gd (jZ b c) (lN (aE c x) lo hi fun l h=>c1 (.sh c (fU c (h-l) (gp c l x))))
 |.one (.kN c x)=>.gd (jZ b c) (lN (aE c x) lo hi fun l h=>c1 (.kN c (fU c (h-l) (gp c l x))))
 |.one (.gs n v wv pl c x)=>.gd (jZ b c) (fc (.gs n v wv pl c x) .fail fun _ _=>lN (aE c x) lo hi fun l h=>c1 (.gs n v wv none c (fU c (h-l) (gp c l x))))
 |.one (.ob n v vw)=>.ro n fun o=>match o.bp with
  |some d=>.gd (Ã v o.aG) (.gd (jB d.c vw d.x) (.gd (jZ b d.c) (match lo with
   |none=>lN (aE d.c (cD d.c vw d.x)) none hi fun _ h=>c1 (.ob n v (some h))
   |some l=>lN (aE d.c (cD d.c vw d.x)) (some l) hi fun l h=>c1 (.gs n v o.wv none d.c (fU d.c (h-l) (gp d.c l (cD d.c vw d.x)))))))
  |none=>.fail
 |_=>.fail
def Ds (d:Option TyI) (x i:TV):M TV:=
 match x,i with
 |.one (.s s),.one (.i _ n)=>.gd (pV d) (.opt (bG s n) fun b=>c1 (.i .u8 (b.toNat:Int)))
 |_,_=>.fail
def Dt (b:Option CT) (x i:TV):M TV:=
 match x,i with
 |.one (.sh c x),.one (.i _ n)=>.gd (jZ b c) (.opt (pT c x n) fun e=>c1 (.pr (ak c) e 0))
 |.one (.kN c x),.one (.i _ n)=>.gd (jZ b c) (.opt (pT c x n) fun e=>c1 (.pr (ak c) e 0))
 |.one (.ob k v vw),.one (.i _ n)=>.ro k fun o=>match o.bp with
  |some d=>.gd (Ã v o.aG) (.gd (jB d.c vw d.x) (.gd (jZ b d.c) (.gd (decide (0<=n/\n<aE d.c (cD d.c vw d.x))) (c1 (.pe k v n.toNat 0)))))
  |none=>.fail
 |.one (.gs k v wv pl c x),.one (.i _ n)=>.gd (jZ b c) (fc (.gs k v wv pl c x) .fail fun _ _=>.opt (pT c x n) fun e=>c1 (.pg k v wv (ak c) e 0))
 |_,_=>.fail
def tU (o:Nat) (p:TV):M TV:=
 match p with
 |.one (.pb b off)=>c1 (.pb b (off+o))
 |.one (.pe k v i off)=>c1 (.pe k v i (off+o))
 |.one (.pr ts x off)=>c1 (.pr ts x (off+o))
 |.one (.pg k v wv ts x off)=>c1 (.pg k v wv ts x (off+o))
 |_=>.fail
def oe:aR->Bool
 |.one c=> !bN c
 |.cons c cs=> !bN c&&oe cs
def iZ (T:TypeId->Option TyI) (t:TypeId):Option U:=(T t).map TyI.u
def fe (T:TypeId->Option TyI) (t:TypeId):Option CT:=
 match T t with
 |some ⟨.slice _,_,_,_,some (.one c),_⟩=>cond (bN c) (some c) none
 |_=>none
def oh {α:Type} (c:CT) (x:TV) (k:Interp c->M α):M α:=
 match x with
 |.one (.s s)=>.opt (dX cB c s) k
 |.one v=>cond (oe (ak c)) (fc v (k (ea c)) fun b x=>.opt (dX b c x) k) (lM c v k)
 |_=>.fail
def Du (c:CT) (d:Nat) (s x:TV):M TV:=
 match s with
 |.one .nl=>oh c x fun y=>.gd (Ê (aE c y) aC) (fV (fH d 0) c y c1)
 |.one .z0=>oh c x fun y=>.gd (Ê (aE c y) aC) (fV (fH d 0) c y c1)
 |.one (.ob n v vw)=>oh c x fun y=>.ro n fun o=>match o.bp with
  |some e=>.gd (Ã v o.aG) (.gd (jB e.c vw e.x) (.opt (dX e.c c (cD e.c vw e.x)) fun x=>.gd (Ê (aE c x+aE c y) aC)
    (.wo n ⟨o.aG+1,0,some ⟨c,jA c x y⟩⟩ (c1 (.ob n (o.aG+1) none)))))
  |none=>.fail
 |_=>.fail
def oi:(c:CT)->Nat->Interp c
 |.sl ts,n=>õ n (mS ts)
 |.tree fs,n=>õ n (tQ fs (mS (fs.snoc (.tree fs))))
 |c,_=>ea c
def rD (T:TypeId->Option TyI) (fs:List (Nat×TypeId)):List Cell->List (Nat×TV)->M TV
 |cs,[]=>.ret (.agg cs)
 |cs,(i,v)::rest=>match fs[i]? with
  |some (off,t)=>match T t with
   |some b=>oa v fun vs=>.gd (Ã vs.length b.size) (.gd (Ê (off+vs.length) cs.length) (rD T fs (cs.take off++(vs++cs.drop (off+vs.length))) rest))
   |none=>.fail
  |none=>.fail
def rE (c:CT):Nat->List (Nat×TV)->(Interp c->M TV)->M TV
 |_,[],k=>k (ea c)
 |j,(i,v)::rest,k=>.gd (Ã i j) (oa v fun vs=>oc (ak c) vs fun e=>rE c (j+1) rest fun xs=>k (pS c e xs))
def oj (vs:List TV):Option (List Cell):=
 match vs with
 | []=>some []
 |.one .undef::_=>none
 |.one c::r=>(oj r).map (c:: ·)
 |_=>none
def dp (T:TypeId->Option TyI) (call:FuncId->List TV->Nat->M TV) (ρ:Operand->TV) (o:Oper):M TV:=
 let d:=XG o.dst
 match o.op with
 |.move x|.assign x=>.ret (ρ x)
 |.pick c a b=>match ρ c with
  |.one (.b x)=>.br x (.ret (ρ a)) (.ret (ρ b))
  |_=>.fail
 |.alloc t=>match T t with
  |some i=>.nb d i.zero (c1 (.pb d 0))
  |none=>.fail
 |.box t x=>match T t with
  |some i=>oa (ρ x) fun cs=>.gd (Ã cs.length i.size) (.nb d cs (c1 (.pb d 0)))
  |none=>.fail
 |.build t parts=>match T t with
  |some ⟨.struct fs,_,_,z,_,_⟩=>rD T fs z (parts.toList.map fun p=>(p.1,ρ p.2))
  |_=>.fail
 |.buildSlice t len parts=>match fe T t with
  |some c=>.gd (Ã len parts.toList.length&&Ê (len*(ak c).size) 16777216) (rE c 0 (parts.toList.map fun p=>(p.1,ρ p.2)) fun xs=>fV (fH d 0) c xs c1)
  |none=>.fail
 |.load t a=>match T t with
  |some i=>M.iv (ρ a) (Dn (match i.u with|.struct _=>true|_=>false) i.size)
  |none=>.fail
 |.store t a x=>match T t with
  |some i=>M.iv (ρ a) fun p=>oa (ρ x) fun cs=>stM i.size p cs
  |none=>.fail
 |.nilCheck x=>match ρ x with
  |.one (.pb b off)=>c1 (.pb b off)
  |.one (.pe k v i off)=>c1 (.pe k v i off)
  |.one (.pr ts e off)=>c1 (.pr ts e off)
  |.one (.pg k v wv ts e off)=>c1 (.pg k v wv ts e off)
  |.one (.fn f a b)=>c1 (.fn f a b)
  |_=>.fail
 |.binOp op t x y _=>Dp (T t) (xH y) op (ρ x) (ρ y)
 |.unOp op _ x=>match op,ρ x with
  |.not,.one (.b x)=>c1 (.b (!x))
  |.neg,.one (.i k n)=>c1 (.i k (k.wrap (0-n)))
  |_,_=>.fail
 |.convert s t x=>match iZ T s,iZ T t,ρ x with
  |some (.int _),some (.int k),.one (.i _ n)=>c1 (.i k (k.wrap n))
  |some .str,some (.slice _),.one (.s x)=>match fe T t with
   |some c=>.opt (dX cB c x) fun y=>.gd (Ê x.length aC) (fV (fH d 0) c y c1)
   |none=>.fail
  |some (.slice _),some .str,.one v=>.gd (jZ (fe T s) cB) (fc v (c1 (.s [])) fun c x=>.opt (dX c cB x) fun y=>c1 (.s y))
  |some .str,some .str,.one (.s x)=>c1 (.s x)
  |_,_,_=>.fail
 |.makeFunc (.func f) a b=>match oj (a.toList.map ρ),oj (b.toList.map ρ)with
  |some xs,some r=>c1 (.fn f xs r)
  |_,_=>.fail
 |.makeSlice t l c=>match fe T t,ρ l,ρ c with
  |some j,.one (.i .i64 n),.one (.i .i64 m)=>.gd (decide (0<=n/\n<=m/\m<=aC)) (fV (fH d 0) j (oi j n.toNat) c1)
  |_,_,_=>.fail
 |.slice t x lo hi none=>Dr (T t) (fe T t) (ρ x) (lo.map ρ) (hi.map ρ)
 |.slice t x none (some h) (some m)=>match ρ h,ρ m,ρ x with
  |.one (.i _ p),.one (.i _ q),.one c=>.gd (decide (p=0/\q=0)) (.gd (fe T t).isSome (fc c (c1 .z0) fun _ _=>c1 .z0))
  |_,_,_=>.fail
 |.fieldAddr s x f=>match T s with
  |some ⟨.struct fs,_,_,_,_,_⟩=>match fs[f]? with
   |some (off,_)=>tU off (ρ x)
   |none=>.fail
  |_=>.fail
 |.field s x f=>match T s,ρ x with
  |some ⟨.struct fs,_,_,_,_,_⟩,.agg cs=>match fs[f]? with
   |some (off,t)=>match T t with
    |some i=>.gd (Ê (off+i.size) cs.length) (.ret (kO (match i.u with|.struct _=>true|_=>false) (sub cs off i.size)))
    |none=>.fail
   |none=>.fail
  |_,_=>.fail
 |.indexAddr t x i=>Dt (fe T t) (ρ x) (ρ i)
 |.index t x i=>Ds (T t) (ρ x) (ρ i)
 |.extract x i=>match ρ x with
  |.aP vs=>match vs[i]? with
   |some v=>.ret v
   |none=>.fail
  |_=>.fail
 |.call c=>match c.callee with
  |.builtin .len=>match c.args.toList,c.argTypes.toList with
   | [x],t::_=>M.iv (ρ x) (Dq (T t))
   |_,_=>.fail
  |.builtin .append=>match c.args.toList,c.argTypes.toList with
   | [s,x],[t,t2]=>match fe T t with
    |some j=>.gd (uS (T t2)||pV (T t2)) (Du j d (ρ s) (ρ x))
    |none=>.fail
   |_,_=>.fail
  |.builtin .min=>match c.args.toList with
   | [x,y]=>match ρ x,ρ y with
    |.one (.i k a),.one (.i k' b)=>.gd (decide (k=k')) (c1 (.i k (cond (decide (b<a)) b a)))
    |_,_=>.fail
   |_=>.fail
  |.builtin .max=>match c.args.toList with
   | [x,y]=>match ρ x,ρ y with
    |.one (.i k a),.one (.i k' b)=>.gd (decide (k=k')) (c1 (.i k (cond (decide (a<b)) b a)))
    |_,_=>.fail
   |_=>.fail
  |.value (.func f)=>call f (c.args.toList.map ρ) d
  |.value f=>match ρ f with
   |.one (.fn g a b)=>call g (a.map .one++(c.args.toList.map ρ++b.map .one)) d
   |_=>.fail
  |_=>.fail
 |_=>.fail
end Go.Ev
namespace Go.Ev
def Dv:Value->TV
 |.bool b=>.one (.b b)
 |.int k n=>cond (decide (k.min<=n/\n<=k.max)) (.one (.i k n)) (.one .undef)
 |.string s=>cond (Ê s.data.toList.length mx) (.one (.s s.data.toList)) (.one .undef)
 |.pointer none=>.one .eV
 |.slice none 0 0=>.one .nl
 |.nilFunc=>.one .ft
 |.nilIface=>.one (.er false)
 |_=>.one .undef
def bE (st:St):Operand->TV
 |.tmp t=>st.tmps t
 |.const v=>Dv v
 |.global _=>.one .undef
 |.func f=>.one (.fn f [] [])
def ja (st:St) (t:Nat) (x:Bool):St:={st with tmps:=aS st.tmps t (.one (.b x))}
section
variable {R:Type}
def Dw (all:Array Oper) (o:Oper) (st:St) (yes no:St->Option R):Option R:=
 match o.guard with
 |none=>yes st
 |some (j,want)=>match(all[j]?).bind (·.dst)with
  |some t=>match st.tmps t with
   |.one (.b x)=>cond x (cond want (yes (ja st t true)) (no (ja st t true))) (cond want (no (ja st t false)) (yes (ja st t false)))
   |.aP []=>no st
   |_=>none
  |none=>none
def mV (opf:(Operand->TV)->Oper->M TV) (all:Array Oper):List Oper->St->List Log->(St->List Log->Option R)->Option R
 | [],st,ls,K=>K st ls
 |o::rest,st,ls,K=>Dw all o st
   (fun st=>(opf (bE st) o).go st .none fun v st' l=>mV opf all rest (st'.put o.dst v) (l::ls) K)
   (fun st=>mV opf all rest (st.put o.dst (.aP [])) (.none::ls) K)
end
def om (xs b:List Nat):Bool:=xs.all fun x=> !b.elem x
def pW (o:Oper) (all:Array Oper):List Nat:=
 (o.op.operands.toList.filterMap fun|.tmp t=>some t|_=>none)++
 (match o.guard with
  |some (g,_)=>((all[g]?).bind (·.dst)).toList
  |none=>[])
def indep (all:Array Oper) (x y:Oper) (b f:Log):Bool:=
 (match x.dst with|some d=> !(pW y all).elem d&& !(y.dst==some d)|none=>true)&&
 (match y.dst with|some d=> !(pW x all).elem d|none=>true)&&
 om b.wr f.rd&&om b.wr f.wr&&om f.wr b.rd
def jC:List Oper->List Nat->List Nat
 | [],_=>[]
 |o::rest,acc=>
  let m:=o.after.toList.foldl (fun s e=>cond (Region.binds .any e) (s |||2^e.on |||acc.getD e.on 0) s) 0
  m::jC rest (acc++[m])
def Dx (i:Nat) (o:Oper):Bool:=o.after.toList.all fun e=> !Region.binds .any e||Nat.blt e.on i
def xI (all:Array Oper) (x:Oper) (b:Log) (i:Nat):List Oper->List Log->List Nat->Bool
 |o::os,l::ls,m::ms=>(m.testBit i||indep all x o b l)&&xI all x b i os ls ms
 |_,_,_=>true
def xJ (all:Array Oper):Nat->List Oper->List Log->List Nat->Bool
 |i,o::os,l::ls,_::ms=>Dx i o&&xI all o l i os ls ms&&xJ all (i+1) os ls ms
 |_,_,_,_=>true
def oq (ops:Array Oper) (b:List Log):Bool:=xJ ops 0 ops.toList b (jC ops.toList [])
def XH (ops:List Oper):Option Nat:=
 cond (ops.any fun o=>o.guard.isSome) ((ops.getLast?).bind (·.dst)) none
def pX (st:St) (b:List Log):Bool:=
 b.all fun l=>l.wr.all fun n=>cond (Ã (n%2) 0) (st.boxes (n/2)).isNone (st.aj (n/2)).bp.isNone
def wipe (st:St):List Oper->St
 | []=>st
 |o::rest=>match o.dst with
  |some d=>wipe {st with tmps:=aS st.tmps d (.one .undef)} rest
  |none=>wipe st rest
inductive CK where
 |undef
 |bool
 |int (k:IntKind)
 |str
 |er
 |sh (c:CT)
 |own (c:CT)
 |nl
 |al (m:Nat)
 |gs (m:Nat) (c:CT)
 |pb (b off:Nat)
 |eV
 |ft
 |fn (f:FuncId) (fst caps:List CK)
inductive bq where
 |one (k:CK)
 |agg (ks:List CK)
 |aP (vs:List bq)
instance:Inhabited bq:=⟨.one .undef⟩
structure cI where
 tmps:List (Nat×bq)
 boxes:List (Nat×List CK)
abbrev bO:List CT->Type
 | []=>Unit
 | [c]=>Interp c
 |c::d::cs=>Interp c×bO (d::cs)
def eG:(bA:List CT)->List DV->Option (bO bA)
 | [],[]=>some ()
 | [c],[d]=>dX d.c c d.x
 |c::b::cs,d::ds=>(dX d.c c d.x).bind fun x=>(eG (b::cs) ds).bind fun y=>some (x,y)
 |_,_=>none
def lO:(bA:List CT)->bO bA->List DV
 | [],_=>[]
 | [c],x=>[⟨c,x⟩]
 |c::d::cs,x=>⟨c,x.1⟩::lO (d::cs) x.2
structure CS where
 dv:List DV
 used:List (Nat×Nat×Nat×Nat)
 bm:List (Nat×Nat)
 jb:Bool
 cx:List Nat
def CS.push (s:CS) (d:DV):CS:={s with dv:=d::s.dv}
def look (m:Nat):List (Nat×Nat)->Option Nat
 | []=>none
 |(a,b)::r=>cond (Ã a m) (some b) (look m r)
def tW (b:Nat):List (Nat×Nat)->Bool
 | []=>false
 |(_,y)::r=>Ã y b||tW b r
def lP (m n v wv:Nat):List (Nat×Nat×Nat×Nat)->Bool
 | []=>false
 |(a,b,c,d)::r=>(Ã a m&&(Ã b n&&(Ã c v&&Ã d wv)))||lP m n v wv r
def tX (m n v:Nat):List (Nat×Nat×Nat×Nat)->Bool
 | []=>false
 |(a,b,c,_)::r=>(Ã a m&&(Ã b n&&Ã c v))||tX m n v r
section
variable {β:Type}
mutual
def eb (nm:Nat):CK->Cell->CS->(CS->M β)->M β
 |.undef,_,s,k=>k s
 |.bool,.b x,s,k=>k (s.push ⟨.bool,x⟩)
 |.int h,.i p n,s,k=>.gd (decide (h=p)) (k (s.push ⟨.int h,tO h n⟩))
 |.str,.s x,s,k=>k (s.push ⟨.str,x⟩)
 |.er,.er x,s,k=>k (s.push ⟨.bool,x⟩)
 |.sh c,.ob n v vw,s,k=>.gd s.jb (fc (.ob n v vw) .fail fun d x=>.opt (dX d c x) fun y=>k {s.push ⟨c,y⟩with cx:=n::s.cx})
 |.sh c,.gs n v wv pl d x,s,k=>.gd s.jb (fc (.gs n v wv pl d x) .fail fun d x=>.opt (dX d c x) fun y=>k {s.push ⟨c,y⟩with cx:=n::s.cx})
 |.sh c,v,s,k=>fc v (.gd (bN c) (k (s.push ⟨c,ea c⟩))) fun d x=>.opt (dX d c x) fun y=>k (s.push ⟨c,y⟩)
 |.own c,.nl,s,k=>.gd (bN c) (k (s.push ⟨c,ea c⟩))
 |.own c,.z0,s,k=>.gd (bN c) (k (s.push ⟨c,ea c⟩))
 |.own c,.ob n v vw,s,k=>.ro n fun o=>lM c (.ob n v vw) fun y=>k {s.push ⟨c,y⟩with used:=cond vw.isNone ((nm,n,v,o.wv)::s.used) s.used}
 |.own c,.gs n v wv pl d x,s,k=>lM c (.gs n v wv pl d x) fun y=>k (s.push ⟨c,y⟩)
 |.nl,.nl,s,k=>k s
 |.al m,.ob n v none,s,k=>.gd (tX m n v s.used) (k s)
 |.gs m c,.gs n v wv _ d x,s,k=>.gd (lP m n v wv s.used) (.opt (dX d c x) fun y=>k (s.push ⟨c,y⟩))
 |.pb m off,.pb b g,s,k=>.gd (Ã off g) (match look m s.bm with
  |some b'=>.gd (Ã b b') (k s)
  |none=>.gd (!tW b s.bm) (k {s with bm:=(m,b)::s.bm}))
 |.eV,.eV,s,k=>k s
 |.ft,.ft,s,k=>k s
 |.fn f a b,.fn q r b',s,k=>.gd (Ã f q) (kc (fun _=>0) 0 a r s fun s=>kc (fun _=>0) 0 b b' s k)
 |_,_,_,_=>.fail
def kc (nm:Nat->Nat):Nat->List CK->List Cell->CS->(CS->M β)->M β
 |_,[],[],s,k=>k s
 |j,c::cs,v::vs,s,k=>eb (nm j) c v s fun s=>kc nm (j+1) cs vs s k
 |_,_,_,_,_=>.fail
end
def gq (nm:Nat->Nat):Nat->List bq->List TV->CS->(CS->M β)->M β
 |_,[],[],s,k=>k s
 |j,.one .undef::cs,_::vs,s,k=>gq nm (j+1) cs vs s k
 |j,.one c::cs,.one v::vs,s,k=>eb (nm j) c v s fun s=>gq nm (j+1) cs vs s k
 |j,.agg ks::cs,.agg v::vs,s,k=>kc nm j ks v s fun s=>gq nm (j+ks.length) cs vs s k
 |_,_,_,_,_=>.fail
def jc (nm:Nat->Nat):bq->TV->CS->(CS->M β)->M β
 |.one .undef,_,s,k=>k s
 |.one c,.one v,s,k=>eb (nm 0) c v s k
 |.agg cs,.agg vs,s,k=>kc nm 0 cs vs s k
 |.aP cs,.aP vs,s,k=>gq nm 0 cs vs s k
 |_,_,_,_=>.fail
def pY:Nat->List bq->List TV->CS->(CS->M β)->M β
 |_,[],[],s,k=>k s
 |t,c::cs,v::vs,s,k=>jc (fH t) c v s fun s=>pY (t+1) cs vs s k
 |_,_,_,_,_=>.fail
def rF:List (Nat×List CK)->CS->(CS->M β)->M β
 | [],s,k=>k s
 |(m,ks)::rest,s,k=>match look m s.bm with
  |some b=>.rb b fun cs=>kc (nZ m) 0 ks cs s fun s=>rF rest s k
  |none=>.fail
def mW:List CK->List Cell->CS->(CS->M β)->M β
 |.pb m off::ks,v::vs,s,k=>eb 0 (.pb m off) v s fun s=>mW ks vs s k
 |_::ks,_::vs,s,k=>mW ks vs s k
 |_,_,s,k=>k s
def tY:List (Nat×List CK)->CS->(CS->M β)->M β
 | [],s,k=>k s
 |(m,ks)::rest,s,k=>tY rest s fun s=>match look m s.bm with
  |some b=>.rb b fun cs=>mW ks cs s k
  |none=>k s
mutual
def fJ (nm:Nat):CK->List DV->(Cell->List DV->M β)->M β
 |.undef,ds,k=>k .undef ds
 |.bool,d::ds,k=>.opt (dX d.c .bool d.x) fun x=>k (.b x) ds
 |.int g,d::ds,k=>.opt (dX d.c (.int g) d.x) fun x=>k (.i g (jz g x)) ds
 |.str,d::ds,k=>.opt (dX d.c .str d.x) fun x=>k (.s x) ds
 |.er,d::ds,k=>.opt (dX d.c .bool d.x) fun x=>k (.er x) ds
 |.sh c,d::ds,k=>.opt (dX d.c c d.x) fun x=>k (.sh c x) ds
 |.own c,d::ds,k=>.opt (dX d.c c d.x) fun x=>fV nm c x fun v=>k v ds
 |.nl,ds,k=>k .nl ds
 |.al m,ds,k=>.ro m fun o=>.gd (o.bp.isSome&&Ã o.aG 1) (k (.ob m 1 none) ds)
 |.gs m c,d::ds,k=>.opt (dX d.c c d.x) fun x=>.ro m fun o=>.gd (o.bp.isSome&&(Ã o.aG 1&&Ã o.wv 0)) (k (.gs m 1 0 none c x) ds)
 |.pb b off,ds,k=>.rb b fun _=>k (.pb b off) ds
 |.eV,ds,k=>k .eV ds
 |.ft,ds,k=>k .ft ds
 |.fn f a b,ds,k=>lQ (fun _=>0) 0 a ds fun xs ds=>lQ (fun _=>0) 0 b ds fun h ds=>k (.fn f xs h) ds
 |_,[],_=>.fail
def lQ (nm:Nat->Nat):Nat->List CK->List DV->(List Cell->List DV->M β)->M β
 |_,[],ds,k=>k [] ds
 |j,c::cs,ds,k=>fJ (nm j) c ds fun v ds=>lQ nm (j+1) cs ds fun vs ds=>k (v::vs) ds
end
def pZ (nm:Nat->Nat):Nat->List bq->List DV->(List TV->List DV->M β)->M β
 |_,[],ds,k=>k [] ds
 |j,.one c::vs,ds,k=>fJ (nm j) c ds fun v ds=>pZ nm (j+1) vs ds fun r ds=>k (.one v::r) ds
 |j,.agg cs::vs,ds,k=>lQ nm j cs ds fun v ds=>pZ nm (j+cs.length) vs ds fun r ds=>k (.agg v::r) ds
 |_,.aP _::_,_,_=>.fail
def rG (nm:Nat->Nat):bq->List DV->(TV->List DV->M β)->M β
 |.one c,ds,k=>fJ (nm 0) c ds fun v ds=>k (.one v) ds
 |.agg cs,ds,k=>lQ nm 0 cs ds fun v ds=>k (.agg v) ds
 |.aP vs,ds,k=>pZ nm 0 vs ds fun r ds=>k (.aP r) ds
mutual
def jd (bm:List (Nat×Nat)):CK->CK
 |.pb m off=>match look m bm with
  |some b=>.pb b off
  |none=>.undef
 |.fn f a b=>.fn f (mX bm a) (mX bm b)
 |k=>k
def mX (bm:List (Nat×Nat)):List CK->List CK
 | []=>[]
 |k::ks=>jd bm k::mX bm ks
end
def qa:List (Nat×List CK)->List (List CK)->List (Nat×Nat)->List DV->M β->M β
 | [],[],_,_,k=>k
 |(m,_)::bx,ks::rest,bm,ds,k=>match look m bm with
  |some b=>lQ (nZ b) 0 (mX bm ks) ds fun cs ds=>.wb b cs (qa bx rest bm ds k)
  |none=>.fail
 |_,_,_,_,_=>.fail
end
structure Entry where
 f:FuncId
 fn:Func
 ins:List bq
 bx:List (Nat×List CK)
 outs:bq
 bP:List (List CK)
 loops:List (Nat×cI×cI×List CT)
 cQ:List Nat
 bI:List CT
 cg:Option (List DV->Option (bO bI))
 back:Option Nat:=none
mutual
def tZ:CK->Bool
 |.sh _=>true
 |.fn _ a b=>qb a||qb b
 |_=>false
def qb:List CK->Bool
 | []=>false
 |c::cs=>tZ c||qb cs
end
mutual
def ot:bq->Bool
 |.one c=>tZ c
 |.agg cs=>qb cs
 |.aP vs=>ua vs
def ua:List bq->Bool
 | []=>false
 |c::cs=>ot c||ua cs
end
def xK:List (List CK)->Bool
 | []=>false
 |ks::r=>qb ks||xK r
mutual
def Mb:CK->Cell->Bool
 |.undef,_=>true
 |.bool,.b _=>true
 |.int k,.i k' _=>decide (k=k')
 |.str,.s _=>true
 |.er,.er _=>true
 |.sh _,.sh _ _=>true
 |.sh _,.kN _ _=>true
 |.sh _,.nl=>true
 |.sh _,.z0=>true
 |.sh _,.ob _ _ _=>true
 |.sh _,.gs _ _ _ _ _ _=>true
 |.own _,.ob _ _ _=>true
 |.own _,.nl=>true
 |.own _,.z0=>true
 |.nl,.nl=>true
 |.pb _ off,.pb _ d=>Ã off d
 |.eV,.eV=>true
 |.ft,.ft=>true
 |.fn f a b,.fn g h b'=>Ã f g&&(xL a h&&xL b b')
 |_,_=>false
def xL:List CK->List Cell->Bool
 | [],[]=>true
 |c::cs,v::vs=>Mb c v&&xL cs vs
 |_,_=>false
end
def XI:bq->TV->Bool
 |.one .undef,_=>true
 |.one c,.one v=>Mb c v
 |.agg cs,.agg vs=>xL cs vs
 |_,_=>false
def Mc:List bq->List TV->Bool
 | [],[]=>true
 |c::cs,v::vs=>XI c v&&Mc cs vs
 |_,_=>false
def Me (tab:Nat->Entry) (args:List TV):List Nat->Option Nat
 | []=>none
 |e::es=>cond (Mc (tab e).ins args) (some e) (Me tab args es)
def alive {α:Type}:List Nat->M α->M α
 | [],k=>k
 |n::r,k=>.ro n fun o=>.gd o.bp.isSome (alive r k)
def qc:List DV->List DV->List DV
 | [],b=>b
 |x::xs,b=>qc xs (x::b)
def ub {α:Type} (f:Nat->Nat):Nat->M α->M α
 |0,k=>k
 |j+1,k=>.ro (f j) fun o=>match o.bp with
  |none=>ub f j k
  |some _=>.wo (f j) ⟨o.aG,o.wv+1,none⟩ (ub f j k)
def uc {α:Type}:List (Nat×List CK)->List (Nat×Nat)->M α->M α
 | [],_,k=>k
 |(m,ks)::r,bm,k=>match look m bm with
  |some b=>ub (nZ b) ks.length (uc r bm k)
  |none=>uc r bm k
def xM {β:Type} (tab:Nat->Entry) (D:(e:Nat)->List DV->Option (bO (tab e).bI)) (e:Nat) (args:List TV) (d:Nat) (K:TV->M β):M β:=
  pY 0 (tab e).ins args ⟨[],[],[],true,[]⟩ fun s=>
  tY (tab e).bx s fun s=>
  rF (tab e).bx {s with dv:=[]} fun s'=>
  uc (tab e).bx s'.bm<|
  .gd (s'.cx.isEmpty|| !(ot (tab e).outs||xK (tab e).bP))<|
  alive s'.cx<|
  .opt (D e (qc s'.dv (qc s.dv []))) fun r=>
  rG (fH d) (tab e).outs (lO (tab e).bI r) fun v ds=>
  qa (tab e).bx (tab e).bP s'.bm ds (K v)
def Dy (n v wv:Nat) (d0:DV) (r:TV):M TV:=
 match r with
 |.one c=>lM d0.c c fun x=>.gd (Ã (aE d0.c x) (aE d0.c d0.x))<| .ro n fun o=>.gd o.bp.isNone<| .wo n ⟨v,wv+1,some ⟨d0.c,x⟩⟩ (.ret (.aP []))
 |_=>.fail
def qd (tab:Nat->Entry) (gZ:FuncId->List Nat) (D:(e:Nat)->List DV->Option (bO (tab e).bI)) (f:FuncId) (args:List TV) (d:Nat):M TV:=
 match Me tab args (gZ f)with
 |none=>.fail
 |some e=>
  .gd (Ã (tab e).f f)<|
  match(tab e).back with
  |none=>xM tab D e args d .ret
  |some t=>match args[t]? with
   |some (.one (.ob n v none))=>.ro n fun o=>match o.bp with
    |some d0=>.gd (Ã v o.aG) (xM tab D e args d (Dy n v o.wv d0))
    |none=>.fail
   |_=>.fail
def eC:St:=⟨fun _=>.one .undef,fun _=>none,fun _=>⟨0,0,none⟩⟩
def ou:List (Nat×List CK)->List (Nat×Nat)
 | []=>[]
 |(b,_)::r=>(b,b)::ou r
section
variable {R:Type}
def ud {β:Type} (tmps:Nat->TV):List (Nat×bq)->CS->(CS->M β)->M β
 | [],s,k=>k s
 |(t,c)::rest,s,k=>jc (fH t) c (tmps t) s fun s=>ud tmps rest s k
def Mf {β:Type} (g:cI) (tmps:Nat->TV) (k:List DV->M β):M β:=
 rF g.boxes ⟨[],[],ou g.boxes,false,[]⟩ fun s=>ud tmps g.tmps s fun s=>k (qc s.dv [])
def ue {β:Type}:List (Nat×bq)->(Nat->TV)->List DV->((Nat->TV)->M β)->M β
 | [],f,_,k=>k f
 |(t,c)::rest,f,ds,k=>rG (fH t) c ds fun v ds=>ue rest (aS f t v) ds k
def uf {β:Type}:List (Nat×List CK)->List DV->(List DV->M β)->M β
 | [],ds,k=>k ds
 |(b,ks)::rest,ds,k=>lQ (nZ b) 0 ks ds fun cs ds=>.nb b cs (uf rest ds k)
def Dz {β:Type} (g:cI) (ds:List DV) (k:(Nat->TV)->M β):M β:=
 uf g.boxes ds fun ds=>ue g.tmps (fun _=>.one .undef) ds k
def qe (g:cI) (st:St) (K:List DV->Option R):Option R:=
 (Mf g st.tmps fun ds=>.ret ds).go st .none fun ds _ _=>K ds
def rH (g:cI) (ds:List DV) (K:St->Option R):Option R:=
 (Dz g ds fun f=>.ret f).go eC .none fun f st _=>K {st with tmps:=f}
end
structure Ks (F R:Type) where
 nrm:St->Option R
 exit:Nat->St->Option R
 ret:St->Option R
 fin:F->Option R
def iter {X:Type} (id:Nat) (f:(List DV->Option X)->List DV->Option X):Nat->List DV->Option X
 |0=>fun _=>none
 |n+1=>fun ds=>f (iter id f n) ds
def aw {X b R:Type} (r:Sum X b) (f:X->Option R) (g:b->Option R):Option R:=
 match r with
 |.inl x=>f x
 |.inr y=>g y
def ug (id:Nat):List (Nat×cI×cI×List CT)->Option (cI×cI×List CT)
 | []=>none
 |(a,g)::r=>cond (Ã a id) (some g) (ug id r)
section
variable (T:TypeId→Option TyI) (call:FuncId→List TV→Nat→M TV) (e:Entry) (n:Nat)
def qf:List ResultVar->St->(List TV->M (List DV))->M (List DV)
 | [],_,k=>k []
 |.tmp t::r,st,k=>qf r st fun vs=>k (st.tmps t::vs)
 |.cell a ty::r,st,k=>match T ty with
  |some i=>match st.tmps a with
   |.one (.pb b off)=>.rb b fun cs=>.gd (Ê (off+i.size) cs.length) (qf r st fun vs=>k (kO (match i.u with|.struct _=>true|_=>false) (sub cs off i.size)::vs))
   |_=>.fail
  |none=>.fail
def qg:List (Nat×List CK)->List (List CK)->CS->(CS->M (List DV))->M (List DV)
 | [],[],s,k=>k s
 |(m,_)::bx,ks::rest,s,k=>.rb m fun cs=>kc (nZ m) 0 ks cs s fun s=>qg bx rest s k
 |_,_,_,_=>.fail
def xN (vs:List TV):TV:=
 match vs with
 | [v]=>v
 |vs=>.aP vs
def uh:List ResultVar:=
 match e.back with
 |some t=>[.tmp t]
 |none=>[]
def qh (bx:List (Nat×List CK)):List (Nat×Nat):=bx.map fun p=>(p.1,p.1)
def Mg (st:St):M (List DV):=
 qf T (e.fn.results.toList++uh e) st fun vs=>
 jc (fH 9000) e.outs (xN vs) ⟨[],[],qh e.bx,false,[]⟩ fun s=>
 qg e.bx e.bP s fun s=>.ret (qc s.dv [])
def qi {R:Type} (ks:Ks (bO e.bI) R) (st:St):Option R:=
 (Mg T e st).go st .none fun ds _ _=>(eG e.bI ds).bind ks.fin
def eD:Code->{R:Type}->St->Ks (bO e.bI) R->Option R
 |.skip,_,st,ks=>ks.nrm st
 |.region id ops draw,_,st,ks=>
  match cond (e.cQ.elem id) none (XH ops.toList)with
  |some t=>(mV (dp T call) ops ops.toList st [] fun st' ls=>
    cond (pX st ls&&(!draw||oq ops ls.reverse)) (match st'.tmps t with|.one (.b x)=>some x|_=>none) none).bind fun x=>
    ks.nrm (ja (wipe st ops.toList) t x)
  |none=>mV (dp T call) ops ops.toList st [] fun st' ls=>cond (!draw||oq ops ls.reverse) (ks.nrm st') none
 |.seq a b,_,st,ks=>eD a st {ks with nrm:=fun st=>eD b st ks}
 |.cond c a b,_,st,ks=>match c with
  |.tmp t=>match st.tmps t with
   |.one (.b x)=>cond x (eD a (ja st t true) ks) (eD b (ja st t false) ks)
   |_=>none
  |_=>none
 |.block id (.loop body),_,st,ks=>match ug id e.loops with
  |some (g,h,d)=>qe g st fun ds=>
   (iter (X:=Sum (bO d) (bO e.bI)) id (fun self ds=>rH g ds fun st=>eD body st
    ⟨fun st=>qe g st self,fun i st=>cond (Ã i id) (qe h st fun ds=>(eG d ds).bind fun x=>some (.inl x)) none,
     fun st=>qi T e ⟨fun _=>none,fun _ _=>none,fun _=>none,fun r=>some (.inr r)⟩ st,fun r=>some (.inr r)⟩) n ds).bind fun r=>
   aw r (fun x=>rH h (lO d x) ks.nrm) ks.fin
  |none=>none
 |.block id c,_,st,ks=>eD c st {ks with exit:=fun i st=>cond (Ã i id) (ks.nrm st) (ks.exit i st)}
 |.exit id,_,st,ks=>ks.exit id st
 |.ret,_,st,ks=>ks.ret st
 |_,_,_,_=>none
def Mh:Ks (bO e.bI) (bO e.bI) where
 nrm:=fun st=>qi T e ⟨fun _=>none,fun _ _=>none,fun _=>none,some⟩ st
 exit:=fun _ _=>none
 ret:=fun st=>qi T e ⟨fun _=>none,fun _ _=>none,fun _=>none,some⟩ st
 fin:=some
def gu:Nat->List bq->List (Nat×bq)
 |_,[]=>[]
 |t,v::vs=>(t,v)::gu (t+1) vs
def DA (ds:List DV):Option (bO e.bI):=
 match e.fn.body with
 |some c=>rH ⟨gu 0 e.ins,e.bx⟩ ds fun st=>eD T call e n c st (Mh T e)
 |none=>none
end
def D (T:TypeId->Option TyI) (tab:Nat->Entry) (gZ:FuncId->List Nat):Nat->(e:Nat)->List DV->Option (bO (tab e).bI)
 |0,_,_=>none
 |n+1,e,ds=>match(tab e).cg with
  |some p=>p ds
  |none=>DA T (qd tab gZ (D T tab gZ n)) (tab e) n ds
end Go.Ev
namespace Go.Ev
structure Asg where
 bx:Nat->Nat
 ob:Nat->Value
 fp:Nat->List Nat
def Mi (H:Heap) (fp:List Nat) (hd:Value) (d:DV) (i j:Nat) (c:CT) (x:Interp c) (v:Value):Prop:=
 ∃e g len cap cur ty frz,jV d.c d.x i=some e/\(bH (ak d.c) e)[j]? =some (enc c x)/\hd=.slice (some ⟨g,0,none⟩) len cap/\g∈fp/\H g=some (.cells cur ty frz)/\
  cur.toList[i*(ak d.c).size+j]? =some v
def rI (H:Heap) (R:Nat->Prop) (ts:aR) (x:bg ts) (off:Nat) (v:Value):Prop:=
 ∃g o cur ty frz,v=.pointer (some ⟨g,o+off,none⟩)/\R g/\H g=some (.cells cur ty frz)/\o+ts.size<=cur.size/\au H R false (bH ts x) ((cur.toList.drop o).take ts.size) []
mutual
def az (H:Heap) (R:Nat->Prop) (st:St) (θ:Asg):Cell->Value->Prop
 |.undef,_=>True
 |.b x,v=>v=.bool x
 |.i k n,v=>v=.int k n/\(k.min<=n/\n<=k.max)
 |.s x,v=>v=.string ⟨x.toArray⟩/\x.length<=maxLen
 |.sh c x,v=>bN c=true/\aD H R false (enc c x) v []
 |.kN c x,v=>bN c=true/\aD H R false (enc c x) v []/\ ∃a l m,v=.slice (some a) l m
 |.nl,v=>v=.slice none 0 0
 |.z0,v=> ∃a,v=.slice a 0 0
 |.ob k aG vw,v=>aG<=(st.aj k).aG/\(aG=(st.aj k).aG->(st.aj k).bp.isSome=true->
   match vw with
   |none=>v=θ.ob k
   |some n=> ∃a len cap,θ.ob k=.slice a len cap/\v=.slice a n cap)
 |.gs k aG wv pl c x,v=>bN c=true/\aG<=(st.aj k).aG/\(aG=(st.aj k).aG->wv<=(st.aj k).wv/\(wv=(st.aj k).wv-> ∀d,(st.aj k).bp=some d->
   aD H (fun b=>b∈θ.fp k) false (enc c x) v []/\ ∀i j,pl=some (i,j)->Mi H (θ.fp k) (θ.ob k) d i j c x v))
 |.eV,v=>v=.pointer none
 |.pb b off,v=>(st.boxes b).isSome=true/\v=.pointer (some ⟨θ.bx b,off,none⟩)
 |.pe k aG i off,v=>(∃g o,v=.pointer (some ⟨g,o,none⟩))/\aG<=(st.aj k).aG/\(aG=(st.aj k).aG-> ∀d,(st.aj k).bp=some d->
   ∃g len cap,θ.ob k=.slice (some ⟨g,0,none⟩) len cap/\i<aE d.c d.x/\v=.pointer (some ⟨g,i*(ak d.c).size+off,none⟩))
 |.pr ts x off,v=>rI H R ts x off v
 |.pg k aG wv ts x off,v=>(∃g o,v=.pointer (some ⟨g,o,none⟩))/\aG<=(st.aj k).aG/\(aG=(st.aj k).aG->wv<=(st.aj k).wv/\(wv=(st.aj k).wv->(st.aj k).bp.isSome=true->rI H (fun b=>b∈θ.fp k) ts x off v))
 |.ft,v=>v=.nilFunc
 |.fn f a b,v=> ∃p vb,v=.func (.func f) p vb/\aI H R st θ a p.toList/\aI H R st θ b vb.toList
 |.er x,v=>(x=false/\v=.nilIface)\/(x=true/\ ∃t u,v=.iface t u)
def aI (H:Heap) (R:Nat->Prop) (st:St) (θ:Asg):List Cell->List Value->Prop
 | [],vs=>vs=[]
 |c::cs,vs=> ∃v h,vs=v::h/\(az H R st θ c v/\cC v=true)/\aI H R st θ cs h
end
mutual
def aV (H:Heap) (R:Nat->Prop) (st:St) (θ:Asg):TV->Value->Prop
 |.one c,v=>az H R st θ c v/\(c=.undef\/cC v=true)
 |.agg cs,v=> ∃arr,v=.agg arr/\aI H R st θ cs arr.toList
 |.aP vs,v=> ∃arr,v=.tuple arr/\bW H R st θ vs arr.toList
def bW (H:Heap) (R:Nat->Prop) (st:St) (θ:Asg):List TV->List Value->Prop
 | [],vs=>vs=[]
 |c::cs,vs=> ∃v b,vs=v::b/\aV H R st θ c v/\bW H R st θ cs b
end
structure Step (R:Nat->Prop) (st:St) (θ:Asg) (H:Heap) (st':St) (θ':Asg) (H':Heap):Prop where
 rd: ∀b,R b->H' b=H b
 bx: ∀b,(st.boxes b).isSome=true->(st'.boxes b).isSome=true/\θ'.bx b=θ.bx b
 ob: ∀k,(st'.aj k=st.aj k/\((st.aj k).bp.isSome=true->θ'.ob k=θ.ob k/\θ'.fp k=θ.fp k/\ ∀g,g∈θ.fp k->H' g=H g))\/
  (st.aj k).aG<(st'.aj k).aG\/
  ((st'.aj k).aG=(st.aj k).aG/\(st.aj k).wv<(st'.aj k).wv/\(st.aj k).bp.isSome=true/\
   ∀d',(st'.aj k).bp=some d'->θ'.ob k=θ.ob k/\ ∃d,(st.aj k).bp=some d/\d'.c=d.c/\aE d'.c d'.x=aE d.c d.x)
theorem Step.refl (R:Nat->Prop) (st:St) (θ:Asg) (H:Heap):Step R st θ H st θ H:=
 ⟨fun _ _=>rfl,fun _ h=>⟨h,rfl⟩,fun _=>.inl ⟨rfl,fun _=>⟨rfl,rfl,fun _ _=>rfl⟩⟩⟩
theorem Step.trans {R:Nat->Prop} {st st' i:St} {θ θ' j:Asg} {H H' p:Heap} (s:Step R st θ H st' θ' H') (t:Step R st' θ' H' i j p):Step R st θ H i j p:=by
 refine⟨fun b hb=>(t.rd b hb).trans (s.rd b hb),fun b hb=> ?_,fun k=> ?_⟩
 .obtain⟨h1,h2⟩:=s.bx b hb
  obtain⟨h3,h4⟩:=t.bx b h1;exact⟨h3,h4.trans h2⟩
 .rcases s.ob k with⟨e,ho⟩|hv|⟨hv,hw,hd,hl⟩<;>rcases t.ob k with⟨q,r⟩|f|⟨f,u,m,z⟩
  .refine .inl ⟨q.trans e,fun hk=> ?_⟩
   obtain⟨a1,a2,a3⟩:=ho hk;obtain⟨b1,b2,b3⟩:=r (by rw [e];exact hk)
   exact⟨b1.trans a1,b2.trans a2,fun g hg=>(b3 g (by rw [a2];exact hg)).trans (a3 g hg)⟩
  .exact .inr (.inl (by rw [e]at f;exact f))
  .rw [e]at f u m
   refine .inr (.inr ⟨f,u,m,fun d' h=> ?_⟩)
   obtain⟨k1,d,k2,k3⟩:=z d' h;rw [e]at k2;exact⟨k1.trans (ho m).1,d,k2,k3⟩
  .exact .inr (.inl (by rw [q];exact hv))
  .exact .inr (.inl (by omega))
  .exact .inr (.inl (by omega))
  .refine .inr (.inr ⟨by rw [q];exact hv,by rw [q];exact hw,hd,fun d' h=> ?_⟩)
   rw [q]at h;obtain⟨k1,d,k2,k3⟩:=hl d' h;exact⟨(r (by simp [h])).1.trans k1,d,k2,k3⟩
  .exact .inr (.inl (by omega))
  .refine .inr (.inr ⟨by omega,by omega,hd,fun d' h=> ?_⟩)
   obtain⟨k1,d1,k2,k3,k4⟩:=z d' h;obtain⟨j1,d,j2,j3,j4⟩:=hl d1 k2;exact⟨k1.trans j1,d,j2,k3.trans j3,k4.trans j4⟩
section
variable {R:Nat→Prop} {st st':St} {θ θ':Asg} {H H':Heap}
theorem rI.frame {R R':Nat->Prop} {ts:aR} {x:bg ts} {off:Nat} {v:Value} (h:rI H R ts x off v) (d: ∀b,R b->H' b=H b) (f: ∀b,R b->R' b):rI H' R' ts x off v:=by
 obtain⟨g,o,cur,ty,frz,j,i,k,m,p⟩:=h;exact⟨g,o,cur,ty,frz,j,f g i,(d g i).trans k,m,p.frame (fun b q=>d b (q.resolve_left (by simp))) f⟩
mutual
theorem az.step (s:Step R st θ H st' θ' H'): ∀(c:Cell) (v:Value),az H R st θ c v->az H' R st' θ' c v
 |.undef,_,_=>trivial
 |.b _,_,h=>by simpa only [az]using h
 |.i _ _,_,h=>by simpa only [az]using h
 |.s _,_,h=>by simpa only [az]using h
 |.sh _ _,_,h=>by
  simp only [az]at h |-;exact⟨h.1,h.2.frame (fun b z=>s.rd b (z.resolve_left (by simp))) (fun _ h=>h)⟩
 |.kN _ _,_,h=>by
  simp only [az]at h |-;exact⟨h.1,h.2.1.frame (fun b z=>s.rd b (z.resolve_left (by simp))) (fun _ h=>h),h.2.2⟩
 |.nl,_,h=>by simpa only [az]using h
 |.z0,_,h=>by simpa only [az]using h
 |.ob k aG vw,v,h=>by
  simp only [az]at h |-;obtain⟨p,m⟩:=h;rcases s.ob k with⟨e,t⟩|q|⟨q, -,hd,hl⟩
  .rw [e]
   refine⟨p,fun a b=> ?_⟩
   rw [(t b).1];exact m a b
  .exact⟨by omega,fun a=>by omega⟩
  .rw [q]
   refine⟨p,fun a b=> ?_⟩
   obtain⟨d',u⟩:=À.1 b;rw [(hl d' u).1];exact m a hd
 |.gs k aG wv pl c x,v,h=>by
  simp only [az]at h |-;obtain⟨r,p,m⟩:=h;rcases s.ob k with⟨e,t⟩|q|⟨q,hw,hd,hl⟩
  .rw [e]
   refine⟨r,p,fun a=>⟨(m a).1,fun b d hd=> ?_⟩⟩
   obtain⟨g1,g2,g3⟩:=t (by simp [hd])
   obtain⟨q1,q2⟩:=(m a).2 b d hd;rw [g2,g1];refine⟨q1.frame (fun b z=>g3 b (z.resolve_left (by simp))) (fun _ h=>h),fun i j af=> ?_⟩
   obtain⟨e1,g,len,cap,cur,ty,frz,k1,k2,k3,kg,k4,k5⟩:=q2 i j af;exact⟨e1,g,len,cap,cur,ty,frz,k1,k2,k3,kg,(g3 g kg).trans k4,k5⟩
  .exact⟨r,by omega,fun a=>by omega⟩
  .rw [q]
   exact⟨r,p,fun a=>⟨by have:=(m a).1;omega,fun b=>by have:=(m a).1;omega⟩⟩
 |.eV,_,h=>by simpa only [az]using h
 |.pb b off,v,h=>by
  simp only [az]at h |-;obtain⟨p,m⟩:=h;obtain⟨g1,g2⟩:=s.bx b p;exact⟨g1,by rw [g2];exact m⟩
 |.pe k aG i off,v,h=>by
  simp only [az]at h |-;obtain⟨r,p,m⟩:=h;rcases s.ob k with⟨e,t⟩|q|⟨q, -,hd,hl⟩
  .rw [e]
   refine⟨r,p,fun a d hd=> ?_⟩
   rw [(t (by simp [hd])).1]
   exact m a d hd
  .exact⟨r,by omega,fun a=>by omega⟩
  .rw [q]
   refine⟨r,p,fun a d' u=> ?_⟩
   obtain⟨t,d,hd,hc,hlen⟩:=hl d' u;rw [t];obtain⟨g,len,cap,k1,k2,k3⟩:=m a d hd;exact⟨g,len,cap,k1,by omega,by rw [hc];exact k3⟩
 |.pr ts x off,v,h=>by
  simp only [az]at h |-;exact h.frame s.rd (fun _ h=>h)
 |.pg k aG wv ts x off,v,h=>by
  simp only [az]at h |-;obtain⟨r,p,m⟩:=h;rcases s.ob k with⟨e,t⟩|q|⟨q,hw,hd,hl⟩
  .rw [e]
   refine⟨r,p,fun a=>⟨(m a).1,fun b hd=> ?_⟩⟩
   obtain⟨g1,g2,g3⟩:=t hd;rw [g2];exact((m a).2 b hd).frame g3 (fun _ h=>h)
  .exact⟨r,by omega,fun a=>by omega⟩
  .rw [q]
   exact⟨r,p,fun a=>⟨by have:=(m a).1;omega,fun b=>by have:=(m a).1;omega⟩⟩
 |.ft,_,h=>by simpa only [az]using h
 |.fn f a b,v,h=>by
  simp only [az]at h |-;obtain⟨va,vb,rfl,p,m⟩:=h;exact⟨va,vb,rfl,aI.step s a _ p,aI.step s b _ m⟩
 |.er _,_,h=>by simpa only [az]using h
theorem aI.step (s:Step R st θ H st' θ' H'): ∀(cs:List Cell) (vs:List Value),aI H R st θ cs vs->aI H' R st' θ' cs vs
 | [],_,h=>by simpa only [aI]using h
 |c::cs,vs,h=>by
  simp only [aI]at h |-;obtain⟨v,ae,rfl,p,m⟩:=h;exact⟨v,ae,rfl,⟨az.step s c v p.1,p.2⟩,aI.step s cs ae m⟩
end
mutual
theorem aV.step (s:Step R st θ H st' θ' H'): ∀(c:TV) (v:Value),aV H R st θ c v->aV H' R st' θ' c v
 |.one c,v,h=>by
  simp only [aV]at h |-;exact⟨az.step s c v h.1,h.2⟩
 |.agg cs,v,h=>by
  simp only [aV]at h |-;obtain⟨arr,rfl,h⟩:=h;exact⟨arr,rfl,aI.step s _ _ h⟩
 |.aP vs,v,h=>by
  simp only [aV]at h |-;obtain⟨arr,rfl,h⟩:=h;exact⟨arr,rfl,bW.step s _ _ h⟩
theorem bW.step (s:Step R st θ H st' θ' H'): ∀(cs:List TV) (vs:List Value),bW H R st θ cs vs->bW H' R st' θ' cs vs
 | [],_,h=>by simpa only [bW]using h
 |c::cs,vs,h=>by
  simp only [bW]at h |-;obtain⟨v,b,rfl,d,f⟩:=h;exact⟨v,b,rfl,aV.step s c v d,bW.step s cs b f⟩
end
end
theorem aI.length {R:Nat->Prop} {st:St} {θ:Asg} {H:Heap}: ∀ {cs:List Cell} {vs:List Value},aI H R st θ cs vs->cs.length=vs.length
 | [],vs,h=>by simp only [aI]at h;simp [h]
 |c::cs,vs,h=>by
  simp only [aI]at h;obtain⟨v,b,rfl, -,d⟩:=h;simp [aI.length d]
end Go.Ev
namespace Go.Ev
def hp (w:World):Heap:=fun b=>w.heap[b]?
theorem xO (w:World) (o:Obj) {g:Nat} (h:g<w.heap.size):hp (w.alloc o) g=hp w g:=by
 show(w.heap.push o)[g]? =w.heap[g]?;rw [Array.getElem?_push,if_neg (by omega)]
def cU (st:St) (θ:Asg) (g:Nat):Prop:=(∃b,(st.boxes b).isSome=true/\θ.bx b=g)\/ ∃k,(st.aj k).bp.isSome=true/\g∈θ.fp k
structure Inv (w0:World) (F R:Nat->Prop) (st:St) (θ:Asg) (w:World):Prop where
 size:w0.heap.size<=w.heap.size
 same: ∀b,b<w0.heap.size-> ¬F b->hp w b=hp w0 b
 os:w.os=w0.os
 tape:w.tape=w0.tape
 out:w.output=w0.output
 rd: ∀b,R b->b<w0.heap.size/\ ¬F b
 boxes: ∀b cs,st.boxes b=some cs-> ∃arr ty frz,hp w (θ.bx b)=some (.cells arr ty frz)/\ir arr.size frz/\aI (hp w) R st θ cs arr.toList
 aj: ∀k d,(st.aj k).bp=some d->bN d.c=true/\aD (hp w) R true (enc d.c d.x) (θ.ob k) (θ.fp k)/\(θ.fp k).Nodup
 bb: ∀b b',(st.boxes b).isSome=true->(st.boxes b').isSome=true->θ.bx b=θ.bx b'->b=b'
 bo: ∀b k,(st.boxes b).isSome=true->(st.aj k).bp.isSome=true->θ.bx b∉θ.fp k
 oo: ∀k k' g,(st.aj k).bp.isSome=true->(st.aj k').bp.isSome=true->g∈θ.fp k->g∈θ.fp k'->k=k'
 own: ∀g,cU st θ g->(F g\/w0.heap.size<=g)
variable {w0 w w':World} {F R:Nat→Prop} {st st':St} {θ θ':Asg}
theorem Inv.ui (h:Inv w0 F R st θ w) {g:Nat} (b:cU st θ g): ¬R g:=by
 intro d;have:=h.rd g d;rcases h.own g b with f|i
 .exact this.2 f
 .omega
theorem aD.rJ {H:Heap} {R:Nat->Prop} {n:Nat} (r: ∀b o,H b=some o->b<n) {own:Bool} {d:bf} {v:Value} {fp:List Nat} (h:aD H R own d v fp): ∀g∈fp,g<n:=by
 revert h
 refine bf.rec (motive_1:=fun d=> ∀(v:Value) (fp:List Nat),aD H R own d v fp-> ∀g∈fp,g<n)
  (motive_2:=fun ds=> ∀(vs:List Value) (fp:List Nat),au H R own ds vs fp-> ∀g∈fp,g<n) ?_ ?_ ?_ ?_ ?_ ?_ d v fp
 .intro x v fp h g f;simp only [aD]at h;simp [h.2]at f
 .intro k m v fp h g f;simp only [aD]at h;simp [h.2.2]at f
 .intro x v fp h g f;simp only [aD]at h;simp [h.2.2]at f
 .intro sz cs ih v fp h g f
  simp only [aD]at h;obtain⟨a,len,cap, -, -, -, -, -,h⟩:=h;rcases h with⟨-,⟨-,rfl⟩|⟨t,cur,ty,frz,fps, -,i, -, -,rfl,j⟩⟩|⟨-,rfl, -⟩
  .simp at f
  .rcases Å.1 f with rfl|f
   .exact r _ _ i
   .exact ih _ _ j g f
  .simp at f
 .intro vs fp h g f;simp only [au]at h;simp [h.2]at f
 .intro d ds p q vs fp h g f
  simp only [au]at h;obtain⟨v,s,f1,f2, -,rfl,i,j⟩:=h;rcases ó.1 f with f|f
  .exact p _ _ i g f
  .exact q _ _ j g f
theorem au.rJ {H:Heap} {R:Nat->Prop} {n:Nat} (i: ∀b o,H b=some o->b<n) {own:Bool}: ∀ {ds:List bf} {vs:List Value} {fp:List Nat},au H R own ds vs fp-> ∀g∈fp,g<n
 | [],vs,fp,h,g,f=>by simp only [au]at h;simp [h.2]at f
 |d::ds,vs,fp,h,g,f=>by
  simp only [au]at h;obtain⟨v,j,f1,f2, -,rfl,k,m⟩:=h;rcases ó.1 f with f|f
  .exact k.rJ i g f
  .exact au.rJ i m g f
theorem ox {b:Nat} {o:Obj} (h:hp w b=some o):b<w.heap.size:=(Array.getElem?_eq_some_iff.1 h).1
theorem Inv.kd (h:Inv w0 F R st θ w) {g:Nat} (f:cU st θ g):g<w.heap.size:=by
 rcases f with⟨b,i,rfl⟩|⟨k,hk,f⟩
 .obtain⟨cs,j⟩:=À.1 i
  obtain⟨arr,ty,frz,m, -⟩:=h.boxes b cs j;exact ox m
 .obtain⟨d,hd⟩:=À.1 hk
  exact(h.aj k d hd).2.1.rJ (fun b o i=>ox i) g f
structure Float (w0:World) (F:Nat->Prop) (st:St) (θ:Asg) (fps:List Nat):Prop where
 nodup:fps.Nodup
 free: ∀g∈fps,¬cU st θ g
 own: ∀g∈fps,F g\/w0.heap.size<=g
theorem Inv.next (h:Inv w0 F R st θ w) (s:Step R st θ (hp w) st' θ' (hp w'))
  (t:w.heap.size<=w'.heap.size) (u:w'.os=w.os) (z:w'.tape=w.tape) (j:w'.output=w.output)
  (m: ∀b,b<w.heap.size->hp w' b≠hp w b->F b\/w0.heap.size<=b)
  (p: ∀b cs,st'.boxes b=some cs->(st.boxes b=some cs/\hp w' (θ.bx b)=hp w (θ.bx b))\/
   ∃arr ty frz,hp w' (θ'.bx b)=some (.cells arr ty frz)/\ir arr.size frz/\aI (hp w') R st' θ' cs arr.toList)
  (q: ∀k d,(st'.aj k).bp=some d->((st.aj k).bp=some d/\θ'.ob k=θ.ob k/\θ'.fp k=θ.fp k/\ ∀g∈θ.fp k,hp w' g=hp w g)\/
   (bN d.c=true/\aD (hp w') R true (enc d.c d.x) (θ'.ob k) (θ'.fp k)/\(θ'.fp k).Nodup))
  (ad: ∀b b',(st'.boxes b).isSome=true->(st'.boxes b').isSome=true->θ'.bx b=θ'.bx b'->b=b')
  (ae: ∀b k,(st'.boxes b).isSome=true->(st'.aj k).bp.isSome=true->θ'.bx b∉θ'.fp k)
  (af: ∀k k' g,(st'.aj k).bp.isSome=true->(st'.aj k').bp.isSome=true->g∈θ'.fp k->g∈θ'.fp k'->k=k')
  (r: ∀g,cU st' θ' g->(F g\/w0.heap.size<=g)):Inv w0 F R st' θ' w' where
 size:=Nat.le_trans h.size t
 same:=fun b f hF=>by
  rw [<-h.same b f hF];by_cases e:hp w' b=hp w b
  .exact e
  .rcases m b (Ñ f h.size) e with hf|hs
   .exact absurd hf hF
   .omega
 os:=u.trans h.os
 tape:=z.trans h.tape
 out:=j.trans h.out
 rd:=h.rd
 boxes:=fun b cs ag=>by
  rcases p b cs ag with⟨i,h2⟩|i
  .obtain⟨arr,ty,frz,k1,k2,k3⟩:=h.boxes b cs i
   refine⟨arr,ty,frz, ?_,k2,aI.step s _ _ k3⟩
   rw [(s.bx b (by simp [i])).2,h2]
   exact k1
  .exact i
 aj:=fun k d hd=>by
  rcases q k d hd with⟨i,h2,h3,h4⟩|i
  .obtain⟨k1,k2,k3⟩:=h.aj k d i
   rw [h2,h3];refine⟨k1,k2.frame (fun b f=> ?_) (fun _ h=>h),k3⟩
   rcases f with f|f
   .exact h4 b f
   .exact s.rd b f
  .exact i
 bb:=ad
 bo:=ae
 oo:=af
 own:=r
theorem Inv.world (h:Inv w0 F R st θ w) (p:w.heap.size<=w'.heap.size) (q:w'.os=w.os) (r:w'.tape=w.tape) (i:w'.output=w.output)
  (f: ∀b,b<w.heap.size->hp w' b=hp w b):Inv w0 F R st θ w'/\Step R st θ (hp w) st θ (hp w'):=by
 have z: ∀b,R b->hp w' b=hp w b:=fun b t=>f b (Ñ (h.rd b t).1 h.size)
 have u: ∀g,cU st θ g->hp w' g=hp w g:=fun g j=>f g (h.kd j)
 have s:Step R st θ (hp w) st θ (hp w'):=⟨z,fun _ h=>⟨h,rfl⟩,fun k=>.inl ⟨rfl,fun hk=>⟨rfl,rfl,fun g j=>u g (.inr ⟨k,hk,j⟩)⟩⟩⟩
 refine⟨h.next s p q r i (fun b t e=>absurd (f b t) e) (fun b cs m=>.inl ⟨m,u _ (.inl ⟨b,by simp [m],rfl⟩)⟩)
  (fun k d hd=>.inl ⟨hd,rfl,rfl,fun g j=>u g (.inr ⟨k,by simp [hd],j⟩)⟩) h.bb h.bo h.oo h.own,s⟩
theorem Inv.XJ (h:Inv w0 F R st θ w) {b:Nat} (hb:st.boxes b=none) {cs:List Cell} {arr:Array Value} {ty:TypeId}
  (hr:aI (hp w) R st θ cs arr.toList):
  Inv w0 F R {st with boxes:=aS st.boxes b (some cs)} {θ with bx:=aS θ.bx b w.heap.size} (w.alloc (.cells arr ty))/\
  Step R st θ (hp w) {st with boxes:=aS st.boxes b (some cs)} {θ with bx:=aS θ.bx b w.heap.size} (hp (w.alloc (.cells arr ty))):=by
 have hold: ∀g,g<w.heap.size->hp (w.alloc (.cells arr ty)) g=hp w g:=fun g i=>xO w _ i
 have hR: ∀g,R g->hp (w.alloc (.cells arr ty)) g=hp w g:=fun g i=>hold g (Ñ (h.rd g i).1 h.size)
 have u: ∀g,cU st θ g->hp (w.alloc (.cells arr ty)) g=hp w g:=fun g i=>hold g (h.kd i)
 have z: ∀b',(st.boxes b').isSome=true->b'≠b:=fun b' p e=>by subst e;simp [hb]at p
 have s:Step R st θ (hp w) {st with boxes:=aS st.boxes b (some cs)} {θ with bx:=aS θ.bx b w.heap.size} (hp (w.alloc (.cells arr ty))):=by
  refine⟨hR,fun b' p=> ?_,fun k=>.inl ⟨rfl,fun hk=>⟨rfl,rfl,fun g i=>u g (.inr ⟨k,hk,i⟩)⟩⟩⟩
  simp only [aZ _ _ (z b' p)];exact⟨p,by simp⟩
 refine⟨h.next s (by show w.heap.size<=(w.heap.push _).size;simp) rfl rfl rfl (fun g i e=>absurd (hold g i) e) ?_ (fun k d hd=>.inl ⟨hd,rfl,rfl,fun g i=>u g (.inr ⟨k,À.2 ⟨_,hd⟩,i⟩)⟩) ?_ ?_ h.oo ?_,s⟩
 .intro b' ah f
  by_cases e:b'=b
  .subst e
   simp only [bC,Ä]at f;subst f;right
   refine⟨arr,ty,(0,0), ?_,fun o _=>by simp,aI.step s _ _ hr⟩
   simp only [bC];exact heap_alloc_new w _
  .simp only [aZ _ _ e]at f
   exact .inl ⟨f,u _ (.inl ⟨b',À.2 ⟨_,f⟩,rfl⟩)⟩
 .intro q b2 j r e
  by_cases m:q=b<;>by_cases t:b2=b
  .rw [m,t]
  .subst m
   simp only [aZ _ _ t,bC]at r e;have:=h.kd (.inl ⟨b2,r,e.symm⟩);omega
  .subst t
   simp only [aZ _ _ m,bC]at j e;have:=h.kd (.inl ⟨q,j,e⟩);omega
  .simp only [aZ _ _ m,aZ _ _ t]at j r e
   exact h.bb q b2 j r e
 .intro q k j hk
  by_cases m:q=b
  .subst m
   simp only [bC];intro i;have:=h.kd (.inr ⟨k,hk,i⟩);omega
  .simp only [aZ _ _ m]at j |-
   exact h.bo q k j hk
 .rintro g (⟨q,j,rfl⟩|⟨k,hk,i⟩)
  .by_cases m:q=b
   .subst m;simp only [bC];exact .inr h.size
   .simp only [aZ _ _ m]at j |-
    exact h.own _ (.inl ⟨q,j,rfl⟩)
  .exact h.own _ (.inr ⟨k,hk,i⟩)
theorem Inv.Mj (h:Inv w0 F R st θ w) {b:Nat} {cs0 cs:List Cell} (z:st.boxes b=some cs0) {arr:Array Value} {ty:TypeId} {frz:Nat×Nat}
  (ah:w'.heap.size=w.heap.size) (ad:w'.os=w.os) (ae:w'.tape=w.tape) (m:w'.output=w.output)
  (p:hp w' (θ.bx b)=some (.cells arr ty frz)) (hz:ir arr.size frz) (hold: ∀g,g≠θ.bx b->hp w' g=hp w g)
  (hr:aI (hp w) R st θ cs arr.toList):
  Inv w0 F R {st with boxes:=aS st.boxes b (some cs)} θ w'/\Step R st θ (hp w) {st with boxes:=aS st.boxes b (some cs)} θ (hp w'):=by
 have q:cU st θ (θ.bx b):=.inl ⟨b,by simp [z],rfl⟩
 have hR: ∀g,R g->hp w' g=hp w g:=fun g r=>hold g (fun e=>h.ui q (e▸r))
 have hO: ∀k,(st.aj k).bp.isSome=true-> ∀g∈θ.fp k,hp w' g=hp w g:=fun k hk g r=>hold g (fun e=>h.bo b k (by simp [z]) hk (e▸r))
 have s:Step R st θ (hp w) {st with boxes:=aS st.boxes b (some cs)} θ (hp w'):=by
  refine⟨hR,fun b' j=>⟨?_,rfl⟩,fun k=>.inl ⟨rfl,fun hk=>⟨rfl,rfl,hO k hk⟩⟩⟩
  by_cases e:b'=b
  .subst e;simp [bC]
  .simp only [aZ _ _ e];exact j
 have i: ∀b',(aS st.boxes b (some cs) b').isSome=true->(st.boxes b').isSome=true:=fun b' j=>by
  by_cases e:b'=b
  .subst e;simp [z]
  .simpa only [aZ _ _ e]using j
 refine⟨h.next s (by omega) ad ae m ?_ ?_ (fun k d hd=>.inl ⟨hd,rfl,rfl,hO k (À.2 ⟨_,hd⟩)⟩) (fun t b2 u h2=>h.bb t b2 (i _ u) (i _ h2))
  (fun t k u hk=>h.bo t k (i _ u) hk) h.oo ?_,s⟩
 .intro g _ e
  by_cases eg:g=θ.bx b
  .subst eg;exact h.own _ q
  .exact absurd (hold g eg) e
 .intro b' ar f
  by_cases e:b'=b
  .subst e
   simp only [bC,Ä]at f;subst f;exact .inr ⟨arr,ty,frz,p,hz,aI.step s _ _ hr⟩
  .simp only [aZ _ _ e]at f
   exact .inl ⟨f,hold _ (fun e'=>e (h.bb b' b (À.2 ⟨_,f⟩) (by simp [z]) e'))⟩
 .rintro g (⟨t,u,rfl⟩|⟨k,hk,r⟩)
  .exact h.own _ (.inl ⟨t,i _ u,rfl⟩)
  .exact h.own _ (.inr ⟨k,hk,r⟩)
theorem Inv.kill (h:Inv w0 F R st θ w) {k:Nat} {d:DV} (hd:(st.aj k).bp=some d) (aG wv:Nat) (p:(st.aj k).aG<aG\/((st.aj k).aG=aG/\(st.aj k).wv<wv)):
  Inv w0 F R {st with aj:=aS st.aj k ⟨aG,wv,none⟩} θ w/\Step R st θ (hp w) {st with aj:=aS st.aj k ⟨aG,wv,none⟩} θ (hp w)/\
  Float w0 F {st with aj:=aS st.aj k ⟨aG,wv,none⟩} θ (θ.fp k):=by
 have f: ∀k',(aS st.aj k ⟨aG,wv,none⟩ k').bp.isSome=true->k'≠k/\(st.aj k').bp.isSome=true:=fun k' i=>by
  by_cases e:k'=k
  .subst e;simp [bC]at i
  .simp only [aZ _ _ e]at i;exact⟨e,i⟩
 have s:Step R st θ (hp w) {st with aj:=aS st.aj k ⟨aG,wv,none⟩} θ (hp w):=by
  refine⟨fun _ _=>rfl,fun _ h=>⟨h,rfl⟩,fun k'=> ?_⟩
  by_cases e:k'=k
  .subst e
   simp only [bC];rcases p with p|⟨p,hw⟩
   .exact .inr (.inl p)
   .exact .inr (.inr ⟨p.symm,hw,by simp [hd],fun d' j=>by cases j⟩)
  .simp only [aZ _ _ e];exact .inl ⟨by simp,fun _=>⟨by simp,by simp,fun _ _=>by simp⟩⟩
 refine⟨h.next s (Nat.le_refl _) rfl rfl rfl (fun _ _ e=>absurd rfl e) (fun b cs r=>.inl ⟨r,rfl⟩) ?_ h.bb (fun b k' z i=>h.bo b k' z (f k' i).2)
  (fun k1 k2 g q h2=>h.oo k1 k2 g (f _ q).2 (f _ h2).2) ?_,s, ?_⟩
 .intro k' d' j
  have hk:=f k' (À.2 ⟨_,j⟩);simp only [aZ _ _ hk.1]at j;exact .inl ⟨j,by simp,by simp,fun _ _=>by simp⟩
 .rintro g (⟨t,q,rfl⟩|⟨k',i,m⟩)
  .exact h.own _ (.inl ⟨t,q,rfl⟩)
  .exact h.own _ (.inr ⟨k',(f k' i).2,m⟩)
 .refine⟨(h.aj k d hd).2.2, ?_,fun g m=>h.own g (.inr ⟨k,À.2 ⟨_,hd⟩,m⟩)⟩
  rintro g m (⟨t,q,e⟩|⟨k',i,u⟩)
  .exact h.bo t k q (À.2 ⟨_,hd⟩) (e▸m)
  .exact(f k' i).1 (h.oo k' k g (f k' i).2 (À.2 ⟨_,hd⟩) u m)
theorem Inv.newObj (h:Inv w0 F R st θ w) {k:Nat} (hk:(st.aj k).bp=none) {d:DV} (hc:bN d.c=true) {hd:Value} {fp:List Nat} (aG wv:Nat) (hv:(st.aj k).aG<aG)
  (ad:w.heap.size<=w'.heap.size) (ae:w'.os=w.os) (af:w'.tape=w.tape) (t:w'.output=w.output)
  (hold: ∀g,g<w.heap.size->g∉fp->hp w' g=hp w g)
  (hr:aD (hp w') R true (enc d.c d.x) hd fp) (hn:fp.Nodup) (p: ∀g∈fp,¬cU st θ g/\(F g\/w0.heap.size<=g)):
  Inv w0 F R {st with aj:=aS st.aj k ⟨aG,wv,some d⟩} {θ with ob:=aS θ.ob k hd,fp:=aS θ.fp k fp} w'/\
  Step R st θ (hp w) {st with aj:=aS st.aj k ⟨aG,wv,some d⟩} {θ with ob:=aS θ.ob k hd,fp:=aS θ.fp k fp} (hp w'):=by
 have hR: ∀g,R g->hp w' g=hp w g:=fun g i=>hold g (Ñ (h.rd g i).1 h.size) (fun e=>by
  have:=h.rd g i;rcases (p g e).2 with h|h
  .exact this.2 h
  .omega)
 have hO: ∀g,cU st θ g->hp w' g=hp w g:=fun g i=>hold g (h.kd i) (fun e=>(p g e).1 i)
 have s:Step R st θ (hp w) {st with aj:=aS st.aj k ⟨aG,wv,some d⟩} {θ with ob:=aS θ.ob k hd,fp:=aS θ.fp k fp} (hp w'):=by
  refine⟨hR,fun _ h=>⟨h,rfl⟩,fun k'=> ?_⟩
  by_cases e:k'=k
  .subst e;simp only [bC];exact .inr (.inl hv)
  .simp only [aZ _ _ e];exact .inl ⟨by simp,fun j=>⟨by simp,by simp,fun g i=>hO g (.inr ⟨k',j,i⟩)⟩⟩
 have f: ∀k',k'≠k->(aS st.aj k ⟨aG,wv,some d⟩ k').bp.isSome=true->(st.aj k').bp.isSome=true:=fun k' e j=>by
  simp only [aZ _ _ e]at j;exact j
 refine⟨h.next s ad ae af t (fun g i e=>(p g (Decidable.byContradiction fun hn=>e (hold g i hn))).2) (fun b cs u=>.inl ⟨u,hO _ (.inl ⟨b,À.2 ⟨_,u⟩,rfl⟩)⟩) ?_ h.bb ?_ ?_ ?_,s⟩
 .intro k' d' m
  by_cases e:k'=k
  .subst e
   simp only [bC,Ä]at m;subst m;right
   simp only [bC];exact⟨hc,hr,hn⟩
  .simp only [aZ _ _ e]at m |-
   exact .inl ⟨m,by simp,by simp,fun g i=>hO g (.inr ⟨k',À.2 ⟨_,m⟩,i⟩)⟩
 .intro b k' hb j
  by_cases e:k'=k
  .subst e
   simp only [bC];intro i;exact(p _ i).1 (.inl ⟨b,hb,rfl⟩)
  .simp only [aZ _ _ e]
   exact h.bo b k' hb (f k' e j)
 .intro k1 k2 g z h2 g1 g2
  by_cases q:k1=k<;>by_cases r:k2=k
  .rw [q,r]
  .subst q
   simp only [bC,aZ _ _ r]at g1 g2;exact absurd (.inr ⟨k2,f k2 r h2,g2⟩) (p _ g1).1
  .subst r
   simp only [bC,aZ _ _ q]at g1 g2;exact absurd (.inr ⟨k1,f k1 q z,g1⟩) (p _ g2).1
  .simp only [aZ _ _ q,aZ _ _ r]at g1 g2
   exact h.oo k1 k2 g (f k1 q z) (f k2 r h2) g1 g2
 .rintro g (⟨b1,z,rfl⟩|⟨k',j,i⟩)
  .exact h.own _ (.inl ⟨b1,z,rfl⟩)
  .by_cases e:k'=k
   .subst e;simp only [bC]at i;exact(p _ i).2
   .simp only [aZ _ _ e]at i
    exact h.own _ (.inr ⟨k',f k' e j,i⟩)
theorem Inv.setObj (h:Inv w0 F R st θ w) {k:Nat} {d0 d:DV} (r:(st.aj k).bp=some d0) (hc:d.c=d0.c) (hl:aE d.c d.x=aE d0.c d0.x) {fp:List Nat} (wv:Nat) (hv:(st.aj k).wv<wv)
  (av:w'.heap.size=w.heap.size) (ah:w'.os=w.os) (ai:w'.tape=w.tape) (z:w'.output=w.output)
  (hold: ∀g,g∉θ.fp k->hp w' g=hp w g)
  (hr:aD (hp w') R true (enc d.c d.x) (θ.ob k) fp) (hn:fp.Nodup) (hf: ∀g∈fp,g∈θ.fp k\/(¬cU st θ g/\(F g\/w0.heap.size<=g))):
  Inv w0 F R {st with aj:=aS st.aj k ⟨(st.aj k).aG,wv,some d⟩} {θ with fp:=aS θ.fp k fp} w'/\
  Step R st θ (hp w) {st with aj:=aS st.aj k ⟨(st.aj k).aG,wv,some d⟩} {θ with fp:=aS θ.fp k fp} (hp w'):=by
 have m:(st.aj k).bp.isSome=true:=À.2 ⟨_,r⟩;have hR: ∀g,R g->hp w' g=hp w g:=fun g q=>hold g (fun e=>h.ui (.inr ⟨k,m,e⟩) q)
 have hB: ∀b,(st.boxes b).isSome=true->hp w' (θ.bx b)=hp w (θ.bx b):=fun b hb=>hold _ (fun e=>h.bo b k hb m e)
 have hO: ∀k',k'≠k->(st.aj k').bp.isSome=true-> ∀g∈θ.fp k',hp w' g=hp w g:=fun k' e j g q=>hold g (fun e'=>e (h.oo k' k g j m q e'))
 have s:Step R st θ (hp w) {st with aj:=aS st.aj k ⟨(st.aj k).aG,wv,some d⟩} {θ with fp:=aS θ.fp k fp} (hp w'):=by
  refine⟨hR,fun _ h=>⟨h,rfl⟩,fun k'=> ?_⟩
  by_cases e:k'=k
  .subst e
   simp only [bC];refine .inr (.inr ⟨trivial,hv,m,fun d' p=> ?_⟩)
   simp only [Ä]at p;subst p;exact⟨trivial,d0,r,hc,hl⟩
  .simp only [aZ _ _ e];exact .inl ⟨by simp,fun j=>⟨by simp,by simp,hO k' e j⟩⟩
 have i: ∀k',k'≠k->(aS st.aj k ⟨(st.aj k).aG,wv,some d⟩ k').bp.isSome=true->(st.aj k').bp.isSome=true:=fun k' e j=>by
  simp only [aZ _ _ e]at j;exact j
 refine⟨h.next s (by omega) ah ai z ?_ (fun b cs ae=>.inl ⟨ae,hB b (À.2 ⟨_,ae⟩)⟩) ?_ h.bb ?_ ?_ ?_,s⟩
 .intro g _ e
  by_cases eg:g∈θ.fp k
  .exact h.own _ (.inr ⟨k,m,eg⟩)
  .exact absurd (hold g eg) e
 .intro k' d' p
  by_cases e:k'=k
  .subst e
   simp only [bC,Ä]at p;subst p;right
   simp only [bC];exact⟨by rw [hc];exact(h.aj _ d0 r).1,hr,hn⟩
  .simp only [aZ _ _ e]at p |-
   exact .inl ⟨p,by simp,by simp,hO k' e (À.2 ⟨_,p⟩)⟩
 .intro b k' hb j
  by_cases e:k'=k
  .subst e
   simp only [bC];intro q;rcases hf _ q with f|f
   .exact h.bo b _ hb m f
   .exact f.1 (.inl ⟨b,hb,rfl⟩)
  .simp only [aZ _ _ e]
   exact h.bo b k' hb (i k' e j)
 .intro k1 k2 g h1 h2 g1 g2
  by_cases t:k1=k<;>by_cases u:k2=k
  .rw [t,u]
  .subst t
   simp only [bC,aZ _ _ u]at g1 g2;rcases hf _ g1 with f|f
   .exact h.oo _ k2 g m (i k2 u h2) f g2
   .exact absurd (.inr ⟨k2,i k2 u h2,g2⟩) f.1
  .subst u
   simp only [bC,aZ _ _ t]at g1 g2;rcases hf _ g2 with f|f
   .exact h.oo k1 _ g (i k1 t h1) m g1 f
   .exact absurd (.inr ⟨k1,i k1 t h1,g1⟩) f.1
  .simp only [aZ _ _ t,aZ _ _ u]at g1 g2
   exact h.oo k1 k2 g (i k1 t h1) (i k2 u h2) g1 g2
 .rintro g (⟨b1,h1,rfl⟩|⟨k',j,q⟩)
  .exact h.own _ (.inl ⟨b1,h1,rfl⟩)
  .by_cases e:k'=k
   .subst e;simp only [bC]at q
    rcases hf _ q with f|f
    .exact h.own _ (.inr ⟨_,m,f⟩)
    .exact f.2
   .simp only [aZ _ _ e]at q
    exact h.own _ (.inr ⟨k',i k' e j,q⟩)
end Go.Ev
namespace Go.Ev
variable {P:Program} {w:World}
theorem XK (v:Value):cC v=v.oneCell':=by cases v<;>rfl
theorem Ml {g o n:Nat} {cur:Array Value} {ty:TypeId} {frz:Nat×Nat} (b:hp w g=some (.cells cur ty frz)) (f:o+n<=cur.size):
  (loadCells ⟨g,o,none⟩ n).run P w=.ok ((cur.toList.drop o).take n).toArray w:=by
 have d:((cur.toList.drop o).take n).length=n:=by simp;omega
 have h:=run_loadCells_list (P:=P) w ⟨g,o,none⟩ ((cur.toList.drop o).take n) (fun j v hj=>by
  rw [Addr.add_lit,cell_of_row w g (o+j) cur ty frz b];rw [ê]at hj
  split at hj
  .rw [ë]at hj
   rw [<-hj];simp
  .cases hj)
 rw [d]at h;exact h
theorem XL {g o:Nat} {cur:Array Value} {ty:TypeId} {frz:Nat×Nat} {v:Value} (d:hp w g=some (.cells cur ty frz)) (f:cur.toList[o]? =some v):
  (load ⟨g,o,none⟩).run P w=.ok v w:=by
 have b:cur[o]? =some v:=by simpa using f
 rw [run_load,cell_of_row w g o cur ty frz d,b]
theorem xP {g o:Nat} {cur:Array Value} {ty:TypeId} {frz:Nat×Nat} (d:hp w g=some (.cells cur ty frz)) (f:ir cur.size frz) (i:o<cur.size):w.frozen? ⟨g,o,none⟩=false:=by
 have b:w.heap[g]? =some (.cells cur ty frz):=d;obtain⟨lo,hi⟩:=frz;have:=f o i;simp only [World.frozen?,b,Bool.and_eq_false_iff,decide_eq_false_iff_not];simp only [not_and]at this;by_cases h:lo<=o
 .exact .inr (this h)
 .exact .inl h
theorem DB {g o:Nat}: ∀ {vs:List Value} {i:Nat} {cur:Array Value} {ty:TypeId} {frz:Nat×Nat} {w:World},hp w g=some (.cells cur ty frz)->ir cur.size frz->o+i+vs.length<=cur.size->(∀v∈vs,cC v=true)->
  (storeCells ⟨g,o,none⟩ vs i).run P w=.ok () (w.setRow g (cur.toList.take (o+i)++(vs++cur.toList.drop (o+i+vs.length))).toArray)
 | [],i,cur,ty,frz,w,d,_,_,_=>by
  simp only [storeCells,ò,ô,í,Î,Array.toArray_toList];rw [setRow_self w g cur ty frz d];rfl
 |v::rest,i,cur,ty,frz,w,d,k,m,p=>by
  have hi:o+i<cur.size:=by simp at m;omega
  have h:w.heap[g]? =some (.cells cur ty frz):=d;have b:w.cell? ⟨g,o+i,none⟩=some cur[o+i]:=by simp [World.cell?,h,hi]
  have f:w.frozen? ⟨g,o+i,none⟩=false:=xP d k hi;have j:(store ((⟨g,o,none⟩:Addr).add i) v).run P w=.ok () (w.setRow g (cur.setIfInBounds (o+i) v)):=by
   rw [Addr.add_lit,run_store P w _ v _ (by rw [<-XK];exact p v (by simp)),b]
   simp [f,setCell_eq_setRow w g (o+i) cur ty frz v d]
  have ih:=DB (g:=g) (o:=o) (vs:=rest) (i:=i+1) (w:=w.setRow g (cur.setIfInBounds (o+i) v)) (cur:=cur.setIfInBounds (o+i) v) (setRow_heap w g cur _ ty _ d)
   (by simpa using k) (by simp at m |-;omega) (fun x q=>p x (by simp [q]))
  simp only [storeCells,å,j,Ö,ih,setRow_setRow];congr 3
  have r:o+(i+1)=(o+i)+1:=by omega
  rw [r];have hle:o+i<cur.toList.length:=by simpa using hi
  simp only [Array.toList_setIfInBounds,î];rw [List.take_succ_eq_append_getElem (by simpa using hle),List.take_set_of_le (by omega)]
  rw [List.drop_set_of_lt (by omega)]
  simp
  omega
def Mm:Cell->Value->Bool
 |.b false,.bool false=>true
 |.i k n,.int k' m=>decide (k=k'/\n=0/\m=0)
 |.s [],.string s=>decide (s=⟨#[]⟩)
 |.nl,.slice none 0 0=>true
 |.eV,.pointer none=>true
 |.ft,.nilFunc=>true
 |.er false,.nilIface=>true
 |_,_=>false
def oy:List Cell->List Value->Bool
 | [],[]=>true
 |c::cs,v::vs=>Mm c v&&oy cs vs
 |_,_=>false
def zeroV:CT->Value->Bool
 |.bool,.bool false=>true
 |.int k,.int k' m=>decide (k=k'/\m=0)
 |.str,.string s=>decide (s=⟨#[]⟩)
 |.sl _,.slice none 0 0=>true
 |.tree _,.slice none 0 0=>true
 |_,_=>false
def kQ:aR->List Value->Bool
 |.one c,[v]=>zeroV c v
 |.cons c cs,v::vs=>zeroV c v&&kQ cs vs
 |_,_=>false
structure XM (P:Program) (fields:Array Field) (fs:List (Nat×TypeId)):Prop where
 len:fields.size=fs.length
 at_: ∀(i off:Nat) (t:TypeId),fs[i]? =some (off,t)-> ∃f:Field,fields[i]? =some f/\f.offset=off/\f.type=t/\ ∃inf,P.info? t=some inf/\inf.size≠0
def lR (P:Program) (t:TypeId):U->Prop
 |.bool=>P.underlying t=some .bool
 |.int k=>P.underlying t=some (.int k)
 |.str=>P.underlying t=some .string
 |.slice e=>P.underlying t=some (.slice e)
 |.struct fs=> ∃fields,P.underlying t=some (.struct fields)/\XM P fields fs
 |.ptr=> ∃e,P.underlying t=some (.pointer e)
 |.func=> ∃a b c,P.underlying t=some (.func a b c)
 |.iface=> ∃ms,P.underlying t=some (.interface ms)
 |.other=>False
def Mn (P:Program) (t:TypeId) (ts:aR):Prop:=
 P.eqGuardType P.depth t=false/\
 ∀(xs b:List Cell) (vs us:Array Value) (bs:List Bool) (w:World) (H:Heap) (R:Nat->Prop) (st:St) (θ:Asg),kP ts xs=true->kP ts b=true->eW xs b=some bs->aI H R st θ xs vs.toList->aI H R st θ b us.toList->
  (â t (.agg vs) (.agg us)).run P w=.ok (jY bs) w
structure oz (P:Program) (T:TypeId->Option TyI) (t:TypeId) (i:TyI):Prop where
 info: ∃inf z,P.info? t=some inf/\inf.size=i.size/\inf.bytes=i.bytes/\inf.zero=some z/\oy i.zero z.cells.toList=true/\(match i.u with|.struct _=> ∃cs,z=.agg cs|_=>cC z=true)
 u:lR P t i.u
 sl: ∀c,i.bA=some (.one c)->bN c=true-> ∀e,i.u=.slice e-> ∃inf z,P.info? e=some inf/\inf.size=(ak c).size/\inf.bytes<=1024/\inf.zero=some z/\kQ (ak c) z.cells.toList=true/\
  (match ak c with|.one (.int .u8)=>P.underlying e=some (.int .u8)|_=>True)
 one:(match i.u with|.struct _=>True|_=>i.size=1)
 eq:i.eq=true-> ∀ts,i.bA=some ts->Mn P t ts
end Go.Ev
namespace Go.Ev
section
variable {H:Heap} {R:Nat→Prop} {own:Bool} {c:CT} {x:Interp c} {v:Value} {fp:List Nat}
theorem aD.gG (d:bN c=true) (h:aD H R own (enc c x) v fp): ∃a cap,v=.slice a (aE c x) cap/\aE c x<=cap/\cap<=maxLen:=by
 rw [tR d]at h;simp only [aD]at h;obtain⟨a,len,cap,rfl,f,b,g,i, -⟩:=h;have j:len=aE c x:=by
  rw [gX]at b;exact(Nat.eq_of_mul_eq_mul_right f b).symm
 subst j;exact⟨a,cap,rfl,g,i⟩
theorem aD.xQ (i:bN c=true) {a:Option Addr} {len cap:Nat} (h:aD H R false (enc c x) (.slice a len cap) fp) (d:aE c x≠0):
  ∃g off cur ty frz,a=some ⟨g,off,none⟩/\R g/\H g=some (.cells cur ty frz)/\off+(aE c x)*(ak c).size<=cur.size/\
   au H R false (cz c x) ((cur.toList.drop off).take (aE c x*(ak c).size)) []:=by
 obtain⟨u,j,e, -, -⟩:=h.gG i;cases e;rw [tR i]at h;simp only [aD]at h;obtain⟨z,k,m,p,h0,f,h2,h3,b⟩:=h;cases p;rcases b with⟨b, -⟩|⟨-, -,b⟩
 .simp at b
 .rcases b with b|⟨g,off,cur,ty,frz,rfl,q,r,s,t⟩
  .rw [b]at f
   simp only [ô]at f;rcases Nat.mul_eq_zero.1 f.symm with h|h
   .exact absurd h d
   .omega
  .exact⟨g,off,cur,ty,frz,rfl,q,r,s,t⟩
theorem aD.XN (b:bN c=true) {a:Option Addr} {cap:Nat} (d:aE c x<=cap) (f:cap<=maxLen)
  (h:aE c x=0\/ ∃g off cur ty frz,a=some ⟨g,off,none⟩/\R g/\H g=some (.cells cur ty frz)/\off+(aE c x)*(ak c).size<=cur.size/\
   au H R false (cz c x) ((cur.toList.drop off).take (aE c x*(ak c).size)) []):aD H R false (enc c x) (.slice a (aE c x) cap) []:=by
 rw [tR b];simp only [aD];refine⟨a,_,cap,rfl,aR.size_pos _,gX x,d,f,.inr ⟨trivial,trivial, ?_⟩⟩
 rcases h with h|h
 .left
  exact Ü (by rw [gX,h,Nat.zero_mul])
 .exact .inr h
theorem au.cut {ds:List bf} {vs:List Value} (h:au H R own ds vs []) (i n:Nat):au H R own ((ds.drop i).take n) ((vs.drop i).take n) []:=by
 have j:=h.length;rw [<-Î i ds]at h;obtain⟨f1,f2,e,k1,k2⟩:=h.split;have b:=æ.1 e.symm;obtain⟨rfl,rfl⟩:=b;have d:(vs.drop (ds.take i).length)=vs.drop i:=by
  rw [Û];by_cases hi:i<=ds.length
  .rw [Ð hi]
  .rw [ï (by omega),Õ (by omega),Õ (by omega)]
 rw [d]at k2;have f:=k2.length;rw [<-Î n (ds.drop i)]at k2;obtain⟨f1,f2,e,k3,k⟩:=k2.split;have b:=æ.1 e.symm;obtain⟨rfl,rfl⟩:=b;have g:((vs.drop i).take ((ds.drop i).take n).length)=(vs.drop i).take n:=by
  rw [Û];by_cases hi:n<=(ds.drop i).length
  .rw [Ð hi]
  .rw [ï (by omega),Ô (by omega),Ô (by omega)]
 rw [g]at k3;exact k3
theorem XO {l h:Nat} (b:l<=h) (d:h<=aE c x):aE c (fU c (h-l) (gp c l x))=h-l:=by
 rw [tS,XE];omega
theorem aD.cut (j:bN c=true) {a:Option Addr} {cap l h m:Nat} (p:aD H R false (enc c x) (.slice a (aE c x) cap) fp) (b:l<=h) (d:h<=aE c x) (hm:h-l<=m) (f:m<=maxLen) (i:Option Addr)
  (q:h≠l->i=a.map (·.add (l*(ak c).size))):aD H R false (enc c (fU c (h-l) (gp c l x))) (.slice i (h-l) m) []:=by
 have r:=XO (x:=x) b d;have key:=aD.XN (H:=H) (R:=R) (c:=c) (x:=fU c (h-l) (gp c l x)) (a:=i) (cap:=m) j (by omega) f
 rw [r]at key;refine key ?_
 by_cases e:h=l
 .left;omega
 .right
  obtain⟨g,off,cur,ty,frz,rfl,s,t,h7,u⟩:=p.xQ j (by omega)
  refine⟨g,off+l*(ak c).size,cur,ty,frz, ?_,s,t, ?_, ?_⟩
  .rw [q e];simp [Addr.add_lit]
  .have:=Æ (ak c).size d
   have z:(h-l)*(ak c).size=h*(ak c).size-l*(ak c).size:=ü _ _ _;have:=Æ (ak c).size b;omega
  .have k:=u.cut (l*(ak c).size) ((h-l)*(ak c).size)
   rw [xF,Di];have e4:(((cur.toList.drop off).take (aE c x*(ak c).size)).drop (l*(ak c).size)).take ((h-l)*(ak c).size)=
     (cur.toList.drop (off+l*(ak c).size)).take ((h-l)*(ak c).size):=by
    rw [Ø,Ù,Ú];congr 1
    have:=Æ (ak c).size d;have z:(h-l)*(ak c).size=h*(ak c).size-l*(ak c).size:=ü _ _ _;have:=Æ (ak c).size b;omega
   rw [e4]at k;exact k
theorem uj {i:Nat} {e:bg (ak c)} (h:jV c x i=some e):i<aE c x:=by
 rw [LV]at h;rw [iu];exact(Ï.1 h).1
theorem XP {i:Nat} {e:bg (ak c)} (h:jV c x i=some e):((cz c x).drop (i*(ak c).size)).take (ak c).size=bH (ak c) e:=by
 have b:=Dj h;have d:((cz c x).take (i*(ak c).size)).length=i*(ak c).size:=by
  rw [Û,gX];have:=Æ (ak c).size (Nat.le_of_lt (uj h));omega
 conv=>lhs;rw [b]
 rw [List.drop_left' d];rw [List.take_left' (kM _ _)]
theorem aD.elem (f:bN c=true) {a:Option Addr} {len cap i:Nat} {e:bg (ak c)} (h:aD H R false (enc c x) (.slice a len cap) fp) (hi:jV c x i=some e):
  ∃g off,a=some ⟨g,off,none⟩/\rI H R (ak c) e 0 (.pointer (some ⟨g,off+i*(ak c).size,none⟩)):=by
 have b:=uj hi;obtain⟨g,off,cur,ty,frz,rfl,j,k,q,m⟩:=h.xQ f (by omega)
 refine⟨g,off,rfl,g,off+i*(ak c).size,cur,ty,frz,rfl,j,k, ?_, ?_⟩
 .have:=Æ (ak c).size b
  rw [ø]at this;omega
 .have d:=m.cut (i*(ak c).size) (ak c).size
  rw [XP hi]at d;have p:(((cur.toList.drop off).take (aE c x*(ak c).size)).drop (i*(ak c).size)).take (ak c).size=
    (cur.toList.drop (off+i*(ak c).size)).take (ak c).size:=by
   rw [Ø,Ù,Ú];congr 1
   have:=Æ (ak c).size b;rw [ø]at this;omega
  rw [p]at d;exact d
theorem aD.rK (d:bN c=true) (h:aD H R true (enc c x) v fp):
  ∃a cap,v=.slice a (aE c x) cap/\aE c x<=cap/\cap<=maxLen/\((cap=0/\fp=[])\/ ∃g cur ty frz fps,a=some ⟨g,0,none⟩/\H g=some (.cells cur ty frz)/\cur.size=cap*(ak c).size/\nY (ak c).size cur.size frz/\
     fp=g::fps/\au H R true (cz c x) (cur.toList.take (aE c x*(ak c).size)) fps):=by
 obtain⟨q,f,e, -, -⟩:=h.gG d;subst e;rw [tR d]at h;simp only [aD]at h;obtain⟨r,i,j,k,s,t,m,p,b⟩:=h;cases k;refine⟨_,_,rfl,m,p, ?_⟩
 rcases b with⟨-,b⟩|⟨b, -⟩
 .exact b
 .simp at b
theorem aD.oA (b:bN c=true) {a:Option Addr} {cap:Nat} (d:aE c x<=cap) (f:cap<=maxLen)
  (h:(cap=0/\fp=[])\/ ∃g cur ty frz fps,a=some ⟨g,0,none⟩/\H g=some (.cells cur ty frz)/\cur.size=cap*(ak c).size/\nY (ak c).size cur.size frz/\
     fp=g::fps/\au H R true (cz c x) (cur.toList.take (aE c x*(ak c).size)) fps):aD H R true (enc c x) (.slice a (aE c x) cap) fp:=by
 rw [tR b];simp only [aD];exact⟨a,_,cap,rfl,aR.size_pos _,gX x,d,f,.inl ⟨trivial,h⟩⟩
end
theorem jD {c b:CT} {x:Interp c} {y:Interp b} (h:dX c b x=some y): ∃e:c=b,e▸x=y:=by
 unfold dX at h;split at h
 .rename_i d
  simp only [Ä]at h;exact⟨CT.eq_of_beq c b d,h⟩
 .cases h
section
variable {w0 w:World} {F R:Nat→Prop} {st:St} {θ:Asg} {α:Type}
theorem xR (hI:Inv w0 F R st θ w) {cl:Cell} {v:Value} (g:az (hp w) R st θ cl v) {nil:M α} {k:(c:CT)->Interp c->M α} {a:α} {st':St} {l:Log}
  (h:(fc cl nil k).run st=some (a,st',l)):
  ((∃s,v=.slice s 0 0)/\nil.run st=some (a,st',l))\/
  ∃(c:CT) (x:Interp c) (p:Log) (R':Nat->Prop),(k c x).run st=some (a,st',p)/\bN c=true/\aD (hp w) R' false (enc c x) v []/\
   (∀b,R' b->R b\/cU st θ b):=by
 cases cl<;>simp only [fc,M.run,reduceCtorEq]at h
 case nl=>left;simp only [az]at g;exact⟨⟨none,g⟩,h⟩
 case z0=>left;simp only [az]at g;exact⟨g,h⟩
 case sh c x=>right;simp only [az]at g;exact⟨c,x,l,R,h,g.1,g.2,fun b i=>.inl i⟩
 case kN c x=>right;simp only [az]at g;exact⟨c,x,l,R,h,g.1,g.2.1,fun b i=>.inl i⟩
 case ob n aG vw=>
  right
  simp only [Á]at h;obtain⟨⟨a1,s1,p⟩,f,q⟩:=h;simp only [Â]at q;obtain⟨rfl,rfl,rfl⟩:=q;cases hd:(st.aj n).bp with
  |none=>simp [hd,M.run]at f
  |some d=>
   simp only [hd,M.gd,M.run]at f;split at f
   .rename_i t
    split at f
    .rename_i u
     have ae:=Ç t;simp only [az]at g;obtain⟨k1,k2⟩:=g;have k3:=k2 ae (by simp [hd])
     obtain⟨q1,q2,q3⟩:=hI.aj n d hd;have r: ∀b,b∈θ.fp n->R b\/cU st θ b:=fun b i=>.inr (.inr ⟨n,by simp [hd],i⟩)
     have j:=q2.share (R':=fun b=>b∈θ.fp n) (fun b i=>i)
     refine⟨d.c,_,p,fun b=>b∈θ.fp n,f,q1, ?_,r⟩
     cases vw with
     |none=>
      simp only at k3;subst k3;exact j
     |some m=>
      simp only at k3;obtain⟨s,len,cap,e1,e2⟩:=k3;subst e2;obtain⟨ao,ag,e3,e4,e5⟩:=q2.gG q1;rw [e1]at e3;cases e3;have hm:m<=aE d.c d.x:=by simpa [jB]using u
      rw [e1]at j;have:=aD.cut (l:=0) (h:=m) (m:=cap) q1 j (Nat.zero_le _) hm (by omega) e5 s (fun _=>by
       cases s with
       |none=>rfl
       |some z=>simp [Addr.add])
      have hz:gp d.c 0 d.x=d.x:=by
       cases d with
       |mk c x=>cases c<;>simp [gp]
      rw [hz]at this;exact this
    .cases f
   .cases f
 case gs n aG wv pl c x=>
  right
  simp only [Á]at h;obtain⟨⟨a1,s1,p⟩,f,q⟩:=h;simp only [Â]at q;obtain⟨rfl,rfl,rfl⟩:=q;cases hd:(st.aj n).bp with
  |none=>simp [hd,M.run]at f
  |some d=>
   simp only [hd,M.gd,M.run]at f;split at f
   .rename_i t
    split at f
    .rename_i hw
     simp only [az]at g;obtain⟨k0,k1,k2⟩:=g;obtain⟨k3,k4⟩:=k2 (Ç t);have k5:=k4 (Ç hw) d hd;exact⟨c,x,p,fun b=>b∈θ.fp n,f,k0,k5.1,fun b i=>.inr (.inr ⟨n,by simp [hd],i⟩)⟩
    .cases f
   .cases f
end
end Go.Ev
namespace Go.Ev
structure Ok (P:Program) (T:TypeId->Option TyI):Prop where
 eO: ∀t i,T t=some i->oz P T t i
 mixed:P.follows .mixedOrders=true
def Tm (H:Heap) (R:Nat->Prop) (st:St) (θ:Asg) (a:Act):Prop:= ∀t,aV H R st θ (st.tmps t) (a.tmps.getD t undef)
section
variable {H:Heap} {R:Nat→Prop} {st:St} {θ:Asg} {a:Act}
theorem lS (v:Value):aV H R st θ (.one .undef) v:=by simp [aV,az]
theorem XQ (v:Value):aV H R st θ (Dv v) v:=by
 unfold Dv;split
 .simp [aV,az,cC]
 .rename_i k n
  by_cases h:k.min<=n/\n<=k.max
  .simp [h,aV,az,cC]
  .simp only [h,decide_false,ez];exact lS _
 .rename_i s
  cases b:Ê s.data.toList.length mx
  .simp only [ez];exact lS _
  .have:s.data.toList.length<=maxLen:=by
    have:=È b;simpa [mx,maxLen]using this
   simp only [Y,aV,az,cC];exact⟨⟨by cases s;simp,this⟩,.inr trivial⟩
 .simp [aV,az,cC]
 .simp [aV,az,cC]
 .simp [aV,az,cC]
 .simp [aV,az,cC]
 .exact lS _
theorem gH (h:Tm H R st θ a) (c:Operand):aV H R st θ (bE st c) (a.eval c):=by
 cases c with
 |tmp t=>exact h t
 |const v=>exact XQ v
 |global g=>exact lS _
 |func f=>simp [bE,Act.eval,aV,az,aI,cC]
theorem dK (h:Tm H R st θ a) {c:Operand} {x:Cell} (e:bE st c=.one x) (b:x≠ .undef):az H R st θ x (a.eval c)/\cC (a.eval c)=true:=by
 have:=gH h c;rw [e]at this;simp only [aV]at this;exact⟨this.1,this.2.resolve_left b⟩
theorem fv (h:Tm H R st θ a) {c:Operand} {k:IntKind} {n:Int} (e:bE st c=.one (.i k n)):a.eval c=.int k n/\k.min<=n/\n<=k.max:=by
 have:=(dK h e (by simp)).1
 simpa only [az]using this
theorem qj (h:Tm H R st θ a) {c:Operand} {x:O} (e:bE st c=.one (.s x)):a.eval c=.string ⟨x.toArray⟩/\x.length<=maxLen:=by
 have:=(dK h e (by simp)).1
 simpa only [az]using this
theorem rL (h:Tm H R st θ a) {c:Operand} {x:Bool} (e:bE st c=.one (.b x)):a.eval c=.bool x:=by
 have:=(dK h e (by simp)).1
 simpa only [az]using this
end
theorem oB (k:IntKind) (n:Int):k.min<=k.wrap n/\k.wrap n<=k.max:=by
 cases k<;>simp only [IntKind.wrap,IntKind.min,IntKind.max,IntKind.bits,IntKind.signed]<;>(try simp)<;>(try split)<;>omega
def XR (P:Program) (o:Oper) (a:Act) (w:World) (u:Value) (w':World):Prop:=
 (execOp a.eval o).run P w=.ok (.value u) w'\/((execOp a.eval o).run P w=.ok .skip w'/\u=undef)
structure aY (P:Program) (w0:World) (F R:Nat->Prop) (st:St) (θ:Asg) (w:World) (o:Oper) (a:Act) (v:TV) (st':St):Prop where
 out: ∃u w' θ',XR P o a w u w'/\Inv w0 F R st' θ' w'/\Step R st θ (hp w) st' θ' (hp w')/\aV (hp w') R st' θ' v u
section
variable {P:Program} {T:TypeId→Option TyI} {w0 w:World} {F R:Nat→Prop} {st st':St} {θ:Asg} {a:Act} {o:Oper} {v:TV} {l:Log}
theorem aY.pure (b:Inv w0 F R st θ w) {u:Value} (h:(execOp a.eval o).run P w=.ok (.value u) w) (d:aV (hp w) R st θ v u):aY P w0 F R st θ w o a v st:=
 ⟨u,w,θ,.inl h,b,Step.refl _ _ _ _,d⟩
theorem M.aM {α:Type} {x:Bool} {m:M α} {r:α×St×Log} (h:(M.gd x m).run st=some r):x=true/\m.run st=some r:=by
 cases x<;>simp [M.gd,M.run]at h
 exact⟨rfl,h⟩
theorem M.gI {α:Type} {x y:α} (h:(M.ret x).run st=some (y,st',l)):y=x/\st'=st:=by
 simp only [M.run,Ä,Â]at h;exact⟨h.1.symm,h.2.1.symm⟩
theorem M.fK {α:Type} {k:Nat} {f:OB->M α} {y:α} (h:(M.ro k f).run st=some (y,st',l)): ∃b,(f (st.aj k)).run st=some (y,st',b):=by
 simp only [M.run,Á]at h;obtain⟨⟨i,s1,b⟩,g,d⟩:=h;simp only [Â]at d;obtain⟨rfl,rfl, -⟩:=d;exact⟨b,g⟩
theorem M.oC {α:Type} {k:Nat} {ob:OB} {m:M α} {y:α} (h:(M.wo k ob m).run st=some (y,st',l)): ∃b,m.run {st with aj:=aS st.aj k ob}=some (y,st',b):=by
 simp only [M.run,Á]at h;obtain⟨⟨g,s1,b⟩,f,d⟩:=h;simp only [Â]at d;obtain⟨rfl,rfl, -⟩:=d;exact⟨b,f⟩
theorem M.qk {α:Type} {b:Nat} {k:List Cell->M α} {y:α} (h:(M.rb b k).run st=some (y,st',l)): ∃cs d,st.boxes b=some cs/\(k cs).run st=some (y,st',d):=by
 simp only [M.run]at h;split at h
 .rename_i cs g
  simp only [Á]at h;obtain⟨⟨j,s1,d⟩,i,f⟩:=h;simp only [Â]at f;obtain⟨rfl,rfl, -⟩:=f;exact⟨cs,d,g,i⟩
 .cases h
theorem M.Mo {α:Type} {b:Nat} {cs:List Cell} {m:M α} {y:α} (h:(M.wb b cs m).run st=some (y,st',l)): ∃cs0 d,st.boxes b=some cs0/\m.run {st with boxes:=aS st.boxes b (some cs)}=some (y,st',d):=by
 simp only [M.run]at h;split at h
 .rename_i cs0 g
  simp only [Á]at h;obtain⟨⟨j,s1,d⟩,i,f⟩:=h;simp only [Â]at f;obtain⟨rfl,rfl, -⟩:=f;exact⟨cs0,d,g,i⟩
 .cases h
theorem M.Mp {α:Type} {b:Nat} {cs:List Cell} {m:M α} {y:α} (h:(M.nb b cs m).run st=some (y,st',l)):st.boxes b=none/\ ∃d,m.run {st with boxes:=aS st.boxes b (some cs)}=some (y,st',d):=by
 simp only [M.run]at h;split at h
 .cases h
 .rename_i g
  simp only [Á]at h;obtain⟨⟨j,s1,d⟩,i,f⟩:=h;simp only [Â]at f;obtain⟨rfl,rfl, -⟩:=f;exact⟨g,d,i⟩
theorem M.eI {α β:Type} {x:Option β} {f:β->M α} {r:α×St×Log} (h:(M.opt x f).run st=some r): ∃y,x=some y/\(f y).run st=some r:=by
 simp only [M.run,Ò]at h;exact h
theorem cO {c:Cell} (h:(c1 c).run st=some (v,st',l)):v=.one c/\st'=st:=M.gI h
theorem ff {H:Heap} {c:Cell} {u:Value} (h:az H R st θ c u) (b:cC u=true):aV H R st θ (.one c) u:=⟨h,.inr b⟩
theorem gJ {H:Heap} {k:IntKind} {n:Int} (h:k.min<=n/\n<=k.max):aV H R st θ (.one (.i k n)) (.int k n):=ff (by simp [az,h]) rfl
theorem eX {H:Heap} {x:Bool}:aV H R st θ (.one (.b x)) (.bool x):=ff (by simp [az]) rfl
theorem ql {H:Heap} {x:O} (h:x.length<=maxLen):aV H R st θ (.one (.s x)) (.string ⟨x.toArray⟩):=ff (by simp [az,h]) rfl
theorem eP {s:Sem Value} {u:Value} {w':World} (h:s.run P w=.ok u w'):(do let x <-s;Pure.pure (Next.value x):Sem Next).run P w=.ok (.value u) w':=by
 simp [h]
theorem XS {s:Sem Unit} {w':World} (h:s.run P w=.ok () w'):(do s;Pure.pure Next.skip:Sem Next).run P w=.ok .skip w':=by
 simp [h]
theorem XT (op:BinOp) (t:TypeId) (x y:Operand) (k k':IntKind) (m n:Int):(eqGuard op t x y (.int k m) (.int k' n)).run P w=.ok () w:=by
 cases op<;>simp [eqGuard]
theorem XU (op:BinOp) (t:TypeId) (x y:Operand) (m n:ByteArray):(eqGuard op t x y (.string m) (.string n)).run P w=.ok () w:=by
 cases op<;>simp [eqGuard]
theorem Mq (op:BinOp) (t:TypeId) (x y:Operand) (m n:Bool):(eqGuard op t x y (.bool m) (.bool n)).run P w=.ok () w:=by
 cases op<;>simp [eqGuard]
theorem ke {op:BinOp} {t:TypeId} {x y:Operand} {b:TypeId} (d:o.op=.binOp op t x y b) {u:Value} (f:(eqGuard op t x y (a.eval x) (a.eval y)).run P w=.ok () w)
  (g:(binOp op t (a.eval x) (a.eval y)).run P w=.ok u w):(execOp a.eval o).run P w=.ok (.value u) w:=by
 simp only [execOp,d];refine eP ?_
 simp [f,g]
end
end Go.Ev
namespace Go.Ev
theorem XV (k:IntKind) (x y:Int) (f:k.min<=x/\x<=k.max):k.min<=x.tmod y/\x.tmod y<=k.max:=by
 have g:k.min<=0/\0<=k.max:=by cases k<;>decide
 by_cases b:0<=x
 .have h:=Int.tmod_nonneg y b
  have d:x.tmod y<=x:=by
   have:=Int.natAbs_tmod x y;have:=ý x.natAbs y.natAbs;omega
  omega
 .have d:(x.tmod y).natAbs<=x.natAbs:=by
   rw [Int.natAbs_tmod];exact ý _ _
  have i:x.tmod y<=0:=by
   have e:x.tmod y= -((-x).tmod y):=by rw [Int.neg_tmod];omega
   have:=Int.tmod_nonneg y (show 0<= -x by omega)
   omega
  omega
theorem XW (k:IntKind) (x:Int) (n:Nat) (h:k.min<=x/\x<=k.max):k.min<=x.fdiv (2^n)/\x.fdiv (2^n)<=k.max:=by
 have i:k.min<=0/\0<=k.max:=by cases k<;>decide
 have hp:(0:Int)<2^n:=Int.pow_pos (by omega)
 rw [Int.fdiv_eq_ediv_of_nonneg _ (Int.le_of_lt hp)];by_cases b:0<=x
 .have d:0<=x/2^n:=Int.ediv_nonneg b (Int.le_of_lt hp)
  have f:x/2^n<=x:=Int.ediv_le_self _ b;omega
 .have d:x/2^n<0:=Int.ediv_neg_of_neg_of_pos (by omega) hp
  have f:x<=x/2^n:=by
   have j:=Int.mul_ediv_add_emod x (2^n);have m:=Int.emod_nonneg x (Int.ne_of_gt hp);have p:=Int.emod_lt_of_pos x hp;have g:(2^n-1)*(x/2^n)<=(2^n-1)*(-1):=Int.mul_le_mul_of_nonneg_left (by omega) (by omega)
   rw [Int.sub_mul]at g;omega
  omega
theorem xS (op:BinOp) (k:IntKind) (x y:Int):k.min<=fI op k x y/\fI op k x y<=k.max:=by
 unfold fI;split<;>exact oB _ _
section
variable {P:Program} {T:TypeId→Option TyI} {w0 w:World} {F R:Nat→Prop} {st st':St} {θ:Asg} {a:Act} {o:Oper} {v:TV} {l:Log}
theorem Mr {t:TypeId} (hu:P.underlying t=some .bool) (m n:Bool):(â t (.bool m) (.bool n)).run P w=.ok (m==n) w:=by
 have h: ∀d,(Í (d+1) t (.bool m) (.bool n)).run P w=.ok (m==n) w:=fun d=>by simp [Í,run_underlying hu]
 exact h 9999
theorem xT {t:TypeId} {ms:Array (String×TypeId)} (hu:P.underlying t=some (.interface ms)):(â t .nilIface .nilIface).run P w=.ok true w/\
  ∀b u,(â t (.iface b u) .nilIface).run P w=.ok false w:=by
 have h: ∀d,(Í (d+1) t .nilIface .nilIface).run P w=.ok true w:=fun d=>by simp [Í,run_underlying hu]
 have k: ∀d b u,(Í (d+1) t (.iface b u) .nilIface).run P w=.ok false w:=fun d b u=>by simp [Í,run_underlying hu]
 exact⟨h 9999,k 9999⟩
theorem Ms {t e:TypeId} (hu:P.underlying t=some (.slice e)):(â t (.slice none 0 0) (.slice none 0 0)).run P w=.ok true w/\
  ∀b m n,(â t (.slice (some b) m n) (.slice none 0 0)).run P w=.ok false w:=by
 have h: ∀d,(Í (d+1) t (.slice none 0 0) (.slice none 0 0)).run P w=.ok true w:=fun d=>by simp [Í,run_underlying hu]
 have k: ∀d b m n,(Í (d+1) t (.slice (some b) m n) (.slice none 0 0)).run P w=.ok false w:=fun d b m n=>by simp [Í,run_underlying hu]
 exact⟨h 9999,k 9999⟩
theorem Mt (b:Ok P T) {t:TypeId} (h:uB (T t)=true):P.underlying t=some .bool:=by
 unfold uB at h;split at h
 .rename_i e
  exact(b.eO t _ e).u
 .cases h
theorem XX (b:Ok P T) {t:TypeId} (h:uF (T t)=true): ∃ms,P.underlying t=some (.interface ms):=by
 unfold uF at h;split at h
 .rename_i e
  exact(b.eO t _ e).u
 .cases h
theorem xU (b:Ok P T) {t:TypeId} (h:uS (T t)=true): ∃e,P.underlying t=some (.slice e):=by
 unfold uS at h;split at h
 .rename_i e
  exact⟨_,(b.eO t _ e).u⟩
 .cases h
theorem Mu (i:Ok P T) (g:Inv w0 F R st θ w) (j:Tm (hp w) R st θ a) {op:BinOp} {t:TypeId} {x y:Operand} {k:TypeId} (h:o.op=.binOp op t x y k) (p:uF (T t)=true)
  {m r:Bool} (q:bE st x=.one (.er m)) (s:bE st y=.one (.er false)) (hop:(op=.eql/\r= !m)\/(op=.neq/\r=m)) (hy: ∃v,y=.const v):aY P w0 F R st θ w o a (.one (.b r)) st:=by
 obtain⟨ms,hu⟩:=XX i p;have f:=(dK j q (by simp)).1
 have d:=(dK j s (by simp)).1
 simp only [az]at f d;have d:a.eval y=.nilIface:=by rcases d with d|d<;>simp_all
 obtain⟨c,rfl⟩:=hy;rcases f with⟨rfl,f⟩|⟨rfl,z,u,f⟩
 .rcases hop with⟨rfl,rfl⟩|⟨rfl,rfl⟩
  .exact aY.pure g (ke h (by rw [f,d];simp [eqGuard]) (by rw [f,d];simp [binOp,(xT hu).1])) eX
  .exact aY.pure g (ke h (by rw [f,d];simp [eqGuard]) (by rw [f,d];simp [binOp,(xT hu).1])) eX
 .rcases hop with⟨rfl,rfl⟩|⟨rfl,rfl⟩
  .exact aY.pure g (ke h (by rw [f,d];simp [eqGuard]) (by rw [f,d];simp [binOp,(xT hu).2])) eX
  .exact aY.pure g (ke h (by rw [f,d];simp [eqGuard]) (by rw [f,d];simp [binOp,(xT hu).2])) eX
theorem Mv (h:Ok P T) (i:Tm (hp w) R st θ a) {t:TypeId} {x y:Operand} {xs g:List Cell} {bs:List Bool} (b:uE (T t) xs g=true)
  (k:bE st x=.agg xs) (m:bE st y=.agg g) (p:eW xs g=some bs):
  ∃vs us,a.eval x=.agg vs/\a.eval y=.agg us/\(∀op x y,(eqGuard op t x y (.agg vs) (.agg us)).run P w=.ok () w)/\(â t (.agg vs) (.agg us)).run P w=.ok (jY bs) w:=by
 have d:=gH i x;have f:=gH i y;rw [k]at d;rw [m]at f;simp only [aV]at d f;obtain⟨vs,k1,d⟩:=d;obtain⟨us,k2,f⟩:=f;unfold uE at b;split at b
 .rename_i e
  simp only [à]at b;have j:=(h.eO t _ e).eq b.1 _ rfl;exact⟨vs,us,k1,k2,fun op x y=>run_eqGuard_agg w op t x y vs us j.1,j.2 xs g vs us bs w (hp w) R st θ b.2.1 b.2.2 p d f⟩
 .cases b
theorem XY (p:Ok P T) (hI:Inv w0 F R st θ w) (q:Tm (hp w) R st θ a) {op:BinOp} {t:TypeId} {x y:Operand} {t':TypeId} (ho:o.op=.binOp op t x y t')
  (h:(Dp (T t) (xH y) op (bE st x) (bE st y)).run st=some (v,st',l)):aY P w0 F R st θ w o a v st':=by
 have hint: ∀ {k k':IntKind} {m n:Int} {c:Cell} {u:Value},bE st x=.one (.i k m)->bE st y=.one (.i k' n)->(c1 c).run st=some (v,st',l)->
   ((k.min<=m/\m<=k.max)->(k'.min<=n/\n<=k'.max)->(binOp op t (.int k m) (.int k' n)).run P w=.ok u w/\aV (hp w) R st θ (.one c) u)->aY P w0 F R st θ w o a v st':=by
  intro k k' m n c u h1 h2 h3 h4;obtain⟨rfl,rfl⟩:=cO h3;obtain⟨f,z⟩:=fv q h1;obtain⟨g,r2⟩:=fv q h2;obtain⟨h5,h6⟩:=h4 z r2;exact aY.pure hI (ke ho (by rw [f,g];exact XT _ _ _ _ _ _ _ _) (by rw [f,g];exact h5)) h6
 have j: ∀ {m n:O} {c:Cell} {u:Value},bE st x=.one (.s m)->bE st y=.one (.s n)->(c1 c).run st=some (v,st',l)->
   ((binOp op t (.string ⟨m.toArray⟩) (.string ⟨n.toArray⟩)).run P w=.ok u w/\aV (hp w) R st θ (.one c) u)->aY P w0 F R st θ w o a v st':=by
  intro m n c u h1 h2 h3 h4;obtain⟨rfl,rfl⟩:=cO h3;obtain⟨f,z⟩:=qj q h1;obtain⟨g,r2⟩:=qj q h2;obtain⟨h5,h6⟩:=h4;exact aY.pure hI (ke ho (by rw [f,g];exact XU _ _ _ _ _ _) (by rw [f,g];exact h5)) h6
 unfold Dp at h;split at h
 case h_1=> --shl
  rename_i k m k2 n f g;obtain⟨b,h⟩:=M.aM h;refine hint ‹_› ‹_› h (fun _ _=>⟨?_,gJ (oB _ _)⟩)
  have:=of_decide_eq_true b;simp [binOp,Ą,show ¬n<0 from by omega]
 case h_2=> --shr
  rename_i k m k2 n f g;obtain⟨b,h⟩:=M.aM h;refine hint ‹_› ‹_› h (fun h1 _=>⟨?_,gJ (XW _ _ _ h1)⟩)
  have:=of_decide_eq_true b;simp [binOp,Ą,show ¬n<0 from by omega]
 case h_3=>obtain⟨b,d⟩:=M.aM h;clear h;have:=of_decide_eq_true b;subst this;exact hint ‹_› ‹_› d (fun _ _=>⟨by simp [binOp,ñ],gJ (oB _ _)⟩)
 case h_4=>obtain⟨b,d⟩:=M.aM h;clear h;have:=of_decide_eq_true b;subst this;exact hint ‹_› ‹_› d (fun _ _=>⟨by simp [binOp,ñ],gJ (oB _ _)⟩)
 case h_5=>obtain⟨b,d⟩:=M.aM h;clear h;have:=of_decide_eq_true b;subst this;exact hint ‹_› ‹_› d (fun _ _=>⟨by simp [binOp,ñ],gJ (oB _ _)⟩)
 case h_6=>
  obtain⟨b,d⟩:=M.aM h;clear h;have:=of_decide_eq_true b;subst this;obtain⟨hz,r⟩:=M.aM d;exact hint ‹_› ‹_› r (fun _ _=>⟨by simp [binOp,ā,bne_iff_ne.1 hz],gJ (oB _ _)⟩)
 case h_7=>
  obtain⟨b,d⟩:=M.aM h;clear h;have:=of_decide_eq_true b;subst this;obtain⟨hz,r⟩:=M.aM d;exact hint ‹_› ‹_› r (fun h1 _=>⟨by simp [binOp,ā,bne_iff_ne.1 hz],gJ (XV _ _ _ h1)⟩)
 case h_8=>obtain⟨b,d⟩:=M.aM h;clear h;have:=of_decide_eq_true b;subst this;exact hint ‹_› ‹_› d (fun _ _=>⟨by simp [binOp,ì,fI],gJ (xS .and _ _ _)⟩)
 case h_9=>obtain⟨b,d⟩:=M.aM h;clear h;have:=of_decide_eq_true b;subst this;exact hint ‹_› ‹_› d (fun _ _=>⟨by simp [binOp,ì,fI],gJ (xS .or _ _ _)⟩)
 case h_10=>obtain⟨b,d⟩:=M.aM h;clear h;have:=of_decide_eq_true b;subst this;exact hint ‹_› ‹_› d (fun _ _=>⟨by simp [binOp,ì,fI],gJ (xS .xor _ _ _)⟩)
 case h_11=>obtain⟨b,d⟩:=M.aM h;clear h;have:=of_decide_eq_true b;subst this;exact hint ‹_› ‹_› d (fun _ _=>⟨by simp [binOp,ì,fI],gJ (xS .andNot _ _ _)⟩)
 case h_12=>obtain⟨b,d⟩:=M.aM h;clear h;have:=of_decide_eq_true b;subst this;exact hint ‹_› ‹_› d (fun _ _=>⟨by simp [binOp,ã],eX⟩)
 case h_13=>obtain⟨b,d⟩:=M.aM h;clear h;have:=of_decide_eq_true b;subst this;exact hint ‹_› ‹_› d (fun _ _=>⟨by simp [binOp,ã],eX⟩)
 case h_14=>obtain⟨b,d⟩:=M.aM h;clear h;have:=of_decide_eq_true b;subst this;exact hint ‹_› ‹_› d (fun _ _=>⟨by simp [binOp,ã],eX⟩)
 case h_15=>obtain⟨b,d⟩:=M.aM h;clear h;have:=of_decide_eq_true b;subst this;exact hint ‹_› ‹_› d (fun _ _=>⟨by simp [binOp,ã],eX⟩)
 case h_16=>obtain⟨b,d⟩:=M.aM h;clear h;have:=of_decide_eq_true b;subst this;exact hint ‹_› ‹_› d (fun _ _=>⟨by simp [binOp,ã],eX⟩)
 case h_17=>obtain⟨b,d⟩:=M.aM h;clear h;have:=of_decide_eq_true b;subst this;exact hint ‹_› ‹_› d (fun _ _=>⟨by simp [binOp,ã],eX⟩)
 case h_18=>
  obtain⟨b,h⟩:=M.aM h;have b:=È b;simp only [mx]at b;refine j ‹_› ‹_› h ⟨?_,ql (x:=_++_) (by rw [é];exact b)⟩
  have hm:IntKind.i64.max=9223372036854775807:=by decide
  simp only [binOp,Ó,hm];rw [if_neg]
  .simp only [Sem.run_pure]
   congr 2
  .show ¬_>(9223372036854775807:Int)
   simp only [ByteArray.size];simp
   omega
 case h_19=>exact j ‹_› ‹_› h ⟨by simp [binOp,Ó],eX⟩
 case h_20=>exact j ‹_› ‹_› h ⟨by simp [binOp,Ó],eX⟩
 case h_21=>exact j ‹_› ‹_› h ⟨by simp [binOp,Ó],eX⟩
 case h_22=>exact j ‹_› ‹_› h ⟨by simp [binOp,Ó],eX⟩
 case h_23=>exact j ‹_› ‹_› h ⟨by simp [binOp,Ó],eX⟩
 case h_24=>exact j ‹_› ‹_› h ⟨by simp [binOp,Ó],eX⟩
 case h_25=>
  rename_i m n f g;obtain⟨b,d⟩:=M.aM h;obtain⟨rfl,rfl⟩:=cO d;have hu:=Mt p b;have f:=rL q f;have g:=rL q g;exact aY.pure hI (ke ho (by rw [f,g];exact Mq _ _ _ _ _ _) (by rw [f,g];simp [binOp,Mr hu])) eX
 case h_26=>
  rename_i m n f g;obtain⟨b,d⟩:=M.aM h;obtain⟨rfl,rfl⟩:=cO d;have hu:=Mt p b;have f:=rL q f;have g:=rL q g;exact aY.pure hI (ke ho (by rw [f,g];exact Mq _ _ _ _ _ _) (by rw [f,g];simp [binOp,Mr hu])) eX
 case h_27=>
  rename_i m f g;obtain⟨b,d⟩:=M.aM h;obtain⟨hy,r⟩:=M.aM d;obtain⟨rfl,rfl⟩:=cO r;exact Mu p hI q ho b f g (.inl ⟨rfl,rfl⟩) (by cases y<;>simp [xH]at hy;exact⟨_,rfl⟩)
 case h_28=>
  rename_i m f g;obtain⟨b,d⟩:=M.aM h;obtain⟨hy,r⟩:=M.aM d;obtain⟨rfl,rfl⟩:=cO r;exact Mu p hI q ho b f g (.inr ⟨rfl,rfl⟩) (by cases y<;>simp [xH]at hy;exact⟨_,rfl⟩)
 case h_29=>
  rename_i xs ys f g;obtain⟨b,d⟩:=M.aM h;clear h;split at d
  .rename_i bs hb
   obtain⟨rfl,rfl⟩:=cO d;obtain⟨vs,us,k1,k2,k3,k4⟩:=Mv p q b f g hb (w:=w) (P:=P);exact aY.pure hI (ke ho (by rw [k1,k2];exact k3 _ _ _) (by rw [k1,k2];simp [binOp,k4])) eX
  .simp [M.run]at d
 case h_30=>
  rename_i xs ys f g;obtain⟨b,d⟩:=M.aM h;clear h;split at d
  .rename_i bs hb
   obtain⟨rfl,rfl⟩:=cO d;obtain⟨vs,us,k1,k2,k3,k4⟩:=Mv p q b f g hb (w:=w) (P:=P);exact aY.pure hI (ke ho (by rw [k1,k2];exact k3 _ _ _) (by rw [k1,k2];simp [binOp,k4])) eX
  .simp [M.run]at d
 case h_31=>
  rename_i f g;obtain⟨b,d⟩:=M.aM h;obtain⟨rfl,rfl⟩:=cO d;obtain⟨e,hu⟩:=xU p b;have z:=(dK q f (by simp)).1
  have r2:=(dK q g (by simp)).1
  simp only [az]at z r2;exact aY.pure hI (ke ho (by rw [z,r2];simp [eqGuard]) (by rw [z,r2];simp [binOp,(Ms hu).1])) eX
 case h_32=>
  rename_i c x f g;obtain⟨b,d⟩:=M.aM h;obtain⟨rfl,rfl⟩:=cO d;obtain⟨e,hu⟩:=xU p b;have z:=(dK q f (by simp)).1
  have r2:=(dK q g (by simp)).1
  simp only [az]at z r2;obtain⟨-, -,ad,m,n,z⟩:=z;exact aY.pure hI (ke ho (by rw [z,r2];simp [eqGuard]) (by rw [z,r2];simp [binOp,(Ms hu).2])) eX
 case h_33=>simp [M.run]at h
end
end Go.Ev
namespace Go.Ev
section
variable {H:Heap} {R:Nat→Prop} {st:St} {θ:Asg} {own:Bool}
theorem aI.append: ∀ {cs ds:List Cell} {vs us:List Value},aI H R st θ cs vs->aI H R st θ ds us->aI H R st θ (cs++ds) (vs++us)
 | [],ds,vs,us,h,k=>by simp only [aI]at h;subst h;simpa using k
 |c::cs,ds,vs,us,h,k=>by
  simp only [aI]at h;obtain⟨v,b,rfl,d,f⟩:=h;simp only [á,aI];exact⟨v,b++us,rfl,d,aI.append f k⟩
theorem aI.take: ∀ {cs:List Cell} {vs:List Value} (n:Nat),aI H R st θ cs vs->aI H R st θ (cs.take n) (vs.take n)
 | [],vs,n,h=>by simp only [aI]at h;subst h;simp [aI]
 |c::cs,vs,0,h=>by simp [aI]
 |c::cs,vs,n+1,h=>by
  simp only [aI]at h;obtain⟨v,b,rfl,d,f⟩:=h;simp only [Ý,aI];exact⟨v,_,rfl,d,aI.take n f⟩
theorem aI.drop: ∀ {cs:List Cell} {vs:List Value} (n:Nat),aI H R st θ cs vs->aI H R st θ (cs.drop n) (vs.drop n)
 | [],vs,n,h=>by simp only [aI]at h;subst h;simp [aI]
 |c::cs,vs,0,h=>by simpa using h
 |c::cs,vs,n+1,h=>by
  simp only [aI]at h;obtain⟨v,b,rfl,f,d⟩:=h;simpa only [ç]using aI.drop n d
theorem aI.one: ∀ {cs:List Cell} {vs:List Value},aI H R st θ cs vs-> ∀v∈vs,cC v=true
 | [],vs,h,v,b=>by simp only [aI]at h;simp [h]at b
 |c::cs,vs,h,v,b=>by
  simp only [aI]at h;obtain⟨u,d,rfl,f,g⟩:=h;rcases Å.1 b with rfl|b
  .exact f.2
  .exact aI.one g v b
theorem DC {agg:Bool} {cs:List Cell} {vs:List Value} (h:aI H R st θ cs vs) {u:Value} (hu:if agg=true then u=.agg vs.toArray else ∃v,vs=[v]/\u=v):aV H R st θ (kO agg cs) u:=by
 cases agg with
 |true=>
  simp only [if_true]at hu;simp only [kO,aV];exact⟨_,hu,by simpa using h⟩
 |false=>
  simp only [É,if_false]at hu;obtain⟨v,rfl,rfl⟩:=hu;have d:=h.length;match cs,d with
  | [c],_=>
   simp only [aI]at h;obtain⟨v,f,e,b, -⟩:=h;cases e;simp only [kO,aV];exact⟨b.1,.inr b.2⟩
theorem DD: ∀ {cs:List Cell} {vs:List Value},oy cs vs=true->aI H R st θ cs vs
 | [],[],_=>by simp [aI]
 | [],_::_,h=>by simp [oy]at h
 |_::_,[],h=>by simp [oy]at h
 |c::cs,v::vs,h=>by
  simp only [oy,à]at h;simp only [aI];refine⟨v,vs,rfl, ?_,DD h.2⟩
  have b:=h.1;unfold Mm at b;split at b<;>simp_all [az,cC,maxLen]
  rename_i k n k' m;obtain⟨rfl,rfl,rfl⟩:=b;cases k<;>decide
theorem xV {R':Nat->Prop} {f:Nat->(c:CT)->Interp c->Cell}: ∀ {ts:aR} {e:bg ts} {vs:List Value} {fps:List Nat} (j:Nat),au H R' own (bH ts e) vs fps->
  (∀(m:Nat) (c:CT) (x:Interp c) (v:Value) (fp:List Nat),bN c=true->(bH ts e)[m]? =some (enc c x)->vs[m]? =some v->aD H R' own (enc c x) v fp->(∀b∈fp,b∈fps)->az H R st θ (f (j+m) c x) v)->
  aI H R st θ (pU f j ts e) vs
 |.one c,e,vs,fps,j,h,g=>by
  simp only [bH,au]at h;obtain⟨v,i,f1,f2,rfl,rfl,d,rfl,rfl⟩:=h;simp only [pU,aI];refine⟨v,[],rfl,⟨?_,d.cC⟩,rfl⟩
  cases c with
  |bool=>simp only [enc,aD]at d;simp only [od,az];exact d.1
  |int k=>simp only [enc,aD]at d;simp only [od,az];exact⟨d.1,d.2.1⟩
  |str=>simp only [enc,aD]at d;simp only [od,az];exact⟨d.1,d.2.1⟩
  |sl ts=>exact g 0 (.sl ts) e v f1 rfl (by simp [bH]) rfl d (by simp)
  |tree fs=>exact g 0 (.tree fs) e v f1 rfl (by simp [bH]) rfl d (by simp)
 |.cons c cs,e,vs,fps,j,h,g=>by
  simp only [bH,au]at h;obtain⟨v,i,f1,f2,rfl,rfl,d,q⟩:=h;simp only [pU,aI];refine⟨v,i,rfl,⟨?_,d.cC⟩,xV (j+1) q (fun m r x s fp k1 k2 k3 t u=> ?_)⟩
  .cases c with
   |bool=>simp only [enc,aD]at d;simp only [od,az];exact d.1
   |int k=>simp only [enc,aD]at d;simp only [od,az];exact⟨d.1,d.2.1⟩
   |str=>simp only [enc,aD]at d;simp only [od,az];exact⟨d.1,d.2.1⟩
   |sl ts=>exact g 0 (.sl ts) e.1 v f1 rfl (by simp [bH]) rfl d (fun b p=>by simp [p])
   |tree fs=>exact g 0 (.tree fs) e.1 v f1 rfl (by simp [bH]) rfl d (fun b p=>by simp [p])
  .have:=g (m+1) r x s fp k1 (by simpa [bH]using k2) (by simpa using k3) t (fun b p=>by simp [u b p])
   rwa [Nat.add_assoc,ö 1 m]
end
section
variable {P:Program} {T:TypeId→Option TyI} {w0 w:World} {F R:Nat→Prop} {st st':St} {θ:Asg} {a:Act} {o:Oper} {v:TV} {l:Log}
def jE (i:TyI):Bool:=match i.u with|.struct _=>true|_=>false
theorem xW {t:TypeId} {i:TyI} (h:oz P T t i):(isAgg t).run P w=.ok (jE i) w:=by
 have hu:=h.u;unfold jE;cases e:i.u<;>rw [e]at hu<;>simp only [lR]at hu
 case struct fs=>
  obtain⟨f,hu, -⟩:=hu;simp [isAgg,run_underlying hu]
 case ptr=>obtain⟨x,hu⟩:=hu;simp [isAgg,run_underlying hu]
 case func=>obtain⟨x,y,z,hu⟩:=hu;simp [isAgg,run_underlying hu]
 case iface=>obtain⟨x,hu⟩:=hu;simp [isAgg,run_underlying hu]
 all_goals simp [isAgg,run_underlying hu]
theorem DE {t:TypeId} {i:TyI} (h:oz P T t i):(sizeOf t).run P w=.ok i.size w:=by
 obtain⟨inf,z,b,d, -⟩:=h.info;simp [sizeOf,typeInfo,b,d]
theorem XZ {t:TypeId} {i:TyI} (h:oz P T t i): ∃z,(zeroValue t).run P w=.ok z w/\oy i.zero z.cells.toList=true/\(if jE i=true then ∃cs,z=.agg cs else cC z=true):=by
 obtain⟨inf,z,b,g, -,d,f,j⟩:=h.info;refine⟨z,by simp [zeroValue,typeInfo,b,d],f, ?_⟩
 unfold jE;cases e:i.u<;>simp_all
theorem Mw {t:TypeId} {i:TyI} (h:oz P T t i) {g off:Nat} {cur:Array Value} {ty:TypeId} {frz:Nat×Nat} (f:hp w g=some (.cells cur ty frz)) (j:off+i.size<=cur.size):
  ∃u,(loadVar t ⟨g,off,none⟩).run P w=.ok u w/\(if jE i=true then u=.agg ((cur.toList.drop off).take i.size).toArray else ∃v,(cur.toList.drop off).take i.size=[v]/\u=v):=by
 cases d:jE i with
 |true=>
  refine⟨.agg ((cur.toList.drop off).take i.size).toArray, ?_,by simp⟩
  simp only [loadVar,å,xW h,Ö,d,if_true,DE h,Ml f j];simp
 |false=>
  have k:i.size=1:=by
   have:=h.one;unfold jE at d;cases e:i.u<;>simp_all
  rw [k]at j |-;have b:off<cur.toList.length:=by simp;omega
  have m:cur.toList[off]? =some cur.toList[off]:=List.getElem?_eq_getElem b
  refine⟨cur.toList[off], ?_, ?_⟩
  .simp only [loadVar,å,xW h,Ö,d,É,if_false,XL f m]
  .simp only [É,if_false]
   refine⟨_, ?_,rfl⟩
   rw [Þ b];simp
theorem Mx {t:TypeId} {i:TyI} (h:oz P T t i) {g off:Nat} {cur:Array Value} {ty:TypeId} {frz:Nat×Nat} {u:Value} (d:hp w g=some (.cells cur ty frz)) (f:ir cur.size frz) (b:u.cells.size=i.size) (k:off+i.size<=cur.size)
  (j: ∀v∈u.cells.toList,cC v=true):
  (storeVar t ⟨g,off,none⟩ u).run P w=.ok () (w.setRow g (cur.toList.take off++(u.cells.toList++cur.toList.drop (off+i.size))).toArray):=by
 have hm:=DB (P:=P) (g:=g) (o:=off) (vs:=u.cells.toList) (i:=0) (w:=w) d f (by simp;omega) j
 simp only [í,Array.length_toList,b]at hm;simp only [storeVar,å,DE h,Ö,b,ne_eq,not_true_eq_false,if_false];exact hm
theorem Ya (ax:Ok P T) (hI:Inv w0 F R st θ w) (hT:Tm (hp w) R st θ a) {t:TypeId} {x:Operand} (ho:o.op=.load t x) {i:TyI} (hi:T t=some i)
  (h:(M.iv (bE st x) (Dn (jE i) i.size)).run st=some (v,st',l)):aY P w0 F R st θ w o a v st':=by
 have a1:=ax.eO t i hi;have fin: ∀ {g off:Nat} {cur:Array Value} {ty:TypeId} {frz:Nat×Nat} {cs:List Cell},a.eval x=.pointer (some ⟨g,off,none⟩)->hp w g=some (.cells cur ty frz)->off+i.size<=cur.size->
   aI (hp w) R st θ cs ((cur.toList.drop off).take i.size)->v=kO (jE i) cs->st'=st->aY P w0 F R st θ w o a v st':=by
  intro g off cur ty frz cs e1 e2 e3 e4 e5 e6;subst e5 e6;obtain⟨u,k1,k2⟩:=Mw (P:=P) a1 e2 e3;refine aY.pure hI (u:=u) ?_ (DC e4 k2)
  simp only [execOp,ho];refine eP ?_
  simp [Instr.loadAt,Instr.sureAddr,e1,k1]
 cases ep:bE st x with
 |agg _=>rw [ep]at h;simp [M.iv,M.run]at h
 |aP _=>rw [ep]at h;simp [M.iv,M.run]at h
 |one p=>
  rw [ep]at h;simp only [M.iv]at h;cases p<;>simp only [Dn]at h
  case pb b off=>
   obtain⟨cs,l1,hb,h⟩:=M.qk h;obtain⟨s,h⟩:=M.aM h;have q:=M.gI h;have s:=È s;have r:=(dK hT ep (by simp)).1
   simp only [az]at r;obtain⟨arr,ty,frz,k1,k2,k3⟩:=hI.boxes b cs hb;have hl:=k3.length;exact fin r.2 k1 (by simp at hl;omega) ((k3.drop off).take i.size) q.1 q.2
  case pe k aG ix off=>
   obtain⟨l1,h⟩:=M.fK h;cases hd:(st.aj k).bp with
   |none=>simp [hd,M.run]at h
   |some d=>
    simp only [hd]at h;obtain⟨hv,h⟩:=M.aM h;obtain⟨e,he,h⟩:=M.eI h;obtain⟨s,h⟩:=M.aM h;have q:=M.gI h;have s:=È s;have hv:=Ç hv;have r:=(dK hT ep (by simp)).1
    simp only [az]at r;obtain⟨g,len,cap,k1,k2,k3⟩:=r.2.2 hv d hd;obtain⟨q1,q2,q3⟩:=hI.aj k d hd;have ak:=q2.share (R':=fun b=>b∈θ.fp k) (fun b hb=>hb)
    rw [k1]at ak;obtain⟨g',bd,e1,g2,o2,cur,ty,frz,e2,k4,k5,k6,k7⟩:=ak.elem q1 he;simp only [Ä,Addr.mk.injEq]at e1;obtain⟨rfl,rfl, -⟩:=e1;simp only [Nat.zero_add,í,Value.pointer.injEq,Ä,Addr.mk.injEq,and_true]at e2;obtain⟨rfl,rfl⟩:=e2;have z:=xV (st:=st) (θ:=θ) (f:=Dl k (st.aj k).aG (st.aj k).wv ix) (R:=R) 0 k7 (fun m c x v fp h1 h2 h3 h4 h5=>by
     simp only [Dl,az];have:fp=[]:=Ë.2 fun b hb=>by simpa using h5 b hb
     subst this;refine⟨h1,by omega,fun _=>⟨by omega,fun _ d' ah=>⟨h4,fun i j ar=> ?_⟩⟩⟩
     rw [hd]at ah;cases ah;simp only [Ä,Â]at ar;obtain⟨rfl,rfl⟩:=ar;refine⟨e,g,len,cap,cur,ty,frz,he,by simpa using h2,k1,k4,k5, ?_⟩
     rw [ê]at h3
     split at h3
     .rw [ë]at h3
      simpa using h3
     .cases h3)
    have:=(z.drop off).take i.size;refine fin k3 k5 (by omega) ?_ q.1 q.2
    rw [Ø,Ù,Ú,Ð (by omega)]at this
    exact this
  case pr ts e off=>
   obtain⟨s,h⟩:=M.aM h;have q:=M.gI h;have s:=È s;have r:=(dK hT ep (by simp)).1
   simp only [az]at r;obtain⟨g,o,cur,ty,frz,k1,k2,k3,k4,k5⟩:=r;have z:=xV (st:=st) (θ:=θ) (f:=Dk) (R:=R) 0 k5 (fun m c x v fp h1 h2 h3 h4 h5=>by
    simp only [Dk,az];have:fp=[]:=Ë.2 fun b hb=>by simpa using h5 b hb
    subst this;exact⟨h1,h4⟩)
   have:=(z.drop off).take i.size;refine fin k1 k3 (by omega) ?_ q.1 q.2
   rw [Ø,Ù,Ú,Ð (by omega)]at this
   exact this
  case pg k aG wv ts e off=>
   obtain⟨l1,h⟩:=M.fK h;cases hd:(st.aj k).bp with
   |none=>simp [hd,M.run]at h
   |some d=>
    simp only [hd]at h;obtain⟨hv,h⟩:=M.aM h;obtain⟨hw,h⟩:=M.aM h;obtain⟨s,h⟩:=M.aM h;have q:=M.gI h;have s:=È s;have hv:=Ç hv;have hw:=Ç hw;have r:=(dK hT ep (by simp)).1
    simp only [az]at r;obtain⟨g,o,cur,ty,frz,k1,k2,k3,k4,k5⟩:=(r.2.2 hv).2 hw (by simp [hd])
    have z:=xV (st:=st) (θ:=θ) (f:=Dm k aG wv) (R:=R) (H:=hp w) 0 k5 (fun m c x v fp h1 h2 h3 h4 h5=>by
     simp only [Dm,az];have:fp=[]:=Ë.2 fun b hb=>by simpa using h5 b hb
     subst this;exact⟨h1,by omega,fun _=>⟨by omega,fun _ d' ah=>⟨h4,by simp⟩⟩⟩)
    have:=(z.drop off).take i.size;refine fin k1 k3 (by omega) ?_ q.1 q.2
    rw [Ø,Ù,Ú,Ð (by omega)]at this
    exact this
  all_goals simp [M.run]at h
end
end Go.Ev
