/- A verified evaluator of the machine's code, part 1: no program in sight. -/
import Derived.KernelRfl
import Derived.Calls
import Derived.RowKit3
import Derived.Below
import Derived.Laws.AppendOwn
import Derived.Laws.IdiomCopy
import Derived.WalkKit
import Derived.Laws.StructEq
open Option renaming map_eq_some_iff->À,isSome_iff_exists->Á,bind_eq_some_iff->Ï
open Nat renaming beq->Â,eq_of_beq_eq_true->Å,le_of_ble_eq_true->Æ,mul_le_mul_right->È,ble->Ê,lt_of_lt_of_le->Î,min_eq_left->Ε,add_sub_cancel->Η,add_zero->Λ,add_mul->Ν,add_comm->Ρ,one_mul->Φ,sub_mul->Χ,mod_le->Ψ
open Prod.mk renaming injEq->Ã
open List renaming mem_cons->Ä,eq_nil_iff_forall_not_mem->Ë,take_append_drop->Í,drop_take->Ñ,take_take->Ò,drop_drop->Ó,eq_nil_of_length_eq_zero->Ô,take_succ_cons->Õ,getElem?_eq_some_iff->Ö,drop_eq_getElem_cons->Ø,flatMap_cons->Ù,cons_append->Û,drop_of_length_le->Ý,append_eq_nil_iff->Γ,drop_succ_cons->Ζ,length_append->Θ,getElem?_take->Ι,getElem?_drop->Κ,length_cons->Μ,nil_append->Ξ,replicate->Ο,length->Τ,append->Υ,take->Ω,drop->ε,cons->ζ,set->ι,map->κ
open Bool renaming false_eq_true->Ç,and_eq_true->Ú
open Option.some renaming injEq->É
open BitVec renaming ofInt->Ì
open Go.Result renaming andThen_ok->Ð
open Go.Op renaming equal->Ü,bytesLess->Α,equalIn->Δ,intDiv->η,shift->ν,unary->ξ
open Go.Sem renaming run_bind->Β
open Bool renaming true->å,false->ä
open Option renaming some->ã,none->â
open Decidable renaming decide->á
namespace Go.Ev
theorem ž{p:Prop}(h:p:=by omega):p:=h
theorem Ž{p:Prop}(h:p:=by kernel_rfl):p:=h
theorem ż{p:Prop}(h:p:=by rw [IntKind.wrap_i64];omega):p:=h
theorem Ż{p:Prop}(h:p:=by simp):p:=h
theorem ź{p:Prop}(h:p:=by simp;omega):p:=h
theorem Ź{p:Prop}(h:p:=by simpa only [ax]using h):p:=h
theorem Ÿ{p:Prop}(h:p:=by simp only [List.length_cons];omega):p:=h
theorem ŷ{p:Prop}(h:p:=by decide):p:=h
theorem Ŷ{p:Prop}(h:p:=by simp only [List.length_append,List.length_cons,List.length_nil];omega):p:=h
theorem ŵ{p:Prop}(h:p:=by simpa only [aB]using h):p:=h
theorem Ŵ{p:Prop}(h:p:=by grind):p:=h
theorem ų{p:Prop}(h:p:=by decide +kernel):p:=h
theorem Ų{p:Prop}(h:p:=by simp at hm;omega):p:=h
theorem ű{p:Prop}(h:p:=by rw [List.length_append];omega):p:=h
theorem Ű{p:Prop}(h:p:=by simpa using h):p:=h
theorem ů{p:Prop}(h:p:=by rw [bQ];simp):p:=h
theorem Ů{p:Prop}(h:p:=by simpa only [jO,ax]using h):p:=h
theorem ŭ{p:Prop}(h:p:=by rw [List.length_take];omega):p:=h
theorem Ŭ{p:Prop}(h:p:=by simp only [ax]at h;obtain⟨x,g,i,m,q⟩:=h;exact⟨[],by simp only [ax];exact⟨x,g,i,m,trivial⟩,by rw [q]⟩):p:=h
theorem ū{p:Prop}(h:p:=by rw [IntKind.wrap_i64,IntKind.wrap_i64];omega):p:=h
theorem Ū{p:Prop}(h:p:=by rw [bQ]at d;simp at d;omega):p:=h
theorem ũ{p:Prop}(h:p:=by simp [b]):p:=h
theorem Ũ{p:Prop}(h:p:=by unfold big;omega):p:=h
theorem ŧ{p:Prop}(h:p:=by simp only [ax]at h;exact⟨[],by simp only [ax];exact⟨h.1,h.2.1,trivial⟩,by rw [h.2.2]⟩):p:=h
theorem Ŧ{p:Prop}(h:p:=by rw [e];rfl):p:=h
theorem ť{p:Prop}(h:p:=by simp_all):p:=h
theorem Ť{p:Prop}(h:p:=by cases k;rfl):p:=h
theorem ţ{p:Prop}(h:p:=by rw [List.drop_zero]):p:=h
theorem Ţ{p:Prop}(h:p:=by rw [e];simp):p:=h
theorem š{p:Prop}(h:p:=by simp [hd]):p:=h
theorem Š{p:Prop}(h:p:=by simp [Op.equalIn,run_underlying hu]):p:=h
theorem ş{p:Prop}(h:p:=by rw [←List.append_assoc];exact c2):p:=h
theorem Ş{p:Prop}(h:p:=by simpa using hm):p:=h
theorem ŝ{p:Prop}(h:p:=by rw [IntKind.wrap_u8];omega):p:=h
theorem Ŝ{p:Prop}(h:p:=by obtain⟨k,m,p, -,q⟩:=h;exact⟨k,m,p,q⟩):p:=h
theorem ś{p:Prop}(h:p:=by simp [Act.eval,Act.put]):p:=h
theorem Ś{p:Prop}(h:p:=by simp [aB]):p:=h
theorem ř{p:Prop}(h:p:=by rw [List.getD_eq_getElem?_getD,List.getElem?_eq_getElem h];rfl):p:=h
theorem Ř{p:Prop}(h:p:=by simp [binOp,Op.stringOp]):p:=h
theorem ŗ{p:Prop}(h:p:=by simp [Lib.compareBytes]):p:=h
theorem Ŗ{p:Prop}(h:p:=by simpa using hj):p:=h
theorem ŕ{p:Prop}(h:p:=by simpa [Log.w]using d):p:=h
theorem Ŕ{p:Prop}(h:p:=by unfold maxLen;unfold big at g;omega):p:=h
theorem œ{p:Prop}(h:p:=by simp [binOp,Op.intCmp]):p:=h
theorem Œ{p:Prop}(h:p:=by simp only [Nat.min_def];split<;>omega):p:=h
theorem ő{p:Prop}(h:p:=by rw [List.length_append,List.length_singleton];omega):p:=h
theorem Ő{p:Prop}(h:p:=by simp only [ax]at h;obtain⟨x,g,i,m⟩:=h;exact⟨[],by simp only [ax];exact⟨x,g,i,trivial⟩,by rw [m]⟩):p:=h
theorem ŏ{p:Prop}(h:p:=by simp [h]):p:=h
theorem Ŏ{p:Prop}(h:p:=by simp [Log.w]):p:=h
theorem ō{p:Prop}(h:p:=by rw [jV,hlen];exact Nat.le_refl _):p:=h
theorem Ō{p:Prop}(h:p:=by grind [need]):p:=h
theorem ŋ{p:Prop}(h:p:=by simpa using g):p:=h
theorem Ŋ{p:Prop}(h:p:=by rw [←du hi ž];exact h):p:=h
theorem ň{p:Prop}(h:p:=by rw [List.length_take,Array.length_toList];omega):p:=h
theorem Ň{p:Prop}(h:p:=by simp [hk]):p:=h
theorem ņ{p:Prop}(h:p:=by cases h):p:=h
theorem Ņ{p:Prop}(h:p:=by simpa using e):p:=h
theorem ń{p:Prop}(h:p:=by cases k):p:=h
theorem Ń{p:Prop}(h:p:=by rintro⟨n,hn, -⟩;cases hn):p:=h
theorem ł{p:Prop}(h:p:=by simpa using b):p:=h
theorem Ł{p:Prop}(h:p:=by simp only [ax];exact⟨trivial,g,trivial⟩):p:=h
theorem ľ{p:Prop}(h:p:=by rw [Bool.eq_iff_iff,oh,wq];simp [Prod.ext_iff]):p:=h
theorem Ľ{p:Prop}(h:p:=by simpa using d):p:=h
theorem ļ{p:Prop}(h:p:=by simp [f]):p:=h
theorem Ļ{p:Prop}(h:p:=by rw [List.mem_singleton.1 hp];exact nM _ _ _):p:=h
theorem ĺ{p:Prop}(h:p:=by simp only [iW];omega):p:=h
theorem Ĺ{p:Prop}(h:p:=by simp [binOp,Op.intBits,cS]):p:=h
theorem ĸ{p:Prop}(h:p:=by rw [f,d];simp [eqGuard]):p:=h
theorem ķ{p:Prop}(h:p:=by simpa using hi):p:=h
theorem Ķ{p:Prop}(h:p:=by rw [show wrap .i64 (7*(k:Int))=7*(k:Int) by rw [IntKind.wrap_i64];omega];omega):p:=h
theorem ĵ{p:Prop}(h:p:=by simpa only [dF,bY]using h):p:=h
theorem Ĵ{p:Prop}(h:p:=by simp [Env.fps]):p:=h
theorem ı{p:Prop}(h:p:=by rw [Classical.not_not]):p:=h
theorem İ{p:Prop}(h:p:=by unfold big at g;omega):p:=h
theorem į{p:Prop}(h:p:=by simp only [aJ]at h;subst h;simp [aJ]):p:=h
theorem Į{p:Prop}(h:p:=by simp [Lib.compareBytes,Op.bytesLess]):p:=h
theorem ĭ{p:Prop}(h:p:=by show(x:O).toArray.size<4294967281;simp only [List.size_toArray];omega):p:=h
theorem Ĭ{p:Prop}(h:p:=by have:=f.2.2.2.1;omega):p:=h
theorem ī{p:Prop}(h:p:=by have:=d.1;omega):p:=h
theorem Ī{p:Prop}(h:p:=by simpa [Log.r]using d):p:=h
theorem ĩ{p:Prop}(h:p:=by simp [fk]at h):p:=h
theorem Ĩ{p:Prop}(h:p:=by simp [eH]at h):p:=h
theorem ħ{p:Prop}(h:p:=by simpa only [bq]using h):p:=h
theorem Ħ{p:Prop}(h:p:=by have:=uR line [];omega):p:=h
theorem ĥ{p:Prop}(h:p:=by simp [j]):p:=h
theorem Ĥ{p:Prop}(h:p:=by simp [i]):p:=h
theorem ģ{p:Prop}(h:p:=by show(0:Int)≤0;omega):p:=h
theorem Ģ{p:Prop}(h:p:=by rw [List.length_take];simp;omega):p:=h
theorem ġ{p:Prop}(h:p:=by simpa using k1):p:=h
theorem Ġ{p:Prop}(h:p:=by simp [lW,aR.list,eB]):p:=h
theorem ğ{p:Prop}(h:p:=by simp [Builtin.lenOf]):p:=h
theorem Ğ{p:Prop}(h:p:=by simpa using f):p:=h
theorem ĝ{p:Prop}(h:p:=by rw [List.length_take,jh];omega):p:=h
theorem Ĝ{p:Prop}(h:p:=by simp [M.run,p]):p:=h
theorem ě{p:Prop}(h:p:=by have:=(m a).1;omega):p:=h
theorem Ě{p:Prop}(h:p:=by simp [q]):p:=h
theorem ę{p:Prop}(h:p:=by rw [List.append_nil];exact e):p:=h
theorem Ę{p:Prop}(h:p:=by intro e;rw [e]at d;cases d):p:=h
theorem ė{p:Prop}(h:p:=by simp [eG]at h):p:=h
theorem Ė{p:Prop}(h:p:=by rw [lC];exact b):p:=h
theorem ĕ{p:Prop}(h:p:=by cases b<;>simp_all [CT.beq]):p:=h
theorem Ĕ{p:Prop}(h:p:=by rw [ek,if_neg g,if_neg u,if_neg z,if_pos o5];rfl):p:=h
theorem ē{p:Prop}(h:p:=by rw [List.length_append,List.length_append];omega):p:=h
theorem Ē{p:Prop}(h:p:=by simp [dF,bY]):p:=h
theorem đ{p:Prop}(h:p:=by rw [List.drop_eq_nil_of_le (Nat.le_refl _)];rfl):p:=h
theorem Đ{p:Prop}(h:p:=by cases f;exact hx):p:=h
theorem ď{p:Prop}(h:p:=by simp only [enc,bf.fit]at h;simp only [dG];exact h):p:=h
theorem Ď{p:Prop}(h:p:=by simp only [aE]at h;simp only [bf.fit];exact h.2.1):p:=h
theorem č{p:Prop}(h:p:=by simp [binOp,Op.intArith]):p:=h
theorem Č{p:Prop}(h:p:=by simp [az]):p:=h
theorem ċ{p:Prop}(h:p:=by rw [g,List.length_take,Array.length_toList];omega):p:=h
theorem Ċ{p:Prop}(h:p:=by rw [f,List.length_take,Array.length_toList];omega):p:=h
theorem ĉ{p:Prop}(h:p:=by rw [d,cq]):p:=h
theorem Ĉ{p:Prop}(h:p:=by rw [b];simp):p:=h
theorem ć{p:Prop}(h:p:=by simp_all [Builtin.len_,run_underlying,goInt]):p:=h
theorem Ć{p:Prop}(h:p:=by have:=ak.2.2.2.2.2.2.2.2.2.2.2.2.2.1.1;omega):p:=h
theorem ą{p:Prop}(h:p:=by simpa using m):p:=h
theorem Ą{p:Prop}(h:p:=by simp only [cz,vA];omega):p:=h
theorem ă{p:Prop}(h:p:=by simp [bI]):p:=h
theorem Ă{p:Prop}(h:p:=by show(0:Int)≤300;omega):p:=h
theorem ā{p:Prop}(h:p:=by rw [e2,e1];simp):p:=h
theorem Ā{p:Prop}(h:p:=by have:=d.1;have:=f.2;rw [IntKind.wrap_i64];omega):p:=h
theorem ÿ{p:Prop}(h:p:=by simp [Log.r]):p:=h
theorem þ{p:Prop}(h:p:=by rw [←Int.natCast_mul,IntKind.wrap_i64];omega):p:=h
theorem ý{p:Prop}(h:p:=by simpa using k):p:=h
theorem ü{p:Prop}(h:p:=by simpa using i):p:=h
theorem û{p:Prop}(h:p:=by simpa only [cp]using h):p:=h
theorem ú{p:Prop}(h:p:=by simp only [ax];exact⟨_,rfl,g,trivial⟩):p:=h
theorem ù{p:Prop}(h:p:=by rw [i,List.append_nil]):p:=h
theorem ø{p:Prop}(h:p:=by rw [d,List.append_nil]):p:=h
theorem ö{p:Prop}(h:p:=by cases y<;>simp [zI]at hy;exact⟨_,rfl⟩):p:=h
theorem õ{p:Prop}(h:p:=by simpa using hy):p:=h
theorem ô{p:Prop}(h:p:=by simp [lY]at hk):p:=h
theorem ó{p:Prop}(h:p:=by rw [←Array.toArray_toList (xs:=cl.args),r]):p:=h
theorem ò{p:Prop}(h:p:=by have:=c.toNat_lt;rw [IntKind.wrap_i64];omega):p:=h
theorem ñ{p:Prop}(h:p:=by unfold maxLen;omega):p:=h
theorem ð{p:Prop}(h:p:=by simpa using j):p:=h
theorem ï{p:Prop}(h:p:=by simp only [ax];exact⟨trivial,trivial⟩):p:=h
theorem î{p:Prop}(h:p:=by simp [Op.bytesLess]):p:=h
theorem í{p:Prop}(h:p:=by rw [bJ,Int.toNat_natCast,List.append_assoc]):p:=h
theorem ì{p:Prop}(h:p:=by rw [NK f hi];grind):p:=h
theorem ë{p:Prop}(h:p:=by rw [ek,if_neg g,if_neg u,if_pos z];rfl):p:=h
theorem ê{p:Prop}(h:p:=by simpa [Log.w]using h):p:=h
theorem é{p:Prop}(h:p:=by simp [lX]at h):p:=h
theorem è{p:Prop}(h:p:=by simp [eI]at h):p:=h
theorem ç{p:Prop}(h:p:=by simp [d]):p:=h
theorem æ{p:Prop}(h:p:=by simp [Nat.add_assoc]):p:=h
theorem Z {α β:Type _} (a:α) (f:α->Option β):(ã a).bind f=f a:=rfl
theorem Y {α:Sort _} {a b:α}:cond å a b=a:=rfl
theorem ez {α:Sort _} {a b:α}:cond ä a b=b:=rfl
theorem hC {p:Prop} [h:Decidable p] (a:p):decide p=å:=_root_.decide_eq_true a
theorem hJ {p:Prop} [h:Decidable p] (a:¬p):decide p=ä:=_root_.decide_eq_false a
theorem hL {a:Option Func} {b c:Func} (h:a=ã b) (e:b=c):a=ã c:=h.trans (congrArg ã e)
abbrev O:=List UInt8
mutual
inductive CT where
 |bool
 |int (k:IntKind)
 |str
 |sl (ts:aR)
 |tree (fs:aR)
inductive aR where
 |one (c:CT)
 |cons (c:CT) (cs:aR)
end
instance:Inhabited CT:=⟨.bool⟩
instance:Inhabited aR:=⟨.one .bool⟩
mutual
def CT.beq:CT->CT->Bool
 |.bool,.bool=>å
 |.int a,.int b=>á (a=b)
 |.str,.str=>å
 |.sl a,.sl b=>aR.beq a b
 |.tree a,.tree b=>aR.beq a b
 |_,_=>ä
def aR.beq:aR->aR->Bool
 |.one a,.one b=>CT.beq a b
 |.cons a x,.cons b y=>CT.beq a b&&aR.beq x y
 |_,_=>ä
end
mutual
theorem CT.eq_of_beq: ∀(a b:CT),a.beq b=å->a=b
 |.bool,b,h=>ĕ
 |.int _,b,h=>ĕ
 |.str,b,h=>ĕ
 |.sl x,b,h=>by
  cases b<;>simp only [CT.beq,Ç]at h
  rw [aR.eq_of_beq _ _ h]
 |.tree x,b,h=>by
  cases b<;>simp only [CT.beq,Ç]at h
  rw [aR.eq_of_beq _ _ h]
theorem aR.eq_of_beq: ∀(a b:aR),a.beq b=å->a=b
 |.one x,b,h=>by
  cases b<;>simp only [aR.beq,Ç]at h
  rw [CT.eq_of_beq _ _ h]
 |.cons x xs,b,h=>by
  cases b<;>simp only [aR.beq,Ç,Ú]at h
  rw [CT.eq_of_beq _ _ h.1,aR.eq_of_beq _ _ h.2]
end
inductive RT (F:Type) where
 |mk (x:F) (kids:List (RT F))
def qK:IntKind->Type
 |.u8=>UInt8
 |_=>Int
mutual
abbrev Interp:CT->Type
 |.bool=>Bool
 |.int k=>qK k
 |.str=>O
 |.sl ts=>List (bc ts)
 |.tree fs=>List (RT (bc fs))
abbrev bc:aR->Type
 |.one c=>Interp c
 |.cons c cs=>Interp c×bc cs
end
def aR.size:aR->Nat
 |.one _=>1
 |.cons _ cs=>cs.size+1
abbrev aR.snoc:aR->CT->aR
 |.one c,d=>.cons c (.one d)
 |.cons c cs,d=>.cons c (cs.snoc d)
def aR.list:aR->List CT
 |.one c=>[c]
 |.cons c cs=>c::cs.list
inductive bf where
 |b (x:Bool)
 |i (k:IntKind) (n:Int)
 |s (x:O)
 |l (sz:Nat) (cs:List bf)
def kr:(k:IntKind)->qK k->Int
 |.u8,x=>((show UInt8 from x).toNat:Int)
 |.u16,x=>x|.u32,x=>x|.u64,x=>x
 |.i8,x=>x|.i16,x=>x|.i32,x=>x|.i64,x=>x
def vv:(k:IntKind)->Int->qK k
 |.u8,n=>UInt8.ofNat n.toNat
 |.u16,n=>n|.u32,n=>n|.u64,n=>n
 |.i8,n=>n|.i16,n=>n|.i32,n=>n|.i64,n=>n
mutual
def RT.enc {F:Type} (f:F->List bf) (sz:Nat):RT F->List bf
 |.mk x kids=>f x++[.l sz (RT.vx f sz kids)]
def RT.vx {F:Type} (f:F->List bf) (sz:Nat):List (RT F)->List bf
 | []=>[]
 |k::ks=>RT.enc f sz k++RT.vx f sz ks
end
mutual
def enc:(c:CT)->Interp c->bf
 |.bool,x=>.b x
 |.int k,x=>.i k (kr k x)
 |.str,x=>.s x
 |.sl ts,xs=>.l ts.size (List.flatMap (bI ts) xs)
 |.tree fs,xs=>.l (fs.size+1) (RT.vx (bI fs) (fs.size+1) xs)
def bI:(ts:aR)->bc ts->List bf
 |.one c,x=>[enc c x]
 |.cons c cs,x=>enc c x.1::bI cs x.2
end
abbrev ay:CT->aR
 |.sl ts=>ts
 |.tree fs=>fs.snoc (.tree fs)
 |c=>.one c
def qL:(fs:aR)->(c:CT)->bc fs->Interp c->bc (fs.snoc c)
 |.one _,_,x,y=>(x,y)
 |.cons _ cs,c,x,y=>(x.1,qL cs c x.2 y)
def ph:(fs:aR)->(c:CT)->bc (fs.snoc c)->bc fs×Interp c
 |.one _,_,x=>(x.1,x.2)
 |.cons _ cs,c,x=>((x.1,(ph cs c x.2).1),(ph cs c x.2).2)
def zC (fs:aR):RT (bc fs)->bc (fs.snoc (.tree fs))
 |.mk x kids=>qL fs (.tree fs) x kids
def vy (fs:aR) (x:bc (fs.snoc (.tree fs))):RT (bc fs):=
 .mk (ph fs (.tree fs) x).1 (ph fs (.tree fs) x).2
def bP:CT->Bool
 |.sl _|.tree _=>å
 |_=>ä
def aF:(c:CT)->Interp c->Nat
 |.sl _,xs=>Τ xs
 |.tree _,xs=>Τ xs
 |_,_=>0
def nth {α:Type} (l:List α) (i:Nat):Option α:=l[i]?
def kY:(c:CT)->Interp c->Nat->Option (bc (ay c))
 |.sl ts,xs,i=>nth (α:=bc ts) xs i
 |.tree fs,xs,i=>(nth (α:=RT (bc fs)) xs i).map (zC fs)
 |_,_,_=>â
def mU:(c:CT)->Interp c->Nat->bc (ay c)->Interp c
 |.sl _,xs,i,e=>ι xs i e
 |.tree fs,xs,i,e=>ι xs i (vy fs e)
 |_,x,_,_=>x
def ku:(c:CT)->Interp c->Interp c->Interp c
 |.sl _,xs,b=>Υ xs b
 |.tree _,xs,b=>Υ xs b
 |_,x,_=>x
def gk:(c:CT)->Nat->Interp c->Interp c
 |.sl _,n,xs=>Ω n xs
 |.tree _,n,xs=>Ω n xs
 |_,_,x=>x
def gL:(c:CT)->Nat->Interp c->Interp c
 |.sl _,n,xs=>ε n xs
 |.tree _,n,xs=>ε n xs
 |_,_,x=>x
def PT:(k:IntKind)->qK k
 |.u8=>(0:UInt8)
 |.u16=>(0:Int)|.u32=>(0:Int)|.u64=>(0:Int)
 |.i8=>(0:Int)|.i16=>(0:Int)|.i32=>(0:Int)|.i64=>(0:Int)
def eh:(c:CT)->Interp c
 |.bool=>ä
 |.int k=>PT k
 |.str=>[]
 |.sl _=>[]
 |.tree _=>[]
def qM:(ts:aR)->bc ts
 |.one c=>eh c
 |.cons c cs=>(eh c,qM cs)
def qN:(c:CT)->bc (ay c)->Interp c->Interp c
 |.sl _,x,xs=>ζ x xs
 |.tree fs,x,xs=>ζ (vy fs x) xs
 |_,_,xs=>xs
end Go.Ev
namespace Go.Ev
abbrev Heap:=Nat->Option Obj
def gM (n:Nat) (f:Nat×Nat):Prop:= ∀o,o<n-> ¬(f.1<=o/\o<f.2)
def pj (sz n:Nat) (f:Nat×Nat):Prop:=gM n f/\(sz=1\/f=(0,0))
mutual
def aE (H:Heap) (R:Nat->Prop) (own:Bool):bf->Value->List Nat->Prop
 |.b x,v,fp=>v=.bool x/\fp=[]
 |.i k n,v,fp=>v=.int k n/\(k.min<=n/\n<=k.max)/\fp=[]
 |.s x,v,fp=>v=.string ⟨x.toArray⟩/\x.length<=maxLen/\fp=[]
 |.l sz cs,v,fp=> ∃a len cap,v=.slice a len cap/\0<sz/\cs.length=len*sz/\len<=cap/\cap<=maxLen/\
   ((own=å/\((cap=0/\fp=[])\/ ∃g cur ty frz fps,a=ã ⟨g,0,â⟩/\H g=ã (.cells cur ty frz)/\cur.size=cap*sz/\pj sz cur.size frz/\
     fp=g::fps/\az H R own cs (cur.toList.take (len*sz)) fps))\/
    (own=ä/\fp=[]/\(cs=[]\/ ∃g off cur ty frz,a=ã ⟨g,off,â⟩/\R g/\H g=ã (.cells cur ty frz)/\off+len*sz<=cur.size/\
     az H R own cs ((cur.toList.drop off).take (len*sz)) [])))
def az (H:Heap) (R:Nat->Prop) (own:Bool):List bf->List Value->List Nat->Prop
 | [],vs,fp=>vs=[]/\fp=[]
 |d::ds,vs,fp=> ∃v f f1 f2,vs=v::f/\fp=f1++f2/\aE H R own d v f1/\az H R own ds f f2
end
variable {H H':Heap} {R R':Nat→Prop} {own:Bool}
theorem az.length: ∀ {ds:List bf} {vs:List Value} {fp:List Nat},az H R own ds vs fp->ds.length=vs.length
 | [],vs,fp,h=>by simp [az]at h;simp [h.1]
 |d::ds,vs,fp,h=>by
  simp only [az]at h;obtain⟨v,b,f1,f2,rfl, -, -,f⟩:=h;simp [az.length f]
mutual
theorem aE.frame: ∀ {d:bf} {v:Value} {fp:List Nat},aE H R own d v fp->(∀b,b∈fp\/R b->H' b=H b)->(∀b,R b->R' b)->aE H' R' own d v fp
 |.b _,_,_,h,_,_=>by simpa [aE]using h
 |.i _ _,_,_,h,_,_=>by simpa [aE]using h
 |.s _,_,_,h,_,_=>by simpa [aE]using h
 |.l sz cs,v,fp,h,j,p=>by
  simp only [aE]at h |-;obtain⟨a,len,cap,rfl,h0,r,t,h3,f⟩:=h;refine⟨a,len,cap,rfl,h0,r,t,h3, ?_⟩
  rcases f with⟨u,f⟩|⟨u,k,f⟩
  .left
   refine⟨u, ?_⟩
   rcases f with f|⟨g,cur,ty,frz,fps,z,hg,hs,hz,k,hr⟩
   .exact .inl f
   .subst k
    exact .inr ⟨g,cur,ty,frz,fps,z,(j g (.inl Ż)).trans hg,hs,hz,rfl,az.frame hr (fun b m=>j b (m.imp (fun h=>ŏ) id)) p⟩
  .right
   refine⟨u,k, ?_⟩
   rcases f with f|⟨g,off,cur,ty,frz,z,q,hg,hs,hr⟩
   .exact .inl f
   .exact .inr ⟨g,off,cur,ty,frz,z,p g q,(j g (.inr q)).trans hg,hs,az.frame hr (fun b m=>j b (m.imp (fun h=>by simp at h) id)) p⟩
theorem az.frame: ∀ {ds:List bf} {vs:List Value} {fp:List Nat},az H R own ds vs fp->(∀b,b∈fp\/R b->H' b=H b)->(∀b,R b->R' b)->az H' R' own ds vs fp
 | [],_,_,h,_,_=>by simpa [az]using h
 |d::ds,vs,fp,h,j,p=>by
  simp only [az]at h |-;obtain⟨v,ag,f1,f2,rfl,rfl,r,t⟩:=h;exact⟨v,ag,f1,f2,rfl,rfl,aE.frame r (fun b m=>j b (m.imp (fun h=>ŏ) id)) p,az.frame t (fun b m=>j b (m.imp (fun h=>ŏ) id)) p⟩
end
mutual
theorem aE.share: ∀ {d:bf} {v:Value} {fp:List Nat},aE H R å d v fp->(∀b,b∈fp->R' b)->aE H R' ä d v []
 |.b _,_,_,h,_=>by simp [aE]at h |-;exact h.1
 |.i _ _,_,_,h,_=>by simp [aE]at h |-;exact⟨h.1,h.2.1⟩
 |.s _,_,_,h,_=>by simp [aE]at h |-;exact⟨h.1,h.2.1⟩
 |.l sz cs,v,fp,h,f=>by
  simp only [aE]at h |-;obtain⟨a,len,cap,rfl,t,k,m,u,p⟩:=h;refine⟨a,len,cap,rfl,t,k,m,u,.inr ⟨Ż,Ż, ?_⟩⟩
  rcases p with⟨-,p⟩|⟨z, -⟩
  .rcases p with⟨hc, -⟩|⟨g,cur,ty,frz,fps,ha,hg,hs,hz,q,hr⟩
   .left
    have:len=0:=ž
    subst this;exact Ô ý
   .subst q
    refine .inr ⟨g,0,cur,ty,frz,ha,f g Ż,hg, ?_, ?_⟩
    .have:=È sz m
     omega
    .simpa using az.share hr (fun b j=>f b ĥ)
  .simp at z
theorem az.share: ∀ {ds:List bf} {vs:List Value} {fp:List Nat},az H R å ds vs fp->(∀b,b∈fp->R' b)->az H R' ä ds vs []
 | [],_,_,h,_=>by simp [az]at h |-;exact h.1
 |d::ds,vs,fp,h,f=>by
  simp only [az]at h |-;obtain⟨v,r,f1,f2,rfl,rfl,k,m⟩:=h;exact⟨v,r,[],[],rfl,rfl,aE.share k (fun b j=>f b ĥ),az.share m (fun b j=>f b ĥ)⟩
end
theorem az.append: ∀ {ds es:List bf} {vs us:List Value} {f g:List Nat},az H R own ds vs f->az H R own es us g->az H R own (ds++es) (vs++us) (f++g)
 | [],es,vs,us,f,g,h,k=>by
  simp only [az]at h;obtain⟨rfl,rfl⟩:=h;simpa using k
 |d::ds,es,vs,us,f,g,h,k=>by
  simp only [az]at h;obtain⟨v,b,f1,f2,rfl,rfl,i,j⟩:=h;simp only [Û,az];exact⟨v,b++us,f1,f2++g,rfl,Ż,i,az.append j k⟩
theorem az.split: ∀ {ds es:List bf} {vs:List Value} {f:List Nat},az H R own (ds++es) vs f->
  ∃f1 f2,f=f1++f2/\az H R own ds (vs.take ds.length) f1/\az H R own es (vs.drop ds.length) f2
 | [],es,vs,f,h=>⟨[],f,rfl,Č,Ű⟩
 |d::ds,es,vs,f,h=>by
  simp only [Û,az]at h;obtain⟨v,b,f1,f2,rfl,rfl,g,i⟩:=h;obtain⟨g1,g2,rfl,k1,k2⟩:=az.split i;refine⟨f1++g1,g2,Ż, ?_,by simpa using k2⟩
  simp only [Μ,Õ,az];exact⟨v,_,f1,g1,rfl,rfl,g,k1⟩
def cx:Value->Bool
 |.agg _|.tuple _=>ä
 |_=>å
theorem aE.cx {d:bf} {v:Value} {fp:List Nat} (h:aE H R own d v fp):cx v=å:=by
 cases d<;>simp only [aE]at h
 .obtain⟨rfl, -⟩:=h;rfl
 .obtain⟨rfl, -⟩:=h;rfl
 .obtain⟨rfl, -⟩:=h;rfl
 .obtain⟨a,l,c,rfl, -⟩:=h;rfl
theorem az.cx: ∀ {ds:List bf} {vs:List Value} {fp:List Nat},az H R own ds vs fp-> ∀v∈vs,Ev.cx v=å
 | [],vs,fp,h,v,b=>by simp [az]at h;simp [h.1]at b
 |d::ds,vs,fp,h,v,b=>by
  simp only [az]at h;obtain⟨u,f,f1,f2,rfl,rfl,g,i⟩:=h;rcases Ä.1 b with rfl|b
  .exact g.cx
  .exact az.cx i v b
end Go.Ev
namespace Go.Ev
def dE:(c:CT)->Interp c->List (bc (ay c))
 |.sl ts,xs=>κ (fun x:bc ts=>x) xs
 |.tree fs,xs=>κ (zC fs) xs
 |.bool,_=>[]|.int _,_=>[]|.str,_=>[]
theorem aR.size_pos: ∀ts:aR,0<ts.size
 |.one _=>by simp [aR.size]
 |.cons _ _=>by simp [aR.size]
theorem aR.PU (c:CT): ∀fs:aR,(fs.snoc c).size=fs.size+1
 |.one _=>rfl
 |.cons _ cs=>by simp [aR.size,aR.PU c cs]
theorem lT: ∀(ts:aR) (x:bc ts),(bI ts x).length=ts.size
 |.one c,x=>by simp [bI,aR.size]
 |.cons c cs,x=>by simp [bI,aR.size,lT cs x.2]
theorem PV (c:CT): ∀(fs:aR) (x:bc fs) (y:Interp c),bI (fs.snoc c) (qL fs c x y)=bI fs x++[enc c y]
 |.one d,x,y=>by simp [bI,qL]
 |.cons d ds,x,y=>by simp [bI,qL,PV c ds x.2 y]
theorem PX (c:CT): ∀(fs:aR) (x:bc (fs.snoc c)),qL fs c (ph fs c x).1 (ph fs c x).2=x
 |.one d,x=>rfl
 |.cons d ds,x=>by
  have h:=PX c ds x.2;show(x.1,qL ds c (ph ds c x.2).1 (ph ds c x.2).2)=_;rw [h]
theorem Gh (fs:aR) (x:bc (fs.snoc (.tree fs))):zC fs (vy fs x)=x:=PX _ _ _
theorem RT.PY {F:Type} (f:F->List bf) (sz:Nat): ∀l:List (RT F),RT.vx f sz l=l.flatMap (RT.enc f sz)
 | []=>rfl
 |k::ks=>by simp [RT.vx,RT.PY f sz ks]
theorem adJ (fs:aR) (t:RT (bc fs)):bI (fs.snoc (.tree fs)) (zC fs t)=RT.enc (bI fs) (fs.size+1) t:=by
 cases t with
 |mk x kids=>exact PV (.tree fs) fs x kids
def cv (c:CT) (x:Interp c):List bf:=(dE c x).flatMap (bI (ay c))
theorem vz {c:CT} (h:bP c=å) (x:Interp c):enc c x=.l (ay c).size (cv c x):=by
 cases c<;>simp [bP]at h
 .simp [enc,cv,dE,ay]
 .rename_i fs
  simp only [enc,cv,dE,ay,aR.PU,RT.PY];congr 1
  rw [List.flatMap_map];congr 1
  funext t
  rw [adJ]
theorem jg {c:CT} (x:Interp c):aF c x=(dE c x).length:=by
 cases c<;>simp [aF,dE]
theorem PZ {c:CT} (x:Interp c) (i:Nat):kY c x i=(dE c x)[i]? :=by
 cases c<;>simp [kY,dE,nth,ay]
theorem adK {c:CT} (x:Interp c) (i:Nat) (e:bc (ay c)) (h:bP c=å):dE c (mU c x i e)=(dE c x).set i e:=by
 cases c<;>simp [bP]at h
 .simp [mU,dE]
 .rename_i fs
  simp only [mU,dE,List.map_set];congr 1
  exact Gh fs e
theorem Qa {c:CT} (x y:Interp c) (h:bP c=å):dE c (ku c x y)=dE c x++dE c y:=by
 cases c<;>simp [bP]at h
 .simp [ku,dE]
 .simp only [ku,dE];exact List.map_append
theorem zD {c:CT} (n:Nat) (x:Interp c):dE c (gk c n x)=(dE c x).take n:=by
 cases c<;>simp [gk,dE,List.map_take]
theorem zE {c:CT} (n:Nat) (x:Interp c):dE c (gL c n x)=(dE c x).drop n:=by
 cases c<;>simp [gL,dE,List.map_drop]
theorem Qb {c:CT} (e:bc (ay c)) (x:Interp c) (h:bP c=å):dE c (qN c e x)=e::dE c x:=by
 cases c<;>simp [bP]at h
 .simp [qN,dE]
 .rename_i fs
  simp only [qN,dE,List.map_cons];congr 1
  exact Gh fs e
theorem zF {c:CT}:dE c (eh c)=[]:=by
 cases c<;>simp [eh,dE]
theorem Qc {α β:Type} (f:α->List β) (s:Nat) (b: ∀x,(f x).length=s): ∀l:List α,(l.flatMap f).length=l.length*s
 | []=>Ż
 |a::l=>by simp [Qc f s b l,b,Ν,Ρ]
theorem Qd {α β:Type} (f:α->List β) (s:Nat) (b: ∀x,(f x).length=s): ∀(l:List α) (n:Nat),(l.take n).flatMap f=(l.flatMap f).take (n*s)
 | [],n=>Ż
 |a::l,0=>Ż
 |a::l,n+1=>by
  simp only [Õ,Ù,Qd f s b l n,Ν,Φ];rw [List.take_append,b,List.take_of_length_le (l:=f a) (by rw [b];omega),Η]
theorem Qe {α β:Type} (f:α->List β) (s:Nat) (b: ∀x,(f x).length=s): ∀(l:List α) (n:Nat),(l.drop n).flatMap f=(l.flatMap f).drop (n*s)
 | [],n=>Ż
 |a::l,0=>Ż
 |a::l,n+1=>by
  simp only [Ζ,Ù,Qe f s b l n,Ν,Φ];rw [List.drop_append,b,Ý (l:=f a) (by rw [b];omega),Η,Ξ]
theorem jh {c:CT} (x:Interp c):(cv c x).length=aF c x*(ay c).size:=by
 rw [jg];exact Qc _ _ (lT _) _
theorem adL {c:CT} (x y:Interp c) (h:bP c=å):cv c (ku c x y)=cv c x++cv c y:=by
 simp [cv,Qa x y h]
theorem zG {c:CT} (n:Nat) (x:Interp c):cv c (gk c n x)=(cv c x).take (n*(ay c).size):=by
 rw [cv,zD];exact Qd _ _ (lT _) _ _
theorem Gi {c:CT} (n:Nat) (x:Interp c):cv c (gL c n x)=(cv c x).drop (n*(ay c).size):=by
 rw [cv,zE];exact Qe _ _ (lT _) _ _
theorem Gj {c:CT} {x:Interp c} {i:Nat} {e:bc (ay c)} (h:kY c x i=ã e):
  cv c x=(cv c x).take (i*(ay c).size)++(bI (ay c) e++(cv c x).drop ((i+1)*(ay c).size)):=by
 rw [<-zG,<-Gi];simp only [cv,zD,zE];rw [PZ]at h;have b:i<(dE c x).length:=(Ö.1 h).1
 conv=>lhs;rw [<-Í i (dE c x),List.flatMap_append]
 congr 1
 rw [Ø b];simp only [Ù];congr 2
 exact(Ö.1 h).2
theorem adM {c:CT} (b:bP c=å) {x:Interp c} {i:Nat} (e:bc (ay c)) (h:i<aF c x):
  cv c (mU c x i e)=(cv c x).take (i*(ay c).size)++(bI (ay c) e++(cv c x).drop ((i+1)*(ay c).size)):=by
 rw [<-zG,<-Gi];simp only [cv,zD,zE,adK x i e b];rw [jg]at h;rw [List.set_eq_take_append_cons_drop,if_pos h];simp
theorem zH {c:CT} (x:Interp c) (i:Nat) (e:bc (ay c)):aF c (mU c x i e)=aF c x:=by
 cases c<;>simp [aF,mU]
theorem adN {c:CT} (x y:Interp c) (h:bP c=å):aF c (ku c x y)=aF c x+aF c y:=by
 rw [jg,jg,jg,Qa _ _ h,Θ]
theorem vA {c:CT} (n:Nat) (x:Interp c):aF c (gk c n x)=min n (aF c x):=by
 rw [jg,jg,zD,List.length_take]
theorem adO {c:CT} (n:Nat) (x:Interp c):aF c (gL c n x)=aF c x-n:=by
 rw [jg,jg,zE,List.length_drop]
end Go.Ev
namespace Go.Ev
inductive Cell where
 |undef
 |b (x:Bool)
 |i (k:IntKind) (n:Int)
 |s (x:O)
 |sh (c:CT) (x:Interp c)
 |lU (c:CT) (x:Interp c)
 |nl
 |z0
 |ob (k aH:Nat) (vw:Option Nat)
 |gs (k aH wv:Nat) (pl:Option (Nat×Nat)) (c:CT) (x:Interp c)
 |ff
 |pb (bx off:Nat)
 |pe (k aH:Nat) (i off:Nat)
 |pr (ts:aR) (x:bc ts) (off:Nat)
 |fE
 |pg (k aH wv:Nat) (ts:aR) (x:bc ts) (off:Nat)
 |fn (f:FuncId) (fst adP:List Cell)
 |er (x:Bool)
instance:Inhabited Cell:=⟨.undef⟩
inductive TV where
 |one (c:Cell)
 |agg (cs:List Cell)
 |aM (vs:List TV)
instance:Inhabited TV:=⟨.one .undef⟩
def TV.cells:TV->List Cell
 |.one c=>[c]
 |.agg cs=>cs
 |.aM _=>[]
structure DV where
 c:CT
 x:Interp c
structure OB where
 aH:Nat
 wv:Nat
 bj:Option DV
structure St where
 tmps:Nat->TV
 boxes:Nat->Option (List Cell)
 ar:Nat->OB
def aS {α:Type} (f:Nat->α) (k:Nat) (v:α):Nat->α:=fun j=>cond (Â j k) v (f j)
theorem bC {α:Type} (f:Nat->α) (k:Nat) (v:α):aS f k v k=v:=by simp [aS]
theorem aY {α:Type} (f:Nat->α) {k j:Nat} (v:α) (h:j≠k):aS f k v j=f j:=by
 have:Â j k=ä:=by
  cases b:Â j k with
  |true=>exact absurd (Å b) h
  |false=>rfl
 simp [aS,this]
theorem adQ {α:Type} (f:Nat->α) {k j:Nat} (u v:α) (h:j≠k):aS (aS f k u) j v=aS (aS f j v) k u:=by
 funext i
 by_cases b:i=j
 .subst b;rw [bC,aY _ _ h,bC]
 .rw [aY _ _ b]
  by_cases d:i=k
  .subst d;rw [bC,bC]
  .rw [aY _ _ d,aY _ _ d,aY _ _ b]
def St.put (st:St) (dst:Option Nat) (v:TV):St:=
 match dst with
 |some d=>{st with tmps:=aS st.tmps d v}
 |none=>st
inductive M (α:Type):Type 1 where
 |ret (a:α)
 |fail
 |rb (b:Nat) (k:List Cell->M α)
 |wb (b:Nat) (cs:List Cell) (m:M α)
 |nb (b:Nat) (cs:List Cell) (m:M α)
 |ro (k:Nat) (f:OB->M α)
 |wo (k:Nat) (o:OB) (m:M α)
 |opt {β:Type} (x:Option β) (f:β->M α)
 |br (x:Bool) (m1 m2:M α)
def M.gd {α:Type} (x:Bool) (m:M α):M α:=.br x m .fail
structure Log where
 rd:List Nat
 wr:List Nat
def Log.none:Log:=⟨[],[]⟩
def Log.r (l:Log) (n:Nat):Log:=⟨n::l.rd,l.wr⟩
def Log.w (l:Log) (n:Nat):Log:=⟨l.rd,n::l.wr⟩
def M.run {α:Type}:M α->St->Option (α×St×Log)
 |.ret a,st=>ã (a,st,.none)
 |.fail,_=>â
 |.rb b k,st=>match st.boxes b with
  |some cs=>((k cs).run st).map fun r=>(r.1,r.2.1,r.2.2.r (2*b))
  |none=>â
 |.wb b cs m,st=>match st.boxes b with
  |some _=>(m.run {st with boxes:=aS st.boxes b (ã cs)}).map fun r=>(r.1,r.2.1,r.2.2.w (2*b))
  |none=>â
 |.nb b cs m,st=>match st.boxes b with
  |some _=>â
  |none=>(m.run {st with boxes:=aS st.boxes b (ã cs)}).map fun r=>(r.1,r.2.1,r.2.2.w (2*b))
 |.ro k f,st=>((f (st.ar k)).run st).map fun r=>(r.1,r.2.1,r.2.2.r (2*k+1))
 |.wo k o m,st=>(m.run {st with ar:=aS st.ar k o}).map fun r=>(r.1,r.2.1,r.2.2.w (2*k+1))
 |.opt x f,st=>x.bind fun y=>(f y).run st
 |.br x m1 m2,st=>match x with
  |true=>m1.run st
  |false=>m2.run st
def M.go {α R:Type}:M α->St->Log->(α->St->Log->Option R)->Option R
 |.ret a,st,l,K=>K a st l
 |.fail,_,_,_=>â
 |.rb b k,st,l,K=>match st.boxes b with
  |some cs=>(k cs).go st (l.r (2*b)) K
  |none=>â
 |.wb b cs m,st,l,K=>match st.boxes b with
  |some _=>m.go {st with boxes:=aS st.boxes b (ã cs)} (l.w (2*b)) K
  |none=>â
 |.nb b cs m,st,l,K=>match st.boxes b with
  |some _=>â
  |none=>m.go {st with boxes:=aS st.boxes b (ã cs)} (l.w (2*b)) K
 |.ro k f,st,l,K=>(f (st.ar k)).go st (l.r (2*k+1)) K
 |.wo k o m,st,l,K=>m.go {st with ar:=aS st.ar k o} (l.w (2*k+1)) K
 |.opt x f,st,l,K=>x.bind fun y=>(f y).go st l K
 |.br x m1 m2,st,l,K=>cond x (m1.go st l K) (m2.go st l K)
def Log.sub (l l':Log):Prop:=(∀n∈l.rd,n∈l'.rd)/\(∀n∈l.wr,n∈l'.wr)
theorem M.kZ {α R:Type}: ∀(m:M α) (st:St) (l:Log) (K:α->St->Log->Option R) (r:R),m.go st l K=ã r->
  ∃a st' j l',m.run st=ã (a,st',j)/\K a st' l'=ã r/\l.sub l'/\j.sub l'
 |.ret a,st,l,K,r,h=>⟨a,st,.none,l,rfl,h,⟨fun _ h=>h,fun _ h=>h⟩,⟨by simp [Log.none],by simp [Log.none]⟩⟩
 |.fail,_,_,_,_,h=>by simp [M.go]at h
 |.rb b k,st,l,K,r,h=>by
  simp only [M.go]at h;split at h
  .rename_i cs s
   obtain⟨a,st',j,l',p,q,g,i⟩:=M.kZ _ _ _ _ _ h;refine⟨a,st',j.r (2*b),l',by simp [M.run,s,p],q,⟨fun n d=>g.1 n (by simp [Log.r,d]),fun n d=>g.2 n Ī⟩, ?_, ?_⟩
   .intro n d
    simp only [Log.r,Ä]at d;rcases d with rfl|d
    .exact g.1 _ ÿ
    .exact i.1 n d
   .intro n d;exact i.2 n Ī
  .cases h
 |.wb b cs m,st,l,K,r,h=>by
  simp only [M.go]at h;split at h
  .rename_i t s
   obtain⟨a,st',j,l',p,q,g,i⟩:=M.kZ _ _ _ _ _ h;refine⟨a,st',j.w (2*b),l',by simp [M.run,s,p],q,⟨fun n d=>g.1 n ŕ,fun n d=>g.2 n (by simp [Log.w,d])⟩, ?_, ?_⟩
   .intro n d;exact i.1 n ŕ
   .intro n d
    simp only [Log.w,Ä]at d;rcases d with rfl|d
    .exact g.2 _ Ŏ
    .exact i.2 n d
  .cases h
 |.nb b cs m,st,l,K,r,h=>by
  simp only [M.go]at h;split at h
  .cases h
  .rename_i s
   obtain⟨a,st',j,l',p,q,g,i⟩:=M.kZ _ _ _ _ _ h;refine⟨a,st',j.w (2*b),l',by simp [M.run,s,p],q,⟨fun n d=>g.1 n ŕ,fun n d=>g.2 n (by simp [Log.w,d])⟩, ?_, ?_⟩
   .intro n d;exact i.1 n ŕ
   .intro n d
    simp only [Log.w,Ä]at d;rcases d with rfl|d
    .exact g.2 _ Ŏ
    .exact i.2 n d
 |.ro k f,st,l,K,r,h=>by
  simp only [M.go]at h;obtain⟨a,st',j,l',p,q,g,i⟩:=M.kZ _ _ _ _ _ h;refine⟨a,st',j.r (2*k+1),l',Ĝ,q,⟨fun n d=>g.1 n (by simp [Log.r,d]),fun n d=>g.2 n Ī⟩, ?_, ?_⟩
  .intro n d
   simp only [Log.r,Ä]at d;rcases d with rfl|d
   .exact g.1 _ ÿ
   .exact i.1 n d
  .intro n d;exact i.2 n Ī
 |.wo k o m,st,l,K,r,h=>by
  simp only [M.go]at h;obtain⟨a,st',j,l',p,q,g,i⟩:=M.kZ _ _ _ _ _ h;refine⟨a,st',j.w (2*k+1),l',Ĝ,q,⟨fun n d=>g.1 n ŕ,fun n d=>g.2 n (by simp [Log.w,d])⟩, ?_, ?_⟩
  .intro n d;exact i.1 n ŕ
  .intro n d
   simp only [Log.w,Ä]at d;rcases d with rfl|d
   .exact g.2 _ Ŏ
   .exact i.2 n d
 |.opt x f,st,l,K,r,h=>by
  simp only [M.go]at h;cases x with
  |none=>simp at h
  |some y=>
   simp only [Z]at h;obtain⟨a,st',j,l',p,q,g,i⟩:=M.kZ _ _ _ _ _ h;exact⟨a,st',j,l',Ĝ,q,g,i⟩
 |.br x m1 m2,st,l,K,r,h=>by
  simp only [M.go]at h;cases x with
  |true=>
   obtain⟨a,st',j,l',p,q,g,i⟩:=M.kZ _ _ _ _ _ h;exact⟨a,st',j,l',Ĝ,q,g,i⟩
  |false=>
   obtain⟨a,st',j,l',p,q,g,i⟩:=M.kZ _ _ _ _ _ h;exact⟨a,st',j,l',Ĝ,q,g,i⟩
def same (st st':St) (n:Nat):Prop:=(∀b,n=2*b->st'.boxes b=st.boxes b)/\(∀k,n=2*k+1->st'.ar k=st.ar k)
theorem M.iJ {α:Type}: ∀(m:M α) (st:St) (a:α) (st':St) (l:Log),m.run st=ã (a,st',l)->st'.tmps=st.tmps/\ ∀n,n∉l.wr->same st st' n
 |.ret _,st,a,st',l,h=>by
  simp only [M.run,É,Ã]at h;obtain⟨-,rfl, -⟩:=h;exact⟨rfl,fun n _=>⟨fun _ _=>rfl,fun _ _=>rfl⟩⟩
 |.fail,_,_,_,_,h=>by simp [M.run]at h
 |.rb b k,st,a,st',l,h=>by
  simp only [M.run]at h;split at h
  .simp only [À]at h
   obtain⟨⟨p,s1,q⟩,i,d⟩:=h;simp only [Ã]at d;obtain⟨rfl,rfl,rfl⟩:=d;have hk:=M.iJ _ _ _ _ _ i;exact⟨hk.1,fun n g=>hk.2 n (by simpa [Log.r]using g)⟩
  .cases h
 |.wb b cs m,st,a,st',l,h=>by
  simp only [M.run]at h;split at h
  .simp only [À]at h
   obtain⟨⟨p,s1,q⟩,i,d⟩:=h;simp only [Ã]at d;obtain⟨rfl,rfl,rfl⟩:=d;obtain⟨k1,k2⟩:=M.iJ _ _ _ _ _ i;refine⟨k1,fun n g=> ?_⟩
   simp only [Log.w,Ä,not_or]at g;obtain⟨g1,g2⟩:=k2 n g.2;exact⟨fun b' j=>(g1 b' j).trans (aY _ _ ž),g2⟩
  .cases h
 |.nb b cs m,st,a,st',l,h=>by
  simp only [M.run]at h;split at h
  .cases h
  .simp only [À]at h
   obtain⟨⟨p,s1,q⟩,i,d⟩:=h;simp only [Ã]at d;obtain⟨rfl,rfl,rfl⟩:=d;obtain⟨k1,k2⟩:=M.iJ _ _ _ _ _ i;refine⟨k1,fun n g=> ?_⟩
   simp only [Log.w,Ä,not_or]at g;obtain⟨g1,g2⟩:=k2 n g.2;exact⟨fun b' j=>(g1 b' j).trans (aY _ _ ž),g2⟩
 |.ro k f,st,a,st',l,h=>by
  simp only [M.run,À]at h;obtain⟨⟨p,s1,q⟩,i,d⟩:=h;simp only [Ã]at d;obtain⟨rfl,rfl,rfl⟩:=d;have hk:=M.iJ _ _ _ _ _ i;exact⟨hk.1,fun n g=>hk.2 n (by simpa [Log.r]using g)⟩
 |.wo k o m,st,a,st',l,h=>by
  simp only [M.run,À]at h;obtain⟨⟨p,s1,q⟩,i,d⟩:=h;simp only [Ã]at d;obtain⟨rfl,rfl,rfl⟩:=d;obtain⟨k1,k2⟩:=M.iJ _ _ _ _ _ i;refine⟨k1,fun n g=> ?_⟩
  simp only [Log.w,Ä,not_or]at g;obtain⟨g1,g2⟩:=k2 n g.2;exact⟨g1,fun k' s=>(g2 k' s).trans (aY _ _ ž)⟩
 |.opt x f,st,a,st',l,h=>by
  simp only [M.run,Ï]at h;obtain⟨y, -,h⟩:=h;exact M.iJ _ _ _ _ _ h
 |.br x m1 m2,st,a,st',l,h=>by
  cases x<;>simp only [M.run]at h<;>exact M.iJ _ _ _ _ _ h
theorem M.nT {α:Type}: ∀(m:M α) (st:St) (a:α) (st':St) (l:Log),m.run st=ã (a,st',l)->
  ∀s:St,(∀n,n∈l.rd\/n∈l.wr->same st s n)-> ∃s',m.run s=ã (a,s',l)/\ ∀n,(n∈l.wr->same st' s' n)/\(n∉l.wr->same s s' n)
 |.ret _,st,a,st',l,h,s,j=>by
  simp only [M.run,É,Ã]at h;obtain⟨rfl,rfl,rfl⟩:=h;exact⟨s,rfl,fun n=>⟨fun h=>by simp [Log.none]at h,fun _=>⟨fun _ _=>rfl,fun _ _=>rfl⟩⟩⟩
 |.fail,_,_,_,_,h,_,_=>by simp [M.run]at h
 |.rb b k,st,a,st',l,h,s,j=>by
  simp only [M.run]at h;split at h
  .rename_i cs hb
   simp only [À]at h;obtain⟨⟨a1,s1,z⟩,u,p⟩:=h;simp only [Ã]at p;obtain⟨rfl,rfl,rfl⟩:=p;have d:s.boxes b=ã cs:=((j (2*b) (.inl ÿ)).1 b rfl).trans hb
   obtain⟨s',q,hk⟩:=M.nT _ _ _ _ _ u s (fun n g=>j n (g.imp (fun h=>by simp [Log.r,h]) (fun h=>by simpa [Log.r]using h)))
   exact⟨s',by simp [M.run,d,q],hk⟩
  .cases h
 |.wb b cs m,st,a,st',l,h,s,j=>by
  simp only [M.run]at h;split at h
  .rename_i ag hb
   simp only [À]at h;obtain⟨⟨a1,s1,z⟩,u,p⟩:=h;simp only [Ã]at p;obtain⟨rfl,rfl,rfl⟩:=p;have d:s.boxes b=ã ag:=((j (2*b) (.inr Ŏ)).1 b rfl).trans hb
   have i:=(M.iJ _ _ _ _ _ u).2;obtain⟨s',q,hk⟩:=M.nT _ _ _ _ _ u {s with boxes:=aS s.boxes b (ã cs)} (fun n g=>by
    obtain⟨g1,g2⟩:=j n (g.imp (fun h=>ê) (fun h=>by simp [Log.w,h]))
    refine⟨fun b' d=> ?_,g2⟩
    by_cases e:b'=b
    .subst e;simp [bC]
    .simp only [aY _ _ e];exact g1 b' d)
   refine⟨s',by simp [M.run,d,q],fun n=> ?_⟩
   obtain⟨k1,k2⟩:=hk n;by_cases g:n∈z.wr
   .exact⟨fun _=>k1 g,fun h=>absurd (by simp [Log.w,g]) h⟩
   .obtain⟨q1,q2⟩:=k2 g
    obtain⟨p1,p2⟩:=i n g;by_cases e:n=2*b
    .subst e
     refine⟨fun _=>⟨fun b' d=> ?_,fun k' t=>ž⟩,fun h=>absurd Ŏ h⟩
     have:b'=b:=ž
     subst this;rw [q1 b' rfl,p1 b' rfl];simp [bC]
    .refine⟨fun h=> ?_,fun _=>⟨fun b' d=> ?_,q2⟩⟩
     .simp only [Log.w,Ä]at h;exact absurd h (by simp [e,g])
     .rw [q1 b' d];exact aY _ _ ž
  .cases h
 |.nb b cs m,st,a,st',l,h,s,j=>by
  simp only [M.run]at h;split at h
  .cases h
  .rename_i hb
   simp only [À]at h;obtain⟨⟨a1,s1,z⟩,u,p⟩:=h;simp only [Ã]at p;obtain⟨rfl,rfl,rfl⟩:=p;have d:s.boxes b=â:=((j (2*b) (.inr Ŏ)).1 b rfl).trans hb
   have i:=(M.iJ _ _ _ _ _ u).2;obtain⟨s',q,hk⟩:=M.nT _ _ _ _ _ u {s with boxes:=aS s.boxes b (ã cs)} (fun n g=>by
    obtain⟨g1,g2⟩:=j n (g.imp (fun h=>ê) (fun h=>by simp [Log.w,h]))
    refine⟨fun b' d=> ?_,g2⟩
    by_cases e:b'=b
    .subst e;simp [bC]
    .simp only [aY _ _ e];exact g1 b' d)
   refine⟨s',by simp [M.run,d,q],fun n=> ?_⟩
   obtain⟨k1,k2⟩:=hk n;by_cases g:n∈z.wr
   .exact⟨fun _=>k1 g,fun h=>absurd (by simp [Log.w,g]) h⟩
   .obtain⟨q1,q2⟩:=k2 g
    obtain⟨p1,p2⟩:=i n g;by_cases e:n=2*b
    .subst e
     refine⟨fun _=>⟨fun b' d=> ?_,fun k' t=>ž⟩,fun h=>absurd Ŏ h⟩
     have:b'=b:=ž
     subst this;rw [q1 b' rfl,p1 b' rfl];simp [bC]
    .refine⟨fun h=> ?_,fun _=>⟨fun b' d=> ?_,q2⟩⟩
     .simp only [Log.w,Ä]at h;exact absurd h (by simp [e,g])
     .rw [q1 b' d];exact aY _ _ ž
 |.ro k f,st,a,st',l,h,s,j=>by
  simp only [M.run,À]at h;obtain⟨⟨a1,s1,z⟩,u,p⟩:=h;simp only [Ã]at p;obtain⟨rfl,rfl,rfl⟩:=p;have ho:s.ar k=st.ar k:=(j (2*k+1) (.inl ÿ)).2 k rfl
  obtain⟨s',q,hk⟩:=M.nT _ _ _ _ _ u s (fun n g=>j n (g.imp (fun h=>by simp [Log.r,h]) (fun h=>by simpa [Log.r]using h)))
  exact⟨s',by simp [M.run,ho,q],hk⟩
 |.wo k o m,st,a,st',l,h,s,j=>by
  simp only [M.run,À]at h;obtain⟨⟨a1,s1,z⟩,u,p⟩:=h;simp only [Ã]at p;obtain⟨rfl,rfl,rfl⟩:=p;have i:=(M.iJ _ _ _ _ _ u).2;obtain⟨s',q,hk⟩:=M.nT _ _ _ _ _ u {s with ar:=aS s.ar k o} (fun n g=>by
   obtain⟨g1,g2⟩:=j n (g.imp (fun h=>ê) (fun h=>by simp [Log.w,h]))
   refine⟨g1,fun k' t=> ?_⟩
   by_cases e:k'=k
   .subst e;simp [bC]
   .simp only [aY _ _ e];exact g2 k' t)
  refine⟨s',by simp [M.run,q],fun n=> ?_⟩
  obtain⟨k1,k2⟩:=hk n;by_cases g:n∈z.wr
  .exact⟨fun _=>k1 g,fun h=>absurd (by simp [Log.w,g]) h⟩
  .obtain⟨q1,q2⟩:=k2 g
   obtain⟨p1,p2⟩:=i n g;by_cases e:n=2*k+1
   .subst e
    refine⟨fun _=>⟨fun b' d=>ž,fun k' t=> ?_⟩,fun h=>absurd Ŏ h⟩
    have:k'=k:=ž
    subst this;rw [q2 k' rfl,p2 k' rfl];simp [bC]
   .refine⟨fun h=> ?_,fun _=>⟨q1,fun k' t=> ?_⟩⟩
    .simp only [Log.w,Ä]at h;exact absurd h (by simp [e,g])
    .rw [q2 k' t];exact aY _ _ ž
 |.opt x f,st,a,st',l,h,s,j=>by
  simp only [M.run,Ï]at h;obtain⟨y,rfl,h⟩:=h;obtain⟨s',q,hk⟩:=M.nT _ _ _ _ _ h s j;exact⟨s',by simp [M.run,q],hk⟩
 |.br x m1 m2,st,a,st',l,h,s,j=>by
  cases x<;>simp only [M.run]at h<;>
  .obtain⟨s',q,hk⟩:=M.nT _ _ _ _ _ h s j
   exact⟨s',by simp [M.run,q],hk⟩
end Go.Ev
namespace Go.Ev
inductive U where
 |bool
 |int (k:IntKind)
 |str
 |slice (e:TypeId)
 |struct (fs:List (Nat×TypeId))
 |ptr
 |func
 |iface
 |other
structure TyI where
 u:U
 size:Nat
 bytes:Nat
 zero:List Cell
 bu:Option aR
 eq:Bool
def dW (c b:CT) (x:Interp c):Option (Interp b):=
 if h:c.beq b=å then ã (CT.eq_of_beq c b h▸x)else â
def ft (d j:Nat):Nat:=2*(64*d+j)
def pk (b off:Nat):Nat:=2*(64*b+off)+1
def adR:Option Nat->Nat
 |some d=>d
 |none=>9999
def cz (c:CT) (vw:Option Nat) (x:Interp c):Interp c:=
 match vw with
 |none=>x
 |some n=>gk c n x
def kx (c:CT) (vw:Option Nat) (x:Interp c):Bool:=
 match vw with
 |none=>å
 |some n=>Ê n (aF c x)
section
variable {α:Type}
def M.ji (v:TV) (k:Cell->M α):M α:=
 match v with
 |.one c=>k c
 |_=>.fail
def pn (v:TV) (k:List Cell->M α):M α:=
 match v with
 |.one .undef=>.fail
 |.one c=>k [c]
 |.agg cs=>k cs
 |.aM _=>.fail
def fv (c:Cell) (nil:M α) (k:(c:CT)->Interp c->M α):M α:=
 match c with
 |.nl=>nil
 |.z0=>nil
 |.sh c x=>k c x
 |.lU c x=>k c x
 |.ob n v vw=>.ro n fun o=>match o.bj with
  |some d=>.gd (Â v o.aH) (.gd (kx d.c vw d.x) (k d.c (cz d.c vw d.x)))
  |none=>.fail
 |.gs n v wv _ c x=>.ro n fun o=>match o.bj with
  |some _=>.gd (Â v o.aH) (.gd (Â wv o.wv) (k c x))
  |none=>.fail
 |_=>.fail
def gm (nm:Nat) (c:CT) (x:Interp c) (k:Cell->M α):M α:=
 .ro nm fun o=>match o.bj with
  |none=>.wo nm ⟨o.aH+1,0,ã ⟨c,x⟩⟩ (k (.ob nm (o.aH+1) â))
  |some _=>.fail
def qO (c:CT) (x:Interp c) (i:Int):Option (bc (ay c)):=
 cond (á (0<=i)) (kY c x i.toNat) â
def bF (s:O) (i:Int):Option UInt8:=
 cond (á (0<=i)) (nth s i.toNat) â
def mV (c:CT) (v:Cell) (k:Interp c->M α):M α:=
 match v with
 |.nl=>.gd (bP c) (k (eh c))
 |.z0=>.gd (bP c) (k (eh c))
 |.ob n v vw=>.ro n fun o=>match o.bj with
  |some d=>.gd (Â v o.aH) (.gd (kx d.c vw d.x) (.wo n ⟨o.aH+1,0,â⟩ (.opt (dW d.c c (cz d.c vw d.x)) k)))
  |none=>.fail
 |.gs n v wv (ã _) b x=>.ro n fun o=>match o.bj with
  |some _=>.gd (Â v o.aH) (.gd (Â wv o.wv) (.wo n ⟨o.aH+1,0,â⟩ (.opt (dW b c x) k)))
  |none=>.fail
 |_=>.fail
def sR:(c:CT)->Cell->(Interp c->M α)->M α
 |.bool,.b x,k=>k x
 |.int f,.i d n,k=>.gd (á (f=d)) (k (vv f n))
 |.str,.s x,k=>k x
 |.sl ts,v,k=>mV (.sl ts) v k
 |.tree fs,v,k=>mV (.tree fs) v k
 |_,_,_=>.fail
def po:(ts:aR)->List Cell->(bc ts->M α)->M α
 |.one c,[v],k=>sR c v k
 |.cons c cs,v::vs,k=>sR c v fun x=>po cs vs fun y=>k (x,y)
 |_,_,_=>.fail
def la:(ts:aR)->Nat->List Cell->bc ts->(bc ts->M α)->M α
 |.one c,0,[v],_,k=>sR c v k
 |.one _,0,[],e,k=>k e
 |.cons _ _,0,[],e,k=>k e
 |.cons c cs,0,v::vs,e,k=>sR c v fun x=>la cs 0 vs e.2 fun y=>k (x,y)
 |.cons _ cs,s+1,vs,e,k=>la cs s vs e.2 fun y=>k (e.1,y)
 |_,_,_,_,_=>.fail
end
def pq (f:Nat->(c:CT)->Interp c->Cell) (j:Nat):(c:CT)->Interp c->Cell
 |.bool,x=>.b x
 |.int k,x=>.i k (kr k x)
 |.str,x=>.s x
 |.sl ts,x=>f j (.sl ts) x
 |.tree fs,x=>f j (.tree fs) x
def qP (f:Nat->(c:CT)->Interp c->Cell):Nat->(ts:aR)->bc ts->List Cell
 |j,.one c,x=>[pq f j c x]
 |j,.cons c cs,x=>pq f j c x.1::qP f (j+1) cs x.2
def Gk (_:Nat) (c:CT) (x:Interp c):Cell:=.sh c x
def Gl (k aH wv i j:Nat) (c:CT) (x:Interp c):Cell:=.gs k aH wv (ã (i,j)) c x
def Gm (k aH wv:Nat) (_:Nat) (c:CT) (x:Interp c):Cell:=.gs k aH wv â c x
def lV (agg:Bool) (cs:List Cell):TV:=
 match agg,cs with
 |false,[c]=>.one c
 |true,cs=>.agg cs
 |_,_=>.one .undef
def sub (cs:List Cell) (off n:Nat):List Cell:=(cs.drop off).take n
def Gn (agg:Bool) (n:Nat) (p:Cell):M TV:=
 match p with
 |.pb b off=>.rb b fun cs=>.gd (Ê (off+n) cs.length) (.ret (lV agg (sub cs off n)))
 |.pe k v i off=>.ro k fun o=>match o.bj with
  |some d=>.gd (Â v o.aH) (.opt (kY d.c d.x i) fun e=>.gd (Ê (off+n) (ay d.c).size) (.ret (lV agg (sub (qP (Gl k o.aH o.wv i) 0 (ay d.c) e) off n))))
  |none=>.fail
 |.pr ts e off=>.gd (Ê (off+n) ts.size) (.ret (lV agg (sub (qP Gk 0 ts e) off n)))
 |.pg k v wv ts e off=>.ro k fun o=>match o.bj with
  |some _=>.gd (Â v o.aH) (.gd (Â wv o.wv) (.gd (Ê (off+n) ts.size) (.ret (lV agg (sub (qP (Gm k v wv) 0 ts e) off n)))))
  |none=>.fail
 |_=>.fail
def stM (n:Nat) (p:Cell) (vs:List Cell):M TV:=
 .gd (Â vs.length n)<|
 match p with
 |.pb b off=>.rb b fun cs=>.gd (Ê (off+n) cs.length) (.wb b (cs.take off++(vs++cs.drop (off+n))) (.ret (.one .undef)))
 |.pe k v i off=>.ro k fun o=>match o.bj with
  |some d=>.gd (Â v o.aH) (.opt (kY d.c d.x i) fun e=>la (ay d.c) off vs e fun f=>
    .ro k fun g=>.gd g.bj.isSome (.wo k ⟨o.aH,o.wv+1,ã ⟨d.c,mU d.c d.x i f⟩⟩ (.ret (.one .undef))))
  |none=>.fail
 |_=>.fail
def jj:List Bool->Bool
 | []=>å
 | [b]=>b
 |b::d=>b&&jj d
def vC:Cell->Cell->Option Bool
 |.b x,.b y=>ã (x==y)
 |.i k x,.i k' y=>cond (á (k=k')) (ã (x==y)) â
 |.s x,.s y=>ã (x==y)
 |_,_=>â
def fg:List Cell->List Cell->Option (List Bool)
 | [],[]=>ã []
 |x::xs,y::d=>match vC x y,fg xs d with
  |some b,ã f=>ã (b::f)
  |_,_=>â
 |_,_=>â
def cS (op:BinOp) (k:IntKind) (x y:Int):Int:=
 match op with
 |.and=>k.wrap (Ì k.bits x &&&Ì k.bits y).toNat
 |.or=>k.wrap (Ì k.bits x |||Ì k.bits y).toNat
 |.xor=>k.wrap (Ì k.bits x ^^^Ì k.bits y).toNat
 |_=>k.wrap (Ì k.bits x &&& ~~~(Ì k.bits y)).toNat
def mx:Nat:=9223372036854775807
def big:Nat:=137438953472
def c1 (c:Cell):M TV:=.ret (.one c)
def uB:Option TyI->Bool
 |some ⟨.bool,_,_,_,_,_⟩=>å
 |_=>ä
def uF:Option TyI->Bool
 |some ⟨.iface,_,_,_,_,_⟩=>å
 |_=>ä
def uS:Option TyI->Bool
 |some ⟨.slice _,_,_,_,_,_⟩=>å
 |_=>ä
def nU:CT->Cell->Bool
 |.bool,.b _=>å
 |.int k,.i k' _=>á (k=k')
 |.str,.s _=>å
 |_,_=>ä
def lW:aR->List Cell->Bool
 |.one c,[x]=>nU c x
 |.cons c cs,x::xs=>nU c x&&lW cs xs
 |_,_=>ä
def uE (b:Option TyI) (xs d:List Cell):Bool:=
 match b with
 |some ⟨_,_,_,_,ã ts,e⟩=>e&&(lW ts xs&&lW ts d)
 |_=>ä
def zI:Operand->Bool
 |.const _=>å
 |_=>ä
def Gp (d:Option TyI) (h:Bool) (op:BinOp) (x y:TV):M TV:=
 match op,x,y with
 |.shl,.one (.i k a),.one (.i _ b)=>.gd (á (0<=b)) (c1 (.i k (k.wrap (a*2^(min b.toNat k.bits)))))
 |.shr,.one (.i k a),.one (.i _ b)=>.gd (á (0<=b)) (c1 (.i k (a.fdiv (2^(min b.toNat k.bits)))))
 |.add,.one (.i k a),.one (.i k' b)=>.gd (á (k=k')) (c1 (.i k (k.wrap (a+b))))
 |.sub,.one (.i k a),.one (.i k' b)=>.gd (á (k=k')) (c1 (.i k (k.wrap (a-b))))
 |.mul,.one (.i k a),.one (.i k' b)=>.gd (á (k=k')) (c1 (.i k (k.wrap (a*b))))
 |.quo,.one (.i k a),.one (.i k' b)=>.gd (á (k=k')) (.gd (b !=0) (c1 (.i k (k.wrap (a.tdiv b)))))
 |.rem,.one (.i k a),.one (.i k' b)=>.gd (á (k=k')) (.gd (b !=0) (c1 (.i k (a.tmod b))))
 |.and,.one (.i k a),.one (.i k' b)=>.gd (á (k=k')) (c1 (.i k (cS .and k a b)))
 |.or,.one (.i k a),.one (.i k' b)=>.gd (á (k=k')) (c1 (.i k (cS .or k a b)))
 |.xor,.one (.i k a),.one (.i k' b)=>.gd (á (k=k')) (c1 (.i k (cS .xor k a b)))
 |.andNot,.one (.i k a),.one (.i k' b)=>.gd (á (k=k')) (c1 (.i k (cS .andNot k a b)))
 |.eql,.one (.i k a),.one (.i k' b)=>.gd (á (k=k')) (c1 (.b (a==b)))
 |.neq,.one (.i k a),.one (.i k' b)=>.gd (á (k=k')) (c1 (.b (a !=b)))
 |.lss,.one (.i k a),.one (.i k' b)=>.gd (á (k=k')) (c1 (.b (á (a<b))))
 |.leq,.one (.i k a),.one (.i k' b)=>.gd (á (k=k')) (c1 (.b (á (a<=b))))
 |.gtr,.one (.i k a),.one (.i k' b)=>.gd (á (k=k')) (c1 (.b (á (b<a))))
 |.geq,.one (.i k a),.one (.i k' b)=>.gd (á (k=k')) (c1 (.b (á (b<=a))))
 |.add,.one (.s a),.one (.s b)=>.gd (Ê (a.length+b.length) mx) (c1 (.s (a++b)))
 |.eql,.one (.s a),.one (.s b)=>c1 (.b (a==b))
 |.neq,.one (.s a),.one (.s b)=>c1 (.b (!(a==b)))
 |.lss,.one (.s a),.one (.s b)=>c1 (.b (Α a b))
 |.leq,.one (.s a),.one (.s b)=>c1 (.b (Α a b||a==b))
 |.gtr,.one (.s a),.one (.s b)=>c1 (.b (!(Α a b||a==b)))
 |.geq,.one (.s a),.one (.s b)=>c1 (.b (!(Α a b)))
 |.eql,.one (.b a),.one (.b b)=>.gd (uB d) (c1 (.b (a==b)))
 |.neq,.one (.b a),.one (.b b)=>.gd (uB d) (c1 (.b (!(a==b))))
 |.eql,.one (.er a),.one (.er ä)=>.gd (uF d) (.gd h (c1 (.b (!a))))
 |.neq,.one (.er a),.one (.er ä)=>.gd (uF d) (.gd h (c1 (.b a)))
 |.eql,.agg xs,.agg f=>.gd (uE d xs f) (match fg xs f with
  |some g=>c1 (.b (jj g))
  |none=>.fail)
 |.neq,.agg xs,.agg f=>.gd (uE d xs f) (match fg xs f with
  |some g=>c1 (.b (!jj g))
  |none=>.fail)
 |.eql,.one .nl,.one .nl=>.gd (uS d) (c1 (.b å))
 |.eql,.one (.lU _ _),.one .nl=>.gd (uS d) (c1 (.b ä))
 |_,_,_=>.fail
def cB:CT:=.sl (.one (.int .u8))
def qQ:Option TyI->Bool
 |some ⟨.str,_,_,_,_,_⟩=>å
 |_=>ä
def ld (b:Option CT) (c:CT):Bool:=
 match b with
 |some d=>d.beq c
 |none=>ä
def Gq (b:Option TyI) (c:Cell):M TV:=
 match c with
 |.s x=>.gd (qQ b) (c1 (.i .i64 (x.length:Int)))
 |c=>.gd (uS b) (fv c (c1 (.i .i64 0)) fun c x=>c1 (.i .i64 (aF c x:Int)))
def mW (len:Nat) (lo hi:Option TV) (k:Nat->Nat->M TV):M TV:=
 match lo,hi with
 |none,â=>k 0 len
 |none,ã (.one (.i _ h))=>.gd (á (0<=h/\h<=len)) (k 0 h.toNat)
 |some (.one (.i _ l)),â=>.gd (á (0<=l/\l<=len)) (k l.toNat len)
 |some (.one (.i _ l)),ã (.one (.i _ h))=>.gd (á (0<=l/\l<=h/\h<=len)) (k l.toNat h.toNat)
 |_,_=>.fail
def Gr (f:Option TyI) (b:Option CT) (x:TV) (lo hi:Option TV):M TV:=
 match x with
 |.one (.s s)=>.gd (qQ f) (mW s.length lo hi fun l h=>c1 (.s ((s.drop l).take (h-l))))
 |.one .nl=>.gd b.isSome (mW 0 lo hi fun _ _=>c1 .nl)
 |.one .z0=>.gd b.isSome (mW 0 lo hi fun _ _=>c1 .z0)
 |.one (.sh c x)=>.gd (ld b c) (mW (aF c x) lo hi fun l h=>c1 (.sh c (gk c (h-l) (gL c l x))))
 |.one (.lU c x)=>.gd (ld b c) (mW (aF c x) lo hi fun l h=>c1 (.lU c (gk c (h-l) (gL c l x))))
 |.one (.gs n v wv pl c x)=>.gd (ld b c) (fv (.gs n v wv pl c x) .fail fun _ _=>mW (aF c x) lo hi fun l h=>c1 (.gs n v wv â c (gk c (h-l) (gL c l x))))
 |.one (.ob n v vw)=>.ro n fun o=>match o.bj with
  |some d=>.gd (Â v o.aH) (.gd (kx d.c vw d.x) (.gd (ld b d.c) (match lo with
   |none=>mW (aF d.c (cz d.c vw d.x)) â hi fun _ h=>c1 (.ob n v (ã h))
   |some l=>mW (aF d.c (cz d.c vw d.x)) (ã l) hi fun l h=>c1 (.gs n v o.wv â d.c (gk d.c (h-l) (gL d.c l (cz d.c vw d.x)))))))
  |none=>.fail
 |_=>.fail
def Gs (d:Option TyI) (x i:TV):M TV:=
 match x,i with
 |.one (.s s),.one (.i _ n)=>.gd (qQ d) (.opt (bF s n) fun b=>c1 (.i .u8 (b.toNat:Int)))
 |_,_=>.fail
def Gt (b:Option CT) (x i:TV):M TV:=
 match x,i with
 |.one (.sh c x),.one (.i _ n)=>.gd (ld b c) (.opt (qO c x n) fun e=>c1 (.pr (ay c) e 0))
 |.one (.lU c x),.one (.i _ n)=>.gd (ld b c) (.opt (qO c x n) fun e=>c1 (.pr (ay c) e 0))
 |.one (.ob k v vw),.one (.i _ n)=>.ro k fun o=>match o.bj with
  |some d=>.gd (Â v o.aH) (.gd (kx d.c vw d.x) (.gd (ld b d.c) (.gd (á (0<=n/\n<aF d.c (cz d.c vw d.x))) (c1 (.pe k v n.toNat 0)))))
  |none=>.fail
 |.one (.gs k v wv pl c x),.one (.i _ n)=>.gd (ld b c) (fv (.gs k v wv pl c x) .fail fun _ _=>.opt (qO c x n) fun e=>c1 (.pg k v wv (ay c) e 0))
 |_,_=>.fail
def vD (o:Nat) (p:TV):M TV:=
 match p with
 |.one (.pb b off)=>c1 (.pb b (off+o))
 |.one (.pe k v i off)=>c1 (.pe k v i (off+o))
 |.one (.pr ts x off)=>c1 (.pr ts x (off+o))
 |.one (.pg k v wv ts x off)=>c1 (.pg k v wv ts x (off+o))
 |_=>.fail
def pw:aR->Bool
 |.one c=> !bP c
 |.cons c cs=> !bP c&&pw cs
def jL (T:TypeId->Option TyI) (t:TypeId):Option U:=(T t).map TyI.u
def fw (T:TypeId->Option TyI) (t:TypeId):Option CT:=
 match T t with
 |some ⟨.slice _,_,_,_,ã (.one c),_⟩=>cond (bP c) (ã c) â
 |_=>â
def px {α:Type} (c:CT) (x:TV) (k:Interp c->M α):M α:=
 match x with
 |.one (.s s)=>.opt (dW cB c s) k
 |.one v=>cond (pw (ay c)) (fv v (k (eh c)) fun b x=>.opt (dW b c x) k) (mV c v k)
 |_=>.fail
def Gu (c:CT) (d:Nat) (s x:TV):M TV:=
 match s with
 |.one .nl=>px c x fun y=>.gd (Ê (aF c y) big) (gm (ft d 0) c y c1)
 |.one .z0=>px c x fun y=>.gd (Ê (aF c y) big) (gm (ft d 0) c y c1)
 |.one (.ob n v vw)=>px c x fun y=>.ro n fun o=>match o.bj with
  |some e=>.gd (Â v o.aH) (.gd (kx e.c vw e.x) (.opt (dW e.c c (cz e.c vw e.x)) fun x=>.gd (Ê (aF c x+aF c y) big)
    (.wo n ⟨o.aH+1,0,ã ⟨c,ku c x y⟩⟩ (c1 (.ob n (o.aH+1) â)))))
  |none=>.fail
 |_=>.fail
def qR:(c:CT)->Nat->Interp c
 |.sl ts,n=>Ο n (qM ts)
 |.tree fs,n=>Ο n (vy fs (qM (fs.snoc (.tree fs))))
 |c,_=>eh c
def sS (T:TypeId->Option TyI) (fs:List (Nat×TypeId)):List Cell->List (Nat×TV)->M TV
 |cs,[]=>.ret (.agg cs)
 |cs,(i,v)::rest=>match fs[i]? with
  |some (off,t)=>match T t with
   |some b=>pn v fun vs=>.gd (Â vs.length b.size) (.gd (Ê (off+vs.length) cs.length) (sS T fs (cs.take off++(vs++cs.drop (off+vs.length))) rest))
   |none=>.fail
  |none=>.fail
def sU (c:CT):Nat->List (Nat×TV)->(Interp c->M TV)->M TV
 |_,[],k=>k (eh c)
 |j,(i,v)::rest,k=>.gd (Â i j) (pn v fun vs=>po (ay c) vs fun e=>sU c (j+1) rest fun xs=>k (qN c e xs))
def py (vs:List TV):Option (List Cell):=
 match vs with
 | []=>ã []
 |.one .undef::_=>â
 |.one c::r=>(py r).map (c:: ·)
 |_=>â
def dq (T:TypeId->Option TyI) (call:FuncId->List TV->Nat->M TV) (ρ:Operand->TV) (o:Oper):M TV:=
 let d:=adR o.dst
 match o.op with
 |.move x|.assign x=>.ret (ρ x)
 |.pick c a b=>match ρ c with
  |.one (.b x)=>.br x (.ret (ρ a)) (.ret (ρ b))
  |_=>.fail
 |.alloc t=>match T t with
  |some i=>.nb d i.zero (c1 (.pb d 0))
  |none=>.fail
 |.box t x=>match T t with
  |some i=>pn (ρ x) fun cs=>.gd (Â cs.length i.size) (.nb d cs (c1 (.pb d 0)))
  |none=>.fail
 |.build t parts=>match T t with
  |some ⟨.struct fs,_,_,z,_,_⟩=>sS T fs z (parts.toList.map fun p=>(p.1,ρ p.2))
  |_=>.fail
 |.buildSlice t len parts=>match fw T t with
  |some c=>.gd (Â len parts.toList.length&&Ê (len*(ay c).size) 16777216) (sU c 0 (parts.toList.map fun p=>(p.1,ρ p.2)) fun xs=>gm (ft d 0) c xs c1)
  |none=>.fail
 |.load t a=>match T t with
  |some i=>M.ji (ρ a) (Gn (match i.u with|.struct _=>å|_=>ä) i.size)
  |none=>.fail
 |.store t a x=>match T t with
  |some i=>M.ji (ρ a) fun p=>pn (ρ x) fun cs=>stM i.size p cs
  |none=>.fail
 |.nilCheck x=>match ρ x with
  |.one (.pb b off)=>c1 (.pb b off)
  |.one (.pe k v i off)=>c1 (.pe k v i off)
  |.one (.pr ts e off)=>c1 (.pr ts e off)
  |.one (.pg k v wv ts e off)=>c1 (.pg k v wv ts e off)
  |.one (.fn f a b)=>c1 (.fn f a b)
  |_=>.fail
 |.binOp op t x y _=>Gp (T t) (zI y) op (ρ x) (ρ y)
 |.unOp op _ x=>match op,ρ x with
  |.not,.one (.b x)=>c1 (.b (!x))
  |.neg,.one (.i k n)=>c1 (.i k (k.wrap (0-n)))
  |_,_=>.fail
 |.convert s t x=>match jL T s,jL T t,ρ x with
  |some (.int _),ã (.int k),.one (.i _ n)=>c1 (.i k (k.wrap n))
  |some .str,ã (.slice _),.one (.s x)=>match fw T t with
   |some c=>.opt (dW cB c x) fun y=>.gd (Ê x.length big) (gm (ft d 0) c y c1)
   |none=>.fail
  |some (.slice _),ã .str,.one v=>.gd (ld (fw T s) cB) (fv v (c1 (.s [])) fun c x=>.opt (dW c cB x) fun y=>c1 (.s y))
  |some .str,ã .str,.one (.s x)=>c1 (.s x)
  |_,_,_=>.fail
 |.makeFunc (.func f) a b=>match py (a.toList.map ρ),py (b.toList.map ρ)with
  |some xs,ã r=>c1 (.fn f xs r)
  |_,_=>.fail
 |.makeSlice t l c=>match fw T t,ρ l,ρ c with
  |some j,.one (.i .i64 n),.one (.i .i64 m)=>.gd (á (0<=n/\n<=m/\m<=big)) (gm (ft d 0) j (qR j n.toNat) c1)
  |_,_,_=>.fail
 |.slice t x lo hi â=>Gr (T t) (fw T t) (ρ x) (lo.map ρ) (hi.map ρ)
 |.slice t x â (ã h) (ã m)=>match ρ h,ρ m,ρ x with
  |.one (.i _ p),.one (.i _ q),.one c=>.gd (á (p=0/\q=0)) (.gd (fw T t).isSome (fv c (c1 .z0) fun _ _=>c1 .z0))
  |_,_,_=>.fail
 |.fieldAddr s x f=>match T s with
  |some ⟨.struct fs,_,_,_,_,_⟩=>match fs[f]? with
   |some (off,_)=>vD off (ρ x)
   |none=>.fail
  |_=>.fail
 |.field s x f=>match T s,ρ x with
  |some ⟨.struct fs,_,_,_,_,_⟩,.agg cs=>match fs[f]? with
   |some (off,t)=>match T t with
    |some i=>.gd (Ê (off+i.size) cs.length) (.ret (lV (match i.u with|.struct _=>å|_=>ä) (sub cs off i.size)))
    |none=>.fail
   |none=>.fail
  |_,_=>.fail
 |.indexAddr t x i=>Gt (fw T t) (ρ x) (ρ i)
 |.index t x i=>Gs (T t) (ρ x) (ρ i)
 |.extract x i=>match ρ x with
  |.aM vs=>match vs[i]? with
   |some v=>.ret v
   |none=>.fail
  |_=>.fail
 |.call c=>match c.callee with
  |.builtin .len=>match c.args.toList,c.argTypes.toList with
   | [x],t::_=>M.ji (ρ x) (Gq (T t))
   |_,_=>.fail
  |.builtin .append=>match c.args.toList,c.argTypes.toList with
   | [s,x],[t,t2]=>match fw T t with
    |some j=>.gd (uS (T t2)||qQ (T t2)) (Gu j d (ρ s) (ρ x))
    |none=>.fail
   |_,_=>.fail
  |.builtin .min=>match c.args.toList with
   | [x,y]=>match ρ x,ρ y with
    |.one (.i k a),.one (.i k' b)=>.gd (á (k=k')) (c1 (.i k (cond (á (b<a)) b a)))
    |_,_=>.fail
   |_=>.fail
  |.builtin .max=>match c.args.toList with
   | [x,y]=>match ρ x,ρ y with
    |.one (.i k a),.one (.i k' b)=>.gd (á (k=k')) (c1 (.i k (cond (á (a<b)) b a)))
    |_,_=>.fail
   |_=>.fail
  |.value (.func f)=>call f (c.args.toList.map ρ) d
  |.value f=>match ρ f with
   |.one (.fn g a b)=>call g (a.map .one++(c.args.toList.map ρ++b.map .one)) d
   |_=>.fail
  |_=>.fail
 |_=>.fail
end Go.Ev
namespace Go.Ev
def Gv:Value->TV
 |.bool b=>.one (.b b)
 |.int k n=>cond (á (k.min<=n/\n<=k.max)) (.one (.i k n)) (.one .undef)
 |.string s=>cond (Ê s.data.toList.length mx) (.one (.s s.data.toList)) (.one .undef)
 |.pointer â=>.one .ff
 |.slice â 0 0=>.one .nl
 |.nilFunc=>.one .fE
 |.nilIface=>.one (.er ä)
 |_=>.one .undef
def bE (st:St):Operand->TV
 |.tmp t=>st.tmps t
 |.const v=>Gv v
 |.global _=>.one .undef
 |.func f=>.one (.fn f [] [])
def know (st:St) (t:Nat) (x:Bool):St:={st with tmps:=aS st.tmps t (.one (.b x))}
section
variable {R:Type}
def Gw (all:Array Oper) (o:Oper) (st:St) (yes no:St->Option R):Option R:=
 match o.guard with
 |none=>yes st
 |some (j,want)=>match(all[j]?).bind (·.dst)with
  |some t=>match st.tmps t with
   |.one (.b x)=>cond x (cond want (yes (know st t å)) (no (know st t å))) (cond want (no (know st t ä)) (yes (know st t ä)))
   |.aM []=>no st
   |_=>â
  |none=>â
def qS (opf:(Operand->TV)->Oper->M TV) (all:Array Oper):List Oper->St->List Log->(St->List Log->Option R)->Option R
 | [],st,ls,K=>K st ls
 |o::rest,st,ls,K=>Gw all o st
   (fun st=>(opf (bE st) o).go st .none fun v st' l=>qS opf all rest (st'.put o.dst v) (l::ls) K)
   (fun st=>qS opf all rest (st.put o.dst (.aM [])) (.none::ls) K)
end
def pz (xs b:List Nat):Bool:=xs.all fun x=> !b.elem x
def qT (o:Oper) (all:Array Oper):List Nat:=
 (o.op.operands.toList.filterMap fun|.tmp t=>ã t|_=>â)++
 (match o.guard with
  |some (g,_)=>((all[g]?).bind (·.dst)).toList
  |none=>[])
def indep (all:Array Oper) (x y:Oper) (b f:Log):Bool:=
 (match x.dst with|some d=> !(qT y all).elem d&& !(y.dst==ã d)|none=>å)&&
 (match y.dst with|some d=> !(qT x all).elem d|none=>å)&&
 pz b.wr f.rd&&pz b.wr f.wr&&pz f.wr b.rd
def ky:List Oper->List Nat->List Nat
 | [],_=>[]
 |o::rest,acc=>
  let m:=o.after.toList.foldl (fun s e=>cond (Region.binds .any e) (s |||2^e.on |||acc.getD e.on 0) s) 0
  m::ky rest (acc++[m])
def Gx (i:Nat) (o:Oper):Bool:=o.after.toList.all fun e=> !Region.binds .any e||Nat.blt e.on i
def zJ (all:Array Oper) (x:Oper) (b:Log) (i:Nat):List Oper->List Log->List Nat->Bool
 |o::os,l::ls,m::ms=>(m.testBit i||indep all x o b l)&&zJ all x b i os ls ms
 |_,_,_=>å
def zK (all:Array Oper):Nat->List Oper->List Log->List Nat->Bool
 |i,o::os,l::ls,_::ms=>Gx i o&&zJ all o l i os ls ms&&zK all (i+1) os ls ms
 |_,_,_,_=>å
def pA (ops:Array Oper) (b:List Log):Bool:=zK ops 0 ops.toList b (ky ops.toList [])
def adS (ops:List Oper):Option Nat:=
 cond (ops.any fun o=>o.guard.isSome) ((ops.getLast?).bind (·.dst)) â
def qU (st:St) (b:List Log):Bool:=
 b.all fun l=>l.wr.all fun n=>cond (Â (n%2) 0) (st.boxes (n/2)).isNone (st.ar (n/2)).bj.isNone
def iK (st:St):List Oper->St
 | []=>st
 |o::rest=>match o.dst with
  |some d=>iK {st with tmps:=aS st.tmps d (.one .undef)} rest
  |none=>iK st rest
inductive CK where
 |undef
 |bool
 |int (k:IntKind)
 |str
 |er
 |sh (c:CT)
 |own (c:CT)
 |nl
 |al (m:Nat)
 |gs (m:Nat) (c:CT)
 |pb (b off:Nat)
 |ff
 |fE
 |fn (f:FuncId) (fst adP:List CK)
inductive bg where
 |one (k:CK)
 |agg (ks:List CK)
 |aM (vs:List bg)
instance:Inhabited bg:=⟨.one .undef⟩
structure cG where
 tmps:List (Nat×bg)
 boxes:List (Nat×List CK)
abbrev bK:List CT->Type
 | []=>Unit
 | [c]=>Interp c
 |c::d::cs=>Interp c×bK (d::cs)
def eI:(bu:List CT)->List DV->Option (bK bu)
 | [],[]=>ã ()
 | [c],[d]=>dW d.c c d.x
 |c::b::cs,d::ds=>(dW d.c c d.x).bind fun x=>(eI (b::cs) ds).bind fun y=>ã (x,y)
 |_,_=>â
def lg:(bu:List CT)->bK bu->List DV
 | [],_=>[]
 | [c],x=>[⟨c,x⟩]
 |c::d::cs,x=>⟨c,x.1⟩::lg (d::cs) x.2
structure CS where
 dv:List DV
 used:List (Nat×Nat×Nat×Nat)
 bm:List (Nat×Nat)
 jM:Bool
 cj:List Nat
def CS.push (s:CS) (d:DV):CS:={s with dv:=d::s.dv}
def look (m:Nat):List (Nat×Nat)->Option Nat
 | []=>â
 |(a,b)::r=>cond (Â a m) (ã b) (look m r)
def vE (b:Nat):List (Nat×Nat)->Bool
 | []=>ä
 |(_,y)::r=>Â y b||vE b r
def lX (m n v wv:Nat):List (Nat×Nat×Nat×Nat)->Bool
 | []=>ä
 |(a,b,c,d)::r=>(Â a m&&(Â b n&&(Â c v&&Â d wv)))||lX m n v wv r
def vF (m n v:Nat):List (Nat×Nat×Nat×Nat)->Bool
 | []=>ä
 |(a,b,c,_)::r=>(Â a m&&(Â b n&&Â c v))||vF m n v r
section
variable {β:Type}
mutual
def ei (nm:Nat):CK->Cell->CS->(CS->M β)->M β
 |.undef,_,s,k=>k s
 |.bool,.b x,s,k=>k (s.push ⟨.bool,x⟩)
 |.int h,.i p n,s,k=>.gd (á (h=p)) (k (s.push ⟨.int h,vv h n⟩))
 |.str,.s x,s,k=>k (s.push ⟨.str,x⟩)
 |.er,.er x,s,k=>k (s.push ⟨.bool,x⟩)
 |.sh c,.ob n v vw,s,k=>.gd s.jM (fv (.ob n v vw) .fail fun d x=>.opt (dW d c x) fun y=>k {s.push ⟨c,y⟩with cj:=n::s.cj})
 |.sh c,.gs n v wv pl d x,s,k=>.gd s.jM (fv (.gs n v wv pl d x) .fail fun d x=>.opt (dW d c x) fun y=>k {s.push ⟨c,y⟩with cj:=n::s.cj})
 |.sh c,v,s,k=>fv v (.gd (bP c) (k (s.push ⟨c,eh c⟩))) fun d x=>.opt (dW d c x) fun y=>k (s.push ⟨c,y⟩)
 |.own c,.nl,s,k=>.gd (bP c) (k (s.push ⟨c,eh c⟩))
 |.own c,.z0,s,k=>.gd (bP c) (k (s.push ⟨c,eh c⟩))
 |.own c,.ob n v vw,s,k=>.ro n fun o=>mV c (.ob n v vw) fun y=>k {s.push ⟨c,y⟩with used:=cond vw.isNone ((nm,n,v,o.wv)::s.used) s.used}
 |.own c,.gs n v wv pl d x,s,k=>mV c (.gs n v wv pl d x) fun y=>k (s.push ⟨c,y⟩)
 |.nl,.nl,s,k=>k s
 |.al m,.ob n v â,s,k=>.gd (vF m n v s.used) (k s)
 |.gs m c,.gs n v wv _ d x,s,k=>.gd (lX m n v wv s.used) (.opt (dW d c x) fun y=>k (s.push ⟨c,y⟩))
 |.pb m off,.pb b g,s,k=>.gd (Â off g) (match look m s.bm with
  |some b'=>.gd (Â b b') (k s)
  |none=>.gd (!vE b s.bm) (k {s with bm:=(m,b)::s.bm}))
 |.ff,.ff,s,k=>k s
 |.fE,.fE,s,k=>k s
 |.fn f a b,.fn q r b',s,k=>.gd (Â f q) (lh (fun _=>0) 0 a r s fun s=>lh (fun _=>0) 0 b b' s k)
 |_,_,_,_=>.fail
def lh (nm:Nat->Nat):Nat->List CK->List Cell->CS->(CS->M β)->M β
 |_,[],[],s,k=>k s
 |j,c::cs,v::vs,s,k=>ei (nm j) c v s fun s=>lh nm (j+1) cs vs s k
 |_,_,_,_,_=>.fail
end
def gN (nm:Nat->Nat):Nat->List bg->List TV->CS->(CS->M β)->M β
 |_,[],[],s,k=>k s
 |j,.one .undef::cs,_::vs,s,k=>gN nm (j+1) cs vs s k
 |j,.one c::cs,.one v::vs,s,k=>ei (nm j) c v s fun s=>gN nm (j+1) cs vs s k
 |j,.agg ks::cs,.agg v::vs,s,k=>lh nm j ks v s fun s=>gN nm (j+ks.length) cs vs s k
 |_,_,_,_,_=>.fail
def jN (nm:Nat->Nat):bg->TV->CS->(CS->M β)->M β
 |.one .undef,_,s,k=>k s
 |.one c,.one v,s,k=>ei (nm 0) c v s k
 |.agg cs,.agg vs,s,k=>lh nm 0 cs vs s k
 |.aM cs,.aM vs,s,k=>gN nm 0 cs vs s k
 |_,_,_,_=>.fail
def vG:Nat->List bg->List TV->CS->(CS->M β)->M β
 |_,[],[],s,k=>k s
 |t,c::cs,v::vs,s,k=>jN (ft t) c v s fun s=>vG (t+1) cs vs s k
 |_,_,_,_,_=>.fail
def vH:List (Nat×List CK)->CS->(CS->M β)->M β
 | [],s,k=>k s
 |(m,ks)::rest,s,k=>match look m s.bm with
  |some b=>.rb b fun cs=>lh (pk m) 0 ks cs s fun s=>vH rest s k
  |none=>.fail
def vJ:List CK->List Cell->CS->(CS->M β)->M β
 |.pb m off::ks,v::vs,s,k=>ei 0 (.pb m off) v s fun s=>vJ ks vs s k
 |_::ks,_::vs,s,k=>vJ ks vs s k
 |_,_,s,k=>k s
def Gy:List (Nat×List CK)->CS->(CS->M β)->M β
 | [],s,k=>k s
 |(m,ks)::rest,s,k=>Gy rest s fun s=>match look m s.bm with
  |some b=>.rb b fun cs=>vJ ks cs s k
  |none=>k s
mutual
def fQ (nm:Nat):CK->List DV->(Cell->List DV->M β)->M β
 |.undef,ds,k=>k .undef ds
 |.bool,d::ds,k=>.opt (dW d.c .bool d.x) fun x=>k (.b x) ds
 |.int g,d::ds,k=>.opt (dW d.c (.int g) d.x) fun x=>k (.i g (kr g x)) ds
 |.str,d::ds,k=>.opt (dW d.c .str d.x) fun x=>k (.s x) ds
 |.er,d::ds,k=>.opt (dW d.c .bool d.x) fun x=>k (.er x) ds
 |.sh c,d::ds,k=>.opt (dW d.c c d.x) fun x=>k (.sh c x) ds
 |.own c,d::ds,k=>.opt (dW d.c c d.x) fun x=>gm nm c x fun v=>k v ds
 |.nl,ds,k=>k .nl ds
 |.al m,ds,k=>.ro m fun o=>.gd (o.bj.isSome&&Â o.aH 1) (k (.ob m 1 â) ds)
 |.gs m c,d::ds,k=>.opt (dW d.c c d.x) fun x=>.ro m fun o=>.gd (o.bj.isSome&&(Â o.aH 1&&Â o.wv 0)) (k (.gs m 1 0 â c x) ds)
 |.pb b off,ds,k=>.rb b fun _=>k (.pb b off) ds
 |.ff,ds,k=>k .ff ds
 |.fE,ds,k=>k .fE ds
 |.fn f a b,ds,k=>mX (fun _=>0) 0 a ds fun xs ds=>mX (fun _=>0) 0 b ds fun h ds=>k (.fn f xs h) ds
 |_,[],_=>.fail
def mX (nm:Nat->Nat):Nat->List CK->List DV->(List Cell->List DV->M β)->M β
 |_,[],ds,k=>k [] ds
 |j,c::cs,ds,k=>fQ (nm j) c ds fun v ds=>mX nm (j+1) cs ds fun vs ds=>k (v::vs) ds
end
def qV (nm:Nat->Nat):Nat->List bg->List DV->(List TV->List DV->M β)->M β
 |_,[],ds,k=>k [] ds
 |j,.one c::vs,ds,k=>fQ (nm j) c ds fun v ds=>qV nm (j+1) vs ds fun r ds=>k (.one v::r) ds
 |j,.agg cs::vs,ds,k=>mX nm j cs ds fun v ds=>qV nm (j+cs.length) vs ds fun r ds=>k (.agg v::r) ds
 |_,.aM _::_,_,_=>.fail
def sV (nm:Nat->Nat):bg->List DV->(TV->List DV->M β)->M β
 |.one c,ds,k=>fQ (nm 0) c ds fun v ds=>k (.one v) ds
 |.agg cs,ds,k=>mX nm 0 cs ds fun v ds=>k (.agg v) ds
 |.aM vs,ds,k=>qV nm 0 vs ds fun r ds=>k (.aM r) ds
mutual
def jO (bm:List (Nat×Nat)):CK->CK
 |.pb m off=>match look m bm with
  |some b=>.pb b off
  |none=>.undef
 |.fn f a b=>.fn f (nW bm a) (nW bm b)
 |k=>k
def nW (bm:List (Nat×Nat)):List CK->List CK
 | []=>[]
 |k::ks=>jO bm k::nW bm ks
end
def qW:List (Nat×List CK)->List (List CK)->List (Nat×Nat)->List DV->M β->M β
 | [],[],_,_,k=>k
 |(m,_)::bx,ks::rest,bm,ds,k=>match look m bm with
  |some b=>mX (pk b) 0 (nW bm ks) ds fun cs ds=>.wb b cs (qW bx rest bm ds k)
  |none=>.fail
 |_,_,_,_,_=>.fail
end
structure Entry where
 f:FuncId
 fn:Func
 ins:List bg
 bx:List (Nat×List CK)
 outs:bg
 bH:List (List CK)
 loops:List (Nat×cG×cG×List CT)
 cH:List Nat
 bz:List CT
 bT:Option (List DV->Option (bK bz))
 back:Option Nat:=â
 lj:Bool:=false
mutual
def vK:CK->Bool
 |.sh _=>å
 |.fn _ a b=>qX a||qX b
 |_=>ä
def qX:List CK->Bool
 | []=>ä
 |c::cs=>vK c||qX cs
end
mutual
def pB:bg->Bool
 |.one c=>vK c
 |.agg cs=>qX cs
 |.aM vs=>vL vs
def vL:List bg->Bool
 | []=>ä
 |c::cs=>pB c||vL cs
end
def zL:List (List CK)->Bool
 | []=>ä
 |ks::r=>qX ks||zL r
mutual
def Qf:CK->Cell->Bool
 |.undef,_=>å
 |.bool,.b _=>å
 |.int k,.i k' _=>á (k=k')
 |.str,.s _=>å
 |.er,.er _=>å
 |.sh _,.sh _ _=>å
 |.sh _,.lU _ _=>å
 |.sh _,.nl=>å
 |.sh _,.z0=>å
 |.sh _,.ob _ _ _=>å
 |.sh _,.gs _ _ _ _ _ _=>å
 |.own _,.ob _ _ _=>å
 |.own _,.nl=>å
 |.own _,.z0=>å
 |.nl,.nl=>å
 |.pb _ off,.pb _ d=>Â off d
 |.ff,.ff=>å
 |.fE,.fE=>å
 |.fn f a b,.fn g h b'=>Â f g&&(vM a h&&vM b b')
 |_,_=>ä
def vM:List CK->List Cell->Bool
 | [],[]=>å
 |c::cs,v::vs=>Qf c v&&vM cs vs
 |_,_=>ä
end
def adT:bg->TV->Bool
 |.one .undef,_=>å
 |.one c,.one v=>Qf c v
 |.agg cs,.agg vs=>vM cs vs
 |_,_=>ä
def Qg:List bg->List TV->Bool
 | [],[]=>å
 |c::cs,v::vs=>adT c v&&Qg cs vs
 |_,_=>ä
def Qh (m:Nat):List (Nat×List CK)->Option (List CK)
 | []=>â
 |(a,g)::r=>cond (Â a m) (ã g) (Qh m r)
def Gz (bx:List (Nat×List CK)):List bg->List (List Cell)->Bool
 |.one (.pb m _)::ins,cs::r=>(match Qh m bx with|some ks=>vM ks cs|none=>å)&&Gz bx ins r
 |_::ins,_::r=>Gz bx ins r
 |_,_=>å
def Qi (tab:Nat->Entry) (args:List TV) (b:List (List Cell)):List Nat->Option Nat
 | []=>â
 |e::es=>cond (Qg (tab e).ins args&&Gz (tab e).bx (tab e).ins b) (ã e) (Qi tab args b es)
def qY {α:Type}:List TV->(List (List Cell)->M α)->M α
 | [],k=>k []
 |.one (.pb b _)::vs,k=>.rb b fun cs=>qY vs fun r=>k (cs::r)
 |_::vs,k=>qY vs fun r=>k ([]::r)
def alive {α:Type}:List Nat->M α->M α
 | [],k=>k
 |n::r,k=>.ro n fun o=>.gd o.bj.isSome (alive r k)
def qZ:List DV->List DV->List DV
 | [],b=>b
 |x::xs,b=>qZ xs (x::b)
def vN {α:Type} (f:Nat->Nat):Nat->M α->M α
 |0,k=>k
 |j+1,k=>.ro (f j) fun o=>match o.bj with
  |none=>vN f j k
  |some _=>.wo (f j) ⟨o.aH,o.wv+1,â⟩ (vN f j k)
def vO {α:Type}:List (Nat×List CK)->List (Nat×Nat)->M α->M α
 | [],_,k=>k
 |(m,ks)::r,bm,k=>match look m bm with
  |some b=>vN (pk b) ks.length (vO r bm k)
  |none=>vO r bm k
def vP {β:Type} (tab:Nat->Entry) (D:(e:Nat)->List DV->Option (bK (tab e).bz)) (e:Nat) (args:List TV) (d:Nat) (K:TV->M β):M β:=
  vG 0 (tab e).ins args ⟨[],[],[],å,[]⟩ fun s=>
  Gy (tab e).bx s fun s=>
  vH (tab e).bx {s with dv:=[]} fun s'=>
  vO (tab e).bx s'.bm<|
  .gd (s'.cj.isEmpty|| !(pB (tab e).outs||zL (tab e).bH))<|
  alive s'.cj<|
  .opt (D e (qZ s'.dv (qZ s.dv []))) fun r=>
  sV (ft d) (tab e).outs (lg (tab e).bz r) fun v ds=>
  qW (tab e).bx (tab e).bH s'.bm ds (K v)
def GA (n v wv:Nat) (d0:DV) (r:TV):M TV:=
 match r with
 |.one c=>mV d0.c c fun x=>.gd (Â (aF d0.c x) (aF d0.c d0.x))<| .ro n fun o=>.gd o.bj.isNone<| .wo n ⟨v,wv+1,ã ⟨d0.c,x⟩⟩ (.ret (.aM []))
 |_=>.fail
def Qj (d:Nat):TV->M TV
 |.agg cs=>.nb d cs (.ret (.one (.pb d 0)))
 |_=>.fail
def ra (tab:Nat->Entry) (iL:FuncId->List Nat) (D:(e:Nat)->List DV->Option (bK (tab e).bz)) (f:FuncId) (args:List TV) (d:Nat):M TV:=
 qY args fun b=>
 match Qi tab args b (iL f)with
 |none=>.fail
 |some e=>
  .gd (Â (tab e).f f)<|
  match(tab e).back with
  |none=>match(tab e).lj with
   |false=>vP tab D e args d .ret
   |true=>vP tab D e args d (Qj d)
  |some t=>match args[t]? with
   |some (.one (.ob n v â))=>.ro n fun o=>match o.bj with
    |some d0=>.gd (Â v o.aH) (vP tab D e args d (GA n v o.wv d0))
    |none=>.fail
   |_=>.fail
def eG:St:=⟨fun _=>.one .undef,fun _=>â,fun _=>⟨0,0,â⟩⟩
def pC:List (Nat×List CK)->List (Nat×Nat)
 | []=>[]
 |(b,_)::r=>(b,b)::pC r
section
variable {R:Type}
def GB {β:Type} (tmps:Nat->TV):List (Nat×bg)->CS->(CS->M β)->M β
 | [],s,k=>k s
 |(t,c)::rest,s,k=>jN (ft t) c (tmps t) s fun s=>GB tmps rest s k
def Qk {β:Type} (g:cG) (tmps:Nat->TV) (k:List DV->M β):M β:=
 vH g.boxes ⟨[],[],pC g.boxes,ä,[]⟩ fun s=>GB tmps g.tmps s fun s=>k (qZ s.dv [])
def vQ {β:Type}:List (Nat×bg)->(Nat->TV)->List DV->((Nat->TV)->M β)->M β
 | [],f,_,k=>k f
 |(t,c)::rest,f,ds,k=>sV (ft t) c ds fun v ds=>vQ rest (aS f t v) ds k
def vR {β:Type}:List (Nat×List CK)->List DV->(List DV->M β)->M β
 | [],ds,k=>k ds
 |(b,ks)::rest,ds,k=>mX (pk b) 0 ks ds fun cs ds=>.nb b cs (vR rest ds k)
def GC {β:Type} (g:cG) (ds:List DV) (k:(Nat->TV)->M β):M β:=
 vR g.boxes ds fun ds=>vQ g.tmps (fun _=>.one .undef) ds k
def re (g:cG) (st:St) (K:List DV->Option R):Option R:=
 (Qk g st.tmps fun ds=>.ret ds).go st .none fun ds _ _=>K ds
def sW (g:cG) (ds:List DV) (K:St->Option R):Option R:=
 (GC g ds fun f=>.ret f).go eG .none fun f st _=>K {st with tmps:=f}
end
structure Ks (F R:Type) where
 iM:St->Option R
 exit:Nat->St->Option R
 ret:St->Option R
 fin:F->Option R
def iter {X:Type} (id:Nat) (f:(List DV->Option X)->List DV->Option X):Nat->List DV->Option X
 |0=>fun _=>â
 |n+1=>fun ds=>f (iter id f n) ds
def aq {X Y R:Type} (r:Sum X Y) (f:X->Option R) (g:Y->Option R):Option R:=
 match r with
 |.inl x=>f x
 |.inr y=>g y
def vT (id:Nat):List (Nat×cG×cG×List CT)->Option (cG×cG×List CT)
 | []=>â
 |(a,g)::r=>cond (Â a id) (ã g) (vT id r)
section
variable (T:TypeId→Option TyI) (call:FuncId→List TV→Nat→M TV) (e:Entry) (n:Nat)
def rf:List ResultVar->St->(List TV->M (List DV))->M (List DV)
 | [],_,k=>k []
 |.tmp t::r,st,k=>rf r st fun vs=>k (st.tmps t::vs)
 |.cell a ty::r,st,k=>match T ty with
  |some i=>match st.tmps a with
   |.one (.pb b off)=>.rb b fun cs=>.gd (Ê (off+i.size) cs.length) (rf r st fun vs=>k (lV (match i.u with|.struct _=>å|_=>ä) (sub cs off i.size)::vs))
   |_=>.fail
  |none=>.fail
def pD:List (Nat×List CK)->List (List CK)->CS->(CS->M (List DV))->M (List DV)
 | [],[],s,k=>k s
 |(m,_)::bx,ks::rest,s,k=>.rb m fun cs=>lh (pk m) 0 ks cs s fun s=>pD bx rest s k
 |_,_,_,_=>.fail
def zM (vs:List TV):TV:=
 match vs with
 | [v]=>v
 |vs=>.aM vs
def rh:List ResultVar:=
 match e.back with
 |some t=>[.tmp t]
 |none=>[]
def GD (vs:List TV) (k:TV->M (List DV)):M (List DV):=
 match e.lj with
 |false=>k (zM vs)
 |true=>match vs with
  | [.one (.pb b 0)]=>.rb b fun cs=>k (.agg cs)
  |_=>.fail
def pE (bx:List (Nat×List CK)):List (Nat×Nat):=bx.map fun p=>(p.1,p.1)
def Ql (st:St):M (List DV):=
 rf T (e.fn.results.toList++rh e) st fun vs=>
 GD e vs fun v=>
 jN (ft 9000) e.outs v ⟨[],[],pE e.bx,ä,[]⟩ fun s=>
 pD e.bx e.bH s fun s=>.ret (qZ s.dv [])
def ri {R:Type} (ks:Ks (bK e.bz) R) (st:St):Option R:=
 (Ql T e st).go st .none fun ds _ _=>(eI e.bz ds).bind ks.fin
def eH:Code->{R:Type}->St->Ks (bK e.bz) R->Option R
 |.skip,_,st,ks=>ks.iM st
 |.region id ops draw,_,st,ks=>
  match cond (e.cH.elem id) â (adS ops.toList)with
  |some t=>(qS (dq T call) ops ops.toList st [] fun st' ls=>
    cond (qU st ls&&(!draw||pA ops ls.reverse)) (match st'.tmps t with|.one (.b x)=>ã x|_=>â) â).bind fun x=>
    ks.iM (know (iK st ops.toList) t x)
  |none=>qS (dq T call) ops ops.toList st [] fun st' ls=>cond (!draw||pA ops ls.reverse) (ks.iM st') â
 |.seq a b,_,st,ks=>eH a st {ks with iM:=fun st=>eH b st ks}
 |.cond c a b,_,st,ks=>match c with
  |.tmp t=>match st.tmps t with
   |.one (.b x)=>cond x (eH a (know st t å) ks) (eH b (know st t ä) ks)
   |_=>â
  |_=>â
 |.block id (.loop body),_,st,ks=>match vT id e.loops with
  |some (g,h,d)=>re g st fun ds=>
   (iter (X:=Sum (bK d) (bK e.bz)) id (fun self ds=>sW g ds fun st=>eH body st
    ⟨fun st=>re g st self,fun i st=>cond (Â i id) (re h st fun ds=>(eI d ds).bind fun x=>ã (.inl x)) â,
     fun st=>ri T e ⟨fun _=>â,fun _ _=>â,fun _=>â,fun r=>ã (.inr r)⟩ st,fun r=>ã (.inr r)⟩) n ds).bind fun r=>
   aq r (fun x=>sW h (lg d x) ks.iM) ks.fin
  |none=>â
 |.block id c,_,st,ks=>eH c st {ks with exit:=fun i st=>cond (Â i id) (ks.iM st) (ks.exit i st)}
 |.exit id,_,st,ks=>ks.exit id st
 |.ret,_,st,ks=>ks.ret st
 |_,_,_,_=>â
def Qm:Ks (bK e.bz) (bK e.bz) where
 iM:=fun st=>ri T e ⟨fun _=>â,fun _ _=>â,fun _=>â,ã⟩ st
 exit:=fun _ _=>â
 ret:=fun st=>ri T e ⟨fun _=>â,fun _ _=>â,fun _=>â,ã⟩ st
 fin:=ã
def jk:Nat->List bg->List (Nat×bg)
 |_,[]=>[]
 |t,v::vs=>(t,v)::jk (t+1) vs
def GF (ds:List DV):Option (bK e.bz):=
 match e.fn.body with
 |some c=>sW ⟨jk 0 e.ins,e.bx⟩ ds fun st=>eH T call e n c st (Qm T e)
 |none=>â
end
def D (T:TypeId->Option TyI) (tab:Nat->Entry) (iL:FuncId->List Nat):Nat->(e:Nat)->List DV->Option (bK (tab e).bz)
 |0,_,_=>â
 |n+1,e,ds=>match(tab e).bT with
  |some p=>p ds
  |none=>GF T (ra tab iL (D T tab iL n)) (tab e) n ds
end Go.Ev
namespace Go.Ev
structure Asg where
 bx:Nat->Nat
 ob:Nat->Value
 fp:Nat->List Nat
def Qn (H:Heap) (fp:List Nat) (hd:Value) (d:DV) (i j:Nat) (c:CT) (x:Interp c) (v:Value):Prop:=
 ∃e g len cap cur ty frz,kY d.c d.x i=ã e/\(bI (ay d.c) e)[j]? =ã (enc c x)/\hd=.slice (ã ⟨g,0,â⟩) len cap/\g∈fp/\H g=ã (.cells cur ty frz)/\
  cur.toList[i*(ay d.c).size+j]? =ã v
def sX (H:Heap) (R:Nat->Prop) (ts:aR) (x:bc ts) (off:Nat) (v:Value):Prop:=
 ∃g o cur ty frz,v=.pointer (ã ⟨g,o+off,â⟩)/\R g/\H g=ã (.cells cur ty frz)/\o+ts.size<=cur.size/\az H R ä (bI ts x) ((cur.toList.drop o).take ts.size) []
mutual
def aB (H:Heap) (R:Nat->Prop) (st:St) (θ:Asg):Cell->Value->Prop
 |.undef,_=>True
 |.b x,v=>v=.bool x
 |.i k n,v=>v=.int k n/\(k.min<=n/\n<=k.max)
 |.s x,v=>v=.string ⟨x.toArray⟩/\x.length<=maxLen
 |.sh c x,v=>bP c=å/\aE H R ä (enc c x) v []
 |.lU c x,v=>bP c=å/\aE H R ä (enc c x) v []/\ ∃a l m,v=.slice (ã a) l m
 |.nl,v=>v=.slice â 0 0
 |.z0,v=> ∃a,v=.slice a 0 0
 |.ob k aH vw,v=>aH<=(st.ar k).aH/\(aH=(st.ar k).aH->(st.ar k).bj.isSome=å->
   match vw with
   |none=>v=θ.ob k
   |some n=> ∃a len cap,θ.ob k=.slice a len cap/\v=.slice a n cap)
 |.gs k aH wv pl c x,v=>bP c=å/\aH<=(st.ar k).aH/\(aH=(st.ar k).aH->wv<=(st.ar k).wv/\(wv=(st.ar k).wv-> ∀d,(st.ar k).bj=ã d->
   aE H (fun b=>b∈θ.fp k) ä (enc c x) v []/\ ∀i j,pl=ã (i,j)->Qn H (θ.fp k) (θ.ob k) d i j c x v))
 |.ff,v=>v=.pointer â
 |.pb b off,v=>(st.boxes b).isSome=å/\v=.pointer (ã ⟨θ.bx b,off,â⟩)
 |.pe k aH i off,v=>(∃g o,v=.pointer (ã ⟨g,o,â⟩))/\aH<=(st.ar k).aH/\(aH=(st.ar k).aH-> ∀d,(st.ar k).bj=ã d->
   ∃g len cap,θ.ob k=.slice (ã ⟨g,0,â⟩) len cap/\i<aF d.c d.x/\v=.pointer (ã ⟨g,i*(ay d.c).size+off,â⟩))
 |.pr ts x off,v=>sX H R ts x off v
 |.pg k aH wv ts x off,v=>(∃g o,v=.pointer (ã ⟨g,o,â⟩))/\aH<=(st.ar k).aH/\(aH=(st.ar k).aH->wv<=(st.ar k).wv/\(wv=(st.ar k).wv->(st.ar k).bj.isSome=å->sX H (fun b=>b∈θ.fp k) ts x off v))
 |.fE,v=>v=.nilFunc
 |.fn f a b,v=> ∃p vb,v=.func (.func f) p vb/\aJ H R st θ a p.toList/\aJ H R st θ b vb.toList
 |.er x,v=>(x=ä/\v=.nilIface)\/(x=å/\ ∃t u,v=.iface t u)
def aJ (H:Heap) (R:Nat->Prop) (st:St) (θ:Asg):List Cell->List Value->Prop
 | [],vs=>vs=[]
 |c::cs,vs=> ∃v h,vs=v::h/\(aB H R st θ c v/\cx v=å)/\aJ H R st θ cs h
end
mutual
def aV (H:Heap) (R:Nat->Prop) (st:St) (θ:Asg):TV->Value->Prop
 |.one c,v=>aB H R st θ c v/\(c=.undef\/cx v=å)
 |.agg cs,v=> ∃arr,v=.agg arr/\aJ H R st θ cs arr.toList
 |.aM vs,v=> ∃arr,v=.tuple arr/\ch H R st θ vs arr.toList
def ch (H:Heap) (R:Nat->Prop) (st:St) (θ:Asg):List TV->List Value->Prop
 | [],vs=>vs=[]
 |c::cs,vs=> ∃v b,vs=v::b/\aV H R st θ c v/\ch H R st θ cs b
end
structure Step (R:Nat->Prop) (st:St) (θ:Asg) (H:Heap) (st':St) (θ':Asg) (H':Heap):Prop where
 rd: ∀b,R b->H' b=H b
 bx: ∀b,(st.boxes b).isSome=å->(st'.boxes b).isSome=å/\θ'.bx b=θ.bx b
 ob: ∀k,(st'.ar k=st.ar k/\((st.ar k).bj.isSome=å->θ'.ob k=θ.ob k/\θ'.fp k=θ.fp k/\ ∀g,g∈θ.fp k->H' g=H g))\/
  (st.ar k).aH<(st'.ar k).aH\/
  ((st'.ar k).aH=(st.ar k).aH/\(st.ar k).wv<(st'.ar k).wv/\(st.ar k).bj.isSome=å/\
   ∀d',(st'.ar k).bj=ã d'->θ'.ob k=θ.ob k/\ ∃d,(st.ar k).bj=ã d/\d'.c=d.c/\aF d'.c d'.x=aF d.c d.x)
theorem Step.refl (R:Nat->Prop) (st:St) (θ:Asg) (H:Heap):Step R st θ H st θ H:=
 ⟨fun _ _=>rfl,fun _ h=>⟨h,rfl⟩,fun _=>.inl ⟨rfl,fun _=>⟨rfl,rfl,fun _ _=>rfl⟩⟩⟩
theorem Step.trans {R:Nat->Prop} {st st' d:St} {θ θ' f:Asg} {H H' g:Heap} (s:Step R st θ H st' θ' H') (t:Step R st' θ' H' d f g):Step R st θ H d f g:=by
 refine⟨fun b h=>(t.rd b h).trans (s.rd b h),fun b h=> ?_,fun k=> ?_⟩
 .obtain⟨j,z⟩:=s.bx b h
  obtain⟨h3,h4⟩:=t.bx b j;simp_all
 .rcases s.ob k with⟨e,ho⟩|m|⟨m,hw,hd,hl⟩<;>rcases t.ob k with⟨e',p⟩|i|⟨i,q,r,u⟩
  all_goals grind
section
variable {R:Nat→Prop} {st st':St} {θ θ':Asg} {H H':Heap}
theorem sX.frame {R R':Nat->Prop} {ts:aR} {x:bc ts} {off:Nat} {v:Value} (h:sX H R ts x off v) (d: ∀b,R b->H' b=H b) (f: ∀b,R b->R' b):sX H' R' ts x off v:=by
 obtain⟨g,o,cur,ty,frz,j,i,k,m,p⟩:=h;exact⟨g,o,cur,ty,frz,j,f g i,(d g i).trans k,m,p.frame (fun b q=>d b (q.resolve_left Ż)) f⟩
mutual
theorem aB.step (s:Step R st θ H st' θ' H'): ∀(c:Cell) (v:Value),aB H R st θ c v->aB H' R st' θ' c v
 |.undef,_,_=>trivial
 |.b _,_,h=>ŵ
 |.i _ _,_,h=>ŵ
 |.s _,_,h=>ŵ
 |.sh _ _,_,h=>by
  simp only [aB]at h |-;exact⟨h.1,h.2.frame (fun b z=>s.rd b (z.resolve_left Ż)) (fun _ h=>h)⟩
 |.lU _ _,_,h=>by
  simp only [aB]at h |-;exact⟨h.1,h.2.1.frame (fun b z=>s.rd b (z.resolve_left Ż)) (fun _ h=>h),h.2.2⟩
 |.nl,_,h=>ŵ
 |.z0,_,h=>ŵ
 |.ob k aH vw,v,h=>by
  simp only [aB]at h |-;obtain⟨p,m⟩:=h;rcases s.ob k with⟨e,t⟩|q|⟨q, -,hd,hl⟩
  .rw [e]
   refine⟨p,fun a b=> ?_⟩
   rw [(t b).1];exact m a b
  .exact⟨ž,fun a=>ž⟩
  .rw [q]
   refine⟨p,fun a b=> ?_⟩
   obtain⟨d',u⟩:=Á.1 b;rw [(hl d' u).1];exact m a hd
 |.gs k aH wv pl c x,v,h=>by
  simp only [aB]at h |-;obtain⟨r,p,m⟩:=h;rcases s.ob k with⟨e,t⟩|q|⟨q,hw,hd,hl⟩
  .rw [e]
   refine⟨r,p,fun a=>⟨(m a).1,fun b d hd=> ?_⟩⟩
   obtain⟨g1,g2,g3⟩:=t š
   obtain⟨q1,q2⟩:=(m a).2 b d hd;rw [g2,g1];refine⟨q1.frame (fun b z=>g3 b (z.resolve_left Ż)) (fun _ h=>h),fun i j af=> ?_⟩
   obtain⟨e1,g,len,cap,cur,ty,frz,k1,k2,k3,kg,k4,k5⟩:=q2 i j af;exact⟨e1,g,len,cap,cur,ty,frz,k1,k2,k3,kg,(g3 g kg).trans k4,k5⟩
  .exact⟨r,ž,fun a=>ž⟩
  .rw [q]
   exact⟨r,p,fun a=>⟨ě,fun b=>ě⟩⟩
 |.ff,_,h=>ŵ
 |.pb b off,v,h=>by
  simp only [aB]at h |-;obtain⟨p,m⟩:=h;obtain⟨g1,g2⟩:=s.bx b p;exact⟨g1,by rw [g2];exact m⟩
 |.pe k aH i off,v,h=>by
  simp only [aB]at h |-;obtain⟨r,p,m⟩:=h;rcases s.ob k with⟨e,t⟩|q|⟨q, -,hd,hl⟩
  .rw [e]
   refine⟨r,p,fun a d hd=> ?_⟩
   rw [(t š).1]
   exact m a d hd
  .exact⟨r,ž,fun a=>ž⟩
  .rw [q]
   refine⟨r,p,fun a d' u=> ?_⟩
   obtain⟨t,d,hd,hc,hlen⟩:=hl d' u;rw [t];obtain⟨g,len,cap,k1,k2,k3⟩:=m a d hd;exact⟨g,len,cap,k1,ž,by rw [hc];exact k3⟩
 |.pr ts x off,v,h=>by
  simp only [aB]at h |-;exact h.frame s.rd (fun _ h=>h)
 |.pg k aH wv ts x off,v,h=>by
  simp only [aB]at h |-;obtain⟨r,p,m⟩:=h;rcases s.ob k with⟨e,t⟩|q|⟨q,hw,hd,hl⟩
  .rw [e]
   refine⟨r,p,fun a=>⟨(m a).1,fun b hd=> ?_⟩⟩
   obtain⟨g1,g2,g3⟩:=t hd;rw [g2];exact((m a).2 b hd).frame g3 (fun _ h=>h)
  .exact⟨r,ž,fun a=>ž⟩
  .rw [q]
   exact⟨r,p,fun a=>⟨ě,fun b=>ě⟩⟩
 |.fE,_,h=>ŵ
 |.fn f a b,v,h=>by
  simp only [aB]at h |-;obtain⟨va,vb,rfl,p,m⟩:=h;exact⟨va,vb,rfl,aJ.step s a _ p,aJ.step s b _ m⟩
 |.er _,_,h=>ŵ
theorem aJ.step (s:Step R st θ H st' θ' H'): ∀(cs:List Cell) (vs:List Value),aJ H R st θ cs vs->aJ H' R st' θ' cs vs
 | [],_,h=>by simpa only [aJ]using h
 |c::cs,vs,h=>by
  simp only [aJ]at h |-;obtain⟨v,ae,rfl,p,m⟩:=h;exact⟨v,ae,rfl,⟨aB.step s c v p.1,p.2⟩,aJ.step s cs ae m⟩
end
mutual
theorem aV.step (s:Step R st θ H st' θ' H'): ∀(c:TV) (v:Value),aV H R st θ c v->aV H' R st' θ' c v
 |.one c,v,h=>by
  simp only [aV]at h |-;exact⟨aB.step s c v h.1,h.2⟩
 |.agg cs,v,h=>by
  simp only [aV]at h |-;obtain⟨arr,rfl,h⟩:=h;exact⟨arr,rfl,aJ.step s _ _ h⟩
 |.aM vs,v,h=>by
  simp only [aV]at h |-;obtain⟨arr,rfl,h⟩:=h;exact⟨arr,rfl,ch.step s _ _ h⟩
theorem ch.step (s:Step R st θ H st' θ' H'): ∀(cs:List TV) (vs:List Value),ch H R st θ cs vs->ch H' R st' θ' cs vs
 | [],_,h=>by simpa only [ch]using h
 |c::cs,vs,h=>by
  simp only [ch]at h |-;obtain⟨v,b,rfl,d,f⟩:=h;exact⟨v,b,rfl,aV.step s c v d,ch.step s cs b f⟩
end
end
theorem aJ.length {R:Nat->Prop} {st:St} {θ:Asg} {H:Heap}: ∀ {cs:List Cell} {vs:List Value},aJ H R st θ cs vs->cs.length=vs.length
 | [],vs,h=>by simp_all [aJ]
 |c::cs,vs,h=>by
  obtain⟨v,b,rfl, -,d⟩:=h;simp [aJ.length d]
end Go.Ev
namespace Go.Ev
def hp (w:World):Heap:=fun b=>w.heap[b]?
theorem zN (w:World) (o:Obj) {g:Nat} (h:g<w.heap.size):hp (w.alloc o) g=hp w g:=by
 show(w.heap.push o)[g]? =w.heap[g]?;grind
def cQ (st:St) (θ:Asg) (g:Nat):Prop:=(∃b,(st.boxes b).isSome=å/\θ.bx b=g)\/ ∃k,(st.ar k).bj.isSome=å/\g∈θ.fp k
structure Inv (w0:World) (F R:Nat->Prop) (st:St) (θ:Asg) (w:World):Prop where
 size:w0.heap.size<=w.heap.size
 same: ∀b,b<w0.heap.size-> ¬F b->hp w b=hp w0 b
 os:w.os=w0.os
 tape:w.tape=w0.tape
 out:w.output=w0.output
 rd: ∀b,R b->b<w0.heap.size/\ ¬F b
 boxes: ∀b cs,st.boxes b=ã cs-> ∃arr ty frz,hp w (θ.bx b)=ã (.cells arr ty frz)/\gM arr.size frz/\aJ (hp w) R st θ cs arr.toList
 ar: ∀k d,(st.ar k).bj=ã d->bP d.c=å/\aE (hp w) R å (enc d.c d.x) (θ.ob k) (θ.fp k)/\(θ.fp k).Nodup
 bb: ∀b b',(st.boxes b).isSome=å->(st.boxes b').isSome=å->θ.bx b=θ.bx b'->b=b'
 bo: ∀b k,(st.boxes b).isSome=å->(st.ar k).bj.isSome=å->θ.bx b∉θ.fp k
 oo: ∀k k' g,(st.ar k).bj.isSome=å->(st.ar k').bj.isSome=å->g∈θ.fp k->g∈θ.fp k'->k=k'
 own: ∀g,cQ st θ g->(F g\/w0.heap.size<=g)
variable {w0 w w':World} {F R:Nat→Prop} {st st':St} {θ θ':Asg}
theorem Inv.vV (h:Inv w0 F R st θ w) {g:Nat} (b:cQ st θ g): ¬R g:=by
 intro d;have:=h.rd g d;rcases h.own g b with f|i
 all_goals grind
theorem aE.sY {H:Heap} {R:Nat->Prop} {n:Nat} (k: ∀b o,H b=ã o->b<n) {own:Bool} {d:bf} {v:Value} {fp:List Nat} (h:aE H R own d v fp): ∀g∈fp,g<n:=by
 revert h
 refine bf.rec (motive_1:=fun d=> ∀(v:Value) (fp:List Nat),aE H R own d v fp-> ∀g∈fp,g<n)
  (motive_2:=fun ds=> ∀(vs:List Value) (fp:List Nat),az H R own ds vs fp-> ∀g∈fp,g<n) ?_ ?_ ?_ ?_ ?_ ?_ d v fp
 .simp [aE]
 .simp_all [aE]
 .simp_all [aE]
 .intro sz cs ih v fp h g f
  simp [aE]at h
  grind
 .simp [az]
 .intro d ds i j vs fp h g f
  simp [az]at h
  grind
theorem az.sY {H:Heap} {R:Nat->Prop} {n:Nat} (i: ∀b o,H b=ã o->b<n) {own:Bool}: ∀ {ds:List bf} {vs:List Value} {fp:List Nat},az H R own ds vs fp-> ∀g∈fp,g<n
 | [],vs,fp,h,g,f=>by simp_all [az]
 |d::ds,vs,fp,h,g,f=>by
  obtain⟨v,j,f1,f2, -,rfl,k,m⟩:=h;rcases List.mem_append.1 f with f|f
  .exact k.sY i g f
  .exact az.sY i m g f
theorem pF {b:Nat} {o:Obj} (h:hp w b=ã o):b<w.heap.size:=(Array.getElem?_eq_some_iff.1 h).1
theorem Inv.kz (h:Inv w0 F R st θ w) {g:Nat} (f:cQ st θ g):g<w.heap.size:=by
 rcases f with⟨b,i,rfl⟩|⟨k,hk,f⟩
 .obtain⟨cs,j⟩:=Á.1 i
  obtain⟨arr,ty,frz,m, -⟩:=h.boxes b cs j;exact pF m
 .obtain⟨d,hd⟩:=Á.1 hk
  exact(h.ar k d hd).2.1.sY (fun b o i=>pF i) g f
structure Float (w0:World) (F:Nat->Prop) (st:St) (θ:Asg) (fps:List Nat):Prop where
 nodup:fps.Nodup
 free: ∀g∈fps,¬cQ st θ g
 own: ∀g∈fps,F g\/w0.heap.size<=g
theorem Inv.next (h:Inv w0 F R st θ w) (s:Step R st θ (hp w) st' θ' (hp w'))
  (t:w.heap.size<=w'.heap.size) (u:w'.os=w.os) (z:w'.tape=w.tape) (i:w'.output=w.output)
  (j: ∀b,b<w.heap.size->hp w' b≠hp w b->F b\/w0.heap.size<=b)
  (m: ∀b cs,st'.boxes b=ã cs->(st.boxes b=ã cs/\hp w' (θ.bx b)=hp w (θ.bx b))\/
   ∃arr ty frz,hp w' (θ'.bx b)=ã (.cells arr ty frz)/\gM arr.size frz/\aJ (hp w') R st' θ' cs arr.toList)
  (p: ∀k d,(st'.ar k).bj=ã d->((st.ar k).bj=ã d/\θ'.ob k=θ.ob k/\θ'.fp k=θ.fp k/\ ∀g∈θ.fp k,hp w' g=hp w g)\/
   (bP d.c=å/\aE (hp w') R å (enc d.c d.x) (θ'.ob k) (θ'.fp k)/\(θ'.fp k).Nodup))
  (ad: ∀b b',(st'.boxes b).isSome=å->(st'.boxes b').isSome=å->θ'.bx b=θ'.bx b'->b=b')
  (ae: ∀b k,(st'.boxes b).isSome=å->(st'.ar k).bj.isSome=å->θ'.bx b∉θ'.fp k)
  (af: ∀k k' g,(st'.ar k).bj.isSome=å->(st'.ar k').bj.isSome=å->g∈θ'.fp k->g∈θ'.fp k'->k=k')
  (q: ∀g,cQ st' θ' g->(F g\/w0.heap.size<=g)):Inv w0 F R st' θ' w' where
 size:=Nat.le_trans h.size t
 same:=fun b f hF=>by
  rw [<-h.same b f hF];by_cases e:hp w' b=hp w b
  .exact e
  .rcases j b (Î f h.size) e with hf|hs
   all_goals grind
 os:=u.trans h.os
 tape:=z.trans h.tape
 out:=i.trans h.out
 rd:=h.rd
 boxes:=fun b cs ag=>by
  rcases m b cs ag with⟨r,h2⟩|r
  .obtain⟨arr,ty,frz,k1,k2,k3⟩:=h.boxes b cs r
   refine⟨arr,ty,frz, ?_,k2,aJ.step s _ _ k3⟩
   rw [(s.bx b Ŵ).2,h2]
   omega
  omega
 ar:=fun k d hd=>by
  rcases p k d hd with⟨r,h2,h3,h4⟩|r
  .obtain⟨k1,k2,k3⟩:=h.ar k d r
   rw [h2,h3];refine⟨k1,k2.frame (fun b f=> ?_) (fun _ h=>h),k3⟩
   rcases f with f|f
   .simp_all
   .exact s.rd b f
  omega
 bb:=ad
 bo:=ae
 oo:=af
 own:=q
theorem Inv.world (h:Inv w0 F R st θ w) (m:w.heap.size<=w'.heap.size) (p:w'.os=w.os) (q:w'.tape=w.tape) (i:w'.output=w.output)
  (f: ∀b,b<w.heap.size->hp w' b=hp w b):Inv w0 F R st θ w'/\Step R st θ (hp w) st θ (hp w'):=by
 have z: ∀b,R b->hp w' b=hp w b:=fun b r=>f b (Î (h.rd b r).1 h.size)
 have t: ∀g,cQ st θ g->hp w' g=hp w g:=fun g j=>f g (h.kz j)
 have s:Step R st θ (hp w) st θ (hp w'):=⟨z,fun _ h=>⟨h,rfl⟩,fun k=>.inl ⟨rfl,fun hk=>⟨rfl,rfl,fun g j=>t g (.inr ⟨k,hk,j⟩)⟩⟩⟩
 refine⟨h.next s m p q i (fun b r e=>absurd (f b r) e) (fun b cs u=>.inl ⟨u,t _ (.inl ⟨b,Ŵ,rfl⟩)⟩)
  (fun k d hd=>.inl ⟨hd,rfl,rfl,fun g j=>t g (.inr ⟨k,Ŵ,j⟩)⟩) h.bb h.bo h.oo h.own,s⟩
theorem Inv.adU (h:Inv w0 F R st θ w) {b:Nat} (hb:st.boxes b=â) {cs:List Cell} {arr:Array Value} {ty:TypeId}
  (hr:aJ (hp w) R st θ cs arr.toList):
  Inv w0 F R {st with boxes:=aS st.boxes b (ã cs)} {θ with bx:=aS θ.bx b w.heap.size} (w.alloc (.cells arr ty))/\
  Step R st θ (hp w) {st with boxes:=aS st.boxes b (ã cs)} {θ with bx:=aS θ.bx b w.heap.size} (hp (w.alloc (.cells arr ty))):=by
 have hold: ∀g,g<w.heap.size->hp (w.alloc (.cells arr ty)) g=hp w g:=fun g i=>zN w _ i
 have hR: ∀g,R g->hp (w.alloc (.cells arr ty)) g=hp w g:=fun g i=>hold g (Î (h.rd g i).1 h.size)
 have r: ∀g,cQ st θ g->hp (w.alloc (.cells arr ty)) g=hp w g:=fun g i=>hold g (h.kz i)
 have af: ∀b',(st.boxes b').isSome=å->b'≠b:=fun b' t e=>ť
 have s:Step R st θ (hp w) {st with boxes:=aS st.boxes b (ã cs)} {θ with bx:=aS θ.bx b w.heap.size} (hp (w.alloc (.cells arr ty))):=by
  refine⟨hR,fun b' t=> ?_,fun k=>.inl ⟨rfl,fun hk=>⟨rfl,rfl,fun g i=>r g (.inr ⟨k,hk,i⟩)⟩⟩⟩
  simp_all [aY]
 refine⟨h.next s Ż rfl rfl rfl (fun g i e=>absurd (hold g i) e) ?_ (fun k d hd=>.inl ⟨hd,rfl,rfl,fun g i=>r g (.inr ⟨k,Á.2 ⟨_,hd⟩,i⟩)⟩) ?_ ?_ h.oo ?_,s⟩
 .intro b' ag f
  by_cases e:b'=b
  .subst e
   simp [bC]at f
   subst f;right
   refine⟨arr,ty,(0,0), ?_,fun o _=>Ż,aJ.step s _ _ hr⟩
   simp [bC]
   exact heap_alloc_new w _
  .simp [aY _ _ e]at f
   exact .inl ⟨f,r _ (.inl ⟨b',Á.2 ⟨_,f⟩,rfl⟩)⟩
 .intro m u j q e
  by_cases p:m=b<;>by_cases z:u=b
  .omega
  .subst p
   simp [aY _ _ z,bC]at q e
   have:=h.kz (.inl ⟨u,q,e.symm⟩);omega
  .subst z
   simp [aY _ _ p,bC]at j e
   have:=h.kz (.inl ⟨m,j,e⟩);omega
  .simp [aY _ _ p,aY _ _ z]at j q e
   exact h.bb m u j q e
 .intro m k j hk
  by_cases p:m=b
  .subst p
   simp [bC]
   intro i;have:=h.kz (.inr ⟨k,hk,i⟩);omega
  .simp [aY _ _ p]at j |-
   exact h.bo m k j hk
 .rintro g (⟨m,j,rfl⟩|⟨k,hk,i⟩)
  .by_cases p:m=b
   .subst p;simp [bC];exact .inr h.size
   .simp [aY _ _ p]at j |-
    exact h.own _ (.inl ⟨m,j,rfl⟩)
  .exact h.own _ (.inr ⟨k,hk,i⟩)
theorem Inv.Qo (h:Inv w0 F R st θ w) {b:Nat} {cs0 cs:List Cell} (hb:st.boxes b=ã cs0) {arr:Array Value} {ty:TypeId} {frz:Nat×Nat}
  (af:w'.heap.size=w.heap.size) (t:w'.os=w.os) (u:w'.tape=w.tape) (j:w'.output=w.output)
  (ad:hp w' (θ.bx b)=ã (.cells arr ty frz)) (hz:gM arr.size frz) (hold: ∀g,g≠θ.bx b->hp w' g=hp w g)
  (hr:aJ (hp w) R st θ cs arr.toList):
  Inv w0 F R {st with boxes:=aS st.boxes b (ã cs)} θ w'/\Step R st θ (hp w) {st with boxes:=aS st.boxes b (ã cs)} θ (hp w'):=by
 have m:cQ st θ (θ.bx b):=.inl ⟨b,Ŵ,rfl⟩
 have hR: ∀g,R g->hp w' g=hp w g:=fun g p=>hold g (fun e=>h.vV m (e▸p))
 have hO: ∀k,(st.ar k).bj.isSome=å-> ∀g∈θ.fp k,hp w' g=hp w g:=fun k hk g p=>hold g (fun e=>h.bo b k Ŵ hk (e▸p))
 have s:Step R st θ (hp w) {st with boxes:=aS st.boxes b (ã cs)} θ (hp w'):=by
  refine⟨hR,fun b' z=>⟨?_,rfl⟩,fun k=>.inl ⟨rfl,fun hk=>⟨rfl,rfl,hO k hk⟩⟩⟩
  grind [bC,aY]
 have f: ∀b',(aS st.boxes b (ã cs) b').isSome=å->(st.boxes b').isSome=å:=fun b' z=>by
  grind [aY]
 refine⟨h.next s ž t u j ?_ ?_ (fun k d hd=>.inl ⟨hd,rfl,rfl,hO k (Á.2 ⟨_,hd⟩)⟩) (fun q b2 r h2=>h.bb q b2 (f _ r) (f _ h2))
  (fun q k r hk=>h.bo q k (f _ r) hk) h.oo ?_,s⟩
 .intro g _ e
  by_cases eg:g=θ.bx b
  .subst eg;exact h.own _ m
  simp_all
 .intro b' ak i
  by_cases e:b'=b
  .grind [bC,aJ.step]
  .simp [aY _ _ e]at i
   exact .inl ⟨i,hold _ (fun e'=>e (h.bb b' b (Á.2 ⟨_,i⟩) Ŵ e'))⟩
 .rintro g (⟨q,r,rfl⟩|⟨k,hk,p⟩)
  .exact h.own _ (.inl ⟨q,f _ r,rfl⟩)
  .exact h.own _ (.inr ⟨k,hk,p⟩)
theorem Inv.kill (h:Inv w0 F R st θ w) {k:Nat} {d:DV} (hd:(st.ar k).bj=ã d) (aH wv:Nat) (z:(st.ar k).aH<aH\/((st.ar k).aH=aH/\(st.ar k).wv<wv)):
  Inv w0 F R {st with ar:=aS st.ar k ⟨aH,wv,â⟩} θ w/\Step R st θ (hp w) {st with ar:=aS st.ar k ⟨aH,wv,â⟩} θ (hp w)/\
  Float w0 F {st with ar:=aS st.ar k ⟨aH,wv,â⟩} θ (θ.fp k):=by
 have f: ∀k',(aS st.ar k ⟨aH,wv,â⟩ k').bj.isSome=å->k'≠k/\(st.ar k').bj.isSome=å:=fun k' i=>by
  grind [bC,aY]
 have s:Step R st θ (hp w) {st with ar:=aS st.ar k ⟨aH,wv,â⟩} θ (hp w):=by
  refine⟨fun _ _=>rfl,fun _ h=>⟨h,rfl⟩,fun k'=> ?_⟩
  grind [bC,aY]
 refine⟨h.next s (Nat.le_refl _) rfl rfl rfl (fun _ _ e=>absurd rfl e) (fun b cs p=>.inl ⟨p,rfl⟩) ?_ h.bb (fun b k' t i=>h.bo b k' t (f k' i).2)
  (fun k1 k2 g m u=>h.oo k1 k2 g (f _ m).2 (f _ u).2) ?_,s, ?_⟩
 .grind [aY]
 .rintro g (⟨q,m,rfl⟩|⟨k',i,j⟩)
  .exact h.own _ (.inl ⟨q,m,rfl⟩)
  .exact h.own _ (.inr ⟨k',(f k' i).2,j⟩)
 .refine⟨(h.ar k d hd).2.2, ?_,fun g j=>h.own g (.inr ⟨k,Á.2 ⟨_,hd⟩,j⟩)⟩
  rintro g j (⟨q,m,e⟩|⟨k',i,r⟩)
  .exact h.bo q k m (Á.2 ⟨_,hd⟩) (e▸j)
  .exact(f k' i).1 (h.oo k' k g (f k' i).2 (Á.2 ⟨_,hd⟩) r j)
theorem Inv.newObj (h:Inv w0 F R st θ w) {k:Nat} (hk:(st.ar k).bj=â) {d:DV} (hc:bP d.c=å) {hd:Value} {fp:List Nat} (aH wv:Nat) (hv:(st.ar k).aH<aH)
  (ad:w.heap.size<=w'.heap.size) (ae:w'.os=w.os) (af:w'.tape=w.tape) (p:w'.output=w.output)
  (hold: ∀g,g<w.heap.size->g∉fp->hp w' g=hp w g)
  (hr:aE (hp w') R å (enc d.c d.x) hd fp) (hn:fp.Nodup) (q: ∀g∈fp,¬cQ st θ g/\(F g\/w0.heap.size<=g)):
  Inv w0 F R {st with ar:=aS st.ar k ⟨aH,wv,ã d⟩} {θ with ob:=aS θ.ob k hd,fp:=aS θ.fp k fp} w'/\
  Step R st θ (hp w) {st with ar:=aS st.ar k ⟨aH,wv,ã d⟩} {θ with ob:=aS θ.ob k hd,fp:=aS θ.fp k fp} (hp w'):=by
 have hR: ∀g,R g->hp w' g=hp w g:=fun g i=>hold g (Î (h.rd g i).1 h.size) (fun e=>by
  have:=h.rd g i;grind)
 have hO: ∀g,cQ st θ g->hp w' g=hp w g:=fun g i=>hold g (h.kz i) (fun e=>(q g e).1 i)
 have s:Step R st θ (hp w) {st with ar:=aS st.ar k ⟨aH,wv,ã d⟩} {θ with ob:=aS θ.ob k hd,fp:=aS θ.fp k fp} (hp w'):=by
  refine⟨hR,fun _ h=>⟨h,rfl⟩,fun k'=> ?_⟩
  by_cases e:k'=k
  .simp_all [bC]
  .simp only [aY _ _ e];exact .inl ⟨Ż,fun j=>⟨Ż,Ż,fun g i=>hO g (.inr ⟨k',j,i⟩)⟩⟩
 have f: ∀k',k'≠k->(aS st.ar k ⟨aH,wv,ã d⟩ k').bj.isSome=å->(st.ar k').bj.isSome=å:=fun k' e j=>by
  simp_all [aY]
 refine⟨h.next s ad ae af p (fun g i e=>(q g (Decidable.byContradiction fun hn=>e (hold g i hn))).2) (fun b cs r=>.inl ⟨r,hO _ (.inl ⟨b,Á.2 ⟨_,r⟩,rfl⟩)⟩) ?_ h.bb ?_ ?_ ?_,s⟩
 .intro k' d' m
  by_cases e:k'=k
  .grind [bC]
  .simp only [aY _ _ e]at m |-
   exact .inl ⟨m,Ż,Ż,fun g i=>hO g (.inr ⟨k',Á.2 ⟨_,m⟩,i⟩)⟩
 .intro b k' hb j
  by_cases e:k'=k
  .subst e
   simp [bC]
   intro i;exact(q _ i).1 (.inl ⟨b,hb,rfl⟩)
  .simp [aY _ _ e]
   exact h.bo b k' hb (f k' e j)
 .intro k1 k2 g z h2 g1 g2
  by_cases t:k1=k<;>by_cases u:k2=k
  .omega
  .subst t
   simp [bC,aY _ _ u]at g1 g2
   exact absurd (.inr ⟨k2,f k2 u h2,g2⟩) (q _ g1).1
  .subst u
   simp [bC,aY _ _ t]at g1 g2
   exact absurd (.inr ⟨k1,f k1 t z,g1⟩) (q _ g2).1
  .simp [aY _ _ t,aY _ _ u]at g1 g2
   exact h.oo k1 k2 g (f k1 t z) (f k2 u h2) g1 g2
 .rintro g (⟨b1,z,rfl⟩|⟨k',j,i⟩)
  .exact h.own _ (.inl ⟨b1,z,rfl⟩)
  .by_cases e:k'=k
   .simp_all [bC]
   .simp [aY _ _ e]at i
    exact h.own _ (.inr ⟨k',f k' e j,i⟩)
theorem Inv.setObj (h:Inv w0 F R st θ w) {k:Nat} {d0 d:DV} (t:(st.ar k).bj=ã d0) (hc:d.c=d0.c) (hl:aF d.c d.x=aF d0.c d0.x) {fp:List Nat} (wv:Nat) (hv:(st.ar k).wv<wv)
  (al:w'.heap.size=w.heap.size) (ah:w'.os=w.os) (ai:w'.tape=w.tape) (u:w'.output=w.output)
  (hold: ∀g,g∉θ.fp k->hp w' g=hp w g)
  (hr:aE (hp w') R å (enc d.c d.x) (θ.ob k) fp) (hn:fp.Nodup) (hf: ∀g∈fp,g∈θ.fp k\/(¬cQ st θ g/\(F g\/w0.heap.size<=g))):
  Inv w0 F R {st with ar:=aS st.ar k ⟨(st.ar k).aH,wv,ã d⟩} {θ with fp:=aS θ.fp k fp} w'/\
  Step R st θ (hp w) {st with ar:=aS st.ar k ⟨(st.ar k).aH,wv,ã d⟩} {θ with fp:=aS θ.fp k fp} (hp w'):=by
 have j:(st.ar k).bj.isSome=å:=Á.2 ⟨_,t⟩;have hR: ∀g,R g->hp w' g=hp w g:=fun g p=>hold g (fun e=>h.vV (.inr ⟨k,j,e⟩) p)
 have hB: ∀b,(st.boxes b).isSome=å->hp w' (θ.bx b)=hp w (θ.bx b):=fun b z=>hold _ (fun e=>h.bo b k z j e)
 have hO: ∀k',k'≠k->(st.ar k').bj.isSome=å-> ∀g∈θ.fp k',hp w' g=hp w g:=fun k' e m g p=>hold g (fun e'=>e (h.oo k' k g m j p e'))
 have s:Step R st θ (hp w) {st with ar:=aS st.ar k ⟨(st.ar k).aH,wv,ã d⟩} {θ with fp:=aS θ.fp k fp} (hp w'):=by
  refine⟨hR,fun _ h=>⟨h,rfl⟩,fun k'=> ?_⟩
  by_cases e:k'=k
  .simp_all [bC]
  grind [aY]
 have i: ∀k',k'≠k->(aS st.ar k ⟨(st.ar k).aH,wv,ã d⟩ k').bj.isSome=å->(st.ar k').bj.isSome=å:=fun k' e m=>by
  simp_all [aY]
 refine⟨h.next s ž ah ai u ?_ (fun b cs ad=>.inl ⟨ad,hB b (Á.2 ⟨_,ad⟩)⟩) ?_ h.bb ?_ ?_ ?_,s⟩
 .intro g _ e
  by_cases eg:g∈θ.fp k
  .exact h.own _ (.inr ⟨k,j,eg⟩)
  simp_all
 .intro k' d' ae
  by_cases e:k'=k
  .subst e
   simp [bC]at ae
   subst ae;right
   simp [bC]
   exact⟨by rw [hc];exact(h.ar _ d0 t).1,hr,hn⟩
  grind [aY]
 .intro b k' z m
  by_cases e:k'=k
  .subst e
   simp [bC]
   intro p;rcases hf _ p with f|f
   .exact h.bo b _ z j f
   .exact f.1 (.inl ⟨b,z,rfl⟩)
  .simp [aY _ _ e]
   exact h.bo b k' z (i k' e m)
 .intro k1 k2 g h1 h2 g1 g2
  by_cases q:k1=k<;>by_cases r:k2=k
  .omega
  .subst q
   simp [bC,aY _ _ r]at g1 g2
   rcases hf _ g1 with f|f
   .exact h.oo _ k2 g j (i k2 r h2) f g2
   .exact absurd (.inr ⟨k2,i k2 r h2,g2⟩) f.1
  .subst r
   simp [bC,aY _ _ q]at g1 g2
   rcases hf _ g2 with f|f
   .exact h.oo k1 _ g (i k1 q h1) j g1 f
   .exact absurd (.inr ⟨k1,i k1 q h1,g1⟩) f.1
  .simp [aY _ _ q,aY _ _ r]at g1 g2
   exact h.oo k1 k2 g (i k1 q h1) (i k2 r h2) g1 g2
 .rintro g (⟨b1,h1,rfl⟩|⟨k',m,p⟩)
  .exact h.own _ (.inl ⟨b1,h1,rfl⟩)
  .by_cases e:k'=k
   .subst e;simp [bC]at p
    rcases hf _ p with f|f
    .exact h.own _ (.inr ⟨_,j,f⟩)
    simp_all
   .simp [aY _ _ e]at p
    exact h.own _ (.inr ⟨k',i k' e m,p⟩)
end Go.Ev
namespace Go.Ev
variable {P:Program} {w:World}
theorem adV (v:Value):cx v=v.oneCell':=by cases v<;>rfl
theorem Qp {g o n:Nat} {cur:Array Value} {ty:TypeId} {frz:Nat×Nat} (b:hp w g=ã (.cells cur ty frz)) (f:o+n<=cur.size):
  (loadCells ⟨g,o,â⟩ n).run P w=.ok ((cur.toList.drop o).take n).toArray w:=by
 have d:((cur.toList.drop o).take n).length=n:=ź
 have h:=run_loadCells_list (P:=P) w ⟨g,o,â⟩ ((cur.toList.drop o).take n) (fun j v hj=>by
  rw [Addr.add_lit,cell_of_row w g (o+j) cur ty frz b];rw [Ι]at hj
  split at hj
  .rw [Κ]at hj
   rw [<-hj];simp
  .cases hj)
 rw [d]at h;exact h
theorem adW {g o:Nat} {cur:Array Value} {ty:TypeId} {frz:Nat×Nat} {v:Value} (d:hp w g=ã (.cells cur ty frz)) (f:cur.toList[o]? =ã v):
  (load ⟨g,o,â⟩).run P w=.ok v w:=by
 have b:cur[o]? =ã v:=Ğ
 rw [run_load,cell_of_row w g o cur ty frz d,b]
theorem zO {g o:Nat} {cur:Array Value} {ty:TypeId} {frz:Nat×Nat} (d:hp w g=ã (.cells cur ty frz)) (f:gM cur.size frz) (i:o<cur.size):w.frozen? ⟨g,o,â⟩=ä:=by
 have b:w.heap[g]? =ã (.cells cur ty frz):=d;obtain⟨lo,hi⟩:=frz;have:=f o i;simp only [World.frozen?,b,Bool.and_eq_false_iff,decide_eq_false_iff_not];simp only [not_and]at this;by_cases h:lo<=o
 .exact .inr (this h)
 .exact .inl h
theorem GG {g o:Nat}: ∀ {vs:List Value} {i:Nat} {cur:Array Value} {ty:TypeId} {frz:Nat×Nat} {w:World},hp w g=ã (.cells cur ty frz)->gM cur.size frz->o+i+vs.length<=cur.size->(∀v∈vs,cx v=å)->
  (storeCells ⟨g,o,â⟩ vs i).run P w=.ok () (w.setRow g (cur.toList.take (o+i)++(vs++cur.toList.drop (o+i+vs.length))).toArray)
 | [],i,cur,ty,frz,w,d,_,_,_=>by
  simp only [storeCells,Ξ,List.length_nil,Λ,Í,Array.toArray_toList];rw [setRow_self w g cur ty frz d];rfl
 |v::rest,i,cur,ty,frz,w,d,k,m,p=>by
  have hi:o+i<cur.size:=by simp at m;omega
  have h:w.heap[g]? =ã (.cells cur ty frz):=d;have b:w.cell? ⟨g,o+i,â⟩=ã cur[o+i]:=by simp [World.cell?,h,hi]
  have f:w.frozen? ⟨g,o+i,â⟩=ä:=zO d k hi;have j:(store ((⟨g,o,â⟩:Addr).add i) v).run P w=.ok () (w.setRow g (cur.setIfInBounds (o+i) v)):=by
   rw [Addr.add_lit,run_store P w _ v _ (by rw [<-adV];exact p v Ż),b]
   simp [f,setCell_eq_setRow w g (o+i) cur ty frz v d]
  have ih:=GG (g:=g) (o:=o) (vs:=rest) (i:=i+1) (w:=w.setRow g (cur.setIfInBounds (o+i) v)) (cur:=cur.setIfInBounds (o+i) v) (setRow_heap w g cur _ ty _ d)
   ý (by simp at m |-;omega) (fun x q=>p x Ě)
  simp only [storeCells,Β,j,Ð,ih,setRow_setRow];congr 3
  have r:o+(i+1)=(o+i)+1:=ž
  rw [r];have hle:o+i<cur.toList.length:=ķ
  simp only [Array.toList_setIfInBounds,Μ];rw [List.take_succ_eq_append_getElem (by simpa using hle),List.take_set_of_le ž]
  rw [List.drop_set_of_lt ž]
  simp
  omega
def Qq:Cell->Value->Bool
 |.b ä,.bool ä=>å
 |.i k n,.int k' m=>á (k=k'/\n=0/\m=0)
 |.s [],.string s=>á (s=⟨#[]⟩)
 |.nl,.slice â 0 0=>å
 |.ff,.pointer â=>å
 |.fE,.nilFunc=>å
 |.er ä,.nilIface=>å
 |_,_=>ä
def pG:List Cell->List Value->Bool
 | [],[]=>å
 |c::cs,v::vs=>Qq c v&&pG cs vs
 |_,_=>ä
def zeroV:CT->Value->Bool
 |.bool,.bool ä=>å
 |.int k,.int k' m=>á (k=k'/\m=0)
 |.str,.string s=>á (s=⟨#[]⟩)
 |.sl _,.slice â 0 0=>å
 |.tree _,.slice â 0 0=>å
 |_,_=>ä
def mY:aR->List Value->Bool
 |.one c,[v]=>zeroV c v
 |.cons c cs,v::vs=>zeroV c v&&mY cs vs
 |_,_=>ä
structure adX (P:Program) (fields:Array Field) (fs:List (Nat×TypeId)):Prop where
 len:fields.size=fs.length
 at_: ∀(i off:Nat) (t:TypeId),fs[i]? =ã (off,t)-> ∃f:Field,fields[i]? =ã f/\f.offset=off/\f.type=t/\ ∃inf,P.info? t=ã inf/\inf.size≠0
def nX (P:Program) (t:TypeId):U->Prop
 |.bool=>P.underlying t=ã .bool
 |.int k=>P.underlying t=ã (.int k)
 |.str=>P.underlying t=ã .string
 |.slice e=>P.underlying t=ã (.slice e)
 |.struct fs=> ∃fields,P.underlying t=ã (.struct fields)/\adX P fields fs
 |.ptr=> ∃e,P.underlying t=ã (.pointer e)
 |.func=> ∃a b c,P.underlying t=ã (.func a b c)
 |.iface=> ∃ms,P.underlying t=ã (.interface ms)
 |.other=>False
def Qr (P:Program) (t:TypeId) (ts:aR):Prop:=
 P.eqGuardType P.depth t=ä/\
 ∀(xs b:List Cell) (vs us:Array Value) (d:List Bool) (w:World) (H:Heap) (R:Nat->Prop) (st:St) (θ:Asg),lW ts xs=å->lW ts b=å->fg xs b=ã d->aJ H R st θ xs vs.toList->aJ H R st θ b us.toList->
  (Ü t (.agg vs) (.agg us)).run P w=.ok (jj d) w
structure pH (P:Program) (T:TypeId->Option TyI) (t:TypeId) (i:TyI):Prop where
 info: ∃inf z,P.info? t=ã inf/\inf.size=i.size/\inf.bytes=i.bytes/\inf.zero=ã z/\pG i.zero z.cells.toList=å/\(match i.u with|.struct _=> ∃cs,z=.agg cs|_=>cx z=å)
 u:nX P t i.u
 sl: ∀c,i.bu=ã (.one c)->bP c=å-> ∀e,i.u=.slice e-> ∃inf z,P.info? e=ã inf/\inf.size=(ay c).size/\inf.bytes<=1024/\inf.zero=ã z/\mY (ay c) z.cells.toList=å/\
  (match ay c with|.one (.int .u8)=>P.underlying e=ã (.int .u8)|_=>True)
 one:(match i.u with|.struct _=>True|_=>i.size=1)
 eq:i.eq=å-> ∀ts,i.bu=ã ts->Qr P t ts
end Go.Ev
namespace Go.Ev
section
variable {H:Heap} {R:Nat→Prop} {own:Bool} {c:CT} {x:Interp c} {v:Value} {fp:List Nat}
theorem aE.ia (b:bP c=å) (h:aE H R own (enc c x) v fp): ∃a cap,v=.slice a (aF c x) cap/\aF c x<=cap/\cap<=maxLen:=by
 rw [vz b]at h;obtain⟨a,len,cap,rfl,f,g,i,j, -⟩:=h;have d:len=aF c x:=by
  grind [jh,Nat.eq_of_mul_eq_mul_right]
 subst d;grind
theorem aE.zP (d:bP c=å) {a:Option Addr} {len cap:Nat} (h:aE H R ä (enc c x) (.slice a len cap) fp) (k:aF c x≠0):
  ∃g off cur ty frz,a=ã ⟨g,off,â⟩/\R g/\H g=ã (.cells cur ty frz)/\off+(aF c x)*(ay c).size<=cur.size/\
   az H R ä (cv c x) ((cur.toList.drop off).take (aF c x*(ay c).size)) []:=by
 obtain⟨m,f,e, -, -⟩:=h.ia d;rw [vz d]at h;obtain⟨p,i,j,q,r,s,t,u,b⟩:=h;rcases b with⟨b, -⟩|⟨-, -,b⟩
 .grind
 .rcases b with b|⟨g,off,cur,ty,frz,rfl,z,h6,h7,h8⟩
  .grind [Nat.mul_eq_zero]
  grind
theorem aE.adY (b:bP c=å) {a:Option Addr} {cap:Nat} (d:aF c x<=cap) (f:cap<=maxLen)
  (h:aF c x=0\/ ∃g off cur ty frz,a=ã ⟨g,off,â⟩/\R g/\H g=ã (.cells cur ty frz)/\off+(aF c x)*(ay c).size<=cur.size/\
   az H R ä (cv c x) ((cur.toList.drop off).take (aF c x*(ay c).size)) []):aE H R ä (enc c x) (.slice a (aF c x) cap) []:=by
 rw [vz b];simp only [aE];refine⟨a,_,cap,rfl,aR.size_pos _,jh x,d,f,.inr ⟨trivial,trivial, ?_⟩⟩
 rcases h with h|h
 all_goals simp_all [Ô,jh]
theorem az.cut {ds:List bf} {vs:List Value} (h:az H R own ds vs []) (i n:Nat):az H R own ((ds.drop i).take n) ((vs.drop i).take n) []:=by
 have f:=h.length;rw [<-Í i ds]at h;obtain⟨f1,f2,e,k1,k2⟩:=h.split;have b:=Γ.1 e.symm;obtain⟨rfl,rfl⟩:=b;have g:(vs.drop (ds.take i).length)=vs.drop i:=by
  grind [Ý]
 have d:=k2.length;rw [<-Í n (ds.drop i)]at k2;obtain⟨f1,f2,e,k3,j⟩:=k2.split;have b:=Γ.1 e.symm;grind
theorem adZ {l h:Nat} (b:l<=h) (d:h<=aF c x):aF c (gk c (h-l) (gL c l x))=h-l:=by
 grind [vA,adO]
theorem aE.cut (j:bP c=å) {a:Option Addr} {cap l h m:Nat} (k:aE H R ä (enc c x) (.slice a (aF c x) cap) fp) (b:l<=h) (d:h<=aF c x) (hm:h-l<=m) (f:m<=maxLen) (i:Option Addr)
  (u:h≠l->i=a.map (·.add (l*(ay c).size))):aE H R ä (enc c (gk c (h-l) (gL c l x))) (.slice i (h-l) m) []:=by
 have p:=adZ (x:=x) b d;have key:=aE.adY (H:=H) (R:=R) (c:=c) (x:=gk c (h-l) (gL c l x)) (a:=i) (cap:=m) j ž f
 rw [p]at key;refine key ?_
 by_cases e:h=l
 .omega
 .right
  obtain⟨g,off,cur,ty,frz,rfl,q,r,z,s⟩:=k.zP j ž
  refine⟨g,off+l*(ay c).size,cur,ty,frz, ?_,q,r, ?_, ?_⟩
  .simp_all [Addr.add_lit]
  .have:=È (ay c).size d
   have t:(h-l)*(ay c).size=h*(ay c).size-l*(ay c).size:=Χ _ _ _;have:=È (ay c).size b;omega
  .have h9:=s.cut (l*(ay c).size) ((h-l)*(ay c).size)
   rw [zG,Gi];have e4:(((cur.toList.drop off).take (aF c x*(ay c).size)).drop (l*(ay c).size)).take ((h-l)*(ay c).size)=
     (cur.toList.drop (off+l*(ay c).size)).take ((h-l)*(ay c).size):=by
    rw [Ñ,Ò,Ó];congr 1
    have:=È (ay c).size d;have t:(h-l)*(ay c).size=h*(ay c).size-l*(ay c).size:=Χ _ _ _;omega
   simp_all
theorem zQ {i:Nat} {e:bc (ay c)} (h:kY c x i=ã e):i<aF c x:=by
 grind [PZ,jg]
theorem aeA {i:Nat} {e:bc (ay c)} (h:kY c x i=ã e):((cv c x).drop (i*(ay c).size)).take (ay c).size=bI (ay c) e:=by
 have b:=Gj h;grind [lT]
theorem aE.elem (d:bP c=å) {a:Option Addr} {len cap i:Nat} {e:bc (ay c)} (f:aE H R ä (enc c x) (.slice a len cap) fp) (hi:kY c x i=ã e):
  ∃g off,a=ã ⟨g,off,â⟩/\sX H R (ay c) e 0 (.pointer (ã ⟨g,off+i*(ay c).size,â⟩)):=by
 have b:=zQ hi;obtain⟨g,off,cur,ty,frz,rfl,h,j,p,k⟩:=f.zP d ž
 refine⟨g,off,rfl,g,off+i*(ay c).size,cur,ty,frz,rfl,h,j, ?_, ?_⟩
 .have:=È (ay c).size b
  grind
 .have m:=k.cut (i*(ay c).size) (ay c).size
  rw [aeA hi]at m;have q:(((cur.toList.drop off).take (aF c x*(ay c).size)).drop (i*(ay c).size)).take (ay c).size=
    (cur.toList.drop (off+i*(ay c).size)).take (ay c).size:=by
   rw [Ñ,Ò,Ó];have:=È (ay c).size b;grind
  simp_all
theorem aE.sZ (b:bP c=å) (h:aE H R å (enc c x) v fp):
  ∃a cap,v=.slice a (aF c x) cap/\aF c x<=cap/\cap<=maxLen/\((cap=0/\fp=[])\/ ∃g cur ty frz fps,a=ã ⟨g,0,â⟩/\H g=ã (.cells cur ty frz)/\cur.size=cap*(ay c).size/\pj (ay c).size cur.size frz/\
     fp=g::fps/\az H R å (cv c x) (cur.toList.take (aF c x*(ay c).size)) fps):=by
 obtain⟨f,d,e, -, -⟩:=h.ia b;rw [vz b]at h;simp [aE]at h
 grind
theorem aE.pI (b:bP c=å) {a:Option Addr} {cap:Nat} (d:aF c x<=cap) (f:cap<=maxLen)
  (h:(cap=0/\fp=[])\/ ∃g cur ty frz fps,a=ã ⟨g,0,â⟩/\H g=ã (.cells cur ty frz)/\cur.size=cap*(ay c).size/\pj (ay c).size cur.size frz/\
     fp=g::fps/\az H R å (cv c x) (cur.toList.take (aF c x*(ay c).size)) fps):aE H R å (enc c x) (.slice a (aF c x) cap) fp:=by
 rw [vz b];simp only [aE];exact⟨a,_,cap,rfl,aR.size_pos _,jh x,d,f,.inl ⟨trivial,h⟩⟩
end
theorem kA {c b:CT} {x:Interp c} {y:Interp b} (h:dW c b x=ã y): ∃e:c=b,e▸x=y:=by
 grind [dW,É]
section
variable {w0 w:World} {F R:Nat→Prop} {st:St} {θ:Asg} {α:Type}
theorem zR (hI:Inv w0 F R st θ w) {cl:Cell} {v:Value} (u:aB (hp w) R st θ cl v) {nil:M α} {k:(c:CT)->Interp c->M α} {a:α} {st':St} {l:Log}
  (h:(fv cl nil k).run st=ã (a,st',l)):
  ((∃q,v=.slice q 0 0)/\nil.run st=ã (a,st',l))\/
  ∃(c:CT) (x:Interp c) (i:Log) (R':Nat->Prop),(k c x).run st=ã (a,st',i)/\bP c=å/\aE (hp w) R' ä (enc c x) v []/\
   (∀b,R' b->R b\/cQ st θ b):=by
 cases cl<;>simp only [fv,M.run,reduceCtorEq]at h
 case nl=>simp_all [aB]
 case z0=>simp_all [aB]
 case sh c x=>grind [aB]
 case lU c x=>grind [aB]
 case ob n aH vw=>
  right
  simp only [À]at h;obtain⟨⟨a1,s1,i⟩,f,r⟩:=h;obtain⟨rfl,rfl,rfl⟩:=r;cases hd:(st.ar n).bj with
  |none=>simp_all [M.run]
  |some d=>
   simp [hd,M.gd,M.run]at f
   split at f
   .rename_i s
    split at f
    .have t:=Å s
     obtain⟨k1,k2⟩:=u;have k3:=k2 t Ŵ
     obtain⟨q1,q2,q3⟩:=hI.ar n d hd;have j: ∀b,b∈θ.fp n->R b\/cQ st θ b:=fun b p=>.inr (.inr ⟨n,Ŵ,p⟩)
     have g:=q2.share (R':=fun b=>b∈θ.fp n) (fun b p=>p)
     refine⟨d.c,_,i,fun b=>b∈θ.fp n,f,q1, ?_,j⟩
     cases vw with
     |none=>
      subst k3;exact g
     |some m=>
      obtain⟨q,len,cap,z,e2⟩:=k3;subst e2;obtain⟨aj,ae,e3,e4,e5⟩:=q2.ia q1;rw [z]at e3;cases e3;have hm:m<=aF d.c d.x:=by simp_all [kx]
      rw [z]at g;have:=aE.cut (l:=0) (h:=m) (m:=cap) q1 g (Nat.zero_le _) hm ž e5 q (fun _=>by
       simp [Addr.add])
      have hz:gL d.c 0 d.x=d.x:=by
       cases d with
       |mk c x=>cases c<;>simp [gL]
      rw [hz]at this;exact this
    simp_all
   simp_all
 case gs n aH wv pl c x=>
  right
  simp only [À]at h;obtain⟨⟨a1,s1,i⟩,f,r⟩:=h;obtain⟨rfl,rfl,rfl⟩:=r;cases hd:(st.ar n).bj with
  |none=>simp_all [M.run]
  |some d=>
   simp [hd,M.gd,M.run]at f
   split at f
   .rename_i s
    split at f
    .rename_i hw
     obtain⟨k0,k1,k2⟩:=u;obtain⟨k3,k4⟩:=k2 (Å s);have k5:=k4 (Å hw) d hd;exact⟨c,x,i,fun b=>b∈θ.fp n,f,k0,k5.1,fun b p=>.inr (.inr ⟨n,Ŵ,p⟩)⟩
    simp_all
   simp_all
end
end Go.Ev
namespace Go.Ev
structure Ok (P:Program) (T:TypeId->Option TyI):Prop where
 eY: ∀t i,T t=ã i->pH P T t i
 mixed:P.follows .mixedOrders=å
def Tm (H:Heap) (R:Nat->Prop) (st:St) (θ:Asg) (a:Act):Prop:= ∀t,aV H R st θ (st.tmps t) (a.tmps.getD t undef)
section
variable {H:Heap} {R:Nat→Prop} {st:St} {θ:Asg} {a:Act}
theorem mZ (v:Value):aV H R st θ (.one .undef) v:=by simp [aV,aB]
theorem aeB (v:Value):aV H R st θ (Gv v) v:=by
 unfold Gv;split
 .simp [aV,aB,cx]
 .rename_i k n
  by_cases h:k.min<=n/\n<=k.max
  .simp [h,aV,aB,cx]
  .simp only [h,decide_false,ez];exact mZ _
 .rename_i s
  cases b:Ê s.data.toList.length mx
  .simp only [ez];exact mZ _
  .have:s.data.toList.length<=maxLen:=by
    have:=Æ b;simpa [mx,maxLen]using this
   simp only [Y,aV,aB,cx];exact⟨⟨by cases s;simp,this⟩,.inr trivial⟩
 .simp [aV,aB,cx]
 .simp [aV,aB,cx]
 .simp [aV,aB,cx]
 .simp [aV,aB,cx]
 .exact mZ _
theorem iN (h:Tm H R st θ a) (c:Operand):aV H R st θ (bE st c) (a.eval c):=by
 cases c with
 |tmp t=>exact h t
 |const v=>exact aeB v
 |global g=>exact mZ _
 |func f=>simp [bE,Act.eval,aV,aB,aJ,cx]
theorem dK (h:Tm H R st θ a) {c:Operand} {x:Cell} (e:bE st c=.one x) (b:x≠ .undef):aB H R st θ x (a.eval c)/\cx (a.eval c)=å:=by
 have:=iN h c;rw [e]at this;simp only [aV]at this;exact⟨this.1,this.2.resolve_left b⟩
theorem fF (h:Tm H R st θ a) {c:Operand} {k:IntKind} {n:Int} (e:bE st c=.one (.i k n)):a.eval c=.int k n/\k.min<=n/\n<=k.max:=by
 have:=(dK h e Ż).1
 simpa only [aB]using this
theorem rj (h:Tm H R st θ a) {c:Operand} {x:O} (e:bE st c=.one (.s x)):a.eval c=.string ⟨x.toArray⟩/\x.length<=maxLen:=by
 have:=(dK h e Ż).1
 simpa only [aB]using this
theorem ta (h:Tm H R st θ a) {c:Operand} {x:Bool} (e:bE st c=.one (.b x)):a.eval c=.bool x:=by
 have:=(dK h e Ż).1
 simpa only [aB]using this
end
theorem pJ (k:IntKind) (n:Int):k.min<=k.wrap n/\k.wrap n<=k.max:=by
 cases k<;>simp only [IntKind.wrap,IntKind.min,IntKind.max,IntKind.bits,IntKind.signed]<;>(try simp)<;>(try split)<;>omega
def Res (P:Program) (o:Oper) (a:Act) (w:World) (u:Value) (w':World):Prop:=
 (execOp a.eval o).run P w=.ok (.value u) w'\/((execOp a.eval o).run P w=.ok .skip w'/\u=undef)
structure aZ (P:Program) (w0:World) (F R:Nat->Prop) (st:St) (θ:Asg) (w:World) (o:Oper) (a:Act) (v:TV) (st':St):Prop where
 out: ∃u w' θ',Res P o a w u w'/\Inv w0 F R st' θ' w'/\Step R st θ (hp w) st' θ' (hp w')/\aV (hp w') R st' θ' v u
section
variable {P:Program} {T:TypeId→Option TyI} {w0 w:World} {F R:Nat→Prop} {st st':St} {θ:Asg} {a:Act} {o:Oper} {v:TV} {l:Log}
theorem aZ.pure (b:Inv w0 F R st θ w) {u:Value} (h:(execOp a.eval o).run P w=.ok (.value u) w) (d:aV (hp w) R st θ v u):aZ P w0 F R st θ w o a v st:=
 ⟨u,w,θ,.inl h,b,Step.refl _ _ _ _,d⟩
theorem M.aP {α:Type} {x:Bool} {m:M α} {r:α×St×Log} (h:(M.gd x m).run st=ã r):x=å/\m.run st=ã r:=by
 cases x<;>simp [M.gd,M.run]at h
 exact⟨rfl,h⟩
theorem M.gn {α:Type} {x y:α} (h:(M.ret x).run st=ã (y,st',l)):y=x/\st'=st:=by
 simp only [M.run,É,Ã]at h;exact⟨h.1.symm,h.2.1.symm⟩
theorem M.fR {α:Type} {k:Nat} {f:OB->M α} {y:α} (h:(M.ro k f).run st=ã (y,st',l)): ∃b,(f (st.ar k)).run st=ã (y,st',b):=by
 simp only [M.run,À]at h;obtain⟨⟨i,s1,b⟩,g,d⟩:=h;simp only [Ã]at d;obtain⟨rfl,rfl, -⟩:=d;exact⟨b,g⟩
theorem M.pK {α:Type} {k:Nat} {ob:OB} {m:M α} {y:α} (h:(M.wo k ob m).run st=ã (y,st',l)): ∃b,m.run {st with ar:=aS st.ar k ob}=ã (y,st',b):=by
 simp only [M.run,À]at h;obtain⟨⟨g,s1,b⟩,f,d⟩:=h;simp only [Ã]at d;obtain⟨rfl,rfl, -⟩:=d;exact⟨b,f⟩
theorem M.nY {α:Type} {b:Nat} {k:List Cell->M α} {y:α} (h:(M.rb b k).run st=ã (y,st',l)): ∃cs d,st.boxes b=ã cs/\(k cs).run st=ã (y,st',d):=by
 simp only [M.run]at h;split at h
 .rename_i cs g
  simp only [À]at h;obtain⟨⟨j,s1,d⟩,i,f⟩:=h;simp only [Ã]at f;obtain⟨rfl,rfl, -⟩:=f;exact⟨cs,d,g,i⟩
 .cases h
theorem M.Qs {α:Type} {b:Nat} {cs:List Cell} {m:M α} {y:α} (h:(M.wb b cs m).run st=ã (y,st',l)): ∃cs0 d,st.boxes b=ã cs0/\m.run {st with boxes:=aS st.boxes b (ã cs)}=ã (y,st',d):=by
 simp only [M.run]at h;split at h
 .rename_i cs0 g
  simp only [À]at h;obtain⟨⟨j,s1,d⟩,i,f⟩:=h;simp only [Ã]at f;obtain⟨rfl,rfl, -⟩:=f;exact⟨cs0,d,g,i⟩
 .cases h
theorem M.GH {α:Type} {b:Nat} {cs:List Cell} {m:M α} {y:α} (h:(M.nb b cs m).run st=ã (y,st',l)):st.boxes b=â/\ ∃d,m.run {st with boxes:=aS st.boxes b (ã cs)}=ã (y,st',d):=by
 simp only [M.run]at h;split at h
 .cases h
 .rename_i g
  simp only [À]at h;obtain⟨⟨j,s1,d⟩,i,f⟩:=h;simp only [Ã]at f;obtain⟨rfl,rfl, -⟩:=f;exact⟨g,d,i⟩
theorem M.eO {α β:Type} {x:Option β} {f:β->M α} {r:α×St×Log} (h:(M.opt x f).run st=ã r): ∃y,x=ã y/\(f y).run st=ã r:=by
 simp only [M.run,Ï]at h;exact h
theorem cM {c:Cell} (h:(c1 c).run st=ã (v,st',l)):v=.one c/\st'=st:=M.gn h
theorem fx {H:Heap} {c:Cell} {u:Value} (h:aB H R st θ c u) (b:cx u=å):aV H R st θ (.one c) u:=⟨h,.inr b⟩
theorem ib {H:Heap} {k:IntKind} {n:Int} (h:k.min<=n/\n<=k.max):aV H R st θ (.one (.i k n)) (.int k n):=fx (by simp [aB,h]) rfl
theorem fh {H:Heap} {x:Bool}:aV H R st θ (.one (.b x)) (.bool x):=fx Ś rfl
theorem rk {H:Heap} {x:O} (h:x.length<=maxLen):aV H R st θ (.one (.s x)) (.string ⟨x.toArray⟩):=fx (by simp [aB,h]) rfl
theorem ic {s:Sem Value} {u:Value} {w':World} (h:s.run P w=.ok u w'):(do let x <-s;Pure.pure (Next.value x):Sem Next).run P w=.ok (.value u) w':=by
 simp [h]
theorem aeD {s:Sem Unit} {w':World} (h:s.run P w=.ok () w'):(do s;Pure.pure Next.skip:Sem Next).run P w=.ok .skip w':=by
 simp [h]
theorem aeE (op:BinOp) (t:TypeId) (x y:Operand) (k k':IntKind) (m n:Int):(eqGuard op t x y (.int k m) (.int k' n)).run P w=.ok () w:=by
 cases op<;>simp [eqGuard]
theorem aeF (op:BinOp) (t:TypeId) (x y:Operand) (m n:ByteArray):(eqGuard op t x y (.string m) (.string n)).run P w=.ok () w:=by
 cases op<;>simp [eqGuard]
theorem Qt (op:BinOp) (t:TypeId) (x y:Operand) (m n:Bool):(eqGuard op t x y (.bool m) (.bool n)).run P w=.ok () w:=by
 cases op<;>simp [eqGuard]
theorem lk {op:BinOp} {t:TypeId} {x y:Operand} {b:TypeId} (d:o.op=.binOp op t x y b) {u:Value} (f:(eqGuard op t x y (a.eval x) (a.eval y)).run P w=.ok () w)
  (g:(binOp op t (a.eval x) (a.eval y)).run P w=.ok u w):(execOp a.eval o).run P w=.ok (.value u) w:=by
 simp only [execOp,d];refine ic ?_
 simp [f,g]
end
end Go.Ev
namespace Go.Ev
theorem aeG (k:IntKind) (x y:Int) (f:k.min<=x/\x<=k.max):k.min<=x.tmod y/\x.tmod y<=k.max:=by
 have g:k.min<=0/\0<=k.max:=by cases k<;>decide
 by_cases b:0<=x
 .have h:=Int.tmod_nonneg y b
  have d:x.tmod y<=x:=by
   have:=Int.natAbs_tmod x y;have:=Ψ x.natAbs y.natAbs;omega
  omega
 .have d:(x.tmod y).natAbs<=x.natAbs:=by
   rw [Int.natAbs_tmod];exact Ψ _ _
  have i:x.tmod y<=0:=by
   have e:x.tmod y= -((-x).tmod y):=by rw [Int.neg_tmod];omega
   have:=Int.tmod_nonneg y (show 0<= -x by omega)
   omega
  omega
theorem aeH (k:IntKind) (x:Int) (n:Nat) (h:k.min<=x/\x<=k.max):k.min<=x.fdiv (2^n)/\x.fdiv (2^n)<=k.max:=by
 have i:k.min<=0/\0<=k.max:=by cases k<;>decide
 have hp:(0:Int)<2^n:=Int.pow_pos ž
 rw [Int.fdiv_eq_ediv_of_nonneg _ (Int.le_of_lt hp)];by_cases b:0<=x
 .have d:0<=x/2^n:=Int.ediv_nonneg b (Int.le_of_lt hp)
  have f:x/2^n<=x:=Int.ediv_le_self _ b;omega
 .have d:x/2^n<0:=Int.ediv_neg_of_neg_of_pos ž hp
  have f:x<=x/2^n:=by
   have j:=Int.mul_ediv_add_emod x (2^n);have m:=Int.emod_nonneg x (Int.ne_of_gt hp);have p:=Int.emod_lt_of_pos x hp;have g:(2^n-1)*(x/2^n)<=(2^n-1)*(-1):=Int.mul_le_mul_of_nonneg_left ž ž
   rw [Int.sub_mul]at g;omega
  omega
theorem zS (op:BinOp) (k:IntKind) (x y:Int):k.min<=cS op k x y/\cS op k x y<=k.max:=by
 unfold cS;split<;>exact pJ _ _
section
variable {P:Program} {T:TypeId→Option TyI} {w0 w:World} {F R:Nat→Prop} {st st':St} {θ:Asg} {a:Act} {o:Oper} {v:TV} {l:Log}
theorem Qu {t:TypeId} (hu:P.underlying t=ã .bool) (m n:Bool):(Ü t (.bool m) (.bool n)).run P w=.ok (m==n) w:=by
 have h: ∀d,(Δ (d+1) t (.bool m) (.bool n)).run P w=.ok (m==n) w:=fun d=>Š
 exact h 9999
theorem zT {t:TypeId} {ms:Array (String×TypeId)} (hu:P.underlying t=ã (.interface ms)):(Ü t .nilIface .nilIface).run P w=.ok å w/\
  ∀b u,(Ü t (.iface b u) .nilIface).run P w=.ok ä w:=by
 have h: ∀d,(Δ (d+1) t .nilIface .nilIface).run P w=.ok å w:=fun d=>Š
 have k: ∀d b u,(Δ (d+1) t (.iface b u) .nilIface).run P w=.ok ä w:=fun d b u=>Š
 exact⟨h 9999,k 9999⟩
theorem Qv {t e:TypeId} (hu:P.underlying t=ã (.slice e)):(Ü t (.slice â 0 0) (.slice â 0 0)).run P w=.ok å w/\
  ∀b m n,(Ü t (.slice (ã b) m n) (.slice â 0 0)).run P w=.ok ä w:=by
 have h: ∀d,(Δ (d+1) t (.slice â 0 0) (.slice â 0 0)).run P w=.ok å w:=fun d=>Š
 have k: ∀d b m n,(Δ (d+1) t (.slice (ã b) m n) (.slice â 0 0)).run P w=.ok ä w:=fun d b m n=>Š
 exact⟨h 9999,k 9999⟩
theorem Qw (b:Ok P T) {t:TypeId} (h:uB (T t)=å):P.underlying t=ã .bool:=by
 unfold uB at h;split at h
 .rename_i e
  exact(b.eY t _ e).u
 .cases h
theorem aeI (b:Ok P T) {t:TypeId} (h:uF (T t)=å): ∃ms,P.underlying t=ã (.interface ms):=by
 unfold uF at h;split at h
 .rename_i e
  exact(b.eY t _ e).u
 .cases h
theorem zU (b:Ok P T) {t:TypeId} (h:uS (T t)=å): ∃e,P.underlying t=ã (.slice e):=by
 unfold uS at h;split at h
 .rename_i e
  exact⟨_,(b.eY t _ e).u⟩
 .cases h
theorem Qx (j:Ok P T) (h:Inv w0 F R st θ w) (k:Tm (hp w) R st θ a) {op:BinOp} {t:TypeId} {x y:Operand} {p:TypeId} (i:o.op=.binOp op t x y p) (q:uF (T t)=å)
  {m r:Bool} (s:bE st x=.one (.er m)) (z:bE st y=.one (.er ä)) (g:(op=.eql/\r= !m)\/(op=.neq/\r=m)) (hy: ∃v,y=.const v):aZ P w0 F R st θ w o a (.one (.b r)) st:=by
 obtain⟨ms,hu⟩:=aeI j q;have f:=(dK k s Ż).1
 have d:=(dK k z Ż).1
 simp only [aB]at f d;have d:a.eval y=.nilIface:=by rcases d with d|d<;>simp_all
 obtain⟨c,rfl⟩:=hy;rcases f with⟨rfl,f⟩|⟨rfl,tt,u,f⟩
 .rcases g with⟨rfl,rfl⟩|⟨rfl,rfl⟩
  .exact aZ.pure h (lk i ĸ (by rw [f,d];simp [binOp,(zT hu).1])) fh
  .exact aZ.pure h (lk i ĸ (by rw [f,d];simp [binOp,(zT hu).1])) fh
 .rcases g with⟨rfl,rfl⟩|⟨rfl,rfl⟩
  .exact aZ.pure h (lk i ĸ (by rw [f,d];simp [binOp,(zT hu).2])) fh
  .exact aZ.pure h (lk i ĸ (by rw [f,d];simp [binOp,(zT hu).2])) fh
theorem Qy (h:Ok P T) (j:Tm (hp w) R st θ a) {t:TypeId} {x y:Operand} {xs g:List Cell} {i:List Bool} (b:uE (T t) xs g=å)
  (m:bE st x=.agg xs) (p:bE st y=.agg g) (q:fg xs g=ã i):
  ∃vs us,a.eval x=.agg vs/\a.eval y=.agg us/\(∀op x y,(eqGuard op t x y (.agg vs) (.agg us)).run P w=.ok () w)/\(Ü t (.agg vs) (.agg us)).run P w=.ok (jj i) w:=by
 have d:=iN j x;have f:=iN j y;rw [m]at d;rw [p]at f;simp only [aV]at d f;obtain⟨vs,k1,d⟩:=d;obtain⟨us,k2,f⟩:=f;unfold uE at b;split at b
 .rename_i e
  simp only [Ú]at b;have k:=(h.eY t _ e).eq b.1 _ rfl;exact⟨vs,us,k1,k2,fun op x y=>run_eqGuard_agg w op t x y vs us k.1,k.2 xs g vs us i w (hp w) R st θ b.2.1 b.2.2 q d f⟩
 .cases b
theorem aeJ (p:Ok P T) (hI:Inv w0 F R st θ w) (q:Tm (hp w) R st θ a) {op:BinOp} {t:TypeId} {x y:Operand} {t':TypeId} (ho:o.op=.binOp op t x y t')
  (h:(Gp (T t) (zI y) op (bE st x) (bE st y)).run st=ã (v,st',l)):aZ P w0 F R st θ w o a v st':=by
 have hint: ∀ {k k':IntKind} {m n:Int} {c:Cell} {u:Value},bE st x=.one (.i k m)->bE st y=.one (.i k' n)->(c1 c).run st=ã (v,st',l)->
   ((k.min<=m/\m<=k.max)->(k'.min<=n/\n<=k'.max)->(binOp op t (.int k m) (.int k' n)).run P w=.ok u w/\aV (hp w) R st θ (.one c) u)->aZ P w0 F R st θ w o a v st':=by
  intro k k' m n c u h1 h2 h3 h4;obtain⟨rfl,rfl⟩:=cM h3;obtain⟨f,z⟩:=fF q h1;obtain⟨g,r2⟩:=fF q h2;obtain⟨h5,h6⟩:=h4 z r2;exact aZ.pure hI (lk ho (by rw [f,g];exact aeE _ _ _ _ _ _ _ _) (by rw [f,g];exact h5)) h6
 have j: ∀ {m n:O} {c:Cell} {u:Value},bE st x=.one (.s m)->bE st y=.one (.s n)->(c1 c).run st=ã (v,st',l)->
   ((binOp op t (.string ⟨m.toArray⟩) (.string ⟨n.toArray⟩)).run P w=.ok u w/\aV (hp w) R st θ (.one c) u)->aZ P w0 F R st θ w o a v st':=by
  intro m n c u h1 h2 h3 h4;obtain⟨rfl,rfl⟩:=cM h3;obtain⟨f,z⟩:=rj q h1;obtain⟨g,r2⟩:=rj q h2;obtain⟨h5,h6⟩:=h4;exact aZ.pure hI (lk ho (by rw [f,g];exact aeF _ _ _ _ _ _) (by rw [f,g];exact h5)) h6
 unfold Gp at h;split at h
 case h_1=> --shl
  rename_i k m k2 n f g;obtain⟨b,h⟩:=M.aP h;refine hint ‹_› ‹_› h (fun _ _=>⟨?_,ib (pJ _ _)⟩)
  have:=of_decide_eq_true b;simp [binOp,ν,show ¬n<0 from ž]
 case h_2=> --shr
  rename_i k m k2 n f g;obtain⟨b,h⟩:=M.aP h;refine hint ‹_› ‹_› h (fun h1 _=>⟨?_,ib (aeH _ _ _ h1)⟩)
  have:=of_decide_eq_true b;simp [binOp,ν,show ¬n<0 from ž]
 case h_3=>obtain⟨b,d⟩:=M.aP h;clear h;have:=of_decide_eq_true b;subst this;exact hint ‹_› ‹_› d (fun _ _=>⟨č,ib (pJ _ _)⟩)
 case h_4=>obtain⟨b,d⟩:=M.aP h;clear h;have:=of_decide_eq_true b;subst this;exact hint ‹_› ‹_› d (fun _ _=>⟨č,ib (pJ _ _)⟩)
 case h_5=>obtain⟨b,d⟩:=M.aP h;clear h;have:=of_decide_eq_true b;subst this;exact hint ‹_› ‹_› d (fun _ _=>⟨č,ib (pJ _ _)⟩)
 case h_6=>
  obtain⟨b,d⟩:=M.aP h;clear h;have:=of_decide_eq_true b;subst this;obtain⟨hz,r⟩:=M.aP d;exact hint ‹_› ‹_› r (fun _ _=>⟨by simp [binOp,η,bne_iff_ne.1 hz],ib (pJ _ _)⟩)
 case h_7=>
  obtain⟨b,d⟩:=M.aP h;clear h;have:=of_decide_eq_true b;subst this;obtain⟨hz,r⟩:=M.aP d;exact hint ‹_› ‹_› r (fun h1 _=>⟨by simp [binOp,η,bne_iff_ne.1 hz],ib (aeG _ _ _ h1)⟩)
 case h_8=>obtain⟨b,d⟩:=M.aP h;clear h;have:=of_decide_eq_true b;subst this;exact hint ‹_› ‹_› d (fun _ _=>⟨Ĺ,ib (zS .and _ _ _)⟩)
 case h_9=>obtain⟨b,d⟩:=M.aP h;clear h;have:=of_decide_eq_true b;subst this;exact hint ‹_› ‹_› d (fun _ _=>⟨Ĺ,ib (zS .or _ _ _)⟩)
 case h_10=>obtain⟨b,d⟩:=M.aP h;clear h;have:=of_decide_eq_true b;subst this;exact hint ‹_› ‹_› d (fun _ _=>⟨Ĺ,ib (zS .xor _ _ _)⟩)
 case h_11=>obtain⟨b,d⟩:=M.aP h;clear h;have:=of_decide_eq_true b;subst this;exact hint ‹_› ‹_› d (fun _ _=>⟨Ĺ,ib (zS .andNot _ _ _)⟩)
 case h_12=>obtain⟨b,d⟩:=M.aP h;clear h;have:=of_decide_eq_true b;subst this;exact hint ‹_› ‹_› d (fun _ _=>⟨œ,fh⟩)
 case h_13=>obtain⟨b,d⟩:=M.aP h;clear h;have:=of_decide_eq_true b;subst this;exact hint ‹_› ‹_› d (fun _ _=>⟨œ,fh⟩)
 case h_14=>obtain⟨b,d⟩:=M.aP h;clear h;have:=of_decide_eq_true b;subst this;exact hint ‹_› ‹_› d (fun _ _=>⟨œ,fh⟩)
 case h_15=>obtain⟨b,d⟩:=M.aP h;clear h;have:=of_decide_eq_true b;subst this;exact hint ‹_› ‹_› d (fun _ _=>⟨œ,fh⟩)
 case h_16=>obtain⟨b,d⟩:=M.aP h;clear h;have:=of_decide_eq_true b;subst this;exact hint ‹_› ‹_› d (fun _ _=>⟨œ,fh⟩)
 case h_17=>obtain⟨b,d⟩:=M.aP h;clear h;have:=of_decide_eq_true b;subst this;exact hint ‹_› ‹_› d (fun _ _=>⟨œ,fh⟩)
 case h_18=>
  obtain⟨b,h⟩:=M.aP h;have b:=Æ b;simp only [mx]at b;refine j ‹_› ‹_› h ⟨?_,rk (x:=_++_) (by rw [Θ];exact b)⟩
  have hm:IntKind.i64.max=9223372036854775807:=ŷ
  simp only [binOp,Op.stringOp,hm];rw [if_neg]
  .simp only [Sem.run_pure]
   congr 2
  .show ¬_>(9223372036854775807:Int)
   simp only [ByteArray.size];simp
   omega
 case h_19=>exact j ‹_› ‹_› h ⟨Ř,fh⟩
 case h_20=>exact j ‹_› ‹_› h ⟨Ř,fh⟩
 case h_21=>exact j ‹_› ‹_› h ⟨Ř,fh⟩
 case h_22=>exact j ‹_› ‹_› h ⟨Ř,fh⟩
 case h_23=>exact j ‹_› ‹_› h ⟨Ř,fh⟩
 case h_24=>exact j ‹_› ‹_› h ⟨Ř,fh⟩
 case h_25=>
  rename_i m n f g;obtain⟨b,d⟩:=M.aP h;obtain⟨rfl,rfl⟩:=cM d;have hu:=Qw p b;have f:=ta q f;have g:=ta q g;exact aZ.pure hI (lk ho (by rw [f,g];exact Qt _ _ _ _ _ _) (by rw [f,g];simp [binOp,Qu hu])) fh
 case h_26=>
  rename_i m n f g;obtain⟨b,d⟩:=M.aP h;obtain⟨rfl,rfl⟩:=cM d;have hu:=Qw p b;have f:=ta q f;have g:=ta q g;exact aZ.pure hI (lk ho (by rw [f,g];exact Qt _ _ _ _ _ _) (by rw [f,g];simp [binOp,Qu hu])) fh
 case h_27=>
  rename_i m f g;obtain⟨b,d⟩:=M.aP h;obtain⟨hy,r⟩:=M.aP d;obtain⟨rfl,rfl⟩:=cM r;exact Qx p hI q ho b f g (.inl ⟨rfl,rfl⟩) ö
 case h_28=>
  rename_i m f g;obtain⟨b,d⟩:=M.aP h;obtain⟨hy,r⟩:=M.aP d;obtain⟨rfl,rfl⟩:=cM r;exact Qx p hI q ho b f g (.inr ⟨rfl,rfl⟩) ö
 case h_29=>
  rename_i xs ys f g;obtain⟨b,d⟩:=M.aP h;clear h;split at d
  .rename_i bs hb
   obtain⟨rfl,rfl⟩:=cM d;obtain⟨vs,us,k1,k2,k3,k4⟩:=Qy p q b f g hb (w:=w) (P:=P);exact aZ.pure hI (lk ho (by rw [k1,k2];exact k3 _ _ _) (by rw [k1,k2];simp [binOp,k4])) fh
  .simp [M.run]at d
 case h_30=>
  rename_i xs ys f g;obtain⟨b,d⟩:=M.aP h;clear h;split at d
  .rename_i bs hb
   obtain⟨rfl,rfl⟩:=cM d;obtain⟨vs,us,k1,k2,k3,k4⟩:=Qy p q b f g hb (w:=w) (P:=P);exact aZ.pure hI (lk ho (by rw [k1,k2];exact k3 _ _ _) (by rw [k1,k2];simp [binOp,k4])) fh
  .simp [M.run]at d
 case h_31=>
  rename_i f g;obtain⟨b,d⟩:=M.aP h;obtain⟨rfl,rfl⟩:=cM d;obtain⟨e,hu⟩:=zU p b;have z:=(dK q f Ż).1
  have r2:=(dK q g Ż).1
  simp only [aB]at z r2;exact aZ.pure hI (lk ho (by rw [z,r2];simp [eqGuard]) (by rw [z,r2];simp [binOp,(Qv hu).1])) fh
 case h_32=>
  rename_i c x f g;obtain⟨b,d⟩:=M.aP h;obtain⟨rfl,rfl⟩:=cM d;obtain⟨e,hu⟩:=zU p b;have z:=(dK q f Ż).1
  have r2:=(dK q g Ż).1
  simp only [aB]at z r2;obtain⟨-, -,ad,m,n,z⟩:=z;exact aZ.pure hI (lk ho (by rw [z,r2];simp [eqGuard]) (by rw [z,r2];simp [binOp,(Qv hu).2])) fh
 case h_33=>simp [M.run]at h
end
end Go.Ev
namespace Go.Ev
section
variable {H:Heap} {R:Nat→Prop} {st:St} {θ:Asg} {own:Bool}
theorem aJ.append: ∀ {cs ds:List Cell} {vs us:List Value},aJ H R st θ cs vs->aJ H R st θ ds us->aJ H R st θ (cs++ds) (vs++us)
 | [],ds,vs,us,h,k=>by simp only [aJ]at h;subst h;simpa using k
 |c::cs,ds,vs,us,h,k=>by
  simp only [aJ]at h;obtain⟨v,b,rfl,d,f⟩:=h;simp only [Û,aJ];exact⟨v,b++us,rfl,d,aJ.append f k⟩
theorem aJ.take: ∀ {cs:List Cell} {vs:List Value} (n:Nat),aJ H R st θ cs vs->aJ H R st θ (cs.take n) (vs.take n)
 | [],vs,n,h=>į
 |c::cs,vs,0,h=>by simp [aJ]
 |c::cs,vs,n+1,h=>by
  simp only [aJ]at h;obtain⟨v,b,rfl,d,f⟩:=h;simp only [Õ,aJ];exact⟨v,_,rfl,d,aJ.take n f⟩
theorem aJ.drop: ∀ {cs:List Cell} {vs:List Value} (n:Nat),aJ H R st θ cs vs->aJ H R st θ (cs.drop n) (vs.drop n)
 | [],vs,n,h=>į
 |c::cs,vs,0,h=>Ű
 |c::cs,vs,n+1,h=>by
  simp only [aJ]at h;obtain⟨v,b,rfl,f,d⟩:=h;simpa only [Ζ]using aJ.drop n d
theorem aJ.one: ∀ {cs:List Cell} {vs:List Value},aJ H R st θ cs vs-> ∀v∈vs,cx v=å
 | [],vs,h,v,b=>by simp only [aJ]at h;simp [h]at b
 |c::cs,vs,h,v,b=>by
  simp only [aJ]at h;obtain⟨u,d,rfl,f,g⟩:=h;rcases Ä.1 b with rfl|b
  .exact f.2
  .exact aJ.one g v b
theorem GI {agg:Bool} {cs:List Cell} {vs:List Value} (h:aJ H R st θ cs vs) {u:Value} (hu:if agg=å then u=.agg vs.toArray else ∃v,vs=[v]/\u=v):aV H R st θ (lV agg cs) u:=by
 cases agg with
 |true=>
  simp only [if_true]at hu;simp only [lV,aV];exact⟨_,hu,Ű⟩
 |false=>
  simp only [Ç,if_false]at hu;obtain⟨v,rfl,rfl⟩:=hu;have d:=h.length;match cs,d with
  | [c],_=>
   simp only [aJ]at h;obtain⟨v,f,e,b, -⟩:=h;cases e;simp only [lV,aV];exact⟨b.1,.inr b.2⟩
theorem GJ: ∀ {cs:List Cell} {vs:List Value},pG cs vs=å->aJ H R st θ cs vs
 | [],[],_=>by simp [aJ]
 | [],_::_,h=>by simp [pG]at h
 |_::_,[],h=>by simp [pG]at h
 |c::cs,v::vs,h=>by
  simp only [pG,Ú]at h;simp only [aJ];refine⟨v,vs,rfl, ?_,GJ h.2⟩
  have b:=h.1;unfold Qq at b;split at b<;>simp_all [aB,cx,maxLen]
  rename_i k n k' m;obtain⟨rfl,rfl,rfl⟩:=b;cases k<;>decide
theorem zV {R':Nat->Prop} {f:Nat->(c:CT)->Interp c->Cell}: ∀ {ts:aR} {e:bc ts} {vs:List Value} {fps:List Nat} (j:Nat),az H R' own (bI ts e) vs fps->
  (∀(m:Nat) (c:CT) (x:Interp c) (v:Value) (fp:List Nat),bP c=å->(bI ts e)[m]? =ã (enc c x)->vs[m]? =ã v->aE H R' own (enc c x) v fp->(∀b∈fp,b∈fps)->aB H R st θ (f (j+m) c x) v)->
  aJ H R st θ (qP f j ts e) vs
 |.one c,e,vs,fps,j,h,g=>by
  simp only [bI,az]at h;obtain⟨v,i,f1,f2,rfl,rfl,d,rfl,rfl⟩:=h;simp only [qP,aJ];refine⟨v,[],rfl,⟨?_,d.cx⟩,rfl⟩
  cases c with
  |bool=>simp only [enc,aE]at d;simp only [pq,aB];exact d.1
  |int k=>simp only [enc,aE]at d;simp only [pq,aB];exact⟨d.1,d.2.1⟩
  |str=>simp only [enc,aE]at d;simp only [pq,aB];exact⟨d.1,d.2.1⟩
  |sl ts=>exact g 0 (.sl ts) e v f1 rfl ă rfl d Ż
  |tree fs=>exact g 0 (.tree fs) e v f1 rfl ă rfl d Ż
 |.cons c cs,e,vs,fps,j,h,g=>by
  simp only [bI,az]at h;obtain⟨v,i,f1,f2,rfl,rfl,d,q⟩:=h;simp only [qP,aJ];refine⟨v,i,rfl,⟨?_,d.cx⟩,zV (j+1) q (fun m r x s fp k1 k2 k3 t u=> ?_)⟩
  .cases c with
   |bool=>simp only [enc,aE]at d;simp only [pq,aB];exact d.1
   |int k=>simp only [enc,aE]at d;simp only [pq,aB];exact⟨d.1,d.2.1⟩
   |str=>simp only [enc,aE]at d;simp only [pq,aB];exact⟨d.1,d.2.1⟩
   |sl ts=>exact g 0 (.sl ts) e.1 v f1 rfl ă rfl d (fun b p=>by simp [p])
   |tree fs=>exact g 0 (.tree fs) e.1 v f1 rfl ă rfl d (fun b p=>by simp [p])
  .have:=g (m+1) r x s fp k1 (by simpa [bI]using k2) (by simpa using k3) t (fun b p=>by simp [u b p])
   rwa [Nat.add_assoc,Ρ 1 m]
end
section
variable {P:Program} {T:TypeId→Option TyI} {w0 w:World} {F R:Nat→Prop} {st st':St} {θ:Asg} {a:Act} {o:Oper} {v:TV} {l:Log}
def kC (i:TyI):Bool:=match i.u with|.struct _=>å|_=>ä
theorem zW {t:TypeId} {i:TyI} (h:pH P T t i):(isAgg t).run P w=.ok (kC i) w:=by
 have hu:=h.u;unfold kC;cases e:i.u<;>rw [e]at hu<;>simp only [nX]at hu
 case struct fs=>
  obtain⟨f,hu, -⟩:=hu;simp [isAgg,run_underlying hu]
 case ptr=>obtain⟨x,hu⟩:=hu;simp [isAgg,run_underlying hu]
 case func=>obtain⟨x,y,z,hu⟩:=hu;simp [isAgg,run_underlying hu]
 case iface=>obtain⟨x,hu⟩:=hu;simp [isAgg,run_underlying hu]
 all_goals simp [isAgg,run_underlying hu]
theorem GK {t:TypeId} {i:TyI} (h:pH P T t i):(sizeOf t).run P w=.ok i.size w:=by
 obtain⟨inf,z,b,d, -⟩:=h.info;simp [sizeOf,typeInfo,b,d]
theorem aeK {t:TypeId} {i:TyI} (h:pH P T t i): ∃z,(zeroValue t).run P w=.ok z w/\pG i.zero z.cells.toList=å/\(if kC i=å then ∃cs,z=.agg cs else cx z=å):=by
 obtain⟨inf,z,b,g, -,d,f,j⟩:=h.info;refine⟨z,by simp [zeroValue,typeInfo,b,d],f, ?_⟩
 unfold kC;cases e:i.u<;>simp_all
theorem Qz {t:TypeId} {i:TyI} (h:pH P T t i) {g off:Nat} {cur:Array Value} {ty:TypeId} {frz:Nat×Nat} (f:hp w g=ã (.cells cur ty frz)) (j:off+i.size<=cur.size):
  ∃u,(loadVar t ⟨g,off,â⟩).run P w=.ok u w/\(if kC i=å then u=.agg ((cur.toList.drop off).take i.size).toArray else ∃v,(cur.toList.drop off).take i.size=[v]/\u=v):=by
 cases d:kC i with
 |true=>
  refine⟨.agg ((cur.toList.drop off).take i.size).toArray, ?_,Ż⟩
  simp only [loadVar,Β,zW h,Ð,d,if_true,GK h,Qp f j];simp
 |false=>
  have k:i.size=1:=by
   have:=h.one;unfold kC at d;cases e:i.u<;>simp_all
  rw [k]at j |-;have b:off<cur.toList.length:=ź
  have m:cur.toList[off]? =ã cur.toList[off]:=List.getElem?_eq_getElem b
  refine⟨cur.toList[off], ?_, ?_⟩
  .simp only [loadVar,Β,zW h,Ð,d,Ç,if_false,adW f m]
  .simp only [Ç,if_false]
   refine⟨_, ?_,rfl⟩
   rw [Ø b];simp
theorem QA {t:TypeId} {i:TyI} (h:pH P T t i) {g off:Nat} {cur:Array Value} {ty:TypeId} {frz:Nat×Nat} {u:Value} (d:hp w g=ã (.cells cur ty frz)) (f:gM cur.size frz) (b:u.cells.size=i.size) (k:off+i.size<=cur.size)
  (j: ∀v∈u.cells.toList,cx v=å):
  (storeVar t ⟨g,off,â⟩ u).run P w=.ok () (w.setRow g (cur.toList.take off++(u.cells.toList++cur.toList.drop (off+i.size))).toArray):=by
 have hm:=GG (P:=P) (g:=g) (o:=off) (vs:=u.cells.toList) (i:=0) (w:=w) d f ź j
 simp only [Λ,Array.length_toList,b]at hm;simp only [storeVar,Β,GK h,Ð,b,ne_eq,not_true_eq_false,if_false];exact hm
theorem aeL (ax:Ok P T) (hI:Inv w0 F R st θ w) (hT:Tm (hp w) R st θ a) {t:TypeId} {x:Operand} (ho:o.op=.load t x) {i:TyI} (hi:T t=ã i)
  (h:(M.ji (bE st x) (Gn (kC i) i.size)).run st=ã (v,st',l)):aZ P w0 F R st θ w o a v st':=by
 have az:=ax.eY t i hi;have fin: ∀ {g off:Nat} {cur:Array Value} {ty:TypeId} {frz:Nat×Nat} {cs:List Cell},a.eval x=.pointer (ã ⟨g,off,â⟩)->hp w g=ã (.cells cur ty frz)->off+i.size<=cur.size->
   aJ (hp w) R st θ cs ((cur.toList.drop off).take i.size)->v=lV (kC i) cs->st'=st->aZ P w0 F R st θ w o a v st':=by
  intro g off cur ty frz cs e1 e2 e3 e4 e5 e6;subst e5 e6;obtain⟨u,k1,k2⟩:=Qz (P:=P) az e2 e3;refine aZ.pure hI (u:=u) ?_ (GI e4 k2)
  simp only [execOp,ho];refine ic ?_
  simp [Instr.loadAt,Instr.sureAddr,e1,k1]
 cases ep:bE st x with
 |agg _=>rw [ep]at h;simp [M.ji,M.run]at h
 |aM _=>rw [ep]at h;simp [M.ji,M.run]at h
 |one p=>
  rw [ep]at h;simp only [M.ji]at h;cases p<;>simp only [Gn]at h
  case pb b off=>
   obtain⟨cs,l1,hb,h⟩:=M.nY h;obtain⟨s,h⟩:=M.aP h;have q:=M.gn h;have s:=Æ s;have r:=(dK hT ep Ż).1
   simp only [aB]at r;obtain⟨arr,ty,frz,k1,k2,k3⟩:=hI.boxes b cs hb;have hl:=k3.length;exact fin r.2 k1 (by simp at hl;omega) ((k3.drop off).take i.size) q.1 q.2
  case pe k aH ix off=>
   obtain⟨l1,h⟩:=M.fR h;cases hd:(st.ar k).bj with
   |none=>simp [hd,M.run]at h
   |some d=>
    simp only [hd]at h;obtain⟨hv,h⟩:=M.aP h;obtain⟨e,he,h⟩:=M.eO h;obtain⟨s,h⟩:=M.aP h;have q:=M.gn h;have s:=Æ s;have hv:=Å hv;have r:=(dK hT ep Ż).1
    simp only [aB]at r;obtain⟨g,len,cap,k1,k2,k3⟩:=r.2.2 hv d hd;obtain⟨q1,q2,q3⟩:=hI.ar k d hd;have aj:=q2.share (R':=fun b=>b∈θ.fp k) (fun b hb=>hb)
    rw [k1]at aj;obtain⟨g',a8,e1,g2,o2,cur,ty,frz,e2,k4,k5,k6,k7⟩:=aj.elem q1 he;simp only [É,Addr.mk.injEq]at e1;obtain⟨rfl,rfl, -⟩:=e1;simp only [Nat.zero_add,Λ,Value.pointer.injEq,É,Addr.mk.injEq,and_true]at e2;obtain⟨rfl,rfl⟩:=e2;have z:=zV (st:=st) (θ:=θ) (f:=Gl k (st.ar k).aH (st.ar k).wv ix) (R:=R) 0 k7 (fun m c x v fp h1 h2 h3 h4 h5=>by
     simp only [Gl,aB];have:fp=[]:=Ë.2 fun b hb=>by simpa using h5 b hb
     subst this;refine⟨h1,ž,fun _=>⟨ž,fun _ d' ah=>⟨h4,fun i j aq=> ?_⟩⟩⟩
     rw [hd]at ah;cases ah;simp only [É,Ã]at aq;obtain⟨rfl,rfl⟩:=aq;refine⟨e,g,len,cap,cur,ty,frz,he,by simpa using h2,k1,k4,k5, ?_⟩
     rw [Ι]at h3
     split at h3
     .rw [Κ]at h3
      simpa using h3
     .cases h3)
    have:=(z.drop off).take i.size;refine fin k3 k5 ž ?_ q.1 q.2
    rw [Ñ,Ò,Ó,Ε ž]at this
    exact this
  case pr ts e off=>
   obtain⟨s,h⟩:=M.aP h;have q:=M.gn h;have s:=Æ s;have r:=(dK hT ep Ż).1
   simp only [aB]at r;obtain⟨g,o,cur,ty,frz,k1,k2,k3,k4,k5⟩:=r;have z:=zV (st:=st) (θ:=θ) (f:=Gk) (R:=R) 0 k5 (fun m c x v fp h1 h2 h3 h4 h5=>by
    simp only [Gk,aB];have:fp=[]:=Ë.2 fun b hb=>by simpa using h5 b hb
    subst this;exact⟨h1,h4⟩)
   have:=(z.drop off).take i.size;refine fin k1 k3 ž ?_ q.1 q.2
   rw [Ñ,Ò,Ó,Ε ž]at this
   exact this
  case pg k aH wv ts e off=>
   obtain⟨l1,h⟩:=M.fR h;cases hd:(st.ar k).bj with
   |none=>simp [hd,M.run]at h
   |some d=>
    simp only [hd]at h;obtain⟨hv,h⟩:=M.aP h;obtain⟨hw,h⟩:=M.aP h;obtain⟨s,h⟩:=M.aP h;have q:=M.gn h;have s:=Æ s;have hv:=Å hv;have hw:=Å hw;have r:=(dK hT ep Ż).1
    simp only [aB]at r;obtain⟨g,o,cur,ty,frz,k1,k2,k3,k4,k5⟩:=(r.2.2 hv).2 hw š
    have z:=zV (st:=st) (θ:=θ) (f:=Gm k aH wv) (R:=R) (H:=hp w) 0 k5 (fun m c x v fp h1 h2 h3 h4 h5=>by
     simp only [Gm,aB];have:fp=[]:=Ë.2 fun b hb=>by simpa using h5 b hb
     subst this;exact⟨h1,ž,fun _=>⟨ž,fun _ d' ah=>⟨h4,Ż⟩⟩⟩)
    have:=(z.drop off).take i.size;refine fin k1 k3 ž ?_ q.1 q.2
    rw [Ñ,Ò,Ó,Ε ž]at this
    exact this
  all_goals simp [M.run]at h
end
end Go.Ev
namespace Go.Ev
section
variable {P:Program} {T:TypeId→Option TyI} {w0 w:World} {F R:Nat→Prop} {st st':St} {θ:Asg} {a:Act} {o:Oper} {v:TV} {l:Log}
theorem QB (d:Inv w0 F R st θ w) (f:Tm (hp w) R st θ a) {x:Operand} (b:o.op=.move x\/o.op=.assign x)
  (h:(M.ret (bE st x)).run st=ã (v,st',l)):aZ P w0 F R st θ w o a v st':=by
 obtain⟨rfl,rfl⟩:=M.gn h;exact aZ.pure d (u:=a.eval x) (by rcases b with b|b<;>simp [execOp,b]) (iN f x)
theorem aeM (i:Inv w0 F R st θ w) (d:Tm (hp w) R st θ a) {c x y:Operand} (j:o.op=.pick c x y) {b:Bool} (f:bE st c=.one (.b b))
  (h:(M.br b (.ret (bE st x)) (.ret (bE st y))).run st=ã (v,st',l)):aZ P w0 F R st θ w o a v st':=by
 have g:=ta d f;cases b<;>simp only [M.run]at h<;>obtain⟨rfl,rfl⟩:=M.gn (by assumption)
 all_goals simp_all [aZ.pure,execOp,asBool,iN]
theorem QC (t:TypeId) (u:Value):(newVar t u).run P w=.ok ⟨w.heap.size,0,â⟩ (w.alloc (.cells u.cells t)):=by
 rfl
theorem QD (d:Inv w0 F R st θ w) {b:Nat} {cs:List Cell} {t:TypeId} {u:Value} (f:aJ (hp w) R st θ cs u.cells.toList)
  (he:(execOp a.eval o).run P w=.ok (.value (.pointer (ã ⟨w.heap.size,0,â⟩))) (w.alloc (.cells u.cells t)))
  (h:(M.nb b cs (c1 (.pb b 0))).run st=ã (v,st',l)):aZ P w0 F R st θ w o a v st':=by
 obtain⟨g,k,h⟩:=M.GH h;obtain⟨rfl,rfl⟩:=cM h;obtain⟨i,j⟩:=d.adU g (ty:=t) f;refine⟨_,_,_,.inl he,i,j,fx ?_ rfl⟩
 simp [aB,bC]
theorem aeN (d:Ok P T) (f:Inv w0 F R st θ w) {t:TypeId} (j:o.op=.alloc t) {i:TyI} (hi:T t=ã i) {b:Nat}
  (h:(M.nb b i.zero (c1 (.pb b 0))).run st=ã (v,st',l)):aZ P w0 F R st θ w o a v st':=by
 obtain⟨z,k,g, -⟩:=aeK (w:=w) (d.eY t i hi);refine QD (u:=z) (t:=t) f (GJ g) ?_ h
 simp_all [execOp,Instr.alloc,QC]
theorem zX {α:Type} {x:TV} {k:List Cell->M α} {r:α×St×Log} (h:(pn x k).run st=ã r):
  ∃cs,(k cs).run st=ã r/\ ∀(H:Heap) (u:Value),aV H R st θ x u->aJ H R st θ cs u.cells.toList:=by
 unfold pn at h;split at h
 .grind [M.run]
 .refine⟨_,h,fun H u b=> ?_⟩
  simp [aV]at b
  have:u.cells.toList=[u]:=by cases u<;>simp_all [cx,Value.cells]
  simp [aJ]
  simp_all
 .refine⟨_,h,fun H u b=> ?_⟩
  obtain⟨arr,rfl,b⟩:=b;exact b
 simp_all [M.run]
theorem aeO (d:Inv w0 F R st θ w) (f:Tm (hp w) R st θ a) {t:TypeId} {x:Operand} (i:o.op=.box t x) {n b:Nat}
  (h:(pn (bE st x) fun cs=>.gd (Â cs.length n) (.nb b cs (c1 (.pb b 0)))).run st=ã (v,st',l)):aZ P w0 F R st θ w o a v st':=by
 obtain⟨cs,h,g⟩:=zX (R:=R) (θ:=θ) h;obtain⟨-,h⟩:=M.aP h;refine QD (u:=a.eval x) (t:=t) d (g _ _ (iN f x)) ?_ h
 simp_all [execOp,Instr.box,QC]
theorem aeP (i:Inv w0 F R st θ w) (j:Tm (hp w) R st θ a) {x:Operand} (s:o.op=.nilCheck x) {c:Cell} (m:bE st x=.one c)
  (r:match c with|.pb _ _|.pe _ _ _ _|.pr _ _ _|.pg _ _ _ _ _ _|.fn _ _ _=>True|_=>False)
  (h:(c1 c).run st=ã (v,st',l)):aZ P w0 F R st θ w o a v st':=by
 obtain⟨rfl,rfl⟩:=cM h;have d:=iN j x;rw [m]at d;refine aZ.pure i (u:=a.eval x) ?_ d
 have d:=d.1;cases c<;>simp at r<;>simp [aB]at d
 case pb b off=>simp_all [execOp]
 case pe k aH t off=>obtain⟨⟨g,o,e⟩, -⟩:=d;simp_all [execOp]
 case pr ts e off=>obtain⟨g,o,cur,ty,frz,e, -⟩:=d;simp_all [execOp]
 case pg k aH wv ts e off=>obtain⟨⟨g,o,e⟩, -⟩:=d;simp_all [execOp]
 case fn f p q=>obtain⟨z,vb,e, -⟩:=d;simp_all [execOp]
theorem aeQ (d:Inv w0 F R st θ w) (f:Tm (hp w) R st θ a) {t:TypeId} {x:Operand} (g:o.op=.unOp .not t x) {b:Bool} (i:bE st x=.one (.b b))
  (h:(c1 (.b (!b))).run st=ã (v,st',l)):aZ P w0 F R st θ w o a v st':=by
 obtain⟨rfl,rfl⟩:=cM h;refine aZ.pure d (u:=.bool (!b)) ?_ fh
 simp only [execOp,g];simp [ξ,ta f i]
theorem aeR (b:Inv w0 F R st θ w) (d:Tm (hp w) R st θ a) {t:TypeId} {x:Operand} (f:o.op=.unOp .neg t x) {k:IntKind} {n:Int} (g:bE st x=.one (.i k n))
  (h:(c1 (.i k (k.wrap (0-n)))).run st=ã (v,st',l)):aZ P w0 F R st θ w o a v st':=by
 obtain⟨rfl,rfl⟩:=cM h;refine aZ.pure b (u:=.int k (k.wrap (0-n))) ?_ (ib (pJ _ _))
 simp only [execOp,f];simp [ξ,(fF d g).1,Op.intArith]
theorem zY (b:Ok P T) {t:TypeId} (h:qQ (T t)=å):P.underlying t=ã .string:=by
 unfold qQ at h;split at h
 .rename_i e
  exact(b.eY t _ e).u
 grind
theorem tb (b:Ok P T) {t:TypeId} {c:CT} (h:fw T t=ã c):bP c=å/\ ∃e,P.underlying t=ã (.slice e)/\ ∃inf z,P.info? e=ã inf/\inf.size=(ay c).size/\inf.bytes<=1024/\inf.zero=ã z/\mY (ay c) z.cells.toList=å/\
  (match ay c with|.one (.int .u8)=>P.underlying e=ã (.int .u8)|_=>True):=by
 unfold fw at h;split at h
 .rename_i e sz g j f q i
  cases d:bP f with
  |false=>simp_all
  |true=>
   simp [d]at h
   subst h;have k:=b.eY t _ i;exact⟨d,e,k.u,k.sl f rfl d e rfl⟩
 grind
theorem na {b:Option CT} {c:CT} (h:ld b c=å):b=ã c:=by
 unfold ld at h;grind [CT.eq_of_beq]
theorem aeS (b:Ok P T) (d:Inv w0 F R st θ w) (f:Tm (hp w) R st θ a) {s t:TypeId} {x:Operand} (g:o.op=.convert s t x) {k j k':IntKind} {n:Int}
  (m:jL T s=ã (.int j)) (p:jL T t=ã (.int k)) (q:bE st x=.one (.i k' n))
  (h:(c1 (.i k (k.wrap n))).run st=ã (v,st',l)):aZ P w0 F R st θ w o a v st':=by
 obtain⟨rfl,rfl⟩:=cM h;refine aZ.pure d (u:=.int k (k.wrap n)) ?_ (ib (pJ _ _))
 have hu: ∀ {t:TypeId} {u:U},jL T t=ã u->nX P t u:=fun {t u} h=>by
  simp [jL]at h
  obtain⟨i,hi,rfl⟩:=h;exact(b.eY t i hi).u
 have r:=hu m;have z:=hu p;simp only [execOp,g];simp [convert,run_underlying r,run_underlying z,(fF f q).1,Conv.intToInt]
theorem aeT (b:Ok P T) (d:Inv w0 F R st θ w) (f:Tm (hp w) R st θ a) {s t:TypeId} {x:Operand} (p:o.op=.convert s t x) {n:O}
  (g:jL T s=ã .str) (j:jL T t=ã .str) (k:bE st x=.one (.s n))
  (h:(c1 (.s n)).run st=ã (v,st',l)):aZ P w0 F R st θ w o a v st':=by
 obtain⟨rfl,rfl⟩:=cM h;have m:=rj f k;refine aZ.pure d (u:=.string ⟨n.toArray⟩) ?_ (rk m.2)
 have hu: ∀ {t:TypeId} {u:U},jL T t=ã u->nX P t u:=fun {t u} h=>by
  simp [jL]at h
  obtain⟨i,hi,rfl⟩:=h;exact(b.eY t i hi).u
 have q:=hu g;have r:=hu j;simp_all [nX,execOp,convert,run_underlying]
theorem aeU (d:Ok P T) (j:Inv w0 F R st θ w) (f:Tm (hp w) R st θ a) {t:TypeId} {x i:Operand} (m:o.op=.index t x i)
  (h:(Gs (T t) (bE st x) (bE st i)).run st=ã (v,st',l)):aZ P w0 F R st θ w o a v st':=by
 unfold Gs at h;split at h
 .rename_i s k n g hi
  obtain⟨hu,h⟩:=M.aP h;obtain⟨b,p,h⟩:=M.eO h;obtain⟨rfl,rfl⟩:=cM h;have g:=rj f g;have hi:=fF f hi;have hu:=zY d hu;refine aZ.pure j (u:=.int .u8 (b.toNat:Int)) ?_ (ib ?_)
  .simp only [execOp,m]
   simp [bF,nth]at p
   cases r:á (0<=n)with
   |false=>simp_all
   |true=>
    have q:(⟨s.toArray⟩:ByteArray)[n.toNat]? =ã b:=by
     grind [ByteArray.size,ByteArray.getElem_eq_getElem_data]
    simp_all [Instr.index,asIntOf,run_underlying]
  .have:=b.toNat_lt
   grind [IntKind.min,IntKind.max,IntKind.signed,IntKind.bits]
 simp_all [M.run]
theorem aeV (d:Ok P T) (q:Inv w0 F R st θ w) (r:Tm (hp w) R st θ a) {cl:Call} {x:Operand} {t:TypeId} {ts:List TypeId} (ho:o.op=.call cl) (ae:cl.callee=.builtin .len) (ha:cl.args.toList=[x]) (j:cl.argTypes.toList=t::ts)
  (h:(M.ji (bE st x) (Gq (T t))).run st=ã (v,st',l)):aZ P w0 F R st θ w o a v st':=by
 have af:cl.args= #[x]:=Ŵ
 have f:cl.argTypes[0]? =ã t:=by rw [<-Array.getElem?_toList,j];rfl
 have fin: ∀(n:Nat),n<=maxLen->(Builtin.len_ cl.argTypes o.type #[a.eval x]).run P w=.ok (.int .i64 (n:Int)) w->v=.one (.i .i64 (n:Int))->st'=st->aZ P w0 F R st θ w o a v st':=by
  intro n hn g k e2;subst k;subst e2;refine aZ.pure q (u:=.int .i64 (n:Int)) ?_ (ib ?_)
  .simp_all [execOp,resolve,invoke,builtin]
  grind [maxLen,IntKind.min,IntKind.max,IntKind.signed,IntKind.bits]
 have gi: ∀n:Nat,n<=maxLen->goInt n=.int .i64 (n:Int):=by
  simp [maxLen,goInt]
 cases m:bE st x with
 |agg _=>simp_all [M.ji,M.run]
 |aM _=>simp_all [M.ji,M.run]
 |one p=>
  rw [m]at h;simp only [M.ji,Gq]at h;split at h
  .rename_i s
   obtain⟨hu,h⟩:=M.aP h;have b:=cM h;have z:=rj r m;exact fin s.length z.2 (by simp [Builtin.len_,f,run_underlying (zY d hu),z.1,goInt,show(⟨s.toArray⟩:ByteArray).size=s.length from rfl]) b.1 b.2
  .obtain⟨hu,h⟩:=M.aP h
   obtain⟨e,hu⟩:=zU d hu;have g:=iN r x;rw [m]at g;simp only [aV]at g;rcases zR q g.1 h with⟨⟨ad,k⟩,h⟩|⟨c,y,l1,R',h,hc,hy, -⟩
   .have b:=cM h
    exact fin 0 ž ć b.1 b.2
   .have b:=cM h
    obtain⟨ad,cap,k,h1,h2⟩:=hy.ia hc;exact fin (aF c y) ž ć b.1 b.2
end
end Go.Ev
