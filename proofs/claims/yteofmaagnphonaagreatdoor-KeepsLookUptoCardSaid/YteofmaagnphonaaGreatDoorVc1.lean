/- An abstract machine for the model: what it computes on, its operations, the walk of a body, and that all of it is true of the model (part 1). -/
import Derived.ChangeKeysEq
import Derived.LaidEqlPtr
import Derived.Laws.StructEq
import Derived.Lib.Builder
import Derived.Lib.ConvBytes
import Derived.Lib.UnsafeStr
import Derived.MapKept
import Derived.WalkKit
import Derived.WideKeyRuns
set_option linter.unusedSectionVars false
open List
namespace Go.Vc
inductive Dt where
 |b (x:Bool)
 |i (k:IntKind) (n:Int)
 |s (x:List UInt8)
 |l (rows:List (List Dt))
 |a (ds:List Dt)
 |r (v:Value)
inductive Va where
 |p (x:Dt)
 |nils
 |full (rows:List (List Dt))
 |rp (row:List Dt)
 |ptr (o off:Nat)
 |el (o sz i off:Nat)
 |buf (o:Nat)
 |mp (o:Nat)
 |np (o:Nat)
 |sd (o:Nat)
 |vw (o sz a n:Nat)
 |bufc (o cp:Nat)
 |nv (o i:Nat)
 |ne (o sz i j off:Nat)
 |cs (o n:Nat)
 |fn (f:FuncId) (caps:List Va)
 |agg (cs:List Va)
 |tup (vs:List Va)
 |nil
 |cnd (c:Bool) (v:Va)
 |raw (v:Value)
 |er (nil:Bool)
 |top
def eC:Nat:=274877906944
theorem Yr:eC=274877906944:=rfl
def lo:IntKind->Int
 |.i8=>-128|.i16=>-32768|.i32=>-2147483648|.i64=>-9223372036854775808|_=>0
def hi:IntKind->Int
 |.i8=>127|.i16=>32767|.i32=>2147483647|.i64=>9223372036854775807
 |.u8=>255|.u16=>65535|.u32=>4294967295|.u64=>18446744073709551615
def Fits(k:IntKind)(n:Int):Prop:=lo k<=n/\n<=hi k
structure Gh where
 blk:Option Nat
 sv:Value
 inn:List Value
def ip:Value->Option Nat
 |.slice (some ⟨b,_,_⟩) _ (_+1)=>some b
 |_=>none
def own(g:Gh)(b:Nat):Prop:=g.blk=some b∨∃v∈g.inn,ip v=some b
mutual
def DR(K:Nat->Prop)(h:Array Obj):Value->Dt->Prop
 |c,.b x=>c=.bool x
 |c,.i k n=>c=.int k n/\Fits k n
 |c,.s x=>c=.string ⟨x.toArray⟩/\x.length<=eC
 |c,.l d=>((∃a,c=.slice a 0 0)/\d=[]) ∨
   ∃b e f cs T m o g,c=.slice (some ⟨b,e,none⟩) d.length f/\K b/\h[b]?=some (.cells cs T m) /\
    d.length<=f/\d.length<=eC/\(∀j v,g[j]?=some v->cs[e+j]?=some v)/\DRss K h o g d
 |_,.a _=>False
 |c,.r v=>c=v/\v.oneCell'=true
def DRs(K:Nat->Prop)(h:Array Obj):List Value->List Dt->Prop
 |b,[]=>b=[]
 |b,d::c=>∃v a,b=v::a/\DR K h v d/\DRs K h a c
def DRss(K:Nat->Prop)(h:Array Obj)(sz:Nat):List Value->List (List Dt)->Prop
 |c,[]=>c=[]
 |c,r::d=>∃a b,c=a++b/\r.length=sz/\DRs K h a r/\DRss K h sz b d
end
def Vo(c:Value)(f:Option Nat)(h:Option Addr)(N g i a n:Nat):Prop :=
 a+n<=N/\∃e d,c=.slice e n d/\n<=d/\a+d<=g/\(0<d->∃b,f=some b/\h=some ⟨b,0,none⟩/\e=some ⟨b,a*i,none⟩)
mutual
def VR(K:Nat->Prop)(h:Array Obj)(G:List Gh):Value->Va->Prop
 |c,.p x=>DR K h c x
 |c,.nils=>c=.slice none 0 0
 |c,.full k=>DR K h c (.l k)/\∃a,c=.slice a k.length k.length
 |c,.rp s=>∃b e cs T w m,c=.pointer (some ⟨b,e,none⟩)/\K b/\h[b]?=some (.cells cs T w) /\
   (∀j v,m[j]?=some v->cs[e+j]?=some v)/\DRs K h m s
 |c,.ptr o e=>∃g b,G[o]?=some g/\g.blk=some b/\c=.pointer (some ⟨b,e,none⟩)
 |c,.cs o n=>∃g b,G[o]?=some g/\g.blk=some b/\c=.slice (some ⟨b,0,none⟩) n n
 |c,.el o q i e=>∃g b n d,G[o]?=some g/\g.blk=some b/\g.sv=.slice (some ⟨b,0,none⟩) n d/\c=.pointer (some ⟨b,i*q+e,none⟩)
 |c,.buf o=>∃g,G[o]?=some g/\c=g.sv/\∃a n d,g.sv=.slice a n d
 |c,.mp o=>∃g b,G[o]?=some g/\g.blk=some b/\c=.map (some b)
 |c,.np o=>c=.pointer none∨∃g b,G[o]?=some g/\g.blk=some b/\c=.pointer (some ⟨b,0,none⟩)
 |c,.sd o=>∃g a n d,G[o]?=some g/\g.sv=.slice a n d/\c=.pointer a
 |c,.bufc o y=>∃g a n d,G[o]?=some g/\g.sv=.slice a n d/\c=g.sv/\d=y
 |c,.nv o i=>∃g a n d,G[o]?=some g/\g.inn[i]?=some (.slice a n d)/\c=.slice a n d
 |c,.ne o q i j e=>∃g b n d,G[o]?=some g/\g.inn[i]?=some (.slice (some ⟨b,0,none⟩) n (d+1))/\c=.pointer (some ⟨b,j*q+e,none⟩)
 |c,.vw o q a n=>∃g u N d,G[o]?=some g/\g.sv=.slice u N d/\Vo c g.blk u N d q a n
 |c,.fn f r=>∃cs,c=.func (.func f) #[] cs.toArray/\VRs K h G cs r
 |c,.agg m=>∃cs,c=.agg cs.toArray/\VRs K h G cs m
 |c,.tup m=>∃cs,c=.tuple cs.toArray/\VRs K h G cs m
 |c,.nil=>c=.pointer none
 |c,.cnd t v=>(t=true->VR K h G c v)/\(t=false->c=undef)
 |c,.raw v=>c=v
 |c,.er b=>(b=true/\c=.nilIface)∨(b=false/\∃t v,c=.iface t v)
 |_,.top=>True
def VRs(K:Nat->Prop)(h:Array Obj)(G:List Gh):List Value->List Va->Prop
 |cs,[]=>cs=[]
 |cs,v::b=>∃c a,cs=c::a/\VR K h G c v/\VRs K h G a b
end
inductive Ob where
 |cells (T:TypeId) (vs:List Va)
 |buf (T:TypeId) (sz:Nat) (rows:List (List Dt))
 |fx (T:TypeId) (sz:Nat) (rows:List (List Dt))
 |sb (T:TypeId) (bs:List UInt8)
 |mp (ag:Bool) (es:List (Dt×List Dt))
 |mpb (ag:Bool) (es:List (Dt×List Dt)) (bs:List Nat) (cl:Nat)
 |it (o cl:Nat) (seen:List Nat)
 |nst (fx:Bool) (T:TypeId) (sz k p:Nat) (rows:List (List Dt)) (st:Option Nat)
 |inn (T:TypeId) (sz:Nat) (ins:List (List (List Dt)))
 |gone
 |lost
def Ob.kept:Ob->Bool
 |.cells _ _=>true
 |.mp _ _=>true
 |.mpb _ _ _ _=>true
 |.fx _ _ _=>true
 |.nst f _ _ _ _ _ _=>f
 |.lost=>true
 |_=>false
def KR(K:Nat->Prop)(h:Array Obj)(c:Value):Dt->Prop
 |.a d=>∃cs:List Value,c=.agg cs.toArray/\DRs K h cs d
 |.b x=>DR K h c (.b x)
 |.i k x=>DR K h c (.i k x)
 |.s x=>DR K h c (.s x)
 |.l x=>DR K h c (.l x)
 |.r x=>DR K h c (.r x)
def MRs(K:Nat->Prop)(h:Array Obj)(a:Bool):List MapEntry->List (Dt×List Dt)->Prop
 |[],[]=>True
 |e::b,p::c=>KR K h e.key p.1/\(match a with
   |true=>∃cs:List Value,e.val=.agg cs.toArray/\DRs K h cs p.2
   |false=>∃d,p.2=[d]/\DR K h e.val d)/\MRs K h a b c
 |_,_=>False
def Free(a:Nat×Nat)(n:Nat):Prop:=a.1=a.2∨n<=a.1
theorem Free.out{a:Nat×Nat}{n:Nat}(h:Free a n):∀i,i<n->¬ (a.1<=i/\i<a.2):=by
 intro i hi b;rcases h with h|h <;> omega
def oz(a:Nat×Nat)(n:Nat):Prop:=a.1=a.2∨(a.1=0/\a.2<=n)
def me(b:UInt8):Value:=.int .u8 b.toNat
def bufR(K:Nat->Prop)(h:Array Obj)(f:Option Nat)(g:Value)(T:TypeId)(e:Nat)(rows:List (List Dt)):Prop :=
 rows.length<=eC/\∃i,DRss K h e i rows /\
   (((∃a,g=.slice a 0 0)/\rows=[]/\f=none) ∨
    ∃b c d j,g=.slice (some ⟨b,0,none⟩) rows.length c/\f=some b/\h[b]?=some (.cells d T j)/\Free j d.size /\
     rows.length<=c/\c<=maxLen/\c*e<=d.size/\d.toList.take (rows.length*e)=i)
def fP(k:Nat):List (List Dt)->List Value->List (List Dt)
 |r::a,v::b=>r.set k (.r v)::fP k a b
 |_,_=>[]
def TM(d:Option Nat)(b inn:List Value):Prop:=b.length=inn.length/\(∀j:Nat,d≠some j->b[j]?=inn[j]?)/\∀v∈inn,∃a n c,v=.slice a n c
def ObR(K:Nat->Prop)(h:Array Obj)(G:List Gh)(g:Gh):Ob->Prop
 |.cells T n=>∃b cs,g.blk=some b/\h[b]?=some (.cells cs.toArray T (0,0))/\VRs K h G cs n
 |.buf T l a=>bufR K h g.blk g.sv T l a
 |.fx T l a=>bufR K h g.blk g.sv T l a
 |.sb T f=>f.length<=eC /\
   ((g.sv=.slice none 0 0/\f=[]/\g.blk=none) ∨
    ∃b d m x,g.sv=.slice (some ⟨b,0,none⟩) f.length d/\g.blk=some b/\h[b]?=some (.cells m T x)/\oz x f.length /\
     f.length<=d/\0<d/\d<=maxLen/\m.size=d/\m.toList.take f.length=f.map me)
 |.mp w q=>q.length<=eC/\∃b c e,g.blk=some b/\h[b]?=some (.map c e)/\MRs K h w c.toList q/\MapKept.Stamped c e
 |.mpb w q f r=>q.length<=eC/\∃b c,g.blk=some b/\h[b]?=some (.map c r)/\MRs K h w c.toList q/\MapKept.Stamped c r/\c.toList.map (·.born)=f
 |.it o r s=>∃b y z,g.blk=some b/\G[o]?=some z/\z.blk=some y/\h[b]?=some (.mapIter (some y) r s.toArray r)
 |.nst _ T l k p a B=>a.length<=eC/\k<l/\∃A n,G[p]?=some A/\n.length=a.length/\TM B n A.inn/\bufR K h g.blk g.sv T l (fP k a n)
 |.inn T l t=>g.blk=none/\g.inn.length=t.length/\(∀(j:Nat) (v:Value) (a:List (List Dt)),g.inn[j]?=some v->t[j]?=some a->bufR K h (ip v) v T l a) /\
   ∀(i j:Nat) (v u:Value) (b:Nat),g.inn[i]?=some v->g.inn[j]?=some u->ip v=some b->ip u=some b->i=j
 |.gone=>True
 |.lost=>True
structure Mn(K K':Nat->Prop)(h h':Array Obj):Prop where
 k:∀b,K b->K' b
 h:∀b,K b->h'[b]?=h[b]?
def Mg(f:Nat->Bool)(G a:List Gh):Prop:=∀(o:Nat) (g:Gh),f o=true->G[o]?=some g->a[o]?=some g
section
variable {K K':Nat->Prop} {h h':Array Obj}
mutual
theorem DR.mono(M:Mn K K' h h'):∀(c:Value) (d:Dt),DR K h c d->DR K' h' c d
 |_,.b _,H=>by simpa [DR]using H
 |_,.i _ _,H=>by simpa [DR]using H
 |_,.s _,H=>by simpa [DR]using H
 |_,.l e,H=>by
  unfold DR at *;rcases H with H|⟨b,f,g,cs,T,o,j,m,p,n,q,t,u,w,x⟩
  .exact .inl H
  .exact .inr ⟨b,f,g,cs,T,o,j,m,p,M.k b n,(M.h b n).trans q,t,u,w,DRss.mono M j m e x⟩
 |_,.a y,H=>by simp[DR]at H
 |_,.r v,H=>by simpa [DR]using H
theorem DRs.mono(M:Mn K K' h h'):∀(vs:List Value) (b:List Dt),DRs K h vs b->DRs K' h' vs b
 |_,[],H=>by simpa [DRs]using H
 |_,d::b,H=>by unfold DRs at *;obtain⟨v,a,c,e,f⟩:=H;exact⟨v,a,c,DR.mono M v d e,DRs.mono M a b f⟩
theorem DRss.mono(M:Mn K K' h h')(d:Nat):∀(vs:List Value) (c:List (List Dt)),DRss K h d vs c->DRss K' h' d vs c
 |_,[],H=>by simpa [DRss]using H
 |_,r::c,H=>by unfold DRss at *;obtain⟨a,b,e,f,g,i⟩:=H;exact⟨a,b,e,f,DRs.mono M a r g,DRss.mono M d b c i⟩
end
end
section
variable {K K':Nat->Prop} {h h':Array Obj}
theorem KR.mono(M:Mn K K' h h'){c:Value}:∀{d:Dt},KR K h c d->KR K' h' c d
 |.a e,⟨cs,f,g⟩=>⟨cs,f,DRs.mono M cs e g⟩
 |.b _,H=>DR.mono M _ _ H
 |.i _ _,H=>DR.mono M _ _ H
 |.s _,H=>DR.mono M _ _ H
 |.l _,H=>DR.mono M _ _ H
 |.r _,H=>DR.mono M _ _ H
theorem MRs.mono(M:Mn K K' h h'){b:Bool}:∀{a:List MapEntry} {c:List (Dt×List Dt)},MRs K h b a c->MRs K' h' b a c
 |[],[],H=>H
 |e::a,p::c,H=>by
  simp only[MRs]at *;refine⟨KR.mono M H.1,?_,MRs.mono M H.2.2⟩;cases b with
  |true=>obtain⟨cs,f,g⟩:=H.2.1;exact⟨cs,f,DRs.mono M _ _ g⟩
  |false=>obtain⟨d,f,g⟩:=H.2.1;exact⟨d,f,DR.mono M _ _ g⟩
 |[],_::_,H=>by simp[MRs]at H
 |_::_,[],H=>by simp[MRs]at H
end
-- every object that it names is of this kind
mutual
def Va.all(f:Nat->Bool):Va->Bool
 |.ptr o _|.cs o _|.el o _ _ _|.buf o|.mp o|.np o|.sd o|.vw o _ _ _|.bufc o _|.nv o _|.ne o _ _ _ _=>f o
 |.fn _ a|.agg a|.tup a=>dq f a
 |.cnd _ v=>v.all f
 |_=>true
def dq(f:Nat->Bool):List Va->Bool
 |[]=>true
 |v::a=>v.all f&&dq f a
end
-- what names an object of another kind is forgotten
mutual
def Va.prune(f:Nat->Bool):Va->Va
 |.ptr o b=>if f o then .ptr o b else .top
 |.cs o b=>if f o then .cs o b else .top
 |.el o d i b=>if f o then .el o d i b else .top
 |.buf o=>if f o then .buf o else .top
 |.mp o=>if f o then .mp o else .top
 |.np o=>if f o then .np o else .top
 |.sd o=>if f o then .sd o else .top
 |.vw o d a n=>if f o then .vw o d a n else .top
 |.bufc o h=>if f o then .bufc o h else .top
 |.nv o i=>if f o then .nv o i else .top
 |.ne o d i j b=>if f o then .ne o d i j b else .top
 |.fn g e=>.fn g (dh f e)
 |.agg e=>.agg (dh f e)
 |.tup e=>.tup (dh f e)
 |.cnd c v=>if v.all f then .cnd c v else .top
 |v=>v
def dh(f:Nat->Bool):List Va->List Va
 |[]=>[]
 |v::a=>v.prune f::dh f a
end
section
variable {K K':Nat->Prop} {h h':Array Obj} {f:Nat->Bool} {G G':List Gh}
mutual
theorem VR.prune(M:Mn K K' h h')(q:Mg f G G'):∀(c:Value) (v:Va),VR K h G c v->VR K' h' G' c (v.prune f)
 |c,.p x,H=>by simp only[VR,Va.prune]at *;exact DR.mono M c x H
 |c,.nils,H=>by simpa [VR,Va.prune]using H
 |c,.full w,H=>by
  simp only[VR,Va.prune]at *;exact⟨DR.mono M c _ H.1,H.2⟩
 |c,.rp u,H=>by
  simp only[VR,Va.prune]at *;obtain⟨b,r,cs,T,y,s,j,d,z,A,B⟩:=H;exact⟨b,r,cs,T,y,s,j,M.k b d,(M.h b d).trans z,A,DRs.mono M s u B⟩
 |c,.ptr o r,H=>by
  simp only[Va.prune];split
  .rename_i l;simp only[VR]at *;obtain⟨g,b,j,d⟩:=H;exact⟨g,b,q o g l j,d⟩
  .simp[VR]
 |c,.cs o r,H=>by
  simp only[Va.prune];split
  .rename_i l;simp only[VR]at *;obtain⟨g,b,j,d⟩:=H;exact⟨g,b,q o g l j,d⟩
  .simp[VR]
 |c,.el o C i r,H=>by
  simp only[Va.prune];split
  .rename_i l;simp only[VR]at *;obtain⟨g,b,n,m,j,d⟩:=H;exact⟨g,b,n,m,q o g l j,d⟩
  .simp[VR]
 |c,.buf o,H=>by
  simp only[Va.prune];split
  .rename_i l;simp only[VR]at *;obtain⟨g,j,d⟩:=H;exact⟨g,q o g l j,d⟩
  .simp[VR]
 |c,.mp o,H=>by
  simp only[Va.prune];split
  .rename_i l;simp only[VR]at *;obtain⟨g,b,j,d⟩:=H;exact⟨g,b,q o g l j,d⟩
  .simp[VR]
 |c,.np o,H=>by
  simp only[Va.prune];split
  .rename_i l;simp only[VR]at *;rcases H with H|⟨g,b,j,d⟩
   .exact .inl H
   .exact .inr ⟨g,b,q o g l j,d⟩
  .simp[VR]
 |c,.sd o,H=>by
  simp only[Va.prune];split
  .rename_i l;simp only[VR]at *;obtain⟨g,a,n,m,j,d⟩:=H;exact⟨g,a,n,m,q o g l j,d⟩
  .simp[VR]
 |c,.vw o _ _ _,H=>by
  simp only[Va.prune];split
  .rename_i l;simp only[VR]at *;obtain⟨g,a,n,m,j,d⟩:=H;exact⟨g,a,n,m,q o g l j,d⟩
  .simp[VR]
 |c,.bufc o _,H=>by
  simp only[Va.prune];split
  .rename_i l;simp only[VR]at *;obtain⟨g,a,n,m,j,d⟩:=H;exact⟨g,a,n,m,q o g l j,d⟩
  .simp[VR]
 |c,.nv o _,H=>by
  simp only[Va.prune];split
  .rename_i l;simp only[VR]at *;obtain⟨g,a,n,m,j,d⟩:=H;exact⟨g,a,n,m,q o g l j,d⟩
  .simp[VR]
 |c,.ne o _ _ _ _,H=>by
  simp only[Va.prune];split
  .rename_i l;simp only[VR]at *;obtain⟨g,b,n,m,j,d⟩:=H;exact⟨g,b,n,m,q o g l j,d⟩
  .simp[VR]
 |c,.fn g s,H=>by
  simp only[VR,Va.prune]at *;obtain⟨cs,j,d⟩:=H;exact⟨cs,j,VRs.prune M q cs s d⟩
 |c,.agg s,H=>by
  simp only[VR,Va.prune]at *;obtain⟨cs,j,d⟩:=H;exact⟨cs,j,VRs.prune M q cs s d⟩
 |c,.tup s,H=>by
  simp only[VR,Va.prune]at *;obtain⟨cs,j,d⟩:=H;exact⟨cs,j,VRs.prune M q cs s d⟩
 |c,.nil,H=>by simpa [VR,Va.prune]using H
 |c,.cnd t v,H=>by
  simp only[Va.prune];split
  .rename_i l;simp only[VR]at *;exact⟨fun e=>VR.keep M q c v l (H.1 e),H.2⟩
  .simp[VR]
 |c,.raw v,H=>by simpa [VR,Va.prune]using H
 |c,.er v,H=>by simpa [VR,Va.prune]using H
 |c,.top,_=>by simp[VR,Va.prune]
theorem VRs.prune(M:Mn K K' h h')(b:Mg f G G'):∀(cs:List Value) (vs:List Va),VRs K h G cs vs->VRs K' h' G' cs (dh f vs)
 |cs,[],H=>by simpa [VRs,dh]using H
 |cs,v::vs,H=>by simp only[VRs,dh]at *;obtain⟨c,a,d,e,g⟩:=H;exact⟨c,a,d,VR.prune M b c v e,VRs.prune M b a vs g⟩
theorem VR.keep(M:Mn K K' h h')(q:Mg f G G'):∀(c:Value) (v:Va),v.all f=true->VR K h G c v->VR K' h' G' c v
 |c,.p x,_,H=>by simp only[VR]at *;exact DR.mono M c x H
 |c,.nils,_,H=>by simpa [VR]using H
 |c,.full w,_,H=>by
  simp only[VR]at *;exact⟨DR.mono M c _ H.1,H.2⟩
 |c,.rp u,_,H=>by
  simp only[VR]at *;obtain⟨b,r,cs,T,y,s,j,d,z,A,B⟩:=H;exact⟨b,r,cs,T,y,s,j,M.k b d,(M.h b d).trans z,A,DRs.mono M s u B⟩
 |c,.ptr o r,l,H=>by simp only[VR,Va.all]at *;obtain⟨g,b,j,d⟩:=H;exact⟨g,b,q o g l j,d⟩
 |c,.cs o r,l,H=>by simp only[VR,Va.all]at *;obtain⟨g,b,j,d⟩:=H;exact⟨g,b,q o g l j,d⟩
 |c,.el o C i r,l,H=>by simp only[VR,Va.all]at *;obtain⟨g,b,n,m,j,d⟩:=H;exact⟨g,b,n,m,q o g l j,d⟩
 |c,.buf o,l,H=>by simp only[VR,Va.all]at *;obtain⟨g,j,d⟩:=H;exact⟨g,q o g l j,d⟩
 |c,.mp o,l,H=>by simp only[VR,Va.all]at *;obtain⟨g,b,j,d⟩:=H;exact⟨g,b,q o g l j,d⟩
 |c,.np o,l,H=>by
  simp only[VR,Va.all]at *;rcases H with H|⟨g,b,j,d⟩
  .exact .inl H
  .exact .inr ⟨g,b,q o g l j,d⟩
 |c,.sd o,l,H=>by simp only[VR,Va.all]at *;obtain⟨g,a,n,m,j,d⟩:=H;exact⟨g,a,n,m,q o g l j,d⟩
 |c,.vw o _ _ _,l,H=>by simp only[VR,Va.all]at *;obtain⟨g,a,n,m,j,d⟩:=H;exact⟨g,a,n,m,q o g l j,d⟩
 |c,.bufc o _,l,H=>by simp only[VR,Va.all]at *;obtain⟨g,a,n,m,j,d⟩:=H;exact⟨g,a,n,m,q o g l j,d⟩
 |c,.nv o _,l,H=>by simp only[VR,Va.all]at *;obtain⟨g,a,n,m,j,d⟩:=H;exact⟨g,a,n,m,q o g l j,d⟩
 |c,.ne o _ _ _ _,l,H=>by simp only[VR,Va.all]at *;obtain⟨g,b,n,m,j,d⟩:=H;exact⟨g,b,n,m,q o g l j,d⟩
 |c,.fn g s,l,H=>by
  simp only[VR,Va.all]at *;obtain⟨cs,j,d⟩:=H;exact⟨cs,j,VRs.keep M q cs s l d⟩
 |c,.agg s,l,H=>by
  simp only[VR,Va.all]at *;obtain⟨cs,j,d⟩:=H;exact⟨cs,j,VRs.keep M q cs s l d⟩
 |c,.tup s,l,H=>by
  simp only[VR,Va.all]at *;obtain⟨cs,j,d⟩:=H;exact⟨cs,j,VRs.keep M q cs s l d⟩
 |c,.nil,_,H=>by simpa [VR]using H
 |c,.cnd t v,l,H=>by
  simp only[VR,Va.all]at *;exact⟨fun e=>VR.keep M q c v l (H.1 e),H.2⟩
 |c,.raw v,_,H=>by simpa [VR]using H
 |c,.er v,_,H=>by simpa [VR]using H
 |c,.top,_,_=>by simp[VR]
theorem VRs.keep(M:Mn K K' h h')(b:Mg f G G'):∀(cs:List Value) (vs:List Va),dq f vs=true->VRs K h G cs vs->VRs K' h' G' cs vs
 |cs,[],_,H=>by simpa [VRs]using H
 |cs,v::vs,d,H=>by simp only[VRs,dq,Bool.and_eq_true]at *;obtain⟨c,a,e,g,i⟩:=H;exact⟨c,a,e,VR.keep M b c v d.1 g,VRs.keep M b a vs d.2 i⟩
end
end
mutual
theorem Va.all_true:∀v:Va,v.all (fun _=>true)=true
 |.p _|.nils|.full _|.rp _|.ptr _ _|.cs _ _|.el _ _ _ _|.buf _|.mp _|.np _|.sd _|.vw _ _ _ _|.bufc _ _|.nv _ _|.ne _ _ _ _ _|.nil|.raw _|.er _|.top=>rfl
 |.fn _ a=>dj a
 |.agg a=>dj a
 |.tup a=>dj a
 |.cnd _ v=>Va.all_true v
theorem dj:∀a:List Va,dq (fun _=>true) a=true
 |[]=>rfl
 |v::a=>by simp only[dq,Va.all_true v,dj a,Bool.and_self]
end
section
variable {K K':Nat->Prop} {h h':Array Obj} {G G':List Gh}
theorem VR.grow(M:Mn K K' h h')(a:∀(o:Nat) (g:Gh),G[o]?=some g->G'[o]?=some g)(c:Value)(v:Va)(H:VR K h G c v):VR K' h' G' c v :=
 VR.keep (f:=fun _=>true) M (fun o g _=>a o g) c v (Va.all_true v) H
theorem VRs.grow(M:Mn K K' h h')(a:∀(o:Nat) (g:Gh),G[o]?=some g->G'[o]?=some g)(cs:List Value)(vs:List Va)(H:VRs K h G cs vs):VRs K' h' G' cs vs :=
 VRs.keep (f:=fun _=>true) M (fun o g _=>a o g) cs vs (dj vs) H
end
inductive Tk where
 |other|str|bool
 |int (k:IntKind)
 |ptr (e:TypeId)
 |slice (e:TypeId) (esz ebytes:Nat) (ezero:List Value)
 |arr (n:Nat) (e:TypeId) (esz:Nat) (eagg:Bool)
 |struct (fs:List (Nat×Nat×Bool))
 |map (k e:TypeId)
structure Ti where
 agg:Bool
 size:Nat
 zero:List Value
 kind:Tk
def eH(P:Program)(t:TypeId):Bool:=match P.underlying t with
 |some (.struct _)|some (.array _ _)=>true
 |_=>false
def hI(P:Program)(t:TypeId):Option Nat:=(P.info? t).map (·.size)
def wW(P:Program)(t:TypeId):Option (List Value):=(P.info? t).bind fun i=>i.zero.map (·.cells.toList)
def xA(P:Program):List Field->Option (List (Nat×Nat×Bool))
 |[]=>some []
 |f::a=>match hI P f.type,P.underlying f.type,xA P a with
  |some n,some _,some l=>some ((f.offset,n,eH P f.type)::l)
  |_,_,_=>none
def uf(P:Program):TypeDesc->Tk
 |.bool=>.bool
 |.int k=>.int k
 |.string=>.str
 |.pointer e=>.ptr e
 |.slice e=>match P.info? e,wW P e with
  |some i,some z=>.slice e i.size i.bytes z
  |_,_=>.other
 |.array n e=>match hI P e,P.underlying e with
  |some s,some _=>.arr n e s (eH P e)
  |_,_=>.other
 |.struct a=>match xA P a.toList with
  |some l=>.struct l
  |none=>.other
 |.map k e=>.map k e
 |_=>.other
def ex(P:Program)(t:TypeId):Option Ti :=
 match P.underlying t,hI P t,wW P t with
 |some d,some n,some z=>some ⟨eH P t,n,z,uf P d⟩
 |_,_,_=>none
section
variable {P:Program} {t:TypeId} {r:Ti} (h:ex P t=some r)
include h
theorem tS:∃d,P.underlying t=some d/\r.kind=uf P d/\r.agg=eH P t:=by
 unfold ex at h;split at h
 .rename_i d n z a b c;cases h;exact⟨d,a,rfl,rfl⟩
 .cases h
theorem Ui:∃i z,P.info? t=some i/\i.size=r.size/\i.zero=some z/\z.cells.toList=r.zero:=by
 unfold ex at h;split at h
 .rename_i d n z g a b;cases h;unfold hI at a;unfold wW at b;cases hi:P.info? t with
  |none=>simp[hi]at a
  |some i =>
   simp[hi]at a b;obtain⟨f,c,e⟩:=b;exact⟨i,f,rfl,a,c,e⟩
 .cases h
end
section
variable {P:Program} {t:TypeId} {r:Ti} (w:World)
theorem jO(h:ex P t=some r):(isAgg t).run P w=.ok r.agg w:=by
 obtain⟨d,a,_,b⟩:=tS h;rw[b];simp only[isAgg,underlying,eH,Sem.run_bind,run_program,Result.andThen_ok,a];cases d <;> rfl
theorem run_sizeOf(h:ex P t=some r):(sizeOf t).run P w=.ok r.size w:=by obtain⟨i,z,a,b,_,_⟩:=Ui h;simp[sizeOf,typeInfo,a,b]
theorem Zr(h:ex P t=some r):∃z,(zeroValue t).run P w=.ok z w/\z.cells.toList=r.zero:=by obtain⟨i,z,a,d,b,c⟩:=Ui h;exact⟨z,by simp[zeroValue,typeInfo,a,b],c⟩
end
abbrev ep:=List (Nat×Va)
def eM:ep->Nat->Va
 |[],_=>.top
 |(k,v)::E,m=>if k=m then v else eM E m
def eL(E:ep):Option Nat->Va->ep
 |some d,v=>(d,v)::E
 |none,_=>E
def cv:Value->Va
 |.bool x=>.p (.b x)
 |.int k n=>.p (.i k n)
 |.string s=>.p (.s s.data.toList)
 |.slice none 0 0=>.nils
 |.pointer none=>.nil
 |v=>.raw v
def wg:Value->Prop
 |.int k n=>Fits k n
 |.string s=>s.data.toList.length<=eC
 |_=>True
def eK(E:ep):Operand->Va
 |.tmp t=>eM E t
 |.const v=>cv v
 |.func f=>.fn f []
 |.global g=>.raw (.pointer (some ⟨g,0,none⟩))
def tc:Operand->Prop
 |.const v=>wg v
 |_=>True
def mD:Va->Va
 |.cnd _ v=>v
 |v=>v
def KE:Va->Bool
 |.cnd c _=>c
 |_=>true
def opnd(E:ep)(x:Operand):Va:=mD (eK E x)
def opOk(g:Bool)(E:ep)(x:Operand):Prop:=tc x/\(g=true->KE (eK E x)=true)
def iB(K:Nat->Prop)(h:Array Obj)(G:List Gh)(a:Act)(E:ep):Prop:=∀m,VR K h G (a.tmps.getD m undef) (eM E m)
section
variable {K:Nat->Prop} {h:Array Obj} {G:List Gh} {a:Act} {E:ep}
theorem Bw(v:Value)(a:wg v):VR K h G v (cv v):=by
 unfold cv;split <;> simp_all[VR,DR,wg]
theorem kZ(b:iB K h G a E)(x:Operand)(c:tc x):VR K h G (a.eval x) (eK E x):=by
 cases x with
 |tmp t=>exact b t
 |const v=>exact Bw v c
 |func f=>simp[eK,Act.eval,VR,VRs]
 |global g=>simp[eK,Act.eval,VR]
theorem VP{c:Value}{v:Va}(a:VR K h G c v)(b:KE v=true):VR K h G c (mD v):=by cases v <;> first|exact a|(simp only[VR,KE]at a b;exact a.1 b)
theorem zD(c:iB K h G a E){g:Bool}(d:g=true)(x:Operand)(b:opOk g E x):VR K h G (a.eval x) (opnd E x) :=
 VP (kZ c x b.1) (b.2 d)
end
section
variable {K:Nat->Prop} {h:Array Obj} {G:List Gh}
theorem DRs.length:∀{vs:List Value} {ds:List Dt},DRs K h vs ds->vs.length=ds.length
 |vs,[],H=>by simp only[DRs]at H;subst H;rfl
 |vs,d::ds,H=>by simp only[DRs]at H;obtain⟨v,a,rfl,_,b⟩:=H;simp[DRs.length b]
theorem DRs.get:∀{vs:List Value} {b:List Dt},DRs K h vs b->∀(j:Nat) (d:Dt),b[j]?=some d->∃v,vs[j]?=some v/\DR K h v d
 |vs,[],H,j,d,a=>by simp at a
 |vs,e::b,H,j,d,a=>by
  simp only[DRs]at H;obtain⟨v,c,rfl,f,g⟩:=H;cases j with
  |zero=>simp at a;subst a;exact⟨v,rfl,f⟩
  |succ j=>simp at a;simpa using DRs.get g j d a
theorem DRs.take:∀{a:List Value} {b:List Dt},DRs K h a b->∀n,DRs K h (a.take n) (b.take n)
 |a,[],H,n=>by simp only[DRs]at H;subst H;simp[DRs]
 |a,d::b,H,0=>by simp[DRs]
 |a,d::b,H,n+1=>by simp only[DRs]at H;obtain⟨v,c,rfl,e,f⟩:=H;simp only[take_succ_cons,DRs];exact⟨v,_,rfl,e,DRs.take f n⟩
theorem DRs.drop:∀{a:List Value} {b:List Dt},DRs K h a b->∀n,DRs K h (a.drop n) (b.drop n)
 |a,[],H,n=>by simp only[DRs]at H;subst H;simp[DRs]
 |a,d::b,H,0=>by simpa using H
 |a,d::b,H,n+1=>by
  simp only[DRs]at H;obtain⟨v,c,rfl,f,e⟩:=H;simpa using DRs.drop e n
theorem DRs.append:∀{a b:List Value} {c es:List Dt},DRs K h a c->DRs K h b es->DRs K h (a++b) (c++es)
 |a,b,[],es,H,e=>by simp only[DRs]at H;subst H;simpa using e
 |a,b,d::c,es,H,e=>by simp only[DRs]at H;obtain⟨v,f,rfl,g,i⟩:=H;simp only[cons_append,DRs];exact⟨v,_,rfl,g,DRs.append i e⟩
theorem DRs.set:∀{vs:List Value} {ds:List Dt} {v:Value} {d:Dt},DRs K h vs ds->DR K h v d->∀j,DRs K h (vs.set j v) (ds.set j d)
 |vs,[],v,d,H,_,j=>by simp only[DRs]at H;subst H;simp[DRs]
 |vs,e::ds,v,d,H,b,0=>by
  simp only[DRs]at H;obtain⟨u,a,rfl,f,c⟩:=H;simp only[set_cons_zero,DRs];exact⟨v,a,rfl,b,c⟩
 |vs,e::ds,v,d,H,b,j+1=>by simp only[DRs]at H;obtain⟨u,a,rfl,f,c⟩:=H;simp only[set_cons_succ,DRs];exact⟨u,_,rfl,f,DRs.set c b j⟩
theorem DRs.vrs:∀{a:List Value} {b:List Dt},DRs K h a b->VRs K h G a (b.map .p)
 |a,[],H=>by simpa [DRs,VRs]using H
 |a,d::b,H=>by simp only[DRs]at H;obtain⟨v,c,rfl,e,f⟩:=H;simp only[map_cons,VRs,VR];exact⟨v,c,rfl,e,DRs.vrs f⟩
theorem DRss.length{sz:Nat}:∀{vs:List Value} {c:List (List Dt)},DRss K h sz vs c->vs.length=c.length*sz
 |vs,[],H=>by simp only[DRss]at H;subst H;simp
 |vs,r::c,H=>by simp only[DRss]at H;obtain⟨a,b,rfl,d,e,f⟩:=H;simp[e.length,DRss.length f,d,Nat.add_mul,Nat.add_comm]
theorem DRss.get{sz:Nat}:∀{vs:List Value} {c:List (List Dt)},DRss K h sz vs c->∀(i:Nat),i<c.length->DRs K h ((vs.drop (i*sz)).take sz) (c.getD i [])/\(c.getD i []).length=sz
 |vs,[],H,i,hi=>by simp at hi
 |vs,r::c,H,i,hi=>by
  simp only[DRss]at H;obtain⟨a,b,rfl,f,d,g⟩:=H;have k:=d.length;cases i with
  |zero =>
   have:(a++b).take sz=a:=by rw[take_append_of_le_length (by omega)];exact take_of_length_le (by omega)
   simp only[Nat.zero_mul,drop_zero,this,getD_cons_zero];exact⟨d,f⟩
  |succ i =>
   have e:(a++b).drop ((i+1)*sz)=b.drop (i*sz):=by
    rw[drop_append];have j:(i+1)*sz-a.length=i*sz:=by rw[Nat.add_mul];omega
    rw[j,drop_eq_nil_of_le (by rw[Nat.add_mul];omega)];simp
   rw[e];simpa using DRss.get g i (by simpa using hi)
theorem DRss.append{sz:Nat}:∀{d c:List Value} {e qs:List (List Dt)},DRss K h sz d e->DRss K h sz c qs->DRss K h sz (d++c) (e++qs)
 |d,c,[],qs,H,f=>by simp only[DRss]at H;subst H;simpa using f
 |d,c,r::e,qs,H,f=>by simp only[DRss]at H;obtain⟨a,b,rfl,g,i,j⟩:=H;simp only[cons_append,DRss];exact⟨a,b++c,by simp,g,i,DRss.append j f⟩
theorem DRss.drop{sz:Nat}:∀{c:List Value} {d:List (List Dt)},DRss K h sz c d->∀n,DRss K h sz (c.drop (n*sz)) (d.drop n)
 |c,[],H,n=>by simp only[DRss]at H;subst H;simp[DRss]
 |c,r::d,H,0=>by simpa using H
 |c,r::d,H,n+1=>by
  simp only[DRss]at H;obtain⟨a,b,rfl,j,f,g⟩:=H;have k:=f.length;have e:(a++b).drop ((n+1)*sz)=b.drop (n*sz):=by
   rw[drop_append];have i:(n+1)*sz-a.length=n*sz:=by rw[Nat.add_mul];omega
   rw[i,drop_eq_nil_of_le (by rw[Nat.add_mul];omega)];simp
  rw[e];simpa using DRss.drop g n
theorem DRss.take{sz:Nat}:∀{c:List Value} {d:List (List Dt)},DRss K h sz c d->∀n,DRss K h sz (c.take (n*sz)) (d.take n)
 |c,[],H,n=>by simp only[DRss]at H;subst H;simp[DRss]
 |c,r::d,H,0=>by simp[DRss]
 |c,r::d,H,n+1=>by
  simp only[DRss]at H;obtain⟨a,b,rfl,g,f,i⟩:=H;have k:=f.length;have e:(a++b).take ((n+1)*sz)=a++b.take (n*sz):=by
   rw[take_append];have j:(n+1)*sz-a.length=n*sz:=by rw[Nat.add_mul];omega
   rw[j,take_of_length_le (by rw[Nat.add_mul];omega)]
  rw[e];simp only[take_succ_cons,DRss];exact⟨a,_,rfl,g,f,DRss.take i n⟩
theorem VRs.length:∀{cs:List Value} {vs:List Va},VRs K h G cs vs->cs.length=vs.length
 |cs,[],H=>by simp only[VRs]at H;subst H;rfl
 |cs,v::vs,H=>by simp only[VRs]at H;obtain⟨c,a,rfl,_,b⟩:=H;simp[VRs.length b]
theorem VRs.get:∀{cs:List Value} {vs:List Va},VRs K h G cs vs->∀(j:Nat) (v:Va),vs[j]?=some v->∃c,cs[j]?=some c/\VR K h G c v
 |cs,[],H,j,d,a=>by simp at a
 |cs,e::vs,H,j,d,a=>by
  simp only[VRs]at H;obtain⟨c,b,rfl,f,g⟩:=H;cases j with
  |zero=>simp at a;subst a;exact⟨c,rfl,f⟩
  |succ j=>simp at a;simpa using VRs.get g j d a
theorem VRs.take:∀{cs:List Value} {a:List Va},VRs K h G cs a->∀n,VRs K h G (cs.take n) (a.take n)
 |cs,[],H,n=>by simp only[VRs]at H;subst H;simp[VRs]
 |cs,d::a,H,0=>by simp[VRs]
 |cs,d::a,H,n+1=>by simp only[VRs]at H;obtain⟨v,b,rfl,c,e⟩:=H;simp only[take_succ_cons,VRs];exact⟨v,_,rfl,c,VRs.take e n⟩
theorem VRs.drop:∀{cs:List Value} {a:List Va},VRs K h G cs a->∀n,VRs K h G (cs.drop n) (a.drop n)
 |cs,[],H,n=>by simp only[VRs]at H;subst H;simp[VRs]
 |cs,d::a,H,0=>by simpa using H
 |cs,d::a,H,n+1=>by
  simp only[VRs]at H;obtain⟨v,b,rfl,e,c⟩:=H;simpa using VRs.drop c n
theorem VRs.append:∀{cs es:List Value} {b a:List Va},VRs K h G cs b->VRs K h G es a->VRs K h G (cs++es) (b++a)
 |cs,es,[],a,H,c=>by simp only[VRs]at H;subst H;simpa using c
 |cs,es,d::b,a,H,c=>by simp only[VRs]at H;obtain⟨v,e,rfl,f,g⟩:=H;simp only[cons_append,VRs];exact⟨v,_,rfl,f,VRs.append g c⟩
theorem VRs.set:∀{cs:List Value} {vs:List Va} {c:Value} {v:Va},VRs K h G cs vs->VR K h G c v->∀j,VRs K h G (cs.set j c) (vs.set j v)
 |cs,[],c,v,H,_,j=>by simp only[VRs]at H;subst H;simp[VRs]
 |cs,e::vs,c,v,H,b,0=>by
  simp only[VRs]at H;obtain⟨u,a,rfl,f,d⟩:=H;simp only[set_cons_zero,VRs];exact⟨c,a,rfl,b,d⟩
 |cs,e::vs,c,v,H,b,j+1=>by simp only[VRs]at H;obtain⟨u,a,rfl,f,d⟩:=H;simp only[set_cons_succ,VRs];exact⟨u,_,rfl,f,VRs.set d b j⟩
end
class Tabs where
 tab:Nat->Option (IntKind×List Int)
 ifc:Nat->Bool
 nest:TypeId->Option (Nat×TypeId×Nat):=fun _=>none
 mono:Prop:=False
def TabOk[Tabs](K:Nat->Prop)(h:Array Obj):Prop:=(∀b k l,Tabs.tab b=some (k,l)->K b/\(∃T a,h[b]?=some (.cells (l.map (Value.int k)).toArray T a))/\∀n∈l,Fits k n) /\
 ∀b,Tabs.ifc b=true->K b/\∃c T a,h[b]?=some (.cells #[c] T a)/\(c=.nilIface∨∃d e,c=.iface d e)
theorem TabOk.mono[Tabs]{K K':Nat->Prop}{h h':Array Obj}(H:TabOk K h)(M:Mn K K' h h'):TabOk K' h':=⟨fun b k l e=>by
 obtain⟨a,⟨T,c,d⟩,f⟩:=H.1 b k l e;exact⟨M.k b a,⟨T,c,by rw[M.h b a];exact d⟩,f⟩,fun b e=>by
 obtain⟨a,g,T,c,d,f⟩:=H.2 b e;exact⟨M.k b a,g,T,c,by rw[M.h b a];exact d,f⟩⟩
variable [Tabs]
structure St(K:Nat->Prop)(G:List Gh)(H:List Ob)(w:World):Prop where
 len:G.length=H.length
 kb:∀b,K b->b<w.heap.size
 gbo:∀(o:Nat) (g:Gh) (b:Nat),G[o]?=some g->own g b->b<w.heap.size/\¬ K b
 ijo:∀(o o':Nat) (g g':Gh) (b:Nat),G[o]?=some g->G[o']?=some g'->own g b->own g' b->o=o'
 ob:∀(o:Nat) (g:Gh) (x:Ob),G[o]?=some g->H[o]?=some x->ObR K w.heap G g x
 tb:TabOk K w.heap
theorem St.gb{K:Nat->Prop}{G:List Gh}{H:List Ob}{w:World}(h:St K G H w)(o:Nat)(g:Gh)(b:Nat)(a:G[o]?=some g)(hb:g.blk=some b):b<w.heap.size/\¬ K b:=h.gbo o g b a (.inl hb)
theorem St.inj{K:Nat->Prop}{G:List Gh}{H:List Ob}{w:World}(h:St K G H w)(o o':Nat)(g a:Gh)(b:Nat)(e:G[o]?=some g)(c:G[o']?=some a)(hb:g.blk=some b)(d:a.blk=some b):o=o':=h.ijo o o' g a b e c (.inl hb) (.inl d)
theorem St.ghost{K:Nat->Prop}{G:List Gh}{H:List Ob}{w:World}(h:St K G H w){o:Nat}{x:Ob}(a:H[o]?=some x):∃g,G[o]?=some g/\ObR K w.heap G g x:=by
 have b:o<G.length:=by rw[h.len];exact(List.getElem?_eq_some_iff.1 a).1
 exact⟨G[o],getElem?_eq_getElem b,h.ob o _ x (getElem?_eq_getElem b) a⟩
structure Pv where
 v:Va
 ok:Prop
def eA:Pv:=⟨.top,False⟩
theorem Fits.wrap(k:IntKind)(n:Int):Fits k (k.wrap n):=by cases k <;> simp only[Fits,lo,hi,IntKind.wrap,IntKind.bits,IntKind.signed] <;> (constructor <;> (simp;omega))
theorem dr(k:IntKind):lo k<=0/\0<=hi k:=by cases k <;> simp[lo,hi]
theorem Fits.tmod{k:IntKind}{a:Int}(h:Fits k a)(b:Int):Fits k (a.tmod b):=by
 obtain⟨e,f⟩:=h;have g:=dr k;have i:=Int.natAbs_tmod a b;have j:=Nat.mod_le a.natAbs b.natAbs;rcases Int.le_total 0 a with c|c
 .have:=Int.tmod_nonneg b c;constructor <;> omega
 .have d:=Int.tmod_nonneg b (a:=-a) (by omega);rw[Int.neg_tmod]at d;constructor <;> omega
theorem Fits.fdiv{k:IntKind}{a:Int}(h:Fits k a)(n:Nat):Fits k (a.fdiv (2^n)):=by
 obtain⟨i,j⟩:=h;have l:=dr k;have d:(0:Int)<2^n:=by exact_mod_cast Nat.pow_pos (n:=n) (by omega:0<2)
 rw[Int.fdiv_eq_ediv_of_nonneg _ (by omega)];rcases Int.le_total 0 a with c|c
 .have:=Int.ediv_le_self (2^n) c;have:=Int.ediv_nonneg c (Int.le_of_lt d);constructor <;> omega
 .have m:a<=a / 2^n:=by
   have e:=Int.le_ediv_iff_mul_le (a:=a) (b:=a) d;have f:a*2^n<=a:=by
    have g:(1:Int)<=2^n:=by omega
    have:=Int.mul_le_mul_of_nonpos_left c g;simpa using this
   exact e.2 f
  have o:a / 2^n<=0:=by
   have:=Int.ediv_le_ediv d c;simpa using this
  constructor <;> omega
def gv(op:BinOp)(k:IntKind)(x y:Int):Int :=
 let a:=BitVec.ofInt k.bits x;let b:=BitVec.ofInt k.bits y;match op with
 |.and=>k.wrap (a &&& b).toNat
 |.or=>k.wrap (a ||| b).toNat
 |.xor=>k.wrap (a ^^^ b).toNat
 |_=>k.wrap (a &&& ~~~b).toNat
theorem Fits.bits(op:BinOp)(k:IntKind)(x y:Int):Fits k (gv op k x y):=by unfold gv;split <;> exact Fits.wrap _ _
def jx(k:IntKind)(y:Int):Nat:=min y.toNat k.bits
def i3(op:BinOp)(k:IntKind)(a:Int)(c:IntKind)(b:Int):Pv:=match op with
 |.shl=>⟨.p (.i k (k.wrap (a*2^jx k b))),0<=b⟩
 |.shr=>⟨.p (.i k (a.fdiv (2^jx k b))),0<=b⟩
 |.add=>⟨.p (.i k (k.wrap (a+b))),k=c⟩
 |.sub=>⟨.p (.i k (k.wrap (a-b))),k=c⟩
 |.mul=>⟨.p (.i k (k.wrap (a*b))),k=c⟩
 |.quo=>⟨.p (.i k (k.wrap (a.tdiv b))),k=c/\¬ b=0⟩
 |.rem=>⟨.p (.i k (a.tmod b)),k=c/\¬ b=0⟩
 |.and=>⟨.p (.i k (gv .and k a b)),k=c⟩
 |.or=>⟨.p (.i k (gv .or k a b)),k=c⟩
 |.xor=>⟨.p (.i k (gv .xor k a b)),k=c⟩
 |.andNot=>⟨.p (.i k (gv .andNot k a b)),k=c⟩
 |.eql=>⟨.p (.b (decide (a=b))),k=c⟩
 |.neq=>⟨.p (.b (!decide (a=b))),k=c⟩
 |.lss=>⟨.p (.b (decide (a<b))),k=c⟩
 |.leq=>⟨.p (.b (decide (a<=b))),k=c⟩
 |.gtr=>⟨.p (.b (decide (b<a))),k=c⟩
 |.geq=>⟨.p (.b (decide (b<=a))),k=c⟩
def kK(a b:List UInt8):Bool:=Op.bytesLess a b
def wx(op:BinOp)(a b:List UInt8):Pv:=match op with
 |.add=>⟨.p (.s (a++b)),(a++b).length<=eC⟩
 |.eql=>⟨.p (.b (decide (a=b))),True⟩
 |.neq=>⟨.p (.b (!decide (a=b))),True⟩
 |.lss=>⟨.p (.b (kK a b)),True⟩
 |.leq=>⟨.p (.b (kK a b||decide (a=b))),True⟩
 |.gtr=>⟨.p (.b (!(kK a b||decide (a=b)))),True⟩
 |.geq=>⟨.p (.b (!kK a b)),True⟩
 |_=>eA
section
variable {K:Nat->Prop} {G:List Gh} {H:List Ob} {w:World} {P:Program}
theorem BQ{α:Type}[BEq α][LawfulBEq α][DecidableEq α](a b:α):(a == b)=decide (a=b):=by by_cases h:a=b <;> simp[h]
theorem jE{h:Array Obj}{k:IntKind}{n:Int}(a:Fits k n):VR K h G (.int k n) (.p (.i k n)):=by simpa only[VR,DR,true_and]using a
theorem fS{h:Array Obj}{x y:Bool}(e:x=y):VR K h G (.bool x) (.p (.b y)):=by subst e;simp only[VR,DR]
theorem wM{h:Array Obj}{x:List UInt8}(a:x.length<=eC):VR K h G (.string ⟨x.toArray⟩) (.p (.s x)):=by simpa only[VR,DR,true_and]using a
theorem zpi(op:BinOp)(t:TypeId)(x y:Operand)(a b:Value)(d:∀c,a≠.agg c)(e:a≠.nilIface):(eqGuard op t x y a b).run P w=.ok () w:=by
 unfold eqGuard;cases op <;> first|rfl|(cases a <;> first|rfl|exact absurd rfl (d _)|exact absurd rfl e)
theorem Ao{op:BinOp}{k e:IntKind}{a b:Int}(t:TypeId)(g:Fits k a)(d:(i3 op k a e b).ok) :
  ∃c,(binOp op t (.int k a) (.int e b)).run P w=.ok c w/\VR K w.heap G c (i3 op k a e b).v:=by
 cases op;case shl =>
  simp only[i3]at d|-;exact⟨_,by simp only[binOp,Op.shift,if_neg (Int.not_lt.2 d)];rfl,jE (Fits.wrap _ _)⟩
 case shr =>
  simp only[i3]at d|-;exact⟨_,by simp only[binOp,Op.shift,if_neg (Int.not_lt.2 d)];rfl,jE (Fits.fdiv g _)⟩
 case quo =>
  simp only[i3]at d|-;obtain⟨rfl,f⟩:=d;exact⟨_,by simp only[binOp,Op.intDiv,ne_eq,not_true_eq_false,if_false,if_neg f];rfl,jE (Fits.wrap _ _)⟩
 case rem =>
  simp only[i3]at d|-;obtain⟨rfl,f⟩:=d;exact⟨_,by simp only[binOp,Op.intDiv,ne_eq,not_true_eq_false,if_false,if_neg f];rfl,jE (Fits.tmod g _)⟩
 case and|or|xor|andNot =>
  simp only[i3]at d|-;subst d;exact⟨_,by simp only[binOp,Op.intBits,ne_eq,not_true_eq_false,if_false];rfl,jE (Fits.bits _ _ _ _)⟩
 case add|sub|mul =>
  simp only[i3]at d|-;subst d;exact⟨_,by simp only[binOp,Op.intArith,ne_eq,not_true_eq_false,if_false];rfl,jE (Fits.wrap _ _)⟩
 all_goals
  simp only[i3]at d|-;subst d;exact⟨_,by simp only[binOp,Op.intCmp,ne_eq,not_true_eq_false,if_false];rfl,fS (by simp[bne,BQ])⟩
theorem Am{op:BinOp}{a b:List UInt8}(t:TypeId)(d:(wx op a b).ok) :
  ∃c,(binOp op t (.string ⟨a.toArray⟩) (.string ⟨b.toArray⟩)).run P w=.ok c w/\VR K w.heap G c (wx op a b).v:=by
 cases op <;> simp only[wx]at d|- <;> try (exact d.elim)
 case add =>
  have f:¬ (((⟨a.toArray⟩:ByteArray).size+(⟨b.toArray⟩:ByteArray).size:Nat):Int) > IntKind.i64.max:=by
   simp only[ByteArray.size,size_toArray];have:IntKind.i64.max=9223372036854775807:=by decide
   rw[this];simp only[length_append,eC]at d;omega
  have e:(⟨a.toArray⟩++⟨b.toArray⟩:ByteArray)=⟨(a++b).toArray⟩:=by apply ByteArray.ext;simp
  exact⟨_,by simp only[binOp,Op.stringOp,if_neg f,e];rfl,wM d⟩
 all_goals
  exact⟨_,by simp only[binOp,Op.stringOp,ByteArray.toList_mk];rfl,fS (by simp[kK,BQ])⟩
end
def eB:List Ob->Nat->Ob
 |[],_=>.gone
 |x::_,0=>x
 |_::l,n+1=>eB l n
theorem zy:∀{H:List Ob} {o:Nat} {x:Ob},eB H o=x->x≠.gone->H[o]?=some x
 |[],_,_,h,a=>by simp[eB]at h;exact absurd h.symm a
 |x::l,0,y,h,_=>by simp[eB]at h;simp[h]
 |x::l,n+1,y,h,a=>by simp only[eB]at h;simpa using zy h a
def rC(H:List Ob)(o:Nat):Option (TypeId×Nat×List (List Dt)×Bool):=match eB H o with
 |.buf T b a=>some (T,b,a,false)
 |.fx T b a=>some (T,b,a,true)
 |_=>none
def vf(f:Bool)(T:TypeId)(b:Nat)(a:List (List Dt)):Ob:=bif f then .fx T b a else .buf T b a
theorem WE{H:List Ob}{o:Nat}{T:TypeId}{c:Nat}{a:List (List Dt)}{f:Bool}(h:rC H o=some (T,c,a,f)):H[o]?=some (vf f T c a):=by
 unfold rC at h;split at h
 .rename_i b;cases h;exact zy b (by simp[vf])
 .rename_i b;cases h;exact zy b (by simp[vf])
 .cases h
theorem ln{K:Nat->Prop}{h:Array Obj}{G:List Gh}{g:Gh}{f:Bool}{T:TypeId}{b:Nat}{a:List (List Dt)}:ObR K h G g (vf f T b a)=ObR K h G g (.buf T b a):=by cases f <;> rfl
theorem St.bufOb{K:Nat->Prop}{G:List Gh}{H:List Ob}{w:World}(c:St K G H w){o:Nat}{T:TypeId}{b:Nat}{a:List (List Dt)}{f:Bool}{g:Gh}(h:rC H o=some (T,b,a,f))(d:G[o]?=some g):ObR K w.heap G g (.buf T b a):=by rw[<-ln (f:=f)];exact c.ob o g _ d (WE h)
def vE(l:List Dt)(j:Nat):Va:=match l.drop j with
 |d::_=>.p d
 |[]=>.top
def sY(l:List Va)(j:Nat):Va:=match l.drop j with
 |d::_=>d
 |[]=>.top
theorem kq{α:Type}:∀{l:List α} {j:Nat} {d:α} {r:List α},l.drop j=d::r->l[j]?=some d
 |[],_,_,_,h=>by simp at h
 |x::l,0,d,r,h=>by simp at h;simp[h.1]
 |x::l,j+1,d,r,h=>by simp at h;simpa using kq h
def j4(d:Ti)(H:List Ob):Va->Pv
 |.rp f=>bif d.agg then⟨.agg ((f.take d.size).map .p),d.size<=f.length⟩else⟨vE f 0,0<f.length⟩
 |.ptr o a=>match eB H o with
  |.cells _ h=>bif d.agg then⟨.agg ((h.drop a).take d.size),a+d.size<=h.length⟩else⟨sY h a,a<h.length⟩
  |_=>eA
 |.el o e i a=>match rC H o with
  |some (_,c,b,_)=>bif d.agg then⟨.agg ((((b.getD i []).drop a).take d.size).map .p),e=c/\i<b.length/\a+d.size<=e⟩
   else⟨vE (b.getD i []) a,e=c/\i<b.length/\a<e⟩
  |none=>match eB H o with
   |.nst _ _ c k p b l=>bif d.agg then⟨.agg (((((b.getD i []).map .p).set k (.nv p i)).drop a).take d.size),e=c/\i<b.length/\a+d.size<=e/\l=none⟩
    else bif a == k then⟨.nv p i,e=c/\i<b.length/\l=none⟩else⟨vE (b.getD i []) a,e=c/\i<b.length/\a<e⟩
   |_=>eA
 |.ne p e i j a=>match eB H p with
  |.inn _ c g=>bif d.agg then⟨.agg (((((g.getD i []).getD j []).drop a).take d.size).map .p),e=c/\j<(g.getD i []).length/\a+d.size<=e⟩
   else⟨vE ((g.getD i []).getD j []) a,e=c/\j<(g.getD i []).length/\a<e⟩
  |_=>eA
 |_=>eA
section
variable {K:Nat->Prop} {G:List Gh} {H:List Ob} {w:World} {P:Program}
theorem mi(b a n:Nat):(⟨b,a,none⟩:Addr).add n=⟨b,a+n,none⟩:=by
 unfold Addr.add;split
 .rename_i h;subst h;rfl
 .rfl
theorem Xo{t:TypeId}{a:Ti}(d:ex P t=some a){b off:Nat}{cs:Array Value}{T:TypeId}{e:Nat×Nat}(hb:w.heap[b]?=some (.cells cs T e))
  {c:List Value} (g:∀j v,c[j]?=some v->cs[off+j]?=some v) :
  (a.agg=true->a.size<=c.length->(loadVar t ⟨b,off,none⟩).run P w=.ok (.agg (c.take a.size).toArray) w) /\
  (a.agg=false->∀v,c[0]?=some v->(loadVar t ⟨b,off,none⟩).run P w=.ok v w):=by
 constructor
 .intro f hs;have k:(c.take a.size).length=a.size:=by simp;omega
  have h:=run_loadCells_list (P:=P) w ⟨b,off,none⟩ (c.take a.size) (fun j v i=>by
   rw[mi,cell_of_row w b (off+j) cs T e hb];exact g j v (by rw[getElem?_take]at i;split at i <;> simp_all))
  rw[k]at h;simp only[loadVar,Sem.run_bind,jO w d,Result.andThen_ok,f,if_true,run_sizeOf w d,h,Sem.run_pure]
 .intro f v l;have m:w.cell? ⟨b,off,none⟩=some v:=by rw[cell_of_row w b off cs T e hb];simpa using g 0 v l
  simp[loadVar,jO w d,f,run_load,m]
theorem Mm{t:TypeId}{h:Ti}(F:ex P t=some h){A:Option Nat}{G:Value}{T:TypeId}{e i off b:Nat}{a:List (List Dt)}(k:bufR K w.heap A G T e a)(l:A=some b)(hi:i<a.length) :
  (h.agg=true->off+h.size<=e->∃cs:List Value,(Instr.loadAt t (.pointer (some ⟨b,i*e+off,none⟩))).run P w=.ok (.agg cs.toArray) w/\DRs K w.heap cs (((a.getD i []).drop off).take h.size)) /\
  (h.agg=false->off<e->∃c d,(Instr.loadAt t (.pointer (some ⟨b,i*e+off,none⟩))).run P w=.ok c w/\(a.getD i [])[off]?=some d/\DR K w.heap c d):=by
 obtain⟨B,H,m,I⟩:=k;rcases I with⟨J,_,C⟩|⟨L,D,n,R,J,E,hb,M,S,U,V,N⟩
 .rw[l]at C;cases C
 obtain rfl:L=b:=by rw[l]at E;exact(Option.some.inj E).symm
 have O:=m.length;obtain⟨o,Q⟩:=m.get i hi;have p:∀j v,(((H.drop (i*e)).take e).drop off)[j]?=some v->n[i*e+off+j]?=some v:=fun j v f=>by
  rw[getElem?_drop,getElem?_take]at f;split at f
  .rw[getElem?_drop,<-N,getElem?_take]at f;split at f
   .rw[<-Array.getElem?_toList,show i*e+off+j=i*e+(off+j)by omega];exact f
   .cases f
  .cases f
 obtain⟨q,r⟩:=Xo (P:=P) F hb p;have s:=o.length;constructor
 .intro u g;exact⟨_,by simp only[Instr.loadAt,Instr.sureAddr,Sem.run_bind,Sem.run_pure,Result.andThen_ok];exact q u (by rw[length_drop,s];omega),(o.drop _).take _⟩
 .intro u x;have g:off<(a.getD i []).length:=by omega
  have f:(a.getD i [])[off]?=some (a.getD i [])[off]:=getElem?_eq_getElem g;obtain⟨c,y,z⟩:=o.get off _ f;exact⟨c,_,by simp only[Instr.loadAt,Instr.sureAddr,Sem.run_bind,Sem.run_pure,Result.andThen_ok];exact r u c (by rw[getElem?_drop];simpa using y),f,z⟩
theorem lD{l:List Dt}{j:Nat}{d:Dt}(h:l[j]?=some d):vE l j=.p d:=by
 have a:=(List.getElem?_eq_some_iff.1 h).1;unfold vE;rw[drop_eq_getElem_cons a];rw[getElem?_eq_getElem a]at h;cases h;rfl
theorem AV{k:Nat}:∀{a:List (List Dt)} {b:List Value},b.length=a.length->(fP k a b).length=a.length
 |[],[],_=>rfl
 |r::a,v::b,h=>by simp only[fP,length_cons,AV (by simpa using h)]
 |[],_::_,h=>by simp at h
 |_::_,[],h=>by simp at h
theorem yS{k:Nat}:∀{rows:List (List Dt)} {vs:List Value} {i:Nat},vs.length=rows.length->i<rows.length->(fP k rows vs)[i]?=some ((rows.getD i []).set k (.r (vs.getD i undef)))
 |[],_,_,_,h=>by simp at h
 |r::rows,v::vs,0,_,_=>by simp[fP]
 |r::rows,v::vs,i+1,h,hi=>by simpa [fP]using yS (k:=k) (rows:=rows) (vs:=vs) (by simpa using h) (by simpa using hi)
 |_::_,[],_,h,_=>by simp at h
theorem TY{k:Nat}{a:List (List Dt)}{b:List Value}(c:b.length=a.length):∀i,i<a.length->(fP k a b).getD i []=(a.getD i []).set k (.r (b.getD i undef)):=fun i hi=>by rw[getD_eq_getElem?_getD,yS c hi];rfl
theorem kY{v:Value}{x:Va}(b:∀c,c=v->VR K w.heap G c x):∀{r:List Dt} {k:Nat} (off n:Nat) {cs:List Value},DRs K w.heap cs (((r.set k (.r v)).drop off).take n)->VRs K w.heap G cs ((((r.map Va.p).set k x).drop off).take n)
 |[],_,_,_,_,h=>by simpa [DRs,VRs]using h
 |_::_,_,0,0,_,h=>by simpa [DRs,VRs]using h
 |d::r,0,0,n+1,cs,h=>by
  simp only[set_cons_zero,drop_zero,take_succ_cons,map_cons,DRs,VRs,DR]at h|-;obtain⟨c,a,rfl,e,f⟩:=h;refine⟨c,a,rfl,b c e.1,?_⟩;rw[<-map_take];exact DRs.vrs f
 |d::r,k+1,0,n+1,cs,h=>by
  simp only[set_cons_succ,drop_zero,take_succ_cons,map_cons,DRs,VRs]at h|-;obtain⟨c,a,rfl,e,f⟩:=h;refine⟨c,a,rfl,by simpa only[VR]using e,?_⟩;have:=kY b (r:=r) (k:=k) 0 n (cs:=a) (by simpa using f);simpa using this
 |d::r,0,off+1,n,cs,h=>by
  simp only[set_cons_zero,drop_succ_cons,map_cons]at h|-;rw[<-map_drop,<-map_take];exact DRs.vrs h
 |d::r,k+1,off+1,n,cs,h=>by simp only[set_cons_succ,drop_succ_cons,map_cons]at h|-;exact kY b off n h
theorem nb{t:TypeId}{A:Ti}(M:ex P t=some A)(hS:St K G H w){c:Value}{v:Va}(D:VR K w.heap G c v)(h:(j4 A H v).ok) :
  ∃c',(Instr.loadAt t c).run P w=.ok c' w/\VR K w.heap G c' (j4 A H v).v:=by
 cases v <;> simp only[j4]at h|- <;> try (exact h.elim)
 case rp row =>
  simp only[VR]at D;obtain⟨b,off,cs,T,fr,x,rfl,hK,hb,N,Y⟩:=D;obtain⟨E,B⟩:=Xo (P:=P) M hb N;cases l:A.agg <;> simp only[l,cond_true,cond_false]at h|-
  .cases row with
   |nil=>simp at h
   |cons d row =>
    simp only[DRs]at Y;obtain⟨v,vs',rfl,hd1,_⟩:=Y;exact⟨v,by simp[Instr.loadAt,Instr.sureAddr,B l v rfl],by simpa [vE,VR]using hd1⟩
  .refine⟨_,by simp only[Instr.loadAt,Instr.sureAddr,Sem.run_bind,Sem.run_pure,Result.andThen_ok];exact E l (by rw[Y.length];exact h),?_⟩;simp only[VR];exact⟨_,rfl,(Y.take _).vrs⟩
 case ptr o off =>
  split at h;rotate_left
  .exact h.elim
  rename_i O;rename_i x;simp only[VR]at D;obtain⟨g,b,Z,y,rfl⟩:=D;have hob:=hS.ob o g _ Z (zy O (by simp));obtain⟨b',cs,hb',hb,Q⟩:=hob;obtain rfl:b'=b:=by rw[y]at hb';exact(Option.some.inj hb').symm
  have hvd:∀j v,(cs.drop off)[j]?=some v->cs.toArray[off+j]?=some v:=fun j v hj=>by rw[getElem?_drop]at hj;simpa using hj
  obtain⟨E,B⟩:=Xo (P:=P) M hb hvd;have hl:=Q.length;cases l:A.agg <;> simp only[l,cond_true,cond_false]at h|-
  .have hj:x[off]?=some x[off]:=getElem?_eq_getElem h;obtain⟨c,hc1,hc2⟩:=Q.get off _ hj;refine⟨c,by simp only[Instr.loadAt,Instr.sureAddr,Sem.run_bind,Sem.run_pure,Result.andThen_ok];exact B l c (by rw[getElem?_drop];simpa using hc1),?_⟩;have:x.drop off=x[off]::x.drop (off+1):=drop_eq_getElem_cons h;unfold sY;rw[this];exact hc2
  .refine⟨_,by simp only[Instr.loadAt,Instr.sureAddr,Sem.run_bind,Sem.run_pure,Result.andThen_ok];exact E l (by simp;omega),?_⟩;simp only[VR];exact⟨_,rfl,(Q.drop _).take _⟩
 case el o sz i off =>
  simp only[VR]at D;obtain⟨g,b,n,cap,Z,y,hsv,rfl⟩:=D;split at h
  .rename_i T F J fx O;have R:sz=F/\i<J.length:=by cases l:A.agg <;> simp only[l,cond_true,cond_false]at h <;> exact⟨h.1,h.2.1⟩
   obtain⟨rfl,hi⟩:=R;obtain⟨E,B⟩:=Mm (P:=P) (off:=off) M (hS.bufOb O Z) y hi;cases l:A.agg <;> simp only[l,cond_true,cond_false]at h|-
   .obtain⟨c,d,z,q,L⟩:=B l h.2.2;refine⟨c,z,?_⟩;rw[lD q];simpa only[VR]using L
   .obtain⟨cs,z,q⟩:=E l h.2.2;refine⟨_,z,?_⟩;simp only[VR];exact⟨cs,rfl,q.vrs⟩
  .split at h;rotate_left
   .exact h.elim
   rename_i f T F k p J st O;obtain⟨h0,hk,gp,x,hgp,hvl,I,s⟩:=hS.ob o g _ Z (zy O (by simp));have S:=TY (k:=k) hvl;have U:=AV (k:=k) hvl;cases l:A.agg <;> simp only[l,cond_true,cond_false]at h|-
   .cases V:(off == k) <;> simp only[V,cond_true,cond_false]at h|-
    .obtain⟨rfl,hi,C⟩:=h;obtain⟨_,B⟩:=Mm (P:=P) (off:=off) M s y (by rw[U];exact hi);obtain⟨c,d,z,q,L⟩:=B l C;refine⟨c,z,?_⟩;rw[S i hi,getElem?_set_ne (fun e=>by simp[e]at V)]at q;rw[lD q];simpa only[VR]using L
    .obtain⟨rfl,hi,rfl⟩:=h;obtain rfl:off=k:=by simpa using V
     obtain⟨_,B⟩:=Mm (P:=P) (off:=off) M s y (by rw[U];exact hi);obtain⟨c,d,z,q,L⟩:=B l hk;have W:x[i]?=some (x.getD i undef):=by rw[getD_eq_getElem?_getD,getElem?_eq_getElem (by omega)];rfl
     rw[S i hi]at q;have Y:d=.r (x.getD i undef):=by
      rw[getElem?_set_self (by
       have:=(List.getElem?_eq_some_iff.1 q).1;simpa using this)]at q
      exact(Option.some.inj q).symm
     subst Y;simp only[DR]at L;have u:gp.inn[i]?=some (x.getD i undef):=by rw[<-I.2.1 i (by simp)];exact W
     obtain⟨a,m,cp,N⟩:=I.2.2 _ (mem_of_getElem? u);refine⟨c,z,?_⟩;simp only[VR];exact⟨gp,a,m,cp,hgp,by rw[u,N],by rw[L.1,N]⟩
   .obtain⟨rfl,hi,C,rfl⟩:=h;obtain⟨E,_⟩:=Mm (P:=P) (off:=off) M s y (by rw[U];exact hi);obtain⟨cs,z,q⟩:=E l C;refine⟨_,z,?_⟩;have W:x[i]?=some (x.getD i undef):=by rw[getD_eq_getElem?_getD,getElem?_eq_getElem (by omega)];rfl
    have u:gp.inn[i]?=some (x.getD i undef):=by rw[<-I.2.1 i (by simp)];exact W
    obtain⟨a,m,cp,N⟩:=I.2.2 _ (mem_of_getElem? u);rw[S i hi]at q;simp only[VR];refine⟨cs,rfl,kY (fun c D=>?_) off A.size q⟩;simp only[VR];exact⟨gp,a,m,cp,hgp,by rw[u,N],by rw[D,N]⟩
 case ne p sz i j off =>
  simp only[VR]at D;obtain⟨g,b,n,cap,Z,u,rfl⟩:=D;split at h;rotate_left
  .exact h.elim
  rename_i T F X O;obtain⟨hb0,hl,hin,_⟩:=hS.ob p g _ Z (zy O (by simp));have hil:=(List.getElem?_eq_some_iff.1 u).1;have hins:X[i]?=some (X.getD i []):=by rw[getElem?_eq_getElem (by omega),getD_eq_getElem?_getD,getElem?_eq_getElem (by omega)];rfl
  have s:=hin i _ _ u hins;have R:sz=F/\j<(X.getD i []).length:=by cases l:A.agg <;> simp only[l,cond_true,cond_false]at h <;> exact⟨h.1,h.2.1⟩
  obtain⟨rfl,hj⟩:=R;obtain⟨E,B⟩:=Mm (P:=P) (off:=off) M s rfl hj;cases l:A.agg <;> simp only[l,cond_true,cond_false]at h|-
  .obtain⟨c,d,z,q,L⟩:=B l h.2.2;refine⟨c,z,?_⟩;rw[lD q];simpa only[VR]using L
  .obtain⟨cs,z,q⟩:=E l h.2.2;refine⟨_,z,?_⟩;simp only[VR];exact⟨cs,rfl,q.vrs⟩
end
inductive Kd where
 |b|s|i (k:IntKind)
mutual
def gY(P:Program):Nat->TypeId->Option (List Kd)
 |0,_=>none
 |d+1,t=>match P.underlying t with
  |some .bool=>if hI P t=some 1 then some [.b]else none
  |some (.int k)=>if hI P t=some 1 then some [.i k]else none
  |some .string=>if hI P t=some 1 then some [.s]else none
  |some (.struct a)=>if P.stoodInHeld t then none else match lK P d 0 a.toList with
   |some l=>if hI P t=some l.length then some l else none
   |none=>none
  |_=>none
termination_by structural d=>d
def lK(P:Program):Nat->Nat->List Field->Option (List Kd)
 |_,_,[]=>some []
 |0,_,_=>none
 |d+1,a,f::b=>if f.name= "_"∨f.offset≠a then none else match gY P d f.type with
  |some l=>match lK P d (a+l.length) b with
   |some c=>some (l++c)
   |none=>none
  |none=>none
termination_by structural d=>d
end
def ia(P:Program)(t:TypeId):Option (List Kd):=match P.underlying t with
 |some (.array n e)=>match P.underlying e with
  |some (.int k)=>if hI P e=some 1/\P.cellsOf e=1 then some (List.replicate n (.i k))else none
  |_=>none
 |_=>none
def gy(P:Program)(t:TypeId):Option (List Kd):=if P.eqGuardType P.depth t then none else match ia P t with
 |some l=>some l
 |none=>gY P 60 t
def zJ:List Kd->List Dt->Prop
 |[],[]=>True
 |.b::ks,.b _::a=>zJ ks a
 |.s::ks,.s _::a=>zJ ks a
 |.i k::ks,.i c _::a=>k=c/\zJ ks a
 |_,_=>False
def fA:List Dt->List Dt->Bool
 |[],[]=>true
 |.b x::a,.b y::c=>decide (x=y)&&fA a c
 |.s x::a,.s y::c=>decide (x=y)&&fA a c
 |.i _ x::a,.i _ y::c=>decide (x=y)&&fA a c
 |_,_=>false
theorem Lu:∀{ks:List Kd} {c:List Dt},zJ ks c->c.length=ks.length
 |[],[],_=>rfl
 |.b::ks,.b _::c,h=>by simp only[zJ]at h;simp[Lu h]
 |.s::ks,.s _::c,h=>by simp only[zJ]at h;simp[Lu h]
 |.i k::ks,.i d _::c,h=>by simp only[zJ]at h;simp[Lu h.2]
 |[],_::_,h=>by simp[zJ]at h
 |.b::_,[],h=>by simp[zJ]at h
 |.s::_,[],h=>by simp[zJ]at h
 |.i _::_,[],h=>by simp[zJ]at h
 |.b::_,.s _::_,h=>by simp[zJ]at h
 |.b::_,.i _ _::_,h=>by simp[zJ]at h
 |.b::_,.l _::_,h=>by simp[zJ]at h
 |.b::_,.a _::_,h=>by simp[zJ]at h
 |.s::_,.b _::_,h=>by simp[zJ]at h
 |.s::_,.i _ _::_,h=>by simp[zJ]at h
 |.s::_,.l _::_,h=>by simp[zJ]at h
 |.s::_,.a _::_,h=>by simp[zJ]at h
 |.i _::_,.b _::_,h=>by simp[zJ]at h
 |.i _::_,.s _::_,h=>by simp[zJ]at h
 |.i _::_,.l _::_,h=>by simp[zJ]at h
 |.i _::_,.a _::_,h=>by simp[zJ]at h
theorem Lt:∀{ks c:List Kd} {d:List Dt},zJ (ks++c) d->zJ ks (d.take ks.length)/\zJ c (d.drop ks.length)
 |[],c,d,h=>by simpa [zJ]using h
 |.b::ks,c,.b x::d,h=>by
  simp only[cons_append,zJ]at h;simpa [zJ]using Lt h
 |.s::ks,c,.s x::d,h=>by
  simp only[cons_append,zJ]at h;simpa [zJ]using Lt h
 |.i k::ks,c,.i g x::d,h=>by
  simp only[cons_append,zJ]at h;obtain⟨e,f⟩:=h;have:=Lt f;simp only[length_cons,take_succ_cons,drop_succ_cons,zJ];exact⟨⟨e,this.1⟩,this.2⟩
 |.b::_,_,[],h=>by simp[zJ]at h
 |.s::_,_,[],h=>by simp[zJ]at h
 |.i _::_,_,[],h=>by simp[zJ]at h
 |.b::_,_,.s _::_,h=>by simp[zJ]at h
 |.b::_,_,.i _ _::_,h=>by simp[zJ]at h
 |.b::_,_,.l _::_,h=>by simp[zJ]at h
 |.b::_,_,.a _::_,h=>by simp[zJ]at h
 |.s::_,_,.b _::_,h=>by simp[zJ]at h
 |.s::_,_,.i _ _::_,h=>by simp[zJ]at h
 |.s::_,_,.l _::_,h=>by simp[zJ]at h
 |.s::_,_,.a _::_,h=>by simp[zJ]at h
 |.i _::_,_,.b _::_,h=>by simp[zJ]at h
 |.i _::_,_,.s _::_,h=>by simp[zJ]at h
 |.i _::_,_,.l _::_,h=>by simp[zJ]at h
 |.i _::_,_,.a _::_,h=>by simp[zJ]at h
theorem UD:∀{ks:List Kd} {f g:List Dt} (c d:List Dt),zJ ks f->zJ ks g->fA (f++c) (g++d)=(fA f g&&fA c d)
 |[],[],[],_,_,_,_=>by simp[fA]
 |.b::ks,.b x::f,.b y::g,c,d,h,e=>by
  simp only[zJ]at h e;simp[fA,UD c d h e,Bool.and_assoc]
 |.s::ks,.s x::f,.s y::g,c,d,h,e=>by
  simp only[zJ]at h e;simp[fA,UD c d h e,Bool.and_assoc]
 |.i k::ks,.i j x::f,.i m y::g,c,d,h,e=>by
  simp only[zJ]at h e;simp[fA,UD c d h.2 e.2,Bool.and_assoc]
 |[],_::_,_,_,_,h,_=>by simp[zJ]at h
 |[],[],_::_,_,_,_,h=>by simp[zJ]at h
 |.b::_,[],_,_,_,h,_=>by simp[zJ]at h
 |.s::_,[],_,_,_,h,_=>by simp[zJ]at h
 |.i _::_,[],_,_,_,h,_=>by simp[zJ]at h
 |.b::_,.s _::_,_,_,_,h,_=>by simp[zJ]at h
 |.b::_,.i _ _::_,_,_,_,h,_=>by simp[zJ]at h
 |.b::_,.l _::_,_,_,_,h,_=>by simp[zJ]at h
 |.b::_,.a _::_,_,_,_,h,_=>by simp[zJ]at h
 |.s::_,.b _::_,_,_,_,h,_=>by simp[zJ]at h
 |.s::_,.i _ _::_,_,_,_,h,_=>by simp[zJ]at h
 |.s::_,.l _::_,_,_,_,h,_=>by simp[zJ]at h
 |.s::_,.a _::_,_,_,_,h,_=>by simp[zJ]at h
 |.i _::_,.b _::_,_,_,_,h,_=>by simp[zJ]at h
 |.i _::_,.s _::_,_,_,_,h,_=>by simp[zJ]at h
 |.i _::_,.l _::_,_,_,_,h,_=>by simp[zJ]at h
 |.i _::_,.a _::_,_,_,_,h,_=>by simp[zJ]at h
 |.b::_,.b _::_,[],_,_,_,h=>by simp[zJ]at h
 |.s::_,.s _::_,[],_,_,_,h=>by simp[zJ]at h
 |.i _::_,.i _ _::_,[],_,_,_,h=>by simp[zJ]at h
 |.b::_,.b _::_,.s _::_,_,_,_,h=>by simp[zJ]at h
 |.b::_,.b _::_,.i _ _::_,_,_,_,h=>by simp[zJ]at h
 |.b::_,.b _::_,.l _::_,_,_,_,h=>by simp[zJ]at h
 |.b::_,.b _::_,.a _::_,_,_,_,h=>by simp[zJ]at h
 |.s::_,.s _::_,.b _::_,_,_,_,h=>by simp[zJ]at h
 |.s::_,.s _::_,.i _ _::_,_,_,_,h=>by simp[zJ]at h
 |.s::_,.s _::_,.l _::_,_,_,_,h=>by simp[zJ]at h
 |.s::_,.s _::_,.a _::_,_,_,_,h=>by simp[zJ]at h
 |.i _::_,.i _ _::_,.b _::_,_,_,_,h=>by simp[zJ]at h
 |.i _::_,.i _ _::_,.s _::_,_,_,_,h=>by simp[zJ]at h
 |.i _::_,.i _ _::_,.l _::_,_,_,_,h=>by simp[zJ]at h
 |.i _::_,.i _ _::_,.a _::_,_,_,_,h=>by simp[zJ]at h
def mg(P:Program)(t:TypeId)(xs:List Value):Value:=if eH P t then .agg xs.toArray else xs.getD 0 undef
section
variable {K:Nat->Prop} {h:Array Obj} {P:Program} (w:World)
theorem KX{t:TypeId}{n:Nat}(b:hI P t=some n){d:TypeDesc}(e:P.underlying t=some d)(xs:List Value)(a:Nat)(j:a+n<=xs.length)(f:eH P t=false->n=1) :
  (part t xs.toArray a).run P w=.ok (mg P t ((xs.drop a).take n)) w:=by
 unfold hI at b;cases hi:P.info? t with
 |none=>simp[hi]at b
 |some i =>
  simp[hi]at b;have hag:(isAgg t).run P w=.ok (eH P t) w:=by
   simp only[isAgg,underlying,eH,Sem.run_bind,run_program,Result.andThen_ok,e];cases d <;> rfl
  unfold part mg;simp only[Sem.run_bind,hag,Result.andThen_ok];cases g:eH P t
  .have c:=f g;subst c;have h:a<xs.length:=by omega
   simp[getElem?_eq_getElem h,List.getD,getElem?_drop]
  .simp only[if_true,sizeOf,typeInfo,Sem.run_bind,run_program,Result.andThen_ok,hi,Sem.run_pure,b];simp
mutual
theorem VM:∀(d:Nat) {t:TypeId} {ks:List Kd} (e:Nat) {xs ys:List Value} {f g:List Dt},gY P d t=some ks->DRs K h xs f->DRs K h ys g->zJ ks f->zJ ks g ->
  (Op.equalIn (d+e) t (mg P t xs) (mg P t ys)).run P w=.ok (fA f g) w
 |0,t,ks,e,xs,ys,f,g,a,_,_,_,_=>by simp[gY]at a
 |d+1,t,ks,e,xs,ys,f,g,a,j,m,n,o=>by
  rw[show d+1+e=(d+e)+1 by omega];unfold gY at a;split at a
  .rename_i c;split at a;rotate_left
   .cases a
   cases a;match f,g,n,o with
   |[.b x],[.b y],_,_ =>
    simp only[DRs,DR]at j m;obtain⟨_,_,rfl,rfl,rfl⟩:=j;obtain⟨_,_,rfl,rfl,rfl⟩:=m;simp[mg,eH,c,run_equalIn_bool' _ _ _ _ _ c,fA,BQ]
  .rename_i k c;split at a;rotate_left
   .cases a
   cases a;match f,g,n,o with
   |[.i u x],[.i v y],n,o =>
    simp only[zJ]at n o;obtain⟨rfl,_⟩:=n;obtain⟨rfl,_⟩:=o;simp only[DRs,DR]at j m;obtain⟨_,_,rfl,⟨rfl,_⟩,rfl⟩:=j;obtain⟨_,_,rfl,⟨rfl,_⟩,rfl⟩:=m;simp[mg,eH,c,run_equalIn_int _ _ _ _ _ _ _ c,fA,BQ]
  .rename_i c;split at a;rotate_left
   .cases a
   cases a;match f,g,n,o with
   |[.s x],[.s y],_,_ =>
    simp only[DRs,DR]at j m;obtain⟨_,_,rfl,⟨rfl,_⟩,rfl⟩:=j;obtain⟨_,_,rfl,⟨rfl,_⟩,rfl⟩:=m;simp[mg,eH,c,run_equalIn_string _ _ _ _ _ c,fA,BQ]
  .rename_i fs c;have hag:eH P t=true:=by simp[eH,c]
   have p:P.fieldsOf t=fs:=by simp[Program.fieldsOf,c]
   split at a
   .cases a
   rename_i q;split at a
   .rename_i l r;split at a
    .cases a;simp only[mg,hag,if_true];rw[run_equalIn_struct w (d+e) t _ _ (by rw[p];exact c) (by simpa using q),p];have:=mP d e (xs:=xs) (ys:=ys) 0 (Nat.zero_le _) (Nat.zero_le _) r (by simpa using j) (by simpa using m) n o;simpa using this
    .cases a
   .cases a
  .cases a
theorem mP:∀(d:Nat) (e:Nat) {q:List Field} {ks:List Kd} {xs ys:List Value} {b c:List Dt} (off:Nat),off<=xs.length->off<=ys.length->lK P d off q=some ks->DRs K h (xs.drop off) b->DRs K h (ys.drop off) c->zJ ks b->zJ ks c ->
  (Op.eqFields (d+e) xs.toArray ys.toArray q).run P w=.ok (fA b c) w
 |d,e,[],ks,xs,ys,b,c,off,_,_,a,_,_,r,s=>by
  cases d <;> (simp only[lK]at a;cases a)
  all_goals
   match b,c,r,s with
   |[],[],_,_=>simp[Op.eqFields,fA]
 |0,e,f::q,ks,xs,ys,b,c,off,_,_,a,_,_,_,_=>by simp[lK]at a
 |d+1,e,f::q,ks,xs,ys,b,c,off,L,M,a,u,v,r,s=>by
  unfold lK at a;split at a
  .cases a
  rename_i E;have i:¬ f.name= "_":=fun e=>E (.inl e);have j:f.offset=off:=Decidable.byContradiction fun e=>E (.inr e);split at a
  .rename_i l F;split at a
   .rename_i N x;cases a;obtain⟨k,y⟩:=Lt r;obtain⟨m,z⟩:=Lt s;have G:=Lu r;have H:=Lu s;have A:=u.length;have B:=v.length;simp only[length_drop,length_append]at G H A B;obtain⟨n,g,O,o⟩:=kn d F;have C:=KX (P:=P) w n o xs off (by omega) g;have D:=KX (P:=P) w n o ys off (by omega) g;have I:=VM d (t:=f.type) (e+1) F (u.take l.length) (v.take l.length) k m;have J:=mP d (e+1) (xs:=xs) (ys:=ys) (off+l.length) (by omega) (by omega) x (by simpa [drop_drop]using u.drop l.length) (by simpa [drop_drop]using v.drop l.length) y z;have p:fA b c=(fA (b.take l.length) (c.take l.length)&&fA (b.drop l.length) (c.drop l.length)):=by rw[<-UD _ _ k m,take_append_drop,take_append_drop]
    rw[p];rw[show d+1+e=d+(e+1)by omega];simp only[Op.eqFields,i,ne_eq,not_false_eq_true,if_true,j,Sem.run_bind,C,D,I,Result.andThen_ok];cases hb:fA (b.take l.length) (c.take l.length)
    .simp
    .simpa using J
   .cases a
  .cases a
theorem kn:∀(d:Nat) {t:TypeId} {ks:List Kd},gY P d t=some ks->hI P t=some ks.length/\(eH P t=false->ks.length=1)/\∃u,P.underlying t=some u
 |0,t,ks,a=>by simp[gY]at a
 |d+1,t,ks,a=>by
  unfold gY at a;split at a
  .rename_i b;split at a
   .rename_i hs;cases a;exact⟨hs,fun _=>rfl,_,b⟩
   .cases a
  .rename_i b;split at a
   .rename_i hs;cases a;exact⟨hs,fun _=>rfl,_,b⟩
   .cases a
  .rename_i b;split at a
   .rename_i hs;cases a;exact⟨hs,fun _=>rfl,_,b⟩
   .cases a
  .rename_i c b;split at a
   .cases a
   split at a
   .rename_i l e;split at a
    .rename_i hs;cases a;exact⟨hs,fun h=>by simp[eH,b]at h,_,b⟩
    .cases a
   .cases a
  .cases a
end
theorem Wz{e:TypeId}{k:IntKind}(j:P.underlying e=some (.int k))(q:hI P e=some 1)(d:Nat)(o p:List Value):∀(m a:Nat) (b c:List Dt),DRs K h (o.drop a) b->DRs K h (p.drop a) c->zJ (List.replicate m (.i k)) b->zJ (List.replicate m (.i k)) c ->
  (Op.eqItems (d+1) e 1 o.toArray p.toArray (List.range' a m)).run P w=.ok (fA b c) w
 |0,a,b,c,_,_,f,g=>by
  match b,c,f,g with
  |[],[],_,_=>simp[Op.eqItems,fA]
 |m+1,a,b,c,r,s,f,g=>by
  rw[replicate_succ]at f g;match b,c,f,g with
  |.i D x::b,.i E y::c,f,g =>
   simp only[zJ]at f g;obtain⟨rfl,f⟩:=f;obtain⟨rfl,g⟩:=g;have v:=r.length;have z:=s.length;simp only[length_drop,length_cons]at v z;have hag:eH P e=false:=by simp[eH,j]
   have t:=KX (P:=P) w q j o a (by omega) fun _=>rfl;have u:=KX (P:=P) w q j p a (by omega) fun _=>rfl;have l:=r.take 1;have n:=s.take 1;simp only[take_succ_cons,take_zero,DRs,DR]at l n;obtain⟨_,_,A,⟨rfl,_⟩,rfl⟩:=l;obtain⟨_,_,B,⟨rfl,_⟩,rfl⟩:=n;have C:=Wz j q d o p m (a+1) b c (by simpa [drop_drop]using r.drop 1) (by simpa [drop_drop]using s.drop 1) f g;rw[List.range'_succ];simp only[mg,hag,A,B,Bool.false_eq_true,if_false,getD_cons_zero]at t u;simp only[Op.eqItems,Nat.mul_one,Sem.run_bind,t,u,Result.andThen_ok,run_equalIn_int _ _ _ _ _ _ _ j];by_cases e:x=y
   .subst e;simpa [fA]using C
   .simp[fA,e]
theorem jP{t:TypeId}{ks:List Kd}(a:gy P t=some ks)(s:eH P t=true){c d:List Value}{f g:List Dt}(o:DRs K h c f)(p:DRs K h d g)(q:zJ ks f)(r:zJ ks g)(x y:Operand) :
  (do eqGuard .eql t x y (.agg c.toArray) (.agg d.toArray);binOp .eql t (.agg c.toArray) (.agg d.toArray):Sem Value).run P w=.ok (.bool (fA f g)) w /\
  (do eqGuard .neq t x y (.agg c.toArray) (.agg d.toArray);binOp .neq t (.agg c.toArray) (.agg d.toArray):Sem Value).run P w=.ok (.bool (!fA f g)) w:=by
 unfold gy at a;split at a
 .cases a
 rename_i u;have j:P.eqGuardType P.depth t=false:=by simpa using u
 have m:(Op.equalIn (60+9940) t (.agg c.toArray) (.agg d.toArray)).run P w=.ok (fA f g) w:=by
  split at a
  .rename_i l b;cases a;unfold ia at b;split at b;rotate_left
   .cases b
   rename_i n e v;split at b;rotate_left
   .cases b
   rename_i k a;split at b;rotate_left
   .cases b
   rename_i hs;cases b;obtain⟨i,hi,_⟩:=Option.map_eq_some_iff.1 hs.1;rw[show 60+9940=9999+1 from rfl,run_equalIn_array w 9999 _ _ v hi,hs.2,range_eq_range'];exact Wz w a hs.1 9998 c d n 0 f g o p q r
  .have m:=VM (P:=P) w 60 (t:=t) 9940 a o p q r;simpa only[mg,s,if_true]using m
 constructor
 .simp only[Sem.run_bind,run_eqGuard_agg _ _ _ _ _ _ _ j,Result.andThen_ok,run_eql_struct];rw[show(10000:Nat)=60+9940 from rfl,m];rfl
 .simp only[Sem.run_bind,run_eqGuard_agg _ _ _ _ _ _ _ j,Result.andThen_ok,run_neq_struct];rw[show(10000:Nat)=60+9940 from rfl,m];rfl
end
def zr:List Value->List Dt
 |.bool x::l=>.b x::zr l
 |.int k n::l=>.i k n::zr l
 |.string s::l=>.s s.data.toList::zr l
 |.slice none 0 0::l=>.l []::zr l
 |_=>[]
def MJ(t:Ti)(H:List Ob)(x i:Va):Pv:=match i with
 |.p (.i _ n)=>match t.kind,x with
  |.slice _ d _ g,.p (.l c)=>⟨.rp (c.getD n.toNat (zr g)),(c.getD n.toNat (zr g)).length=d/\0<=n/\n<c.length⟩
  |.slice _ d _ g,.full c=>⟨.rp (c.getD n.toNat (zr g)),(c.getD n.toNat (zr g)).length=d/\0<=n/\n<c.length⟩
  |.slice _ d _ _,.buf o=>match rC H o with
   |some (_,f,c,_)=>⟨.el o f n.toNat 0,f=d/\0<=n/\n<c.length⟩
   |none=>match eB H o with
    |.nst _ _ f _ _ c _=>⟨.el o f n.toNat 0,f=d/\0<=n/\n<c.length⟩
    |_=>eA
  |.slice _ d _ _,.nv p j=>match eB H p with
   |.inn _ f q=>⟨.ne p f j n.toNat 0,f=d/\0<=n/\n<(q.getD j []).length⟩
   |_=>eA
  |.slice _ d _ _,.vw o f a m=>match rC H o with
   |some (_,r,_,_)=>⟨.el o f (a+n.toNat) 0,f=d/\f=r/\0<=n/\n<m⟩
   |none=>eA
  |.slice _ d _ _,.cs o m=>⟨.ptr o n.toNat,d=1/\0<=n/\n<m⟩
  |.arr e _ d _,.ptr o h=>match eB H o with
   |.buf _ f c=>⟨.el o f n.toNat 0,f=d/\h=0/\e=c.length/\0<=n/\n<e⟩
   |_=>⟨.ptr o (h+n.toNat * d),0<=n/\n<e⟩
  |.arr e _ d _,.rp s=>⟨.rp (s.drop (n.toNat * d)),0<=n/\n<e⟩
  |.arr e _ d _,.raw (.pointer (some ⟨b,0,none⟩))=>match Tabs.tab b with
   |some (k,l)=>⟨.rp [.i k (l.getD n.toNat 0)],d=1/\l.length=e/\0<=n/\n<e⟩
   |none=>eA
  |_,_=>eA
 |_=>eA
def Nd(g:Ti)(f:Nat)(x:Va):Pv:=match g.kind with
 |.struct h=>match h[f]? with
  |some (c,b,_)=>match x with
   |.ptr o a=>⟨.ptr o (a+c),0<b⟩
   |.rp d=>⟨.rp (d.drop c),0<b⟩
   |.el o e i a=>⟨.el o e i (a+c),0<b⟩
   |.ne o e i j a=>⟨.ne o e i j (a+c),0<b⟩
   |_=>eA
  |none=>eA
 |_=>eA
def iV(c:Ti)(f:Nat)(x:Va):Pv:=match c.kind,x with
 |.struct d,.agg cs=>match d[f]? with
  |some (a,b,e)=>bif e then⟨.agg ((cs.drop a).take b),True⟩else⟨sY cs a,a<cs.length⟩
  |none=>eA
 |_,_=>eA
def iR(c:Ti)(x i:Va):Pv:=match c.kind,x,i with
 |.str,.p (.s s),.p (.i _ n)=>⟨.p (.i .u8 (s.getD n.toNat 0).toNat),0<=n/\n<s.length⟩
 |.arr b _ a d,.agg cs,.p (.i _ n)=>bif d then⟨.agg ((cs.drop (n.toNat * a)).take a),0<=n/\n<b⟩else⟨sY cs (n.toNat * a),0<=n/\n<b/\n.toNat * a<cs.length⟩
 |_,_,_=>eA
def MB(x:Va)(i:Nat):Pv:=match x with
 |.tup a=>⟨sY a i,i<a.length⟩
 |_=>eA
theorem lW{l:List Va}{j:Nat}(h:j<l.length):l[j]?=some (sY l j):=by unfold sY;rw[drop_eq_getElem_cons h];exact getElem?_eq_getElem h
theorem WH{P:Program}:∀{c:List Field} {l:List (Nat×Nat×Bool)},xA P c=some l->∀{f:Nat} {x:Nat×Nat×Bool},l[f]?=some x->∃a,c[f]?=some a/\a.offset=x.1/\hI P a.type=some x.2.1/\eH P a.type=x.2.2/\∃d,P.underlying a.type=some d
 |[],l,h,f,x,b=>by simp only[xA]at h;cases h;simp at b
 |a::c,l,h,f,x,b=>by
  simp only[xA]at h;split at h
  .rename_i n d j e g i;cases h;cases f with
   |zero=>simp at b;subst b;exact⟨a,rfl,rfl,e,rfl,_,g⟩
   |succ f=>simp at b;simpa using WH i b
  .cases h
section
variable {K:Nat->Prop} {G:List Gh} {H:List Ob} {w:World} {P:Program}
theorem Wq{t:TypeId}{c:Ti}(f:ex P t=some c){fs:List (Nat×Nat×Bool)}(g:c.kind=.struct fs):∃a,P.underlying t=some (.struct a)/\xA P a.toList=some fs:=by
 obtain⟨d,h,b,i⟩:=tS f;rw[g]at b;cases d <;> simp only[uf]at b <;> try (cases b)
 case slice e=>split at b <;> cases b
 case array n e=>split at b <;> cases b
 case struct a =>
  split at b
  .cases b;exact⟨a,h,by assumption⟩
  .cases b
theorem je{t:TypeId}{f:Ti}(h:ex P t=some f){e b g:Nat}{ez:List Value}(j:f.kind=.slice e b g ez):P.underlying t=some (.slice e)/\(∃i,P.info? e=some i/\i.size=b/\i.bytes=g)/\wW P e=some ez:=by
 obtain⟨d,k,a,l⟩:=tS h;rw[j]at a;cases d <;> simp only[uf]at a <;> try (cases a)
 case array n e=>split at a <;> cases a
 case struct c=>split at a <;> cases a
 case slice m =>
  split at a
  .cases a;exact⟨k,⟨_,by assumption,rfl,rfl⟩,by assumption⟩
  .cases a
theorem BI{t:TypeId}{f:Ti}(h:ex P t=some f){n e b:Nat}{g:Bool}(i:f.kind=.arr n e b g):P.underlying t=some (.array n e)/\hI P e=some b/\eH P e=g/\∃d,P.underlying e=some d:=by
 obtain⟨d,j,a,k⟩:=tS h;rw[i]at a;cases d <;> simp only[uf]at a <;> try (cases a)
 case slice e=>split at a <;> cases a
 case struct c=>split at a <;> cases a
 case array l m =>
  split at a
  .cases a;exact⟨j,by assumption,rfl,_,by assumption⟩
  .cases a
theorem BK{t:TypeId}{c:Ti}(f:ex P t=some c)(g:c.kind=.str):P.underlying t=some .string:=by
 obtain⟨d,h,a,i⟩:=tS f;rw[g]at a;cases d <;> simp only[uf]at a <;> try (cases a)
 case slice e=>split at a <;> cases a
 case array n e=>split at a <;> cases a
 case struct b=>split at a <;> cases a
 case string=>exact h
theorem iF{t:TypeId}{c:Ti}{k:IntKind}(f:ex P t=some c)(g:c.kind=.int k):P.underlying t=some (.int k):=by
 obtain⟨d,h,a,i⟩:=tS f;rw[g]at a;cases d <;> simp only[uf]at a <;> try (cases a)
 case slice e=>split at a <;> cases a
 case array n e=>split at a <;> cases a
 case struct b=>split at a <;> cases a
 case int=>exact h
theorem mo{t:TypeId}{n:Nat}(h:hI P t=some n):(sizeOf t).run P w=.ok n w:=by
 unfold hI at h;cases hi:P.info? t with
 |none=>simp[hi]at h
 |some i=>simp[hi]at h;simp[sizeOf,typeInfo,hi,h]
theorem T1{h:Array Obj}{b off:Nat}{cs:Array Value}{T:TypeId}{d:Nat×Nat}{c:List Value}{a:List Dt}(f:K b)(hb:h[b]?=some (.cells cs T d))(g:∀j v,c[j]?=some v->cs[off+j]?=some v)(i:DRs K h c a)(n:Nat) :
  VR K h G (.pointer (some ⟨b,off+n,none⟩)) (.rp (a.drop n)):=by
 simp only[VR];exact⟨b,off+n,cs,T,d,c.drop n,rfl,f,hb,fun j v e=>by rw[getElem?_drop]at e;rw[Nat.add_assoc];exact g _ v e,i.drop n⟩
theorem Bj{h:Array Obj}{c:Value}{a:List (List Dt)}(g:DR K h c (.l a)){i:Nat}(hi:i<a.length)(z:List Dt) :
  ∃b d e,c=.slice (some ⟨b,d,none⟩) a.length e/\VR K h G (.pointer (some ⟨b,d+i*(a.getD i z).length,none⟩)) (.rp (a.getD i z)):=by
 simp only[DR]at g;rcases g with⟨_,rfl⟩|⟨b,d,e,cs,T,n,o,s,rfl,p,hb,_,_,q,r⟩
 .simp at hi
 obtain⟨k,m⟩:=r.get i hi;rw[show a.getD i []=a.getD i z by simp[getD_eq_getElem?_getD,hi]]at k m;refine⟨b,d,e,rfl,?_⟩;simp only[VR];rw[m];refine⟨b,d+i*o,cs,T,n,_,rfl,p,hb,fun j v f=>?_,k⟩;rw[getElem?_take]at f;split at f
 .rw[getElem?_drop]at f;rw[Nat.add_assoc];exact q _ v f
 .cases f
theorem ny{t:TypeId}{ti:Ti}(ht:ex P t=some ti)(W:St K G H w){c ci:Value}{x i:Va}(A:VR K w.heap G c x)(hi:VR K w.heap G ci i)(h:(MJ ti H x i).ok) :
  ∃c',(Instr.indexAt t c ci).run P w=.ok c' w/\VR K w.heap G c' (MJ ti H x i).v:=by
 unfold MJ at h|-;split at h;rotate_left
 .exact h.elim
 rename_i k n;simp only[VR,DR]at hi;obtain⟨rfl,_⟩:=hi;have d:∀{e F eb:Nat} {ez:List Value},ti.kind=.slice e F eb ez->∀{b C m s:Nat},0<=n->n<m->(Instr.indexAt t (.slice (some ⟨b,C,none⟩) m s) (.int k n)).run P w=.ok (.pointer (some ⟨b,C+n.toNat * F,none⟩)) w:=by intro e F eb ez z b C m s u r;obtain⟨I,⟨i,hi1,hi2,_⟩,_⟩:=je ht z;have hs:(sizeOf e).run P w=.ok F w:=mo (by simp[hI,hi1,hi2]);simp[Instr.indexAt,asIntOf,run_underlying I,u,r,hs,mi]
 split at h
 .rename_i z;obtain⟨he,u,r⟩:=h;simp only[VR]at A;obtain⟨b,C,s,rfl,X⟩:=Bj (G:=G) A (i:=n.toNat) (by omega) (zr _);rw[he]at X;exact⟨_,d z u (by exact r),X⟩
 .rename_i z;obtain⟨he,u,r⟩:=h;simp only[VR]at A;obtain⟨b,C,s,rfl,X⟩:=Bj (G:=G) A.1 (i:=n.toNat) (by omega) (zr _);rw[he]at X;exact⟨_,d z u (by exact r),X⟩
 .rename_i z;simp only[VR]at A;obtain⟨g,B,rfl,_⟩:=A;split at h
  .rename_i o T sz D fx J;obtain⟨rfl,u,r⟩:=h;obtain⟨E,xs,M,O⟩:=W.bufOb J B;rcases O with⟨_,rfl,_⟩|⟨b,s,Q,V,y,q,hb,Y,h4,h5,h6,h7⟩
   .simp at r;omega
   refine⟨_,by rw[y];exact d z u r,?_⟩;simp only[VR];exact⟨g,b,_,_,B,q,y,by simp⟩
  .split at h;rotate_left
   .exact h.elim
   rename_i f T sz k p D st J;obtain⟨rfl,u,r⟩:=h;obtain⟨_,_,gp,vs,_,hvl,_,E,xs,M,O⟩:=W.ob _ g _ B (zy J (by simp));have R:=AV (k:=k) hvl;rcases O with⟨_,S,_⟩|⟨b,s,Q,V,y,q,hb,Y,h4,h5,h6,h7⟩
   .rw[S]at R;simp at R;omega
   refine⟨_,by rw[y];exact d z u (by rw[R];exact r),?_⟩;simp only[VR];exact⟨g,b,_,_,B,q,y,by simp⟩
 .rename_i z;simp only[VR]at A;obtain⟨g,a,m,s,B,U,rfl⟩:=A;split at h;rotate_left
  .exact h.elim
  rename_i p j _ T sz Z J;obtain⟨rfl,u,r⟩:=h;obtain⟨hb0,hl,hin,_⟩:=W.ob p g _ B (zy J (by simp));have hil:=(List.getElem?_eq_some_iff.1 U).1;have hins:Z[j]?=some (Z.getD j []):=by rw[getElem?_eq_getElem (by omega),getD_eq_getElem?_getD,getElem?_eq_getElem (by omega)];rfl
  obtain⟨E,xs,M,O⟩:=hin j _ _ U hins;rcases O with⟨_,S,_⟩|⟨b,cap',Q,V,y,q,hb,Y,h4,h5,h6,h7⟩
  .rw[S]at r;simp at r;omega
  cases y;cases s with
  |zero=>omega
  |succ s =>
   refine⟨_,d z u r,?_⟩;simp only[VR];exact⟨g,b,_,_,B,U,by simp⟩
 .rename_i z;split at h;rotate_left
  .exact h.elim
  rename_i o sz a m T sz' D fx J;obtain⟨rfl,rfl,u,r⟩:=h;simp only[VR]at A;obtain⟨g,ad,N,s,B,y,haN,ad',cap',rfl,hnc,_,hpos⟩:=A;obtain⟨b,q,rfl,rfl⟩:=hpos (by omega);refine⟨_,d z u r,?_⟩;simp only[VR];exact⟨g,b,_,_,B,q,y,by rw[Nat.add_mul,Nat.add_zero]⟩
 .rename_i z;obtain⟨rfl,u,r⟩:=h;simp only[VR]at A;obtain⟨g,b,B,q,rfl⟩:=A;refine⟨_,d z u r,?_⟩;simp only[VR];exact⟨g,b,B,q,by rw[Nat.zero_add,Nat.mul_one]⟩
 .rename_i z;simp only[VR]at A;obtain⟨g,b,B,q,rfl⟩:=A;obtain⟨I,hs,_⟩:=BI ht z;split at h
  .rename_i T sz D J;obtain⟨rfl,rfl,hl,u,r⟩:=h;obtain⟨E,xs,M,O⟩:=W.ob _ g _ B (zy J (by simp));rcases O with⟨_,_,hn⟩|⟨b',s,Q,V,y,L,_⟩
   .rw[q]at hn;cases hn
   obtain rfl:b'=b:=by rw[q]at L;exact(Option.some.inj L).symm
   refine⟨_,by simp only[Instr.indexAt,Instr.sureAddr,asIntOf,run_underlying I,u,r,mo hs,mi,Sem.run_bind,Sem.run_pure,Result.andThen_ok,true_and,if_true];rfl,?_⟩;simp only[VR];exact⟨g,b',_,_,B,q,y,by rw[Nat.zero_add,Nat.add_zero]⟩
  .obtain⟨u,r⟩:=h;refine⟨_,by simp only[Instr.indexAt,Instr.sureAddr,asIntOf,run_underlying I,u,r,mo hs,mi,Sem.run_bind,Sem.run_pure,Result.andThen_ok,true_and,if_true];rfl,?_⟩;simp only[VR];exact⟨g,b,B,q,rfl⟩
 .rename_i z;simp only[VR]at A;obtain⟨b,C,cs,T,V,vs,rfl,hK,hb,hv,hd⟩:=A;obtain⟨I,hs,_⟩:=BI ht z;obtain⟨u,r⟩:=h;exact⟨_,by simp only[Instr.indexAt,Instr.sureAddr,asIntOf,run_underlying I,u,r,mo hs,mi,Sem.run_bind,Sem.run_pure,Result.andThen_ok,true_and,if_true],T1 hK hb hv hd _⟩
 .rename_i z;split at h;rotate_left
  .exact h.elim
  rename_i kk l ht0;obtain⟨he,hlen,u,r⟩:=h;subst he;simp only[VR]at A;subst A;obtain⟨I,hs,_⟩:=BI ht z;obtain⟨hK,⟨T,V,hb⟩,hfit⟩:=W.tb.1 _ _ _ ht0;have hn:n.toNat<l.length:=by omega
  refine⟨_,by simp only[Instr.indexAt,Instr.sureAddr,asIntOf,run_underlying I,u,r,mo hs,mi,Sem.run_bind,Sem.run_pure,Result.andThen_ok,true_and,if_true];rfl,?_⟩;simp only[VR];refine⟨_,_,_,T,V,[.int kk (l.getD n.toNat 0)],rfl,hK,hb,fun j v hj=>?_,?_⟩
  .cases j with
   |succ j=>simp at hj
   |zero =>
    simp at hj;subst hj;simp[getElem?_eq_getElem hn]
  .simp only[DRs,DR];refine⟨_,[],rfl,⟨rfl,hfit _ ?_⟩,rfl⟩;simp[getElem?_eq_getElem hn]
 .exact h.elim
theorem zph{t:TypeId}{q:Ti}(B:ex P t=some q){f:Nat}{c:Value}{x:Va}(i:VR K w.heap G c x)(a:(Nd q f x).ok) :
  ∃z,(Instr.fieldAt t c f).run P w=.ok z w/\VR K w.heap G z (Nd q f x).v:=by
 unfold Nd at a|-;split at a;rotate_left
 .exact a.elim
 rename_i L C;split at a;rotate_left
 .exact a.elim
 rename_i D l M E;obtain⟨d,F,r⟩:=Wq B C;obtain⟨fd,s,A,m,_⟩:=WH r E;simp only at A m;have o:d[f]?=some fd:=by simpa using s
 have e:∀(b h:Nat),0<l->(Instr.fieldAt t (.pointer (some ⟨b,h,none⟩)) f).run P w=.ok (.pointer (some ⟨b,h+D,none⟩)) w:=by
  intro b h N;have:¬ l=0:=by omega
  simp[Instr.fieldAt,Instr.sureAddr,run_underlying F,o,fieldPlace,mo m,this,mi,A]
 split at a
 .simp only[VR]at i;obtain⟨g,b,p,j,rfl⟩:=i;exact⟨_,e _ _ a,by simp only[VR];exact⟨g,b,p,j,rfl⟩⟩
 .simp only[VR]at i;obtain⟨b,h,cs,T,O,Q,rfl,H,hb,I,J⟩:=i;exact⟨_,e _ _ a,T1 H hb I J _⟩
 .simp only[VR]at i;obtain⟨g,b,n,k,p,j,u,rfl⟩:=i;exact⟨_,e _ _ a,by simp only[VR];exact⟨g,b,n,k,p,j,u,by rw[Nat.add_assoc]⟩⟩
 .simp only[VR]at i;obtain⟨g,b,n,k,p,y,rfl⟩:=i;exact⟨_,e _ _ a,by simp only[VR];exact⟨g,b,n,k,p,y,by rw[Nat.add_assoc]⟩⟩
 .exact a.elim
theorem jN{t:TypeId}{n:Nat}(e:hI P t=some n){d:TypeDesc}(f:P.underlying t=some d)(cs:List Value)(a:Nat) :
  (eH P t=true->(part t cs.toArray a).run P w=.ok (.agg ((cs.drop a).take n).toArray) w)/\(eH P t=false->∀c,cs[a]?=some c->(part t cs.toArray a).run P w=.ok c w):=by
 have hag:(isAgg t).run P w=.ok (eH P t) w:=by
  simp only[isAgg,underlying,eH,Sem.run_bind,run_program,Result.andThen_ok,f];cases d <;> rfl
 constructor
 .intro b;simp only[part,Sem.run_bind,hag,b,Result.andThen_ok,if_true,mo e];simp
 .intro b c g;simp[part,hag,b,g]
theorem sA{t:TypeId}{j:Ti}(y:ex P t=some j){f:Nat}{c:Value}{x:Va}(q:VR K w.heap G c x)(a:(iV j f x).ok) :
  ∃s,(Instr.field t c f).run P w=.ok s w/\VR K w.heap G s (iV j f x).v:=by
 unfold iV at a|-;split at a;rotate_left
 .exact a.elim
 rename_i J cs z;split at a;rotate_left
 .exact a.elim
 rename_i k A B C;obtain⟨b,D,l⟩:=Wq y z;obtain⟨fd,m,u,e,hag,d,E⟩:=WH l C;simp only at u e hag;have g:b[f]?=some fd:=by simpa using m
 simp only[VR]at q;obtain⟨n,rfl,h⟩:=q;obtain⟨F,H⟩:=jN (w:=w) e E n k;have i:∀r,(part fd.type n.toArray k).run P w=.ok r w->(Instr.field t (.agg n.toArray) f).run P w=.ok r w:=by intro r I;simp only[Instr.field,run_underlying D,g,asAgg,Sem.run_bind,Sem.run_pure,Result.andThen_ok,u,I]
 cases B <;> simp only[cond_true,cond_false]at a|-
 .obtain⟨c,o,p⟩:=h.get k _ (lW a);exact⟨c,i _ (H hag c o),p⟩
 .refine⟨_,i _ (F hag),?_⟩;simp only[VR];exact⟨_,rfl,(h.drop _).take _⟩
theorem sq{t:TypeId}{m:Ti}(y:ex P t=some m){c z:Value}{x i:Va}(j:VR K w.heap G c x)(hi:VR K w.heap G z i)(a:(iR m x i).ok) :
  ∃A,(Instr.index t c z).run P w=.ok A w/\VR K w.heap G A (iR m x i).v:=by
 unfold iR at a|-;split at a
 .rename_i s k n o;simp only[VR,DR]at hi j;obtain⟨rfl,_⟩:=hi;obtain⟨rfl,_⟩:=j;obtain⟨f,p⟩:=a;have l:=BK y o;have b:n.toNat<s.length:=by omega
  have g:(⟨s.toArray⟩:ByteArray).size=s.length:=by simp[ByteArray.size]
  rw[run_index_string w t _ k n l,dif_pos ⟨f,by rw[g];exact p⟩];refine⟨_,rfl,?_⟩;have e:((⟨s.toArray⟩:ByteArray)[n.toNat]'(by rw[g];exact b))=s.getD n.toNat 0:=by
   show s.toArray[n.toNat]=_;simp[getElem?_eq_getElem b]
  rw[e];refine jE ⟨by simp[lo],?_⟩;have:=(s.getD n.toNat 0).toNat_lt;simp only[hi];omega
 .rename_i B e q C cs k n o;simp only[VR,DR]at hi j;obtain⟨rfl,_⟩:=hi;obtain⟨D,rfl,h⟩:=j;obtain⟨l,hs,hag,d,E⟩:=BI y o;obtain⟨p,F⟩:=jN (w:=w) hs E D (n.toNat * q);cases C <;> simp only[cond_true,cond_false]at a|-
  .obtain⟨f,b,H⟩:=a;obtain⟨c,r,u⟩:=h.get _ _ (lW H);exact⟨c,by simp only[Instr.index,asIntOf,run_underlying l,f,b,mo hs,Sem.run_bind,Sem.run_pure,Result.andThen_ok,true_and,if_true];exact F hag c r,u⟩
  .obtain⟨f,b⟩:=a;refine⟨_,by simp only[Instr.index,asIntOf,run_underlying l,f,b,mo hs,Sem.run_bind,Sem.run_pure,Result.andThen_ok,true_and,if_true];exact p hag,?_⟩;simp only[VR];exact⟨_,rfl,(h.drop _).take _⟩
 .exact a.elim
theorem nM{i:Nat}{c:Value}{x:Va}(f:VR K w.heap G c x)(a:(MB x i).ok) :
  ∃g,(Instr.extract c i).run P w=.ok g w/\VR K w.heap G g (MB x i).v:=by
 unfold MB at a|-;split at a
 .simp only[VR]at f;obtain⟨h,rfl,b⟩:=f;obtain⟨c,d,e⟩:=b.get i _ (lW a);exact⟨c,by simp[Instr.extract,d],e⟩
 .exact a.elim
end
def gk{α:Type}(x:List α):Option Nat->Option Nat->List α
 |none,none=>x
 |some a,none=>x.drop a
 |none,some b=>x.take b
 |some a,some b=>(x.drop a).take (b-a)
def fF:Option Va->Option Nat
 |some (.p (.i _ n))=>some n.toNat
 |_=>none
def jH(m:Nat):Option Va->Prop
 |none=>True
 |some (.p (.i _ n))=>0<=n/\n<=m
 |some _=>False
def gi:Option Va->Option Va->Prop
 |some (.p (.i _ a)),some (.p (.i _ b))=>a<=b
 |_,_=>True
def w6(x:Va)(l h m:Option Va):Pv:=match m with
 |none=>match x with
  |.p (.s s)=>⟨.p (.s (gk s (fF l) (fF h))),jH s.length l/\jH s.length h/\gi l h⟩
  |.p (.l a)=>⟨.p (.l (gk a (fF l) (fF h))),jH a.length l/\jH a.length h/\gi l h⟩
  |.full a=>⟨.p (.l (gk a (fF l) (fF h))),jH a.length l/\jH a.length h/\gi l h⟩
  |.nils=>⟨.nils,jH 0 l/\jH 0 h⟩
  |_=>eA
 |some (.p (.i _ c))=>match x,h with
  |.p (.l a),some (.p (.i _ b))=>⟨.full (gk a (fF l) (some b.toNat)),b=c/\jH a.length l/\0<=b/\b<=a.length/\gi l h⟩
  |_,_=>eA
 |_=>eA
section
variable {K:Nat->Prop} {G:List Gh} {H:List Ob} {w:World} {P:Program}
def BR(K:Nat->Prop)(h:Array Obj)(G:List Gh)(c:Option Value)(x:Option Va):Prop:=match c,x with
 |none,none=>True
 |some c,some x=>VR K h G c x
 |_,_=>False
theorem i5{h:Array Obj}{c:Option Value}{x:Option Va}(hb:BR K h G c x){m:Nat}(a:jH m x) :
  (c=none/\x=none)∨∃k n,c=some (.int k n)/\x=some (.p (.i k n))/\0<=n/\n<=m:=by
 cases x with
 |none=>cases c <;> simp_all[BR]
 |some x =>
  cases c with
  |none=>simp[BR]at hb
  |some c =>
   unfold jH at a;split at a
   .rename_i h;cases h
   .rename_i k n h;cases h;simp only[BR,VR,DR]at hb;exact .inr ⟨k,n,by rw[hb.1],rfl,a.1,a.2⟩
   .exact a.elim
theorem LL(isS:Bool)(len c:Nat)(m:len<=c){i j:Option Value}{l h:Option Va}{k:Array Obj}(n:BR K k G i l)(o:BR K k G j h)(p:jH len l)(q:jH len h)(r:gi l h) :
  ∃a b,(Instr.sliceBounds isS len c i j none).run P w=.ok (a,b,c) w/\a<=b/\b<=len/\a=(fF l).getD 0/\b=(fF h).getD len:=by
 rcases i5 n p with⟨rfl,rfl⟩|⟨u,g,rfl,rfl,d,s⟩ <;> rcases i5 o q with⟨rfl,rfl⟩|⟨v,e,rfl,rfl,f,t⟩
 .exact⟨0,len,by simp[Instr.sliceBounds],by omega,by omega,rfl,rfl⟩
 .exact⟨0,e.toNat,by simp[Instr.sliceBounds,run_sliceBound _ _ _ _ _ f (show e<=(c:Int)by omega)],by omega,by omega,rfl,rfl⟩
 .exact⟨g.toNat,len,by simp[Instr.sliceBounds,run_sliceBound _ _ _ _ _ d (show g<=(len:Int)by omega)],by omega,by omega,rfl,rfl⟩
 .simp only[gi]at r;exact⟨g.toNat,e.toNat,by simp[Instr.sliceBounds,run_sliceBound _ _ _ _ _ f (show e<=(c:Int)by omega),run_sliceBound _ _ _ _ _ d (show g<=(e.toNat:Int)by omega)],by omega,by omega,rfl,rfl⟩
theorem lR{α:Type}(x:List α)(l h:Option Nat)(a:l.getD 0<=h.getD x.length)(hb:h.getD x.length<=x.length):gk x l h=(x.drop (l.getD 0)).take (h.getD x.length-l.getD 0):=by
 cases l <;> cases h <;> simp[gk]
 rw[take_of_length_le (by simp)]
theorem M0{α:Type}(x:List α)(l h:Option Nat)(a:l.getD 0<=h.getD x.length)(hb:h.getD x.length<=x.length):(gk x l h).length=h.getD x.length-l.getD 0:=by rw[lR x l h a hb];simp;omega
def fe(n:Nat)(a:List (List Dt)):Prop:=∀r∈a,r.length=n
theorem DRss.sz{b:Array Obj}{n sz:Nat}{vs:List Value}:∀{rows:List (List Dt)},DRss K b sz vs rows->fe n rows->rows≠[]->sz=n
 |[],_,_,h=>absurd rfl h
 |r::c,a,hs,_=>by simp only[DRss]at a;obtain⟨_,_,_,d,_⟩:=a;have:=hs r (by simp);omega
theorem Bk{k:Array Obj}{b c d:Nat}{a:List (List Dt)}(z:∃cs T n e o,K b/\k[b]?=some (.cells cs T n)/\a.length<=eC/\(∀j v,o[j]?=some v->cs[c+j]?=some v)/\DRss K k e o a)(p:fe d a)(l h:Option Nat)(u:l.getD 0<=h.getD a.length)(hb:h.getD a.length<=a.length)(m:Nat)(C:h.getD a.length<=m) :
  DR K k (.slice (some (if m=l.getD 0 then⟨b,c,none⟩else(⟨b,c,none⟩:Addr).add (l.getD 0*d))) (h.getD a.length-l.getD 0) (m-l.getD 0)) (.l (gk a l h)):=by
 simp only[DR];obtain⟨cs,T,n,e,o,w,g,x,A,q⟩:=z;have i:=M0 a l h u hb;have r:DRss K k e ((o.drop (l.getD 0*e)).take ((h.getD a.length-l.getD 0)*e)) (gk a l h):=by rw[lR a l h u hb];exact(q.drop _).take _
 rw[<-i];by_cases y:m=l.getD 0
 .have B:(gk a l h).length=0:=by omega
  have s:gk a l h=[]:=length_eq_zero_iff.1 B;rw[if_pos y,s];exact .inr ⟨b,c,m-l.getD 0,cs,T,n,e,[],rfl,w,g,by simp,by simp,by simp,by simp[DRss]⟩
 .rw[if_neg y,mi];refine .inr ⟨b,c+l.getD 0*d,m-l.getD 0,cs,T,n,e,_,rfl,w,g,by omega,by omega,fun j v f=>?_,r⟩;rw[getElem?_take]at f;split at f
  .rw[getElem?_drop]at f;have:=A _ v f;have t:a≠[]:=by rintro rfl;have:=q;simp only[DRss]at this;subst this;simp at f
   rw[<-q.sz p t,Nat.add_assoc];exact this
  .cases f
theorem rV{t:TypeId}{ti:Ti}(ht:ex P t=some ti){c:Value}{W Z J:Option Value}{x:Va}{l h m:Option Va}(B:VR K w.heap G c x)(X:BR K w.heap G W l)(D:BR K w.heap G Z h)(hm:BR K w.heap G J m)
  (Y:ti.kind=.str/\(∃s,x=.p (.s s))∨(∃e n eb ez,ti.kind=.slice e n eb ez/\((∃rows,x=.p (.l rows)/\fe n rows)∨(∃rows,x=.full rows/\fe n rows)∨x=.nils)))
  (f:(w6 x l h m).ok) :
  ∃c',(Instr.sliceAt t c W Z J).run P w=.ok c' w/\VR K w.heap G c' (w6 x l h m).v:=by
 rcases Y with⟨Y,s,rfl⟩|⟨e,n,eb,ez,Y,hx⟩
 .have R:=BK ht Y;cases m with
  |some m=>unfold w6 at f;cases m <;> first|exact f.elim|(rename_i d;cases d <;> exact f.elim)
  |none =>
   cases J with
   |some J=>simp[BR]at hm
   |none =>
    simp only[w6]at f|-;obtain⟨E,S,L⟩:=f;simp only[VR,DR]at B;obtain⟨rfl,r⟩:=B;have g:(⟨s.toArray⟩:ByteArray).size=s.length:=by simp[ByteArray.size]
    obtain⟨a,b,A,q,o,rfl,rfl⟩:=LL (P:=P) (w:=w) false s.length s.length (Nat.le_refl _) X D E S L;refine⟨_,by simp only[Instr.sliceAt,Instr.slice,run_underlying R,Sem.run_bind,Result.andThen_ok,Option.isSome_none,Bool.false_eq_true,if_false,Sem.run_pure,g,A];rfl,?_⟩;have e:(⟨s.toArray⟩:ByteArray).extract ((fF l).getD 0) ((fF h).getD s.length)=⟨(gk s (fF l) (fF h)).toArray⟩:=by rw[lR s _ _ q o];apply ByteArray.ext;rw[ByteArray.data_extract];simp
    rw[e];refine wM ?_;rw[M0 s _ _ q o];omega
 .obtain⟨R,⟨i,hi1,hi2,hi3⟩,_⟩:=je ht Y;have u:(sizeOf e).run P w=.ok n w:=mo (by simp[hI,hi1,hi2]);cases m with
  |none =>
   cases J with
   |some J=>simp[BR]at hm
   |none =>
    -- a slice of pure data,not nil or nil
    have M:∀(rows:List (List Dt)),fe n rows->DR K w.heap c (.l rows)->jH rows.length l/\jH rows.length h/\gi l h ->
      ∃c',(Instr.sliceAt t c W Z none).run P w=.ok c' w/\DR K w.heap c' (.l (gk rows (fF l) (fF h))):=by
     intro rows g hd ⟨E,S,L⟩;have y:=hd;simp only[DR]at y;rcases y with⟨⟨N,rfl⟩,rfl⟩|⟨b,F,j,cs,T,fr,sz,vs,rfl,hK,o,H,r,hv,U⟩
     .obtain⟨a,b,A,q,o,ha',V⟩:=LL (P:=P) (w:=w) true 0 0 (Nat.le_refl _) X D E S L;have z:b=0:=by omega
      have C:a=0:=by omega
      subst z;subst C;refine⟨.slice N 0 0,by cases N <;> simp only[Instr.sliceAt,Instr.slice,run_underlying R,Sem.run_bind,Result.andThen_ok,A,u,Sem.run_pure,if_true,Nat.sub_self],?_⟩;simp only[DR];left;refine⟨⟨N,rfl⟩,?_⟩;have:=M0 ([]:List (List Dt)) (fF l) (fF h) (by rw[<-ha'];omega) (by simp only[length_nil];rw[<-V];omega);exact length_eq_zero_iff.1 (by rw[this];simp only[length_nil];rw[<-V,Nat.zero_sub])
     .obtain⟨a,b',A,q,hbl',rfl,rfl⟩:=LL (P:=P) (w:=w) true rows.length j H X D E S L;refine⟨_,by simp only[Instr.sliceAt,Instr.slice,run_underlying R,Sem.run_bind,Result.andThen_ok,A,u,Sem.run_pure];rfl,?_⟩;have:=Bk ⟨cs,T,fr,sz,vs,hK,o,r,hv,U⟩ g (fF l) (fF h) q hbl' j (by omega);split <;> rename_i hz <;> simpa [hz]using this
    rcases hx with⟨rows,rfl,g⟩|⟨rows,rfl,g⟩|rfl
    .simp only[w6]at f|-;simp only[VR]at B|-;exact M rows g B f
    .simp only[w6]at f|-;simp only[VR]at B|-;exact M rows g B.1 f
    .simp only[w6]at f|-;simp only[VR]at B;subst B;obtain⟨E,S⟩:=f
     have L:gi l h:=by
      rcases i5 X E with⟨_,rfl⟩|⟨kl,nl,_,rfl,hl0,hl1⟩
      .simp[gi]
      .rcases i5 D S with⟨_,rfl⟩|⟨kh,nh,_,rfl,hh0,hh1⟩
       .simp[gi]
       .simp only[gi];omega
     obtain⟨a,b,A,q,o,ha',V⟩:=LL (P:=P) (w:=w) true 0 0 (Nat.le_refl _) X D E S L;have z:b=0:=by omega
     have C:a=0:=by omega
     subst z;subst C;exact⟨.slice none 0 0,by simp only[Instr.sliceAt,Instr.slice,run_underlying R,Sem.run_bind,Result.andThen_ok,A,u,Sem.run_pure,if_true,Nat.sub_self],by simp only[VR]⟩
  |some m =>
   unfold w6 at f|-;split at f
   .rename_i D;cases D
   .rename_i km c0 heq;cases heq;split at f;rotate_left
    .exact f.elim
    rename_i rows kh k;obtain⟨rfl,E,z,hb1,L⟩:=f;have g:fe n rows:=by
     rcases hx with⟨rows',he,g⟩|⟨_,he,_⟩|he
     .cases he;exact g
     .cases he
     .cases he
    cases Z with
    |none=>simp[BR]at D
    |some Z =>
     cases J with
     |none=>simp[BR]at hm
     |some J =>
      simp only[BR,VR,DR]at D hm;obtain⟨rfl,_⟩:=D;obtain⟨rfl,_⟩:=hm;simp only[VR]at B;have y:=B;simp only[DR]at y;have hlb:∃a,a=(fF l).getD 0/\a<=k.toNat/\(match W with|some v=>Instr.sliceBound v k.toNat .slice3C|none=>pure 0:Sem Nat).run P w=.ok a w:=by
       rcases i5 X E with⟨rfl,rfl⟩|⟨kl,nl,rfl,rfl,hl0,hl1⟩
       .exact⟨0,rfl,by omega,rfl⟩
       .simp only[gi]at L;exact⟨nl.toNat,rfl,by omega,run_sliceBound _ _ _ _ _ hl0 (by omega)⟩
      obtain⟨a,ha,q,I⟩:=hlb;have O:∀(base:Option Addr) (j:Nat),rows.length<=j->(Instr.sliceBounds true rows.length j W (some (.int kh k)) (some (.int km k))).run P w=.ok (a,k.toNat,k.toNat) w:=by
       intro base j H;have e1:=run_sliceBound (P:=P) (w:=w) km k j .slice3Acap z (show k<=(j:Int)by omega);have e2:=run_sliceBound (P:=P) (w:=w) kh k k.toNat .slice3B z (show k<=(k.toNat:Int)by omega);clear hx Y hi1 hi2 hi3 u y B;unfold Instr.sliceBounds;cases W with
       |none =>
        simp only[Sem.run_pure]at I;cases I;simp only[Sem.run_bind,if_true,e1,Result.andThen_ok,e2,Sem.run_pure]
       |some v =>
        simp only[Option.isSome_some,if_true,Sem.run_bind,e1,Result.andThen_ok,e2,Sem.run_pure];simp only at I;rw[I];rfl
      rcases y with⟨⟨N,rfl⟩,rfl⟩|⟨b,F,j,cs,T,fr,sz,vs,rfl,hK,o,H,r,hv,U⟩
      .have hb00:k.toNat=0:=by simp at hb1;omega
       have C:a=0:=by omega
       have A:=O none 0 (by simp);simp only[length_nil]at A;refine⟨.slice N 0 0,by cases N <;> simp only[Instr.sliceAt,Instr.slice,run_underlying R,Sem.run_bind,Result.andThen_ok,A,u,Sem.run_pure,hb00,C,if_true,Nat.sub_self],?_⟩;have hc0:gk ([]:List (List Dt)) (fF l) (some k.toNat)=[]:=by
        apply length_eq_zero_iff.1;rw[M0 _ _ _ (by simp only[Option.getD_some];omega) (by simp only[Option.getD_some];simp;omega)];simp only[Option.getD_some];omega
       rw[hc0];simp only[VR,DR];exact⟨.inl ⟨⟨N,rfl⟩,trivial⟩,N,rfl⟩
      .have A:=O (some ⟨b,F,none⟩) j H;have hlc:=Bk ⟨cs,T,fr,sz,vs,hK,o,r,hv,U⟩ g (fF l) (some k.toNat) (by simp only[Option.getD_some];omega) (by simp only[Option.getD_some];omega) k.toNat (by simp);have Q:=M0 rows (fF l) (some k.toNat) (by simp only[Option.getD_some];omega) (by simp only[Option.getD_some];omega);simp only[Option.getD_some,<-ha]at hlc Q;refine⟨_,by simp only[Instr.sliceAt,Instr.slice,run_underlying R,Sem.run_bind,Result.andThen_ok,A,u,Sem.run_pure];rfl,?_⟩;simp only[VR];refine⟨?_,⟨if k.toNat=a then some ⟨b,F,none⟩else some ((⟨b,F,none⟩:Addr).add (a*n)),?_⟩⟩
       .split <;> rename_i hz <;> simpa [hz]using hlc
       .rw[Q];rfl
   .exact f.elim
def kQ(f:Ti)(H:List Ob):Va->Option (Nat×Nat×Nat×Nat×Prop)
 |.buf o=>match f.kind,rC H o with
  |.slice _ b _ _,some (_,d,c,_)=>some (o,d,0,c.length,d=b)
  |_,_=>none
 |.vw o d a n=>match f.kind with
  |.slice _ b _ _=>some (o,d,a,n,d=b)
  |_=>none
 |.ptr o 0=>match f.kind,eB H o with
  |.arr e _ b _,.buf _ d c=>some (o,d,0,e,d=b/\c.length=e)
  |_,_=>none
 |_=>none
def mw(r:Nat×Nat×Nat×Nat×Prop)(l h m:Option Va):Pv:=match m with
 |none=>⟨.vw r.1 r.2.1 (r.2.2.1+(fF l).getD 0) ((fF h).getD r.2.2.2.1-(fF l).getD 0),r.2.2.2.2/\jH r.2.2.2.1 l/\jH r.2.2.2.1 h/\gi l h⟩
 |some _=>eA
theorem ua{g:Gh}{f:Option Addr}{N e a n l h:Nat}{c:Option Addr}{m d:Nat}(p:a+n<=N)(q:a+m<=d)(i:0<m->∃b,g.blk=some b/\f=some ⟨b,0,none⟩/\c=some ⟨b,a*e,none⟩)(r:l<=h)(s:h<=n)(t:n<=m) :
  Vo (.slice (if m=l then c else c.map (·.add (l*e))) (h-l) (m-l)) g.blk f N d e (a+l) (h-l):=by
 refine⟨by omega,_,_,rfl,by omega,by omega,fun u=>?_⟩;obtain⟨b,j,k,o⟩:=i (by omega);refine⟨b,j,k,?_⟩;rw[if_neg (by omega),o,Option.map_some,mi,Nat.add_mul]
theorem ub{t:TypeId}{ti:Ti}(ht:ex P t=some ti)(hS:St K G H w){c:Value}{cl ch cm:Option Value}{x:Va}{l h m:Option Va}(R:VR K w.heap G c x)(hl:BR K w.heap G cl l)(hh:BR K w.heap G ch h)(hm:BR K w.heap G cm m)
  {r:Nat×Nat×Nat×Nat×Prop} (f:kQ ti H x=some r) (z:(mw r l h m).ok) :
  ∃S,(Instr.sliceAt t c cl ch cm).run P w=.ok S w/\VR K w.heap G S (mw r l h m).v:=by
 cases m with
 |some m=>exact z.elim
 |none =>
  cases cm with
  |some cm=>simp[BR]at hm
  |none =>
   -- a cut of a slice
   have A:∀{o u a n:Nat} {e j eb:Nat} {ez:List Value},ti.kind=.slice e j eb ez->u=j->jH n l->jH n h->gi l h->VR K w.heap G c (.vw o u a n) ->
     ∃S,(Instr.sliceAt t c cl ch none).run P w=.ok S w/\VR K w.heap G S (.vw o u (a+(fF l).getD 0) ((fF h).getD n-(fF l).getD 0)):=by
    intro o u a n e j eb ez F he B C I hv;subst he;obtain⟨hu,⟨i,hi1,hi2,hi3⟩,_⟩:=je ht F;have hes:(sizeOf e).run P w=.ok u w:=mo (by simp[hI,hi1,hi2]);simp only[VR]at hv;obtain⟨g,ad,N,k,D,p,haN,U,q,rfl,V,hcc,W⟩:=hv;obtain⟨x,y,f,J,L,rfl,rfl⟩:=LL (P:=P) (w:=w) true n q V hl hh B C I;refine⟨.slice (if q=(fF l).getD 0 then U else U.map (·.add ((fF l).getD 0*u))) ((fF h).getD n-(fF l).getD 0) (q-(fF l).getD 0),by simp only[Instr.sliceAt,Instr.slice,run_underlying hu,Sem.run_bind,Result.andThen_ok,f,hes,Sem.run_pure],?_⟩;simp only[VR];exact⟨g,ad,N,k,D,p,ua haN hcc W J L V⟩
   unfold kQ at f;split at f
   .split at f;rotate_left
    .cases f
    rename_i o e j eb ez T u d fx F hx;cases f;obtain⟨Q,B,C,I⟩:=z;refine A F Q B C I ?_;simp only[VR]at R|-;obtain⟨g,D,rfl,_⟩:=R;obtain⟨X,xs,hxs,M⟩:=hS.bufOb hx D;rcases M with⟨⟨a,Y⟩,rfl,_⟩|⟨b,k,cur,fr,p,s,hb,hfr,h4,h5,h6,h7⟩
    .exact⟨g,a,0,0,D,Y,by simp,a,0,Y,by simp,by simp,by simp⟩
    .exact⟨g,_,_,k,D,p,by simp,_,k,p,h4,by simp,fun _=>⟨b,s,rfl,by simp⟩⟩
   .split at f;rotate_left
    .cases f
    rename_i o u a n e j eb ez F;cases f;obtain⟨Q,B,C,I⟩:=z;exact A F Q B C I R
   .split at f;rotate_left
    .cases f
    rename_i o len e j ag T u d F hx;cases f;obtain⟨⟨Q,Z⟩,B,C,I⟩:=z;simp only at Q B C;subst Q;subst Z;obtain⟨hu,hs,_⟩:=BI ht F;simp only[VR]at R;obtain⟨g,b,D,s,rfl⟩:=R;obtain⟨X,xs,hxs,M⟩:=hS.ob _ g _ D (zy hx (by simp));rcases M with⟨_,_,hn⟩|⟨b',k,cur,fr,p,E,_,_,O,_⟩
    .rw[s]at hn;cases hn
    obtain rfl:b'=b:=by rw[s]at E;exact(Option.some.inj E).symm
    obtain⟨x,y,f,J,L,rfl,rfl⟩:=LL (P:=P) (w:=w) false d.length d.length (Nat.le_refl _) hl hh B C I;refine⟨.slice (if d.length=(fF l).getD 0 then(some ⟨b',0,none⟩:Option Addr)else(some ⟨b',0,none⟩:Option Addr).map (·.add ((fF l).getD 0*u))) ((fF h).getD d.length-(fF l).getD 0) (d.length-(fF l).getD 0),?_,?_⟩
    .simp only[Instr.sliceAt,Instr.sureAddr,run_underlying hu,Sem.run_bind,Result.andThen_ok,f,mo hs,Sem.run_pure];split <;> rfl
    .simp only[mw,VR];exact⟨g,_,_,k,D,p,ua (by simp) (by simpa using O) (fun _=>⟨b',s,rfl,by simp⟩) J L (Nat.le_refl _)⟩
   .cases f
end
def bR(l:List UInt8):List (List Dt):=l.map fun b=>[.i .u8 b.toNat]
def gD:List (List Dt)->List UInt8
 |[]=>[]
 |[.i _ n]::a=>UInt8.ofNat n.toNat::gD a
 |_::a=>gD a
def fK:List (List Dt)->Prop
 |[]=>True
 |[.i k _]::a=>k=.u8/\fK a
 |_::_=>False
theorem ud:∀l:List UInt8,gD (bR l)=l
 |[]=>rfl
 |b::l=>by
  show UInt8.ofNat ((b.toNat:Int).toNat)::gD (bR l)=b::l;rw[ud l];simp
theorem ry:∀l:List UInt8,fK (bR l)
 |[]=>trivial
 |_::l=>⟨rfl,ry l⟩
theorem sW(a:List UInt8):(bR a).length=a.length:=by simp[bR]
def mR(H:List Ob)(o:Nat):Option (List (List Dt)):=match eB H o with
 |.sb _ a=>some (bR a)
 |_=>(rC H o).map fun p=>p.2.2.1
def BF(H:List Ob):Va->Option (List (List Dt))
 |.p (.l b)=>some b
 |.full b=>some b
 |.nils=>some []
 |.buf o=>mR H o
 |.bufc o _=>mR H o
 |.vw o e a n=>match rC H o with
  |some (_,c,b,_)=>if e=c then some ((b.drop a).take n)else none
  |none=>none
 |.nv p i=>match eB H p with
  |.inn _ _ d=>some (d.getD i [])
  |_=>none
 |_=>none
def lenN(H:List Ob):Va->Option Nat
 |.buf o=>match eB H o with
  |.nst _ _ _ _ _ a _=>some a.length
  |_=>none
 |_=>none
def PJ(op:UnOp):Va->Pv
 |.p (.b x)=>match op with
  |.not=>⟨.p (.b (!x)),True⟩
  |_=>eA
 |.p (.i k n)=>match op with
  |.neg=>⟨.p (.i k (k.wrap (0-n))),True⟩
  |.xor=>⟨.p (.i k (gv .xor k (if k.signed then -1 else k.max) n)),True⟩
  |_=>eA
 |_=>eA
def zo(P:Program)(t:TypeId):Tk:=match ex P t with
 |some a=>a.kind
 |none=>.other
def nV(P:Program)(b c:TypeId)(H:List Ob)(x:Va):Pv:=match zo P c with
 |.int d=>match x with
  |.p (.i _ n)=>⟨.p (.i d (d.wrap n)),True⟩
  |_=>eA
 |.str=>match x with
  |.p (.s s)=>⟨.p (.s s),True⟩
  |x=>match BF H x,zo P b with
   |some a,.slice e _ _ _=>match zo P e with
    |.int .u8=>⟨.p (.s (gD a)),fK a⟩
    |_=>eA
   |_,_=>eA
 |_=>eA
def vo(P:Program)(t:TypeId)(H:List Ob)(x:Va):Pv:=match zo P t with
 |.str=>match x with
  |.p (.s s)=>⟨.p (.i .i64 s.length),True⟩
  |_=>eA
 |.arr n _ _ _=>⟨.p (.i .i64 n),n<=eC⟩
 |.slice _ _ _ _=>match BF H x with
  |some a=>⟨.p (.i .i64 a.length),True⟩
  |none=>match x with
   |.cs _ n=>⟨.p (.i .i64 n),n<=eC⟩
   |x=>match lenN H x with
    |some n=>⟨.p (.i .i64 n),True⟩
    |none=>eA
 |.map _ _=>match x with
  |.mp o=>match eB H o with
   |.mp _ b=>⟨.p (.i .i64 b.length),True⟩
   |_=>eA
  |_=>eA
 |_=>eA
def Tm(P:Program)(a b T:TypeId)(n:Nat):Bool:=match P.underlying a,P.underlying b with
 |some (.pointer t),some .unsafePointer=>match P.info? t with
  |some j=>decide (j.size≠0)&&decide (0<n)
  |none=>false
 |some .unsafePointer,some (.pointer u)=>(P.info? u).isSome&&liesAt P P.depth T (n / P.cellsOf T) 0 u 1
 |_,_=>false
def nW(P:Program)(a b:TypeId)(H:List Ob)(x:Va):Pv:=match x with
 |.ptr o 0=>match eB H o with
  |.cells T c=>⟨.ptr o 0,Tm P a b T c.length=true⟩
  |_=>eA
 |x=>nV P a b H x
theorem Lc{n:Nat}(h:n<=eC):Fits .i64 n:=by simp only[Fits,lo,hi];unfold eC at h;omega
section
variable {K:Nat->Prop} {G:List Gh} {H:List Ob} {w:World} {P:Program}
theorem zL{t:TypeId}{k:Tk}(h:zo P t=k)(b:k≠.other):∃a,ex P t=some a/\a.kind=k:=by
 unfold zo at h;split at h
 .exact⟨_,by assumption,h⟩
 .exact absurd h.symm b
theorem EZ{op:UnOp}{c:Value}{x:Va}(b:VR K w.heap G c x)(a:(PJ op x).ok):∃d,(Op.unary op c).run P w=.ok d w/\VR K w.heap G d (PJ op x).v:=by
 unfold PJ at a|-;split at a
 .simp only[VR,DR]at b;subst b;cases op <;> first|exact a.elim|exact⟨_,rfl,fS rfl⟩
 .simp only[VR,DR]at b;obtain⟨rfl,_⟩:=b;cases op <;> first|exact a.elim|exact⟨_,rfl,jE (Fits.wrap _ _)⟩|exact⟨_,rfl,jE (Fits.bits _ _ _ _)⟩
 .exact a.elim
theorem DRss.bytes{h:Array Obj}(l:List UInt8):DRss K h 1 (l.map fun b=>Value.int .u8 b.toNat) (bR l):=by
 induction l with
 |nil=>simp[bR,DRss]
 |cons b l a =>
  simp only[bR,map_cons,DRss];refine⟨[.int .u8 b.toNat],_,rfl,rfl,?_,a⟩;simp only[DRs,DR];refine⟨_,[],rfl,⟨rfl,by simp[lo],?_⟩,rfl⟩;have:=b.toNat_lt;simp only[hi];omega
theorem mQ(D:St K G H w){c:Value}{o:Nat}(p:VR K w.heap G c (.buf o)){d:List (List Dt)}(l:mR H o=some d) :
  d.length<=eC/\((∃a e,c=.slice a 0 e/\d=[])∨∃b m e cs T r s E,c=.slice (some ⟨b,m,none⟩) d.length e/\w.heap[b]?=some (.cells cs T r) /\
   (∀j v,E[j]?=some v->cs[m+j]?=some v)/\DRss K w.heap s E d):=by
 unfold mR at l;split at l
 .rename_i o T q t;cases l;simp only[VR]at p;obtain⟨g,u,rfl,_⟩:=p;obtain⟨f,x⟩:=D.ob _ g _ u (zy t (by simp));have n:(bR q).length=q.length:=by simp[bR]
  rcases x with⟨y,rfl,_⟩|⟨b,e,i,r,k,z,hb,A,I,J,L,F,M⟩
  .exact⟨by simp[bR],.inl ⟨none,0,y,rfl⟩⟩
  .refine⟨by rw[n];exact f,.inr ⟨b,0,e,i,T,_,1,q.map me,by rw[n];exact k,hb,fun j v h=>?_,DRss.bytes q⟩⟩;rw[<-M,getElem?_take]at h;split at h
   .rw[Nat.zero_add,<-Array.getElem?_toList];exact h
   .cases h
 obtain⟨⟨T,s,B,fx⟩,t,l⟩:=Option.map_eq_some_iff.1 l;cases l;simp only[VR]at p;obtain⟨g,u,rfl,_⟩:=p;obtain⟨f,N,C,x⟩:=D.bufOb t u;rcases x with⟨⟨a,y⟩,rfl,_⟩|⟨b,e,i,r,k,z,hb,A,I,J,L,F⟩
 .exact⟨by simp,.inl ⟨a,0,y,rfl⟩⟩
 .refine⟨f,.inr ⟨b,0,e,i,T,_,s,N,k,hb,fun j v h=>?_,C⟩⟩;rw[<-F,getElem?_take]at h;split at h
  .rw[Nat.zero_add,<-Array.getElem?_toList];exact h
  .cases h
theorem V7(L:St K G H w){c:Value}{x:Va}(q:VR K w.heap G c x){f:List (List Dt)}(h:BF H x=some f) :
  f.length<=eC/\((∃a d,c=.slice a 0 d/\f=[])∨∃b r d cs T z s C,c=.slice (some ⟨b,r,none⟩) f.length d/\w.heap[b]?=some (.cells cs T z) /\
   (∀j v,C[j]?=some v->cs[r+j]?=some v)/\DRss K w.heap s C f):=by
 unfold BF at h;split at h
 .rename_i k;cases h;simp only[VR,DR]at q;rcases q with⟨⟨a,rfl⟩,rfl⟩|⟨b,r,d,cs,T,z,s,C,rfl,hK,hb,M,e,O,P⟩
  .exact⟨by simp,.inl ⟨a,0,rfl,rfl⟩⟩
  .exact⟨e,.inr ⟨b,r,d,cs,T,z,s,C,rfl,hb,O,P⟩⟩
 .rename_i k;cases h;simp only[VR,DR]at q;rcases q.1 with⟨⟨a,rfl⟩,rfl⟩|⟨b,r,d,cs,T,z,s,C,rfl,hK,hb,M,e,O,P⟩
  .exact⟨by simp,.inl ⟨a,0,rfl,rfl⟩⟩
  .exact⟨e,.inr ⟨b,r,d,cs,T,z,s,C,rfl,hb,O,P⟩⟩
 .cases h;simp only[VR]at q;exact⟨by simp,.inl ⟨none,0,q,rfl⟩⟩
 .exact mQ L q h
 .refine mQ L ?_ h;simp only[VR]at q|-;obtain⟨g,a,n,d,D,h2,h3,_⟩:=q;exact⟨g,D,h3,a,n,d,h2⟩
 .rename_i o s a n;split at h;rotate_left
  .cases h
  rename_i T sz' k fx Q;split at h;rotate_left
  .cases h
  rename_i R;subst R;cases h;simp only[VR]at q;obtain⟨g,ad,N,d,S,u,haN,U,l,rfl,hnc,_,E⟩:=q;obtain⟨e,V,A,W⟩:=L.bufOb Q S;rcases Nat.eq_zero_or_pos n with rfl|hn
  .exact⟨by simp,.inl ⟨U,l,rfl,by simp⟩⟩
  obtain⟨b0,hgb0,rfl,rfl⟩:=E (by omega);rcases W with⟨⟨a',D⟩,rfl,_⟩|⟨b,cap2,B,z,y,X,hb,Y,h4,h5,h6,Z⟩
  .rw[u]at D;cases D;omega
  rw[u]at y;cases y;have hl:((k.drop a).take n).length=n:=by simp;omega
  refine⟨by omega,.inr ⟨_,a*s,l,B,T,_,s,(V.drop (a*s)).take (n*s),by rw[hl],hb,fun j v t=>?_,(A.drop _).take _⟩⟩;rw[getElem?_take]at t;split at t
  .rw[getElem?_drop,<-Z,getElem?_take]at t;split at t
   .rw[<-Array.getElem?_toList];exact t
   .cases t
  .cases t
 .split at h;rotate_left
  .cases h
  rename_i p i _ T s F Q;cases h;simp only[VR]at q;obtain⟨g,a,m,d,S,I,rfl⟩:=q;obtain⟨hb0,hl,hin,_⟩:=L.ob p g _ S (zy Q (by simp));have hil:=(List.getElem?_eq_some_iff.1 I).1;have J:F[i]?=some (F.getD i []):=by rw[getElem?_eq_getElem (by omega),getD_eq_getElem?_getD,getElem?_eq_getElem (by omega)];rfl
  obtain⟨e,V,A,W⟩:=hin i _ _ I J;rcases W with⟨⟨a',D⟩,h0',_⟩|⟨b,l,B,z,u,X,hb,Y,h4,h5,h6,Z⟩
  .exact⟨e,.inl ⟨a',0,D,h0'⟩⟩
  .refine⟨e,.inr ⟨b,0,l,B,T,_,s,V,u,hb,fun j v t=>?_,A⟩⟩;rw[<-Z,getElem?_take]at t;split at t
   .rw[Nat.zero_add,<-Array.getElem?_toList];exact t
   .cases t
 .cases h
theorem YU{h:Array Obj}{c:Bool}:∀{a:List MapEntry} {b:List (Dt×List Dt)},MRs K h c a b->a.length=b.length
 |[],[],_=>rfl
 |_::a,_::b,H=>by simp only[MRs]at H;simp[YU H.2.2]
 |[],_::_,H=>by simp[MRs]at H
 |_::_,[],H=>by simp[MRs]at H
theorem BJ{t:TypeId}{c:Ti}(f:ex P t=some c){k e:TypeId}(g:c.kind=.map k e):P.underlying t=some (.map k e):=by
 obtain⟨d,h,a,i⟩:=tS f;rw[g]at a;cases d <;> simp only[uf]at a <;> try (cases a)
 case slice e=>split at a <;> cases a
 case array n e=>split at a <;> cases a
 case struct b=>split at a <;> cases a
 case map=>exact h
theorem yI(s:St K G H w){c:Value}{x:Va}(m:VR K w.heap G c x){n:Nat}(e:lenN H x=some n):∃a h,c=.slice a n h/\n<=eC:=by
 unfold lenN at e;split at e;rotate_left
 .cases e
 split at e;rotate_left
 .cases e
 rename_i f T B k p o C t;cases e;simp only[VR]at m;obtain⟨g,u,rfl,_⟩:=m;obtain⟨q,_,D,E,_,i,_,r,F,v,y⟩:=s.ob _ g _ u (zy t (by simp));have d:=AV (k:=k) i;rcases y with⟨⟨a,z⟩,j,_⟩|⟨b,h,A,I,l,_⟩
 .rw[j]at d;simp at d;exact⟨a,0,by rw[z,<-d],q⟩
 .exact⟨_,_,by rw[l,d],q⟩
theorem yH{t:TypeId}(A:St K G H w){c:Value}{x:Va}(k:VR K w.heap G c x)(d:(vo P t H x).ok)(E:Array TypeId)(i:E[0]?=some t)(L:TypeId) :
  ∃F,(Builtin.len_ E L #[c]).run P w=.ok F w/\VR K w.heap G F (vo P t H x).v:=by
 unfold vo at d|-;split at d
 .rename_i m;obtain⟨B,j,f⟩:=zL m (by simp);split at d;rotate_left
  .exact d.elim
  simp only[VR,DR]at k;obtain⟨rfl,C⟩:=k;refine⟨_,by simp only[Builtin.len_,i,getElem?_toArray,getElem?_cons_zero,run_underlying (BK j f),Sem.run_bind,Sem.run_pure,Result.andThen_ok];rfl,?_⟩;simp only[goInt,ByteArray.size,size_toArray];exact jE (Lc C)
 .rename_i n e s a m;obtain⟨B,j,f⟩:=zL m (by simp);refine⟨_,by simp only[Builtin.len_,i,getElem?_toArray,getElem?_cons_zero,run_underlying (BI j f).1,Sem.run_bind,Sem.run_pure,Result.andThen_ok];rfl,?_⟩;exact jE (Lc d)
 .rename_i e s b z m;obtain⟨B,j,f⟩:=zL m (by simp);split at d;rotate_left
  .split at d
   .simp only[VR]at k;obtain⟨g,b,I,r,rfl⟩:=k;exact⟨_,by simp only[Builtin.len_,i,getElem?_toArray,getElem?_cons_zero,run_underlying (je j f).1,Sem.run_bind,Sem.run_pure,Result.andThen_ok];rfl,jE (Lc d)⟩
   .split at d;rotate_left
    .exact d.elim
    rename_i n M;obtain⟨a,u,rfl,h⟩:=yI A k M;exact⟨_,by simp only[Builtin.len_,i,getElem?_toArray,getElem?_cons_zero,run_underlying (je j f).1,Sem.run_bind,Sem.run_pure,Result.andThen_ok];rfl,jE (Lc h)⟩
  rename_i y N;obtain⟨h,O⟩:=V7 A k N;refine⟨goInt y.length,?_,jE (Lc h)⟩;rcases O with⟨a,u,rfl,rfl⟩|⟨b,Q,u,cs,T,U,V,W,rfl,_⟩
  .simp only[Builtin.len_,i,getElem?_toArray,getElem?_cons_zero,run_underlying (je j f).1,Sem.run_bind,Sem.run_pure,Result.andThen_ok];rfl
  .simp only[Builtin.len_,i,getElem?_toArray,getElem?_cons_zero,run_underlying (je j f).1,Sem.run_bind,Sem.run_pure,Result.andThen_ok]
 .rename_i X Y m;obtain⟨B,j,f⟩:=zL m (by simp);split at d;rotate_left
  .exact d.elim
  rename_i o;split at d;rotate_left
  .exact d.elim
  rename_i Z R S;simp only[VR]at k;obtain⟨g,b,I,r,rfl⟩:=k;obtain⟨h,J,p,q,l,hb,D,_⟩:=A.ob _ g _ I (zy S (by simp));obtain rfl:J=b:=by rw[r]at l;exact(Option.some.inj l).symm
  have C:p.size=R.length:=by rw[<-Array.length_toList];exact YU D
  refine⟨goInt p.size,by simp only[Builtin.len_,i,getElem?_toArray,getElem?_cons_zero,run_underlying (BJ j f),Sem.run_bind,Sem.run_pure,Result.andThen_ok,run_getObj_map w J p q hb],?_⟩;rw[C];exact jE (Lc h)
 .exact d.elim
theorem Yy{h:Array Obj}:∀{j:Nat} {d:List (List Dt)} {g:List Value},DRss K h j g d->fK d->∃e:List Int,g=e.map (Value.int .u8)/\(e.map fun n=>UInt8.ofNat n.toNat)=gD d/\e.length=d.length
 |_,[],g,f,_=>by simp only[DRss]at f;subst f;exact⟨[],rfl,rfl,rfl⟩
 |_,[.i k n]::r,g,f,c=>by
  simp only[DRss,DRs,DR]at f;obtain⟨a,b,rfl,_,⟨v,m,rfl,⟨rfl,_⟩,rfl⟩,o⟩:=f;simp only[fK]at c;obtain⟨rfl,c⟩:=c;obtain⟨e,rfl,p,q⟩:=Yy o c;exact⟨n::e,by simp,by simp[gD,p],by simp[q]⟩
 |_,[]::_,_,_,c=>by simp[fK]at c
 |_,[.b _]::_,_,_,c=>by simp[fK]at c
 |_,[.s _]::_,_,_,c=>by simp[fK]at c
 |_,[.l _]::_,_,_,c=>by simp[fK]at c
 |_,[.a _]::_,_,_,c=>by simp[fK]at c
 |_,(_::_::_)::_,_,_,c=>by simp[fK]at c
theorem wh{h j:TypeId}(L:St K G H w){c:Value}{x:Va}(l:VR K w.heap G c x)(g:∃d,P.underlying h=some d)(f:(nV P h j H x).ok) :
  ∃D,(convert h j c).run P w=.ok D w/\VR K w.heap G D (nV P h j H x).v:=by
 obtain⟨E,g⟩:=g;unfold nV at f|-;split at f
 .rename_i Y s;obtain⟨M,t,k⟩:=zL s (by simp);have m:=iF t k;split at f;rotate_left
  .exact f.elim
  simp only[VR,DR]at l;obtain⟨rfl,_⟩:=l;exact⟨_,by simp[convert,run_underlying g,run_underlying m,Conv.intToInt],jE (Fits.wrap _ _)⟩
 .rename_i s;obtain⟨M,t,k⟩:=zL s (by simp);have m:=BK t k;split at f
  .simp only[VR,DR]at l;obtain⟨rfl,N⟩:=l;exact⟨_,by simp[convert,run_underlying g,run_underlying m],wM N⟩
  .split at f;rotate_left
   .exact f.elim
   rename_i rows e Z eb ez O u;split at f;rotate_left
   .exact f.elim
   rename_i y;have n:fK rows:=f;obtain⟨Q,z,A⟩:=zL u (by simp);obtain⟨R,B,C⟩:=zL y (by simp);have o:=(je z A).1;have p:=iF B C;obtain⟨F,S⟩:=V7 L l O;rcases S with⟨a,q,rfl,rfl⟩|⟨b,r,q,cs,T,U,sz,vs,rfl,hb,V,W⟩
   .exact⟨.string ByteArray.empty,by
     rw[run_convert_bytes_string w h j e _ _ _ o p m];cases a <;> simp[Conv.bytesToString,loadCells,loadCellsFrom],wM (x:=[]) (by simp)⟩
   .obtain⟨I,rfl,J,X⟩:=Yy W n;refine⟨_,run_convert_bytes_arg w h e o p b r _ q I X (fun i hi=>?_) j m,?_⟩
    .rw[cell_of_row w b (r+i) cs T U hb];refine V i _ ?_;have:i<I.length:=by omega
     simp[getElem?_eq_getElem this,List.getD]
    .rw[strOfNums,J];refine wM ?_;rw[<-J];simp only[length_map];omega
 .exact f.elim
theorem wi{f dst:TypeId}(A:St K G H w){c:Value}{x:Va}(l:VR K w.heap G c x)(h:∃d,P.underlying f=some d)(e:(nW P f dst H x).ok) :
  ∃B,(convert f dst c).run P w=.ok B w/\VR K w.heap G B (nW P f dst H x).v:=by
 unfold nW at e|-;split at e
 .rename_i o;split at e;rotate_left
  .exact e.elim
  rename_i T C n;have a:Tm P f dst T C.length=true:=e;have p:=l;simp only[VR]at l;obtain⟨g,b,D,q,rfl⟩:=l;obtain⟨m,cs,i,hb,r⟩:=A.ob o g _ D (zy n (by simp));obtain rfl:m=b:=by rw[q]at i;exact(Option.some.inj i).symm
  have E:=r.length;have k:w.shape? m=some (T,C.length):=by simp[World.shape?,hb,E]
  refine⟨_,?_,p⟩;unfold Tm at a;split at a
  .rename_i t s y;split at a
   .rename_i j z;simp only[Bool.and_eq_true,decide_eq_true_eq]at a;exact Lib.run_to_unsafe w ⟨m,0,none⟩ s y z a.1 k a.2
   .cases a
  .rename_i u s y;simp only[Bool.and_eq_true]at a;obtain⟨j,z⟩:=Option.isSome_iff_exists.1 a.1;exact Lib.run_from_unsafe w ⟨m,0,none⟩ s y z k a.2
  .cases a
 .exact wh A l h e
end
def iy:Va->List Va
 |.agg cs=>cs
 |v=>[v]
def Va.isCell:Va->Bool
 |.tup _|.top|.cnd _ _|.p (.a _)=>false
 |.raw v=>v.oneCell'
 |_=>true
def setR:List Va->Nat->List Va->List Va
 |l,0,a=>a++l.drop a.length
 |x::l,n+1,a=>x::setR l n a
 |[],_+1,_=>[]
def iU(pl:Nat->Option (Nat×Nat)):List Va->List (Nat×Va)->Option (List Va)
 |cells,[]=>some cells
 |cells,(i,v)::a=>match pl i with
  |none=>none
  |some (b,c)=>if v.isCell=true/\(iy v).length=c/\b+(iy v).length<=cells.length then iU pl (setR cells b (iy v)) a else none
def BD(c:List (Nat×Nat×Bool))(i:Nat):Option (Nat×Nat):=match c[i]? with
 |some (a,b,_)=>some (a,b)
 |none=>none
def oG:List Value->Prop
 |[]=>True
 |z::a=>wg z/\oG a
def i1(b:Ti)(a:List (Nat×Va)):Pv:=match b.kind with
 |.struct d=>match iU (BD d) (b.zero.map cv) a with
  |some cs=>⟨.agg cs,oG b.zero⟩
  |none=>eA
 |.arr _ _ c _=>match iU (fun i=>some (i*c,c)) (b.zero.map cv) a with
  |some cs=>⟨.agg cs,oG b.zero⟩
  |none=>eA
 |_=>eA
def fh:List Value->Nat->List Value->List Value
 |l,0,a=>a++l.drop a.length
 |x::l,n+1,a=>x::fh l n a
 |[],_+1,_=>[]
section
variable {K:Nat->Prop} {h:Array Obj} {G:List Gh} {P:Program} (w:World)
theorem Lf{c:Value}(h:c.oneCell'=true):c.cells.toList=[c]:=by cases c <;> first|rfl|simp[Value.oneCell']at h
theorem AO{c:Value}{v:Va}(d:VR K h G c v)(q:v.isCell=true):VRs K h G c.cells.toList (iy v):=by
 have g:c.oneCell'=true->iy v=[v]->VRs K h G c.cells.toList (iy v):=fun z A=>by rw[Lf z,A];exact⟨c,[],rfl,d,rfl⟩
 cases v with
 |p x =>
  refine g ?_ rfl;cases x with
  |l t=>simp only[VR,DR]at d;rcases d with⟨⟨_,rfl⟩,_⟩|⟨_,_,_,_,_,_,_,_,rfl,_⟩ <;> rfl
  |b x=>simp only[VR,DR]at d;subst d;rfl
  |i k n=>simp only[VR,DR]at d;obtain⟨rfl,_⟩:=d;rfl
  |s x=>simp only[VR,DR]at d;obtain⟨rfl,_⟩:=d;rfl
  |a E=>simp[Va.isCell]at q
  |r x=>simp only[VR,DR]at d;obtain⟨rfl,h⟩:=d;exact h
 |nils=>refine g ?_ rfl;simp only[VR]at d;subst d;rfl
 |full t=>refine g ?_ rfl;simp only[VR]at d;obtain⟨_,a,rfl⟩:=d;rfl
 |rp B=>refine g ?_ rfl;simp only[VR]at d;obtain⟨_,_,_,_,_,_,rfl,_⟩:=d;rfl
 |ptr o m=>refine g ?_ rfl;simp only[VR]at d;obtain⟨_,_,_,_,rfl⟩:=d;rfl
 |cs o m=>refine g ?_ rfl;simp only[VR]at d;obtain⟨_,_,_,_,rfl⟩:=d;rfl
 |el o w i m=>refine g ?_ rfl;simp only[VR]at d;obtain⟨_,_,_,_,_,_,_,rfl⟩:=d;rfl
 |buf o=>refine g ?_ rfl;simp only[VR]at d;obtain⟨_,_,rfl,_,_,_,e⟩:=d;rw[e];rfl
 |mp o=>refine g ?_ rfl;simp only[VR]at d;obtain⟨_,_,_,_,rfl⟩:=d;rfl
 |np o=>refine g ?_ rfl;simp only[VR]at d;rcases d with rfl|⟨_,_,_,_,rfl⟩ <;> rfl
 |sd o=>refine g ?_ rfl;simp only[VR]at d;obtain⟨_,_,_,_,_,_,rfl⟩:=d;rfl
 |vw o w a n=>refine g ?_ rfl;simp only[VR]at d;obtain⟨_,_,_,_,_,_,_,_,_,rfl,_⟩:=d;rfl
 |bufc o F=>refine g ?_ rfl;simp only[VR]at d;obtain⟨_,_,_,_,_,e,rfl,_⟩:=d;rw[e];rfl
 |nv o i=>refine g ?_ rfl;simp only[VR]at d;obtain⟨_,_,_,_,_,_,rfl⟩:=d;rfl
 |ne o w i j m=>refine g ?_ rfl;simp only[VR]at d;obtain⟨_,_,_,_,_,_,rfl⟩:=d;rfl
 |fn f C=>refine g ?_ rfl;simp only[VR]at d;obtain⟨_,rfl,_⟩:=d;rfl
 |agg cs=>simp only[VR]at d;obtain⟨D,rfl,u⟩:=d;simpa [iy,Value.cells]using u
 |tup C=>simp[Va.isCell]at q
 |nil=>refine g ?_ rfl;simp only[VR]at d;subst d;rfl
 |cnd x y=>simp[Va.isCell]at q
 |raw x=>refine g ?_ rfl;simp only[VR]at d;subst d;simpa [Va.isCell]using q
 |er b=>refine g ?_ rfl;simp only[VR]at d;rcases d with⟨_,rfl⟩|⟨_,_,_,rfl⟩ <;> rfl
 |top=>simp[Va.isCell]at q
theorem Lx:∀(l:List Value) (n:Nat) (a:List Value),n+a.length<=l.length->(fh l n a).length=l.length
 |l,0,a,h=>by simp[fh];omega
 |x::l,n+1,a,h=>by simp only[fh,length_cons]at *;rw[Lx l n a (by omega)]
 |[],n+1,a,h=>by simp at h
theorem VRs.setR:∀{cs:List Value} {b:List Va},VRs K h G cs b->∀(n:Nat) {d:List Value} {a:List Va},VRs K h G d a->n+a.length<=b.length->VRs K h G (fh cs n d) (Vc.setR b n a)
 |cs,b,H,0,d,a,e,_=>by
  simp only[fh,Vc.setR];rw[e.length];exact e.append (H.drop _)
 |cs,v::b,H,n+1,d,a,e,f=>by
  simp only[VRs]at H;obtain⟨c,g,rfl,i,j⟩:=H;simp only[fh,Vc.setR,VRs];exact⟨c,_,rfl,i,VRs.setR j n e (by simp at f;omega)⟩
 |cs,[],H,n+1,d,a,e,f=>by simp at f
theorem Wm(a:Nat):∀(b:List Value) (k:Nat) (cs:Array Value),a+k+b.length<=cs.size ->
  ((b.zipIdx k).foldl (fun cs (c,j)=>cs.setIfInBounds (a+j) c) cs).toList=fh cs.toList (a+k) b
 |[],k,cs,e=>by
  simp only[zipIdx_nil,foldl_nil];have:∀(l:List Value) (n:Nat),n<=l.length->fh l n []=l:=by
   intro l n;induction n generalizing l with
   |zero=>intro _;simp[fh]
   |succ n f=>intro d;cases l with
    |nil=>simp at d
    |cons x l=>simp only[fh];rw[f l (by simpa using d)]
  exact(this cs.toList _ (by simpa using e)).symm
 |x::b,k,cs,e=>by
  simp only[zipIdx_cons,foldl_cons];rw[Wm a b (k+1) _ (by simp at e|-;omega)];have g:∀(l:List Value) (n:Nat),n+(x::b).length<=l.length->fh (l.set n x) (n+1) b=fh l n (x::b):=by
   intro l n;induction n generalizing l with
   |zero=>intro d;cases l with
    |nil=>simp at d
    |cons y l=>simp[fh]
   |succ n f=>intro d;cases l with
    |nil=>simp at d
    |cons y l=>simp only[set_cons_succ,fh];rw[f l (by simp at d|-;omega)]
  simp only[Array.toList_setIfInBounds];rw[<-g cs.toList (a+k) (by simp at e|-;omega)];rfl
theorem lJ{pl:Nat->Option (Nat×Nat)}:∀{d:List (Nat×Va)} {k:List (Nat×Value)} {cells:List Va} {cs:Array Value} {r:List Va},
  iU pl cells d=some r->VRs K h G cs.toList cells->(k.map (·.1)=d.map (·.1))->(∀(j:Nat) (c:Value) (v:Va),(k[j]?.map fun x=>x.2)=some c->(d[j]?.map fun x=>x.2)=some v->VR K h G c v) ->
  ∃e,Instr.fill pl cs k=some e/\VRs K h G e.toList r
 |[],k,cells,cs,r,f,s,l,_=>by
  simp only[iU]at f;cases f;cases k with
  |nil=>exact⟨cs,rfl,s⟩
  |cons a b=>simp at l
 |(i,v)::d,k,cells,cs,r,f,s,l,z=>by
  cases k with
  |nil=>simp at l
  |cons a k =>
   obtain⟨F,c⟩:=a;simp only[map_cons,List.cons.injEq]at l;obtain⟨rfl,l⟩:=l;simp only[iU]at f;split at f
   .cases f
   rename_i g A t;split at f;rotate_left
   .cases f
   rename_i m;obtain⟨n,B,C⟩:=m;have p:=AO (z 0 c v rfl rfl) n;have u:=p.length;have q:=s.length;simp only[Array.length_toList]at u q;have o:VRs K h G (c.cells.zipIdx.foldl (fun cs (c,j)=>cs.setIfInBounds (g+j) c) cs).toList (setR cells g (iy v)):=by have w:=Wm g c.cells.toList 0 cs (by simp;omega);rw[<-Array.foldl_toList,Array.toList_zipIdx,w];exact s.setR g p C
   obtain⟨e,w,D⟩:=lJ f o l (fun j c v E y=>z (j+1) c v (by simpa using E) (by simpa using y));refine⟨e,?_,D⟩;simp only[Instr.fill,t];rw[if_neg (by simp;omega)];exact w
end
section
variable {K:Nat->Prop} {h:Array Obj} {G:List Gh} {P:Program} (w:World)
theorem Zq{α β:Type}(f:α->Sem β)(g:α->β):∀(l:List α),(∀x∈l,(f x).run P w=.ok (g x) w)->(l.mapM f).run P w=.ok (l.map g) w
 |[],_=>by simp
 |x::l,a=>by rw[mapM_cons];simp only[Sem.run_bind,a x (by simp),Result.andThen_ok,Zq f g l (fun y b=>a y (by simp[b])),Sem.run_pure,map_cons]
def BC(P:Program)(f:Field):Nat×Nat:=(f.offset,(hI P f.type).getD 0)
theorem ZI:∀{b:List Field} {l:List (Nat×Nat×Bool)},xA P b=some l->(∀f∈b,(do pure (f.offset,<-sizeOf f.type):Sem (Nat×Nat)).run P w=.ok (BC P f) w)/\∀i:Nat,(b.map (BC P))[i]?=BD l i
 |[],l,a=>by simp only[xA]at a;cases a;exact⟨by simp,by simp[BD]⟩
 |f::b,l,a=>by
  simp only[xA]at a;split at a
  .rename_i n d p c q j;cases a;obtain⟨e,g⟩:=ZI j;refine⟨fun k h=>?_,fun i=>?_⟩
   .rcases mem_cons.1 h with rfl|m
    .simp[mo c,c,BC]
    .exact e k m
   .cases i with
    |zero=>simp[BD,c,BC]
    |succ i =>
     have o:=g i;simp only[map_cons,getElem?_cons_succ,o,BD]
  .cases a
theorem xC:∀{a:List Value},oG a->VRs K h G a (a.map cv)
 |[],_=>by simp[VRs]
 |z::a,b=>by simp only[oG]at b;simp only[map_cons,VRs];exact⟨z,a,rfl,Bw z b.1,xC b.2⟩
theorem sR{t:TypeId}{k:Ti}(l:ex P t=some k){ps:Array (Nat×Value)}{parts:List (Nat×Va)}(C:ps.toList.map (·.1)=parts.map (·.1))
  (D:∀(j:Nat) (c:Value) (v:Va),(ps.toList[j]?.map fun x=>x.2)=some c->(parts[j]?.map fun x=>x.2)=some v->VR K h G c v) (b:(i1 k parts).ok) :
  ∃E,(Instr.build t ps).run P w=.ok E w/\VR K h G E (i1 k parts).v:=by
 obtain⟨z,F,g⟩:=Zr w l;unfold i1 at b|-;split at b
 .rename_i fs m;obtain⟨a,o,p⟩:=Wq l m;split at b;rotate_left
  .exact b.elim
  rename_i cs q;obtain⟨r,s⟩:=ZI w p;have H:=Zq (P:=P) w (fun f:Field=>(do pure (f.offset,<-sizeOf f.type):Sem (Nat×Nat))) (BC P) a.toList r;obtain⟨d,u,y⟩:=lJ q (by rw[g];exact xC b) C D;have A:(fun i:Nat=>(a.toList.map (BC P)).toArray[i]?)=BD fs:=by
   funext i;rw[<-s i,getElem?_toArray]
  have B:(a.mapM fun f=>(do pure (f.offset,<-sizeOf f.type):Sem (Nat×Nat))).run P w=.ok (a.toList.map (BC P)).toArray w:=by rw[Array.mapM_eq_mapM_toList];simp only[Sem.run_map,H,Result.andThen_ok]
  refine⟨.agg d,?_,?_⟩
  .simp only[Instr.build,Sem.run_bind,F,Result.andThen_ok,run_underlying o,B,A,u,Sem.run_pure]
  .simp only[VR];exact⟨d.toList,by simp,y⟩
 .rename_i n e I J m;obtain⟨o,hs,_⟩:=BI l m;split at b;rotate_left
  .exact b.elim
  rename_i cs q;obtain⟨d,u,y⟩:=lJ q (by rw[g];exact xC b) C D;refine⟨.agg d,?_,?_⟩
  .simp only[Instr.build,Sem.run_bind,F,Result.andThen_ok,run_underlying o,mo hs,u,Sem.run_pure]
  .simp only[VR];exact⟨d.toList,by simp,y⟩
 .exact b.elim
end
def fC:Dt->Dt->Bool
 |.b a,.b b=>decide (a=b)
 |.i _ a,.i _ b=>decide (a=b)
 |.s a,.s b=>decide (a=b)
 |.a x,.a y=>fA y x
 |_,_=>false
def gL:List (Dt×List Dt)->Dt->Option (List Dt)
 |[],_=>none
 |p::a,d=>bif fC p.1 d then some p.2 else gL a d
def fU:List (Dt×List Dt)->Dt->List Dt->List (Dt×List Dt)
 |[],d,r=>[(d,r)]
 |p::a,d,r=>bif fC p.1 d then(d,r)::a else p::fU a d r
def iC:List (Dt×List Dt)->Dt->List (Dt×List Dt)
 |[],_=>[]
 |p::a,d=>bif fC p.1 d then a else p::iC a d
def oa:List (Dt×List Dt)->List Nat->Dt->List Nat
 |p::c,b::a,d=>bif fC p.1 d then a else b::oa c a d
 |_,a,_=>a
theorem rv{d:Dt}:∀{a:List (Dt×List Dt)} {c:List Nat} {j:Nat},a.length=c.length->(∀r,fU a d r=a.set j (d,r))->j<a.length->oa a c d=c.eraseIdx j
 |[],_,_,_,_,h=>by simp at h
 |_::_,[],_,h,_,_=>by simp at h
 |p::a,b::c,j,g,hs,i=>by
  have e:∀q:Dt×List Dt,(∀r,(d,r)=q)->False:=fun q h=>by have k:=(h []).trans (h [Dt.b true]).symm;simp at k
  simp only[fU,oa]at *;cases f:fC p.1 d with
  |true =>
   simp only[f,cond_true]at hs|-;cases j with
   |zero=>rfl
   |succ j=>exact(e p fun r=>by have:=hs r;simp at this;exact this.1).elim
  |false =>
   simp only[f,cond_false]at hs|-;cases j with
   |zero=>exact(e p fun r=>by have:=hs r;simp at this;exact this.1.symm).elim
   |succ j =>
    rw[rv (by simpa using g) (fun r=>by have:=hs r;simpa using this) (by simpa using i)];rfl
inductive Kk where
 |tk (k:Tk)
 |ks (l:List Kd)
def jk(P:Program)(a:TypeId):Kk:=match P.underlying a with
 |some (.struct _)=>match gY P 60 a with
  |some l=>.ks l
  |none=>.tk .other
 |some (.array _ _)=>match ia P a with
  |some l=>.ks l
  |none=>.tk .other
 |_=>.tk (zo P a)
def js:Kk->Dt->Prop
 |.tk .str,.s _=>True
 |.tk .bool,.b _=>True
 |.tk (.int k),.i c _=>k=c
 |.ks l,.a d=>zJ l d
 |_,_=>False
def iu(k:Kk):List (Dt×List Dt)->Prop
 |[]=>True
 |p::a=>js k p.1/\iu k a
def HH:List Va->Option (List Dt)
 |[]=>some []
 |.p d::l=>match HH l with
  |some a=>some (d::a)
  |none=>none
 |_::_=>none
def nn:Va->Option Dt
 |.p d=>some d
 |.agg b=>match HH b with
  |some c=>some (.a c)
  |none=>none
 |_=>none
def qd(a:List (Dt×List Dt))(d:Dt)(z:List Dt):List Dt:=(gL a d).getD z
def gR:List Value->Prop
 |[]=>True
 |.bool _::l=>gR l
 |.int k n::l=>Fits k n/\gR l
 |.string s::l=>s.data.toList.length<=eC/\gR l
 |.slice none 0 0::l=>gR l
 |_=>False
def gW(b:Bool)(a:List Dt):Va:=bif b then .agg (a.map .p)else vE a 0
def ev(P:Program)(t:TypeId):Bool:=match (P.info? t).bind (·.zero)with
 |some (.agg _)=>true
 |_=>false
def na(P:Program)(t:TypeId)(H:List Ob)(f:Bool)(x k:Va):Pv:=match zo P t,x,nn k with
 |.map g h,.mp o,some d=>match eB H o,ex P h with
  |.mp a c,some e=>⟨bif f then .tup [gW a (qd c d (zr e.zero)),.p (.b (gL c d).isSome)]else gW a (qd c d (zr e.zero)),
    iu (jk P g) c/\js (jk P g) d/\ev P h=a/\gR e.zero/\(a=false->e.zero.length=1)⟩
  |_,_=>eA
 |_,_,_=>eA
section
variable {K:Nat->Prop} {G:List Gh} {H:List Ob} {w:World} {P:Program}
theorem jD{h:Array Obj}:∀{l:List Value},gR l->DRs K h l (zr l)
 |[],_=>by simp[zr,DRs]
 |.bool x::l,a=>by
  simp only[gR]at a;simp only[zr,DRs,DR];exact⟨_,_,rfl,rfl,jD a⟩
 |.int k n::l,a=>by
  simp only[gR]at a;simp only[zr,DRs,DR];exact⟨_,_,rfl,⟨rfl,a.1⟩,jD a.2⟩
 |.string s::l,a=>by
  simp only[gR]at a;simp only[zr,DRs,DR];exact⟨_,_,rfl,⟨by simp,a.1⟩,jD a.2⟩
 |.slice none 0 0::l,a=>by simp only[gR]at a;simp only[zr,DRs,DR];exact⟨_,_,rfl,.inl ⟨⟨none,rfl⟩,trivial⟩,jD a⟩
theorem ue{t:TypeId}{c:Ti}(f:ex P t=some c)(g:c.kind=.bool):P.underlying t=some .bool:=by
 obtain⟨d,h,a,i⟩:=tS f;rw[g]at a;cases d <;> simp only[uf]at a <;> try (cases a)
 case slice e=>split at a <;> cases a
 case array n e=>split at a <;> cases a
 case struct b=>split at a <;> cases a
 case bool=>exact h
theorem yM{i:TypeId}{d:Dt}{h:Array Obj}{c:Value}{k:Kk}(f:k=.tk (zo P i))(j:js k d)(e:KR K h c d):∃l,P.underlying i=some l/\MapKept.IsKey l c:=by
 subst f;cases b:zo P i <;> rw[b]at j <;> cases d <;> simp only[js]at j
 .obtain⟨m,g,a⟩:=zL b (by simp);simp only[KR,DR]at e;obtain⟨rfl,_⟩:=e;exact⟨_,BK g a,by simp[MapKept.IsKey]⟩
 .obtain⟨m,g,a⟩:=zL b (by simp);simp only[KR,DR]at e;subst e;exact⟨_,ue g a,by simp[MapKept.IsKey]⟩
 .obtain⟨m,g,a⟩:=zL b (by simp);simp only[KR,DR]at e;obtain⟨rfl,_⟩:=e;exact⟨_,iF g a,by simp[MapKept.IsKey,j]⟩
theorem mN{k:Tk}{h:Array Obj}{c e:Value}{d p:Dt}{i:TypeDesc}(j:js (.tk k) d)(l:js (.tk k) p)(g:KR K h c d)(he:KR K h e p)(m:MapKept.IsKey i c):Instr.sameNow i c e=some (fC p d)/\(fC p d=true->e=c)/\(fC p d=false->e≠c):=by
 cases k <;> cases d <;> simp only[js]at j <;> cases p <;> simp only[js]at l
 .rename_i a b;simp only[KR,DR]at g he;obtain⟨rfl,_⟩:=g;obtain⟨rfl,_⟩:=he
  have e:((⟨a.toArray⟩:ByteArray) == ⟨b.toArray⟩)=decide (b=a):=by
   by_cases f:b=a
   .subst f;simp[MapKept.bytes_beq]
   .have:¬ ((⟨a.toArray⟩:ByteArray)=⟨b.toArray⟩):=fun h=>f (by injection h with h;simpa using h.symm);rw[decide_eq_false f];cases n:((⟨a.toArray⟩:ByteArray) == ⟨b.toArray⟩)
    .rfl
    .exact absurd ((MapKept.bytes_beq _ _).1 n) this
  refine⟨?_,fun h=>?_,fun h=>?_⟩
  .cases i <;> simp_all[MapKept.IsKey,Instr.sameNow,fC]
  .simp only[fC,decide_eq_true_eq]at h;rw[h]
  .simp only[fC,decide_eq_false_iff_not]at h;intro e;injection e with e;injection e with e;exact h (by simpa using e)
 .rename_i a b;simp only[KR,DR]at g he;subst g;subst he;refine⟨?_,fun h=>?_,fun h=>?_⟩
  .cases i <;> simp_all[MapKept.IsKey,Instr.sameNow,fC]
   cases a <;> cases b <;> rfl
  .simp only[fC,decide_eq_true_eq]at h;rw[h]
  .simp only[fC,decide_eq_false_iff_not]at h;intro e;injection e with e;exact h e
 .rename_i o a q b;simp only[KR,DR]at g he;obtain⟨rfl,_⟩:=g;obtain⟨rfl,_⟩:=he;subst j;subst l;refine⟨?_,fun h=>?_,fun h=>?_⟩
  .cases i <;> simp_all[MapKept.IsKey,Instr.sameNow,fC]
   by_cases f:b=a
   .simp[f]
   .simp[f,Ne.symm f]
  .simp only[fC,decide_eq_true_eq]at h;rw[h]
  .simp only[fC,decide_eq_false_iff_not]at h;intro e;injection e with _ e;exact h e
def iN(K:Nat->Prop)(h:Array Obj)(b:Bool)(v:Value)(a:List Dt):Prop:=match b with
 |true=>∃cs:List Value,v=.agg cs.toArray/\DRs K h cs a
 |false=>∃d,a=[d]/\DR K h v d
theorem nK{k:Tk}{h:Array Obj}{y:Bool}{c:Value}{d:Dt}{o:TypeDesc}(z:js (.tk k) d)(A:KR K h c d)(m:MapKept.IsKey o c):∀{a:List MapEntry} {b:List (Dt×List Dt)} (i:Nat),MRs K h y a b->iu (.tk k) b ->
  (Instr.findNow o c a i=some none/\gL b d=none/\(∀r,fU b d r=b++[(d,r)])/\iC b d=b/\∀x∈a,x.key≠c) ∨
  ∃j e g,Instr.findNow o c a i=some (some (i+j,e.val))/\a[j]?=some e/\e.key=c/\gL b d=some g/\iN K h y e.val g/\(∀r,fU b d r=b.set j (d,r))/\iC b d=b.eraseIdx j
 |[],[],i,_,_=>.inl ⟨rfl,rfl,fun _=>rfl,rfl,by simp⟩
 |e::a,p::b,i,l,q=>by
  simp only[MRs]at l;simp only[iu]at q;obtain⟨n,B,C⟩:=mN z q.1 A l.1 m;cases f:fC p.1 d with
  |true =>
   rw[f]at n;exact .inr ⟨0,e,p.2,by simp[Instr.findNow,n],rfl,B f,by simp[gL,f],l.2.1,fun r=>by simp[fU,f],by simp[iC,f]⟩
  |false =>
   rw[f]at n;rcases nK z A m (i+1) l.2.2 q.2 with⟨s,t,u,v,D⟩|⟨j,E,g,s,t,u,v,F,G,H⟩
   .exact .inl ⟨by simp[Instr.findNow,n,s],by simp[gL,f,t],fun r=>by simp[fU,f,u],by simp[iC,f,v],fun x w=>by rcases mem_cons.1 w with rfl|w;exact C f;exact D x w⟩
   .exact .inr ⟨j+1,E,g,by simp[Instr.findNow,n,s];omega,by simpa using t,u,by simp[gL,f,v],F,fun r=>by simp[fU,f,G],by simp[iC,f,H]⟩
 |[],_::_,_,l,_=>by simp[MRs]at l
 |_::_,[],_,l,_=>by simp[MRs]at l
mutual
theorem jQ:∀(d:Nat) {t:TypeId} {ks:List Kd} (e:Nat) {h:Array Obj} {xs:List Value} {f:List Dt} (m:Bool),gY P d t=some ks->DRs K h xs f->zJ ks f ->
  (Instr.checkKey m (d+e) t (mg P t xs)).run P w=.ok () w
 |0,t,ks,e,h,xs,f,m,a,_,_=>by simp[gY]at a
 |d+1,t,ks,e,h,xs,f,m,a,g,j=>by
  rw[show d+1+e=(d+e)+1 by omega];unfold gY at a;split at a
  .rename_i c;split at a;rotate_left
   .cases a
   cases a;match f,j with
   |[.b x],_ =>
    simp only[DRs,DR]at g;obtain⟨_,_,rfl,rfl,rfl⟩:=g;simp[mg,eH,c,Instr.checkKey,run_underlying c]
  .rename_i k c;split at a;rotate_left
   .cases a
   cases a;match f,j with
   |[.i p x],j =>
    simp only[DRs,DR]at g;obtain⟨_,_,rfl,⟨rfl,_⟩,rfl⟩:=g;simp[mg,eH,c,Instr.checkKey,run_underlying c]
  .rename_i c;split at a;rotate_left
   .cases a
   cases a;match f,j with
   |[.s x],_ =>
    simp only[DRs,DR]at g;obtain⟨_,_,rfl,⟨rfl,_⟩,rfl⟩:=g;simp[mg,eH,c,Instr.checkKey,run_underlying c]
  .rename_i q c;have hag:eH P t=true:=by simp[eH,c]
   split at a
   .cases a
   split at a
   .rename_i l o;split at a
    .cases a;simp only[mg,hag,if_true];rw[Instr.checkKey];simp only[Sem.run_bind,run_underlying c,Result.andThen_ok];rw[<-Array.forIn_toList];have n:=jR d e (xs:=xs) 0 m (Nat.zero_le _) o (by simpa using g) j;rw[n];simp
    .cases a
   .cases a
  .cases a
theorem jR:∀(d:Nat) (e:Nat) {k:List Field} {ks:List Kd} {h:Array Obj} {xs:List Value} {g:List Dt} (off:Nat) (c:Bool),off<=xs.length->lK P d off k=some ks->DRs K h (xs.drop off) g->zJ ks g ->
  (forIn k PUnit.unit fun f _=>do
   if f.name≠ "_" then do
    Instr.checkKey c (d+e) f.type (<-part f.type xs.toArray f.offset)
    pure (ForInStep.yield PUnit.unit)
   else do
    pure PUnit.unit
    pure (ForInStep.yield PUnit.unit):Sem PUnit).run P w=.ok () w
 |d,e,[],ks,h,xs,g,off,c,_,_,_,_=>by simp
 |0,e,f::k,ks,h,xs,g,off,c,_,a,_,_=>by simp[lK]at a
 |d+1,e,f::k,ks,h,xs,g,off,c,C,a,m,v=>by
  unfold lK at a;split at a
  .cases a
  rename_i x;have b:¬ f.name= "_":=fun e=>x (.inl e);have i:f.offset=off:=Decidable.byContradiction fun e=>x (.inr e);split at a
  .rename_i l y;split at a
   .rename_i D n;cases a;obtain⟨o,p⟩:=Lt v;have z:=Lu v;have q:=m.length;simp only[length_drop,length_append]at z q;obtain⟨r,j,E,s⟩:=kn (K:=K) (h:=h) w d y;have u:=KX (P:=P) w r s xs off (by omega) j;have A:=jQ d (t:=f.type) (e+1) c y (m.take l.length) o;have B:=jR d (e+1) (xs:=xs) (off+l.length) c (by omega) n (by simpa [drop_drop]using m.drop l.length) p;rw[show d+1+e=d+(e+1)by omega];simp only[forIn_cons,Sem.run_bind,b,ne_eq,not_false_eq_true,if_true,i,Result.andThen_ok,u,A,Sem.run_pure];exact B
   .cases a
  .cases a
end
theorem Ua{h:Array Obj}:∀{ks:List Kd} {m n:List Value} {o p:List Dt},zJ ks o->zJ ks p->DRs K h m o->DRs K h n p->(fA o p=true->n=m)/\(fA o p=false->n≠m)
 |[],m,n,[],[],_,_,g,j=>by
  simp only[DRs]at g j;subst g;subst j;exact⟨fun _=>rfl,fun e=>by simp[fA]at e⟩
 |.b::ks,m,n,.b x::o,.b y::p,c,f,g,j=>by
  simp only[DRs,DR]at g j;simp only[zJ]at c f;obtain⟨_,q,rfl,rfl,g⟩:=g;obtain⟨_,r,rfl,rfl,j⟩:=j;obtain⟨t,u⟩:=Ua c f g j;simp only[fA,Bool.and_eq_true,decide_eq_true_eq,Bool.and_eq_false_iff,decide_eq_false_iff_not];refine⟨fun e=>by rw[t e.2,e.1],fun e he=>?_⟩;simp only[List.cons.injEq,Value.bool.injEq]at he;rcases e with e|e
  .exact e he.1.symm
  .exact u e he.2
 |.s::ks,m,n,.s x::o,.s y::p,c,f,g,j=>by
  simp only[DRs,DR]at g j;simp only[zJ]at c f;obtain⟨_,q,rfl,⟨rfl,_⟩,g⟩:=g;obtain⟨_,r,rfl,⟨rfl,_⟩,j⟩:=j;obtain⟨t,u⟩:=Ua c f g j;simp only[fA,Bool.and_eq_true,decide_eq_true_eq,Bool.and_eq_false_iff,decide_eq_false_iff_not];refine⟨fun e=>by rw[t e.2,e.1],fun e he=>?_⟩;simp only[List.cons.injEq,Value.string.injEq]at he;rcases e with e|e
  .exact e (by have:=he.1;injection this with this;simpa using this.symm)
  .exact u e he.2
 |.i k::ks,m,n,.i v x::o,.i w y::p,c,f,g,j=>by
  simp only[DRs,DR]at g j;simp only[zJ]at c f;obtain⟨rfl,c⟩:=c;obtain⟨rfl,f⟩:=f;obtain⟨_,q,rfl,⟨rfl,_⟩,g⟩:=g;obtain⟨_,r,rfl,⟨rfl,_⟩,j⟩:=j;obtain⟨t,u⟩:=Ua c f g j;simp only[fA,Bool.and_eq_true,decide_eq_true_eq,Bool.and_eq_false_iff,decide_eq_false_iff_not];refine⟨fun e=>by rw[t e.2,e.1],fun e he=>?_⟩;simp only[List.cons.injEq,Value.int.injEq,true_and]at he;rcases e with e|e
  .exact e he.1.symm
  .exact u e he.2
 |[],_,_,_::_,_,c,_,_,_=>by simp[zJ]at c
 |[],_,_,[],_::_,_,f,_,_=>by simp[zJ]at f
 |k::_,_,_,[],_,c,_,_,_=>by cases k <;> simp[zJ]at c
 |k::_,_,_,d::_,[],_,f,_,_=>by cases k <;> simp[zJ]at f
 |.b::_,_,_,.s _::_,_::_,c,_,_,_|.b::_,_,_,.i _ _::_,_::_,c,_,_,_|.b::_,_,_,.l _::_,_::_,c,_,_,_|.b::_,_,_,.a _::_,_::_,c,_,_,_=>by simp[zJ]at c
 |.s::_,_,_,.b _::_,_::_,c,_,_,_|.s::_,_,_,.i _ _::_,_::_,c,_,_,_|.s::_,_,_,.l _::_,_::_,c,_,_,_|.s::_,_,_,.a _::_,_::_,c,_,_,_=>by simp[zJ]at c
 |.i _::_,_,_,.b _::_,_::_,c,_,_,_|.i _::_,_,_,.s _::_,_::_,c,_,_,_|.i _::_,_,_,.l _::_,_::_,c,_,_,_|.i _::_,_,_,.a _::_,_::_,c,_,_,_=>by simp[zJ]at c
 |.b::_,_,_,.b _::_,.s _::_,_,f,_,_|.b::_,_,_,.b _::_,.i _ _::_,_,f,_,_|.b::_,_,_,.b _::_,.l _::_,_,f,_,_|.b::_,_,_,.b _::_,.a _::_,_,f,_,_=>by simp[zJ]at f
 |.s::_,_,_,.s _::_,.b _::_,_,f,_,_|.s::_,_,_,.s _::_,.i _ _::_,_,f,_,_|.s::_,_,_,.s _::_,.l _::_,_,f,_,_|.s::_,_,_,.s _::_,.a _::_,_,f,_,_=>by simp[zJ]at f
 |.i _::_,_,_,.i _ _::_,.b _::_,_,f,_,_|.i _::_,_,_,.i _ _::_,.s _::_,_,f,_,_|.i _::_,_,_,.i _ _::_,.l _::_,_,f,_,_|.i _::_,_,_,.i _ _::_,.a _::_,_,f,_,_=>by simp[zJ]at f
theorem Uo{h:Array Obj}:∀{ks:List Kd} {e:List Value} {f:List Dt} (n:Nat),zJ ks f->DRs K h e f->((e.zip e).all fun(x,y)=>Instr.sameBits n x y)=true
 |[],e,[],n,_,d=>by simp only[DRs]at d;subst d;rfl
 |.b::ks,e,.b x::f,n,c,d=>by
  simp only[DRs,DR]at d;simp only[zJ]at c;obtain⟨_,g,rfl,rfl,d⟩:=d;have:=Uo n c d;simp only[zip_cons_cons,all_cons,this,Bool.and_true];cases n <;> simp[Instr.sameBits]
 |.s::ks,e,.s x::f,n,c,d=>by
  simp only[DRs,DR]at d;simp only[zJ]at c;obtain⟨_,g,rfl,⟨rfl,_⟩,d⟩:=d;have:=Uo n c d;simp only[zip_cons_cons,all_cons,this,Bool.and_true];cases n <;> simp[Instr.sameBits,MapKept.bytes_beq]
 |.i k::ks,e,.i j x::f,n,c,d=>by
  simp only[DRs,DR]at d;simp only[zJ]at c;obtain⟨_,g,rfl,⟨rfl,_⟩,d⟩:=d;have:=Uo n c.2 d;simp only[zip_cons_cons,all_cons,this,Bool.and_true];cases n <;> simp[Instr.sameBits]
 |[],_,_::_,_,c,_=>by simp[zJ]at c
 |k::_,_,[],_,c,_=>by cases k <;> simp[zJ]at c
 |.b::_,_,.s _::_,_,c,_|.b::_,_,.i _ _::_,_,c,_|.b::_,_,.l _::_,_,c,_|.b::_,_,.a _::_,_,c,_=>by simp[zJ]at c
 |.s::_,_,.b _::_,_,c,_|.s::_,_,.i _ _::_,_,c,_|.s::_,_,.l _::_,_,c,_|.s::_,_,.a _::_,_,c,_=>by simp[zJ]at c
 |.i _::_,_,.b _::_,_,c,_|.i _::_,_,.s _::_,_,c,_|.i _::_,_,.l _::_,_,c,_|.i _::_,_,.a _::_,_,c,_=>by simp[zJ]at c
theorem YC{t:TypeId}{ks:List Kd}(h:ia P t=some ks):∃n e k i,P.underlying t=some (.array n e)/\P.underlying e=some (.int k)/\hI P e=some 1/\P.info? e=some i/\P.cellsOf e=1/\ks=List.replicate n (.i k):=by
 unfold ia at h;split at h;rotate_left
 .cases h
 rename_i n e a;split at h;rotate_left
 .cases h
 rename_i k b;split at h;rotate_left
 .cases h
 rename_i hs;cases h;obtain⟨i,hi,_⟩:=Option.map_eq_some_iff.1 hs.1;exact⟨n,e,k,i,a,b,hs.1,hi,hs.2,rfl⟩
theorem rX{t:TypeId}{ks:List Kd}(f:ia P t=some ks){h:Array Obj}{c d:List Value}{a b:List Dt}(g:DRs K h c a)(j:DRs K h d b)(l:zJ ks a)(m:zJ ks b) :
  (Op.equalIn (60+9940) t (.agg c.toArray) (.agg d.toArray)).run P w=.ok (fA a b) w:=by
 obtain⟨n,e,k,i,o,he,hs,hi,p,rfl⟩:=YC f;rw[show 60+9940=9999+1 from rfl,run_equalIn_array w 9999 _ _ o hi,p,range_eq_range'];exact Wz w he hs 9998 c d n 0 a b g j l m
theorem pk{t:TypeId}{ks:List Kd}(p:ia P t=some ks){h:Array Obj}{d:List Value}{b:List Dt}(j:Bool)(f:DRs K h d b)(c:zJ ks b) :
  (Instr.checkKey j 10000 t (.agg d.toArray)).run P w=.ok () w:=by
 obtain⟨n,e,k,i,q,he,hs,hi,r,rfl⟩:=YC p;rw[show(10000:Nat)=9999+1 from rfl,Instr.checkKey];simp only[Sem.run_bind,run_underlying q,Result.andThen_ok];simp only[Std.Legacy.Range.forIn_eq_forIn_range',Std.Legacy.Range.size,Nat.sub_zero,Nat.add_one_sub_one,Nat.div_one];have s:∀(m a:Nat) (b:List Dt),DRs K h (d.drop a) b->zJ (List.replicate m (.i k)) b ->
   (forIn (List.range' a m) PUnit.unit fun i _=>do
    Instr.checkKey j 9999 e (<-part e d.toArray (i*(<-sizeOf e)))
    pure (ForInStep.yield PUnit.unit):Sem PUnit).run P w=.ok () w:=by
  intro m;induction m with
  |zero=>intro a b _ _;simp
  |succ m u =>
   intro a b f c;rw[replicate_succ]at c;match b,c with
   |.i A x::b,c =>
    simp only[zJ]at c;obtain⟨rfl,c⟩:=c;have v:=f.length;simp only[length_drop,length_cons]at v;have hag:eH P e=false:=by simp[eH,he]
    have o:=KX (P:=P) w hs he d a (by omega) fun _=>rfl;have g:=f.take 1;simp only[take_succ_cons,take_zero,DRs,DR]at g;obtain⟨_,_,y,⟨rfl,_⟩,rfl⟩:=g;simp only[mg,hag,y,Bool.false_eq_true,if_false,getD_cons_zero]at o;have z:=u (a+1) b (by simpa [drop_drop]using f.drop 1) c;have l:(Instr.checkKey j 9999 e (.int k x)).run P w=.ok () w:=by exact MapKept.run_checkKey (k:=.int k x) he (by simp[MapKept.IsKey]) j 9998
    rw[List.range'_succ];simp only[forIn_cons,Sem.run_bind,Go.run_sizeOf w hi,r,Nat.mul_one,Result.andThen_ok,o,l,Sem.run_pure];exact z
 have:=s n 0 b (by simpa using f) c;first|exact this|(rw[this];rfl)|(rw[this];simp)
theorem HF{a:TypeId}{k:Tk}(h:jk P a=.tk k):k=zo P a∨k=.other:=by
 unfold jk at h;split at h
 .split at h
  .cases h
  .cases h;exact .inr rfl
 .split at h
  .cases h
  .cases h;exact .inr rfl
 .cases h;exact .inl rfl
theorem lv{a:TypeId}{l:List Kd}(h:jk P a=.ks l):(gY P 60 a=some l/\∃b,P.underlying a=some (.struct b))∨(ia P a=some l/\∃n e,P.underlying a=some (.array n e)):=by
 unfold jk at h;split at h
 .rename_i b c;split at h
  .rename_i f d;cases h;exact .inl ⟨d,b,c⟩
  .cases h
 .rename_i n e c;split at h
  .rename_i f d;cases h;exact .inr ⟨d,n,e,c⟩
  .cases h
 .cases h
theorem YG{v:TypeId}{l:List Kd}(n:∀{k y:List Value} {c b:List Dt},DRs K w.heap k c->DRs K w.heap y b->zJ l c->zJ l b->(Op.equalIn (60+9940) v (.agg k.toArray) (.agg y.toArray)).run P w=.ok (fA c b) w){H:Bool}{k:List Value}{c:List Dt}(z:zJ l c)(A:DRs K w.heap k c):∀{d:List MapEntry} {b:List (Dt×List Dt)} (i:Nat),MRs K w.heap H d b->iu (.ks l) b ->
  ((Instr.findAsking v (.agg k.toArray) d i).run P w=.ok none w/\gL b (.a c)=none/\(∀r,fU b (.a c) r=b++[(.a c,r)])/\iC b (.a c)=b/\∀x∈d,x.key≠.agg k.toArray) ∨
  ∃j e m,(Instr.findAsking v (.agg k.toArray) d i).run P w=.ok (some (i+j,e.val)) w/\d[j]?=some e/\e.key=.agg k.toArray/\gL b (.a c)=some m/\iN K w.heap H e.val m/\(∀r,fU b (.a c) r=b.set j (.a c,r))/\iC b (.a c)=b.eraseIdx j
 |[],[],i,_,_=>.inl ⟨by simp[Instr.findAsking],rfl,fun _=>rfl,rfl,by simp⟩
 |e::d,p::b,i,o,s=>by
  simp only[MRs]at o;simp only[iu]at s;obtain⟨J,pr⟩:=p;cases J <;> simp only[js]at s <;> try exact s.1.elim
  rename_i I;have t:=o.1;simp only[KR]at t;obtain⟨y,q,u⟩:=t;have L:=n A u z s.1;have g:(Op.equal v (.agg k.toArray) e.key).run P w=.ok (fA c I) w:=by rw[q];exact L
  obtain⟨M,N⟩:=Ua z s.1 A u;cases f:fA c I with
  |true =>
   rw[f]at g;refine .inr ⟨0,e,pr,by simp[Instr.findAsking,g],rfl,by rw[q,M f],by simp[gL,fC,f],o.2.1,fun r=>by simp[fU,fC,f],by simp[iC,fC,f]⟩
  |false =>
   rw[f]at g;have B:e.key≠.agg k.toArray:=by
    rw[q];intro h;injection h with h;exact N f (by simpa using h)
   rcases YG n z A (i+1) o.2.2 s.2 with⟨C,D,E,F,O⟩|⟨j,Q,m,C,D,E,F,R,S,T⟩
   .exact .inl ⟨by simp[Instr.findAsking,g,C],by simp[gL,fC,f,D],fun r=>by simp[fU,fC,f,E],by simp[iC,fC,f,F],fun x G=>by rcases mem_cons.1 G with rfl|G;exact B;exact O x G⟩
   .exact .inr ⟨j+1,Q,m,by simp[Instr.findAsking,g,C];omega,by simpa using D,E,by simp[gL,fC,f,F],R,fun r=>by simp[fU,fC,f,S],by simp[iC,fC,f,T]⟩
 |[],_::_,_,o,_=>by simp[MRs]at o
 |_::_,[],_,o,_=>by simp[MRs]at o
theorem MK{kt:TypeId}{d:Dt}{c:Value}(i:js (jk P kt) d)(m:KR K w.heap c d) :
  (∀y,(Instr.checkKey y 10000 kt c).run P w=.ok () w)/\(Instr.keyThatStays c c).run P w=.ok c w /\
  ∀{G:Bool} {g:List MapEntry} {a:List (Dt×List Dt)},MRs K w.heap G g a->iu (jk P kt) a ->
   ((Instr.findKey kt c g).run P w=.ok none w/\gL a d=none/\(∀r,fU a d r=a++[(d,r)])/\iC a d=a/\∀x∈g,x.key≠c) ∨
   ∃j e f,(Instr.findKey kt c g).run P w=.ok (some (j,e.val)) w/\g[j]?=some e/\e.key=c/\gL a d=some f/\iN K w.heap G e.val f/\(∀r,fU a d r=a.set j (d,r))/\iC a d=a.eraseIdx j:=by
 cases b:jk P kt with
 |tk k =>
  rw[b]at i;have C:k=zo P kt:=by
   rcases HF b with h|h
   .exact h
   .subst h;cases d <;> exact i.elim
  subst C;obtain⟨S,p,q⟩:=yM rfl i m;refine⟨fun y=>MapKept.run_checkKey p q y 9999,MapKept.run_keyThatStays q,fun D s=>?_⟩;rcases nK i m q 0 D s with⟨o,u⟩|⟨j,e,f,o,u⟩
  .exact .inl ⟨MapKept.run_findKey p o,u⟩
  .rw[Nat.zero_add]at o;exact .inr ⟨j,e,f,MapKept.run_findKey p o,u⟩
 |ks l =>
  rw[b]at i;have H:eH P kt=true:=by rcases lv b with⟨_,Q,A⟩|⟨_,n,e,A⟩ <;> simp[eH,A]
  have E:∀{z I:List Value} {B a:List Dt},DRs K w.heap z B->DRs K w.heap I a->zJ l B->zJ l a->(Op.equalIn (60+9940) kt (.agg z.toArray) (.agg I.toArray)).run P w=.ok (fA B a) w:=fun J L M N=>by
   rcases lv b with⟨v,_⟩|⟨v,_⟩
   .have R:=VM (P:=P) w 60 (t:=kt) 9940 v J L M N;simpa only[mg,H,if_true]using R
   .exact rX v J L M N
  cases d <;> simp only[js]at i
  rename_i B;simp only[KR]at m;obtain⟨z,rfl,m⟩:=m;refine⟨fun y=>?_,?_,fun D s=>?_⟩
  .rcases lv b with⟨v,_⟩|⟨v,_⟩
   .have:=jQ (P:=P) (w:=w) 60 (t:=kt) 9940 y v m i;simp only[mg,H,if_true]at this;exact this
   .exact pk v y m i
  .have F:Instr.sameBits 10000 (.agg z.toArray) (.agg z.toArray)=true:=by
    have:=Uo 9999 i m;rw[show(10000:Nat)=9999+1 from rfl];simp only[Instr.sameBits,beq_self_eq_true,Bool.true_and];simpa using this
   simp[Instr.keyThatStays,F]
  .have O:=run_findKey_eq (P:=P) w (k:=kt) (by rcases lv b with⟨_,Q,A⟩|⟨_,n,e,A⟩ <;> simp[A]) (.agg z.toArray);rcases YG E i m 0 D s with⟨o,u⟩|⟨j,e,f,o,u⟩
   .exact .inl ⟨by rw[O];exact o,u⟩
   .rw[Nat.zero_add]at o;exact .inr ⟨j,e,f,by rw[O];exact o,u⟩
theorem vz:∀{e:List Va} {a:List Dt} {cs:List Value},HH e=some a->VRs K w.heap G cs e->DRs K w.heap cs a
 |[],a,cs,h,b=>by simp only[HH]at h;cases h;simpa only[VRs,DRs]using b
 |v::e,a,cs,h,b=>by
  cases v with
  |p d =>
   simp only[HH]at h;split at h
   .rename_i g i;cases h;simp only[VRs,VR]at b;obtain⟨c,f,rfl,j,k⟩:=b;simp only[DRs];exact⟨c,f,rfl,j,vz i k⟩
   .cases h
  |_=>simp[HH]at h
theorem Mf{v:Va}{d:Dt}{c:Value}(h:nn v=some d)(a:VR K w.heap G c v):KR K w.heap c d:=by
 unfold nn at h;split at h
 .cases h;simp only[VR]at a;cases d <;> first|exact a|(simp only[DR]at a)
 .split at h
  .rename_i e b;cases h;simp only[VR]at a;obtain⟨cs,rfl,a⟩:=a;simp only[KR];exact⟨cs,rfl,vz b a⟩
  .cases h
 .cases h
theorem MRs.length{h:Array Obj}{ag:Bool}:∀{b:List MapEntry} {es:List (Dt×List Dt)},MRs K h ag b es->b.length=es.length
 |[],[],_=>rfl
 |_::_,_::_,a=>by simp only[MRs]at a;simp[MRs.length a.2.2]
 |[],_::_,a=>by simp[MRs]at a
 |_::_,[],a=>by simp[MRs]at a
theorem MRs.append{h:Array Obj}{ag:Bool}{e:MapEntry}{p:Dt×List Dt}(he:KR K h e.key p.1)(c:iN K h ag e.val p.2):∀{a:List MapEntry} {es:List (Dt×List Dt)},MRs K h ag a es->MRs K h ag (a++[e]) (es++[p])
 |[],[],_=>by simp only[nil_append,MRs];exact⟨he,c,trivial⟩
 |x::a,y::es,b=>by simp only[MRs,cons_append]at *;exact⟨b.1,b.2.1,MRs.append he c b.2.2⟩
 |[],_::_,b=>by simp[MRs]at b
 |_::_,[],b=>by simp[MRs]at b
theorem MRs.set{h:Array Obj}{ag:Bool}{e:MapEntry}{p:Dt×List Dt}(he:KR K h e.key p.1)(c:iN K h ag e.val p.2):∀{a:List MapEntry} {es:List (Dt×List Dt)} (j:Nat),MRs K h ag a es->MRs K h ag (a.set j e) (es.set j p)
 |[],[],_,_=>by simp[MRs]
 |x::a,y::es,0,b=>by simp only[MRs,set_cons_zero]at *;exact⟨he,c,b.2.2⟩
 |x::a,y::es,j+1,b=>by simp only[MRs,set_cons_succ]at *;exact⟨b.1,b.2.1,MRs.set he c j b.2.2⟩
 |[],_::_,_,b=>by simp[MRs]at b
 |_::_,[],_,b=>by simp[MRs]at b
theorem MRs.erase{h:Array Obj}{d:Bool}:∀{a:List MapEntry} {c:List (Dt×List Dt)} (j:Nat),MRs K h d a c->MRs K h d (a.eraseIdx j) (c.eraseIdx j)
 |[],[],_,_=>by simp[MRs]
 |x::a,y::c,0,b=>by simp only[MRs,eraseIdx_zero,tail_cons]at *;exact b.2.2
 |x::a,y::c,j+1,b=>by simp only[MRs,eraseIdx_cons_succ]at *;exact⟨b.1,b.2.1,MRs.erase j b.2.2⟩
 |[],_::_,_,b=>by simp[MRs]at b
 |_::_,[],_,b=>by simp[MRs]at b
theorem yf{h:Array Obj}{b:Bool}{v:Value}{a:List Dt}(e:iN K h b v a):VR K h G v (gW b a):=by
 cases b with
 |true =>
  obtain⟨cs,rfl,c⟩:=e;simp only[gW,cond_true,VR];exact⟨cs,rfl,c.vrs⟩
 |false =>
  obtain⟨d,rfl,c⟩:=e;simpa only[gW,cond_false,vE,drop_zero,VR]using c
theorem vi{t:TypeId}{a:Bool}(hS:St K G H w){c I:Value}{x k:Va}(hc:VR K w.heap G c x)(M:VR K w.heap G I k)(l:(na P t H a x k).ok) :
  ∃s,(Instr.lookup t c I a).run P w=.ok s w/\VR K w.heap G s (na P t H a x k).v:=by
 unfold na at l|-;split at l;rotate_left
 .exact l.elim
 rename_i kt et o d N O;split at l;rotate_left
 .exact l.elim
 rename_i J u L ho Q;obtain⟨h1,h2,h3,h4,h5⟩:=l;obtain⟨ti,ht,R⟩:=zL N (by simp);have hu:=BJ ht R;have M:=Mf O M;simp only[VR]at hc;obtain⟨g,b,hg,S,rfl⟩:=hc;obtain⟨hlim,T,mes,U,y,A,hm,_⟩:=hS.ob o g _ hg (zy ho (by simp));obtain rfl:T=b:=by rw[S]at y;exact(Option.some.inj y).symm
 obtain⟨B,_,q⟩:=MK (P:=P) (w:=w) h2 M;have C:∀(v:Value) (m:List Dt) (ok:Bool),iN K w.heap J v m->(Instr.lookup t (.map (some T)) I a).run P w=.ok (if a then .tuple #[v,.bool ok]else v) w->qd u d (zr L.zero)=m->(gL u d).isSome=ok ->
   ∃s,(Instr.lookup t (.map (some T)) I a).run P w=.ok s w/\VR K w.heap G s (bif a then .tup [gW J (qd u d (zr L.zero)),.p (.b (gL u d).isSome)]else gW J (qd u d (zr L.zero))):=by
  intro v m ok hv hr e1 e2;refine⟨_,hr,?_⟩;rw[e1,e2];have:=yf (G:=G) hv;cases a with
  |false=>simpa using this
  |true =>
   simp only[if_true,cond_true,VR];refine⟨[v,.bool ok],rfl,?_⟩;simp only[VRs,VR,DR];exact⟨_,_,rfl,this,_,_,rfl,rfl,rfl⟩
 rcases q hm h1 with⟨V,W,_,_,_⟩|⟨j,e,m,V,W,a3,a4,a5,_,_⟩
 .obtain⟨i,z,D,hi2,E,r⟩:=Ui Q;have X:(zeroValue et).run P w=.ok z w:=by simp[zeroValue,typeInfo,D,E]
  have n:ev P et=(match z with|.agg _=>true|_=>false):=by simp only[ev,D,Option.bind_some,E];cases z <;> rfl
  refine C z (zr L.zero) false ?_ ?_ (by simp[qd,W]) (by simp[W])
  .have f:=jD (K:=K) (h:=w.heap) h4;rw[<-r]at f;cases J with
   |true =>
    rw[h3]at n;cases z <;> first|cases n|skip
    rename_i cs;exact⟨cs.toList,by simp,by rw[<-r];exact f⟩
   |false =>
    rw[h3]at n;have F:z.cells.toList=[z]:=by cases z <;> first|rfl|cases n
    rw[F]at f;have Y:=f.length;rw[<-r,F];match Z:zr [z],Y with
    |[d0],_ =>
     rw[Z]at f;simp only[DRs]at f;obtain⟨_,_,h6,h7,_⟩:=f;cases h6;exact⟨d0,rfl,h7⟩
  .simp only[Instr.lookup,Sem.run_bind,run_underlying hu,Result.andThen_ok,MapKept.run_getObj_map A,Sem.run_pure,B,V,X]
   first
    |done
    |(cases a <;> simp)
 .refine C e.val m true a5 ?_ (by simp[qd,a4]) (by simp[a4]);simp only[Instr.lookup,Sem.run_bind,run_underlying hu,Result.andThen_ok,MapKept.run_getObj_map A,Sem.run_pure,B,V]
  first
   |done
   |(cases a <;> simp)
end
def gU:List Va->Option (List Dt)
 |[]=>some []
 |.p d::l=>match gU l with
  |some a=>some (d::a)
  |none=>none
 |_::_=>none
def pY(op:BinOp)(b:Bool)(ok:Prop):Pv:=match op with
 |.eql=>⟨.p (.b b),ok⟩
 |.neq=>⟨.p (.b (!b)),ok⟩
 |_=>eA
def ww(P:Program)(op:BinOp)(t:TypeId)(x y:Va):Pv:=match x with
 |.p (.i k a)=>match y with
  |.p (.i f b)=>i3 op k a f b
  |_=>eA
 |.p (.s a)=>match y with
  |.p (.s b)=>wx op a b
  |_=>eA
 |.p (.b a)=>match y with
  |.p (.b b)=>match zo P t with
   |.bool=>pY op (decide (a=b)) True
   |_=>eA
  |_=>eA
 |.agg g=>match y with
  |.agg h=>match gy P t,gU g,gU h with
   |some ks,some c,some d=>pY op (fA c d) (eH P t=true/\zJ ks c/\zJ ks d)
   |_,_,_=>eA
  |_=>eA
 |.nil=>match y with
  |.nil=>match zo P t with
   |.ptr _=>pY op true True
   |_=>eA
  |_=>eA
 |.ptr o a=>match y with
  |.nil=>match zo P t with
   |.ptr _=>pY op false True
   |_=>eA
  |.ptr j l=>match zo P t with
   |.ptr e=>pY op true (o=j/\a=l/\(P.info? e).isSome=true)
   |_=>eA
  |_=>eA
 |_=>eA
def Hs:Va->Pv
 |.ptr o a=>⟨.ptr o a,True⟩
 |.rp c=>⟨.rp c,True⟩
 |.el o d i a=>⟨.el o d i a,True⟩
 |.fn f b=>⟨.fn f b,True⟩
 |_=>eA
def lT(c:Ti)(x:Va):Prop:=match c.kind,x with
 |.str,.p (.s _)=>True
 |.slice _ b _ _,.p (.l a)=>fe b a
 |.slice _ b _ _,.full a=>fe b a
 |.slice _ _ _ _,.nils=>True
 |_,_=>False
def oOk(g:Bool)(E:ep):Option Operand->Prop
 |none=>True
 |some x=>opOk g E x
def allOk(g:Bool)(E:ep):List Operand->Prop
 |[]=>True
 |x::a=>opOk g E x/\allOk g E a
def partsOk(g:Bool)(E:ep):List (Nat×Operand)->Prop
 |[]=>True
 |x::a=>opOk g E x.2/\partsOk g E a
def partsV(E:ep):List (Nat×Operand)->List (Nat×Va)
 |[]=>[]
 |x::a=>(x.1,opnd E x.2)::partsV E a
def opnds(E:ep):List Operand->List Va
 |[]=>[]
 |x::a=>opnd E x::opnds E a
def also(c:Prop)(r:Pv):Pv:=⟨r.v,c/\r.ok⟩
def isB:Va->Option Bool
 |.p (.b x)=>some x
 |_=>none
def jV(t:Bool)(a b:Va):Va:=match a,b with
 |.p (.b x),.p (.b y)=>.p (.b (bif t then x else y))
 |x,y=>bif t then x else y
theorem qx(a b:Va):jV true a b=a:=by
 unfold jV;split <;> rfl
theorem qy(a b:Va):jV false a b=b:=by
 unfold jV;split <;> rfl
theorem yl(t:Bool)(a b:Va):jV t a b=match a,b with
 |.p (.b x),.p (.b y)=>.p (.b (bif t then x else y))
 |x,y=>bif t then x else y:=rfl
def uT(g:Bool)(c a b:Va):Pv:=match c with
 |.p (.b t)=>⟨jV t (mD a) (mD b),g=true->(t=true->KE a=true)/\(t=false->KE b=true)⟩
 |_=>eA
def Rm(c:Bool)(x y:Va):Pv:=match x,y with
 |.p (.i k a),.p (.i d b)=>⟨.p (.i k (bif c then min a b else max a b)),k=d⟩
 |_,_=>eA
def XQ(x y z:Va):Pv:=match x,y,z with
 |.p (.i k a),.p (.i e b),.p (.i d c)=>⟨.p (.i k (min (min a b) c)),k=e/\k=d⟩
 |_,_,_=>eA
def Kg(P:Program)(t:TypeId)(x:Va):Pv:=match zo P t,x with
 |.slice _ _ _ _,.bufc _ a=>⟨.p (.i .i64 a),(a:Int)<=9223372036854775807⟩
 |_,_=>eA
def S0(x y:Va)(o:Operand):Option Bool:=match x,y,o with
 |.raw .nilIface,.raw .nilIface,.const _=>some true
 |.er b,.raw .nilIface,.const _=>some b
 |_,_,_=>none
theorem JV{K:Nat->Prop}{h:Array Obj}{G:List Gh}{x y:Va}{o:Operand}{b:Bool}{cx d:Value}(e:S0 x y o=some b)(a:VR K h G cx x)(c:VR K h G d y) :
  (∃v,o=.const v)/\d=.nilIface/\((b=true/\cx=.nilIface)∨(b=false/\∃t v,cx=.iface t v)):=by
 unfold S0 at e;split at e
 .cases e;simp only[VR]at a c;exact⟨⟨_,rfl⟩,c,.inl ⟨rfl,a⟩⟩
 .cases e;simp only[VR]at a c;exact⟨⟨_,rfl⟩,c,a⟩
 .cases e
def Yb(P:Program)(t:TypeId):Bool:=match P.underlying t with
 |some (.interface _)=>true
 |_=>false
def fy(P:Program)(g:Bool)(E:ep)(H:List Ob):Op->Pv
 |.move x=>⟨opnd E x,opOk g E x⟩
 |.assign x=>⟨opnd E x,opOk g E x⟩
 |.pick c a b=>also (opOk g E c/\tc a/\tc b) (uT g (opnd E c) (eK E a) (eK E b))
 |.build t o=>match ex P t with
  |some e=>also (partsOk g E o.toList) (i1 e (partsV E o.toList))
  |none=>eA
 |.load t x=>match ex P t with
  |some e=>also (opOk g E x) (j4 e H (opnd E x))
  |none=>eA
 |.nilCheck x=>also (opOk g E x) (Hs (opnd E x))
 |.binOp op t x y _=>also (opOk g E x/\opOk g E y) (match S0 (opnd E x) (opnd E y) y with
  |some b=>pY op b (Yb P t=true)
  |none=>ww P op t (opnd E x) (opnd E y))
 |.unOp op _ x=>also (opOk g E x) (PJ op (opnd E x))
 |.convert s d x=>match ex P s with
  |some _=>also (opOk g E x) (nW P s d H (opnd E x))
  |none=>eA
 |.makeFunc fn first j=>match fn,first.toList with
  |.func f,[]=>⟨.fn f (opnds E j.toList),allOk g E j.toList⟩
  |_,_=>eA
 |.slice t x l h m=>match ex P t with
  |some e=>match kQ e H (opnd E x)with
   |some r=>also (opOk g E x/\oOk g E l/\oOk g E h/\oOk g E m) (mw r (l.map (opnd E)) (h.map (opnd E)) (m.map (opnd E)))
   |none=>also (opOk g E x/\oOk g E l/\oOk g E h/\oOk g E m/\lT e (opnd E x)) (w6 (opnd E x) (l.map (opnd E)) (h.map (opnd E)) (m.map (opnd E)))
  |none=>eA
 |.fieldAddr t x f=>match ex P t with
  |some e=>also (opOk g E x) (Nd e f (opnd E x))
  |none=>eA
 |.field t x f=>match ex P t with
  |some e=>also (opOk g E x) (iV e f (opnd E x))
  |none=>eA
 |.indexAddr t x i=>match ex P t with
  |some e=>also (opOk g E x/\opOk g E i) (MJ e H (opnd E x) (opnd E i))
  |none=>eA
 |.index t x i=>match ex P t with
  |some e=>also (opOk g E x/\opOk g E i) (iR e (opnd E x) (opnd E i))
  |none=>eA
 |.extract x i=>also (opOk g E x) (MB (opnd E x) i)
 |.lookup t x k n=>also (opOk g E x/\opOk g E k) (na P t H n (opnd E x) (opnd E k))
 |.call c=>match c.callee,c.args.toList,c.argTypes.toList with
  |.builtin .len,[x],t::_=>also (opOk g E x) (vo P t H (opnd E x))
  |.builtin .cap,[x],t::_=>also (opOk g E x) (Kg P t (opnd E x))
  |.builtin .min,[x,y],_=>also (opOk g E x/\opOk g E y) (Rm true (opnd E x) (opnd E y))
  |.builtin .min,[x,y,z],_=>also (opOk g E x/\opOk g E y/\opOk g E z) (XQ (opnd E x) (opnd E y) (opnd E z))
  |.builtin .max,[x,y],_=>also (opOk g E x/\opOk g E y) (Rm false (opnd E x) (opnd E y))
  |_,_,_=>eA
 |_=>eA
section
variable {K:Nat->Prop} {G:List Gh} {H:List Ob} {w:World} {P:Program} {E:ep} {a:Act} {g:Bool}
theorem VJ{h:Array Obj}:∀{cs:List Value} {e:List Va} {b:List Dt},VRs K h G cs e->gU e=some b->DRs K h cs b
 |cs,[],b,H,a=>by simp only[gU]at a;cases a;simpa [VRs,DRs]using H
 |cs,.p d::e,b,H,a=>by
  simp only[gU]at a;split at a
  .rename_i g i;cases a;simp only[VRs,VR]at H;obtain⟨c,f,rfl,j,k⟩:=H;simp only[DRs];exact⟨c,f,rfl,j,VJ k i⟩
  .cases a
 |cs,.nils::_,_,_,a=>by simp[gU]at a
 |cs,.full _::_,_,_,a=>by simp[gU]at a
 |cs,.rp _::_,_,_,a=>by simp[gU]at a
 |cs,.ptr _ _::_,_,_,a=>by simp[gU]at a
 |cs,.cs _ _::_,_,_,a=>by simp[gU]at a
 |cs,.el _ _ _ _::_,_,_,a=>by simp[gU]at a
 |cs,.buf _::_,_,_,a=>by simp[gU]at a
 |cs,.mp _::_,_,_,a=>by simp[gU]at a
 |cs,.np _::_,_,_,a=>by simp[gU]at a
 |cs,.sd _::_,_,_,a=>by simp[gU]at a
 |cs,.vw _ _ _ _::_,_,_,a=>by simp[gU]at a
 |cs,.bufc _ _::_,_,_,a=>by simp[gU]at a
 |cs,.fn _ _::_,_,_,a=>by simp[gU]at a
 |cs,.agg _::_,_,_,a=>by simp[gU]at a
 |cs,.tup _::_,_,_,a=>by simp[gU]at a
 |cs,.nil::_,_,_,a=>by simp[gU]at a
 |cs,.cnd _ _::_,_,_,a=>by simp[gU]at a
 |cs,.raw _::_,_,_,a=>by simp[gU]at a
 |cs,.er _::_,_,_,a=>by simp[gU]at a
 |cs,.top::_,_,_,a=>by simp[gU]at a
theorem xT{t:TypeId}{c:Ti}(f:ex P t=some c)(g:c.kind=.bool):P.underlying t=some .bool:=by
 obtain⟨d,h,a,i⟩:=tS f;rw[g]at a;cases d <;> simp only[uf]at a <;> try (cases a)
 case slice e=>split at a <;> cases a
 case array n e=>split at a <;> cases a
 case struct b=>split at a <;> cases a
 case bool=>exact h
theorem oS{t:TypeId}{c:Ti}{e:TypeId}(f:ex P t=some c)(g:c.kind=.ptr e):P.underlying t=some (.pointer e):=by
 obtain⟨d,h,a,i⟩:=tS f;rw[g]at a;cases d <;> simp only[uf]at a <;> try (cases a)
 case slice e=>split at a <;> cases a
 case array n e=>split at a <;> cases a
 case struct b=>split at a <;> cases a
 case pointer=>exact h
theorem Al{op:BinOp}{t:TypeId}{c d:Value}{x y:Va}(h:VR K w.heap G c x)(i:VR K w.heap G d y)(a:(ww P op t x y).ok)(E F:Operand) :
  ∃u,(do eqGuard op t E F c d;binOp op t c d:Sem Value).run P w=.ok u w/\VR K w.heap G u (ww P op t x y).v:=by
 unfold ww at a|-;split at a
 .split at a;rotate_left
  .exact a.elim
  simp only[VR,DR]at h i;obtain⟨rfl,z⟩:=h;obtain⟨rfl,_⟩:=i;obtain⟨u,H,I⟩:=Ao (K:=K) (G:=G) (w:=w) (P:=P) t z a;exact⟨u,by rw[eqGuard_at_int];simpa using H,I⟩
 .split at a;rotate_left
  .exact a.elim
  simp only[VR,DR]at h i;obtain⟨rfl,z⟩:=h;obtain⟨rfl,_⟩:=i;obtain⟨u,H,I⟩:=Am (K:=K) (G:=G) (w:=w) (P:=P) t a;exact⟨u,by rw[eqGuard_at_string];simpa using H,I⟩
 .split at a;rotate_left
  .exact a.elim
  split at a;rotate_left
  .exact a.elim
  rename_i p;obtain⟨J,q,f⟩:=zL p (by simp);have l:=xT q f;simp only[VR,DR]at h i;subst h;subst i;cases op <;> try (exact a.elim)
  .exact⟨_,by rw[eqGuard_at_bool];simpa using run_eql_bool w t _ _ l,fS (BQ _ _)⟩
  .exact⟨_,by rw[eqGuard_at_bool];simpa using run_neq_bool w t _ _ l,fS (by rw[BQ])⟩
 .split at a;rotate_left
  .exact a.elim
  split at a;rotate_left
  .exact a.elim
  rename_i ks S T A L M;simp only[VR]at h i;obtain⟨cs,rfl,N⟩:=h;obtain⟨R,rfl,B⟩:=i;have m:=VJ N L;have n:=VJ B M;cases op <;> try (exact a.elim)
  .obtain⟨z,r,s⟩:=a;exact⟨_,(jP w A z m n r s E F).1,fS rfl⟩
  .obtain⟨z,r,s⟩:=a;exact⟨_,(jP w A z m n r s E F).2,fS rfl⟩
 .split at a;rotate_left
  .exact a.elim
  split at a;rotate_left
  .exact a.elim
  rename_i e p;obtain⟨J,q,f⟩:=zL p (by simp);have l:=oS q f;have k:P.underlying t=some (.pointer (P.pointee t)):=by simp[Program.pointee,l]
  simp only[VR]at h i;subst h;subst i;cases op <;> try (exact a.elim)
  .exact⟨_,by rw[eqGuard_at_pointer];simpa using run_eql_pointer_nil w t none k,fS rfl⟩
  .exact⟨_,by rw[eqGuard_at_pointer];simpa using run_neq_pointer_nil w t none k,fS rfl⟩
 .split at a;rotate_left
  .split at a;rotate_left
   .exact a.elim
   rename_i U V e p;obtain⟨J,q,f⟩:=zL p (by simp);have l:=oS q f;simp only[VR]at h i;obtain⟨g,b,Q,C,rfl⟩:=h;obtain⟨g',b',D,o,rfl⟩:=i;cases op <;> try (exact a.elim)
   .obtain⟨rfl,rfl,hi⟩:=a;obtain⟨j,O⟩:=Option.isSome_iff_exists.1 hi;obtain rfl:g=g':=Option.some.inj (Q.symm.trans D);obtain rfl:b=b':=Option.some.inj (C.symm.trans o);exact⟨_,by rw[eqGuard_at_pointer];simpa using run_eql_ptr_same w _ l O,fS rfl⟩
   .obtain⟨rfl,rfl,hi⟩:=a;obtain⟨j,O⟩:=Option.isSome_iff_exists.1 hi;obtain rfl:g=g':=Option.some.inj (Q.symm.trans D);obtain rfl:b=b':=Option.some.inj (C.symm.trans o);exact⟨_,by rw[eqGuard_at_pointer];simpa using Lib.run_neq_ptr_same w _ l O,fS rfl⟩
  .exact a.elim
  split at a;rotate_left
  .exact a.elim
  rename_i e p;obtain⟨J,q,f⟩:=zL p (by simp);have l:=oS q f;have k:P.underlying t=some (.pointer (P.pointee t)):=by simp[Program.pointee,l]
  simp only[VR]at h i;obtain⟨_,b,_,_,rfl⟩:=h;subst i;cases op <;> try (exact a.elim)
  .exact⟨_,by rw[eqGuard_at_pointer];simpa using run_eql_pointer_nil w t (some _) k,fS rfl⟩
  .exact⟨_,by rw[eqGuard_at_pointer];simpa using run_neq_pointer_nil w t (some _) k,fS rfl⟩
 .exact a.elim
theorem Uf(e:iB K w.heap G a E)(f:g=true):∀(l:List (Nat×Operand)),partsOk g E l ->
  (l.map fun x=>(x.1,a.eval x.2)).map (·.1)=(partsV E l).map (·.1) /\
  ∀(j:Nat) (c:Value) (v:Va),(((l.map fun x=>(x.1,a.eval x.2))[j]?).map fun x=>x.2)=some c->((partsV E l)[j]?.map fun x=>x.2)=some v->VR K w.heap G c v
 |[],_=>⟨rfl,by simp[partsV]⟩
 |x::l,h=>by
  simp only[partsOk]at h;obtain⟨i,k⟩:=Uf e f l h.2;refine⟨by simp only[map_cons,partsV,i],fun j c v b d=>?_⟩;cases j with
  |zero =>
   simp only[map_cons,partsV,getElem?_cons_zero,Option.map_some,Option.some.injEq]at b d;subst b;subst d;exact zD e f _ h.1
  |succ j=>exact k j c v (by simpa using b) (by simpa [partsV]using d)
theorem xe(b:iB K w.heap G a E)(c:g=true):∀(l:List Operand),allOk g E l->VRs K w.heap G (l.map a.eval) (opnds E l)
 |[],_=>by simp[VRs,opnds]
 |x::l,h=>by simp only[allOk]at h;simp only[map_cons,opnds,VRs];exact⟨_,_,rfl,zD b c x h.1,xe b c l h.2⟩
theorem KJ(b:iB K w.heap G a E)(c:g=true)(x:Option Operand)(h:oOk g E x):BR K w.heap G (x.map a.eval) (x.map (opnd E)):=by
 cases x with
 |none=>trivial
 |some x=>exact zD b c x h
theorem TZ(hS:St K G H w)(n:iB K w.heap G a E)(q:g=true)(o:Oper)(j:(fy P g E H o.op).ok) :
  ∃c,(execOp a.eval o).run P w=.ok (.value c) w/\VR K w.heap G c (fy P g E H o.op).v:=by
 obtain⟨dst,op,ty,pos,after,guard⟩:=o;have val:∀(s:Sem Value) (c:Value),s.run P w=.ok c w->(do pure (.value (<-s)):Sem Next).run P w=.ok (.value c) w:=by intro s c h;simp[h]
 cases op <;> simp only[fy]at j|- <;> try (exact j.elim)
 case move x=>exact⟨_,rfl,zD n q x j⟩
 case assign x=>exact⟨_,rfl,zD n q x j⟩
 case pick c x y =>
  obtain⟨⟨C,D,A⟩,hp⟩:=j;have hc:=zD n q c C;have p:=kZ n x D;have L:=kZ n y A;simp only[also];unfold uT at hp|-;split at hp;rotate_left
  .exact hp.elim
  rename_i t I;rw[I]at hc;simp only[VR,DR]at hc;have hp':=hp q;simp only[execOp,hc,asBool];cases t
  .exact⟨_,by simp;rfl,by simpa [qy]using VP L (hp'.2 rfl)⟩
  .exact⟨_,by simp;rfl,by simpa [qx]using VP p (hp'.1 rfl)⟩
 case build t ps =>
  split at j;rotate_left
  .exact j.elim
  rename_i V I;obtain⟨C,D⟩:=j;obtain⟨hp1,hp2⟩:=Uf n q ps.toList C;obtain⟨c,B,F⟩:=sR (P:=P) w I (ps:=ps.map fun x=>(x.1,a.eval x.2)) (parts:=partsV E ps.toList) (by simpa using hp1) (by simpa using hp2) D;exact⟨c,val _ _ B,F⟩
 case load t x =>
  split at j;rotate_left
  .exact j.elim
  rename_i V I;obtain⟨c,B,F⟩:=nb (P:=P) I hS (zD n q x j.1) j.2;exact⟨c,val _ _ B,F⟩
 case nilCheck x =>
  obtain⟨C,D⟩:=j;have p:=zD n q x C;simp only[also,execOp];generalize opnd E x=v at p D|-;generalize a.eval x=c at p|-;cases v <;> simp only[Hs]at D|- <;> try (exact D.elim)
  .have:=p;simp only[VR]at this;obtain⟨_,_,_,_,_,_,rfl,_⟩:=this;exact⟨_,rfl,p⟩
  .have:=p;simp only[VR]at this;obtain⟨_,_,_,_,rfl⟩:=this;exact⟨_,rfl,p⟩
  .have:=p;simp only[VR]at this;obtain⟨_,_,_,_,_,_,_,rfl⟩:=this;exact⟨_,rfl,p⟩
  .have:=p;simp only[VR]at this;obtain⟨_,rfl,_⟩:=this;exact⟨_,rfl,p⟩
 case binOp op t x y yt =>
  obtain⟨⟨C,D⟩,A⟩:=j;cases W:S0 (opnd E x) (opnd E y) y with
  |some b =>
   simp only[W]at A;simp only[also];have p:=zD n q x C;have L:=zD n q _ D;obtain⟨⟨co,rfl⟩,S,N⟩:=JV W p L;have hi:P.underlying t=some (.interface (P.methodsAt t)):=by
    cases op <;> first|exact A.elim|skip
    all_goals
     have T:Yb P t=true:=A;unfold Yb at T;split at T
     .rename_i ms hu;simp[Program.methodsAt,hu]
     .cases T
   rcases N with⟨rfl,N⟩|⟨rfl,tv,vv,N⟩
   .cases op <;> first|exact A.elim|skip
    .refine⟨_,val _ _ (by rw[N,S,eqGuard_nil_constR];simpa using run_eql_nil_nil w t hi),fS rfl⟩
    .refine⟨_,val _ _ (by rw[N,S,eqGuard_nil_constR];simpa using run_neq_nil_nil w t hi),fS rfl⟩
   .cases op <;> first|exact A.elim|skip
    .refine⟨_,val _ _ (by rw[N,S];simpa [eqGuard]using run_eql_held_nil w t tv vv hi),fS rfl⟩
    .refine⟨_,val _ _ (by rw[N,S];simpa [eqGuard]using run_neq_held_nil w t tv vv hi),fS rfl⟩
  |none =>
  simp only[W]at A;simp only[also];obtain⟨c,B,F⟩:=Al (P:=P) (zD n q x C) (zD n q y D) A x y;exact⟨c,val _ _ B,F⟩
 case unOp op t x =>
  obtain⟨c,B,F⟩:=EZ (P:=P) (zD n q x j.1) j.2;exact⟨c,val _ _ B,F⟩
 case convert src dst x =>
  split at j;rotate_left
  .exact j.elim
  rename_i V I;obtain⟨d,hd,_⟩:=tS I;obtain⟨c,B,F⟩:=wi (P:=P) (dst:=dst) hS (zD n q x j.1) ⟨d,hd⟩ j.2;exact⟨c,val _ _ B,F⟩
 case makeFunc fn first M =>
  split at j;rotate_left
  .exact j.elim
  rename_i f hfirst;have hf0:first=#[]:=by cases first;simp_all
  subst hf0;refine⟨.func (.func f) #[] (M.toList.map a.eval).toArray,?_,?_⟩
  .have C:M.map a.eval=(M.toList.map a.eval).toArray:=by cases M;simp
   have D:(#[]:Array Operand).map a.eval=#[]:=by simp
   simp only[execOp,Instr.makeFunc,C,D];simp
  .simp only[VR];exact⟨_,rfl,xe n q M.toList j⟩
 case slice t x l h m =>
  split at j;rotate_left
  .exact j.elim
  rename_i V I;split at j
  .rename_i r B;obtain⟨⟨C,D,A,T⟩,h6⟩:=j;obtain⟨c,B,F⟩:=ub (P:=P) I hS (zD n q x C) (KJ n q l D) (KJ n q h A) (KJ n q m T) B h6;exact⟨c,val _ _ B,F⟩
  obtain⟨⟨C,D,A,T,h5⟩,h6⟩:=j;obtain⟨c,B,F⟩:=rV (P:=P) I (zD n q x C) (KJ n q l D) (KJ n q h A) (KJ n q m T) (by
   unfold lT at h5;split at h5
   .rename_i s O p;exact .inl ⟨O,s,p⟩
   .rename_i e Q eb ez R O p;exact .inr ⟨e,Q,eb,ez,O,.inl ⟨R,p,h5⟩⟩
   .rename_i e Q eb ez R O p;exact .inr ⟨e,Q,eb,ez,O,.inr (.inl ⟨R,p,h5⟩)⟩
   .rename_i e Q eb ez O p;exact .inr ⟨e,Q,eb,ez,O,.inr (.inr p)⟩
   .exact h5.elim) h6
  exact⟨c,val _ _ B,F⟩
 case fieldAddr t x f =>
  split at j;rotate_left
  .exact j.elim
  rename_i V I;obtain⟨c,B,F⟩:=zph (P:=P) (w:=w) I (zD n q x j.1) j.2;exact⟨c,val _ _ B,F⟩
 case field t x f =>
  split at j;rotate_left
  .exact j.elim
  rename_i V I;obtain⟨c,B,F⟩:=sA (P:=P) (w:=w) I (zD n q x j.1) j.2;exact⟨c,val _ _ B,F⟩
 case indexAddr t x i =>
  split at j;rotate_left
  .exact j.elim
  rename_i V I;obtain⟨c,B,F⟩:=ny (P:=P) I hS (zD n q x j.1.1) (zD n q i j.1.2) j.2;exact⟨c,val _ _ B,F⟩
 case index t x i =>
  split at j;rotate_left
  .exact j.elim
  rename_i V I;obtain⟨c,B,F⟩:=sq (P:=P) (w:=w) I (zD n q x j.1.1) (zD n q i j.1.2) j.2;exact⟨c,val _ _ B,F⟩
 case extract x i =>
  obtain⟨c,B,F⟩:=nM (P:=P) (w:=w) (i:=i) (zD n q x j.1) j.2;exact⟨c,val _ _ B,F⟩
 case lookup t x k cok =>
  obtain⟨c,B,F⟩:=vi (P:=P) hS (zD n q x j.1.1) (zD n q k j.1.2) j.2;exact⟨c,val _ _ B,F⟩
 case call c =>
  obtain⟨callee,args,J⟩:=c;simp only at j|-;split at j
  .rename_i x t ts C D;have U:args=#[x]:=by cases args;simp_all
   subst U;obtain⟨c,B,F⟩:=yH (P:=P) hS (zD n q x j.1) j.2 J (by rw[<-Array.getElem?_toList,D];rfl) ty;exact⟨c,by simp[execOp,resolve,invoke,builtin,B],F⟩
  .rename_i x t ts C D;have U:args=#[x]:=by cases args;simp_all
   subst U;obtain⟨C,A⟩:=j;have p:=zD n q x C;simp only[also];unfold Kg at A|-;split at A;rotate_left
   .exact A.elim
   rename_i e Q eb ez o cp O he;obtain⟨V,I,X⟩:=zL O (by simp);rw[he]at p;simp only[VR]at p;obtain⟨g,a0,n0,cap,_,hsv,hc,rfl⟩:=p;have hts:J[0]?=some t:=by rw[<-Array.getElem?_toList,D];rfl
   refine⟨goInt cap,?_,jE (by simp only[Fits,lo,hi];omega)⟩;rw[hsv]at hc;simp[execOp,resolve,invoke,builtin,hc,Builtin.cap_,hts,run_underlying (je I X).1]
  .rename_i tl x y C;have U:args=#[x,y]:=by cases args;simp_all
   subst U;obtain⟨⟨C,D⟩,A⟩:=j;have p:=zD n q x C;have L:=zD n q y D;simp only[also];unfold Rm at A|-;split at A;rotate_left
   .exact A.elim
   rename_i k u k' v Y Z;rw[Y]at p;rw[Z]at L;simp only[VR,DR]at p L;have O:k=k':=A;subst O;refine⟨.int k (min u v),?_,?_⟩
   .have:(if v<u then v else u)=min u v:=by rw[Int.min_def];split <;> split <;> omega
    simp[execOp,resolve,invoke,builtin,p.1,L.1,run_min_int2,this]
   .simp only[cond_true];exact jE (by rw[Int.min_def];split;exact p.2;exact L.2)
  .rename_i tl x y z C;have U:args=#[x,y,z]:=by cases args;simp_all
   subst U;obtain⟨⟨C,D,T⟩,A⟩:=j;have p:=zD n q x C;have L:=zD n q y D;have hz:=zD n q z T;simp only[also];unfold XQ at A|-;split at A;rotate_left
   .exact A.elim
   rename_i k u k' v k'' t Y Z e3;rw[Y]at p;rw[Z]at L;rw[e3]at hz;simp only[VR,DR]at p L hz;obtain⟨O,X⟩:=A;subst O;subst X;refine⟨.int k (min (min u v) t),?_,?_⟩
   .have Y:(if v<u then v else u)=min u v:=by rw[Int.min_def];split <;> split <;> omega
    have Z:(if t<min u v then t else min u v)=min (min u v) t:=by rw[Int.min_def (min u v) t];split <;> split <;> omega
    simp[execOp,resolve,invoke,builtin,p.1,L.1,hz.1,Builtin.min_,Builtin.min2,Y,Z]
   .refine jE ?_;have C:=p.2;have D:=L.2;have A:=hz.2;unfold Fits at *;omega
  .rename_i tl x y C;have U:args=#[x,y]:=by cases args;simp_all
   subst U;obtain⟨⟨C,D⟩,A⟩:=j;have p:=zD n q x C;have L:=zD n q y D;simp only[also];unfold Rm at A|-;split at A;rotate_left
   .exact A.elim
   rename_i k u k' v Y Z;rw[Y]at p;rw[Z]at L;simp only[VR,DR]at p L;have O:k=k':=A;subst O;refine⟨.int k (max u v),?_,?_⟩
   .have:(if u<v then v else u)=max u v:=by rw[Int.max_def];split <;> split <;> omega
    simp[execOp,resolve,invoke,builtin,p.1,L.1,run_max_int2,this]
   .simp only[cond_false];exact jE (by rw[Int.max_def];split;exact L.2;exact p.2)
  .exact j.elim
end
abbrev Tp(a b:World):Prop:=b.tape=a.tape/\(Tabs.mono->a.drawn<=b.drawn)
structure Ext(kp:Nat->Bool)(K0:Nat->Prop)(G0:List Gh)(w0:World)(K:Nat->Prop)(G:List Gh)(w:World):Prop where
 os:w.os=w0.os
 tape:Tp w0 w
 output:w.output=w0.output
 size:w0.heap.size<=w.heap.size
 k:∀b,K0 b->K b
 knew:∀b,K b->K0 b∨(∃(o0:Nat) (g0:Gh),G0[o0]?=some g0/\own g0 b)∨w0.heap.size<=b
 glen:G0.length<=G.length
 gown:∀(o:Nat) (g:Gh) (b:Nat),G[o]?=some g->own g b->(∃(o0:Nat) (g0:Gh),G0[o0]?=some g0/\own g0 b)∨w0.heap.size<=b
 gsame:∀(o:Nat) (g0:Gh),kp o=true->G0[o]?=some g0->G[o]?=some g0
 frame:∀b,b<w0.heap.size->(∀(o:Nat) (g0:Gh),G0[o]?=some g0->¬ own g0 b)->w.heap[b]?=w0.heap[b]?
theorem Ext.refl(kp:Nat->Bool)(K:Nat->Prop)(G:List Gh)(w:World):Ext kp K G w K G w where
 os:=rfl
 tape:=⟨rfl,fun _=>Nat.le_refl _⟩
 output:=rfl
 size:=Nat.le_refl _
 k:=fun _ h=>h
 knew:=fun _ h=>.inl h
 glen:=Nat.le_refl _
 gown:=fun o g _ h hb=>.inl ⟨o,g,h,hb⟩
 gsame:=fun _ _ _ h=>h
 frame:=fun _ _ _=>rfl
theorem Ext.trans{kp:Nat->Bool}{j l n:Nat->Prop}{p q r:List Gh}{s w1 t:World}(h:Ext kp j p s l q w1)(k:Ext kp l q w1 n r t):Ext kp j p s n r t where
 os:=k.os.trans h.os
 tape:=⟨k.tape.1.trans h.tape.1,fun m=>Nat.le_trans (h.tape.2 m) (k.tape.2 m)⟩
 output:=k.output.trans h.output
 size:=Nat.le_trans h.size k.size
 k:=fun b hb=>k.k b (h.k b hb)
 knew:=fun b hb=>by
  rcases k.knew b hb with a|⟨i,d,a,c⟩|a
  .exact h.knew b a
  .exact .inr (h.gown i d b a c)
  .exact .inr (.inr (Nat.le_trans h.size a))
 glen:=Nat.le_trans h.glen k.glen
 gown:=fun o g b w hb=>by
  rcases k.gown o g b w hb with⟨i,d,a,c⟩|a
  .exact h.gown i d b a c
  .exact .inr (Nat.le_trans h.size a)
 gsame:=fun o f u x=>k.gsame o f u (h.gsame o f u x)
 frame:=fun b hb v=>by
  rw[k.frame b (Nat.lt_of_lt_of_le hb h.size) fun o d a e=>?_]
  .exact h.frame b hb v
  .rcases h.gown o d b a e with⟨y,f,c,z⟩|c
   .exact v y f c z
   .omega
theorem Ext.cut{d:Nat->Bool}{e K:Nat->Prop}{c G:List Gh}{f w:World}(h:Ext d e c f K G w){n:Nat}(l:c.length<=n):Ext d e c f K (G.take n) w :=
 { h with
  glen:=by rw[length_take];have:=h.glen;omega
  gown:=fun o g b a hb=>by
   rw[getElem?_take]at a;split at a
   .exact h.gown o g b a hb
   .cases a
  gsame:=fun o j k i=>by
   have:=(List.getElem?_eq_some_iff.1 i).1;rw[getElem?_take,if_pos (by omega)];exact h.gsame o j k i }
structure Cx where
 P:Program
 kp:Nat->Bool
 K0:Nat->Prop
 G0:List Gh
 w0:World
 n:Nat
def jG(kp:Nat->Bool)(H:List Ob):Prop:=∀o,kp o=true->∃x,H[o]?=some x/\x.kept=true
def Rel(C:Cx)(E:ep)(H:List Ob)(a:Act)(w:World):Prop :=
 ∃K G,Ext C.kp C.K0 C.G0 C.w0 K G w/\St K G H w/\iB K w.heap G a E/\a.defers=[]/\a.tmps.size=C.n/\jG C.kp H
def RelV(C:Cx)(E:ep)(H:List Ob)(c:Value)(v:Va)(a:Act)(w:World):Prop :=
 ∃K G,Ext C.kp C.K0 C.G0 C.w0 K G w/\St K G H w/\iB K w.heap G a E/\a.defers=[]/\a.tmps.size=C.n/\jG C.kp H/\VR K w.heap G c v
theorem RelV.put{C:Cx}{E:ep}{H:List Ob}{c:Value}{v:Va}{a:Act}{w:World}(h:RelV C E H c v a w)(b:Option Tmp)(j:∀d,b=some d->d<C.n):Rel C (eL E b v) H (a.put b c) w:=by
 obtain⟨K,G,k,l,g,o,i,p,q⟩:=h;refine⟨K,G,k,l,?_,?_,?_,p⟩
 .cases b with
  |none=>exact g
  |some d =>
   intro m;simp only[Act.put,eL,eM];have f:=j d rfl;split
   .rename_i e;subst e;rw[show(a.tmps.setIfInBounds d c).getD d undef=c by simp[Array.getD,i,f]];exact q
   .rename_i e;rw[show(a.tmps.setIfInBounds d c).getD m undef=a.tmps.getD m undef by simp only[Array.getD_eq_getD_getElem?];rw[Array.getElem?_setIfInBounds_ne e]];exact g m
 .cases b <;> exact o
 .cases b <;> simp[Act.put,i]
section
variable {K:Nat->Prop} {G:List Gh} {H:List Ob} {w:World}
def Ob.all(f:Nat->Bool):Ob->Bool
 |.cells _ a=>dq f a
 |.it o _ _=>f o
 |.nst _ _ _ _ p _ _=>f p
 |_=>true
theorem Ob.all_true(x:Ob):x.all (fun _=>true)=true:=by cases x <;> first|rfl|exact dj _
theorem bufR.keep{K K':Nat->Prop}{h a:Array Obj}(M:Mn K K' h a){c:Option Nat}{g:Value}(hb:∀b,c=some b->a[b]?=h[b]?){T:TypeId}{sz:Nat}{rows:List (List Dt)}(H:bufR K h c g T sz rows):bufR K' a c g T sz rows:=by
 obtain⟨k,i,l,d⟩:=H;refine⟨k,i,DRss.mono M sz i rows l,?_⟩;rcases d with d|⟨b,e,f,m,n,j,o,p⟩
 .exact .inl d
 .exact .inr ⟨b,e,f,m,n,j,(hb b j).trans o,p⟩
theorem ObR.keep{K':Nat->Prop}{h q:Array Obj}{G z:List Gh}{f:Nat->Bool}(M:Mn K K' h q)(r:Mg f G z){g:Gh}(A:∀b,own g b->q[b]?=h[b]?){x:Ob}
  (s:x.all f=true) (H:ObR K h G g x):ObR K' q z g x:=by
 have hb:∀b,g.blk=some b->q[b]?=h[b]?:=fun b h=>A b (.inl h);cases x with
 |cells T t =>
  obtain⟨b,cs,a,e,c⟩:=H;exact⟨b,cs,a,(hb b a).trans e,VRs.keep M r cs t s c⟩
 |buf T u d=>exact bufR.keep M hb H
 |fx T u d=>exact bufR.keep M hb H
 |sb T I =>
  obtain⟨a,c⟩:=H;refine⟨a,?_⟩;rcases c with c|⟨b,w,y,J,L,B,N,O⟩
  .exact .inl c
  .exact .inr ⟨b,w,y,J,L,B,(hb b B).trans N,O⟩
 |mp P Q =>
  obtain⟨m,b,i,l,a,e,c⟩:=H;exact⟨m,b,i,l,a,(hb b a).trans e,c.1.mono M,c.2⟩
 |mpb P Q I R =>
  obtain⟨m,b,i,a,e,c⟩:=H;exact⟨m,b,i,a,(hb b a).trans e,c.1.mono M,c.2⟩
 |it o R C =>
  obtain⟨b,S,D,a,e,c,n⟩:=H;exact⟨b,S,D,a,r o D s e,c,(hb b a).trans n⟩
 |nst f T u k p d X =>
  obtain⟨m,a,E,t,e,c,n,U⟩:=H;exact⟨m,a,E,t,r p E s e,c,n,bufR.keep M hb U⟩
 |inn T u V =>
  obtain⟨a,e,c,n⟩:=H;refine⟨a,e,fun j v d F W=>bufR.keep M (fun b hb=>A b (.inr ⟨v,?_,hb⟩)) (c j v d F W),n⟩;exact mem_of_getElem? F
 |gone=>exact H
 |lost=>exact H
def Ob.prune(f:Nat->Bool):Ob->Ob
 |.cells T c=>.cells T (dh f c)
 |.it o d a=>if f o then .it o d a else .gone
 |.nst g T e k p b h=>if f p then .nst g T e k p b h else bif g then .lost else .gone
 |x=>x
theorem ObR.prune{j:Nat->Prop}{h d:Array Obj}{G l:List Gh}{f:Nat->Bool}(M:Mn K j h d)(a:Mg f G l){g:Gh}(hb:∀b,own g b->d[b]?=h[b]?){x:Ob}
  (H:ObR K h G g x):ObR j d l g (x.prune f):=by
 cases x with
 |cells T q =>
  obtain⟨b,cs,m,r,s⟩:=H;exact⟨b,cs,m,(hb b (.inl m)).trans r,VRs.prune M a cs q s⟩
 |buf T e c=>exact ObR.keep M a hb rfl H
 |fx T e c=>exact ObR.keep M a hb rfl H
 |sb T t=>exact ObR.keep M a hb rfl H
 |mp u v=>exact ObR.keep M a hb rfl H
 |mpb u v t w=>exact ObR.keep M a hb rfl H
 |it o w n =>
  simp only[Ob.prune];split
  .rename_i i;exact ObR.keep M a hb i H
  .trivial
 |nst g T e k p c z =>
  simp only[Ob.prune];split
  .rename_i i;exact ObR.keep M a hb i H
  .cases g <;> trivial
 |inn T e y=>exact ObR.keep M a hb rfl H
 |gone=>exact H
 |lost=>exact H
theorem dl{f:Nat->Bool}{x:Ob}(h:x.kept=true):(x.prune f).kept=true:=by
 cases x <;> first|rfl|exact h|skip
 case it=>cases h
 case nst g T b k p a c =>
  simp only[Ob.prune];split
  .exact h
  .simp only[Ob.kept]at h;subst h;rfl
theorem Mg.push(G:List Gh)(g:Gh):Mg (fun _=>true) G (G++[g]):=fun o a _ h=>by rw[getElem?_append_left (List.getElem?_eq_some_iff.1 h).1];exact h
theorem Mg.refl(f:Nat->Bool)(G:List Gh):Mg f G G:=fun _ _ _ h=>h
theorem xB{x b:Nat}{a:Value}(h:own ⟨some x,a,[]⟩ b):b=x:=by
 rcases h with h|⟨v,c,_⟩
 .cases h;rfl
 .cases c
theorem tp{b:Nat}{a:Value}(h:own ⟨none,a,[]⟩ b):False:=by
 rcases h with h|⟨v,c,_⟩
 .cases h
 .cases c
theorem St.push(c:St K G H w){o:Obj}{x:Ob}{sv:Value}(r:ObR K (w.alloc o).heap (G++[⟨some w.heap.size,sv,[]⟩]) ⟨some w.heap.size,sv,[]⟩ x):St K (G++[⟨some w.heap.size,sv,[]⟩]) (H++[x]) (w.alloc o):=by
 have n:Mn K K w.heap (w.alloc o).heap:=⟨fun _ h=>h,fun b hb=>heap_alloc_old w o (c.kb b hb)⟩;have d:∀{i:Nat} {g:Gh},(G++[⟨some w.heap.size,sv,[]⟩])[i]?=some g->(G[i]?=some g)∨(i=G.length/\g=⟨some w.heap.size,sv,[]⟩):=by
  intro i g a;rcases Nat.lt_or_ge i G.length with h|h
  .rw[getElem?_append_left h]at a;exact .inl a
  .rw[getElem?_append_right h]at a
   have:i-G.length=0:=by
    rcases Nat.lt_or_ge (i-G.length) 1 with k|k
    .omega
    .rw[getElem?_eq_none (by simpa using k)]at a;cases a
   rw[this]at a;simp at a;exact .inr ⟨by omega,a.symm⟩
 constructor
 .simp[c.len]
 .intro b hb;rw[World.size_alloc];exact Nat.lt_succ_of_lt (c.kb b hb)
 .intro i g b a hb;rcases d a with h|⟨_,rfl⟩
  .have:=c.gbo i g b h hb;exact⟨by rw[World.size_alloc];omega,this.2⟩
  .obtain rfl:=xB hb;exact⟨by rw[World.size_alloc];omega,fun s=>Nat.lt_irrefl _ (c.kb _ s)⟩
 .intro i j g p b a m hb f;rcases d a with h|⟨e,rfl⟩ <;> rcases d m with k|⟨t,rfl⟩
  .exact c.ijo i j g p b h k hb f
  .obtain rfl:=xB f;have:=(c.gbo i g _ h hb).1;omega
  .obtain rfl:=xB hb;have:=(c.gbo j p _ k f).1;omega
  .omega
 .intro i g y a l;rcases d a with h|⟨e,rfl⟩
  .have q:=(List.getElem?_eq_some_iff.1 h).1;rw[c.len]at q;rw[getElem?_append_left q]at l;exact ObR.keep n (Mg.push G _) (fun b hb=>heap_alloc_old w o (c.gbo i g b h hb).1) (Ob.all_true _) (c.ob i g y h l)
  .subst e;rw[c.len,getElem?_append_right (Nat.le_refl _)]at l;simp at l;subst l;exact r
 .exact c.tb.mono n
theorem Ext.push(e:Nat->Bool)(o:Obj)(sv:Value):Ext e K G w K (G++[⟨some w.heap.size,sv,[]⟩]) (w.alloc o) where
 os:=rfl
 tape:=⟨rfl,fun _=>Nat.le_refl _⟩
 output:=rfl
 size:=by rw[World.size_alloc];omega
 k:=fun _ h=>h
 knew:=fun _ h=>.inl h
 glen:=by simp
 gown:=fun i g b a hb=>by
  rcases Nat.lt_or_ge i G.length with hi|hi
  .rw[getElem?_append_left hi]at a;exact .inl ⟨i,g,a,hb⟩
  .rw[getElem?_append_right hi]at a
   have:i-G.length=0:=by
    rcases Nat.lt_or_ge (i-G.length) 1 with c|c
    .omega
    .rw[getElem?_eq_none (by simpa using c)]at a;cases a
   rw[this]at a;simp at a;subst a;obtain rfl:=xB hb;exact .inr (Nat.le_refl _)
 gsame:=fun i f _ d=>by rw[getElem?_append_left (List.getElem?_eq_some_iff.1 d).1];exact d
 frame:=fun b hb _=>heap_alloc_old w o hb
theorem St.pushK(a:St K G H w)(o:Obj):St (fun b=>K b∨b=w.heap.size) G H (w.alloc o) where
 len:=a.len
 kb:=fun b hb=>by rw[World.size_alloc];rcases hb with h|h;exact Nat.lt_succ_of_lt (a.kb b h);omega
 gbo:=fun i g b c hb=>by have:=a.gbo i g b c hb;exact⟨by rw[World.size_alloc];omega,fun h=>h.elim this.2 fun e=>by omega⟩
 ijo:=a.ijo
 tb:=a.tb.mono ⟨fun _ h=>.inl h,fun b hb=>heap_alloc_old w o (a.kb b hb)⟩
 ob:=fun i g y c d=>ObR.keep (K:=K) ⟨fun _ h=>.inl h,fun b hb=>heap_alloc_old w o (a.kb b hb)⟩ (Mg.refl (fun _=>true) G) (fun b hb=>heap_alloc_old w o (a.gbo i g b c hb).1) (Ob.all_true _) (a.ob i g y c d)
theorem Ext.pushK(a:Nat->Bool)(o:Obj):Ext a K G w (fun b=>K b∨b=w.heap.size) G (w.alloc o) where
 os:=rfl
 tape:=⟨rfl,fun _=>Nat.le_refl _⟩
 output:=rfl
 size:=by rw[World.size_alloc];omega
 k:=fun _ h=>.inl h
 knew:=fun b h=>h.elim .inl fun e=>.inr (.inr (by omega))
 glen:=Nat.le_refl _
 gown:=fun i g b c hb=>.inl ⟨i,g,c,hb⟩
 gsame:=fun _ _ _ h=>h
 frame:=fun b hb _=>heap_alloc_old w o hb
end
section
variable {K:Nat->Prop} {G:List Gh} {H:List Ob} {w:World} {P:Program}
theorem St.modO(a:St K G H w){o:Nat}{g:Gh}{b:Nat}(d:G[o]?=some g)(hb:own g b){w':World}(f:w'.heap.size=w.heap.size)(j:∀i,i≠b->w'.heap[i]?=w.heap[i]?){x:Ob}(r:ObR K w'.heap G g x) :
  St K G (H.set o x) w':=by
 have m:Mn K K w.heap w'.heap:=⟨fun _ h=>h,fun i hi=>j i fun e=>(a.gbo o g b d hb).2 (e ▸ hi)⟩;refine⟨by simp[a.len],fun i hi=>by rw[f];exact a.kb i hi,fun i g b d hb=>by rw[f];exact a.gbo i g b d hb,a.ijo,fun i n y c k=>?_,a.tb.mono m⟩;by_cases e:i=o
 .subst e;rw[d]at c;cases c;have p:=(List.getElem?_eq_some_iff.1 d).1;rw[a.len]at p;rw[getElem?_set_self p]at k;cases k;exact r
 .rw[getElem?_set_ne (Ne.symm e)]at k;exact ObR.keep m (Mg.refl (fun _=>true) G) (fun q l=>j q fun s=>e (a.ijo i o n g q c d l (by rw[s];exact hb))) (Ob.all_true _) (a.ob i n y c k)
theorem St.modA(d:St K G H w){o:Nat}{g:Gh}{b:Nat}(e:G[o]?=some g)(hb:g.blk=some b){w':World}(a:w'.heap.size=w.heap.size)(c:∀i,i≠b->w'.heap[i]?=w.heap[i]?){x:Ob}(f:ObR K w'.heap G g x) :
  St K G (H.set o x) w':=d.modO e (.inl hb) a c f
theorem Ext.modO(j:Nat->Bool){o:Nat}{g:Gh}{b:Nat}(c:G[o]?=some g)(hb:own g b){a:World}(d:a.os=w.os)(l:Tp w a)(m:a.output=w.output)(n:a.heap.size=w.heap.size)(f:∀i,i≠b->a.heap[i]?=w.heap[i]?) :
  Ext j K G w K G a where
 os:=d
 tape:=l
 output:=m
 size:=by omega
 k:=fun _ h=>h
 knew:=fun _ h=>.inl h
 glen:=Nat.le_refl _
 gown:=fun i g _ c hb=>.inl ⟨i,g,c,hb⟩
 gsame:=fun _ _ _ h=>h
 frame:=fun i _ p=>f i fun e=>p o g c (by rw[e];exact hb)
theorem Ext.modA(kp:Nat->Bool){o:Nat}{g:Gh}{b:Nat}(e:G[o]?=some g)(hb:g.blk=some b){w':World}(a:w'.os=w.os)(f:Tp w w')(h:w'.output=w.output)(c:w'.heap.size=w.heap.size)(d:∀i,i≠b->w'.heap[i]?=w.heap[i]?) :
  Ext kp K G w K G w':=Ext.modO kp e (.inl hb) a f h c d
theorem St.modB(c:St K G H w){o:Nat}{g g1:Gh}(q:G[o]?=some g){w':World}(u:w.heap.size<=w'.heap.size)(r:∀i,i<w.heap.size->¬ own g i->w'.heap[i]?=w.heap[i]?)
  (t:∀b,own g1 b->b<w'.heap.size/\(own g b∨w.heap.size<=b)) {x:Ob} (F:ObR K w'.heap (G.set o g1) g1 x) :
  St K (G.set o g1) ((H.map (Ob.prune (· != o))).set o x) w':=by
 have B:=(List.getElem?_eq_some_iff.1 q).1;have C:Mn K K w.heap w'.heap:=⟨fun _ h=>h,fun i hi=>r i (c.kb i hi) fun e=>(c.gbo o g i q e).2 hi⟩;have v:Mg (· != o) G (G.set o g1):=fun i d hi f=>by rw[getElem?_set_ne (by simpa using Ne.symm (by simpa using hi))];exact f
 have a:∀{i:Nat} {d:Gh},(G.set o g1)[i]?=some d->(i=o/\d=g1)∨(i≠o/\G[i]?=some d):=by
  intro i d h;by_cases e:i=o
  .subst e;rw[getElem?_set_self B]at h;cases h;exact .inl ⟨rfl,rfl⟩
  .rw[getElem?_set_ne (Ne.symm e)]at h;exact .inr ⟨e,h⟩
 refine⟨by simp[c.len],fun i hi=>Nat.lt_of_lt_of_le (c.kb i hi) u,fun i d b f hb=>?_,fun i j d n b f s hb k=>?_,fun i d y f l=>?_,c.tb.mono C⟩
 .rcases a f with⟨rfl,rfl⟩|⟨e,h⟩
  .refine⟨(t b hb).1,fun D=>?_⟩;rcases(t b hb).2 with m|m
   .exact(c.gbo _ g b q m).2 D
   .have:=c.kb b D;omega
  .have:=c.gbo i d b h hb;exact⟨by omega,this.2⟩
 .rcases a f with⟨rfl,rfl⟩|⟨e,h⟩ <;> rcases a s with⟨rfl,rfl⟩|⟨E,z⟩
  .rfl
  .rcases(t b hb).2 with m|m
   .exact c.ijo _ j g n b q z m k
   .have:=(c.gbo j n b z k).1;omega
  .rcases(t b k).2 with m|m
   .exact c.ijo i _ d g b h q hb m
   .have:=(c.gbo i d b h hb).1;omega
  .exact c.ijo i j d n b h z hb k
 .rcases a f with⟨rfl,rfl⟩|⟨e,h⟩
  .rw[getElem?_set_self (by simp[<-c.len,B])]at l;cases l;exact F
  .rw[getElem?_set_ne (Ne.symm e),getElem?_map]at l;cases p:H[i]? with
   |none=>rw[p]at l;simp at l
   |some I =>
    rw[p]at l;simp at l;subst l;exact ObR.prune C v (fun A k=>r A (c.gbo i d A h k).1 fun E=>e (c.ijo i o d g A h q k E)) (c.ob i d I h p)
theorem Ext.modB{kp:Nat->Bool}{o:Nat}{g g1:Gh}(c:G[o]?=some g)(d:kp o=false){w':World}(f:w'.os=w.os)(m:Tp w w')(n:w'.output=w.output)(j:w.heap.size<=w'.heap.size)(l:∀i,i<w.heap.size->¬ own g i->w'.heap[i]?=w.heap[i]?)
  (p:∀b,own g1 b->own g b∨w.heap.size<=b):Ext kp K G w K (G.set o g1) w' where
 os:=f
 tape:=m
 output:=n
 size:=j
 k:=fun _ h=>h
 knew:=fun _ h=>.inl h
 glen:=by simp
 gown:=fun i q b a hb=>by
  by_cases e:i=o
  .subst e;rw[getElem?_set_self (List.getElem?_eq_some_iff.1 c).1]at a;cases a;exact(p b hb).imp (fun h=>⟨i,g,c,h⟩) id
  .rw[getElem?_set_ne (Ne.symm e)]at a;exact .inl ⟨i,q,a,hb⟩
 gsame:=fun i t hi r=>by rw[getElem?_set_ne (fun e=>by rw[<-e,d]at hi;cases hi)];exact r
 frame:=fun i hi s=>l i hi (s o g c)
theorem Xp(g o:Nat)(t:TypeId)(c:Nat×Nat):∀(q:List Value) (i:Nat) (a:Array Value) (w:World),w.heap[g]?=some (.cells a t c)->(∀j,o+i<=j->j<a.size->¬ (c.1<=j/\j<c.2))->o+i+q.length<=a.size->(∀v∈q,v.oneCell'=true) ->
  (storeCells ⟨g,o,none⟩ q i).run P w=.ok () (w.setRow g (fh a.toList (o+i) q).toArray)
 |[],i,a,w,h,_,k,_=>by
  have e:∀(l:List Value) (n:Nat),n<=l.length->fh l n []=l:=by
   intro l n;induction n generalizing l with
   |zero=>intro _;simp[fh]
   |succ n m=>intro d;cases l with
    |nil=>simp at d
    |cons x l=>simp only[fh];rw[m l (by simpa using d)]
  simp only[storeCells];rw[e a.toList _ (by simpa using k),Array.toArray_toList,setRow_self w g a t c h];rfl
 |v::b,i,a,w,h,B,k,r=>by
  have hi:o+i<a.size:=by simp at k;omega
  have f:w.cell? ⟨g,o+i,none⟩=some a[o+i]:=by simp[World.cell?,h,hi]
  have p:w.frozen? ⟨g,o+i,none⟩=false:=by
   have:=B (o+i) (Nat.le_refl _) hi;obtain⟨E,F⟩:=c;simp only[World.frozen?,h]at this|-;simpa using this
  have s:(store ((⟨g,o,none⟩:Addr).add i) v).run P w=.ok () (w.setRow g (a.setIfInBounds (o+i) v)):=by rw[mi,run_store P w _ v _ (r v (by simp)),f];simp[p,setCell_eq_setRow w g (o+i) a t c v h]
  have z:=setRow_heap w g a (a.setIfInBounds (o+i) v) t c h;have m:=Xp g o t c b (i+1) (a.setIfInBounds (o+i) v) (w.setRow g (a.setIfInBounds (o+i) v)) z (fun j r C=>B j (by omega) (by simpa using C)) (by simp at k|-;omega) (fun u D=>r u (by simp[D]));have A:∀(l:List Value) (n:Nat),n+(v::b).length<=l.length->fh (l.set n v) (n+1) b=fh l n (v::b):=by
   intro l n;induction n generalizing l with
   |zero=>intro d;cases l with
    |nil=>simp at d
    |cons y l=>simp[fh]
   |succ n m=>intro d;cases l with
    |nil=>simp at d
    |cons y l=>simp only[set_cons_succ,fh];rw[m l (by simp at d|-;omega)]
  simp only[storeCells,Sem.run_bind,s,Result.andThen_ok,m];rw[setRow_setRow,Array.toList_setIfInBounds,show o+(i+1)=(o+i)+1 by omega,A a.toList (o+i) (by simp at k|-;omega)]
theorem U1(g o:Nat)(t:TypeId)(c:Nat×Nat)(b:List Value)(i:Nat)(a:Array Value)(w:World)(d:w.heap[g]?=some (.cells a t c))(e:Free c a.size)(f:o+i+b.length<=a.size)(h:∀v∈b,v.oneCell'=true) :
  (storeCells ⟨g,o,none⟩ b i).run P w=.ok () (w.setRow g (fh a.toList (o+i) b).toArray):=Xp g o t c b i a w d (fun j _ k=>e.out j k) f h
theorem VR.one{h:Array Obj}{c:Value}{v:Va}(d:VR K h G c v)(m:v.isCell=true)(w:∀t,v≠.agg t):c.oneCell'=true:=by
 cases v with
 |p x =>
  cases x with
  |l q=>simp only[VR,DR]at d;rcases d with⟨⟨_,rfl⟩,_⟩|⟨_,_,_,_,_,_,_,_,rfl,_⟩ <;> rfl
  |b x=>simp only[VR,DR]at d;subst d;rfl
  |i k n=>simp only[VR,DR]at d;obtain⟨rfl,_⟩:=d;rfl
  |s x=>simp only[VR,DR]at d;obtain⟨rfl,_⟩:=d;rfl
  |a A=>simp[Va.isCell]at m
  |r x=>simp only[VR,DR]at d;obtain⟨rfl,h⟩:=d;exact h
 |nils=>simp only[VR]at d;subst d;rfl
 |full q=>simp only[VR]at d;obtain⟨_,a,rfl⟩:=d;rfl
 |rp z=>simp only[VR]at d;obtain⟨_,_,_,_,_,_,rfl,_⟩:=d;rfl
 |ptr o g=>simp only[VR]at d;obtain⟨_,_,_,_,rfl⟩:=d;rfl
 |cs o g=>simp only[VR]at d;obtain⟨_,_,_,_,rfl⟩:=d;rfl
 |el o u i g=>simp only[VR]at d;obtain⟨_,_,_,_,_,_,_,rfl⟩:=d;rfl
 |buf o=>simp only[VR]at d;obtain⟨_,_,rfl,_,_,_,e⟩:=d;rw[e];rfl
 |mp o=>simp only[VR]at d;obtain⟨_,_,_,_,rfl⟩:=d;rfl
 |np o=>simp only[VR]at d;rcases d with rfl|⟨_,_,_,_,rfl⟩ <;> rfl
 |sd o=>simp only[VR]at d;obtain⟨_,_,_,_,_,_,rfl⟩:=d;rfl
 |vw o u a n=>simp only[VR]at d;obtain⟨_,_,_,_,_,_,_,_,_,rfl,_⟩:=d;rfl
 |bufc o B=>simp only[VR]at d;obtain⟨_,_,_,_,_,e,rfl,_⟩:=d;rw[e];rfl
 |nv o i=>simp only[VR]at d;obtain⟨_,_,_,_,_,_,rfl⟩:=d;rfl
 |ne o u i j g=>simp only[VR]at d;obtain⟨_,_,_,_,_,_,rfl⟩:=d;rfl
 |fn f t=>simp only[VR]at d;obtain⟨_,rfl,_⟩:=d;rfl
 |agg cs=>exact absurd rfl (w cs)
 |tup t=>simp[Va.isCell]at m
 |nil=>simp only[VR]at d;subst d;rfl
 |cnd x y=>simp[Va.isCell]at m
 |raw x=>simp only[VR]at d;subst d;simpa [Va.isCell]using m
 |er b=>simp only[VR]at d;rcases d with⟨_,rfl⟩|⟨_,_,_,rfl⟩ <;> rfl
 |top=>simp[Va.isCell]at m
def tI:List Va->Prop
 |[]=>True
 |.agg _::_=>False
 |v::a=>v.isCell=true/\tI a
theorem MP{h:Array Obj}:∀{cs:List Value} {vs:List Va},VRs K h G cs vs->tI vs->∀c∈cs,c.oneCell'=true
 |cs,[],H,_=>by simp only[VRs]at H;subst H;simp
 |cs,v::vs,H,a=>by
  simp only[VRs]at H;obtain⟨c,e,rfl,f,g⟩:=H;have b:v.isCell=true/\(∀l,v≠.agg l)/\tI vs:=by cases v <;> simp only[tI]at a <;> first|exact⟨a.1,by simp,a.2⟩|exact a.elim
  intro i d;rcases mem_cons.1 d with rfl|j
  .exact f.one b.1 b.2.1
  .exact MP g b.2.2 i j
end
section
variable {P:Program} (w:World)
structure ov(P:Program)(w:World)(size:Nat)(x:Value)(m:Nat)(news:List Value):Prop where
 len:∀w',(Builtin.lenOf x).run P w'=.ok m w'
 cells:∀w',w'.heap=w.heap->(Builtin.firstCells size m x).run P w'=.ok news.toArray w'
 size:news.length=m*size
theorem WV{t u ty e:TypeId}{i:TypeInfo}{z:Value}(p:P.underlying t=some (.slice e)){d:TypeDesc}(q:P.underlying u=some d)(r:(∃k,d=.slice k)∨d=.string)(hi:P.info? e=some i)(s:i.zero=some z)
  {c:Option Addr} {a b m:Nat} {x:Value} {f g:List Value} (v:ov P w i.size (.slice c a b) a f) (n:ov P w i.size x m g)
  (C:b<a+m) (y:a+m<=9223372036854775807) (o:Builtin.nextslicecap (a+m) b*i.bytes<=281474976710656) :
  (Builtin.append_ #[t,u] ty #[.slice c a b,x]).run P w =
   .ok (.slice (some ⟨w.heap.size,0,none⟩) (a+m) (grownCap w (a+m) b e))
    (w.drew.alloc (.cells (f.toArray++g.toArray++Builtin.zeroCells z.cells (grownCap w (a+m) b e-(a+m))) e)):=by
 have A:¬ (a+m<=b):=by omega
 have h:¬ (9223372036854775807<((a:Int)+(m:Int))):=by omega
 have j:¬ (281474976710656<Builtin.nextslicecap (a+m) b*i.bytes):=by omega
 have B:=n.cells w.drew rfl;have l:=v.cells w.drew rfl;rcases r with⟨k,rfl⟩|rfl;all_goals
  simp[Builtin.append_,run_underlying p,run_underlying q,sizeOf,typeInfo,zeroValue,hi,s,n.len,A,h,j,Question.forced,B,l,newRow,grownCap];congr 2;apply Array.ext';simp[append_assoc]
theorem Zf{t u ty e:TypeId}{i:TypeInfo}(s:P.underlying t=some (.slice e)){d:TypeDesc}(v:P.underlying u=some d)(y:(∃k,d=.slice k)∨d=.string)(hi:P.info? e=some i)
  {g a c m:Nat} {x:Value} {f:Array Value} {o:Nat×Nat} {b:List Value} (p:w.heap[g]?=some (.cells f e o)) (q:∀j,a*i.size<=j->j<f.size->¬ (o.1<=j/\j<o.2)) (r:ov P w i.size x m b) (z:∀u∈b,u.oneCell'=true)
  (h:a+m<=c) (l:a*i.size+b.length<=f.size) :
  (Builtin.append_ #[t,u] ty #[.slice (some ⟨g,0,none⟩) a c,x]).run P w=.ok (.slice (some ⟨g,0,none⟩) (a+m) c) (w.setRow g (fh f.toList (a*i.size) b).toArray):=by
 have A:=r.cells w rfl;have n:=Xp (P:=P) g (a*i.size) e o b 0 f w p (by simpa using q) (by simpa using l) z;simp only[Nat.add_zero]at n;rcases y with⟨k,rfl⟩|rfl;all_goals
  simp[Builtin.append_,run_underlying s,run_underlying v,sizeOf,typeInfo,hi,r.len,h,A,mi,n]
theorem Np{t u ty e:TypeId}{i:TypeInfo}(f:P.underlying t=some (.slice e)){d:TypeDesc}(g:P.underlying u=some d)(h:(∃k,d=.slice k)∨d=.string)(hi:P.info? e=some i)
  {x:Value} {b:List Value} (c:ov P w i.size x 0 b) (a:Option Addr) :
  (Builtin.append_ #[t,u] ty #[.slice a 0 0,x]).run P w=.ok (.slice a 0 0) w:=by
 have j:=c.cells w rfl;have l:b=[]:=by have:=c.size;simpa using this
 subst l;rcases h with⟨k,rfl⟩|rfl;all_goals
  cases a <;> simp[Builtin.append_,run_underlying f,run_underlying g,sizeOf,typeInfo,hi,c.len,j,storeCells]
end
theorem tj:∀(l:List Value) (n:Nat) (a:List Value),n+a.length<=l.length->fh l n a=l.take n++a++l.drop (n+a.length)
 |l,0,a,_=>by simp[fh]
 |x::l,n+1,a,h=>by
  simp only[fh];rw[tj l n a (by simp at h;omega)];simp[Nat.add_right_comm]
 |[],n+1,a,h=>by simp at h
section
variable {K:Nat->Prop} {G:List Gh} {H:List Ob} {w:World} {P:Program}
theorem lY(hKs:∀b,K b->b<w.heap.size){T:TypeId}{V:Nat}{g:List (List Dt)}{M:Option Nat}{C:Value}(N:∀b,M=some b->b<w.heap.size/\¬ K b)(ho:bufR K w.heap M C T V g)
  {t u ty:TypeId} {i:TypeInfo} {z:Value} (ht:P.underlying t=some (.slice T)) {d:TypeDesc} (hu:P.underlying u=some d) (hd:(∃k,d=.slice k)∨d=.string) (hi:P.info? T=some i) (hsz:i.size=V) (hz:i.zero=some z) (hzs:z.cells.size=V)
  {x:Value} {m:Nat} {l:List Value} (hx:ov P w i.size x m l) (h1:∀u∈l,u.oneCell'=true) {f:List (List Dt)} (hr:DRss K w.heap V l f) (hm:f.length=m) (E:(g++f).length<=eC) (hby:(g++f).length*i.bytes<=140737488355328) :
  ∃O q W,(Builtin.append_ #[t,u] ty #[C,x]).run P w=.ok O q/\(∃a n c,O=.slice a n c)/\q.os=w.os/\Tp w q/\q.output=w.output/\w.heap.size<=q.heap.size /\
   (∀i,i<w.heap.size->M≠some i->q.heap[i]?=w.heap[i]?)/\(∀b,W=some b->b<q.heap.size/\(M=some b∨w.heap.size<=b))/\bufR K q.heap W O T V (g++f):=by
 subst hsz;subst hm;have X:g.length+f.length<=9223372036854775807:=by simp only[length_append,eC]at E;omega
 have hlm:g.length+f.length<=maxLen:=by simp only[maxLen];omega
 obtain⟨hlr,Q,I,hh⟩:=ho;have F:=I.length;have J:=hx.size;have hK:∀b,K b->b<w.heap.size:=hKs
 -- where it grows
 have G:∀(L:Option Addr) (p:Nat),C=.slice L g.length p->ov P w i.size C g.length Q->p<g.length+f.length ->
   ∃O q W,(Builtin.append_ #[t,u] ty #[C,x]).run P w=.ok O q/\(∃a n c,O=.slice a n c)/\q.os=w.os/\Tp w q/\q.output=w.output/\w.heap.size<=q.heap.size /\
    (∀i,i<w.heap.size->M≠some i->q.heap[i]?=w.heap[i]?)/\(∀b,W=some b->b<q.heap.size/\(M=some b∨w.heap.size<=b))/\bufR K q.heap W O T i.size (g++f):=by
  intro L p o B Y;have r:=growslice_fits (bytes:=i.bytes) Y (by simpa using hby);rw[o]at B;have H:=WV (P:=P) w (ty:=ty) ht hu hd hi hz B hx Y X r;have hge:=grownCap_ge w (g.length+f.length) p T;have hcm:=grownCap_le_maxLen w (g.length+f.length) p T hlm;refine⟨_,w.drew.alloc (.cells (Q.toArray++l.toArray++Builtin.zeroCells z.cells (grownCap w (g.length+f.length) p T-(g.length+f.length))) T),some w.heap.size,by rw[o];exact H,⟨_,_,_,rfl⟩,rfl,⟨rfl,fun _=>Nat.le_succ _⟩,rfl,by simp,fun k hk _=>heap_alloc_old w.drew _ hk,fun b hb=>?_,?_⟩
  .cases hb;exact⟨by simp,.inr (Nat.le_refl _)⟩
  .refine⟨E,Q++l,?_,.inr ⟨w.heap.size,_,_,(0,0),by rw[length_append],rfl,heap_alloc_new w.drew _,?_,by rw[length_append];exact hge,hcm,?_,?_⟩⟩
   .exact DRss.mono ⟨fun _ h=>h,fun b hb=>heap_alloc_old w.drew _ (hK b hb)⟩ _ _ _ (I.append hr)
   .exact .inl rfl
   .simp only[Array.size_append,size_toArray,size_zeroCells,hzs,F,J,<-Nat.add_mul];exact Nat.mul_le_mul_right _ (by omega)
   .simp only[Array.toList_append,append_assoc];rw[<-append_assoc];have:(Q++l).length=(g++f).length*i.size:=by rw[length_append,length_append,F,J,Nat.add_mul]
    rw[<-this];exact take_left
 rcases hh with⟨o,R,D⟩|⟨b,p,s,fr,o,D,hb,Z,hle,hcap,hcs,y⟩
 .obtain⟨ad,o⟩:=o;subst R;have hx0:Q=[]:=by simpa [DRss]using I
  subst hx0;rcases Nat.eq_zero_or_pos f.length with h0|hp
  .have R:f=[]:=length_eq_zero_iff.1 h0;subst R;refine⟨.slice ad 0 0,w,M,by rw[o];exact Np (P:=P) w ht hu hd hi hx ad,⟨_,_,_,rfl⟩,rfl,⟨rfl,fun _=>Nat.le_refl _⟩,rfl,Nat.le_refl _,fun _ _ _=>rfl,fun b hb=>⟨(N b hb).1,.inl hb⟩,?_⟩;exact⟨by simp,[],by simp[DRss],.inl ⟨⟨ad,rfl⟩,rfl,D⟩⟩
  .have B:ov P w i.size C 0 []:=by
    rw[o];exact⟨fun _=>rfl,fun _ _=>by cases ad <;> simp[Builtin.firstCells,loadCells,loadCellsFrom],by simp⟩
   exact G ad 0 (by simpa using o) (by simpa using B) (by simpa using hp)
 .by_cases A:g.length+f.length<=p
  .have r:g.length*i.size+l.length<=s.size:=by rw[J,<-Nat.add_mul];exact Nat.le_trans (Nat.mul_le_mul_right _ A) hcs
   have H:=Zf (P:=P) w (ty:=ty) ht hu hd hi hb (fun j _ U=>Z.out j U) hx h1 A r;refine⟨_,w.setRow b (fh s.toList (g.length*i.size) l).toArray,some b,by rw[o];exact H,⟨_,_,_,rfl⟩,rfl,⟨rfl,fun _=>Nat.le_refl _⟩,rfl,by simp,fun k _ hk=>setRow_other w b k _ (fun e=>hk (by rw[D,e])),fun b' S=>?_,?_⟩
   .cases S;exact⟨by rw[setRow_size];exact(N _ D).1,.inl D⟩
   .have hcl:(fh s.toList (g.length*i.size) l).length=s.size:=by rw[Lx _ _ _ (by simpa using r)];simp
    refine⟨E,Q++l,?_,.inr ⟨b,p,_,fr,by rw[length_append],rfl,setRow_heap w b s _ T fr hb,?_,by rw[length_append];exact A,hcap,?_,?_⟩⟩
    .exact DRss.mono ⟨fun _ h=>h,fun b' S=>setRow_other w b b' _ (fun e=>(N b D).2 (e ▸ S))⟩ _ _ _ (I.append hr)
    .simp only[size_toArray,hcl];exact Z
    .simp only[size_toArray,hcl];exact hcs
    .simp only;have hl2:(s.toList.take (g.length*i.size)++l).length=(g++f).length*i.size:=by rw[y,length_append,length_append,F,J,Nat.add_mul]
     rw[tj _ _ _ (by simpa using r),<-hl2,take_left,y]
  .refine G (some ⟨b,0,none⟩) p o ?_ (by omega);rw[o];refine⟨fun _=>rfl,fun q hw'=>?_,F⟩;refine run_firstCells_some (P:=P) q i.size g.length _ _ _ Q F (fun j v U=>?_);rw[mi,cell_of_row q b (0+j) s T fr (by rw[hw'];exact hb),Nat.zero_add];rw[<-y,getElem?_take]at U;split at U
   .rw[<-Array.getElem?_toList];exact U
   .cases U
theorem Kq(B:St K G H w){o:Nat}{T:TypeId}{q:Nat}{rows:List (List Dt)}{g:Gh}(D:G[o]?=some g)(E:ObR K w.heap G g (.buf T q rows))
  {t u ty:TypeId} {i:TypeInfo} {z:Value} (F:P.underlying t=some (.slice T)) {d:TypeDesc} (I:P.underlying u=some d) (J:(∃k,d=.slice k)∨d=.string) (hi:P.info? T=some i) (v:i.size=q) (L:i.zero=some z) (y:z.cells.size=q)
  {x:Value} {m:Nat} {j:List Value} (M:ov P w i.size x m j) (N:∀u∈j,u.oneCell'=true) {f:List (List Dt)} (O:DRss K w.heap q j f) (Q:f.length=m) (r:(rows++f).length<=eC) (A:(rows++f).length*i.bytes<=140737488355328) :
  ∃p l s,(Builtin.append_ #[t,u] ty #[g.sv,x]).run P w=.ok p l/\s.sv=p/\(∃a n c,p=.slice a n c)/\l.os=w.os/\Tp w l/\l.output=w.output/\w.heap.size<=l.heap.size /\
   (∀i,i<w.heap.size->¬ own g i->l.heap[i]?=w.heap[i]?)/\(∀b,own s b->b<l.heap.size/\(own g b∨w.heap.size<=b))/\ObR K l.heap (G.set o s) s (.buf T q (rows++f)):=by
 obtain⟨p,l,R,S,U,V,W,X,Y,Z,C,e9⟩:=lY (P:=P) (w:=w) B.kb (fun b hb=>B.gb o g b D hb) E (t:=t) (u:=u) (ty:=ty) F I J hi v L y M N O Q r A;exact⟨p,l,⟨R,p,[]⟩,S,rfl,U,V,W,X,Y,fun i hi h=>Z i hi fun e=>h (.inl e),fun b hb=>(by
  rcases hb with hb|⟨_,hb,_⟩
  .exact⟨(C b hb).1,(C b hb).2.imp .inl id⟩
  .cases hb),e9⟩
theorem sZ(hS:St K G H w){o:Nat}{T:TypeId}{l:List UInt8}{g:Gh}(hg:G[o]?=some g)(ho:ObR K w.heap G g (.sb T l))
  {t u ty:TypeId} {i:TypeInfo} {z:Value} (ht:P.underlying t=some (.slice T)) {d:TypeDesc} (R:P.underlying u=some d) (hd:(∃k,d=.slice k)∨d=.string) (hi:P.info? T=some i) (D:i.size=1) (hz:i.zero=some z) (hzs:z.cells.size=1)
  {x:Value} {f:List UInt8} (hx:ov P w i.size x f.length (f.map me)) (E:(l++f).length<=eC) (hby:(l++f).length*i.bytes<=140737488355328) :
  ∃N q L,(Builtin.append_ #[t,u] ty #[g.sv,x]).run P w=.ok N q/\L.sv=N/\(∃a n c,N=.slice a n c)/\q.os=w.os/\Tp w q/\q.output=w.output/\w.heap.size<=q.heap.size /\
   (∀i,i<w.heap.size->¬ own g i->q.heap[i]?=w.heap[i]?)/\(∀b,own L b->b<q.heap.size/\(own g b∨w.heap.size<=b))/\ObR K q.heap (G.set o L) L (.sb T (l++f)):=by
 have S:l.length+f.length<=9223372036854775807:=by simp only[length_append,eC]at E;omega
 have hlm:l.length+f.length<=maxLen:=by simp only[maxLen];omega
 have h1:∀u∈f.map me,u.oneCell'=true:=by intro u R;obtain⟨y,_,rfl⟩:=mem_map.1 R;rfl
 obtain⟨hlr,hh⟩:=ho
 -- where it grows
 have F:∀(M:Option Addr) (m:Nat),g.sv=.slice M l.length m->ov P w i.size g.sv l.length (l.map me)->m<l.length+f.length ->
   ∃N q L,(Builtin.append_ #[t,u] ty #[g.sv,x]).run P w=.ok N q/\L.sv=N/\(∃a n c,N=.slice a n c)/\q.os=w.os/\Tp w q/\q.output=w.output/\w.heap.size<=q.heap.size /\
    (∀i,i<w.heap.size->¬ own g i->q.heap[i]?=w.heap[i]?)/\(∀b,own L b->b<q.heap.size/\(own g b∨w.heap.size<=b))/\ObR K q.heap (G.set o L) L (.sb T (l++f)):=by
  intro M m p C U;have r:=growslice_fits (bytes:=i.bytes) U (by simpa using hby);rw[p]at C;have I:=WV (P:=P) w (ty:=ty) ht R hd hi hz C hx U S r;have hge:=grownCap_ge w (l.length+f.length) m T;have hcm:=grownCap_le_maxLen w (l.length+f.length) m T hlm;refine⟨_,w.drew.alloc (.cells ((l.map me).toArray++(f.map me).toArray++Builtin.zeroCells z.cells (grownCap w (l.length+f.length) m T-(l.length+f.length))) T),⟨some w.heap.size,.slice (some ⟨w.heap.size,0,none⟩) (l.length+f.length) (grownCap w (l.length+f.length) m T),[]⟩,by rw[p];exact I,rfl,⟨_,_,_,rfl⟩,rfl,⟨rfl,fun _=>Nat.le_succ _⟩,rfl,by simp,fun k hk _=>heap_alloc_old w.drew _ hk,fun b hb=>?_,?_⟩
  .obtain rfl:=xB hb;exact⟨by simp,.inr (Nat.le_refl _)⟩
  .refine⟨E,.inr ⟨w.heap.size,_,_,(0,0),by rw[length_append],rfl,heap_alloc_new w.drew _,.inl rfl,by rw[length_append];exact hge,by omega,hcm,?_,?_⟩⟩
   .simp only[Array.size_append,size_toArray,size_zeroCells,hzs,length_map];omega
   .simp only[Array.toList_append,append_assoc];rw[<-append_assoc,map_append];exact take_left' (by simp)
 rcases hh with⟨p,O,J⟩|⟨b,m,s,V,p,J,hb,W,hle,hc0,X,Y,A⟩
 .subst O;rcases Nat.eq_zero_or_pos f.length with h0|hp
  .have O:f=[]:=length_eq_zero_iff.1 h0;subst O;refine⟨.slice none 0 0,w,g,by rw[p];exact Np (P:=P) w ht R hd hi hx none,p,⟨_,_,_,rfl⟩,rfl,⟨rfl,fun _=>Nat.le_refl _⟩,rfl,Nat.le_refl _,fun _ _ _=>rfl,fun b hb=>⟨(hS.gbo o g b hg hb).1,.inl hb⟩,?_⟩;exact⟨by simp,.inl ⟨p,rfl,J⟩⟩
  .have C:ov P w i.size g.sv 0 []:=by
    rw[p];exact⟨fun _=>rfl,fun _ _=>by simp[Builtin.firstCells],by simp⟩
   exact F none 0 (by simpa using p) (by simpa using C) (by simpa using hp)
 .by_cases B:l.length+f.length<=m
  .have r:l.length*i.size+(f.map me).length<=s.size:=by rw[D,Y];simpa using B
   have Z:∀j,l.length*i.size<=j->j<s.size->¬ (V.1<=j/\j<V.2):=by
    intro j Q _ ⟨h1,h2⟩;rw[D]at Q;rcases W with h|⟨h,h'⟩ <;> omega
   have I:=Zf (P:=P) w (ty:=ty) ht R hd hi hb Z hx h1 B r;refine⟨_,w.setRow b (fh s.toList (l.length*i.size) (f.map me)).toArray,⟨some b,.slice (some ⟨b,0,none⟩) (l.length+f.length) m,[]⟩,by rw[p];exact I,rfl,⟨_,_,_,rfl⟩,rfl,⟨rfl,fun _=>Nat.le_refl _⟩,rfl,by simp,fun k _ hk=>setRow_other w b k _ (fun e=>hk (.inl (by rw[J,e]))),fun b' hb'=>?_,?_⟩
   .obtain rfl:=xB hb';exact⟨by rw[setRow_size];exact(hS.gb o g _ hg J).1,.inl (.inl J)⟩
   .have hcl:(fh s.toList (l.length*i.size) (f.map me)).length=s.size:=by rw[Lx _ _ _ (by simpa using r)];simp
    refine⟨E,.inr ⟨b,m,_,V,by rw[length_append],rfl,setRow_heap w b s _ T V hb,?_,by rw[length_append];exact B,hc0,X,?_,?_⟩⟩
    .rcases W with h|⟨h,h'⟩
     .exact .inl h
     .exact .inr ⟨h,by rw[length_append];omega⟩
    .simp only[size_toArray,hcl];exact Y
    .simp only;have hl2:(s.toList.take (l.length*i.size)++f.map me).length=(l++f).length:=by rw[D,Nat.mul_one,A];simp
     rw[tj _ _ _ (by simpa using r),<-hl2,take_left,D,Nat.mul_one,A,map_append]
  .refine F (some ⟨b,0,none⟩) m p ?_ (by omega);rw[p];refine⟨fun _=>rfl,fun q hw'=>?_,by rw[D];simp⟩;refine run_firstCells_some (P:=P) q i.size l.length _ _ _ (l.map me) (by rw[D];simp) (fun j v Q=>?_);rw[mi,cell_of_row q b (0+j) s T V (by rw[hw'];exact hb),Nat.zero_add];rw[<-A,getElem?_take]at Q;split at Q
   .rw[<-Array.getElem?_toList];exact Q
   .cases Q
end
structure Ev where
 v:Va
 E:ep
 H:List Ob
 ok:Prop
def fg:Ev:=⟨.top,[],[],False⟩
def fX(f:Nat->Bool):ep->ep
 |[]=>[]
 |(k,v)::E=>(k,v.prune f)::fX f E
def fG(f:Nat->Bool):List Ob->List Ob
 |[]=>[]
 |x::H=>x.prune f::fG f H
theorem oI(f:Nat->Bool):∀H:List Ob,fG f H=H.map (Ob.prune f)
 |[]=>rfl
 |x::H=>by simp[fG,oI f H]
theorem rG(f:Nat->Bool):∀(E:ep) (m:Nat),eM (fX f E) m=(eM E m).prune f
 |[],m=>by simp[fX,eM,Va.prune]
 |(k,v)::E,m=>by
  simp only[fX,eM];split
  .rfl
  .exact rG f E m
def fb:List Va->Option (List Dt)
 |[]=>some []
 |.p d::l=>match fb l with
  |some a=>some (d::a)
  |none=>none
 |.nils::l=>match fb l with
  |some a=>some (.l []::a)
  |none=>none
 |.full b::l=>match fb l with
  |some a=>some (.l b::a)
  |none=>none
 |_::_=>none
def ie:List Dt->Nat->List Dt->List Dt
 |l,0,a=>a++l.drop a.length
 |x::l,n+1,a=>x::ie l n a
 |[],_+1,_=>[]
def AL(b:Nat):List (List Dt)->List (Nat×Va)->Option (List (List Dt))
 |a,[]=>some a
 |a,(i,v)::c=>match fb (iy v)with
  |some d=>if v.isCell=true/\d.length=b/\i<a.length then AL b (a.set i d) c else none
  |none=>none
def wI(k:IntKind):List Value->Bool
 |[]=>true
 |.int a n::l=>decide (a=k)&&decide (n=0)&&wI k l
 |_::_=>false
def wA(P:Program)(a:Ti):Option (IntKind×Nat):=match a.kind with
 |.arr n e _ false=>match zo P e with
  |.int k=>bif decide (8<n)then some (k,n)else none
  |_=>none
 |_=>none
def Av(P:Program)(E:ep)(H:List Ob)(t:TypeId):Ev:=match ex P t with
 |some a=>match wA P a with
  |some (k,n)=>⟨.ptr H.length 0,E,H++[.buf t 1 (List.replicate n [.i k 0])],wI k a.zero=true/\a.zero.length=n/\n<=eC⟩
  |none=>⟨.ptr H.length 0,E,H++[.cells t (a.zero.map cv)],oG a.zero⟩
 |none=>fg
def n9(E:ep)(H:List Ob)(t:TypeId)(x:Operand):Ev:=⟨.ptr H.length 0,E,H++[.cells t (iy (opnd E x))],opOk true E x/\(opnd E x).isCell=true⟩
def uW(P:Program)(e:TypeId)(n:Nat):Bool:=match zo P e with
 |.int .u8=>decide (3<n)
 |_=>false
def pN:Va->Bool
 |.agg _=>true
 |_=>false
def rZ:Nat->List (Nat×Va)->Option (List Va)
 |_,[]=>some []
 |i,(j,v)::r=>bif decide (j=i)&&(v.isCell&&!pN v)then(match rZ (i+1) r with
  |some a=>some (v::a)
  |none=>none)else none
def Rj(P:Program)(t:TypeId):Bool:=match zo P t with
 |.ptr _=>true
 |_=>false
def ib(P:Program)(E:ep)(H:List Ob)(t:TypeId)(n:Nat)(ps:List (Nat×Operand)):Ev:=match zo P t with
 |.slice e a _ c=>match rZ 0 (partsV E ps)with
  |some b=>⟨.cs H.length n,E,H++[.cells e b],partsOk true E ps/\c.length=a/\a=1/\0<n/\n*a<=16777216/\b.length=n⟩
  |none=>fg
 |_=>fg
def yi(P:Program)(t:TypeId):Bool:=match zo P t with
 |.slice e _ _ _=>Rj P e
 |_=>false
def n7(P:Program)(E:ep)(H:List Ob)(t:TypeId)(n:Nat)(ps:List (Nat×Operand)):Ev:=bif yi P t then ib P E H t n ps else match zo P t with
 |.slice e a _ c=>match fb (c.map cv)with
  |some z=>match AL a (List.replicate n z) (partsV E ps)with
   |some b=>bif uW P e n then⟨.buf H.length,E,H++[.buf e a b],partsOk true E ps/\oG c/\c.length=a/\0<a/\n*a<=16777216/\n<=eC⟩else⟨.full b,E,H,partsOk true E ps/\oG c/\c.length=a/\0<a/\n*a<=16777216/\n<=eC⟩
   |none=>fg
  |none=>fg
 |_=>fg
def KH(d:Nat)(b:List Dt)(a:Nat)(c:List Dt):List Dt:=bif a == 0&&c.length == d then c else ie b a c
theorem YQ:∀{row ds:List Dt},ds.length=row.length->ie row 0 ds=ds
 |[],[],_=>by simp[ie]
 |x::row,d::ds,h=>by
  have:=YQ (row:=row) (ds:=ds) (by simpa using h);simp[ie]at this|-;first|exact this|simp_all
 |[],_::_,h=>by simp at h
 |_::_,[],h=>by simp at h
theorem V6{b:Nat}{a ds:List Dt}{off:Nat}(h:a.length=b):KH b a off ds=ie a off ds:=by
 unfold KH;cases c:(off == 0&&ds.length == b)
 .rfl
 .simp only[Bool.and_eq_true,beq_iff_eq]at c;obtain⟨rfl,d⟩:=c;rw[YQ (by omega)];rfl
def AA(P:Program)(E:ep)(H:List Ob)(t:TypeId)(x y:Va):Ev:=match ex P t with
 |some f=>match x with
  |.ptr o a=>match eB H o with
   |.cells T g=>⟨.top,E,H.set o (.cells T (setR g a (iy y))),y.isCell=true/\tI (iy y)/\(iy y).length=f.size/\a+(iy y).length<=g.length⟩
   |_=>fg
  |.el o d i a=>match rC H o with
   |some (T,c,b,fx)=>match fb (iy y)with
    |some e=>⟨.top,E,H.set o (vf fx T c (b.set i (KH d (b.getD i []) a e))),y.isCell=true/\tI (iy y)/\e.length=f.size/\d=c/\i<b.length/\a+e.length<=d⟩
    |none=>fg
   |none=>fg
  |_=>fg
 |none=>fg
def hQ(P:Program)(E:ep)(H:List Ob)(s d:TypeId)(o:Nat):Ev:=match zo P s,zo P d,eB H o with
 |.slice _ _ _ _,.slice e _ _ _,.buf _ _ a=>match zo P e with
  |.int .u8=>⟨.buf o,E,H,s=d/\0<a.length⟩
  |_=>fg
 |_,_,_=>fg
def AE(P:Program)(E:ep)(H:List Ob)(s d:TypeId)(x:Va):Ev:=match zo P s,zo P d,x with
 |.str,.slice e a _ _,.p (.s l)=>match zo P e with
  |.int .u8=>⟨.buf H.length,E,H++[.buf e 1 (bR l)],a=1⟩
  |_=>fg
 |_,_,_=>fg
def Ax(P:Program)(E:ep)(H:List Ob)(s d:TypeId)(x:Va):Ev:=match x with
 |.buf o=>hQ P E H s d o
 |x=>AE P E H s d x
def hU(P:Program)(E:ep)(H:List Ob)(t:TypeId)(l c:Va):Ev:=match zo P t with
 |.slice e a d b=>match fb (b.map cv),l,c with
  |some z,.p (.i _ n),.p (.i _ m)=>⟨.buf H.length,E,H++[.buf e a (List.replicate n.toNat z)],oG b/\b.length=a/\0<a/\0<=n/\n<=m/\m<=eC/\d<=512⟩
  |_,_,_=>fg
 |_=>fg
def KU(H:List Ob):Va->Option (List (List Dt))
 |.p (.s l)=>some (bR l)
 |x=>BF H x
def tF(P:Program)(u:TypeId)(a:Nat)(e:TypeId)(x:Va)(rows:List (List Dt)):Prop:=match x with
 |.p (.s _)=>zo P u=.str/\a=1/\zo P e=.int .u8
 |_=>fe a rows/\match zo P u with
  |.slice _ _ _ _=>True
  |_=>False
def iT:List (List Dt)->Nat->Prop
 |[],_=>True
 |_::_,n=>0<n
def Bo:Va->Bool
 |.full _=>true
 |_=>false
def Ke(P:Program)(e:TypeId)(x:Va):Bool:=match zo P e with
 |.int .i64=>Bo x
 |_=>false
def oe(P:Program)(g:Nat->Bool)(E:ep)(H:List Ob)(t u:TypeId)(h x:Va):Ev:=match zo P t with
 |.slice e c d f=>match KU H x with
  |some a=>match h with
   |.buf o=>match eB H o with
    |.buf T i b=>⟨.buf o,fX (· != o) E,(fG (· != o) H).set o (.buf T i (b++a)),g o=false/\T=e/\i=c/\f.length=c/\d<=512/\(b++a).length<=eC/\tF P u c e x a⟩
    |.sb T j=>⟨.buf o,fX (· != o) E,(fG (· != o) H).set o (.sb T (j++gD a)),g o=false/\T=e/\c=1/\f.length=1/\d<=512/\(j++gD a).length<=eC/\fK a/\tF P u 1 e x a⟩
    |_=>fg
   |.nils=>⟨.buf H.length,E,H++[.buf e c a],g H.length=false/\f.length=c/\d<=512/\a.length<=eC/\tF P u c e x a⟩
   |.full b=>match Ke P e x with
    |true=>⟨.p (.l (b++a)),E,H,f.length=c/\d<=512/\(b++a).length<=eC/\fe c b/\iT b a.length/\tF P u c e x a⟩
    |false=>⟨.buf H.length,E,H++[.buf e c (b++a)],g H.length=false/\f.length=c/\d<=512/\(b++a).length<=eC/\fe c b/\iT b a.length/\tF P u c e x a⟩
   |_=>fg
  |none=>fg
 |_=>fg
def TI:Va->Bool
 |.agg _=>true
 |_=>false
def m8(P:Program)(E:ep)(H:List Ob)(t:TypeId):Ev:=match zo P t with
 |.map _ a=>⟨.mp H.length,E,H++[.mp (ev P a) []],True⟩
 |_=>fg
def jy(P:Program)(E:ep)(H:List Ob)(t:TypeId)(m k v:Va):Ev:=match zo P t,m,nn k with
 |.map e _,.mp o,some d=>match eB H o with
  |.mp b c=>match fb (iy v)with
   |some a=>⟨.top,E,H.set o (.mp b (fU c d a)),iu (jk P e) c/\js (jk P e) d/\v.isCell=true/\TI v=b/\(b=false->a.length=1)/\(fU c d a).length<=eC⟩
   |none=>fg
  |_=>fg
 |_,_,_=>fg
def nS(P:Program)(E:ep)(H:List Ob)(t _u:TypeId)(m k:Va):Ev:=match zo P t,m,nn k with
 |.map b _,.mp o,some d=>match eB H o with
  |.mp c a=>⟨.top,E,H.set o (.mp c (iC a d)),iu (jk P b) a/\js (jk P b) d⟩
  |.mpb c a e f=>⟨.top,E,H.set o (.mpb c (iC a d) (oa a e d) f),iu (jk P b) a/\js (jk P b) d⟩
  |_=>fg
 |_,_,_=>fg
def Rh(H:List Ob):Va->Pv
 |.buf o=>match eB H o with
  |.sb _ _=>⟨.sd o,True⟩
  |_=>eA
 |_=>eA
def XH(P:Program)(t T:TypeId):Bool:=match P.underlying t with
 |some (.pointer e)=>decide (e=T)&&decide (P.cellsOf T=1)
 |_=>false
def PI(P:Program)(H:List Ob)(t:TypeId):Va->Va->Pv
 |.sd o,.p (.i k n)=>match eB H o with
  |.sb T a=>⟨.p (.s a),XH P t T=true/\k=.i64/\n=a.length⟩
  |_=>eA
 |_,_=>eA
def kJ(P:Program)(a:Nat->Bool)(E:ep)(H:List Ob):Op->Ev
 |.alloc t=>Av P E H t
 |.box t x=>n9 E H t x
 |.buildSlice t n b=>n7 P E H t n b.toList
 |.store t x y=>let r:=AA P E H t (opnd E x) (opnd E y);⟨r.v,r.E,r.H,opOk true E x/\opOk true E y/\r.ok⟩
 |.convert s d x=>let r:=Ax P E H s d (opnd E x);⟨r.v,r.E,r.H,opOk true E x/\r.ok⟩
 |.makeSlice t l c=>let r:=hU P E H t (opnd E l) (opnd E c);⟨r.v,r.E,r.H,opOk true E l/\opOk true E c/\r.ok⟩
 |.call c=>match c.callee,c.args.toList,c.argTypes.toList with
  |.builtin .append,[x,y],[t,u]=>let r:=oe P a E H t u (opnd E x) (opnd E y);⟨r.v,r.E,r.H,opOk true E x/\opOk true E y/\r.ok⟩
  |.builtin .unsafeSliceData,[x],_=>let r:=Rh H (opnd E x);⟨r.v,E,H,opOk true E x/\r.ok⟩
  |.builtin .unsafeString,[x,y],[t,_]=>let r:=PI P H t (opnd E x) (opnd E y);⟨r.v,E,H,opOk true E x/\opOk true E y/\r.ok⟩
  |.builtin .delete,[x,y],[t,u]=>let r:=nS P E H t u (opnd E x) (opnd E y);⟨r.v,r.E,r.H,opOk true E x/\opOk true E y/\r.ok⟩
  |_,_,_=>fg
 |.makeMap t r=>match r with
  |none=>m8 P E H t
  |some _=>fg
 |.mapUpdate t m k x=>let r:=jy P E H t (opnd E m) (opnd E k) (opnd E x);⟨r.v,r.E,r.H,opOk true E m/\opOk true E k/\opOk true E x/\r.ok⟩
 |.insert t m k x=>let r:=jy P E H t (opnd E m) (opnd E k) (opnd E x);⟨r.v,r.E,r.H,opOk true E m/\opOk true E k/\opOk true E x/\r.ok⟩
 |_=>fg
section
variable {K:Nat->Prop} {h:Array Obj} {G:List Gh}
theorem oE:∀{cs:List Value} {vs:List Va} {ds:List Dt},VRs K h G cs vs->fb vs=some ds->DRs K h cs ds
 |cs,[],ds,H,a=>by simp only[fb]at a;cases a;simpa [VRs,DRs]using H
 |cs,.p d::vs,ds,H,a=>by
  simp only[fb]at a;split at a
  .rename_i e f;cases a;simp only[VRs,VR]at H;obtain⟨c,b,rfl,g,i⟩:=H;simp only[DRs];exact⟨c,b,rfl,g,oE i f⟩
  .cases a
 |cs,.nils::vs,ds,H,a=>by
  simp only[fb]at a;split at a
  .rename_i e f;cases a;simp only[VRs,VR]at H;obtain⟨c,b,rfl,g,i⟩:=H;simp only[DRs,DR];exact⟨c,b,rfl,.inl ⟨⟨none,g⟩,trivial⟩,oE i f⟩
  .cases a
 |cs,.full j::vs,ds,H,a=>by
  simp only[fb]at a;split at a
  .rename_i e f;cases a;simp only[VRs,VR]at H;obtain⟨c,b,rfl,g,i⟩:=H;simp only[DRs];exact⟨c,b,rfl,g.1,oE i f⟩
  .cases a
 |cs,.rp _::_,_,_,a=>by simp[fb]at a
 |cs,.ptr _ _::_,_,_,a=>by simp[fb]at a
 |cs,.cs _ _::_,_,_,a=>by simp[fb]at a
 |cs,.el _ _ _ _::_,_,_,a=>by simp[fb]at a
 |cs,.buf _::_,_,_,a=>by simp[fb]at a
 |cs,.mp _::_,_,_,a=>by simp[fb]at a
 |cs,.np _::_,_,_,a=>by simp[fb]at a
 |cs,.sd _::_,_,_,a=>by simp[fb]at a
 |cs,.vw _ _ _ _::_,_,_,a=>by simp[fb]at a
 |cs,.bufc _ _::_,_,_,a=>by simp[fb]at a
 |cs,.fn _ _::_,_,_,a=>by simp[fb]at a
 |cs,.agg _::_,_,_,a=>by simp[fb]at a
 |cs,.tup _::_,_,_,a=>by simp[fb]at a
 |cs,.nil::_,_,_,a=>by simp[fb]at a
 |cs,.cnd _ _::_,_,_,a=>by simp[fb]at a
 |cs,.raw _::_,_,_,a=>by simp[fb]at a
 |cs,.er _::_,_,_,a=>by simp[fb]at a
 |cs,.top::_,_,_,a=>by simp[fb]at a
theorem DR.one{c:Value}{d:Dt}(a:DR K h c d):c.oneCell'=true:=VR.one (G:=[]) (v:=.p d) (by simpa only[VR]using a) (by cases d <;> first|rfl|(simp[DR]at a)) (by simp)
theorem DRs.ones:∀{cs:List Value} {a:List Dt},DRs K h cs a->∀c∈cs,c.oneCell'=true
 |cs,[],H=>by simp only[DRs]at H;subst H;simp
 |cs,d::a,H=>by
  simp only[DRs]at H;obtain⟨v,b,rfl,e,f⟩:=H;intro c g;rcases mem_cons.1 g with rfl|i
  .exact e.one
  .exact f.ones c i
theorem DRss.ones{sz:Nat}:∀{cs:List Value} {e:List (List Dt)},DRss K h sz cs e->∀c∈cs,c.oneCell'=true
 |cs,[],H=>by simp only[DRss]at H;subst H;simp
 |cs,r::e,H=>by
  simp only[DRss]at H;obtain⟨a,b,rfl,_,f,g⟩:=H;intro c i;rcases mem_append.1 i with d|d
  .exact f.ones c d
  .exact g.ones c d
theorem DRs.setR:∀{cs:List Value} {b:List Dt},DRs K h cs b->∀(n:Nat) {e:List Value} {a:List Dt},DRs K h e a->n+a.length<=b.length->DRs K h (fh cs n e) (ie b n a)
 |cs,b,H,0,e,a,f,_=>by
  simp only[fh,ie];rw[f.length];exact f.append (H.drop _)
 |cs,d::b,H,n+1,e,a,f,g=>by
  simp only[DRs]at H;obtain⟨c,i,rfl,j,k⟩:=H;simp only[fh,ie,DRs];exact⟨c,_,rfl,j,DRs.setR k n f (by simp at g;omega)⟩
 |cs,[],H,n+1,e,a,f,g=>by simp at g
theorem Lb{K:Nat->Prop}{h:Array Obj}{c:Nat}:∀{e:List Value} {b:List (List Dt)},DRss K h c e b->∀x∈b,x.length=c
 |_,[],_,x,a=>by cases a
 |_,r::b,d,x,a=>by
  simp only[DRss]at d;obtain⟨_,_,_,f,_,g⟩:=d;rcases mem_cons.1 a with rfl|a
  .exact f
  .exact Lb g x a
theorem Zg:∀(l:List Dt) (n:Nat) (a:List Dt),n+a.length<=l.length->(ie l n a).length=l.length
 |l,0,a,h=>by simp[ie];omega
 |x::l,n+1,a,h=>by simp only[ie,length_cons]at *;rw[Zg l n a (by omega)]
 |[],n+1,a,h=>by simp at h
theorem DRss.set{sz:Nat}:∀{cs:List Value} {c:List (List Dt)},DRss K h sz cs c->∀(i off:Nat) {es:List Value} {d:List Dt},DRs K h es d->i<c.length->off+d.length<=sz ->
  DRss K h sz (fh cs (i*sz+off) es) (c.set i (ie (c.getD i []) off d))
 |cs,[],H,i,off,es,d,_,hi,_=>by simp at hi
 |cs,r::c,H,0,off,es,d,f,hi,p=>by
  simp only[DRss]at H;obtain⟨a,b,rfl,m,g,l⟩:=H;have n:=g.length;have j:=f.length;simp only[Nat.zero_mul,Nat.zero_add,set_cons_zero,getD_cons_zero,DRss];refine⟨fh a off es,b,?_,?_,g.setR off f (by omega),l⟩
  .rw[tj _ _ _ (by simp;omega),tj _ _ _ (by omega),take_append_of_le_length (by omega),drop_append_of_le_length (by omega)];simp
  .rw[Zg _ _ _ (by omega),m]
 |cs,r::c,H,i+1,off,es,d,f,hi,p=>by
  simp only[DRss]at H;obtain⟨a,b,rfl,m,g,l⟩:=H;have n:=g.length;have j:=f.length;have q:=DRss.set l i off f (by simpa using hi) p;have o:=l.length;have k:i*sz+off+es.length<=b.length:=by rw[o,j];have:(i+1)*sz<=c.length*sz:=Nat.mul_le_mul_right _ (by simp at hi;omega);rw[Nat.add_mul]at this;omega
  simp only[set_cons_succ,getD_cons_succ,DRss];refine⟨a,_,?_,m,g,q⟩;have e:(i+1)*sz+off=a.length+(i*sz+off):=by rw[Nat.add_mul];omega
  rw[e,tj _ _ _ (by simp;omega),tj _ _ _ k];rw[take_append,take_of_length_le (by omega),show a.length+(i*sz+off)-a.length=i*sz+off by omega];rw[drop_append,drop_eq_nil_of_le (by omega),show a.length+(i*sz+off)+es.length-a.length=i*sz+off+es.length by omega];simp
theorem DRss.replicate{z:List Dt}{a:List Value}(b:DRs K h a z):∀n:Nat,DRss K h z.length (List.replicate n a).flatten (List.replicate n z)
 |0=>by simp[DRss]
 |n+1=>by simp only[replicate_succ,DRss,flatten_cons];exact⟨a,_,rfl,trivial,b,DRss.replicate b n⟩
end
def gz(C:Cx)(o:Oper)(a:Act)(w:World)(v:Va)(E:ep)(H:List Ob):Prop :=
 ∃c b,((execOp a.eval o).run C.P w=.ok (.value c) b∨((execOp a.eval o).run C.P w=.ok .skip b/\c=undef))/\RelV C E H c v a b
theorem rD{P:Program}{s:Sem Value}{c:Value}{w w':World}(h:s.run P w=.ok c w'):(do pure (.value (<-s)):Sem Next).run P w=.ok (.value c) w':=by simp[h]
theorem Uj{P:Program}{s:Sem Unit}{w w':World}(h:s.run P w=.ok () w'):(do s;pure .skip:Sem Next).run P w=.ok .skip w':=by simp[h]
theorem Mn.alloc{K:Nat->Prop}{w:World}(a:∀b,K b->b<w.heap.size)(o:Obj):Mn K K w.heap (w.alloc o).heap:=⟨fun _ h=>h,fun b hb=>heap_alloc_old w o (a b hb)⟩
theorem Free.zero(n:Nat):Free (0,0) n:=.inl rfl
section
variable {C:Cx} {E:ep} {H:List Ob} {a:Act} {w:World}
theorem Wy(k:Rel C E H a w){cs:List Value}{vs:List Va}{T:TypeId}(l:∀K G,iB K w.heap G a E->VRs K w.heap G cs vs) :
  RelV C E (H++[.cells T vs]) (.pointer (some ⟨w.heap.size,0,none⟩)) (.ptr H.length 0) a (w.alloc (.cells cs.toArray T)):=by
 obtain⟨K,G,n,c,h,p,q,r⟩:=k;have d:=l K G h;have i:=Mn.alloc c.kb (.cells cs.toArray T);have j:∀(o:Nat) (g:Gh),G[o]?=some g->(G++[⟨some w.heap.size,undef,[]⟩])[o]?=some g:=fun o g s=>Mg.push G _ o g rfl s;refine⟨K,G++[⟨some w.heap.size,undef,[]⟩],n.trans (Ext.push C.kp _ undef),c.push (x:=.cells T vs) ?_,fun m=>VR.grow i j _ _ (h m),p,q,fun o t=>?_,?_⟩
 .exact⟨w.heap.size,cs,rfl,heap_alloc_new w _,VRs.grow i j _ _ d⟩
 .obtain⟨e,b,f⟩:=r o t;exact⟨e,by rw[getElem?_append_left (List.getElem?_eq_some_iff.1 b).1];exact b,f⟩
 .simp only[VR];refine⟨⟨some w.heap.size,undef,[]⟩,w.heap.size,?_,rfl,rfl⟩;rw[<-c.len,getElem?_append_right (Nat.le_refl _)];simp
theorem Ki(c:Rel C E H a w)(o:Oper){t:TypeId}{x:Operand}(d:o.op=.box t x)(b:(n9 E H t x).ok):gz C o a w (n9 E H t x).v (n9 E H t x).E (n9 E H t x).H:=by
 obtain⟨e,f⟩:=b;refine⟨_,_,.inl (by simp[execOp,d,Instr.box,newVar,newRow];exact⟨rfl,rfl⟩),?_⟩;have:=Wy (T:=t) c (cs:=(a.eval x).cells.toList) (vs:=iy (opnd E x)) (fun K G g=>AO (zD g rfl x e) f);simpa [n9]using this
theorem Za{b:List Value}{a:Nat}(d:b.length=a):∀(n j:Nat),j<n*a->(List.replicate n b).flatten[j]?=b[j % a]?
 |0,j,h=>by simp at h
 |n+1,j,h=>by
  simp only[replicate_succ,flatten_cons];rcases Nat.lt_or_ge j a with c|c
  .rw[getElem?_append_left (by omega),Nat.mod_eq_of_lt c]
  .rw[getElem?_append_right (by omega),d,Za d n (j-a) (by rw[Nat.add_mul]at h;omega),<-Nat.mod_eq_sub_mod c]
theorem MX{z:Array Value}{sz:Nat}(a:z.toList.length=sz)(d:0<sz)(n:Nat):(madeCells z (n*sz)).toList=(List.replicate n z.toList).flatten:=by
 apply ext_getElem?;intro j;rcases Nat.lt_or_ge j (n*sz)with h|h
 .rw[Za a n j h];have c:j % sz<z.size:=by have:=Nat.mod_lt j d;simp at a;omega
  have b:z.size=sz:=by simpa using a
  simp only[madeCells,Array.toList_map,Array.toList_range,getElem?_map,getElem?_range h,Option.map_some,b,Array.getElem?_toList];rw[Array.getElem?_eq_getElem c,getElem!_pos z _ c]
 .rw[getElem?_eq_none (by simp[madeCells,h]),getElem?_eq_none]
  have:∀n:Nat,((List.replicate n z.toList).flatten).length=n*sz:=by
   intro n;induction n with
   |zero=>simp
   |succ n e=>rw[replicate_succ,flatten_cons,length_append,e,a,Nat.add_mul];omega
  rw[this];exact h
theorem WI{K:Nat->Prop}{h:Array Obj}{G:List Gh}{esz:Nat}:∀{e:List (Nat×Va)} {ps:List (Nat×Value)} {d:List (List Dt)} {cs:Array Value} {r:List (List Dt)},
  AL esz d e=some r->DRss K h esz cs.toList d->(ps.map (·.1)=e.map (·.1))->(∀(j:Nat) (c:Value) (v:Va),(ps[j]?.map fun x=>x.2)=some c->(e[j]?.map fun x=>x.2)=some v->VR K h G c v) ->
  ∃f,Instr.fill (fun i=>some (i*esz,esz)) cs ps=some f/\DRss K h esz f.toList r/\r.length=d.length
 |[],ps,d,cs,r,g,q,m,_=>by
  simp only[AL]at g;cases g;cases ps with
  |nil=>exact⟨cs,rfl,q,rfl⟩
  |cons a b=>simp at m
 |(i,v)::e,ps,d,cs,r,g,q,m,C=>by
  cases ps with
  |nil=>simp at m
  |cons a ps =>
   obtain⟨k,c⟩:=a;simp only[map_cons,List.cons.injEq]at m;obtain⟨rfl,m⟩:=m;simp only[AL]at g;split at g;rotate_left
   .cases g
   rename_i ds y;split at g;rotate_left
   .cases g
   rename_i n;obtain⟨o,s,hi⟩:=n;have z:=AO (C 0 c v rfl rfl) o;have t:=oE z y;have u:=t.length;have w:=q.length;simp only[Array.length_toList]at u w;obtain⟨_,D⟩:=q.get k hi;have E:k*esz+c.cells.size<=cs.size:=by rw[w,u,s];have:(k+1)*esz<=d.length*esz:=Nat.mul_le_mul_right _ hi;rw[Nat.add_mul]at this;omega
   have l:=q.set k 0 t hi (by omega);have he:ie (d.getD k []) 0 ds=ds:=by simp only[ie];rw[drop_eq_nil_of_le (by omega)];simp
   rw[he,Nat.add_zero]at l;have p:DRss K h esz (c.cells.zipIdx.foldl (fun cs (c,j)=>cs.setIfInBounds (k*esz+j) c) cs).toList (d.set k ds):=by have A:=Wm (k*esz) c.cells.toList 0 cs (by simp;omega);rw[<-Array.foldl_toList,Array.toList_zipIdx,A];exact l
   obtain⟨f,A,F,H⟩:=WI g p m (fun j c v I B=>C (j+1) c v (by simpa using I) (by simpa using B));refine⟨f,?_,F,by simpa using H⟩;simp only[Instr.fill];rw[if_neg (by simp;omega)];exact A
end
section
variable {C:Cx} {E:ep} {H:List Ob} {a:Act} {w:World}
theorem A6(w:World)(g:Nat)(cs:Array Value):∀i,i≠g->(w.setRow g cs).heap[i]?=w.heap[i]?:=fun i h=>setRow_other w g i cs h
theorem ur(hR:Rel C E H a w)(o:Oper){t:TypeId}{x y:Operand}(ho:o.op=.store t x y)(hx:opOk true E x)(hy:opOk true E y)(c:(AA C.P E H t (opnd E x) (opnd E y)).ok) :
  gz C o a w (AA C.P E H t (opnd E x) (opnd E y)).v (AA C.P E H t (opnd E x) (opnd E y)).E (AA C.P E H t (opnd E x) (opnd E y)).H:=by
 obtain⟨K,G,hX,M,hE,hd,hn,Q⟩:=hR;have r:=zD hE rfl x hx;have X:=zD hE rfl y hy;unfold AA at c|-;split at c;rotate_left
 .exact c.elim
 rename_i ti ht;split at c
 .rename_i W f R;split at c;rotate_left
  .exact c.elim
  rename_i T vs I;obtain⟨k,z,hsz,N⟩:=c;rw[R]at r;simp only[VR]at r;obtain⟨g,b,A,d,S⟩:=r;obtain⟨j,cs,Y,hb,Z⟩:=M.ob W g _ A (zy I (by simp));obtain rfl:j=b:=by rw[d]at Y;exact(Option.some.inj Y).symm
  have s:=AO X k;have J:=s.length;have hvl:=Z.length;have U:=U1 (P:=C.P) j f T (0,0) (a.eval y).cells.toList 0 cs.toArray w hb (Free.zero _) (by simp at J|-;omega) (MP s z);have l:¬ (a.eval y).cells.size≠ti.size:=by simp at J;omega
  have B:(Instr.storeAt t (a.eval x) (a.eval y)).run C.P w=.ok () (w.setRow j (fh cs (f+0) (a.eval y).cells.toList).toArray):=by simp only[S,Instr.storeAt,Instr.sureAddr,Sem.run_bind,Sem.run_pure,Result.andThen_ok,storeVar,run_sizeOf w ht,if_neg l];exact U
  refine⟨undef,_,.inr ⟨by obtain⟨dst,op,ty,pos,af,gd⟩:=o;cases ho;exact Uj B,rfl⟩,?_⟩;have D:Mn K K w.heap (w.setRow j (fh cs (f+0) (a.eval y).cells.toList).toArray).heap:=⟨fun _ h=>h,fun i hi=>A6 w j _ i fun e=>(M.gb W g j A d).2 (e ▸ hi)⟩;refine⟨K,G,hX.trans (Ext.modA C.kp A d rfl ⟨rfl,fun _=>Nat.le_refl _⟩ rfl (by simp) (A6 w j _)),M.modA A d (by simp) (A6 w j _) ?_,fun m=>VR.grow D (fun _ _ h=>h) _ _ (hE m),hd,hn,fun i hi=>?_,by simp only[VR]⟩
  .exact⟨j,_,d,setRow_heap w j _ _ T (0,0) hb,VRs.grow D (fun _ _ h=>h) _ _ (Z.setR f s N)⟩
  .by_cases e:i=W
   .subst e;have:i<H.length:=by rw[<-M.len];exact(List.getElem?_eq_some_iff.1 A).1
    exact⟨_,getElem?_set_self this,rfl⟩
   .obtain⟨L,h,F⟩:=Q i hi;exact⟨L,by rw[getElem?_set_ne (Ne.symm e)];exact h,F⟩
 .rename_i W sz i f R;split at c;rotate_left
  .exact c.elim
  rename_i T sz' p fx I;split at c;rotate_left
  .exact c.elim
  rename_i ds hds;obtain⟨k,z,hsz,rfl,hi,N⟩:=c;rw[R]at r;simp only[VR]at r;obtain⟨g,b,n,cap,A,d,hsv,S⟩:=r;obtain⟨hlim,xs,V,hh⟩:=M.bufOb I A;rcases hh with⟨_,_,h3⟩|⟨j,cap',u,fr,h1,h2,hb,hfr,h4,h5,h6,h7⟩
  .rw[d]at h3;cases h3
  obtain rfl:j=b:=by rw[d]at h2;exact(Option.some.inj h2).symm
  have s:=AO X k;have hdd:=oE s hds;have J:=hdd.length;have hxl:=V.length;have q:i*sz+f+(a.eval y).cells.toList.length<=p.length*sz:=by have:(i+1)*sz<=p.length*sz:=Nat.mul_le_mul_right _ hi;rw[Nat.add_mul]at this;omega
  have hcur:p.length*sz<=u.size:=Nat.le_trans (Nat.mul_le_mul_right _ h4) h6;have U:=U1 (P:=C.P) j (i*sz+f) T fr (a.eval y).cells.toList 0 u w hb hfr (by omega) (MP s z);have l:¬ (a.eval y).cells.size≠ti.size:=by simp at J;omega
  have B:(Instr.storeAt t (a.eval x) (a.eval y)).run C.P w=.ok () (w.setRow j (fh u.toList (i*sz+f+0) (a.eval y).cells.toList).toArray):=by simp only[S,Instr.storeAt,Instr.sureAddr,Sem.run_bind,Sem.run_pure,Result.andThen_ok,storeVar,run_sizeOf w ht,if_neg l];exact U
  refine⟨undef,_,.inr ⟨by obtain⟨dst,op,ty,pos,af,gd⟩:=o;cases ho;exact Uj B,rfl⟩,?_⟩;have D:Mn K K w.heap (w.setRow j (fh u.toList (i*sz+f+0) (a.eval y).cells.toList).toArray).heap:=⟨fun _ h=>h,fun i hi=>A6 w j _ i fun e=>(M.gb W g j A d).2 (e ▸ hi)⟩;refine⟨K,G,hX.trans (Ext.modA C.kp A d rfl ⟨rfl,fun _=>Nat.le_refl _⟩ rfl (by simp) (A6 w j _)),M.modA A d (by simp) (A6 w j _) ?_,fun m=>VR.grow D (fun _ _ h=>h) _ _ (hE m),hd,hn,fun i hi=>?_,by simp only[VR]⟩
  .have O:(fh u.toList (i*sz+f) (a.eval y).cells.toList).length=u.size:=by rw[Lx _ _ _ (by simp at q|-;omega)];simp
   have hrl:(p.getD i []).length=sz:=Lb V _ (by rw[getD_eq_getElem?_getD,getElem?_eq_getElem hi];exact getElem_mem hi);rw[ln];refine⟨by simpa using hlim,_,DRss.mono D _ _ _ (by rw[V6 hrl];exact V.set i f hdd hi (by omega)),.inr ⟨j,cap',_,fr,by rw[length_set];exact h1,d,setRow_heap w j _ _ T fr hb,?_,by rw[length_set];exact h4,h5,?_,?_⟩⟩
   .simp only[Nat.add_zero,size_toArray,O];exact hfr
   .simp only[Nat.add_zero,size_toArray,O];exact h6
   .simp only[Nat.add_zero,length_set];rw[<-h7,tj _ _ _ (by simp at q|-;omega),tj _ _ _ (by simp at q hcur|-;omega)];simp only[Array.length_toList];rw[take_append,take_of_length_le (by simp;omega)];simp only[length_append,length_take,Array.length_toList];rw[take_take,drop_take];congr 1
    .rw[Nat.min_eq_left (by omega)]
    .congr 1;simp at q;omega
  .by_cases e:i=W
   .subst e;obtain⟨L,h,F⟩:=Q i hi;rw[WE I]at h;cases h;refine⟨_,getElem?_set_self (by rw[<-M.len];exact(List.getElem?_eq_some_iff.1 A).1),?_⟩;cases fx
    .cases F
    .rfl
   .obtain⟨L,h,F⟩:=Q i hi;exact⟨L,by rw[getElem?_set_ne (Ne.symm e)];exact h,F⟩
 .exact c.elim
theorem MG{K:Nat->Prop}{G:List Gh}(p:Ext C.kp C.K0 C.G0 C.w0 K G w)(d:St K G H w)(D:iB K w.heap G a E)(F:a.defers=[])(r:a.tmps.size=C.n)(I:jG C.kp H){w1:World}(f:w1=w∨w1=w.drew){cs:Array Value}{T:TypeId}{q:Nat×Nat}{sz n cap:Nat}{rows:List (List Dt)}{xs:List Value}
  (J:DRss K w.heap sz xs rows) (L:rows.length=n) (j:n<=eC) (s:Free q cs.size) (t:n<=cap) (k:cap<=maxLen) (u:cs.size=cap*sz) (i:cs.toList.take (n*sz)=xs) :
  RelV C E (H++[.buf T sz rows]) (.slice (some ⟨w.heap.size,0,none⟩) n cap) (.buf H.length) a (w1.alloc (.cells cs T q)):=by
 subst L;have v:St K G H w1:=by
  rcases f with rfl|rfl
  .exact d
  .exact⟨d.len,d.kb,d.gbo,d.ijo,d.ob,d.tb⟩
 have l:w1.heap=w.heap:=by rcases f with rfl|rfl <;> rfl
 have y:Ext C.kp C.K0 C.G0 C.w0 K G w1:=by
  rcases f with rfl|rfl
  .exact p
  .exact { p with tape:=⟨p.tape.1,fun m=>Nat.le_succ_of_le (p.tape.2 m)⟩ }
 have c:w1.heap.size=w.heap.size:=by rw[l]
 have B:Mn K K w.heap (w1.alloc (.cells cs T q)).heap:=⟨fun _ h=>h,fun b hb=>by rw[heap_alloc_old w1 _ (by rw[c];exact d.kb b hb),l]⟩;have M:∀(o:Nat) (g:Gh),G[o]?=some g->(G++[⟨some w1.heap.size,.slice (some ⟨w.heap.size,0,none⟩) rows.length cap,[]⟩])[o]?=some g:=fun o g N=>Mg.push G _ o g rfl N;refine⟨K,G++[⟨some w1.heap.size,.slice (some ⟨w.heap.size,0,none⟩) rows.length cap,[]⟩],y.trans (Ext.push C.kp _ _),v.push (x:=.buf T sz rows) ?_,fun m=>VR.grow B M _ _ (D m),F,r,fun o O=>?_,?_⟩
 .exact⟨j,xs,DRss.mono B _ _ _ J,.inr ⟨w.heap.size,cap,cs,q,rfl,by rw[c],by rw[<-c];exact heap_alloc_new w1 _,s,t,k,Nat.le_of_eq u.symm,i⟩⟩
 .obtain⟨z,e,A⟩:=I o O;exact⟨z,by rw[getElem?_append_left (List.getElem?_eq_some_iff.1 e).1];exact e,A⟩
 .simp only[VR];refine⟨⟨some w1.heap.size,.slice (some ⟨w.heap.size,0,none⟩) rows.length cap,[]⟩,?_,rfl,_,_,_,rfl⟩;rw[<-d.len,getElem?_append_right (Nat.le_refl _)];simp
set_option linter.unusedVariables false in
theorem uR{K:Nat->Prop}{G:List Gh}(q:Ext C.kp C.K0 C.G0 C.w0 K G w)(e:St K G H w)(D:iB K w.heap G a E)(F:a.defers=[])(u:a.tmps.size=C.n)(I:jG C.kp H){w1:World}(f:w1=w∨w1=w.drew){cs:Array Value}{T:TypeId}{r:Nat×Nat}{s n c:Nat}{rows:List (List Dt)}{xs:List Value}
  (J:DRss K w.heap s xs rows) (L:rows.length=n) (i:n<=eC) (M:Free r cs.size) (x:n<=c) (A:c<=maxLen) (N:cs.size=c*s) (g:cs.toList.take (n*s)=xs) :
  RelV C E H (.slice (some ⟨w.heap.size,0,none⟩) n c) (.p (.l rows)) a (w1.alloc (.cells cs T r)):=by
 subst L;have y:St K G H w1:=by
  rcases f with rfl|rfl
  .exact e
  .exact⟨e.len,e.kb,e.gbo,e.ijo,e.ob,e.tb⟩
 have k:w1.heap=w.heap:=by rcases f with rfl|rfl <;> rfl
 have z:Ext C.kp C.K0 C.G0 C.w0 K G w1:=by
  rcases f with rfl|rfl
  .exact q
  .exact { q with tape:=⟨q.tape.1,fun m=>Nat.le_succ_of_le (q.tape.2 m)⟩ }
 have d:w1.heap.size=w.heap.size:=by rw[k]
 have B:Mn K (fun b=>K b∨b=w1.heap.size) w.heap (w1.alloc (.cells cs T r)).heap:=⟨fun _ h=>.inl h,fun b hb=>by rw[heap_alloc_old w1 _ (by rw[d];exact e.kb b hb),k]⟩;refine⟨fun b=>K b∨b=w1.heap.size,G,z.trans (Ext.pushK C.kp _),y.pushK _,fun m=>VR.grow B (fun _ _ h=>h) _ _ (D m),F,u,I,?_⟩;simp only[VR,DR];refine .inr ⟨w.heap.size,0,c,cs,T,r,s,xs,rfl,.inr (by rw[d]),by rw[<-d];exact heap_alloc_new w1 _,x,i,fun j v t=>?_,DRss.mono B _ _ _ J⟩;rw[Nat.zero_add,<-Array.getElem?_toList];have o:=(List.getElem?_eq_some_iff.1 t).1;rw[<-g]at t o;rw[length_take]at o;rw[getElem?_take_of_lt (by omega)]at t;exact t
theorem kB{K:Nat->Prop}{h:Array Obj}{k:IntKind}:∀{b:List Value},wI k b=true->DRss K h 1 b (List.replicate b.length [.i k 0])
 |[],_=>by simp[DRss]
 |z::b,a=>by
  cases z <;> simp only[wI]at a <;> try (cases a)
  rename_i c n;simp only[Bool.and_eq_true,decide_eq_true_eq]at a;obtain⟨⟨rfl,rfl⟩,a⟩:=a;simp only[length_cons,replicate_succ,DRss];refine⟨[_],b,rfl,rfl,?_,kB a⟩;simp only[DRs,DR];exact⟨_,[],rfl,⟨rfl,dr c⟩,rfl⟩
theorem dR{T:TypeId}{sz n cap:Nat}{rows:List (List Dt)}{b o:Nat}(h:RelV C E H (.slice (some ⟨b,0,none⟩) n cap) (.buf o) a w)(p:H[o]?=some (.buf T sz rows))(y:0<n):RelV C E H (.pointer (some ⟨b,0,none⟩)) (.ptr o 0) a w:=by
 obtain⟨K,G,e,i,q,r,s,t,j⟩:=h;refine⟨K,G,e,i,q,r,s,t,?_⟩;simp only[VR]at j|-;obtain⟨g,k,d,_⟩:=j;obtain⟨l,z,u,v⟩:=i.ob _ g _ k p;rcases v with⟨⟨A,e⟩,_,_⟩|⟨B,m,x,D,c,f,_⟩
 .rw[<-d]at e;cases e;omega
 .rw[<-d]at c;cases c;exact⟨g,b,k,f,rfl⟩
theorem wH(g:Rel C E H a w)(o:Oper){t:TypeId}(l:o.op=.alloc t)(c:(Av C.P E H t).ok):gz C o a w (Av C.P E H t).v (Av C.P E H t).E (Av C.P E H t).H:=by
 unfold Av at c|-;split at c;rotate_left
 .exact c.elim
 rename_i h m;obtain⟨z,p,d⟩:=Zr w m;refine⟨_,_,.inl (by simp[execOp,l,Instr.alloc,p,newVar,newRow];exact⟨rfl,rfl⟩),?_⟩;split at c
 .rename_i k n b;obtain⟨q,j,r⟩:=c;obtain⟨K,G,s,u,x,y,e,f⟩:=g
  have B:8<n:=by
   unfold wA at b;split at b
   .split at b
    .rename_i D;cases hb:decide (8<_) <;> rw[hb]at b <;> simp only[cond_true,cond_false]at b <;> cases b
     exact of_decide_eq_true hb
    .cases b
   .cases b
  have A:z.cells.size=n:=by rw[<-Array.length_toList,d,j]
  unfold eC at r;refine dR (n:=n) (cap:=n) (T:=t) (sz:=1) (rows:=List.replicate n [.i k 0]) ?_ (by simp) (by omega);refine MG (w1:=w) s u x y e f (.inl rfl) (xs:=h.zero) ?_ (by simp) (by unfold eC;omega) (Free.zero _) (Nat.le_refl _) (by simp only[maxLen];omega) (by omega) (by rw[d];exact take_of_length_le (by omega));rw[<-j];exact kB q
 have:=Wy (T:=t) g (cs:=z.cells.toList) (vs:=h.zero.map cv) (fun K G _=>by rw[d];exact xC c);simpa using this
theorem sK(N:Rel C E H a w)(o:Oper){s d:TypeId}{x:Operand}(O:o.op=.convert s d x)(Q:opOk true E x)(c:(AE C.P E H s d (opnd E x)).ok) :
  gz C o a w (AE C.P E H s d (opnd E x)).v (AE C.P E H s d (opnd E x)).E (AE C.P E H s d (opnd E x)).H:=by
 have i:∀K G,iB K w.heap G a E->VR K w.heap G (a.eval x) (opnd E x):=fun K G h=>zD h rfl x Q;unfold AE at c|-;split at c;rotate_left
 .exact c.elim
 rename_i e j Y Z l k m n;split at c;rotate_left
 .exact c.elim
 rename_i p;obtain rfl:j=1:=c;obtain⟨R,q,r⟩:=zL k (by simp);obtain⟨S,t,u⟩:=zL m (by simp);obtain⟨T,y,z⟩:=zL p (by simp);obtain⟨K,G,U,V,h,W,A,B⟩:=N;have D:=i K G h;rw[n]at D;simp only[VR,DR]at D;obtain⟨F,f⟩:=D;have g:=run_bytes_of_string (P:=C.P) w s d e ⟨l.toArray⟩ (BK q r) (je t u).1 (iF y z);have I:(⟨l.toArray⟩:ByteArray).size=l.length:=by simp[ByteArray.size]
 rw[I]at g;have J:=grownCap_ge w l.length 0 e;have L:=grownCap_le_maxLen w l.length 0 e (by simp only[maxLen];unfold eC at f;omega);have M:(bytesRow ⟨l.toArray⟩ (grownCap w l.length 0 e)).size=grownCap w l.length 0 e:=by simp[bytesRow,ByteArray.size];omega
 refine⟨_,_,.inl (by obtain⟨X,op,ty,pos,af,gd⟩:=o;cases O;exact rD (by rw[F];exact g)),?_⟩;refine MG (w1:=w.drew) U V h W A B (.inr rfl) (xs:=l.map fun b=>Value.int .u8 b.toNat) (DRss.bytes l) (sW l) f ?_ J L (by rw[M];omega) ?_
 .right;simp only;omega
 .simp only[bytesRow,Nat.mul_one,Array.toList_append,Array.toList_map];rw[take_append_of_le_length (by simp)];exact take_of_length_le (by simp)
theorem nF{a:Nat×Nat}{n:Nat}(h:Free a n):Free (if a.1 == a.2 then(n,n+1)else(min a.1 n,max a.2 (n+1))) n:=by
 by_cases e:a.1=a.2
 .simp[e,Free]
 .rcases h with h|h
  .exact absurd h e
  .have:(a.1 == a.2)=false:=by simpa using e
   rw[this];simp only[Bool.false_eq_true,if_false,Free];right;omega
theorem yd(hR:Rel C E H a w)(o:Oper){s d:TypeId}{x:Operand}{n:Nat}(ho:o.op=.convert s d x)(hx:opOk true E x)(M:opnd E x=.buf n)(f:(hQ C.P E H s d n).ok) :
  gz C o a w (hQ C.P E H s d n).v (hQ C.P E H s d n).E (hQ C.P E H s d n).H:=by
 obtain⟨K,G,hX,N,hE,hd,hn,O⟩:=hR;have k:=zD hE rfl x hx;rw[M]at k;unfold hQ at f|-;split at f;rotate_left
 .exact f.elim
 rename_i e1 s1 b1 z1 e esz eb ez T sz p hks Q R;split at f;rotate_left
 .exact f.elim
 rename_i S;obtain⟨rfl,u⟩:=f;obtain⟨ti2,U,V⟩:=zL Q (by simp);obtain⟨ti3,W,X⟩:=zL S (by simp);have Y:=(je U V).1;have Z:=iF W X;have y:=k;simp only[VR]at k;obtain⟨g,L,hax,ad,m,cp,hsv0⟩:=k;have q:=zy R (by simp);obtain⟨z,xs,hxs,hh⟩:=N.ob n g _ L q;rcases hh with⟨_,h,_⟩|⟨b,cap,c,A,B,l,hb,hfr,h4,h5,h6,h7⟩
 .subst h;simp at u
 have hsh:w.shape? b=some (T,c.size):=by simp[World.shape?,hb]
 have hb':(w.freeze ⟨b,c.size,none⟩ 1).heap[b]?=some (.cells c T (if A.1 == A.2 then(c.size,c.size+1)else(min A.1 c.size,max A.2 (c.size+1)))):=by obtain⟨f1,f2⟩:=A;simp[World.freeze,Array.getElem?_modify,hb]
 have j:∀i,i≠b->(w.freeze ⟨b,c.size,none⟩ 1).heap[i]?=w.heap[i]?:=by intro i hi;simp[World.freeze,Array.getElem?_modify,Ne.symm hi]
 have D:(w.freeze ⟨b,c.size,none⟩ 1).heap.size=w.heap.size:=by simp[World.freeze]
 have r:(w.freeze ⟨b,c.size,none⟩ 1).os=w.os/\Tp w (w.freeze ⟨b,c.size,none⟩ 1)/\(w.freeze ⟨b,c.size,none⟩ 1).output=w.output:=by simp[World.freeze,Tp]
 have t:Mn K K w.heap (w.freeze ⟨b,c.size,none⟩ 1).heap:=⟨fun _ h=>h,fun i hi=>j i fun e=>(N.gb n g b L l).2 (e ▸ hi)⟩;have F:H.set n (.buf T sz p)=H:=by obtain⟨hl,he⟩:=List.getElem?_eq_some_iff.1 q;rw[<-he];exact set_getElem_self hl
 have I:=N.modA (x:=.buf T sz p) L l D j ⟨z,xs,DRss.mono t _ _ _ hxs,.inr ⟨b,cap,c,_,B,l,hb',nF hfr,h4,h5,h6,h7⟩⟩;rw[F]at I;have J:(convert s s (a.eval x)).run C.P w=.ok (a.eval x) (w.freeze ⟨b,c.size,none⟩ 1):=by rw[hax,B];simp[convert,run_underlying Y,run_underlying Z,markStringish,hsh]
 refine⟨a.eval x,w.freeze ⟨b,c.size,none⟩ 1,.inl (by obtain⟨dst,op,ty,pos,af,gd⟩:=o;cases ho;exact rD J),K,G,hX.trans (Ext.modA C.kp L l r.1 r.2.1 r.2.2 D j),I,fun m=>VR.grow t (fun _ _ h=>h) _ _ (hE m),hd,hn,O,VR.grow t (fun _ _ h=>h) _ _ y⟩
theorem wk(e:Rel C E H a w)(o:Oper){s d:TypeId}{x:Operand}(f:o.op=.convert s d x)(g:opOk true E x)(b:(Ax C.P E H s d (opnd E x)).ok) :
  gz C o a w (Ax C.P E H s d (opnd E x)).v (Ax C.P E H s d (opnd E x)).E (Ax C.P E H s d (opnd E x)).H:=by
 have h:=fun b=>sK (s:=s) (d:=d) e o f g b;cases c:opnd E x <;> simp only[c,Ax]at b h|- <;> first|exact h b|exact yd e o f g c b
theorem yD(V:Rel C E H a w)(o:Oper){t:TypeId}{x y:Operand}(W:o.op=.makeSlice t x y)(X:opOk true E x)(Y:opOk true E y)(c:(hU C.P E H t (opnd E x) (opnd E y)).ok) :
  gz C o a w (hU C.P E H t (opnd E x) (opnd E y)).v (hU C.P E H t (opnd E x) (opnd E y)).E (hU C.P E H t (opnd E x) (opnd E y)).H:=by
 have s:∀K G,iB K w.heap G a E->VR K w.heap G (a.eval x) (opnd E x):=fun K G h=>zD h rfl x X;have u:∀K G,iB K w.heap G a E->VR K w.heap G (a.eval y) (opnd E y):=fun K G h=>zD h rfl y Y;unfold hU at c|-;split at c;rotate_left
 .exact c.elim
 rename_i e esz Z ez hk;split at c;rotate_left
 .exact c.elim
 rename_i z kl n kc m hz A B;obtain⟨D,p,h0,F,I,J,heb⟩:=c;obtain⟨ti,ht,L⟩:=zL hk (by simp);obtain⟨hu,⟨i,q,M,N⟩,d⟩:=je ht L;obtain⟨K,G,hX,hS,h,hd,O,Q⟩:=V;have R:=s K G h;have S:=u K G h;rw[A]at R;rw[B]at S;simp only[VR,DR]at R S;have T:∃j,i.zero=some j/\j.cells.toList=ez:=by unfold wW at d;rw[q]at d;simp at d;exact d
 obtain⟨j,U,k⟩:=T;unfold eC at J;have f:(i.bytes:Int)*m<=281474976710656:=by rw[N];have h1:(Z:Int)*m<=512*m:=Int.mul_le_mul_of_nonneg_right (by omega) (by omega);omega
 have g:=run_make (P:=C.P) w t e i j hu q U kl kc n m F I f (by omega);rw[M]at g;refine⟨_,_,.inl (by obtain⟨dst,op,ty,pos,af,gd⟩:=o;cases W;exact rD (by rw[R.1,S.1];exact g)),?_⟩;have l:=MX (z:=j.cells) (by rw[k];exact p) h0 m.toNat;have b:∀n:Nat,((List.replicate n j.cells.toList).flatten).length=n*esz:=by
  intro n;induction n with
  |zero=>simp
  |succ n ih=>rw[replicate_succ,flatten_cons,length_append,ih,k,p,Nat.add_mul];omega
 refine MG (w1:=w) hX hS h hd O Q (.inl rfl) (xs:=(List.replicate n.toNat j.cells.toList).flatten) ?_ (by simp) (by unfold eC;omega) (Free.zero _) (by omega) (by simp only[maxLen];omega) (size_madeCells _ _) ?_
 .have r:DRs K w.heap ez z:=oE (xC (G:=G) D) hz;have hzl:=r.length;have:=DRss.replicate r n.toNat;rw[k]
  rwa [show z.length=esz by omega]at this
 .rw[l];have:m.toNat=n.toNat+(m.toNat-n.toNat):=by omega
  rw[this,<-replicate_append_replicate,flatten_append,take_append_of_le_length (by rw[b];exact Nat.le_refl _)];exact take_of_length_le (by rw[b];exact Nat.le_refl _)
theorem YF{K:Nat->Prop}{h:Array Obj}{G:List Gh}:∀{d:List (Nat×Va)} {ps:List (Nat×Value)} {i:Nat} {cs:Array Value} {vs:List Va},
  rZ i d=some vs->(ps.map (·.1)=d.map (·.1))->(∀(j:Nat) (c:Value) (v:Va),(ps[j]?.map fun x=>x.2)=some c->(d[j]?.map fun x=>x.2)=some v->VR K h G c v)->i+vs.length=cs.size ->
  ∃g,Instr.fill (fun i=>some (i*1,1)) cs ps=some g/\∃o,g.toList=cs.toList.take i++o/\VRs K h G o vs
 |[],ps,i,cs,vs,f,m,_,p=>by
  simp only[rZ]at f;cases f;cases ps with
  |nil=>exact⟨cs,rfl,[],by rw[append_nil,take_of_length_le (by simp at p;simp[p])],by simp only[VRs]⟩
  |cons a b=>simp at m
 |(j,v)::d,ps,i,cs,vs,f,m,w,p=>by
  cases ps with
  |nil=>simp at m
  |cons a ps =>
   obtain⟨q,c⟩:=a;simp only[map_cons,List.cons.injEq]at m;obtain⟨rfl,m⟩:=m;simp only[rZ]at f;cases l:decide (q=i)&&(v.isCell&&!pN v)
   .rw[l]at f;cases f
   rw[l,cond_true]at f;simp only[Bool.and_eq_true,decide_eq_true_eq,Bool.not_eq_true']at l;obtain⟨rfl,n,r⟩:=l;split at f;rotate_left
   .cases f
   rename_i z s;cases f;simp only[length_cons]at p;have y:VR K h G c v:=w 0 c v rfl rfl;have A:c.oneCell'=true:=y.one n (fun H e=>by subst e;cases r);have t:c.cells=#[c]:=by cases c <;> first|rfl|cases A
   obtain⟨g,B,o,C,D⟩:=YF (cs:=cs.setIfInBounds q c) s m (fun k c v E u=>w (k+1) c v (by simpa using E) (by simpa using u)) (by simp;omega);refine⟨g,?_,c::o,?_,?_⟩
   .simp only[Instr.fill,t];rw[if_neg (by simp;omega)];simpa using B
   .rw[C,Array.toList_setIfInBounds];have F:q<cs.toList.length:=by simp;omega
    rw[take_add_one,getElem?_set_self F,take_set_of_le (Nat.le_refl _)];simp
   .simp only[VRs];exact⟨c,o,rfl,y,D⟩
theorem Aj(hR:Rel C E H a w)(o:Oper){t:TypeId}{n:Nat}{ps:Array (Nat×Operand)}(ho:o.op=.buildSlice t n ps)(f:(ib C.P E H t n ps.toList).ok) :
  gz C o a w (ib C.P E H t n ps.toList).v (ib C.P E H t n ps.toList).E (ib C.P E H t n ps.toList).H:=by
 unfold ib at f|-;split at f;rotate_left
 .exact f.elim
 rename_i e c eb ez hk;split at f;rotate_left
 .exact f.elim
 rename_i vs F;obtain⟨I,hel,h,h0,hsm,J⟩:=f;obtain⟨ti,ht,m⟩:=zL hk (by simp);obtain⟨hu,⟨i,p,L,hi3⟩,k⟩:=je ht m;have M:=hR;obtain⟨K,G,hX,hS,hE,hd,hn,hkp⟩:=hR;have N:∃l,(zeroValue e).run C.P w=.ok l w/\l.cells.toList=ez:=by unfold wW at k;rw[p]at k;simp at k;obtain⟨l,h,O⟩:=k;exact⟨l,by simp[zeroValue,typeInfo,p,h],O⟩
 obtain⟨l,Q,R⟩:=N;have s:(madeCells l.cells (n*c)).size=n:=by simp[madeCells,h]
 have u:∀q r,iB q w.heap r a E->∃d,Instr.fill (fun i=>some (i*c,c)) (madeCells l.cells (n*c)) (ps.map fun x=>(x.1,a.eval x.2)).toList=some d/\VRs q w.heap r d.toList vs:=by intro q r j;obtain⟨S,U⟩:=Uf j rfl ps.toList I;obtain⟨d,e1,xs,e2,e3⟩:=YF (cs:=madeCells l.cells (n*c)) (ps:=(ps.map fun x=>(x.1,a.eval x.2)).toList) F (by simpa using S) (by simpa using U) (by rw[s,J,Nat.zero_add]);refine⟨d,by subst h;exact e1,?_⟩;rw[e2,take_zero,nil_append];exact e3
 obtain⟨d,hf,hvv⟩:=u K G hE;have V:(sizeOf e).run C.P w=.ok c w:=mo (by simp[hI,p,L]);have y:¬ (n*c > 2^24):=by omega
 have z:(Instr.buildSlice t n (ps.map fun x=>(x.1,a.eval x.2))).run C.P w=.ok (.slice (some ⟨w.heap.size,0,none⟩) n n) (w.alloc (.cells d e)):=by
  have W:∀D:Array Value,D.toList=ez->(Array.range (n*c)).map (fun x=>D[x % D.size]!)=madeCells D (n*c):=fun _ _=>rfl;have X:¬ n*c=0:=by rw[h];omega
  simp only[Instr.buildSlice,run_underlying hu,V,Sem.run_bind,Result.andThen_ok,if_neg y,Sem.run_pure,if_neg X,Q,W _ R,hf,newRow,run_newObj];rfl
 refine⟨_,_,.inl (by obtain⟨dst,op,ty,pos,af,gd⟩:=o;cases ho;exact rD z),?_⟩;obtain⟨q,r,Y,Z,j,hd',hn',m,A⟩:=Wy (T:=e) M (cs:=d.toList) (vs:=vs) (fun q r j=>by
  obtain⟨cs2,B,hv2⟩:=u q r j;rw[hf]at B;cases B;exact hv2)
 refine⟨q,r,Y,by simpa using Z,by simpa using j,hd',hn',m,?_⟩;simp only[VR]at A|-;obtain⟨g,b,h1,h2,h3⟩:=A;refine⟨g,b,h1,h2,?_⟩;simp only[Value.pointer.injEq,Option.some.injEq,Addr.mk.injEq]at h3;rw[h3.1]
theorem Kh(hR:Rel C E H a w)(o:Oper){t:TypeId}{n:Nat}{ps:Array (Nat×Operand)}(ho:o.op=.buildSlice t n ps)(d:(n7 C.P E H t n ps.toList).ok) :
  gz C o a w (n7 C.P E H t n ps.toList).v (n7 C.P E H t n ps.toList).E (n7 C.P E H t n ps.toList).H:=by
 unfold n7 at d|-;cases l:yi C.P t;rotate_left
 .rw[l,cond_true]at d;rw[cond_true];exact Aj hR o ho d
 rw[l,cond_false]at d;rw[cond_false];split at d;rotate_left
 .exact d.elim
 rename_i e c eb ez hk;split at d;rotate_left
 .exact d.elim
 rename_i z hz;split at d;rotate_left
 .exact d.elim
 rename_i F r;have I:partsOk true E ps.toList/\oG ez/\ez.length=c/\0<c/\n*c<=16777216/\n<=eC:=by cases hb:uW C.P e n <;> simpa only[hb,cond_true,cond_false]using d
 clear d;obtain⟨T,U,V,h0,hsm,p⟩:=I;obtain⟨ti,ht,W⟩:=zL hk (by simp);obtain⟨hu,⟨i,s,X,hi3⟩,k⟩:=je ht W;obtain⟨K,G,hX,Y,Z,hd,hn,J⟩:=hR
 -- the zero
 have hzv:∃u,(zeroValue e).run C.P w=.ok u w/\u.cells.toList=ez:=by unfold wW at k;rw[s]at k;simp at k;obtain⟨u,hz1,hz2⟩:=k;exact⟨u,by simp[zeroValue,typeInfo,s,hz1],hz2⟩
 obtain⟨u,hzr,y⟩:=hzv;have L:DRs K w.heap ez z:=oE (xC (G:=G) U) hz;have hzl:=L.length;have M:DRss K w.heap c (madeCells u.cells (n*c)).toList (List.replicate n z):=by
  rw[MX (by rw[y];exact V) h0,y];have:=DRss.replicate L n
  rwa [show z.length=c by omega]at this
 obtain⟨hp1,hp2⟩:=Uf Z rfl ps.toList T;obtain⟨g,hf,A,hrl⟩:=WI (ps:=(ps.map fun x=>(x.1,a.eval x.2)).toList) r M (by simpa using hp1) (by simpa using hp2);have N:(sizeOf e).run C.P w=.ok c w:=mo (by simp[hI,s,X]);have q:¬ (n*c > 2^24):=by omega
 have O:(Instr.buildSlice t n (ps.map fun x=>(x.1,a.eval x.2))).run C.P w=.ok (.slice (some ⟨w.heap.size,0,none⟩) n n) (w.alloc (.cells g e)):=by
  have hnz:∀S:Array Value,S.toList=ez->(Array.range (n*c)).map (fun x=>S[x % S.size]!)=madeCells S (n*c):=fun _ _=>rfl;by_cases B:n*c=0
  .have Q:(Array.range (n*c)).map (fun x=>(#[]:Array Value)[x % (#[]:Array Value).size]!)=madeCells u.cells (n*c):=by rw[B];apply Array.ext';simp[madeCells]
   simp only[Instr.buildSlice,run_underlying hu,N,Sem.run_bind,Result.andThen_ok,if_neg q,Sem.run_pure,if_pos B,Q,hf,newRow,run_newObj];rfl
  .simp only[Instr.buildSlice,run_underlying hu,N,Sem.run_bind,Result.andThen_ok,if_neg q,Sem.run_pure,if_neg B,hzr,hnz _ y,hf,newRow,run_newObj];rfl
 have f:F.length=n:=by simpa using hrl
 refine⟨_,_,.inl (by obtain⟨dst,op,ty,pos,af,gd⟩:=o;cases ho;exact rD O),?_⟩;cases hb:uW C.P e n;rotate_left
 .simp only[cond_true];have D:=A.length;simp only[Array.length_toList]at D;exact MG (w1:=w) hX Y Z hd hn J (.inl rfl) (xs:=g.toList) A f p (Free.zero _) (Nat.le_refl _) (by simp only[maxLen];unfold eC at p;omega) (by rw[D,f]) (by rw[take_of_length_le];simp only[Array.length_toList];rw[D,f];exact Nat.le_refl _)
 simp only[cond_false];have R:Mn K (fun b=>K b∨b=w.heap.size) w.heap (w.alloc (.cells g e)).heap:=⟨fun _ h=>.inl h,fun b hb=>heap_alloc_old w _ (Y.kb b hb)⟩;refine⟨fun b=>K b∨b=w.heap.size,G,hX.trans (Ext.pushK C.kp _),Y.pushK _,fun m=>VR.grow R (fun _ _ h=>h) _ _ (Z m),hd,hn,J,?_⟩;simp only[VR,DR];refine⟨.inr ⟨w.heap.size,0,n,g,e,(0,0),c,g.toList,by rw[f],.inr rfl,heap_alloc_new w _,by omega,by omega,fun j v hj=>by rw[Nat.zero_add,<-Array.getElem?_toList];exact hj,DRss.mono R _ _ _ A⟩,some ⟨w.heap.size,0,none⟩,by rw[f]⟩
end
end Go.Vc
