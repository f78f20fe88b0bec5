/- An abstract machine for the model: what it computes on, its operations, the walk of a body, and that all of it is true of the model (part 1). -/
import Derived.ChangeKeysEq
import Derived.LaidEqlPtr
import Derived.Laws.StructEq
import Derived.Lib.Builder
import Derived.Lib.ConvBytes
import Derived.Lib.UnsafeStr
import Derived.MapKept
import Derived.WalkKit
import Derived.WideKeyRuns
set_option linter.unusedSectionVars false
open List
namespace Go.Vc
inductive Dt where
 |b (x:Bool)
 |i (k:IntKind) (n:Int)
 |s (x:List UInt8)
 |l (rows:List (List Dt))
 |a (ds:List Dt)
 |r (v:Value)
inductive Va where
 |p (x:Dt)
 |nils
 |full (rows:List (List Dt))
 |rp (row:List Dt)
 |ptr (o off:Nat)
 |el (o sz i off:Nat)
 |buf (o:Nat)
 |mp (o:Nat)
 |np (o:Nat)
 |sd (o:Nat)
 |vw (o sz a n:Nat)
 |bufc (o cp:Nat)
 |nv (o i:Nat)
 |ne (o sz i j off:Nat)
 |cs (o n:Nat)
 |fn (f:FuncId) (caps:List Va)
 |agg (cs:List Va)
 |tup (vs:List Va)
 |nil
 |cnd (c:Bool) (v:Va)
 |raw (v:Value)
 |er (nil:Bool)
 |top
def eE:Nat:=274877906944
theorem Rc:eE=274877906944:=rfl
def lo:IntKind->Int
 |.i8=>-128|.i16=>-32768|.i32=>-2147483648|.i64=>-9223372036854775808|_=>0
def hi:IntKind->Int
 |.i8=>127|.i16=>32767|.i32=>2147483647|.i64=>9223372036854775807
 |.u8=>255|.u16=>65535|.u32=>4294967295|.u64=>18446744073709551615
def Fits(k:IntKind)(n:Int):Prop:=lo k<=n/\n<=hi k
structure Gh where
 blk:Option Nat
 sv:Value
 inn:List Value
def il:Value->Option Nat
 |.slice (some ⟨b,_,_⟩) _ (_+1)=>some b
 |_=>none
def own(g:Gh)(b:Nat):Prop:=g.blk=some b∨∃v∈g.inn,il v=some b
mutual
def DR(K:Nat->Prop)(h:Array Obj):Value->Dt->Prop
 |c,.b x=>c=.bool x
 |c,.i k n=>c=.int k n/\Fits k n
 |c,.s x=>c=.string ⟨x.toArray⟩/\x.length<=eE
 |c,.l d=>((∃a,c=.slice a 0 0)/\d=[]) ∨
   ∃b e f cs T m o g,c=.slice (some ⟨b,e,none⟩) d.length f/\K b/\h[b]?=some (.cells cs T m) /\
    d.length<=f/\d.length<=eE/\(∀j v,g[j]?=some v->cs[e+j]?=some v)/\DRss K h o g d
 |_,.a _=>False
 |c,.r v=>c=v/\v.oneCell'=true
def DRs(K:Nat->Prop)(h:Array Obj):List Value->List Dt->Prop
 |b,[]=>b=[]
 |b,d::c=>∃v a,b=v::a/\DR K h v d/\DRs K h a c
def DRss(K:Nat->Prop)(h:Array Obj)(sz:Nat):List Value->List (List Dt)->Prop
 |c,[]=>c=[]
 |c,r::d=>∃a b,c=a++b/\r.length=sz/\DRs K h a r/\DRss K h sz b d
end
def N7(c:Value)(f:Option Nat)(h:Option Addr)(N g sz a n:Nat):Prop :=
 a+n<=N/\∃e d,c=.slice e n d/\n<=d/\a+d<=g/\(0<d->∃b,f=some b/\h=some ⟨b,0,none⟩/\e=some ⟨b,a*sz,none⟩)
mutual
def VR(K:Nat->Prop)(h:Array Obj)(G:List Gh):Value->Va->Prop
 |c,.p x=>DR K h c x
 |c,.nils=>c=.slice none 0 0
 |c,.full k=>DR K h c (.l k)/\∃a,c=.slice a k.length k.length
 |c,.rp s=>∃b e cs T w m,c=.pointer (some ⟨b,e,none⟩)/\K b/\h[b]?=some (.cells cs T w) /\
   (∀j v,m[j]?=some v->cs[e+j]?=some v)/\DRs K h m s
 |c,.ptr o e=>∃g b,G[o]?=some g/\g.blk=some b/\c=.pointer (some ⟨b,e,none⟩)
 |c,.cs o n=>∃g b,G[o]?=some g/\g.blk=some b/\c=.slice (some ⟨b,0,none⟩) n n
 |c,.el o q i e=>∃g b n d,G[o]?=some g/\g.blk=some b/\g.sv=.slice (some ⟨b,0,none⟩) n d/\c=.pointer (some ⟨b,i*q+e,none⟩)
 |c,.buf o=>∃g,G[o]?=some g/\c=g.sv/\∃a n d,g.sv=.slice a n d
 |c,.mp o=>∃g b,G[o]?=some g/\g.blk=some b/\c=.map (some b)
 |c,.np o=>c=.pointer none∨∃g b,G[o]?=some g/\g.blk=some b/\c=.pointer (some ⟨b,0,none⟩)
 |c,.sd o=>∃g a n d,G[o]?=some g/\g.sv=.slice a n d/\c=.pointer a
 |c,.bufc o y=>∃g a n d,G[o]?=some g/\g.sv=.slice a n d/\c=g.sv/\d=y
 |c,.nv o i=>∃g a n d,G[o]?=some g/\g.inn[i]?=some (.slice a n d)/\c=.slice a n d
 |c,.ne o q i j e=>∃g b n d,G[o]?=some g/\g.inn[i]?=some (.slice (some ⟨b,0,none⟩) n (d+1))/\c=.pointer (some ⟨b,j*q+e,none⟩)
 |c,.vw o q a n=>∃g u N d,G[o]?=some g/\g.sv=.slice u N d/\N7 c g.blk u N d q a n
 |c,.fn f r=>∃cs,c=.func (.func f) #[] cs.toArray/\VRs K h G cs r
 |c,.agg m=>∃cs,c=.agg cs.toArray/\VRs K h G cs m
 |c,.tup m=>∃cs,c=.tuple cs.toArray/\VRs K h G cs m
 |c,.nil=>c=.pointer none
 |c,.cnd t v=>(t=true->VR K h G c v)/\(t=false->c=undef)
 |c,.raw v=>c=v
 |c,.er b=>(b=true/\c=.nilIface)∨(b=false/\∃t v,c=.iface t v)
 |_,.top=>True
def VRs(K:Nat->Prop)(h:Array Obj)(G:List Gh):List Value->List Va->Prop
 |cs,[]=>cs=[]
 |cs,v::b=>∃c a,cs=c::a/\VR K h G c v/\VRs K h G a b
end
inductive Ob where
 |cells (T:TypeId) (vs:List Va)
 |buf (T:TypeId) (sz:Nat) (rows:List (List Dt))
 |fx (T:TypeId) (sz:Nat) (rows:List (List Dt))
 |sb (T:TypeId) (bs:List UInt8)
 |mp (ag:Bool) (es:List (Dt×List Dt))
 |mpb (ag:Bool) (es:List (Dt×List Dt)) (bs:List Nat) (cl:Nat)
 |it (o cl:Nat) (seen:List Nat)
 |nst (fx:Bool) (T:TypeId) (sz k p:Nat) (rows:List (List Dt)) (st:Option Nat)
 |inn (T:TypeId) (sz:Nat) (ins:List (List (List Dt)))
 |gone
 |lost
def Ob.kept:Ob->Bool
 |.cells _ _=>true
 |.mp _ _=>true
 |.mpb _ _ _ _=>true
 |.fx _ _ _=>true
 |.nst f _ _ _ _ _ _=>f
 |.lost=>true
 |_=>false
def KR(K:Nat->Prop)(h:Array Obj)(c:Value):Dt->Prop
 |.a d=>∃cs:List Value,c=.agg cs.toArray/\DRs K h cs d
 |.b x=>DR K h c (.b x)
 |.i k x=>DR K h c (.i k x)
 |.s x=>DR K h c (.s x)
 |.l x=>DR K h c (.l x)
 |.r x=>DR K h c (.r x)
def MRs(K:Nat->Prop)(h:Array Obj)(ag:Bool):List MapEntry->List (Dt×List Dt)->Prop
 |[],[]=>True
 |e::a,p::b=>KR K h e.key p.1/\(match ag with
   |true=>∃cs:List Value,e.val=.agg cs.toArray/\DRs K h cs p.2
   |false=>∃d,p.2=[d]/\DR K h e.val d)/\MRs K h ag a b
 |_,_=>False
def Free(a:Nat×Nat)(n:Nat):Prop:=a.1=a.2∨n<=a.1
theorem Free.out{a:Nat×Nat}{n:Nat}(h:Free a n):∀i,i<n->¬ (a.1<=i/\i<a.2):=by
 intro i hi b;rcases h with h|h <;> omega
def pe(a:Nat×Nat)(n:Nat):Prop:=a.1=a.2∨(a.1=0/\a.2<=n)
def mx(b:UInt8):Value:=.int .u8 b.toNat
def bufR(K:Nat->Prop)(h:Array Obj)(e:Option Nat)(f:Value)(T:TypeId)(sz:Nat)(rows:List (List Dt)):Prop :=
 rows.length<=eE/\∃g,DRss K h sz g rows /\
   (((∃a,f=.slice a 0 0)/\rows=[]/\e=none) ∨
    ∃b c d i,f=.slice (some ⟨b,0,none⟩) rows.length c/\e=some b/\h[b]?=some (.cells d T i)/\Free i d.size /\
     rows.length<=c/\c<=maxLen/\c*sz<=d.size/\d.toList.take (rows.length*sz)=g)
def fT(k:Nat):List (List Dt)->List Value->List (List Dt)
 |r::a,v::b=>r.set k (.r v)::fT k a b
 |_,_=>[]
def Mc(d:Option Nat)(b inn:List Value):Prop:=b.length=inn.length/\(∀j:Nat,d≠some j->b[j]?=inn[j]?)/\∀v∈inn,∃a n c,v=.slice a n c
def ObR(K:Nat->Prop)(h:Array Obj)(G:List Gh)(g:Gh):Ob->Prop
 |.cells T n=>∃b cs,g.blk=some b/\h[b]?=some (.cells cs.toArray T (0,0))/\VRs K h G cs n
 |.buf T l a=>bufR K h g.blk g.sv T l a
 |.fx T l a=>bufR K h g.blk g.sv T l a
 |.sb T f=>f.length<=eE /\
   ((g.sv=.slice none 0 0/\f=[]/\g.blk=none) ∨
    ∃b d m x,g.sv=.slice (some ⟨b,0,none⟩) f.length d/\g.blk=some b/\h[b]?=some (.cells m T x)/\pe x f.length /\
     f.length<=d/\0<d/\d<=maxLen/\m.size=d/\m.toList.take f.length=f.map mx)
 |.mp w q=>q.length<=eE/\∃b c e,g.blk=some b/\h[b]?=some (.map c e)/\MRs K h w c.toList q/\MapKept.Stamped c e
 |.mpb w q f r=>q.length<=eE/\∃b c,g.blk=some b/\h[b]?=some (.map c r)/\MRs K h w c.toList q/\MapKept.Stamped c r/\c.toList.map (·.born)=f
 |.it o r s=>∃b y z,g.blk=some b/\G[o]?=some z/\z.blk=some y/\h[b]?=some (.mapIter (some y) r s.toArray r)
 |.nst _ T l k p a B=>a.length<=eE/\k<l/\∃A n,G[p]?=some A/\n.length=a.length/\Mc B n A.inn/\bufR K h g.blk g.sv T l (fT k a n)
 |.inn T l t=>g.blk=none/\g.inn.length=t.length/\(∀(j:Nat) (v:Value) (a:List (List Dt)),g.inn[j]?=some v->t[j]?=some a->bufR K h (il v) v T l a) /\
   ∀(i j:Nat) (v u:Value) (b:Nat),g.inn[i]?=some v->g.inn[j]?=some u->il v=some b->il u=some b->i=j
 |.gone=>True
 |.lost=>True
structure Mn(K K':Nat->Prop)(h h':Array Obj):Prop where
 k:∀b,K b->K' b
 h:∀b,K b->h'[b]?=h[b]?
def Mg(f:Nat->Bool)(G a:List Gh):Prop:=∀(o:Nat) (g:Gh),f o=true->G[o]?=some g->a[o]?=some g
section
variable {K K':Nat->Prop} {h h':Array Obj}
mutual
theorem DR.mono(M:Mn K K' h h'):∀(c:Value) (d:Dt),DR K h c d->DR K' h' c d
 |_,.b _,H=>by simpa [DR]using H
 |_,.i _ _,H=>by simpa [DR]using H
 |_,.s _,H=>by simpa [DR]using H
 |_,.l e,H=>by
  unfold DR at *;rcases H with H|⟨b,f,g,cs,T,o,j,m,p,n,q,t,u,w,x⟩
  .exact .inl H
  .exact .inr ⟨b,f,g,cs,T,o,j,m,p,M.k b n,(M.h b n).trans q,t,u,w,DRss.mono M j m e x⟩
 |_,.a y,H=>by simp[DR]at H
 |_,.r v,H=>by simpa [DR]using H
theorem DRs.mono(M:Mn K K' h h'):∀(vs:List Value) (b:List Dt),DRs K h vs b->DRs K' h' vs b
 |_,[],H=>by simpa [DRs]using H
 |_,d::b,H=>by unfold DRs at *;obtain⟨v,a,c,e,f⟩:=H;exact⟨v,a,c,DR.mono M v d e,DRs.mono M a b f⟩
theorem DRss.mono(M:Mn K K' h h')(sz:Nat):∀(vs:List Value) (c:List (List Dt)),DRss K h sz vs c->DRss K' h' sz vs c
 |_,[],H=>by simpa [DRss]using H
 |_,r::c,H=>by unfold DRss at *;obtain⟨a,b,d,e,f,g⟩:=H;exact⟨a,b,d,e,DRs.mono M a r f,DRss.mono M sz b c g⟩
end
end
section
variable {K K':Nat->Prop} {h h':Array Obj}
theorem KR.mono(M:Mn K K' h h'){c:Value}:∀{d:Dt},KR K h c d->KR K' h' c d
 |.a e,⟨cs,f,g⟩=>⟨cs,f,DRs.mono M cs e g⟩
 |.b _,H=>DR.mono M _ _ H
 |.i _ _,H=>DR.mono M _ _ H
 |.s _,H=>DR.mono M _ _ H
 |.l _,H=>DR.mono M _ _ H
 |.r _,H=>DR.mono M _ _ H
theorem MRs.mono(M:Mn K K' h h'){ag:Bool}:∀{a:List MapEntry} {es:List (Dt×List Dt)},MRs K h ag a es->MRs K' h' ag a es
 |[],[],H=>H
 |e::a,p::es,H=>by
  simp only[MRs]at *;refine⟨KR.mono M H.1,?_,MRs.mono M H.2.2⟩;cases ag with
  |true=>obtain⟨cs,b,c⟩:=H.2.1;exact⟨cs,b,DRs.mono M _ _ c⟩
  |false=>obtain⟨d,b,c⟩:=H.2.1;exact⟨d,b,DR.mono M _ _ c⟩
 |[],_::_,H=>by simp[MRs]at H
 |_::_,[],H=>by simp[MRs]at H
end
-- every object that it names is of this kind
mutual
def Va.all(f:Nat->Bool):Va->Bool
 |.ptr o _|.cs o _|.el o _ _ _|.buf o|.mp o|.np o|.sd o|.vw o _ _ _|.bufc o _|.nv o _|.ne o _ _ _ _=>f o
 |.fn _ a|.agg a|.tup a=>dp f a
 |.cnd _ v=>v.all f
 |_=>true
def dp(f:Nat->Bool):List Va->Bool
 |[]=>true
 |v::a=>v.all f&&dp f a
end
-- what names an object of another kind is forgotten
mutual
def Va.prune(f:Nat->Bool):Va->Va
 |.ptr o b=>if f o then .ptr o b else .top
 |.cs o b=>if f o then .cs o b else .top
 |.el o d i b=>if f o then .el o d i b else .top
 |.buf o=>if f o then .buf o else .top
 |.mp o=>if f o then .mp o else .top
 |.np o=>if f o then .np o else .top
 |.sd o=>if f o then .sd o else .top
 |.vw o d a n=>if f o then .vw o d a n else .top
 |.bufc o h=>if f o then .bufc o h else .top
 |.nv o i=>if f o then .nv o i else .top
 |.ne o d i j b=>if f o then .ne o d i j b else .top
 |.fn g e=>.fn g (de f e)
 |.agg e=>.agg (de f e)
 |.tup e=>.tup (de f e)
 |.cnd c v=>if v.all f then .cnd c v else .top
 |v=>v
def de(f:Nat->Bool):List Va->List Va
 |[]=>[]
 |v::a=>v.prune f::de f a
end
section
variable {K K':Nat->Prop} {h h':Array Obj} {f:Nat->Bool} {G G':List Gh}
mutual
theorem VR.prune(M:Mn K K' h h')(q:Mg f G G'):∀(c:Value) (v:Va),VR K h G c v->VR K' h' G' c (v.prune f)
 |c,.p x,H=>by simp only[VR,Va.prune]at *;exact DR.mono M c x H
 |c,.nils,H=>by simpa [VR,Va.prune]using H
 |c,.full w,H=>by
  simp only[VR,Va.prune]at *;exact⟨DR.mono M c _ H.1,H.2⟩
 |c,.rp u,H=>by
  simp only[VR,Va.prune]at *;obtain⟨b,r,cs,T,y,s,j,d,z,A,B⟩:=H;exact⟨b,r,cs,T,y,s,j,M.k b d,(M.h b d).trans z,A,DRs.mono M s u B⟩
 |c,.ptr o r,H=>by
  simp only[Va.prune];split
  .rename_i l;simp only[VR]at *;obtain⟨g,b,j,d⟩:=H;exact⟨g,b,q o g l j,d⟩
  .simp[VR]
 |c,.cs o r,H=>by
  simp only[Va.prune];split
  .rename_i l;simp only[VR]at *;obtain⟨g,b,j,d⟩:=H;exact⟨g,b,q o g l j,d⟩
  .simp[VR]
 |c,.el o C i r,H=>by
  simp only[Va.prune];split
  .rename_i l;simp only[VR]at *;obtain⟨g,b,n,m,j,d⟩:=H;exact⟨g,b,n,m,q o g l j,d⟩
  .simp[VR]
 |c,.buf o,H=>by
  simp only[Va.prune];split
  .rename_i l;simp only[VR]at *;obtain⟨g,j,d⟩:=H;exact⟨g,q o g l j,d⟩
  .simp[VR]
 |c,.mp o,H=>by
  simp only[Va.prune];split
  .rename_i l;simp only[VR]at *;obtain⟨g,b,j,d⟩:=H;exact⟨g,b,q o g l j,d⟩
  .simp[VR]
 |c,.np o,H=>by
  simp only[Va.prune];split
  .rename_i l;simp only[VR]at *;rcases H with H|⟨g,b,j,d⟩
   .exact .inl H
   .exact .inr ⟨g,b,q o g l j,d⟩
  .simp[VR]
 |c,.sd o,H=>by
  simp only[Va.prune];split
  .rename_i l;simp only[VR]at *;obtain⟨g,a,n,m,j,d⟩:=H;exact⟨g,a,n,m,q o g l j,d⟩
  .simp[VR]
 |c,.vw o _ _ _,H=>by
  simp only[Va.prune];split
  .rename_i l;simp only[VR]at *;obtain⟨g,a,n,m,j,d⟩:=H;exact⟨g,a,n,m,q o g l j,d⟩
  .simp[VR]
 |c,.bufc o _,H=>by
  simp only[Va.prune];split
  .rename_i l;simp only[VR]at *;obtain⟨g,a,n,m,j,d⟩:=H;exact⟨g,a,n,m,q o g l j,d⟩
  .simp[VR]
 |c,.nv o _,H=>by
  simp only[Va.prune];split
  .rename_i l;simp only[VR]at *;obtain⟨g,a,n,m,j,d⟩:=H;exact⟨g,a,n,m,q o g l j,d⟩
  .simp[VR]
 |c,.ne o _ _ _ _,H=>by
  simp only[Va.prune];split
  .rename_i l;simp only[VR]at *;obtain⟨g,b,n,m,j,d⟩:=H;exact⟨g,b,n,m,q o g l j,d⟩
  .simp[VR]
 |c,.fn g s,H=>by
  simp only[VR,Va.prune]at *;obtain⟨cs,j,d⟩:=H;exact⟨cs,j,VRs.prune M q cs s d⟩
 |c,.agg s,H=>by
  simp only[VR,Va.prune]at *;obtain⟨cs,j,d⟩:=H;exact⟨cs,j,VRs.prune M q cs s d⟩
 |c,.tup s,H=>by
  simp only[VR,Va.prune]at *;obtain⟨cs,j,d⟩:=H;exact⟨cs,j,VRs.prune M q cs s d⟩
 |c,.nil,H=>by simpa [VR,Va.prune]using H
 |c,.cnd t v,H=>by
  simp only[Va.prune];split
  .rename_i l;simp only[VR]at *;exact⟨fun e=>VR.keep M q c v l (H.1 e),H.2⟩
  .simp[VR]
 |c,.raw v,H=>by simpa [VR,Va.prune]using H
 |c,.er v,H=>by simpa [VR,Va.prune]using H
 |c,.top,_=>by simp[VR,Va.prune]
theorem VRs.prune(M:Mn K K' h h')(b:Mg f G G'):∀(cs:List Value) (vs:List Va),VRs K h G cs vs->VRs K' h' G' cs (de f vs)
 |cs,[],H=>by simpa [VRs,de]using H
 |cs,v::vs,H=>by simp only[VRs,de]at *;obtain⟨c,a,d,e,g⟩:=H;exact⟨c,a,d,VR.prune M b c v e,VRs.prune M b a vs g⟩
theorem VR.keep(M:Mn K K' h h')(q:Mg f G G'):∀(c:Value) (v:Va),v.all f=true->VR K h G c v->VR K' h' G' c v
 |c,.p x,_,H=>by simp only[VR]at *;exact DR.mono M c x H
 |c,.nils,_,H=>by simpa [VR]using H
 |c,.full w,_,H=>by
  simp only[VR]at *;exact⟨DR.mono M c _ H.1,H.2⟩
 |c,.rp u,_,H=>by
  simp only[VR]at *;obtain⟨b,r,cs,T,y,s,j,d,z,A,B⟩:=H;exact⟨b,r,cs,T,y,s,j,M.k b d,(M.h b d).trans z,A,DRs.mono M s u B⟩
 |c,.ptr o r,l,H=>by simp only[VR,Va.all]at *;obtain⟨g,b,j,d⟩:=H;exact⟨g,b,q o g l j,d⟩
 |c,.cs o r,l,H=>by simp only[VR,Va.all]at *;obtain⟨g,b,j,d⟩:=H;exact⟨g,b,q o g l j,d⟩
 |c,.el o C i r,l,H=>by simp only[VR,Va.all]at *;obtain⟨g,b,n,m,j,d⟩:=H;exact⟨g,b,n,m,q o g l j,d⟩
 |c,.buf o,l,H=>by simp only[VR,Va.all]at *;obtain⟨g,j,d⟩:=H;exact⟨g,q o g l j,d⟩
 |c,.mp o,l,H=>by simp only[VR,Va.all]at *;obtain⟨g,b,j,d⟩:=H;exact⟨g,b,q o g l j,d⟩
 |c,.np o,l,H=>by
  simp only[VR,Va.all]at *;rcases H with H|⟨g,b,j,d⟩
  .exact .inl H
  .exact .inr ⟨g,b,q o g l j,d⟩
 |c,.sd o,l,H=>by simp only[VR,Va.all]at *;obtain⟨g,a,n,m,j,d⟩:=H;exact⟨g,a,n,m,q o g l j,d⟩
 |c,.vw o _ _ _,l,H=>by simp only[VR,Va.all]at *;obtain⟨g,a,n,m,j,d⟩:=H;exact⟨g,a,n,m,q o g l j,d⟩
 |c,.bufc o _,l,H=>by simp only[VR,Va.all]at *;obtain⟨g,a,n,m,j,d⟩:=H;exact⟨g,a,n,m,q o g l j,d⟩
 |c,.nv o _,l,H=>by simp only[VR,Va.all]at *;obtain⟨g,a,n,m,j,d⟩:=H;exact⟨g,a,n,m,q o g l j,d⟩
 |c,.ne o _ _ _ _,l,H=>by simp only[VR,Va.all]at *;obtain⟨g,b,n,m,j,d⟩:=H;exact⟨g,b,n,m,q o g l j,d⟩
 |c,.fn g s,l,H=>by
  simp only[VR,Va.all]at *;obtain⟨cs,j,d⟩:=H;exact⟨cs,j,VRs.keep M q cs s l d⟩
 |c,.agg s,l,H=>by
  simp only[VR,Va.all]at *;obtain⟨cs,j,d⟩:=H;exact⟨cs,j,VRs.keep M q cs s l d⟩
 |c,.tup s,l,H=>by
  simp only[VR,Va.all]at *;obtain⟨cs,j,d⟩:=H;exact⟨cs,j,VRs.keep M q cs s l d⟩
 |c,.nil,_,H=>by simpa [VR]using H
 |c,.cnd t v,l,H=>by
  simp only[VR,Va.all]at *;exact⟨fun e=>VR.keep M q c v l (H.1 e),H.2⟩
 |c,.raw v,_,H=>by simpa [VR]using H
 |c,.er v,_,H=>by simpa [VR]using H
 |c,.top,_,_=>by simp[VR]
theorem VRs.keep(M:Mn K K' h h')(b:Mg f G G'):∀(cs:List Value) (vs:List Va),dp f vs=true->VRs K h G cs vs->VRs K' h' G' cs vs
 |cs,[],_,H=>by simpa [VRs]using H
 |cs,v::vs,d,H=>by simp only[VRs,dp,Bool.and_eq_true]at *;obtain⟨c,a,e,g,i⟩:=H;exact⟨c,a,e,VR.keep M b c v d.1 g,VRs.keep M b a vs d.2 i⟩
end
end
mutual
theorem Va.all_true:∀v:Va,v.all (fun _=>true)=true
 |.p _|.nils|.full _|.rp _|.ptr _ _|.cs _ _|.el _ _ _ _|.buf _|.mp _|.np _|.sd _|.vw _ _ _ _|.bufc _ _|.nv _ _|.ne _ _ _ _ _|.nil|.raw _|.er _|.top=>rfl
 |.fn _ a=>df a
 |.agg a=>df a
 |.tup a=>df a
 |.cnd _ v=>Va.all_true v
theorem df:∀a:List Va,dp (fun _=>true) a=true
 |[]=>rfl
 |v::a=>by simp only[dp,Va.all_true v,df a,Bool.and_self]
end
section
variable {K K':Nat->Prop} {h h':Array Obj} {G G':List Gh}
theorem VR.grow(M:Mn K K' h h')(a:∀(o:Nat) (g:Gh),G[o]?=some g->G'[o]?=some g)(c:Value)(v:Va)(H:VR K h G c v):VR K' h' G' c v :=
 VR.keep (f:=fun _=>true) M (fun o g _=>a o g) c v (Va.all_true v) H
theorem VRs.grow(M:Mn K K' h h')(a:∀(o:Nat) (g:Gh),G[o]?=some g->G'[o]?=some g)(cs:List Value)(vs:List Va)(H:VRs K h G cs vs):VRs K' h' G' cs vs :=
 VRs.keep (f:=fun _=>true) M (fun o g _=>a o g) cs vs (df vs) H
end
inductive Tk where
 |other|str|bool
 |int (k:IntKind)
 |ptr (e:TypeId)
 |slice (e:TypeId) (esz ebytes:Nat) (ezero:List Value)
 |arr (n:Nat) (e:TypeId) (esz:Nat) (eagg:Bool)
 |struct (fs:List (Nat×Nat×Bool))
 |map (k e:TypeId)
structure Ti where
 agg:Bool
 size:Nat
 zero:List Value
 kind:Tk
def eV(P:Program)(t:TypeId):Bool:=match P.underlying t with
 |some (.struct _)|some (.array _ _)=>true
 |_=>false
def hD(P:Program)(t:TypeId):Option Nat:=(P.info? t).map (·.size)
def xR(P:Program)(t:TypeId):Option (List Value):=(P.info? t).bind fun i=>i.zero.map (·.cells.toList)
def yw(P:Program):List Field->Option (List (Nat×Nat×Bool))
 |[]=>some []
 |f::a=>match hD P f.type,P.underlying f.type,yw P a with
  |some n,some _,some l=>some ((f.offset,n,eV P f.type)::l)
  |_,_,_=>none
def u1(P:Program):TypeDesc->Tk
 |.bool=>.bool
 |.int k=>.int k
 |.string=>.str
 |.pointer e=>.ptr e
 |.slice e=>match P.info? e,xR P e with
  |some i,some z=>.slice e i.size i.bytes z
  |_,_=>.other
 |.array n e=>match hD P e,P.underlying e with
  |some s,some _=>.arr n e s (eV P e)
  |_,_=>.other
 |.struct a=>match yw P a.toList with
  |some l=>.struct l
  |none=>.other
 |.map k e=>.map k e
 |_=>.other
def eB(P:Program)(t:TypeId):Option Ti :=
 match P.underlying t,hD P t,xR P t with
 |some d,some n,some z=>some ⟨eV P t,n,z,u1 P d⟩
 |_,_,_=>none
section
variable {P:Program} {t:TypeId} {r:Ti} (h:eB P t=some r)
include h
theorem uN:∃d,P.underlying t=some d/\r.kind=u1 P d/\r.agg=eV P t:=by
 unfold eB at h;split at h
 .rename_i d n z a b c;cases h;exact⟨d,a,rfl,rfl⟩
 .cases h
theorem OA:∃i z,P.info? t=some i/\i.size=r.size/\i.zero=some z/\z.cells.toList=r.zero:=by
 unfold eB at h;split at h
 .rename_i d n z g a b;cases h;unfold hD at a;unfold xR at b;cases hi:P.info? t with
  |none=>simp[hi]at a
  |some i =>
   simp[hi]at a b;obtain⟨f,c,e⟩:=b;exact⟨i,f,rfl,a,c,e⟩
 .cases h
end
section
variable {P:Program} {t:TypeId} {r:Ti} (w:World)
theorem jT(h:eB P t=some r):(isAgg t).run P w=.ok r.agg w:=by
 obtain⟨d,a,_,b⟩:=uN h;rw[b];simp only[isAgg,underlying,eV,Sem.run_bind,run_program,Result.andThen_ok,a];cases d <;> rfl
theorem run_sizeOf(h:eB P t=some r):(sizeOf t).run P w=.ok r.size w:=by obtain⟨i,z,a,b,_,_⟩:=OA h;simp[sizeOf,typeInfo,a,b]
theorem Sy(h:eB P t=some r):∃z,(zeroValue t).run P w=.ok z w/\z.cells.toList=r.zero:=by obtain⟨i,z,a,d,b,c⟩:=OA h;exact⟨z,by simp[zeroValue,typeInfo,a,b],c⟩
end
abbrev ey:=List (Nat×Va)
def eR:ey->Nat->Va
 |[],_=>.top
 |(k,v)::E,m=>if k=m then v else eR E m
def eP(E:ey):Option Nat->Va->ey
 |some d,v=>(d,v)::E
 |none,_=>E
def cv:Value->Va
 |.bool x=>.p (.b x)
 |.int k n=>.p (.i k n)
 |.string s=>.p (.s s.data.toList)
 |.slice none 0 0=>.nils
 |.pointer none=>.nil
 |v=>.raw v
def xe:Value->Prop
 |.int k n=>Fits k n
 |.string s=>s.data.toList.length<=eE
 |_=>True
def eN(E:ey):Operand->Va
 |.tmp t=>eR E t
 |.const v=>cv v
 |.func f=>.fn f []
 |.global g=>.raw (.pointer (some ⟨g,0,none⟩))
def ub:Operand->Prop
 |.const v=>xe v
 |_=>True
def mY:Va->Va
 |.cnd _ v=>v
 |v=>v
def FL:Va->Bool
 |.cnd c _=>c
 |_=>true
def opnd(E:ey)(x:Operand):Va:=mY (eN E x)
def opOk(g:Bool)(E:ey)(x:Operand):Prop:=ub x/\(g=true->FL (eN E x)=true)
def ja(K:Nat->Prop)(h:Array Obj)(G:List Gh)(a:Act)(E:ey):Prop:=∀m,VR K h G (a.tmps.getD m undef) (eR E m)
section
variable {K:Nat->Prop} {h:Array Obj} {G:List Gh} {a:Act} {E:ey}
theorem Cj(v:Value)(a:xe v):VR K h G v (cv v):=by
 unfold cv;split <;> simp_all[VR,DR,xe]
theorem k7(b:ja K h G a E)(x:Operand)(c:ub x):VR K h G (a.eval x) (eN E x):=by
 cases x with
 |tmp t=>exact b t
 |const v=>exact Cj v c
 |func f=>simp[eN,Act.eval,VR,VRs]
 |global g=>simp[eN,Act.eval,VR]
theorem OM{c:Value}{v:Va}(a:VR K h G c v)(b:FL v=true):VR K h G c (mY v):=by cases v <;> first|exact a|(simp only[VR,FL]at a b;exact a.1 b)
theorem zG(c:ja K h G a E){g:Bool}(d:g=true)(x:Operand)(b:opOk g E x):VR K h G (a.eval x) (opnd E x) :=
 OM (k7 c x b.1) (b.2 d)
end
section
variable {K:Nat->Prop} {h:Array Obj} {G:List Gh}
theorem DRs.length:∀{vs:List Value} {ds:List Dt},DRs K h vs ds->vs.length=ds.length
 |vs,[],H=>by simp only[DRs]at H;subst H;rfl
 |vs,d::ds,H=>by simp only[DRs]at H;obtain⟨v,a,rfl,_,b⟩:=H;simp[DRs.length b]
theorem DRs.get:∀{vs:List Value} {b:List Dt},DRs K h vs b->∀(j:Nat) (d:Dt),b[j]?=some d->∃v,vs[j]?=some v/\DR K h v d
 |vs,[],H,j,d,a=>by simp at a
 |vs,e::b,H,j,d,a=>by
  simp only[DRs]at H;obtain⟨v,c,rfl,f,g⟩:=H;cases j with
  |zero=>simp at a;subst a;exact⟨v,rfl,f⟩
  |succ j=>simp at a;simpa using DRs.get g j d a
theorem DRs.take:∀{a:List Value} {b:List Dt},DRs K h a b->∀n,DRs K h (a.take n) (b.take n)
 |a,[],H,n=>by simp only[DRs]at H;subst H;simp[DRs]
 |a,d::b,H,0=>by simp[DRs]
 |a,d::b,H,n+1=>by simp only[DRs]at H;obtain⟨v,c,rfl,e,f⟩:=H;simp only[take_succ_cons,DRs];exact⟨v,_,rfl,e,DRs.take f n⟩
theorem DRs.drop:∀{a:List Value} {b:List Dt},DRs K h a b->∀n,DRs K h (a.drop n) (b.drop n)
 |a,[],H,n=>by simp only[DRs]at H;subst H;simp[DRs]
 |a,d::b,H,0=>by simpa using H
 |a,d::b,H,n+1=>by
  simp only[DRs]at H;obtain⟨v,c,rfl,f,e⟩:=H;simpa using DRs.drop e n
theorem DRs.append:∀{a b:List Value} {c es:List Dt},DRs K h a c->DRs K h b es->DRs K h (a++b) (c++es)
 |a,b,[],es,H,e=>by simp only[DRs]at H;subst H;simpa using e
 |a,b,d::c,es,H,e=>by simp only[DRs]at H;obtain⟨v,f,rfl,g,i⟩:=H;simp only[cons_append,DRs];exact⟨v,_,rfl,g,DRs.append i e⟩
theorem DRs.set:∀{vs:List Value} {ds:List Dt} {v:Value} {d:Dt},DRs K h vs ds->DR K h v d->∀j,DRs K h (vs.set j v) (ds.set j d)
 |vs,[],v,d,H,_,j=>by simp only[DRs]at H;subst H;simp[DRs]
 |vs,e::ds,v,d,H,b,0=>by
  simp only[DRs]at H;obtain⟨u,a,rfl,f,c⟩:=H;simp only[set_cons_zero,DRs];exact⟨v,a,rfl,b,c⟩
 |vs,e::ds,v,d,H,b,j+1=>by simp only[DRs]at H;obtain⟨u,a,rfl,f,c⟩:=H;simp only[set_cons_succ,DRs];exact⟨u,_,rfl,f,DRs.set c b j⟩
theorem DRs.vrs:∀{a:List Value} {b:List Dt},DRs K h a b->VRs K h G a (b.map .p)
 |a,[],H=>by simpa [DRs,VRs]using H
 |a,d::b,H=>by simp only[DRs]at H;obtain⟨v,c,rfl,e,f⟩:=H;simp only[map_cons,VRs,VR];exact⟨v,c,rfl,e,DRs.vrs f⟩
theorem DRss.length{sz:Nat}:∀{vs:List Value} {c:List (List Dt)},DRss K h sz vs c->vs.length=c.length*sz
 |vs,[],H=>by simp only[DRss]at H;subst H;simp
 |vs,r::c,H=>by simp only[DRss]at H;obtain⟨a,b,rfl,d,e,f⟩:=H;simp[e.length,DRss.length f,d,Nat.add_mul,Nat.add_comm]
theorem DRss.get{sz:Nat}:∀{vs:List Value} {c:List (List Dt)},DRss K h sz vs c->∀(i:Nat),i<c.length->DRs K h ((vs.drop (i*sz)).take sz) (c.getD i [])/\(c.getD i []).length=sz
 |vs,[],H,i,hi=>by simp at hi
 |vs,r::c,H,i,hi=>by
  simp only[DRss]at H;obtain⟨a,b,rfl,f,d,g⟩:=H;have k:=d.length;cases i with
  |zero =>
   have:(a++b).take sz=a:=by rw[take_append_of_le_length (by omega)];exact take_of_length_le (by omega)
   simp only[Nat.zero_mul,drop_zero,this,getD_cons_zero];exact⟨d,f⟩
  |succ i =>
   have e:(a++b).drop ((i+1)*sz)=b.drop (i*sz):=by
    rw[drop_append];have j:(i+1)*sz-a.length=i*sz:=by rw[Nat.add_mul];omega
    rw[j,drop_eq_nil_of_le (by rw[Nat.add_mul];omega)];simp
   rw[e];simpa using DRss.get g i (by simpa using hi)
theorem DRss.append{sz:Nat}:∀{d c:List Value} {e qs:List (List Dt)},DRss K h sz d e->DRss K h sz c qs->DRss K h sz (d++c) (e++qs)
 |d,c,[],qs,H,f=>by simp only[DRss]at H;subst H;simpa using f
 |d,c,r::e,qs,H,f=>by simp only[DRss]at H;obtain⟨a,b,rfl,g,i,j⟩:=H;simp only[cons_append,DRss];exact⟨a,b++c,by simp,g,i,DRss.append j f⟩
theorem DRss.drop{sz:Nat}:∀{c:List Value} {d:List (List Dt)},DRss K h sz c d->∀n,DRss K h sz (c.drop (n*sz)) (d.drop n)
 |c,[],H,n=>by simp only[DRss]at H;subst H;simp[DRss]
 |c,r::d,H,0=>by simpa using H
 |c,r::d,H,n+1=>by
  simp only[DRss]at H;obtain⟨a,b,rfl,j,f,g⟩:=H;have k:=f.length;have e:(a++b).drop ((n+1)*sz)=b.drop (n*sz):=by
   rw[drop_append];have i:(n+1)*sz-a.length=n*sz:=by rw[Nat.add_mul];omega
   rw[i,drop_eq_nil_of_le (by rw[Nat.add_mul];omega)];simp
  rw[e];simpa using DRss.drop g n
theorem DRss.take{sz:Nat}:∀{c:List Value} {d:List (List Dt)},DRss K h sz c d->∀n,DRss K h sz (c.take (n*sz)) (d.take n)
 |c,[],H,n=>by simp only[DRss]at H;subst H;simp[DRss]
 |c,r::d,H,0=>by simp[DRss]
 |c,r::d,H,n+1=>by
  simp only[DRss]at H;obtain⟨a,b,rfl,g,f,i⟩:=H;have k:=f.length;have e:(a++b).take ((n+1)*sz)=a++b.take (n*sz):=by
   rw[take_append];have j:(n+1)*sz-a.length=n*sz:=by rw[Nat.add_mul];omega
   rw[j,take_of_length_le (by rw[Nat.add_mul];omega)]
  rw[e];simp only[take_succ_cons,DRss];exact⟨a,_,rfl,g,f,DRss.take i n⟩
theorem VRs.length:∀{cs:List Value} {vs:List Va},VRs K h G cs vs->cs.length=vs.length
 |cs,[],H=>by simp only[VRs]at H;subst H;rfl
 |cs,v::vs,H=>by simp only[VRs]at H;obtain⟨c,a,rfl,_,b⟩:=H;simp[VRs.length b]
theorem VRs.get:∀{cs:List Value} {vs:List Va},VRs K h G cs vs->∀(j:Nat) (v:Va),vs[j]?=some v->∃c,cs[j]?=some c/\VR K h G c v
 |cs,[],H,j,d,a=>by simp at a
 |cs,e::vs,H,j,d,a=>by
  simp only[VRs]at H;obtain⟨c,b,rfl,f,g⟩:=H;cases j with
  |zero=>simp at a;subst a;exact⟨c,rfl,f⟩
  |succ j=>simp at a;simpa using VRs.get g j d a
theorem VRs.take:∀{cs:List Value} {a:List Va},VRs K h G cs a->∀n,VRs K h G (cs.take n) (a.take n)
 |cs,[],H,n=>by simp only[VRs]at H;subst H;simp[VRs]
 |cs,d::a,H,0=>by simp[VRs]
 |cs,d::a,H,n+1=>by simp only[VRs]at H;obtain⟨v,b,rfl,c,e⟩:=H;simp only[take_succ_cons,VRs];exact⟨v,_,rfl,c,VRs.take e n⟩
theorem VRs.drop:∀{cs:List Value} {a:List Va},VRs K h G cs a->∀n,VRs K h G (cs.drop n) (a.drop n)
 |cs,[],H,n=>by simp only[VRs]at H;subst H;simp[VRs]
 |cs,d::a,H,0=>by simpa using H
 |cs,d::a,H,n+1=>by
  simp only[VRs]at H;obtain⟨v,b,rfl,e,c⟩:=H;simpa using VRs.drop c n
theorem VRs.append:∀{cs es:List Value} {b a:List Va},VRs K h G cs b->VRs K h G es a->VRs K h G (cs++es) (b++a)
 |cs,es,[],a,H,c=>by simp only[VRs]at H;subst H;simpa using c
 |cs,es,d::b,a,H,c=>by simp only[VRs]at H;obtain⟨v,e,rfl,f,g⟩:=H;simp only[cons_append,VRs];exact⟨v,_,rfl,f,VRs.append g c⟩
theorem VRs.set:∀{cs:List Value} {vs:List Va} {c:Value} {v:Va},VRs K h G cs vs->VR K h G c v->∀j,VRs K h G (cs.set j c) (vs.set j v)
 |cs,[],c,v,H,_,j=>by simp only[VRs]at H;subst H;simp[VRs]
 |cs,e::vs,c,v,H,b,0=>by
  simp only[VRs]at H;obtain⟨u,a,rfl,f,d⟩:=H;simp only[set_cons_zero,VRs];exact⟨c,a,rfl,b,d⟩
 |cs,e::vs,c,v,H,b,j+1=>by simp only[VRs]at H;obtain⟨u,a,rfl,f,d⟩:=H;simp only[set_cons_succ,VRs];exact⟨u,_,rfl,f,VRs.set d b j⟩
end
class Tabs where
 tab:Nat->Option (IntKind×List Int)
 ifc:Nat->Bool
 nest:TypeId->Option (Nat×TypeId×Nat):=fun _=>none
 mono:Prop:=False
 num:Nat->Bool:=fun _=>false
def TabOk[Tabs](K:Nat->Prop)(h:Array Obj):Prop:=(∀b k l,Tabs.tab b=some (k,l)->K b/\(∃T a,h[b]?=some (.cells (l.map (Value.int k)).toArray T a))/\∀n∈l,Fits k n) /\
 (∀b,Tabs.ifc b=true->K b/\∃c T a,h[b]?=some (.cells #[c] T a)/\(c=.nilIface∨∃d e,c=.iface d e)) /\
 ∀b,Tabs.num b=true->K b/\∃c T a m,h[b]?=some (.cells c T a)/\c[0]?=some (.int .i64 m)
theorem TabOk.mono[Tabs]{K K':Nat->Prop}{h h':Array Obj}(H:TabOk K h)(M:Mn K K' h h'):TabOk K' h':=⟨fun b k l e=>by
 obtain⟨a,⟨T,c,d⟩,f⟩:=H.1 b k l e;exact⟨M.k b a,⟨T,c,by rw[M.h b a];exact d⟩,f⟩,fun b e=>by
 obtain⟨a,g,T,c,d,f⟩:=H.2.1 b e;exact⟨M.k b a,g,T,c,by rw[M.h b a];exact d,f⟩,fun b e=>by
 obtain⟨a,c,T,m,d⟩:=H.2.2 b e;exact⟨M.k b a,c,T,m,by rw[M.h b a];exact d⟩⟩
variable [Tabs]
structure St(K:Nat->Prop)(G:List Gh)(H:List Ob)(w:World):Prop where
 len:G.length=H.length
 kb:∀b,K b->b<w.heap.size
 gbo:∀(o:Nat) (g:Gh) (b:Nat),G[o]?=some g->own g b->b<w.heap.size/\¬ K b
 ijo:∀(o o':Nat) (g g':Gh) (b:Nat),G[o]?=some g->G[o']?=some g'->own g b->own g' b->o=o'
 ob:∀(o:Nat) (g:Gh) (x:Ob),G[o]?=some g->H[o]?=some x->ObR K w.heap G g x
 tb:TabOk K w.heap
theorem St.gb{K:Nat->Prop}{G:List Gh}{H:List Ob}{w:World}(h:St K G H w)(o:Nat)(g:Gh)(b:Nat)(a:G[o]?=some g)(hb:g.blk=some b):b<w.heap.size/\¬ K b:=h.gbo o g b a (.inl hb)
theorem St.inj{K:Nat->Prop}{G:List Gh}{H:List Ob}{w:World}(h:St K G H w)(o o':Nat)(g a:Gh)(b:Nat)(e:G[o]?=some g)(c:G[o']?=some a)(hb:g.blk=some b)(d:a.blk=some b):o=o':=h.ijo o o' g a b e c (.inl hb) (.inl d)
theorem St.ghost{K:Nat->Prop}{G:List Gh}{H:List Ob}{w:World}(h:St K G H w){o:Nat}{x:Ob}(a:H[o]?=some x):∃g,G[o]?=some g/\ObR K w.heap G g x:=by
 have b:o<G.length:=by rw[h.len];exact(List.getElem?_eq_some_iff.1 a).1
 exact⟨G[o],getElem?_eq_getElem b,h.ob o _ x (getElem?_eq_getElem b) a⟩
structure Pv where
 v:Va
 ok:Prop
def eC:Pv:=⟨.top,False⟩
theorem Fits.wrap(k:IntKind)(n:Int):Fits k (k.wrap n):=by cases k <;> simp only[Fits,lo,hi,IntKind.wrap,IntKind.bits,IntKind.signed] <;> (constructor <;> (simp;omega))
theorem dq(k:IntKind):lo k<=0/\0<=hi k:=by cases k <;> simp[lo,hi]
theorem Fits.tmod{k:IntKind}{a:Int}(h:Fits k a)(b:Int):Fits k (a.tmod b):=by
 obtain⟨e,f⟩:=h;have g:=dq k;have i:=Int.natAbs_tmod a b;have j:=Nat.mod_le a.natAbs b.natAbs;rcases Int.le_total 0 a with c|c
 .have:=Int.tmod_nonneg b c;constructor <;> omega
 .have d:=Int.tmod_nonneg b (a:=-a) (by omega);rw[Int.neg_tmod]at d;constructor <;> omega
theorem Fits.fdiv{k:IntKind}{a:Int}(h:Fits k a)(n:Nat):Fits k (a.fdiv (2^n)):=by
 obtain⟨i,j⟩:=h;have l:=dq k;have d:(0:Int)<2^n:=by exact_mod_cast Nat.pow_pos (n:=n) (by omega:0<2)
 rw[Int.fdiv_eq_ediv_of_nonneg _ (by omega)];rcases Int.le_total 0 a with c|c
 .have:=Int.ediv_le_self (2^n) c;have:=Int.ediv_nonneg c (Int.le_of_lt d);constructor <;> omega
 .have m:a<=a / 2^n:=by
   have e:=Int.le_ediv_iff_mul_le (a:=a) (b:=a) d;have f:a*2^n<=a:=by
    have g:(1:Int)<=2^n:=by omega
    have:=Int.mul_le_mul_of_nonpos_left c g;simpa using this
   exact e.2 f
  have o:a / 2^n<=0:=by
   have:=Int.ediv_le_ediv d c;simpa using this
  constructor <;> omega
def fl(op:BinOp)(k:IntKind)(x y:Int):Int :=
 let a:=BitVec.ofInt k.bits x;let b:=BitVec.ofInt k.bits y;match op with
 |.and=>k.wrap (a &&& b).toNat
 |.or=>k.wrap (a ||| b).toNat
 |.xor=>k.wrap (a ^^^ b).toNat
 |_=>k.wrap (a &&& ~~~b).toNat
theorem Fits.bits(op:BinOp)(k:IntKind)(x y:Int):Fits k (fl op k x y):=by unfold fl;split <;> exact Fits.wrap _ _
def fA(k:IntKind)(y:Int):Nat:=min y.toNat k.bits
def i5(op:BinOp)(k:IntKind)(a:Int)(c:IntKind)(b:Int):Pv:=match op with
 |.shl=>⟨.p (.i k (k.wrap (a*2^fA k b))),0<=b⟩
 |.shr=>⟨.p (.i k (a.fdiv (2^fA k b))),0<=b⟩
 |.add=>⟨.p (.i k (k.wrap (a+b))),k=c⟩
 |.sub=>⟨.p (.i k (k.wrap (a-b))),k=c⟩
 |.mul=>⟨.p (.i k (k.wrap (a*b))),k=c⟩
 |.quo=>⟨.p (.i k (k.wrap (a.tdiv b))),k=c/\¬ b=0⟩
 |.rem=>⟨.p (.i k (a.tmod b)),k=c/\¬ b=0⟩
 |.and=>⟨.p (.i k (fl .and k a b)),k=c⟩
 |.or=>⟨.p (.i k (fl .or k a b)),k=c⟩
 |.xor=>⟨.p (.i k (fl .xor k a b)),k=c⟩
 |.andNot=>⟨.p (.i k (fl .andNot k a b)),k=c⟩
 |.eql=>⟨.p (.b (decide (a=b))),k=c⟩
 |.neq=>⟨.p (.b (!decide (a=b))),k=c⟩
 |.lss=>⟨.p (.b (decide (a<b))),k=c⟩
 |.leq=>⟨.p (.b (decide (a<=b))),k=c⟩
 |.gtr=>⟨.p (.b (decide (b<a))),k=c⟩
 |.geq=>⟨.p (.b (decide (b<=a))),k=c⟩
def sy(a b:List UInt8):Bool:=Op.bytesLess a b
def xv(op:BinOp)(a b:List UInt8):Pv:=match op with
 |.add=>⟨.p (.s (a++b)),(a++b).length<=eE⟩
 |.eql=>⟨.p (.b (decide (a=b))),True⟩
 |.neq=>⟨.p (.b (!decide (a=b))),True⟩
 |.lss=>⟨.p (.b (sy a b)),True⟩
 |.leq=>⟨.p (.b (sy a b||decide (a=b))),True⟩
 |.gtr=>⟨.p (.b (!(sy a b||decide (a=b)))),True⟩
 |.geq=>⟨.p (.b (!sy a b)),True⟩
 |_=>eC
section
variable {K:Nat->Prop} {G:List Gh} {H:List Ob} {w:World} {P:Program}
theorem CC{α:Type}[BEq α][LawfulBEq α][DecidableEq α](a b:α):(a == b)=decide (a=b):=by by_cases h:a=b <;> simp[h]
theorem jB{h:Array Obj}{k:IntKind}{n:Int}(a:Fits k n):VR K h G (.int k n) (.p (.i k n)):=by simpa only[VR,DR,true_and]using a
theorem fX{h:Array Obj}{x y:Bool}(e:x=y):VR K h G (.bool x) (.p (.b y)):=by subst e;simp only[VR,DR]
theorem xJ{h:Array Obj}{x:List UInt8}(a:x.length<=eE):VR K h G (.string ⟨x.toArray⟩) (.p (.s x)):=by simpa only[VR,DR,true_and]using a
theorem Ts(op:BinOp)(t:TypeId)(x y:Operand)(a b:Value)(d:∀c,a≠.agg c)(e:a≠.nilIface):(eqGuard op t x y a b).run P w=.ok () w:=by
 unfold eqGuard;cases op <;> first|rfl|(cases a <;> first|rfl|exact absurd rfl (d _)|exact absurd rfl e)
theorem Bj{op:BinOp}{k e:IntKind}{a b:Int}(t:TypeId)(g:Fits k a)(d:(i5 op k a e b).ok) :
  ∃c,(binOp op t (.int k a) (.int e b)).run P w=.ok c w/\VR K w.heap G c (i5 op k a e b).v:=by
 cases op;case shl =>
  simp only[i5]at d|-;exact⟨_,by simp only[binOp,Op.shift,if_neg (Int.not_lt.2 d)];rfl,jB (Fits.wrap _ _)⟩
 case shr =>
  simp only[i5]at d|-;exact⟨_,by simp only[binOp,Op.shift,if_neg (Int.not_lt.2 d)];rfl,jB (Fits.fdiv g _)⟩
 case quo =>
  simp only[i5]at d|-;obtain⟨rfl,f⟩:=d;exact⟨_,by simp only[binOp,Op.intDiv,ne_eq,not_true_eq_false,if_false,if_neg f];rfl,jB (Fits.wrap _ _)⟩
 case rem =>
  simp only[i5]at d|-;obtain⟨rfl,f⟩:=d;exact⟨_,by simp only[binOp,Op.intDiv,ne_eq,not_true_eq_false,if_false,if_neg f];rfl,jB (Fits.tmod g _)⟩
 case and|or|xor|andNot =>
  simp only[i5]at d|-;subst d;exact⟨_,by simp only[binOp,Op.intBits,ne_eq,not_true_eq_false,if_false];rfl,jB (Fits.bits _ _ _ _)⟩
 case add|sub|mul =>
  simp only[i5]at d|-;subst d;exact⟨_,by simp only[binOp,Op.intArith,ne_eq,not_true_eq_false,if_false];rfl,jB (Fits.wrap _ _)⟩
 all_goals
  simp only[i5]at d|-;subst d;exact⟨_,by simp only[binOp,Op.intCmp,ne_eq,not_true_eq_false,if_false];rfl,fX (by simp[bne,CC])⟩
theorem Bi{op:BinOp}{a b:List UInt8}(t:TypeId)(d:(xv op a b).ok) :
  ∃c,(binOp op t (.string ⟨a.toArray⟩) (.string ⟨b.toArray⟩)).run P w=.ok c w/\VR K w.heap G c (xv op a b).v:=by
 cases op <;> simp only[xv]at d|- <;> try (exact d.elim)
 case add =>
  have f:¬ (((⟨a.toArray⟩:ByteArray).size+(⟨b.toArray⟩:ByteArray).size:Nat):Int) > IntKind.i64.max:=by
   simp only[ByteArray.size,size_toArray];have:IntKind.i64.max=9223372036854775807:=by decide
   rw[this];simp only[length_append,eE]at d;omega
  have e:(⟨a.toArray⟩++⟨b.toArray⟩:ByteArray)=⟨(a++b).toArray⟩:=by apply ByteArray.ext;simp
  exact⟨_,by simp only[binOp,Op.stringOp,if_neg f,e];rfl,xJ d⟩
 all_goals
  exact⟨_,by simp only[binOp,Op.stringOp,ByteArray.toList_mk];rfl,fX (by simp[sy,CC])⟩
end
def eD:List Ob->Nat->Ob
 |[],_=>.gone
 |x::_,0=>x
 |_::l,n+1=>eD l n
theorem zu:∀{H:List Ob} {o:Nat} {x:Ob},eD H o=x->x≠.gone->H[o]?=some x
 |[],_,_,h,a=>by simp[eD]at h;exact absurd h.symm a
 |x::l,0,y,h,_=>by simp[eD]at h;simp[h]
 |x::l,n+1,y,h,a=>by simp only[eD]at h;simpa using zu h a
def sC(H:List Ob)(o:Nat):Option (TypeId×Nat×List (List Dt)×Bool):=match eD H o with
 |.buf T b a=>some (T,b,a,false)
 |.fx T b a=>some (T,b,a,true)
 |_=>none
def wc(f:Bool)(T:TypeId)(sz:Nat)(rows:List (List Dt)):Ob:=bif f then .fx T sz rows else .buf T sz rows
theorem Pw{H:List Ob}{o:Nat}{T:TypeId}{sz:Nat}{rows:List (List Dt)}{f:Bool}(h:sC H o=some (T,sz,rows,f)):H[o]?=some (wc f T sz rows):=by
 unfold sC at h;split at h
 .rename_i a;cases h;exact zu a (by simp[wc])
 .rename_i a;cases h;exact zu a (by simp[wc])
 .cases h
theorem lv{K:Nat->Prop}{h:Array Obj}{G:List Gh}{g:Gh}{f:Bool}{T:TypeId}{sz:Nat}{rows:List (List Dt)}:ObR K h G g (wc f T sz rows)=ObR K h G g (.buf T sz rows):=by cases f <;> rfl
theorem St.bufOb{K:Nat->Prop}{G:List Gh}{H:List Ob}{w:World}(a:St K G H w){o:Nat}{T:TypeId}{sz:Nat}{rows:List (List Dt)}{f:Bool}{g:Gh}(h:sC H o=some (T,sz,rows,f))(b:G[o]?=some g):ObR K w.heap G g (.buf T sz rows):=by rw[<-lv (f:=f)];exact a.ob o g _ b (Pw h)
def wD(l:List Dt)(j:Nat):Va:=match l.drop j with
 |d::_=>.p d
 |[]=>.top
def tT(l:List Va)(j:Nat):Va:=match l.drop j with
 |d::_=>d
 |[]=>.top
theorem kx{α:Type}:∀{l:List α} {j:Nat} {d:α} {r:List α},l.drop j=d::r->l[j]?=some d
 |[],_,_,_,h=>by simp at h
 |x::l,0,d,r,h=>by simp at h;simp[h.1]
 |x::l,j+1,d,r,h=>by simp at h;simpa using kx h
def j8(d:Ti)(H:List Ob):Va->Pv
 |.rp f=>bif d.agg then⟨.agg ((f.take d.size).map .p),d.size<=f.length⟩else⟨wD f 0,0<f.length⟩
 |.ptr o a=>match eD H o with
  |.cells _ h=>bif d.agg then⟨.agg ((h.drop a).take d.size),a+d.size<=h.length⟩else⟨tT h a,a<h.length⟩
  |_=>eC
 |.el o e i a=>match sC H o with
  |some (_,c,b,_)=>bif d.agg then⟨.agg ((((b.getD i []).drop a).take d.size).map .p),e=c/\i<b.length/\a+d.size<=e⟩
   else⟨wD (b.getD i []) a,e=c/\i<b.length/\a<e⟩
  |none=>match eD H o with
   |.nst _ _ c k p b l=>bif d.agg then⟨.agg (((((b.getD i []).map .p).set k (.nv p i)).drop a).take d.size),e=c/\i<b.length/\a+d.size<=e/\l=none⟩
    else bif a == k then⟨.nv p i,e=c/\i<b.length/\l=none⟩else⟨wD (b.getD i []) a,e=c/\i<b.length/\a<e⟩
   |_=>eC
 |.ne p e i j a=>match eD H p with
  |.inn _ c g=>bif d.agg then⟨.agg (((((g.getD i []).getD j []).drop a).take d.size).map .p),e=c/\j<(g.getD i []).length/\a+d.size<=e⟩
   else⟨wD ((g.getD i []).getD j []) a,e=c/\j<(g.getD i []).length/\a<e⟩
  |_=>eC
 |_=>eC
section
variable {K:Nat->Prop} {G:List Gh} {H:List Ob} {w:World} {P:Program}
theorem mz(b a n:Nat):(⟨b,a,none⟩:Addr).add n=⟨b,a+n,none⟩:=by
 unfold Addr.add;split
 .rename_i h;subst h;rfl
 .rfl
theorem Qa{t:TypeId}{a:Ti}(d:eB P t=some a){b off:Nat}{cs:Array Value}{T:TypeId}{e:Nat×Nat}(hb:w.heap[b]?=some (.cells cs T e))
  {c:List Value} (g:∀j v,c[j]?=some v->cs[off+j]?=some v) :
  (a.agg=true->a.size<=c.length->(loadVar t ⟨b,off,none⟩).run P w=.ok (.agg (c.take a.size).toArray) w) /\
  (a.agg=false->∀v,c[0]?=some v->(loadVar t ⟨b,off,none⟩).run P w=.ok v w):=by
 constructor
 .intro f hs;have k:(c.take a.size).length=a.size:=by simp;omega
  have h:=run_loadCells_list (P:=P) w ⟨b,off,none⟩ (c.take a.size) (fun j v i=>by
   rw[mz,cell_of_row w b (off+j) cs T e hb];exact g j v (by rw[getElem?_take]at i;split at i <;> simp_all))
  rw[k]at h;simp only[loadVar,Sem.run_bind,jT w d,Result.andThen_ok,f,if_true,run_sizeOf w d,h,Sem.run_pure]
 .intro f v l;have m:w.cell? ⟨b,off,none⟩=some v:=by rw[cell_of_row w b off cs T e hb];simpa using g 0 v l
  simp[loadVar,jT w d,f,run_load,m]
theorem G8{t:TypeId}{f:Ti}(D:eB P t=some f){y:Option Nat}{E:Value}{T:TypeId}{sz i off b:Nat}{rows:List (List Dt)}(g:bufR K w.heap y E T sz rows)(h:y=some b)(hi:i<rows.length) :
  (f.agg=true->off+f.size<=sz->∃cs:List Value,(Instr.loadAt t (.pointer (some ⟨b,i*sz+off,none⟩))).run P w=.ok (.agg cs.toArray) w/\DRs K w.heap cs (((rows.getD i []).drop off).take f.size)) /\
  (f.agg=false->off<sz->∃c d,(Instr.loadAt t (.pointer (some ⟨b,i*sz+off,none⟩))).run P w=.ok c w/\(rows.getD i [])[off]?=some d/\DR K w.heap c d):=by
 obtain⟨z,F,k,G⟩:=g;rcases G with⟨H,_,A⟩|⟨I,B,l,O,H,C,hb,J,Q,R,S,L⟩
 .rw[h]at A;cases A
 obtain rfl:I=b:=by rw[h]at C;exact(Option.some.inj C).symm
 have M:=k.length;obtain⟨m,N⟩:=k.get i hi;have n:∀j v,(((F.drop (i*sz)).take sz).drop off)[j]?=some v->l[i*sz+off+j]?=some v:=fun j v a=>by
  rw[getElem?_drop,getElem?_take]at a;split at a
  .rw[getElem?_drop,<-L,getElem?_take]at a;split at a
   .rw[<-Array.getElem?_toList,show i*sz+off+j=i*sz+(off+j)by omega];exact a
   .cases a
  .cases a
 obtain⟨o,p⟩:=Qa (P:=P) D hb n;have q:=m.length;constructor
 .intro r e;exact⟨_,by simp only[Instr.loadAt,Instr.sureAddr,Sem.run_bind,Sem.run_pure,Result.andThen_ok];exact o r (by rw[length_drop,q];omega),(m.drop _).take _⟩
 .intro r s;have e:off<(rows.getD i []).length:=by omega
  have a:(rows.getD i [])[off]?=some (rows.getD i [])[off]:=getElem?_eq_getElem e;obtain⟨c,u,x⟩:=m.get off _ a;exact⟨c,_,by simp only[Instr.loadAt,Instr.sureAddr,Sem.run_bind,Sem.run_pure,Result.andThen_ok];exact p r c (by rw[getElem?_drop];simpa using u),a,x⟩
theorem lO{l:List Dt}{j:Nat}{d:Dt}(h:l[j]?=some d):wD l j=.p d:=by
 have a:=(List.getElem?_eq_some_iff.1 h).1;unfold wD;rw[drop_eq_getElem_cons a];rw[getElem?_eq_getElem a]at h;cases h;rfl
theorem BM{k:Nat}:∀{rows:List (List Dt)} {a:List Value},a.length=rows.length->(fT k rows a).length=rows.length
 |[],[],_=>rfl
 |r::rows,v::a,h=>by simp only[fT,length_cons,BM (by simpa using h)]
 |[],_::_,h=>by simp at h
 |_::_,[],h=>by simp at h
theorem AM{k:Nat}:∀{rows:List (List Dt)} {vs:List Value} {i:Nat},vs.length=rows.length->i<rows.length->(fT k rows vs)[i]?=some ((rows.getD i []).set k (.r (vs.getD i undef)))
 |[],_,_,_,h=>by simp at h
 |r::rows,v::vs,0,_,_=>by simp[fT]
 |r::rows,v::vs,i+1,h,hi=>by simpa [fT]using AM (k:=k) (rows:=rows) (vs:=vs) (by simpa using h) (by simpa using hi)
 |_::_,[],_,h,_=>by simp at h
theorem Mz{k:Nat}{rows:List (List Dt)}{a:List Value}(b:a.length=rows.length):∀i,i<rows.length->(fT k rows a).getD i []=(rows.getD i []).set k (.r (a.getD i undef)):=fun i hi=>by rw[getD_eq_getElem?_getD,AM b hi];rfl
theorem k6{v:Value}{x:Va}(b:∀c,c=v->VR K w.heap G c x):∀{r:List Dt} {k:Nat} (off n:Nat) {cs:List Value},DRs K w.heap cs (((r.set k (.r v)).drop off).take n)->VRs K w.heap G cs ((((r.map Va.p).set k x).drop off).take n)
 |[],_,_,_,_,h=>by simpa [DRs,VRs]using h
 |_::_,_,0,0,_,h=>by simpa [DRs,VRs]using h
 |d::r,0,0,n+1,cs,h=>by
  simp only[set_cons_zero,drop_zero,take_succ_cons,map_cons,DRs,VRs,DR]at h|-;obtain⟨c,a,rfl,e,f⟩:=h;refine⟨c,a,rfl,b c e.1,?_⟩;rw[<-map_take];exact DRs.vrs f
 |d::r,k+1,0,n+1,cs,h=>by
  simp only[set_cons_succ,drop_zero,take_succ_cons,map_cons,DRs,VRs]at h|-;obtain⟨c,a,rfl,e,f⟩:=h;refine⟨c,a,rfl,by simpa only[VR]using e,?_⟩;have:=k6 b (r:=r) (k:=k) 0 n (cs:=a) (by simpa using f);simpa using this
 |d::r,0,off+1,n,cs,h=>by
  simp only[set_cons_zero,drop_succ_cons,map_cons]at h|-;rw[<-map_drop,<-map_take];exact DRs.vrs h
 |d::r,k+1,off+1,n,cs,h=>by simp only[set_cons_succ,drop_succ_cons,map_cons]at h|-;exact k6 b off n h
theorem nJ{t:TypeId}{A:Ti}(M:eB P t=some A)(hS:St K G H w){c:Value}{v:Va}(D:VR K w.heap G c v)(h:(j8 A H v).ok) :
  ∃c',(Instr.loadAt t c).run P w=.ok c' w/\VR K w.heap G c' (j8 A H v).v:=by
 cases v <;> simp only[j8]at h|- <;> try (exact h.elim)
 case rp row =>
  simp only[VR]at D;obtain⟨b,off,cs,T,fr,x,rfl,hK,hb,N,Y⟩:=D;obtain⟨E,B⟩:=Qa (P:=P) M hb N;cases l:A.agg <;> simp only[l,cond_true,cond_false]at h|-
  .cases row with
   |nil=>simp at h
   |cons d row =>
    simp only[DRs]at Y;obtain⟨v,vs',rfl,hd1,_⟩:=Y;exact⟨v,by simp[Instr.loadAt,Instr.sureAddr,B l v rfl],by simpa [wD,VR]using hd1⟩
  .refine⟨_,by simp only[Instr.loadAt,Instr.sureAddr,Sem.run_bind,Sem.run_pure,Result.andThen_ok];exact E l (by rw[Y.length];exact h),?_⟩;simp only[VR];exact⟨_,rfl,(Y.take _).vrs⟩
 case ptr o off =>
  split at h;rotate_left
  .exact h.elim
  rename_i O;rename_i x;simp only[VR]at D;obtain⟨g,b,Z,y,rfl⟩:=D;have hob:=hS.ob o g _ Z (zu O (by simp));obtain⟨b',cs,hb',hb,Q⟩:=hob;obtain rfl:b'=b:=by rw[y]at hb';exact(Option.some.inj hb').symm
  have hvd:∀j v,(cs.drop off)[j]?=some v->cs.toArray[off+j]?=some v:=fun j v hj=>by rw[getElem?_drop]at hj;simpa using hj
  obtain⟨E,B⟩:=Qa (P:=P) M hb hvd;have hl:=Q.length;cases l:A.agg <;> simp only[l,cond_true,cond_false]at h|-
  .have hj:x[off]?=some x[off]:=getElem?_eq_getElem h;obtain⟨c,hc1,hc2⟩:=Q.get off _ hj;refine⟨c,by simp only[Instr.loadAt,Instr.sureAddr,Sem.run_bind,Sem.run_pure,Result.andThen_ok];exact B l c (by rw[getElem?_drop];simpa using hc1),?_⟩;have:x.drop off=x[off]::x.drop (off+1):=drop_eq_getElem_cons h;unfold tT;rw[this];exact hc2
  .refine⟨_,by simp only[Instr.loadAt,Instr.sureAddr,Sem.run_bind,Sem.run_pure,Result.andThen_ok];exact E l (by simp;omega),?_⟩;simp only[VR];exact⟨_,rfl,(Q.drop _).take _⟩
 case el o sz i off =>
  simp only[VR]at D;obtain⟨g,b,n,cap,Z,y,hsv,rfl⟩:=D;split at h
  .rename_i T F J fx O;have R:sz=F/\i<J.length:=by cases l:A.agg <;> simp only[l,cond_true,cond_false]at h <;> exact⟨h.1,h.2.1⟩
   obtain⟨rfl,hi⟩:=R;obtain⟨E,B⟩:=G8 (P:=P) (off:=off) M (hS.bufOb O Z) y hi;cases l:A.agg <;> simp only[l,cond_true,cond_false]at h|-
   .obtain⟨c,d,z,q,L⟩:=B l h.2.2;refine⟨c,z,?_⟩;rw[lO q];simpa only[VR]using L
   .obtain⟨cs,z,q⟩:=E l h.2.2;refine⟨_,z,?_⟩;simp only[VR];exact⟨cs,rfl,q.vrs⟩
  .split at h;rotate_left
   .exact h.elim
   rename_i f T F k p J st O;obtain⟨h0,hk,gp,x,hgp,hvl,I,s⟩:=hS.ob o g _ Z (zu O (by simp));have S:=Mz (k:=k) hvl;have U:=BM (k:=k) hvl;cases l:A.agg <;> simp only[l,cond_true,cond_false]at h|-
   .cases V:(off == k) <;> simp only[V,cond_true,cond_false]at h|-
    .obtain⟨rfl,hi,C⟩:=h;obtain⟨_,B⟩:=G8 (P:=P) (off:=off) M s y (by rw[U];exact hi);obtain⟨c,d,z,q,L⟩:=B l C;refine⟨c,z,?_⟩;rw[S i hi,getElem?_set_ne (fun e=>by simp[e]at V)]at q;rw[lO q];simpa only[VR]using L
    .obtain⟨rfl,hi,rfl⟩:=h;obtain rfl:off=k:=by simpa using V
     obtain⟨_,B⟩:=G8 (P:=P) (off:=off) M s y (by rw[U];exact hi);obtain⟨c,d,z,q,L⟩:=B l hk;have W:x[i]?=some (x.getD i undef):=by rw[getD_eq_getElem?_getD,getElem?_eq_getElem (by omega)];rfl
     rw[S i hi]at q;have Y:d=.r (x.getD i undef):=by
      rw[getElem?_set_self (by
       have:=(List.getElem?_eq_some_iff.1 q).1;simpa using this)]at q
      exact(Option.some.inj q).symm
     subst Y;simp only[DR]at L;have u:gp.inn[i]?=some (x.getD i undef):=by rw[<-I.2.1 i (by simp)];exact W
     obtain⟨a,m,cp,N⟩:=I.2.2 _ (mem_of_getElem? u);refine⟨c,z,?_⟩;simp only[VR];exact⟨gp,a,m,cp,hgp,by rw[u,N],by rw[L.1,N]⟩
   .obtain⟨rfl,hi,C,rfl⟩:=h;obtain⟨E,_⟩:=G8 (P:=P) (off:=off) M s y (by rw[U];exact hi);obtain⟨cs,z,q⟩:=E l C;refine⟨_,z,?_⟩;have W:x[i]?=some (x.getD i undef):=by rw[getD_eq_getElem?_getD,getElem?_eq_getElem (by omega)];rfl
    have u:gp.inn[i]?=some (x.getD i undef):=by rw[<-I.2.1 i (by simp)];exact W
    obtain⟨a,m,cp,N⟩:=I.2.2 _ (mem_of_getElem? u);rw[S i hi]at q;simp only[VR];refine⟨cs,rfl,k6 (fun c D=>?_) off A.size q⟩;simp only[VR];exact⟨gp,a,m,cp,hgp,by rw[u,N],by rw[D,N]⟩
 case ne p sz i j off =>
  simp only[VR]at D;obtain⟨g,b,n,cap,Z,u,rfl⟩:=D;split at h;rotate_left
  .exact h.elim
  rename_i T F X O;obtain⟨hb0,hl,hin,_⟩:=hS.ob p g _ Z (zu O (by simp));have hil:=(List.getElem?_eq_some_iff.1 u).1;have hins:X[i]?=some (X.getD i []):=by rw[getElem?_eq_getElem (by omega),getD_eq_getElem?_getD,getElem?_eq_getElem (by omega)];rfl
  have s:=hin i _ _ u hins;have R:sz=F/\j<(X.getD i []).length:=by cases l:A.agg <;> simp only[l,cond_true,cond_false]at h <;> exact⟨h.1,h.2.1⟩
  obtain⟨rfl,hj⟩:=R;obtain⟨E,B⟩:=G8 (P:=P) (off:=off) M s rfl hj;cases l:A.agg <;> simp only[l,cond_true,cond_false]at h|-
  .obtain⟨c,d,z,q,L⟩:=B l h.2.2;refine⟨c,z,?_⟩;rw[lO q];simpa only[VR]using L
  .obtain⟨cs,z,q⟩:=E l h.2.2;refine⟨_,z,?_⟩;simp only[VR];exact⟨cs,rfl,q.vrs⟩
end
inductive Kd where
 |b|s|i (k:IntKind)
mutual
def gZ(P:Program):Nat->TypeId->Option (List Kd)
 |0,_=>none
 |d+1,t=>match P.underlying t with
  |some .bool=>if hD P t=some 1 then some [.b]else none
  |some (.int k)=>if hD P t=some 1 then some [.i k]else none
  |some .string=>if hD P t=some 1 then some [.s]else none
  |some (.struct a)=>if P.stoodInHeld t then none else match lW P d 0 a.toList with
   |some l=>if hD P t=some l.length then some l else none
   |none=>none
  |_=>none
termination_by structural d=>d
def lW(P:Program):Nat->Nat->List Field->Option (List Kd)
 |_,_,[]=>some []
 |0,_,_=>none
 |d+1,a,f::b=>if f.name= "_"∨f.offset≠a then none else match gZ P d f.type with
  |some l=>match lW P d (a+l.length) b with
   |some c=>some (l++c)
   |none=>none
  |none=>none
termination_by structural d=>d
end
def hT(P:Program)(t:TypeId):Option (List Kd):=match P.underlying t with
 |some (.array n e)=>match P.underlying e with
  |some (.int k)=>if hD P e=some 1/\P.cellsOf e=1 then some (List.replicate n (.i k))else none
  |_=>none
 |_=>none
def py(P:Program)(t:TypeId):Option (List Kd):=if P.eqGuardType P.depth t then none else match hT P t with
 |some l=>some l
 |none=>gZ P 60 t
def zI:List Kd->List Dt->Prop
 |[],[]=>True
 |.b::ks,.b _::a=>zI ks a
 |.s::ks,.s _::a=>zI ks a
 |.i k::ks,.i c _::a=>k=c/\zI ks a
 |_,_=>False
def fE:List Dt->List Dt->Bool
 |[],[]=>true
 |.b x::a,.b y::c=>decide (x=y)&&fE a c
 |.s x::a,.s y::c=>decide (x=y)&&fE a c
 |.i _ x::a,.i _ y::c=>decide (x=y)&&fE a c
 |_,_=>false
theorem GA:∀{ks:List Kd} {c:List Dt},zI ks c->c.length=ks.length
 |[],[],_=>rfl
 |.b::ks,.b _::c,h=>by simp only[zI]at h;simp[GA h]
 |.s::ks,.s _::c,h=>by simp only[zI]at h;simp[GA h]
 |.i k::ks,.i d _::c,h=>by simp only[zI]at h;simp[GA h.2]
 |[],_::_,h=>by simp[zI]at h
 |.b::_,[],h=>by simp[zI]at h
 |.s::_,[],h=>by simp[zI]at h
 |.i _::_,[],h=>by simp[zI]at h
 |.b::_,.s _::_,h=>by simp[zI]at h
 |.b::_,.i _ _::_,h=>by simp[zI]at h
 |.b::_,.l _::_,h=>by simp[zI]at h
 |.b::_,.a _::_,h=>by simp[zI]at h
 |.s::_,.b _::_,h=>by simp[zI]at h
 |.s::_,.i _ _::_,h=>by simp[zI]at h
 |.s::_,.l _::_,h=>by simp[zI]at h
 |.s::_,.a _::_,h=>by simp[zI]at h
 |.i _::_,.b _::_,h=>by simp[zI]at h
 |.i _::_,.s _::_,h=>by simp[zI]at h
 |.i _::_,.l _::_,h=>by simp[zI]at h
 |.i _::_,.a _::_,h=>by simp[zI]at h
theorem Gz:∀{ks c:List Kd} {d:List Dt},zI (ks++c) d->zI ks (d.take ks.length)/\zI c (d.drop ks.length)
 |[],c,d,h=>by simpa [zI]using h
 |.b::ks,c,.b x::d,h=>by
  simp only[cons_append,zI]at h;simpa [zI]using Gz h
 |.s::ks,c,.s x::d,h=>by
  simp only[cons_append,zI]at h;simpa [zI]using Gz h
 |.i k::ks,c,.i g x::d,h=>by
  simp only[cons_append,zI]at h;obtain⟨e,f⟩:=h;have:=Gz f;simp only[length_cons,take_succ_cons,drop_succ_cons,zI];exact⟨⟨e,this.1⟩,this.2⟩
 |.b::_,_,[],h=>by simp[zI]at h
 |.s::_,_,[],h=>by simp[zI]at h
 |.i _::_,_,[],h=>by simp[zI]at h
 |.b::_,_,.s _::_,h=>by simp[zI]at h
 |.b::_,_,.i _ _::_,h=>by simp[zI]at h
 |.b::_,_,.l _::_,h=>by simp[zI]at h
 |.b::_,_,.a _::_,h=>by simp[zI]at h
 |.s::_,_,.b _::_,h=>by simp[zI]at h
 |.s::_,_,.i _ _::_,h=>by simp[zI]at h
 |.s::_,_,.l _::_,h=>by simp[zI]at h
 |.s::_,_,.a _::_,h=>by simp[zI]at h
 |.i _::_,_,.b _::_,h=>by simp[zI]at h
 |.i _::_,_,.s _::_,h=>by simp[zI]at h
 |.i _::_,_,.l _::_,h=>by simp[zI]at h
 |.i _::_,_,.a _::_,h=>by simp[zI]at h
theorem Nq:∀{ks:List Kd} {f es:List Dt} (c d:List Dt),zI ks f->zI ks es->fE (f++c) (es++d)=(fE f es&&fE c d)
 |[],[],[],_,_,_,_=>by simp[fE]
 |.b::ks,.b x::f,.b y::es,c,d,h,e=>by
  simp only[zI]at h e;simp[fE,Nq c d h e,Bool.and_assoc]
 |.s::ks,.s x::f,.s y::es,c,d,h,e=>by
  simp only[zI]at h e;simp[fE,Nq c d h e,Bool.and_assoc]
 |.i k::ks,.i g x::f,.i j y::es,c,d,h,e=>by
  simp only[zI]at h e;simp[fE,Nq c d h.2 e.2,Bool.and_assoc]
 |[],_::_,_,_,_,h,_=>by simp[zI]at h
 |[],[],_::_,_,_,_,h=>by simp[zI]at h
 |.b::_,[],_,_,_,h,_=>by simp[zI]at h
 |.s::_,[],_,_,_,h,_=>by simp[zI]at h
 |.i _::_,[],_,_,_,h,_=>by simp[zI]at h
 |.b::_,.s _::_,_,_,_,h,_=>by simp[zI]at h
 |.b::_,.i _ _::_,_,_,_,h,_=>by simp[zI]at h
 |.b::_,.l _::_,_,_,_,h,_=>by simp[zI]at h
 |.b::_,.a _::_,_,_,_,h,_=>by simp[zI]at h
 |.s::_,.b _::_,_,_,_,h,_=>by simp[zI]at h
 |.s::_,.i _ _::_,_,_,_,h,_=>by simp[zI]at h
 |.s::_,.l _::_,_,_,_,h,_=>by simp[zI]at h
 |.s::_,.a _::_,_,_,_,h,_=>by simp[zI]at h
 |.i _::_,.b _::_,_,_,_,h,_=>by simp[zI]at h
 |.i _::_,.s _::_,_,_,_,h,_=>by simp[zI]at h
 |.i _::_,.l _::_,_,_,_,h,_=>by simp[zI]at h
 |.i _::_,.a _::_,_,_,_,h,_=>by simp[zI]at h
 |.b::_,.b _::_,[],_,_,_,h=>by simp[zI]at h
 |.s::_,.s _::_,[],_,_,_,h=>by simp[zI]at h
 |.i _::_,.i _ _::_,[],_,_,_,h=>by simp[zI]at h
 |.b::_,.b _::_,.s _::_,_,_,_,h=>by simp[zI]at h
 |.b::_,.b _::_,.i _ _::_,_,_,_,h=>by simp[zI]at h
 |.b::_,.b _::_,.l _::_,_,_,_,h=>by simp[zI]at h
 |.b::_,.b _::_,.a _::_,_,_,_,h=>by simp[zI]at h
 |.s::_,.s _::_,.b _::_,_,_,_,h=>by simp[zI]at h
 |.s::_,.s _::_,.i _ _::_,_,_,_,h=>by simp[zI]at h
 |.s::_,.s _::_,.l _::_,_,_,_,h=>by simp[zI]at h
 |.s::_,.s _::_,.a _::_,_,_,_,h=>by simp[zI]at h
 |.i _::_,.i _ _::_,.b _::_,_,_,_,h=>by simp[zI]at h
 |.i _::_,.i _ _::_,.s _::_,_,_,_,h=>by simp[zI]at h
 |.i _::_,.i _ _::_,.l _::_,_,_,_,h=>by simp[zI]at h
 |.i _::_,.i _ _::_,.a _::_,_,_,_,h=>by simp[zI]at h
def my(P:Program)(t:TypeId)(xs:List Value):Value:=if eV P t then .agg xs.toArray else xs.getD 0 undef
section
variable {K:Nat->Prop} {h:Array Obj} {P:Program} (w:World)
theorem F6{t:TypeId}{n:Nat}(b:hD P t=some n){d:TypeDesc}(e:P.underlying t=some d)(xs:List Value)(a:Nat)(j:a+n<=xs.length)(f:eV P t=false->n=1) :
  (part t xs.toArray a).run P w=.ok (my P t ((xs.drop a).take n)) w:=by
 unfold hD at b;cases hi:P.info? t with
 |none=>simp[hi]at b
 |some i =>
  simp[hi]at b;have hag:(isAgg t).run P w=.ok (eV P t) w:=by
   simp only[isAgg,underlying,eV,Sem.run_bind,run_program,Result.andThen_ok,e];cases d <;> rfl
  unfold part my;simp only[Sem.run_bind,hag,Result.andThen_ok];cases g:eV P t
  .have c:=f g;subst c;have h:a<xs.length:=by omega
   simp[getElem?_eq_getElem h,List.getD,getElem?_drop]
  .simp only[if_true,sizeOf,typeInfo,Sem.run_bind,run_program,Result.andThen_ok,hi,Sem.run_pure,b];simp
mutual
theorem OI:∀(d:Nat) {t:TypeId} {ks:List Kd} (e:Nat) {xs ys:List Value} {f es:List Dt},gZ P d t=some ks->DRs K h xs f->DRs K h ys es->zI ks f->zI ks es ->
  (Op.equalIn (d+e) t (my P t xs) (my P t ys)).run P w=.ok (fE f es) w
 |0,t,ks,e,xs,ys,f,es,a,_,_,_,_=>by simp[gZ]at a
 |d+1,t,ks,e,xs,ys,f,es,a,g,j,m,n=>by
  rw[show d+1+e=(d+e)+1 by omega];unfold gZ at a;split at a
  .rename_i c;split at a;rotate_left
   .cases a
   cases a;match f,es,m,n with
   |[.b x],[.b y],_,_ =>
    simp only[DRs,DR]at g j;obtain⟨_,_,rfl,rfl,rfl⟩:=g;obtain⟨_,_,rfl,rfl,rfl⟩:=j;simp[my,eV,c,run_equalIn_bool' _ _ _ _ _ c,fE,CC]
  .rename_i k c;split at a;rotate_left
   .cases a
   cases a;match f,es,m,n with
   |[.i r x],[.i u y],m,n =>
    simp only[zI]at m n;obtain⟨rfl,_⟩:=m;obtain⟨rfl,_⟩:=n;simp only[DRs,DR]at g j;obtain⟨_,_,rfl,⟨rfl,_⟩,rfl⟩:=g;obtain⟨_,_,rfl,⟨rfl,_⟩,rfl⟩:=j;simp[my,eV,c,run_equalIn_int _ _ _ _ _ _ _ c,fE,CC]
  .rename_i c;split at a;rotate_left
   .cases a
   cases a;match f,es,m,n with
   |[.s x],[.s y],_,_ =>
    simp only[DRs,DR]at g j;obtain⟨_,_,rfl,⟨rfl,_⟩,rfl⟩:=g;obtain⟨_,_,rfl,⟨rfl,_⟩,rfl⟩:=j;simp[my,eV,c,run_equalIn_string _ _ _ _ _ c,fE,CC]
  .rename_i fs c;have hag:eV P t=true:=by simp[eV,c]
   have o:P.fieldsOf t=fs:=by simp[Program.fieldsOf,c]
   split at a
   .cases a
   rename_i p;split at a
   .rename_i l q;split at a
    .cases a;simp only[my,hag,if_true];rw[run_equalIn_struct w (d+e) t _ _ (by rw[o];exact c) (by simpa using p),o];have:=nf d e (xs:=xs) (ys:=ys) 0 (Nat.zero_le _) (Nat.zero_le _) q (by simpa using g) (by simpa using j) m n;simpa using this
    .cases a
   .cases a
  .cases a
theorem nf:∀(d:Nat) (e:Nat) {p:List Field} {ks:List Kd} {xs ys:List Value} {b es:List Dt} (off:Nat),off<=xs.length->off<=ys.length->lW P d off p=some ks->DRs K h (xs.drop off) b->DRs K h (ys.drop off) es->zI ks b->zI ks es ->
  (Op.eqFields (d+e) xs.toArray ys.toArray p).run P w=.ok (fE b es) w
 |d,e,[],ks,xs,ys,b,es,off,_,_,a,_,_,q,r=>by
  cases d <;> (simp only[lW]at a;cases a)
  all_goals
   match b,es,q,r with
   |[],[],_,_=>simp[Op.eqFields,fE]
 |0,e,f::p,ks,xs,ys,b,es,off,_,_,a,_,_,_,_=>by simp[lW]at a
 |d+1,e,f::p,ks,xs,ys,b,es,off,J,L,a,s,u,q,r=>by
  unfold lW at a;split at a
  .cases a
  rename_i D;have g:¬ f.name= "_":=fun e=>D (.inl e);have i:f.offset=off:=Decidable.byContradiction fun e=>D (.inr e);split at a
  .rename_i l E;split at a
   .rename_i M v;cases a;obtain⟨j,x⟩:=Gz q;obtain⟨k,y⟩:=Gz r;have F:=GA q;have G:=GA r;have z:=s.length;have A:=u.length;simp only[length_drop,length_append]at F G z A;obtain⟨m,c,N,n⟩:=ku d E;have B:=F6 (P:=P) w m n xs off (by omega) c;have C:=F6 (P:=P) w m n ys off (by omega) c;have H:=OI d (t:=f.type) (e+1) E (s.take l.length) (u.take l.length) j k;have I:=nf d (e+1) (xs:=xs) (ys:=ys) (off+l.length) (by omega) (by omega) v (by simpa [drop_drop]using s.drop l.length) (by simpa [drop_drop]using u.drop l.length) x y;have o:fE b es=(fE (b.take l.length) (es.take l.length)&&fE (b.drop l.length) (es.drop l.length)):=by rw[<-Nq _ _ j k,take_append_drop,take_append_drop]
    rw[o];rw[show d+1+e=d+(e+1)by omega];simp only[Op.eqFields,g,ne_eq,not_false_eq_true,if_true,i,Sem.run_bind,B,C,H,Result.andThen_ok];cases hb:fE (b.take l.length) (es.take l.length)
    .simp
    .simpa using I
   .cases a
  .cases a
theorem ku:∀(d:Nat) {t:TypeId} {ks:List Kd},gZ P d t=some ks->hD P t=some ks.length/\(eV P t=false->ks.length=1)/\∃u,P.underlying t=some u
 |0,t,ks,a=>by simp[gZ]at a
 |d+1,t,ks,a=>by
  unfold gZ at a;split at a
  .rename_i b;split at a
   .rename_i hs;cases a;exact⟨hs,fun _=>rfl,_,b⟩
   .cases a
  .rename_i b;split at a
   .rename_i hs;cases a;exact⟨hs,fun _=>rfl,_,b⟩
   .cases a
  .rename_i b;split at a
   .rename_i hs;cases a;exact⟨hs,fun _=>rfl,_,b⟩
   .cases a
  .rename_i c b;split at a
   .cases a
   split at a
   .rename_i l e;split at a
    .rename_i hs;cases a;exact⟨hs,fun h=>by simp[eV,b]at h,_,b⟩
    .cases a
   .cases a
  .cases a
end
theorem Pn{e:TypeId}{k:IntKind}(g:P.underlying e=some (.int k))(p:hD P e=some 1)(d:Nat)(n o:List Value):∀(m a:Nat) (b es:List Dt),DRs K h (n.drop a) b->DRs K h (o.drop a) es->zI (List.replicate m (.i k)) b->zI (List.replicate m (.i k)) es ->
  (Op.eqItems (d+1) e 1 n.toArray o.toArray (List.range' a m)).run P w=.ok (fE b es) w
 |0,a,b,es,_,_,c,f=>by
  match b,es,c,f with
  |[],[],_,_=>simp[Op.eqItems,fE]
 |m+1,a,b,es,q,r,c,f=>by
  rw[replicate_succ]at c f;match b,es,c,f with
  |.i C x::b,.i D y::es,c,f =>
   simp only[zI]at c f;obtain⟨rfl,c⟩:=c;obtain⟨rfl,f⟩:=f;have u:=q.length;have v:=r.length;simp only[length_drop,length_cons]at u v;have hag:eV P e=false:=by simp[eV,g]
   have s:=F6 (P:=P) w p g n a (by omega) fun _=>rfl;have t:=F6 (P:=P) w p g o a (by omega) fun _=>rfl;have j:=q.take 1;have l:=r.take 1;simp only[take_succ_cons,take_zero,DRs,DR]at j l;obtain⟨_,_,z,⟨rfl,_⟩,rfl⟩:=j;obtain⟨_,_,A,⟨rfl,_⟩,rfl⟩:=l;have B:=Pn g p d n o m (a+1) b es (by simpa [drop_drop]using q.drop 1) (by simpa [drop_drop]using r.drop 1) c f;rw[List.range'_succ];simp only[my,hag,z,A,Bool.false_eq_true,if_false,getD_cons_zero]at s t;simp only[Op.eqItems,Nat.mul_one,Sem.run_bind,s,t,Result.andThen_ok,run_equalIn_int _ _ _ _ _ _ _ g];by_cases e:x=y
   .subst e;simpa [fE]using B
   .simp[fE,e]
theorem jU{t:TypeId}{ks:List Kd}(a:py P t=some ks)(r:eV P t=true){c d:List Value}{f es:List Dt}(m:DRs K h c f)(o:DRs K h d es)(p:zI ks f)(q:zI ks es)(x y:Operand) :
  (do eqGuard .eql t x y (.agg c.toArray) (.agg d.toArray);binOp .eql t (.agg c.toArray) (.agg d.toArray):Sem Value).run P w=.ok (.bool (fE f es)) w /\
  (do eqGuard .neq t x y (.agg c.toArray) (.agg d.toArray);binOp .neq t (.agg c.toArray) (.agg d.toArray):Sem Value).run P w=.ok (.bool (!fE f es)) w:=by
 unfold py at a;split at a
 .cases a
 rename_i s;have g:P.eqGuardType P.depth t=false:=by simpa using s
 have j:(Op.equalIn (60+9940) t (.agg c.toArray) (.agg d.toArray)).run P w=.ok (fE f es) w:=by
  split at a
  .rename_i l b;cases a;unfold hT at b;split at b;rotate_left
   .cases b
   rename_i n e u;split at b;rotate_left
   .cases b
   rename_i k a;split at b;rotate_left
   .cases b
   rename_i hs;cases b;obtain⟨i,hi,_⟩:=Option.map_eq_some_iff.1 hs.1;rw[show 60+9940=9999+1 from rfl,run_equalIn_array w 9999 _ _ u hi,hs.2,range_eq_range'];exact Pn w a hs.1 9998 c d n 0 f es m o p q
  .have j:=OI (P:=P) w 60 (t:=t) 9940 a m o p q;simpa only[my,r,if_true]using j
 constructor
 .simp only[Sem.run_bind,run_eqGuard_agg _ _ _ _ _ _ _ g,Result.andThen_ok,run_eql_struct];rw[show(10000:Nat)=60+9940 from rfl,j];rfl
 .simp only[Sem.run_bind,run_eqGuard_agg _ _ _ _ _ _ _ g,Result.andThen_ok,run_neq_struct];rw[show(10000:Nat)=60+9940 from rfl,j];rfl
end
def zr:List Value->List Dt
 |.bool x::l=>.b x::zr l
 |.int k n::l=>.i k n::zr l
 |.string s::l=>.s s.data.toList::zr l
 |.slice none 0 0::l=>.l []::zr l
 |_=>[]
def Hs(t:Ti)(H:List Ob)(x i:Va):Pv:=match i with
 |.p (.i _ n)=>match t.kind,x with
  |.slice _ d _ g,.p (.l c)=>⟨.rp (c.getD n.toNat (zr g)),(c.getD n.toNat (zr g)).length=d/\0<=n/\n<c.length⟩
  |.slice _ d _ g,.full c=>⟨.rp (c.getD n.toNat (zr g)),(c.getD n.toNat (zr g)).length=d/\0<=n/\n<c.length⟩
  |.slice _ d _ _,.buf o=>match sC H o with
   |some (_,f,c,_)=>⟨.el o f n.toNat 0,f=d/\0<=n/\n<c.length⟩
   |none=>match eD H o with
    |.nst _ _ f _ _ c _=>⟨.el o f n.toNat 0,f=d/\0<=n/\n<c.length⟩
    |_=>eC
  |.slice _ d _ _,.nv p j=>match eD H p with
   |.inn _ f q=>⟨.ne p f j n.toNat 0,f=d/\0<=n/\n<(q.getD j []).length⟩
   |_=>eC
  |.slice _ d _ _,.vw o f a m=>match sC H o with
   |some (_,r,_,_)=>⟨.el o f (a+n.toNat) 0,f=d/\f=r/\0<=n/\n<m⟩
   |none=>eC
  |.slice _ d _ _,.cs o m=>⟨.ptr o n.toNat,d=1/\0<=n/\n<m⟩
  |.arr e _ d _,.ptr o h=>match eD H o with
   |.buf _ f c=>⟨.el o f n.toNat 0,f=d/\h=0/\e=c.length/\0<=n/\n<e⟩
   |_=>⟨.ptr o (h+n.toNat * d),0<=n/\n<e⟩
  |.arr e _ d _,.rp s=>⟨.rp (s.drop (n.toNat * d)),0<=n/\n<e⟩
  |.arr e _ d _,.raw (.pointer (some ⟨b,0,none⟩))=>match Tabs.tab b with
   |some (k,l)=>⟨.rp [.i k (l.getD n.toNat 0)],d=1/\l.length=e/\0<=n/\n<e⟩
   |none=>eC
  |_,_=>eC
 |_=>eC
def HY(g:Ti)(f:Nat)(x:Va):Pv:=match g.kind with
 |.struct h=>match h[f]? with
  |some (c,b,_)=>match x with
   |.ptr o a=>⟨.ptr o (a+c),0<b⟩
   |.rp d=>⟨.rp (d.drop c),0<b⟩
   |.el o e i a=>⟨.el o e i (a+c),0<b⟩
   |.ne o e i j a=>⟨.ne o e i j (a+c),0<b⟩
   |_=>eC
  |none=>eC
 |_=>eC
def i0(c:Ti)(f:Nat)(x:Va):Pv:=match c.kind,x with
 |.struct d,.agg cs=>match d[f]? with
  |some (a,b,e)=>bif e then⟨.agg ((cs.drop a).take b),True⟩else⟨tT cs a,a<cs.length⟩
  |none=>eC
 |_,_=>eC
def iU(c:Ti)(x i:Va):Pv:=match c.kind,x,i with
 |.str,.p (.s s),.p (.i _ n)=>⟨.p (.i .u8 (s.getD n.toNat 0).toNat),0<=n/\n<s.length⟩
 |.arr b _ a d,.agg cs,.p (.i _ n)=>bif d then⟨.agg ((cs.drop (n.toNat * a)).take a),0<=n/\n<b⟩else⟨tT cs (n.toNat * a),0<=n/\n<b/\n.toNat * a<cs.length⟩
 |_,_,_=>eC
def Hp(x:Va)(i:Nat):Pv:=match x with
 |.tup a=>⟨tT a i,i<a.length⟩
 |_=>eC
theorem mh{l:List Va}{j:Nat}(h:j<l.length):l[j]?=some (tT l j):=by unfold tT;rw[drop_eq_getElem_cons h];exact getElem?_eq_getElem h
theorem PA{P:Program}:∀{c:List Field} {l:List (Nat×Nat×Bool)},yw P c=some l->∀{f:Nat} {x:Nat×Nat×Bool},l[f]?=some x->∃a,c[f]?=some a/\a.offset=x.1/\hD P a.type=some x.2.1/\eV P a.type=x.2.2/\∃d,P.underlying a.type=some d
 |[],l,h,f,x,b=>by simp only[yw]at h;cases h;simp at b
 |a::c,l,h,f,x,b=>by
  simp only[yw]at h;split at h
  .rename_i n d j e g i;cases h;cases f with
   |zero=>simp at b;subst b;exact⟨a,rfl,rfl,e,rfl,_,g⟩
   |succ f=>simp at b;simpa using PA i b
  .cases h
section
variable {K:Nat->Prop} {G:List Gh} {H:List Ob} {w:World} {P:Program}
theorem Pf{t:TypeId}{c:Ti}(f:eB P t=some c){fs:List (Nat×Nat×Bool)}(g:c.kind=.struct fs):∃a,P.underlying t=some (.struct a)/\yw P a.toList=some fs:=by
 obtain⟨d,h,b,i⟩:=uN f;rw[g]at b;cases d <;> simp only[u1]at b <;> try (cases b)
 case slice e=>split at b <;> cases b
 case array n e=>split at b <;> cases b
 case struct a =>
  split at b
  .cases b;exact⟨a,h,by assumption⟩
  .cases b
theorem jh{t:TypeId}{c:Ti}(f:eB P t=some c){e esz eb:Nat}{ez:List Value}(g:c.kind=.slice e esz eb ez):P.underlying t=some (.slice e)/\(∃i,P.info? e=some i/\i.size=esz/\i.bytes=eb)/\xR P e=some ez:=by
 obtain⟨d,h,a,j⟩:=uN f;rw[g]at a;cases d <;> simp only[u1]at a <;> try (cases a)
 case array n e=>split at a <;> cases a
 case struct b=>split at a <;> cases a
 case slice k =>
  split at a
  .cases a;exact⟨h,⟨_,by assumption,rfl,rfl⟩,by assumption⟩
  .cases a
theorem Cu{t:TypeId}{c:Ti}(f:eB P t=some c){n e esz:Nat}{ag:Bool}(g:c.kind=.arr n e esz ag):P.underlying t=some (.array n e)/\hD P e=some esz/\eV P e=ag/\∃d,P.underlying e=some d:=by
 obtain⟨d,h,a,i⟩:=uN f;rw[g]at a;cases d <;> simp only[u1]at a <;> try (cases a)
 case slice e=>split at a <;> cases a
 case struct b=>split at a <;> cases a
 case array j k =>
  split at a
  .cases a;exact⟨h,by assumption,rfl,_,by assumption⟩
  .cases a
theorem Cv{t:TypeId}{c:Ti}(f:eB P t=some c)(g:c.kind=.str):P.underlying t=some .string:=by
 obtain⟨d,h,a,i⟩:=uN f;rw[g]at a;cases d <;> simp only[u1]at a <;> try (cases a)
 case slice e=>split at a <;> cases a
 case array n e=>split at a <;> cases a
 case struct b=>split at a <;> cases a
 case string=>exact h
theorem iM{t:TypeId}{c:Ti}{k:IntKind}(f:eB P t=some c)(g:c.kind=.int k):P.underlying t=some (.int k):=by
 obtain⟨d,h,a,i⟩:=uN f;rw[g]at a;cases d <;> simp only[u1]at a <;> try (cases a)
 case slice e=>split at a <;> cases a
 case array n e=>split at a <;> cases a
 case struct b=>split at a <;> cases a
 case int=>exact h
theorem mM{t:TypeId}{n:Nat}(h:hD P t=some n):(sizeOf t).run P w=.ok n w:=by
 unfold hD at h;cases hi:P.info? t with
 |none=>simp[hi]at h
 |some i=>simp[hi]at h;simp[sizeOf,typeInfo,hi,h]
theorem MB{h:Array Obj}{b off:Nat}{cs:Array Value}{T:TypeId}{c:Nat×Nat}{a:List Value}{row:List Dt}(e:K b)(hb:h[b]?=some (.cells cs T c))(f:∀j v,a[j]?=some v->cs[off+j]?=some v)(g:DRs K h a row)(n:Nat) :
  VR K h G (.pointer (some ⟨b,off+n,none⟩)) (.rp (row.drop n)):=by
 simp only[VR];exact⟨b,off+n,cs,T,c,a.drop n,rfl,e,hb,fun j v d=>by rw[getElem?_drop]at d;rw[Nat.add_assoc];exact f _ v d,g.drop n⟩
theorem B9{h:Array Obj}{c:Value}{rows:List (List Dt)}(f:DR K h c (.l rows)){i:Nat}(hi:i<rows.length)(z:List Dt) :
  ∃b a d,c=.slice (some ⟨b,a,none⟩) rows.length d/\VR K h G (.pointer (some ⟨b,a+i*(rows.getD i z).length,none⟩)) (.rp (rows.getD i z)):=by
 simp only[DR]at f;rcases f with⟨_,rfl⟩|⟨b,a,d,cs,T,m,n,r,rfl,o,hb,_,_,p,q⟩
 .simp at hi
 obtain⟨g,k⟩:=q.get i hi;rw[show rows.getD i []=rows.getD i z by simp[getD_eq_getElem?_getD,hi]]at g k;refine⟨b,a,d,rfl,?_⟩;simp only[VR];rw[k];refine⟨b,a+i*n,cs,T,m,_,rfl,o,hb,fun j v e=>?_,g⟩;rw[getElem?_take]at e;split at e
 .rw[getElem?_drop]at e;rw[Nat.add_assoc];exact p _ v e
 .cases e
theorem nW{t:TypeId}{ti:Ti}(ht:eB P t=some ti)(W:St K G H w){c ci:Value}{x i:Va}(A:VR K w.heap G c x)(hi:VR K w.heap G ci i)(h:(Hs ti H x i).ok) :
  ∃c',(Instr.indexAt t c ci).run P w=.ok c' w/\VR K w.heap G c' (Hs ti H x i).v:=by
 unfold Hs at h|-;split at h;rotate_left
 .exact h.elim
 rename_i k n;simp only[VR,DR]at hi;obtain⟨rfl,_⟩:=hi;have d:∀{e F eb:Nat} {ez:List Value},ti.kind=.slice e F eb ez->∀{b C m s:Nat},0<=n->n<m->(Instr.indexAt t (.slice (some ⟨b,C,none⟩) m s) (.int k n)).run P w=.ok (.pointer (some ⟨b,C+n.toNat * F,none⟩)) w:=by intro e F eb ez z b C m s u r;obtain⟨I,⟨i,hi1,hi2,_⟩,_⟩:=jh ht z;have hs:(sizeOf e).run P w=.ok F w:=mM (by simp[hD,hi1,hi2]);simp[Instr.indexAt,asIntOf,run_underlying I,u,r,hs,mz]
 split at h
 .rename_i z;obtain⟨he,u,r⟩:=h;simp only[VR]at A;obtain⟨b,C,s,rfl,X⟩:=B9 (G:=G) A (i:=n.toNat) (by omega) (zr _);rw[he]at X;exact⟨_,d z u (by exact r),X⟩
 .rename_i z;obtain⟨he,u,r⟩:=h;simp only[VR]at A;obtain⟨b,C,s,rfl,X⟩:=B9 (G:=G) A.1 (i:=n.toNat) (by omega) (zr _);rw[he]at X;exact⟨_,d z u (by exact r),X⟩
 .rename_i z;simp only[VR]at A;obtain⟨g,B,rfl,_⟩:=A;split at h
  .rename_i o T sz D fx J;obtain⟨rfl,u,r⟩:=h;obtain⟨E,xs,M,O⟩:=W.bufOb J B;rcases O with⟨_,rfl,_⟩|⟨b,s,Q,V,y,q,hb,Y,h4,h5,h6,h7⟩
   .simp at r;omega
   refine⟨_,by rw[y];exact d z u r,?_⟩;simp only[VR];exact⟨g,b,_,_,B,q,y,by simp⟩
  .split at h;rotate_left
   .exact h.elim
   rename_i f T sz k p D st J;obtain⟨rfl,u,r⟩:=h;obtain⟨_,_,gp,vs,_,hvl,_,E,xs,M,O⟩:=W.ob _ g _ B (zu J (by simp));have R:=BM (k:=k) hvl;rcases O with⟨_,S,_⟩|⟨b,s,Q,V,y,q,hb,Y,h4,h5,h6,h7⟩
   .rw[S]at R;simp at R;omega
   refine⟨_,by rw[y];exact d z u (by rw[R];exact r),?_⟩;simp only[VR];exact⟨g,b,_,_,B,q,y,by simp⟩
 .rename_i z;simp only[VR]at A;obtain⟨g,a,m,s,B,U,rfl⟩:=A;split at h;rotate_left
  .exact h.elim
  rename_i p j _ T sz Z J;obtain⟨rfl,u,r⟩:=h;obtain⟨hb0,hl,hin,_⟩:=W.ob p g _ B (zu J (by simp));have hil:=(List.getElem?_eq_some_iff.1 U).1;have hins:Z[j]?=some (Z.getD j []):=by rw[getElem?_eq_getElem (by omega),getD_eq_getElem?_getD,getElem?_eq_getElem (by omega)];rfl
  obtain⟨E,xs,M,O⟩:=hin j _ _ U hins;rcases O with⟨_,S,_⟩|⟨b,cap',Q,V,y,q,hb,Y,h4,h5,h6,h7⟩
  .rw[S]at r;simp at r;omega
  cases y;cases s with
  |zero=>omega
  |succ s =>
   refine⟨_,d z u r,?_⟩;simp only[VR];exact⟨g,b,_,_,B,U,by simp⟩
 .rename_i z;split at h;rotate_left
  .exact h.elim
  rename_i o sz a m T sz' D fx J;obtain⟨rfl,rfl,u,r⟩:=h;simp only[VR]at A;obtain⟨g,ad,N,s,B,y,haN,ad',cap',rfl,hnc,_,hpos⟩:=A;obtain⟨b,q,rfl,rfl⟩:=hpos (by omega);refine⟨_,d z u r,?_⟩;simp only[VR];exact⟨g,b,_,_,B,q,y,by rw[Nat.add_mul,Nat.add_zero]⟩
 .rename_i z;obtain⟨rfl,u,r⟩:=h;simp only[VR]at A;obtain⟨g,b,B,q,rfl⟩:=A;refine⟨_,d z u r,?_⟩;simp only[VR];exact⟨g,b,B,q,by rw[Nat.zero_add,Nat.mul_one]⟩
 .rename_i z;simp only[VR]at A;obtain⟨g,b,B,q,rfl⟩:=A;obtain⟨I,hs,_⟩:=Cu ht z;split at h
  .rename_i T sz D J;obtain⟨rfl,rfl,hl,u,r⟩:=h;obtain⟨E,xs,M,O⟩:=W.ob _ g _ B (zu J (by simp));rcases O with⟨_,_,hn⟩|⟨b',s,Q,V,y,L,_⟩
   .rw[q]at hn;cases hn
   obtain rfl:b'=b:=by rw[q]at L;exact(Option.some.inj L).symm
   refine⟨_,by simp only[Instr.indexAt,Instr.sureAddr,asIntOf,run_underlying I,u,r,mM hs,mz,Sem.run_bind,Sem.run_pure,Result.andThen_ok,true_and,if_true];rfl,?_⟩;simp only[VR];exact⟨g,b',_,_,B,q,y,by rw[Nat.zero_add,Nat.add_zero]⟩
  .obtain⟨u,r⟩:=h;refine⟨_,by simp only[Instr.indexAt,Instr.sureAddr,asIntOf,run_underlying I,u,r,mM hs,mz,Sem.run_bind,Sem.run_pure,Result.andThen_ok,true_and,if_true];rfl,?_⟩;simp only[VR];exact⟨g,b,B,q,rfl⟩
 .rename_i z;simp only[VR]at A;obtain⟨b,C,cs,T,V,vs,rfl,hK,hb,hv,hd⟩:=A;obtain⟨I,hs,_⟩:=Cu ht z;obtain⟨u,r⟩:=h;exact⟨_,by simp only[Instr.indexAt,Instr.sureAddr,asIntOf,run_underlying I,u,r,mM hs,mz,Sem.run_bind,Sem.run_pure,Result.andThen_ok,true_and,if_true],MB hK hb hv hd _⟩
 .rename_i z;split at h;rotate_left
  .exact h.elim
  rename_i kk l ht0;obtain⟨he,hlen,u,r⟩:=h;subst he;simp only[VR]at A;subst A;obtain⟨I,hs,_⟩:=Cu ht z;obtain⟨hK,⟨T,V,hb⟩,hfit⟩:=W.tb.1 _ _ _ ht0;have hn:n.toNat<l.length:=by omega
  refine⟨_,by simp only[Instr.indexAt,Instr.sureAddr,asIntOf,run_underlying I,u,r,mM hs,mz,Sem.run_bind,Sem.run_pure,Result.andThen_ok,true_and,if_true];rfl,?_⟩;simp only[VR];refine⟨_,_,_,T,V,[.int kk (l.getD n.toNat 0)],rfl,hK,hb,fun j v hj=>?_,?_⟩
  .cases j with
   |succ j=>simp at hj
   |zero =>
    simp at hj;subst hj;simp[getElem?_eq_getElem hn]
  .simp only[DRs,DR];refine⟨_,[],rfl,⟨rfl,hfit _ ?_⟩,rfl⟩;simp[getElem?_eq_getElem hn]
 .exact h.elim
theorem Tt{t:TypeId}{q:Ti}(B:eB P t=some q){f:Nat}{c:Value}{x:Va}(i:VR K w.heap G c x)(a:(HY q f x).ok) :
  ∃z,(Instr.fieldAt t c f).run P w=.ok z w/\VR K w.heap G z (HY q f x).v:=by
 unfold HY at a|-;split at a;rotate_left
 .exact a.elim
 rename_i L C;split at a;rotate_left
 .exact a.elim
 rename_i D l M E;obtain⟨d,F,r⟩:=Pf B C;obtain⟨fd,s,A,m,_⟩:=PA r E;simp only at A m;have o:d[f]?=some fd:=by simpa using s
 have e:∀(b h:Nat),0<l->(Instr.fieldAt t (.pointer (some ⟨b,h,none⟩)) f).run P w=.ok (.pointer (some ⟨b,h+D,none⟩)) w:=by
  intro b h N;have:¬ l=0:=by omega
  simp[Instr.fieldAt,Instr.sureAddr,run_underlying F,o,fieldPlace,mM m,this,mz,A]
 split at a
 .simp only[VR]at i;obtain⟨g,b,p,j,rfl⟩:=i;exact⟨_,e _ _ a,by simp only[VR];exact⟨g,b,p,j,rfl⟩⟩
 .simp only[VR]at i;obtain⟨b,h,cs,T,O,Q,rfl,H,hb,I,J⟩:=i;exact⟨_,e _ _ a,MB H hb I J _⟩
 .simp only[VR]at i;obtain⟨g,b,n,k,p,j,u,rfl⟩:=i;exact⟨_,e _ _ a,by simp only[VR];exact⟨g,b,n,k,p,j,u,by rw[Nat.add_assoc]⟩⟩
 .simp only[VR]at i;obtain⟨g,b,n,k,p,y,rfl⟩:=i;exact⟨_,e _ _ a,by simp only[VR];exact⟨g,b,n,k,p,y,by rw[Nat.add_assoc]⟩⟩
 .exact a.elim
theorem jS{t:TypeId}{n:Nat}(e:hD P t=some n){d:TypeDesc}(f:P.underlying t=some d)(cs:List Value)(a:Nat) :
  (eV P t=true->(part t cs.toArray a).run P w=.ok (.agg ((cs.drop a).take n).toArray) w)/\(eV P t=false->∀c,cs[a]?=some c->(part t cs.toArray a).run P w=.ok c w):=by
 have hag:(isAgg t).run P w=.ok (eV P t) w:=by
  simp only[isAgg,underlying,eV,Sem.run_bind,run_program,Result.andThen_ok,f];cases d <;> rfl
 constructor
 .intro b;simp only[part,Sem.run_bind,hag,b,Result.andThen_ok,if_true,mM e];simp
 .intro b c g;simp[part,hag,b,g]
theorem tw{t:TypeId}{j:Ti}(y:eB P t=some j){f:Nat}{c:Value}{x:Va}(q:VR K w.heap G c x)(a:(i0 j f x).ok) :
  ∃s,(Instr.field t c f).run P w=.ok s w/\VR K w.heap G s (i0 j f x).v:=by
 unfold i0 at a|-;split at a;rotate_left
 .exact a.elim
 rename_i J cs z;split at a;rotate_left
 .exact a.elim
 rename_i k A B C;obtain⟨b,D,l⟩:=Pf y z;obtain⟨fd,m,u,e,hag,d,E⟩:=PA l C;simp only at u e hag;have g:b[f]?=some fd:=by simpa using m
 simp only[VR]at q;obtain⟨n,rfl,h⟩:=q;obtain⟨F,H⟩:=jS (w:=w) e E n k;have i:∀r,(part fd.type n.toArray k).run P w=.ok r w->(Instr.field t (.agg n.toArray) f).run P w=.ok r w:=by intro r I;simp only[Instr.field,run_underlying D,g,asAgg,Sem.run_bind,Sem.run_pure,Result.andThen_ok,u,I]
 cases B <;> simp only[cond_true,cond_false]at a|-
 .obtain⟨c,o,p⟩:=h.get k _ (mh a);exact⟨c,i _ (H hag c o),p⟩
 .refine⟨_,i _ (F hag),?_⟩;simp only[VR];exact⟨_,rfl,(h.drop _).take _⟩
theorem th{t:TypeId}{m:Ti}(y:eB P t=some m){c z:Value}{x i:Va}(j:VR K w.heap G c x)(hi:VR K w.heap G z i)(a:(iU m x i).ok) :
  ∃A,(Instr.index t c z).run P w=.ok A w/\VR K w.heap G A (iU m x i).v:=by
 unfold iU at a|-;split at a
 .rename_i s k n o;simp only[VR,DR]at hi j;obtain⟨rfl,_⟩:=hi;obtain⟨rfl,_⟩:=j;obtain⟨f,p⟩:=a;have l:=Cv y o;have b:n.toNat<s.length:=by omega
  have g:(⟨s.toArray⟩:ByteArray).size=s.length:=by simp[ByteArray.size]
  rw[run_index_string w t _ k n l,dif_pos ⟨f,by rw[g];exact p⟩];refine⟨_,rfl,?_⟩;have e:((⟨s.toArray⟩:ByteArray)[n.toNat]'(by rw[g];exact b))=s.getD n.toNat 0:=by
   show s.toArray[n.toNat]=_;simp[getElem?_eq_getElem b]
  rw[e];refine jB ⟨by simp[lo],?_⟩;have:=(s.getD n.toNat 0).toNat_lt;simp only[hi];omega
 .rename_i B e q C cs k n o;simp only[VR,DR]at hi j;obtain⟨rfl,_⟩:=hi;obtain⟨D,rfl,h⟩:=j;obtain⟨l,hs,hag,d,E⟩:=Cu y o;obtain⟨p,F⟩:=jS (w:=w) hs E D (n.toNat * q);cases C <;> simp only[cond_true,cond_false]at a|-
  .obtain⟨f,b,H⟩:=a;obtain⟨c,r,u⟩:=h.get _ _ (mh H);exact⟨c,by simp only[Instr.index,asIntOf,run_underlying l,f,b,mM hs,Sem.run_bind,Sem.run_pure,Result.andThen_ok,true_and,if_true];exact F hag c r,u⟩
  .obtain⟨f,b⟩:=a;refine⟨_,by simp only[Instr.index,asIntOf,run_underlying l,f,b,mM hs,Sem.run_bind,Sem.run_pure,Result.andThen_ok,true_and,if_true];exact p hag,?_⟩;simp only[VR];exact⟨_,rfl,(h.drop _).take _⟩
 .exact a.elim
theorem oq{i:Nat}{c:Value}{x:Va}(f:VR K w.heap G c x)(a:(Hp x i).ok) :
  ∃g,(Instr.extract c i).run P w=.ok g w/\VR K w.heap G g (Hp x i).v:=by
 unfold Hp at a|-;split at a
 .simp only[VR]at f;obtain⟨h,rfl,b⟩:=f;obtain⟨c,d,e⟩:=b.get i _ (mh a);exact⟨c,by simp[Instr.extract,d],e⟩
 .exact a.elim
end
def gu{α:Type}(x:List α):Option Nat->Option Nat->List α
 |none,none=>x
 |some a,none=>x.drop a
 |none,some b=>x.take b
 |some a,some b=>(x.drop a).take (b-a)
def fJ:Option Va->Option Nat
 |some (.p (.i _ n))=>some n.toNat
 |_=>none
def jF(m:Nat):Option Va->Prop
 |none=>True
 |some (.p (.i _ n))=>0<=n/\n<=m
 |some _=>False
def gn:Option Va->Option Va->Prop
 |some (.p (.i _ a)),some (.p (.i _ b))=>a<=b
 |_,_=>True
def xX(x:Va)(l h m:Option Va):Pv:=match m with
 |none=>match x with
  |.p (.s s)=>⟨.p (.s (gu s (fJ l) (fJ h))),jF s.length l/\jF s.length h/\gn l h⟩
  |.p (.l a)=>⟨.p (.l (gu a (fJ l) (fJ h))),jF a.length l/\jF a.length h/\gn l h⟩
  |.full a=>⟨.p (.l (gu a (fJ l) (fJ h))),jF a.length l/\jF a.length h/\gn l h⟩
  |.nils=>⟨.nils,jF 0 l/\jF 0 h⟩
  |_=>eC
 |some (.p (.i _ c))=>match x,h with
  |.p (.l a),some (.p (.i _ b))=>⟨.full (gu a (fJ l) (some b.toNat)),b=c/\jF a.length l/\0<=b/\b<=a.length/\gn l h⟩
  |_,_=>eC
 |_=>eC
section
variable {K:Nat->Prop} {G:List Gh} {H:List Ob} {w:World} {P:Program}
def BR(K:Nat->Prop)(h:Array Obj)(G:List Gh)(c:Option Value)(x:Option Va):Prop:=match c,x with
 |none,none=>True
 |some c,some x=>VR K h G c x
 |_,_=>False
theorem i9{h:Array Obj}{c:Option Value}{x:Option Va}(hb:BR K h G c x){m:Nat}(a:jF m x) :
  (c=none/\x=none)∨∃k n,c=some (.int k n)/\x=some (.p (.i k n))/\0<=n/\n<=m:=by
 cases x with
 |none=>cases c <;> simp_all[BR]
 |some x =>
  cases c with
  |none=>simp[BR]at hb
  |some c =>
   unfold jF at a;split at a
   .rename_i h;cases h
   .rename_i k n h;cases h;simp only[BR,VR,DR]at hb;exact .inr ⟨k,n,by rw[hb.1],rfl,a.1,a.2⟩
   .exact a.elim
theorem GB(isS:Bool)(len c:Nat)(k:len<=c){cl i:Option Value}{l h:Option Va}{j:Array Obj}(m:BR K j G cl l)(n:BR K j G i h)(o:jF len l)(p:jF len h)(q:gn l h) :
  ∃a b,(Instr.sliceBounds isS len c cl i none).run P w=.ok (a,b,c) w/\a<=b/\b<=len/\a=(fJ l).getD 0/\b=(fJ h).getD len:=by
 rcases i9 m o with⟨rfl,rfl⟩|⟨t,g,rfl,rfl,d,r⟩ <;> rcases i9 n p with⟨rfl,rfl⟩|⟨u,e,rfl,rfl,f,s⟩
 .exact⟨0,len,by simp[Instr.sliceBounds],by omega,by omega,rfl,rfl⟩
 .exact⟨0,e.toNat,by simp[Instr.sliceBounds,run_sliceBound _ _ _ _ _ f (show e<=(c:Int)by omega)],by omega,by omega,rfl,rfl⟩
 .exact⟨g.toNat,len,by simp[Instr.sliceBounds,run_sliceBound _ _ _ _ _ d (show g<=(len:Int)by omega)],by omega,by omega,rfl,rfl⟩
 .simp only[gn]at q;exact⟨g.toNat,e.toNat,by simp[Instr.sliceBounds,run_sliceBound _ _ _ _ _ f (show e<=(c:Int)by omega),run_sliceBound _ _ _ _ _ d (show g<=(e.toNat:Int)by omega)],by omega,by omega,rfl,rfl⟩
theorem md{α:Type}(x:List α)(l h:Option Nat)(a:l.getD 0<=h.getD x.length)(hb:h.getD x.length<=x.length):gu x l h=(x.drop (l.getD 0)).take (h.getD x.length-l.getD 0):=by
 cases l <;> cases h <;> simp[gu]
 rw[take_of_length_le (by simp)]
theorem Il{α:Type}(x:List α)(l h:Option Nat)(a:l.getD 0<=h.getD x.length)(hb:h.getD x.length<=x.length):(gu x l h).length=h.getD x.length-l.getD 0:=by rw[md x l h a hb];simp;omega
def fh(n:Nat)(rows:List (List Dt)):Prop:=∀r∈rows,r.length=n
theorem DRss.sz{b:Array Obj}{n sz:Nat}{vs:List Value}:∀{rows:List (List Dt)},DRss K b sz vs rows->fh n rows->rows≠[]->sz=n
 |[],_,_,h=>absurd rfl h
 |r::c,a,hs,_=>by simp only[DRss]at a;obtain⟨_,_,_,d,_⟩:=a;have:=hs r (by simp);omega
theorem Ca{f:Array Obj}{b a esz:Nat}{rows:List (List Dt)}(w:∃cs T g sz i,K b/\f[b]?=some (.cells cs T g)/\rows.length<=eE/\(∀j v,i[j]?=some v->cs[a+j]?=some v)/\DRss K f sz i rows)(k:fh esz rows)(l h:Option Nat)(r:l.getD 0<=h.getD rows.length)(hb:h.getD rows.length<=rows.length)(m:Nat)(hm:h.getD rows.length<=m) :
  DR K f (.slice (some (if m=l.getD 0 then⟨b,a,none⟩else(⟨b,a,none⟩:Addr).add (l.getD 0*esz))) (h.getD rows.length-l.getD 0) (m-l.getD 0)) (.l (gu rows l h)):=by
 simp only[DR];obtain⟨cs,T,g,sz,i,s,d,t,x,n⟩:=w;have e:=Il rows l h r hb;have o:DRss K f sz ((i.drop (l.getD 0*sz)).take ((h.getD rows.length-l.getD 0)*sz)) (gu rows l h):=by rw[md rows l h r hb];exact(n.drop _).take _
 rw[<-e];by_cases u:m=l.getD 0
 .have y:(gu rows l h).length=0:=by omega
  have p:gu rows l h=[]:=length_eq_zero_iff.1 y;rw[if_pos u,p];exact .inr ⟨b,a,m-l.getD 0,cs,T,g,sz,[],rfl,s,d,by simp,by simp,by simp,by simp[DRss]⟩
 .rw[if_neg u,mz];refine .inr ⟨b,a+l.getD 0*esz,m-l.getD 0,cs,T,g,sz,_,rfl,s,d,by omega,by omega,fun j v c=>?_,o⟩;rw[getElem?_take]at c;split at c
  .rw[getElem?_drop]at c;have:=x _ v c;have q:rows≠[]:=by rintro rfl;have:=n;simp only[DRss]at this;subst this;simp at c
   rw[<-n.sz k q,Nat.add_assoc];exact this
  .cases c
theorem sW{t:TypeId}{ti:Ti}(ht:eB P t=some ti){c:Value}{cl X I:Option Value}{x:Va}{l h m:Option Va}(A:VR K w.heap G c x)(V:BR K w.heap G cl l)(C:BR K w.heap G X h)(hm:BR K w.heap G I m)
  (W:ti.kind=.str/\(∃s,x=.p (.s s))∨(∃e esz eb ez,ti.kind=.slice e esz eb ez/\((∃rows,x=.p (.l rows)/\fh esz rows)∨(∃rows,x=.full rows/\fh esz rows)∨x=.nils)))
  (f:(xX x l h m).ok) :
  ∃Y,(Instr.sliceAt t c cl X I).run P w=.ok Y w/\VR K w.heap G Y (xX x l h m).v:=by
 rcases W with⟨W,s,rfl⟩|⟨e,esz,eb,ez,W,hx⟩
 .have Q:=Cv ht W;cases m with
  |some m=>unfold xX at f;cases m <;> first|exact f.elim|(rename_i d;cases d <;> exact f.elim)
  |none =>
   cases I with
   |some I=>simp[BR]at hm
   |none =>
    simp only[xX]at f|-;obtain⟨D,R,J⟩:=f;simp only[VR,DR]at A;obtain⟨rfl,q⟩:=A;have g:(⟨s.toArray⟩:ByteArray).size=s.length:=by simp[ByteArray.size]
    obtain⟨a,b,z,o,n,rfl,rfl⟩:=GB (P:=P) (w:=w) false s.length s.length (Nat.le_refl _) V C D R J;refine⟨_,by simp only[Instr.sliceAt,Instr.slice,run_underlying Q,Sem.run_bind,Result.andThen_ok,Option.isSome_none,Bool.false_eq_true,if_false,Sem.run_pure,g,z];rfl,?_⟩;have e:(⟨s.toArray⟩:ByteArray).extract ((fJ l).getD 0) ((fJ h).getD s.length)=⟨(gu s (fJ l) (fJ h)).toArray⟩:=by rw[md s _ _ o n];apply ByteArray.ext;rw[ByteArray.data_extract];simp
    rw[e];refine xJ ?_;rw[Il s _ _ o n];omega
 .obtain⟨Q,⟨i,Z,hi2,hi3⟩,_⟩:=jh ht W;have r:(sizeOf e).run P w=.ok esz w:=mM (by simp[hD,Z,hi2]);cases m with
  |none =>
   cases I with
   |some I=>simp[BR]at hm
   |none =>
    -- a slice of pure data,not nil or nil
    have L:∀(rows:List (List Dt)),fh esz rows->DR K w.heap c (.l rows)->jF rows.length l/\jF rows.length h/\gn l h ->
      ∃Y,(Instr.sliceAt t c cl X none).run P w=.ok Y w/\DR K w.heap Y (.l (gu rows (fJ l) (fJ h))):=by
     intro rows g hd ⟨D,R,J⟩;have u:=hd;simp only[DR]at u;rcases u with⟨⟨M,rfl⟩,rfl⟩|⟨b,E,j,cs,T,fr,sz,vs,rfl,hK,n,F,q,hv,S⟩
     .obtain⟨a,b,z,o,n,ha',U⟩:=GB (P:=P) (w:=w) true 0 0 (Nat.le_refl _) V C D R J;have y:b=0:=by omega
      have B:a=0:=by omega
      subst y;subst B;refine⟨.slice M 0 0,by cases M <;> simp only[Instr.sliceAt,Instr.slice,run_underlying Q,Sem.run_bind,Result.andThen_ok,z,r,Sem.run_pure,if_true,Nat.sub_self],?_⟩;simp only[DR];left;refine⟨⟨M,rfl⟩,?_⟩;have:=Il ([]:List (List Dt)) (fJ l) (fJ h) (by rw[<-ha'];omega) (by simp only[length_nil];rw[<-U];omega);exact length_eq_zero_iff.1 (by rw[this];simp only[length_nil];rw[<-U,Nat.zero_sub])
     .obtain⟨a,b',z,o,hbl',rfl,rfl⟩:=GB (P:=P) (w:=w) true rows.length j F V C D R J;refine⟨_,by simp only[Instr.sliceAt,Instr.slice,run_underlying Q,Sem.run_bind,Result.andThen_ok,z,r,Sem.run_pure];rfl,?_⟩;have:=Ca ⟨cs,T,fr,sz,vs,hK,n,q,hv,S⟩ g (fJ l) (fJ h) o hbl' j (by omega);split <;> rename_i hz <;> simpa [hz]using this
    rcases hx with⟨rows,rfl,g⟩|⟨rows,rfl,g⟩|rfl
    .simp only[xX]at f|-;simp only[VR]at A|-;exact L rows g A f
    .simp only[xX]at f|-;simp only[VR]at A|-;exact L rows g A.1 f
    .simp only[xX]at f|-;simp only[VR]at A;subst A;obtain⟨D,R⟩:=f
     have J:gn l h:=by
      rcases i9 V D with⟨_,rfl⟩|⟨kl,nl,_,rfl,hl0,hl1⟩
      .simp[gn]
      .rcases i9 C R with⟨_,rfl⟩|⟨kh,nh,_,rfl,hh0,hh1⟩
       .simp[gn]
       .simp only[gn];omega
     obtain⟨a,b,z,o,n,ha',U⟩:=GB (P:=P) (w:=w) true 0 0 (Nat.le_refl _) V C D R J;have y:b=0:=by omega
     have B:a=0:=by omega
     subst y;subst B;exact⟨.slice none 0 0,by simp only[Instr.sliceAt,Instr.slice,run_underlying Q,Sem.run_bind,Result.andThen_ok,z,r,Sem.run_pure,if_true,Nat.sub_self],by simp only[VR]⟩
  |some m =>
   unfold xX at f|-;split at f
   .rename_i C;cases C
   .rename_i km c0 heq;cases heq;split at f;rotate_left
    .exact f.elim
    rename_i rows kh k;obtain⟨rfl,D,y,hb1,J⟩:=f;have g:fh esz rows:=by
     rcases hx with⟨rows',he,g⟩|⟨_,he,_⟩|he
     .cases he;exact g
     .cases he
     .cases he
    cases X with
    |none=>simp[BR]at C
    |some X =>
     cases I with
     |none=>simp[BR]at hm
     |some I =>
      simp only[BR,VR,DR]at C hm;obtain⟨rfl,_⟩:=C;obtain⟨rfl,_⟩:=hm;simp only[VR]at A;have u:=A;simp only[DR]at u;have hlb:∃a,a=(fJ l).getD 0/\a<=k.toNat/\(match cl with|some v=>Instr.sliceBound v k.toNat .slice3C|none=>pure 0:Sem Nat).run P w=.ok a w:=by
       rcases i9 V D with⟨rfl,rfl⟩|⟨kl,nl,rfl,rfl,hl0,hl1⟩
       .exact⟨0,rfl,by omega,rfl⟩
       .simp only[gn]at J;exact⟨nl.toNat,rfl,by omega,run_sliceBound _ _ _ _ _ hl0 (by omega)⟩
      obtain⟨a,ha,o,H⟩:=hlb;have N:∀(base:Option Addr) (j:Nat),rows.length<=j->(Instr.sliceBounds true rows.length j cl (some (.int kh k)) (some (.int km k))).run P w=.ok (a,k.toNat,k.toNat) w:=by
       intro base j F;have e1:=run_sliceBound (P:=P) (w:=w) km k j .slice3Acap y (show k<=(j:Int)by omega);have e2:=run_sliceBound (P:=P) (w:=w) kh k k.toNat .slice3B y (show k<=(k.toNat:Int)by omega);clear hx W Z hi2 hi3 r u A;unfold Instr.sliceBounds;cases cl with
       |none =>
        simp only[Sem.run_pure]at H;cases H;simp only[Sem.run_bind,if_true,e1,Result.andThen_ok,e2,Sem.run_pure]
       |some v =>
        simp only[Option.isSome_some,if_true,Sem.run_bind,e1,Result.andThen_ok,e2,Sem.run_pure];simp only at H;rw[H];rfl
      rcases u with⟨⟨M,rfl⟩,rfl⟩|⟨b,E,j,cs,T,fr,sz,vs,rfl,hK,n,F,q,hv,S⟩
      .have hb00:k.toNat=0:=by simp at hb1;omega
       have B:a=0:=by omega
       have z:=N none 0 (by simp);simp only[length_nil]at z;refine⟨.slice M 0 0,by cases M <;> simp only[Instr.sliceAt,Instr.slice,run_underlying Q,Sem.run_bind,Result.andThen_ok,z,r,Sem.run_pure,hb00,B,if_true,Nat.sub_self],?_⟩;have hc0:gu ([]:List (List Dt)) (fJ l) (some k.toNat)=[]:=by
        apply length_eq_zero_iff.1;rw[Il _ _ _ (by simp only[Option.getD_some];omega) (by simp only[Option.getD_some];simp;omega)];simp only[Option.getD_some];omega
       rw[hc0];simp only[VR,DR];exact⟨.inl ⟨⟨M,rfl⟩,trivial⟩,M,rfl⟩
      .have z:=N (some ⟨b,E,none⟩) j F;have hlc:=Ca ⟨cs,T,fr,sz,vs,hK,n,q,hv,S⟩ g (fJ l) (some k.toNat) (by simp only[Option.getD_some];omega) (by simp only[Option.getD_some];omega) k.toNat (by simp);have O:=Il rows (fJ l) (some k.toNat) (by simp only[Option.getD_some];omega) (by simp only[Option.getD_some];omega);simp only[Option.getD_some,<-ha]at hlc O;refine⟨_,by simp only[Instr.sliceAt,Instr.slice,run_underlying Q,Sem.run_bind,Result.andThen_ok,z,r,Sem.run_pure];rfl,?_⟩;simp only[VR];refine⟨?_,⟨if k.toNat=a then some ⟨b,E,none⟩else some ((⟨b,E,none⟩:Addr).add (a*esz)),?_⟩⟩
       .split <;> rename_i hz <;> simpa [hz]using hlc
       .rw[O];rfl
   .exact f.elim
def kV(f:Ti)(H:List Ob):Va->Option (Nat×Nat×Nat×Nat×Prop)
 |.buf o=>match f.kind,sC H o with
  |.slice _ b _ _,some (_,d,c,_)=>some (o,d,0,c.length,d=b)
  |_,_=>none
 |.vw o d a n=>match f.kind with
  |.slice _ b _ _=>some (o,d,a,n,d=b)
  |_=>none
 |.ptr o 0=>match f.kind,eD H o with
  |.arr e _ b _,.buf _ d c=>some (o,d,0,e,d=b/\c.length=e)
  |_,_=>none
 |_=>none
def mP(r:Nat×Nat×Nat×Nat×Prop)(l h m:Option Va):Pv:=match m with
 |none=>⟨.vw r.1 r.2.1 (r.2.2.1+(fJ l).getD 0) ((fJ h).getD r.2.2.2.1-(fJ l).getD 0),r.2.2.2.2/\jF r.2.2.2.1 l/\jF r.2.2.2.1 h/\gn l h⟩
 |some _=>eC
theorem uV{g:Gh}{e:Option Addr}{N sz a n l h:Nat}{c:Option Addr}{m d:Nat}(o:a+n<=N)(p:a+m<=d)(f:0<m->∃b,g.blk=some b/\e=some ⟨b,0,none⟩/\c=some ⟨b,a*sz,none⟩)(q:l<=h)(r:h<=n)(hm:n<=m) :
  N7 (.slice (if m=l then c else c.map (·.add (l*sz))) (h-l) (m-l)) g.blk e N d sz (a+l) (h-l):=by
 refine⟨by omega,_,_,rfl,by omega,by omega,fun s=>?_⟩;obtain⟨b,i,j,k⟩:=f (by omega);refine⟨b,i,j,?_⟩;rw[if_neg (by omega),k,Option.map_some,mz,Nat.add_mul]
theorem uW{t:TypeId}{ti:Ti}(ht:eB P t=some ti)(hS:St K G H w){c:Value}{cl ch cm:Option Value}{x:Va}{l h m:Option Va}(R:VR K w.heap G c x)(hl:BR K w.heap G cl l)(hh:BR K w.heap G ch h)(hm:BR K w.heap G cm m)
  {r:Nat×Nat×Nat×Nat×Prop} (f:kV ti H x=some r) (z:(mP r l h m).ok) :
  ∃S,(Instr.sliceAt t c cl ch cm).run P w=.ok S w/\VR K w.heap G S (mP r l h m).v:=by
 cases m with
 |some m=>exact z.elim
 |none =>
  cases cm with
  |some cm=>simp[BR]at hm
  |none =>
   -- a cut of a slice
   have A:∀{o u a n:Nat} {e j eb:Nat} {ez:List Value},ti.kind=.slice e j eb ez->u=j->jF n l->jF n h->gn l h->VR K w.heap G c (.vw o u a n) ->
     ∃S,(Instr.sliceAt t c cl ch none).run P w=.ok S w/\VR K w.heap G S (.vw o u (a+(fJ l).getD 0) ((fJ h).getD n-(fJ l).getD 0)):=by
    intro o u a n e j eb ez F he B C I hv;subst he;obtain⟨hu,⟨i,hi1,hi2,hi3⟩,_⟩:=jh ht F;have hes:(sizeOf e).run P w=.ok u w:=mM (by simp[hD,hi1,hi2]);simp only[VR]at hv;obtain⟨g,ad,N,k,D,p,haN,U,q,rfl,V,hcc,W⟩:=hv;obtain⟨x,y,f,J,L,rfl,rfl⟩:=GB (P:=P) (w:=w) true n q V hl hh B C I;refine⟨.slice (if q=(fJ l).getD 0 then U else U.map (·.add ((fJ l).getD 0*u))) ((fJ h).getD n-(fJ l).getD 0) (q-(fJ l).getD 0),by simp only[Instr.sliceAt,Instr.slice,run_underlying hu,Sem.run_bind,Result.andThen_ok,f,hes,Sem.run_pure],?_⟩;simp only[VR];exact⟨g,ad,N,k,D,p,uV haN hcc W J L V⟩
   unfold kV at f;split at f
   .split at f;rotate_left
    .cases f
    rename_i o e j eb ez T u d fx F hx;cases f;obtain⟨Q,B,C,I⟩:=z;refine A F Q B C I ?_;simp only[VR]at R|-;obtain⟨g,D,rfl,_⟩:=R;obtain⟨X,xs,hxs,M⟩:=hS.bufOb hx D;rcases M with⟨⟨a,Y⟩,rfl,_⟩|⟨b,k,cur,fr,p,s,hb,hfr,h4,h5,h6,h7⟩
    .exact⟨g,a,0,0,D,Y,by simp,a,0,Y,by simp,by simp,by simp⟩
    .exact⟨g,_,_,k,D,p,by simp,_,k,p,h4,by simp,fun _=>⟨b,s,rfl,by simp⟩⟩
   .split at f;rotate_left
    .cases f
    rename_i o u a n e j eb ez F;cases f;obtain⟨Q,B,C,I⟩:=z;exact A F Q B C I R
   .split at f;rotate_left
    .cases f
    rename_i o len e j ag T u d F hx;cases f;obtain⟨⟨Q,Z⟩,B,C,I⟩:=z;simp only at Q B C;subst Q;subst Z;obtain⟨hu,hs,_⟩:=Cu ht F;simp only[VR]at R;obtain⟨g,b,D,s,rfl⟩:=R;obtain⟨X,xs,hxs,M⟩:=hS.ob _ g _ D (zu hx (by simp));rcases M with⟨_,_,hn⟩|⟨b',k,cur,fr,p,E,_,_,O,_⟩
    .rw[s]at hn;cases hn
    obtain rfl:b'=b:=by rw[s]at E;exact(Option.some.inj E).symm
    obtain⟨x,y,f,J,L,rfl,rfl⟩:=GB (P:=P) (w:=w) false d.length d.length (Nat.le_refl _) hl hh B C I;refine⟨.slice (if d.length=(fJ l).getD 0 then(some ⟨b',0,none⟩:Option Addr)else(some ⟨b',0,none⟩:Option Addr).map (·.add ((fJ l).getD 0*u))) ((fJ h).getD d.length-(fJ l).getD 0) (d.length-(fJ l).getD 0),?_,?_⟩
    .simp only[Instr.sliceAt,Instr.sureAddr,run_underlying hu,Sem.run_bind,Result.andThen_ok,f,mM hs,Sem.run_pure];split <;> rfl
    .simp only[mP,VR];exact⟨g,_,_,k,D,p,uV (by simp) (by simpa using O) (fun _=>⟨b',s,rfl,by simp⟩) J L (Nat.le_refl _)⟩
   .cases f
end
def bR(l:List UInt8):List (List Dt):=l.map fun b=>[.i .u8 b.toNat]
def gD:List (List Dt)->List UInt8
 |[]=>[]
 |[.i _ n]::a=>UInt8.ofNat n.toNat::gD a
 |_::a=>gD a
def fN:List (List Dt)->Prop
 |[]=>True
 |[.i k _]::a=>k=.u8/\fN a
 |_::_=>False
theorem uZ:∀l:List UInt8,gD (bR l)=l
 |[]=>rfl
 |b::l=>by
  show UInt8.ofNat ((b.toNat:Int).toNat)::gD (bR l)=b::l;rw[uZ l];simp
theorem sr:∀l:List UInt8,fN (bR l)
 |[]=>trivial
 |_::l=>⟨rfl,sr l⟩
theorem tS(a:List UInt8):(bR a).length=a.length:=by simp[bR]
def ni(H:List Ob)(o:Nat):Option (List (List Dt)):=match eD H o with
 |.sb _ a=>some (bR a)
 |_=>(sC H o).map fun p=>p.2.2.1
def Cw(H:List Ob):Va->Option (List (List Dt))
 |.p (.l b)=>some b
 |.full b=>some b
 |.nils=>some []
 |.buf o=>ni H o
 |.bufc o _=>ni H o
 |.vw o e a n=>match sC H o with
  |some (_,c,b,_)=>if e=c then some ((b.drop a).take n)else none
  |none=>none
 |.nv p i=>match eD H p with
  |.inn _ _ d=>some (d.getD i [])
  |_=>none
 |_=>none
def lenN(H:List Ob):Va->Option Nat
 |.buf o=>match eD H o with
  |.nst _ _ _ _ _ a _=>some a.length
  |_=>none
 |_=>none
def I9(op:UnOp):Va->Pv
 |.p (.b x)=>match op with
  |.not=>⟨.p (.b (!x)),True⟩
  |_=>eC
 |.p (.i k n)=>match op with
  |.neg=>⟨.p (.i k (k.wrap (0-n))),True⟩
  |.xor=>⟨.p (.i k (fl .xor k (if k.signed then -1 else k.max) n)),True⟩
  |_=>eC
 |_=>eC
def zB(P:Program)(t:TypeId):Tk:=match eB P t with
 |some a=>a.kind
 |none=>.other
def oD(P:Program)(b c:TypeId)(H:List Ob)(x:Va):Pv:=match zB P c with
 |.int d=>match x with
  |.p (.i _ n)=>⟨.p (.i d (d.wrap n)),True⟩
  |_=>eC
 |.str=>match x with
  |.p (.s s)=>⟨.p (.s s),True⟩
  |x=>match Cw H x,zB P b with
   |some a,.slice e _ _ _=>match zB P e with
    |.int .u8=>⟨.p (.s (gD a)),fN a⟩
    |_=>eC
   |_,_=>eC
 |_=>eC
def wn(P:Program)(t:TypeId)(H:List Ob)(x:Va):Pv:=match zB P t with
 |.str=>match x with
  |.p (.s s)=>⟨.p (.i .i64 s.length),True⟩
  |_=>eC
 |.arr n _ _ _=>⟨.p (.i .i64 n),n<=eE⟩
 |.slice _ _ _ _=>match Cw H x with
  |some a=>⟨.p (.i .i64 a.length),True⟩
  |none=>match x with
   |.cs _ n=>⟨.p (.i .i64 n),n<=eE⟩
   |x=>match lenN H x with
    |some n=>⟨.p (.i .i64 n),True⟩
    |none=>eC
 |.map _ _=>match x with
  |.mp o=>match eD H o with
   |.mp _ b=>⟨.p (.i .i64 b.length),True⟩
   |_=>eC
  |_=>eC
 |_=>eC
def LP(P:Program)(a b T:TypeId)(n:Nat):Bool:=match P.underlying a,P.underlying b with
 |some (.pointer t),some .unsafePointer=>match P.info? t with
  |some j=>decide (j.size≠0)&&decide (0<n)
  |none=>false
 |some .unsafePointer,some (.pointer u)=>(P.info? u).isSome&&liesAt P P.depth T (n / P.cellsOf T) 0 u 1
 |_,_=>false
def oE(P:Program)(a b:TypeId)(H:List Ob)(x:Va):Pv:=match x with
 |.ptr o 0=>match eD H o with
  |.cells T c=>⟨.ptr o 0,LP P a b T c.length=true⟩
  |_=>eC
 |x=>oD P a b H x
theorem F0{n:Nat}(h:n<=eE):Fits .i64 n:=by simp only[Fits,lo,hi];unfold eE at h;omega
section
variable {K:Nat->Prop} {G:List Gh} {H:List Ob} {w:World} {P:Program}
theorem zL{t:TypeId}{k:Tk}(h:zB P t=k)(b:k≠.other):∃a,eB P t=some a/\a.kind=k:=by
 unfold zB at h;split at h
 .exact⟨_,by assumption,h⟩
 .exact absurd h.symm b
theorem Di{op:UnOp}{c:Value}{x:Va}(b:VR K w.heap G c x)(a:(I9 op x).ok):∃d,(Op.unary op c).run P w=.ok d w/\VR K w.heap G d (I9 op x).v:=by
 unfold I9 at a|-;split at a
 .simp only[VR,DR]at b;subst b;cases op <;> first|exact a.elim|exact⟨_,rfl,fX rfl⟩
 .simp only[VR,DR]at b;obtain⟨rfl,_⟩:=b;cases op <;> first|exact a.elim|exact⟨_,rfl,jB (Fits.wrap _ _)⟩|exact⟨_,rfl,jB (Fits.bits _ _ _ _)⟩
 .exact a.elim
theorem DRss.bytes{h:Array Obj}(l:List UInt8):DRss K h 1 (l.map fun b=>Value.int .u8 b.toNat) (bR l):=by
 induction l with
 |nil=>simp[bR,DRss]
 |cons b l a =>
  simp only[bR,map_cons,DRss];refine⟨[.int .u8 b.toNat],_,rfl,rfl,?_,a⟩;simp only[DRs,DR];refine⟨_,[],rfl,⟨rfl,by simp[lo],?_⟩,rfl⟩;have:=b.toNat_lt;simp only[hi];omega
theorem ng(B:St K G H w){c:Value}{o:Nat}(n:VR K w.heap G c (.buf o)){rows:List (List Dt)}(k:ni H o=some rows) :
  rows.length<=eE/\((∃a d,c=.slice a 0 d/\rows=[])∨∃b l d cs T q sz C,c=.slice (some ⟨b,l,none⟩) rows.length d/\w.heap[b]?=some (.cells cs T q) /\
   (∀j v,C[j]?=some v->cs[l+j]?=some v)/\DRss K w.heap sz C rows):=by
 unfold ni at k;split at k
 .rename_i o T p r;cases k;simp only[VR]at n;obtain⟨g,s,rfl,_⟩:=n;obtain⟨e,t⟩:=B.ob _ g _ s (zu r (by simp));have m:(bR p).length=p.length:=by simp[bR]
  rcases t with⟨u,rfl,_⟩|⟨b,d,h,q,i,x,hb,y,E,F,I,D,J⟩
  .exact⟨by simp[bR],.inl ⟨none,0,u,rfl⟩⟩
  .refine⟨by rw[m];exact e,.inr ⟨b,0,d,h,T,_,1,p.map mx,by rw[m];exact i,hb,fun j v f=>?_,DRss.bytes p⟩⟩;rw[<-J,getElem?_take]at f;split at f
   .rw[Nat.zero_add,<-Array.getElem?_toList];exact f
   .cases f
 obtain⟨⟨T,sz,z,fx⟩,r,k⟩:=Option.map_eq_some_iff.1 k;cases k;simp only[VR]at n;obtain⟨g,s,rfl,_⟩:=n;obtain⟨e,L,A,t⟩:=B.bufOb r s;rcases t with⟨⟨a,u⟩,rfl,_⟩|⟨b,d,h,q,i,x,hb,y,E,F,I,D⟩
 .exact⟨by simp,.inl ⟨a,0,u,rfl⟩⟩
 .refine⟨e,.inr ⟨b,0,d,h,T,_,sz,L,i,hb,fun j v f=>?_,A⟩⟩;rw[<-D,getElem?_take]at f;split at f
  .rw[Nat.zero_add,<-Array.getElem?_toList];exact f
  .cases f
theorem Ph(I:St K G H w){c:Value}{x:Va}(l:VR K w.heap G c x){rows:List (List Dt)}(f:Cw H x=some rows) :
  rows.length<=eE/\((∃a d,c=.slice a 0 d/\rows=[])∨∃b q d cs T u sz A,c=.slice (some ⟨b,q,none⟩) rows.length d/\w.heap[b]?=some (.cells cs T u) /\
   (∀j v,A[j]?=some v->cs[q+j]?=some v)/\DRss K w.heap sz A rows):=by
 unfold Cw at f;split at f
 .rename_i h;cases f;simp only[VR,DR]at l;rcases l with⟨⟨a,rfl⟩,rfl⟩|⟨b,q,d,cs,T,u,sz,A,rfl,hK,hb,J,e,L,M⟩
  .exact⟨by simp,.inl ⟨a,0,rfl,rfl⟩⟩
  .exact⟨e,.inr ⟨b,q,d,cs,T,u,sz,A,rfl,hb,L,M⟩⟩
 .rename_i h;cases f;simp only[VR,DR]at l;rcases l.1 with⟨⟨a,rfl⟩,rfl⟩|⟨b,q,d,cs,T,u,sz,A,rfl,hK,hb,J,e,L,M⟩
  .exact⟨by simp,.inl ⟨a,0,rfl,rfl⟩⟩
  .exact⟨e,.inr ⟨b,q,d,cs,T,u,sz,A,rfl,hb,L,M⟩⟩
 .cases f;simp only[VR]at l;exact⟨by simp,.inl ⟨none,0,l,rfl⟩⟩
 .exact ng I l f
 .refine ng I ?_ f;simp only[VR]at l|-;obtain⟨g,a,n,d,B,h2,h3,_⟩:=l;exact⟨g,B,h3,a,n,d,h2⟩
 .rename_i o sz a n;split at f;rotate_left
  .cases f
  rename_i T sz' h fx O;split at f;rotate_left
  .cases f
  rename_i P;subst P;cases f;simp only[VR]at l;obtain⟨g,ad,N,d,Q,s,haN,R,k,rfl,hnc,_,C⟩:=l;obtain⟨e,S,y,U⟩:=I.bufOb O Q;rcases Nat.eq_zero_or_pos n with rfl|hn
  .exact⟨by simp,.inl ⟨R,k,rfl,by simp⟩⟩
  obtain⟨b0,hgb0,rfl,rfl⟩:=C (by omega);rcases U with⟨⟨a',B⟩,rfl,_⟩|⟨b,cap2,z,u,t,V,hb,W,h4,h5,h6,X⟩
  .rw[s]at B;cases B;omega
  rw[s]at t;cases t;have hl:((h.drop a).take n).length=n:=by simp;omega
  refine⟨by omega,.inr ⟨_,a*sz,k,z,T,_,sz,(S.drop (a*sz)).take (n*sz),by rw[hl],hb,fun j v r=>?_,(y.drop _).take _⟩⟩;rw[getElem?_take]at r;split at r
  .rw[getElem?_drop,<-X,getElem?_take]at r;split at r
   .rw[<-Array.getElem?_toList];exact r
   .cases r
  .cases r
 .split at f;rotate_left
  .cases f
  rename_i p i _ T sz D O;cases f;simp only[VR]at l;obtain⟨g,a,m,d,Q,E,rfl⟩:=l;obtain⟨hb0,hl,Y,_⟩:=I.ob p g _ Q (zu O (by simp));have hil:=(List.getElem?_eq_some_iff.1 E).1;have F:D[i]?=some (D.getD i []):=by rw[getElem?_eq_getElem (by omega),getD_eq_getElem?_getD,getElem?_eq_getElem (by omega)];rfl
  obtain⟨e,S,y,U⟩:=Y i _ _ E F;rcases U with⟨⟨a',B⟩,Z,_⟩|⟨b,k,z,u,s,V,hb,W,h4,h5,h6,X⟩
  .exact⟨e,.inl ⟨a',0,B,Z⟩⟩
  .refine⟨e,.inr ⟨b,0,k,z,T,_,sz,S,s,hb,fun j v r=>?_,y⟩⟩;rw[<-X,getElem?_take]at r;split at r
   .rw[Nat.zero_add,<-Array.getElem?_toList];exact r
   .cases r
 .cases f
theorem RR{h:Array Obj}{ag:Bool}:∀{a:List MapEntry} {es:List (Dt×List Dt)},MRs K h ag a es->a.length=es.length
 |[],[],_=>rfl
 |_::a,_::es,H=>by simp only[MRs]at H;simp[RR H.2.2]
 |[],_::_,H=>by simp[MRs]at H
 |_::_,[],H=>by simp[MRs]at H
theorem FP{t:TypeId}{c:Ti}(f:eB P t=some c){k e:TypeId}(g:c.kind=.map k e):P.underlying t=some (.map k e):=by
 obtain⟨d,h,a,i⟩:=uN f;rw[g]at a;cases d <;> simp only[u1]at a <;> try (cases a)
 case slice e=>split at a <;> cases a
 case array n e=>split at a <;> cases a
 case struct b=>split at a <;> cases a
 case map=>exact h
theorem AE(s:St K G H w){c:Value}{x:Va}(m:VR K w.heap G c x){n:Nat}(e:lenN H x=some n):∃a h,c=.slice a n h/\n<=eE:=by
 unfold lenN at e;split at e;rotate_left
 .cases e
 split at e;rotate_left
 .cases e
 rename_i f T B k p o C t;cases e;simp only[VR]at m;obtain⟨g,u,rfl,_⟩:=m;obtain⟨q,_,D,E,_,i,_,r,F,v,y⟩:=s.ob _ g _ u (zu t (by simp));have d:=BM (k:=k) i;rcases y with⟨⟨a,z⟩,j,_⟩|⟨b,h,A,I,l,_⟩
 .rw[j]at d;simp at d;exact⟨a,0,by rw[z,<-d],q⟩
 .exact⟨_,_,by rw[l,d],q⟩
theorem AD{t:TypeId}(A:St K G H w){c:Value}{x:Va}(k:VR K w.heap G c x)(d:(wn P t H x).ok)(E:Array TypeId)(i:E[0]?=some t)(L:TypeId) :
  ∃F,(Builtin.len_ E L #[c]).run P w=.ok F w/\VR K w.heap G F (wn P t H x).v:=by
 unfold wn at d|-;split at d
 .rename_i m;obtain⟨B,j,f⟩:=zL m (by simp);split at d;rotate_left
  .exact d.elim
  simp only[VR,DR]at k;obtain⟨rfl,C⟩:=k;refine⟨_,by simp only[Builtin.len_,i,getElem?_toArray,getElem?_cons_zero,run_underlying (Cv j f),Sem.run_bind,Sem.run_pure,Result.andThen_ok];rfl,?_⟩;simp only[goInt,ByteArray.size,size_toArray];exact jB (F0 C)
 .rename_i n e s a m;obtain⟨B,j,f⟩:=zL m (by simp);refine⟨_,by simp only[Builtin.len_,i,getElem?_toArray,getElem?_cons_zero,run_underlying (Cu j f).1,Sem.run_bind,Sem.run_pure,Result.andThen_ok];rfl,?_⟩;exact jB (F0 d)
 .rename_i e s b z m;obtain⟨B,j,f⟩:=zL m (by simp);split at d;rotate_left
  .split at d
   .simp only[VR]at k;obtain⟨g,b,I,r,rfl⟩:=k;exact⟨_,by simp only[Builtin.len_,i,getElem?_toArray,getElem?_cons_zero,run_underlying (jh j f).1,Sem.run_bind,Sem.run_pure,Result.andThen_ok];rfl,jB (F0 d)⟩
   .split at d;rotate_left
    .exact d.elim
    rename_i n M;obtain⟨a,u,rfl,h⟩:=AE A k M;exact⟨_,by simp only[Builtin.len_,i,getElem?_toArray,getElem?_cons_zero,run_underlying (jh j f).1,Sem.run_bind,Sem.run_pure,Result.andThen_ok];rfl,jB (F0 h)⟩
  rename_i y N;obtain⟨h,O⟩:=Ph A k N;refine⟨goInt y.length,?_,jB (F0 h)⟩;rcases O with⟨a,u,rfl,rfl⟩|⟨b,Q,u,cs,T,U,V,W,rfl,_⟩
  .simp only[Builtin.len_,i,getElem?_toArray,getElem?_cons_zero,run_underlying (jh j f).1,Sem.run_bind,Sem.run_pure,Result.andThen_ok];rfl
  .simp only[Builtin.len_,i,getElem?_toArray,getElem?_cons_zero,run_underlying (jh j f).1,Sem.run_bind,Sem.run_pure,Result.andThen_ok]
 .rename_i X Y m;obtain⟨B,j,f⟩:=zL m (by simp);split at d;rotate_left
  .exact d.elim
  rename_i o;split at d;rotate_left
  .exact d.elim
  rename_i Z R S;simp only[VR]at k;obtain⟨g,b,I,r,rfl⟩:=k;obtain⟨h,J,p,q,l,hb,D,_⟩:=A.ob _ g _ I (zu S (by simp));obtain rfl:J=b:=by rw[r]at l;exact(Option.some.inj l).symm
  have C:p.size=R.length:=by rw[<-Array.length_toList];exact RR D
  refine⟨goInt p.size,by simp only[Builtin.len_,i,getElem?_toArray,getElem?_cons_zero,run_underlying (FP j f),Sem.run_bind,Sem.run_pure,Result.andThen_ok,run_getObj_map w J p q hb],?_⟩;rw[C];exact jB (F0 h)
 .exact d.elim
theorem Rm{h:Array Obj}:∀{sz:Nat} {rows:List (List Dt)} {f:List Value},DRss K h sz f rows->fN rows->∃d:List Int,f=d.map (Value.int .u8)/\(d.map fun n=>UInt8.ofNat n.toNat)=gD rows/\d.length=rows.length
 |_,[],f,e,_=>by simp only[DRss]at e;subst e;exact⟨[],rfl,rfl,rfl⟩
 |_,[.i k n]::p,f,e,c=>by
  simp only[DRss,DRs,DR]at e;obtain⟨a,b,rfl,_,⟨v,g,rfl,⟨rfl,_⟩,rfl⟩,j⟩:=e;simp only[fN]at c;obtain⟨rfl,c⟩:=c;obtain⟨d,rfl,m,o⟩:=Rm j c;exact⟨n::d,by simp,by simp[gD,m],by simp[o]⟩
 |_,[]::_,_,_,c=>by simp[fN]at c
 |_,[.b _]::_,_,_,c=>by simp[fN]at c
 |_,[.s _]::_,_,_,c=>by simp[fN]at c
 |_,[.l _]::_,_,_,c=>by simp[fN]at c
 |_,[.a _]::_,_,_,c=>by simp[fN]at c
 |_,(_::_::_)::_,_,_,c=>by simp[fN]at c
theorem xf{h j:TypeId}(L:St K G H w){c:Value}{x:Va}(l:VR K w.heap G c x)(g:∃d,P.underlying h=some d)(f:(oD P h j H x).ok) :
  ∃D,(convert h j c).run P w=.ok D w/\VR K w.heap G D (oD P h j H x).v:=by
 obtain⟨E,g⟩:=g;unfold oD at f|-;split at f
 .rename_i Y s;obtain⟨M,t,k⟩:=zL s (by simp);have m:=iM t k;split at f;rotate_left
  .exact f.elim
  simp only[VR,DR]at l;obtain⟨rfl,_⟩:=l;exact⟨_,by simp[convert,run_underlying g,run_underlying m,Conv.intToInt],jB (Fits.wrap _ _)⟩
 .rename_i s;obtain⟨M,t,k⟩:=zL s (by simp);have m:=Cv t k;split at f
  .simp only[VR,DR]at l;obtain⟨rfl,N⟩:=l;exact⟨_,by simp[convert,run_underlying g,run_underlying m],xJ N⟩
  .split at f;rotate_left
   .exact f.elim
   rename_i rows e Z eb ez O u;split at f;rotate_left
   .exact f.elim
   rename_i y;have n:fN rows:=f;obtain⟨Q,z,A⟩:=zL u (by simp);obtain⟨R,B,C⟩:=zL y (by simp);have o:=(jh z A).1;have p:=iM B C;obtain⟨F,S⟩:=Ph L l O;rcases S with⟨a,q,rfl,rfl⟩|⟨b,r,q,cs,T,U,sz,vs,rfl,hb,V,W⟩
   .exact⟨.string ByteArray.empty,by
     rw[run_convert_bytes_string w h j e _ _ _ o p m];cases a <;> simp[Conv.bytesToString,loadCells,loadCellsFrom],xJ (x:=[]) (by simp)⟩
   .obtain⟨I,rfl,J,X⟩:=Rm W n;refine⟨_,run_convert_bytes_arg w h e o p b r _ q I X (fun i hi=>?_) j m,?_⟩
    .rw[cell_of_row w b (r+i) cs T U hb];refine V i _ ?_;have:i<I.length:=by omega
     simp[getElem?_eq_getElem this,List.getD]
    .rw[strOfNums,J];refine xJ ?_;rw[<-J];simp only[length_map];omega
 .exact f.elim
theorem xg{f dst:TypeId}(A:St K G H w){c:Value}{x:Va}(l:VR K w.heap G c x)(h:∃d,P.underlying f=some d)(e:(oE P f dst H x).ok) :
  ∃B,(convert f dst c).run P w=.ok B w/\VR K w.heap G B (oE P f dst H x).v:=by
 unfold oE at e|-;split at e
 .rename_i o;split at e;rotate_left
  .exact e.elim
  rename_i T C n;have a:LP P f dst T C.length=true:=e;have p:=l;simp only[VR]at l;obtain⟨g,b,D,q,rfl⟩:=l;obtain⟨m,cs,i,hb,r⟩:=A.ob o g _ D (zu n (by simp));obtain rfl:m=b:=by rw[q]at i;exact(Option.some.inj i).symm
  have E:=r.length;have k:w.shape? m=some (T,C.length):=by simp[World.shape?,hb,E]
  refine⟨_,?_,p⟩;unfold LP at a;split at a
  .rename_i t s y;split at a
   .rename_i j z;simp only[Bool.and_eq_true,decide_eq_true_eq]at a;exact Lib.run_to_unsafe w ⟨m,0,none⟩ s y z a.1 k a.2
   .cases a
  .rename_i u s y;simp only[Bool.and_eq_true]at a;obtain⟨j,z⟩:=Option.isSome_iff_exists.1 a.1;exact Lib.run_from_unsafe w ⟨m,0,none⟩ s y z k a.2
  .cases a
 .exact xf A l h e
end
def iD:Va->List Va
 |.agg cs=>cs
 |v=>[v]
def Va.isCell:Va->Bool
 |.tup _|.top|.cnd _ _|.p (.a _)=>false
 |.raw v=>v.oneCell'
 |_=>true
def setR:List Va->Nat->List Va->List Va
 |l,0,a=>a++l.drop a.length
 |x::l,n+1,a=>x::setR l n a
 |[],_+1,_=>[]
def iZ(pl:Nat->Option (Nat×Nat)):List Va->List (Nat×Va)->Option (List Va)
 |cells,[]=>some cells
 |cells,(i,v)::a=>match pl i with
  |none=>none
  |some (b,c)=>if v.isCell=true/\(iD v).length=c/\b+(iD v).length<=cells.length then iZ pl (setR cells b (iD v)) a else none
def Cp(c:List (Nat×Nat×Bool))(i:Nat):Option (Nat×Nat):=match c[i]? with
 |some (a,b,_)=>some (a,b)
 |none=>none
def pn:List Value->Prop
 |[]=>True
 |z::a=>xe z/\pn a
def i3(b:Ti)(a:List (Nat×Va)):Pv:=match b.kind with
 |.struct d=>match iZ (Cp d) (b.zero.map cv) a with
  |some cs=>⟨.agg cs,pn b.zero⟩
  |none=>eC
 |.arr _ _ c _=>match iZ (fun i=>some (i*c,c)) (b.zero.map cv) a with
  |some cs=>⟨.agg cs,pn b.zero⟩
  |none=>eC
 |_=>eC
def ft:List Value->Nat->List Value->List Value
 |l,0,a=>a++l.drop a.length
 |x::l,n+1,a=>x::ft l n a
 |[],_+1,_=>[]
section
variable {K:Nat->Prop} {h:Array Obj} {G:List Gh} {P:Program} (w:World)
theorem Gf{c:Value}(h:c.oneCell'=true):c.cells.toList=[c]:=by cases c <;> first|rfl|simp[Value.oneCell']at h
theorem BJ{c:Value}{v:Va}(d:VR K h G c v)(q:v.isCell=true):VRs K h G c.cells.toList (iD v):=by
 have g:c.oneCell'=true->iD v=[v]->VRs K h G c.cells.toList (iD v):=fun z A=>by rw[Gf z,A];exact⟨c,[],rfl,d,rfl⟩
 cases v with
 |p x =>
  refine g ?_ rfl;cases x with
  |l t=>simp only[VR,DR]at d;rcases d with⟨⟨_,rfl⟩,_⟩|⟨_,_,_,_,_,_,_,_,rfl,_⟩ <;> rfl
  |b x=>simp only[VR,DR]at d;subst d;rfl
  |i k n=>simp only[VR,DR]at d;obtain⟨rfl,_⟩:=d;rfl
  |s x=>simp only[VR,DR]at d;obtain⟨rfl,_⟩:=d;rfl
  |a E=>simp[Va.isCell]at q
  |r x=>simp only[VR,DR]at d;obtain⟨rfl,h⟩:=d;exact h
 |nils=>refine g ?_ rfl;simp only[VR]at d;subst d;rfl
 |full t=>refine g ?_ rfl;simp only[VR]at d;obtain⟨_,a,rfl⟩:=d;rfl
 |rp B=>refine g ?_ rfl;simp only[VR]at d;obtain⟨_,_,_,_,_,_,rfl,_⟩:=d;rfl
 |ptr o m=>refine g ?_ rfl;simp only[VR]at d;obtain⟨_,_,_,_,rfl⟩:=d;rfl
 |cs o m=>refine g ?_ rfl;simp only[VR]at d;obtain⟨_,_,_,_,rfl⟩:=d;rfl
 |el o w i m=>refine g ?_ rfl;simp only[VR]at d;obtain⟨_,_,_,_,_,_,_,rfl⟩:=d;rfl
 |buf o=>refine g ?_ rfl;simp only[VR]at d;obtain⟨_,_,rfl,_,_,_,e⟩:=d;rw[e];rfl
 |mp o=>refine g ?_ rfl;simp only[VR]at d;obtain⟨_,_,_,_,rfl⟩:=d;rfl
 |np o=>refine g ?_ rfl;simp only[VR]at d;rcases d with rfl|⟨_,_,_,_,rfl⟩ <;> rfl
 |sd o=>refine g ?_ rfl;simp only[VR]at d;obtain⟨_,_,_,_,_,_,rfl⟩:=d;rfl
 |vw o w a n=>refine g ?_ rfl;simp only[VR]at d;obtain⟨_,_,_,_,_,_,_,_,_,rfl,_⟩:=d;rfl
 |bufc o F=>refine g ?_ rfl;simp only[VR]at d;obtain⟨_,_,_,_,_,e,rfl,_⟩:=d;rw[e];rfl
 |nv o i=>refine g ?_ rfl;simp only[VR]at d;obtain⟨_,_,_,_,_,_,rfl⟩:=d;rfl
 |ne o w i j m=>refine g ?_ rfl;simp only[VR]at d;obtain⟨_,_,_,_,_,_,rfl⟩:=d;rfl
 |fn f C=>refine g ?_ rfl;simp only[VR]at d;obtain⟨_,rfl,_⟩:=d;rfl
 |agg cs=>simp only[VR]at d;obtain⟨D,rfl,u⟩:=d;simpa [iD,Value.cells]using u
 |tup C=>simp[Va.isCell]at q
 |nil=>refine g ?_ rfl;simp only[VR]at d;subst d;rfl
 |cnd x y=>simp[Va.isCell]at q
 |raw x=>refine g ?_ rfl;simp only[VR]at d;subst d;simpa [Va.isCell]using q
 |er b=>refine g ?_ rfl;simp only[VR]at d;rcases d with⟨_,rfl⟩|⟨_,_,_,rfl⟩ <;> rfl
 |top=>simp[Va.isCell]at q
theorem Gw:∀(l:List Value) (n:Nat) (a:List Value),n+a.length<=l.length->(ft l n a).length=l.length
 |l,0,a,h=>by simp[ft];omega
 |x::l,n+1,a,h=>by simp only[ft,length_cons]at *;rw[Gw l n a (by omega)]
 |[],n+1,a,h=>by simp at h
theorem VRs.setR:∀{cs:List Value} {b:List Va},VRs K h G cs b->∀(n:Nat) {es:List Value} {a:List Va},VRs K h G es a->n+a.length<=b.length->VRs K h G (ft cs n es) (Vc.setR b n a)
 |cs,b,H,0,es,a,d,_=>by
  simp only[ft,Vc.setR];rw[d.length];exact d.append (H.drop _)
 |cs,v::b,H,n+1,es,a,d,e=>by
  simp only[VRs]at H;obtain⟨c,f,rfl,g,i⟩:=H;simp only[ft,Vc.setR,VRs];exact⟨c,_,rfl,g,VRs.setR i n d (by simp at e;omega)⟩
 |cs,[],H,n+1,es,a,d,e=>by simp at e
theorem O1(a:Nat):∀(b:List Value) (k:Nat) (cs:Array Value),a+k+b.length<=cs.size ->
  ((b.zipIdx k).foldl (fun cs (c,j)=>cs.setIfInBounds (a+j) c) cs).toList=ft cs.toList (a+k) b
 |[],k,cs,e=>by
  simp only[zipIdx_nil,foldl_nil];have:∀(l:List Value) (n:Nat),n<=l.length->ft l n []=l:=by
   intro l n;induction n generalizing l with
   |zero=>intro _;simp[ft]
   |succ n f=>intro d;cases l with
    |nil=>simp at d
    |cons x l=>simp only[ft];rw[f l (by simpa using d)]
  exact(this cs.toList _ (by simpa using e)).symm
 |x::b,k,cs,e=>by
  simp only[zipIdx_cons,foldl_cons];rw[O1 a b (k+1) _ (by simp at e|-;omega)];have g:∀(l:List Value) (n:Nat),n+(x::b).length<=l.length->ft (l.set n x) (n+1) b=ft l n (x::b):=by
   intro l n;induction n generalizing l with
   |zero=>intro d;cases l with
    |nil=>simp at d
    |cons y l=>simp[ft]
   |succ n f=>intro d;cases l with
    |nil=>simp at d
    |cons y l=>simp only[set_cons_succ,ft];rw[f l (by simp at d|-;omega)]
  simp only[Array.toList_setIfInBounds];rw[<-g cs.toList (a+k) (by simp at e|-;omega)];rfl
theorem lV{pl:Nat->Option (Nat×Nat)}:∀{d:List (Nat×Va)} {k:List (Nat×Value)} {cells:List Va} {cs:Array Value} {r:List Va},
  iZ pl cells d=some r->VRs K h G cs.toList cells->(k.map (·.1)=d.map (·.1))->(∀(j:Nat) (c:Value) (v:Va),(k[j]?.map fun x=>x.2)=some c->(d[j]?.map fun x=>x.2)=some v->VR K h G c v) ->
  ∃e,Instr.fill pl cs k=some e/\VRs K h G e.toList r
 |[],k,cells,cs,r,f,s,l,_=>by
  simp only[iZ]at f;cases f;cases k with
  |nil=>exact⟨cs,rfl,s⟩
  |cons a b=>simp at l
 |(i,v)::d,k,cells,cs,r,f,s,l,z=>by
  cases k with
  |nil=>simp at l
  |cons a k =>
   obtain⟨F,c⟩:=a;simp only[map_cons,List.cons.injEq]at l;obtain⟨rfl,l⟩:=l;simp only[iZ]at f;split at f
   .cases f
   rename_i g A t;split at f;rotate_left
   .cases f
   rename_i m;obtain⟨n,B,C⟩:=m;have p:=BJ (z 0 c v rfl rfl) n;have u:=p.length;have q:=s.length;simp only[Array.length_toList]at u q;have o:VRs K h G (c.cells.zipIdx.foldl (fun cs (c,j)=>cs.setIfInBounds (g+j) c) cs).toList (setR cells g (iD v)):=by have w:=O1 g c.cells.toList 0 cs (by simp;omega);rw[<-Array.foldl_toList,Array.toList_zipIdx,w];exact s.setR g p C
   obtain⟨e,w,D⟩:=lV f o l (fun j c v E y=>z (j+1) c v (by simpa using E) (by simpa using y));refine⟨e,?_,D⟩;simp only[Instr.fill,t];rw[if_neg (by simp;omega)];exact w
end
section
variable {K:Nat->Prop} {h:Array Obj} {G:List Gh} {P:Program} (w:World)
theorem Sx{α β:Type}(f:α->Sem β)(g:α->β):∀(l:List α),(∀x∈l,(f x).run P w=.ok (g x) w)->(l.mapM f).run P w=.ok (l.map g) w
 |[],_=>by simp
 |x::l,a=>by rw[mapM_cons];simp only[Sem.run_bind,a x (by simp),Result.andThen_ok,Sx f g l (fun y b=>a y (by simp[b])),Sem.run_pure,map_cons]
def Co(P:Program)(f:Field):Nat×Nat:=(f.offset,(hD P f.type).getD 0)
theorem SH:∀{b:List Field} {l:List (Nat×Nat×Bool)},yw P b=some l->(∀f∈b,(do pure (f.offset,<-sizeOf f.type):Sem (Nat×Nat)).run P w=.ok (Co P f) w)/\∀i:Nat,(b.map (Co P))[i]?=Cp l i
 |[],l,a=>by simp only[yw]at a;cases a;exact⟨by simp,by simp[Cp]⟩
 |f::b,l,a=>by
  simp only[yw]at a;split at a
  .rename_i n d p c q j;cases a;obtain⟨e,g⟩:=SH j;refine⟨fun k h=>?_,fun i=>?_⟩
   .rcases mem_cons.1 h with rfl|m
    .simp[mM c,c,Co]
    .exact e k m
   .cases i with
    |zero=>simp[Cp,c,Co]
    |succ i =>
     have o:=g i;simp only[map_cons,getElem?_cons_succ,o,Cp]
  .cases a
theorem yz:∀{a:List Value},pn a->VRs K h G a (a.map cv)
 |[],_=>by simp[VRs]
 |z::a,b=>by simp only[pn]at b;simp only[map_cons,VRs];exact⟨z,a,rfl,Cj z b.1,yz b.2⟩
theorem tO{t:TypeId}{k:Ti}(l:eB P t=some k){ps:Array (Nat×Value)}{parts:List (Nat×Va)}(C:ps.toList.map (·.1)=parts.map (·.1))
  (D:∀(j:Nat) (c:Value) (v:Va),(ps.toList[j]?.map fun x=>x.2)=some c->(parts[j]?.map fun x=>x.2)=some v->VR K h G c v) (b:(i3 k parts).ok) :
  ∃E,(Instr.build t ps).run P w=.ok E w/\VR K h G E (i3 k parts).v:=by
 obtain⟨z,F,g⟩:=Sy w l;unfold i3 at b|-;split at b
 .rename_i fs m;obtain⟨a,o,p⟩:=Pf l m;split at b;rotate_left
  .exact b.elim
  rename_i cs q;obtain⟨r,s⟩:=SH w p;have H:=Sx (P:=P) w (fun f:Field=>(do pure (f.offset,<-sizeOf f.type):Sem (Nat×Nat))) (Co P) a.toList r;obtain⟨d,u,y⟩:=lV q (by rw[g];exact yz b) C D;have A:(fun i:Nat=>(a.toList.map (Co P)).toArray[i]?)=Cp fs:=by
   funext i;rw[<-s i,getElem?_toArray]
  have B:(a.mapM fun f=>(do pure (f.offset,<-sizeOf f.type):Sem (Nat×Nat))).run P w=.ok (a.toList.map (Co P)).toArray w:=by rw[Array.mapM_eq_mapM_toList];simp only[Sem.run_map,H,Result.andThen_ok]
  refine⟨.agg d,?_,?_⟩
  .simp only[Instr.build,Sem.run_bind,F,Result.andThen_ok,run_underlying o,B,A,u,Sem.run_pure]
  .simp only[VR];exact⟨d.toList,by simp,y⟩
 .rename_i n e I J m;obtain⟨o,hs,_⟩:=Cu l m;split at b;rotate_left
  .exact b.elim
  rename_i cs q;obtain⟨d,u,y⟩:=lV q (by rw[g];exact yz b) C D;refine⟨.agg d,?_,?_⟩
  .simp only[Instr.build,Sem.run_bind,F,Result.andThen_ok,run_underlying o,mM hs,u,Sem.run_pure]
  .simp only[VR];exact⟨d.toList,by simp,y⟩
 .exact b.elim
end
def fM:Dt->Dt->Bool
 |.b a,.b b=>decide (a=b)
 |.i _ a,.i _ b=>decide (a=b)
 |.s a,.s b=>decide (a=b)
 |.a x,.a y=>fE y x
 |_,_=>false
def jr:List (Dt×List Dt)->Dt->Option (List Dt)
 |[],_=>none
 |p::a,d=>bif fM p.1 d then some p.2 else jr a d
def iH:List (Dt×List Dt)->Dt->List Dt->List (Dt×List Dt)
 |[],d,r=>[(d,r)]
 |p::a,d,r=>bif fM p.1 d then(d,r)::a else p::iH a d r
def iG:List (Dt×List Dt)->Dt->List (Dt×List Dt)
 |[],_=>[]
 |p::a,d=>bif fM p.1 d then a else p::iG a d
def oN:List (Dt×List Dt)->List Nat->Dt->List Nat
 |p::c,b::a,d=>bif fM p.1 d then a else b::oN c a d
 |_,a,_=>a
theorem so{d:Dt}:∀{es:List (Dt×List Dt)} {bs:List Nat} {j:Nat},es.length=bs.length->(∀r,iH es d r=es.set j (d,r))->j<es.length->oN es bs d=bs.eraseIdx j
 |[],_,_,_,_,h=>by simp at h
 |_::_,[],_,h,_,_=>by simp at h
 |p::es,b::bs,j,e,hs,f=>by
  have a:∀q:Dt×List Dt,(∀r,(d,r)=q)->False:=fun q h=>by have g:=(h []).trans (h [Dt.b true]).symm;simp at g
  simp only[iH,oN]at *;cases c:fM p.1 d with
  |true =>
   simp only[c,cond_true]at hs|-;cases j with
   |zero=>rfl
   |succ j=>exact(a p fun r=>by have:=hs r;simp at this;exact this.1).elim
  |false =>
   simp only[c,cond_false]at hs|-;cases j with
   |zero=>exact(a p fun r=>by have:=hs r;simp at this;exact this.1.symm).elim
   |succ j =>
    rw[so (by simpa using e) (fun r=>by have:=hs r;simpa using this) (by simpa using f)];rfl
inductive Kk where
 |tk (k:Tk)
 |ks (l:List Kd)
def mC(P:Program)(kt:TypeId):Kk:=match P.underlying kt with
 |some (.struct _)=>match gZ P 60 kt with
  |some l=>.ks l
  |none=>.tk .other
 |some (.array _ _)=>match hT P kt with
  |some l=>.ks l
  |none=>.tk .other
 |_=>.tk (zB P kt)
def kQ:Kk->Dt->Prop
 |.tk .str,.s _=>True
 |.tk .bool,.b _=>True
 |.tk (.int k),.i c _=>k=c
 |.ks l,.a d=>zI l d
 |_,_=>False
def jd(k:Kk):List (Dt×List Dt)->Prop
 |[]=>True
 |p::a=>kQ k p.1/\jd k a
def EB:List Va->Option (List Dt)
 |[]=>some []
 |.p d::l=>match EB l with
  |some a=>some (d::a)
  |none=>none
 |_::_=>none
def te:Va->Option Dt
 |.p d=>some d
 |.agg b=>match EB b with
  |some c=>some (.a c)
  |none=>none
 |_=>none
def yr(es:List (Dt×List Dt))(d:Dt)(z:List Dt):List Dt:=(jr es d).getD z
def iF:List Value->Prop
 |[]=>True
 |.bool _::l=>iF l
 |.int k n::l=>Fits k n/\iF l
 |.string s::l=>s.data.toList.length<=eE/\iF l
 |.slice none 0 0::l=>iF l
 |_=>False
def gW(ag:Bool)(row:List Dt):Va:=bif ag then .agg (row.map .p)else wD row 0
def uD(P:Program)(t:TypeId):Bool:=match (P.info? t).bind (·.zero)with
 |some (.agg _)=>true
 |_=>false
def nI(P:Program)(t:TypeId)(H:List Ob)(f:Bool)(x k:Va):Pv:=match zB P t,x,te k with
 |.map g h,.mp o,some d=>match eD H o,eB P h with
  |.mp a c,some e=>⟨bif f then .tup [gW a (yr c d (zr e.zero)),.p (.b (jr c d).isSome)]else gW a (yr c d (zr e.zero)),
    jd (mC P g) c/\kQ (mC P g) d/\uD P h=a/\iF e.zero/\(a=false->e.zero.length=1)⟩
  |_,_=>eC
 |_,_,_=>eC
section
variable {K:Nat->Prop} {G:List Gh} {H:List Ob} {w:World} {P:Program}
theorem mG{h:Array Obj}:∀{l:List Value},iF l->DRs K h l (zr l)
 |[],_=>by simp[zr,DRs]
 |.bool x::l,a=>by
  simp only[iF]at a;simp only[zr,DRs,DR];exact⟨_,_,rfl,rfl,mG a⟩
 |.int k n::l,a=>by
  simp only[iF]at a;simp only[zr,DRs,DR];exact⟨_,_,rfl,⟨rfl,a.1⟩,mG a.2⟩
 |.string s::l,a=>by
  simp only[iF]at a;simp only[zr,DRs,DR];exact⟨_,_,rfl,⟨by simp,a.1⟩,mG a.2⟩
 |.slice none 0 0::l,a=>by simp only[iF]at a;simp only[zr,DRs,DR];exact⟨_,_,rfl,.inl ⟨⟨none,rfl⟩,trivial⟩,mG a⟩
theorem u0{t:TypeId}{c:Ti}(f:eB P t=some c)(g:c.kind=.bool):P.underlying t=some .bool:=by
 obtain⟨d,h,a,i⟩:=uN f;rw[g]at a;cases d <;> simp only[u1]at a <;> try (cases a)
 case slice e=>split at a <;> cases a
 case array n e=>split at a <;> cases a
 case struct b=>split at a <;> cases a
 case bool=>exact h
theorem AH{kt:TypeId}{d:Dt}{h:Array Obj}{c:Value}{j:Kk}(f:j=.tk (zB P kt))(i:kQ j d)(e:KR K h c d):∃k,P.underlying kt=some k/\MapKept.IsKey k c:=by
 subst f;cases b:zB P kt <;> rw[b]at i <;> cases d <;> simp only[kQ]at i
 .obtain⟨l,g,a⟩:=zL b (by simp);simp only[KR,DR]at e;obtain⟨rfl,_⟩:=e;exact⟨_,Cv g a,by simp[MapKept.IsKey]⟩
 .obtain⟨l,g,a⟩:=zL b (by simp);simp only[KR,DR]at e;subst e;exact⟨_,u0 g a,by simp[MapKept.IsKey]⟩
 .obtain⟨l,g,a⟩:=zL b (by simp);simp only[KR,DR]at e;obtain⟨rfl,_⟩:=e;exact⟨_,iM g a,by simp[MapKept.IsKey,i]⟩
theorem nb{k:Tk}{h:Array Obj}{c e:Value}{d p:Dt}{i:TypeDesc}(j:kQ (.tk k) d)(l:kQ (.tk k) p)(g:KR K h c d)(he:KR K h e p)(m:MapKept.IsKey i c):Instr.sameNow i c e=some (fM p d)/\(fM p d=true->e=c)/\(fM p d=false->e≠c):=by
 cases k <;> cases d <;> simp only[kQ]at j <;> cases p <;> simp only[kQ]at l
 .rename_i a b;simp only[KR,DR]at g he;obtain⟨rfl,_⟩:=g;obtain⟨rfl,_⟩:=he
  have e:((⟨a.toArray⟩:ByteArray) == ⟨b.toArray⟩)=decide (b=a):=by
   by_cases f:b=a
   .subst f;simp[MapKept.bytes_beq]
   .have:¬ ((⟨a.toArray⟩:ByteArray)=⟨b.toArray⟩):=fun h=>f (by injection h with h;simpa using h.symm);rw[decide_eq_false f];cases n:((⟨a.toArray⟩:ByteArray) == ⟨b.toArray⟩)
    .rfl
    .exact absurd ((MapKept.bytes_beq _ _).1 n) this
  refine⟨?_,fun h=>?_,fun h=>?_⟩
  .cases i <;> simp_all[MapKept.IsKey,Instr.sameNow,fM]
  .simp only[fM,decide_eq_true_eq]at h;rw[h]
  .simp only[fM,decide_eq_false_iff_not]at h;intro e;injection e with e;injection e with e;exact h (by simpa using e)
 .rename_i a b;simp only[KR,DR]at g he;subst g;subst he;refine⟨?_,fun h=>?_,fun h=>?_⟩
  .cases i <;> simp_all[MapKept.IsKey,Instr.sameNow,fM]
   cases a <;> cases b <;> rfl
  .simp only[fM,decide_eq_true_eq]at h;rw[h]
  .simp only[fM,decide_eq_false_iff_not]at h;intro e;injection e with e;exact h e
 .rename_i o a q b;simp only[KR,DR]at g he;obtain⟨rfl,_⟩:=g;obtain⟨rfl,_⟩:=he;subst j;subst l;refine⟨?_,fun h=>?_,fun h=>?_⟩
  .cases i <;> simp_all[MapKept.IsKey,Instr.sameNow,fM]
   by_cases f:b=a
   .simp[f]
   .simp[f,Ne.symm f]
  .simp only[fM,decide_eq_true_eq]at h;rw[h]
  .simp only[fM,decide_eq_false_iff_not]at h;intro e;injection e with _ e;exact h e
def jy(K:Nat->Prop)(h:Array Obj)(ag:Bool)(v:Value)(row:List Dt):Prop:=match ag with
 |true=>∃cs:List Value,v=.agg cs.toArray/\DRs K h cs row
 |false=>∃d,row=[d]/\DR K h v d
theorem oi{k:Tk}{h:Array Obj}{ag:Bool}{c:Value}{d:Dt}{m:TypeDesc}(v:kQ (.tk k) d)(w:KR K h c d)(g:MapKept.IsKey m c):∀{a:List MapEntry} {es:List (Dt×List Dt)} (i:Nat),MRs K h ag a es->jd (.tk k) es ->
  (Instr.findNow m c a i=some none/\jr es d=none/\(∀r,iH es d r=es++[(d,r)])/\iG es d=es/\∀x∈a,x.key≠c) ∨
  ∃j e row,Instr.findNow m c a i=some (some (i+j,e.val))/\a[j]?=some e/\e.key=c/\jr es d=some row/\jy K h ag e.val row/\(∀r,iH es d r=es.set j (d,r))/\iG es d=es.eraseIdx j
 |[],[],i,_,_=>.inl ⟨rfl,rfl,fun _=>rfl,rfl,by simp⟩
 |e::a,p::es,i,f,n=>by
  simp only[MRs]at f;simp only[jd]at n;obtain⟨l,y,z⟩:=nb v n.1 w f.1 g;cases b:fM p.1 d with
  |true =>
   rw[b]at l;exact .inr ⟨0,e,p.2,by simp[Instr.findNow,l],rfl,y b,by simp[jr,b],f.2.1,fun r=>by simp[iH,b],by simp[iG,b]⟩
  |false =>
   rw[b]at l;rcases oi v w g (i+1) f.2.2 n.2 with⟨o,q,s,t,A⟩|⟨j,B,row,o,q,s,t,C,D,E⟩
   .exact .inl ⟨by simp[Instr.findNow,l,o],by simp[jr,b,q],fun r=>by simp[iH,b,s],by simp[iG,b,t],fun x u=>by rcases mem_cons.1 u with rfl|u;exact z b;exact A x u⟩
   .exact .inr ⟨j+1,B,row,by simp[Instr.findNow,l,o];omega,by simpa using q,s,by simp[jr,b,t],C,fun r=>by simp[iH,b,D],by simp[iG,b,E]⟩
 |[],_::_,_,f,_=>by simp[MRs]at f
 |_::_,[],_,f,_=>by simp[MRs]at f
mutual
theorem jV:∀(d:Nat) {t:TypeId} {ks:List Kd} (e:Nat) {h:Array Obj} {xs:List Value} {f:List Dt} (m:Bool),gZ P d t=some ks->DRs K h xs f->zI ks f ->
  (Instr.checkKey m (d+e) t (my P t xs)).run P w=.ok () w
 |0,t,ks,e,h,xs,f,m,a,_,_=>by simp[gZ]at a
 |d+1,t,ks,e,h,xs,f,m,a,g,j=>by
  rw[show d+1+e=(d+e)+1 by omega];unfold gZ at a;split at a
  .rename_i c;split at a;rotate_left
   .cases a
   cases a;match f,j with
   |[.b x],_ =>
    simp only[DRs,DR]at g;obtain⟨_,_,rfl,rfl,rfl⟩:=g;simp[my,eV,c,Instr.checkKey,run_underlying c]
  .rename_i k c;split at a;rotate_left
   .cases a
   cases a;match f,j with
   |[.i p x],j =>
    simp only[DRs,DR]at g;obtain⟨_,_,rfl,⟨rfl,_⟩,rfl⟩:=g;simp[my,eV,c,Instr.checkKey,run_underlying c]
  .rename_i c;split at a;rotate_left
   .cases a
   cases a;match f,j with
   |[.s x],_ =>
    simp only[DRs,DR]at g;obtain⟨_,_,rfl,⟨rfl,_⟩,rfl⟩:=g;simp[my,eV,c,Instr.checkKey,run_underlying c]
  .rename_i q c;have hag:eV P t=true:=by simp[eV,c]
   split at a
   .cases a
   split at a
   .rename_i l o;split at a
    .cases a;simp only[my,hag,if_true];rw[Instr.checkKey];simp only[Sem.run_bind,run_underlying c,Result.andThen_ok];rw[<-Array.forIn_toList];have n:=jW d e (xs:=xs) 0 m (Nat.zero_le _) o (by simpa using g) j;rw[n];simp
    .cases a
   .cases a
  .cases a
theorem jW:∀(d:Nat) (e:Nat) {k:List Field} {ks:List Kd} {h:Array Obj} {xs:List Value} {g:List Dt} (off:Nat) (c:Bool),off<=xs.length->lW P d off k=some ks->DRs K h (xs.drop off) g->zI ks g ->
  (forIn k PUnit.unit fun f _=>do
   if f.name≠ "_" then do
    Instr.checkKey c (d+e) f.type (<-part f.type xs.toArray f.offset)
    pure (ForInStep.yield PUnit.unit)
   else do
    pure PUnit.unit
    pure (ForInStep.yield PUnit.unit):Sem PUnit).run P w=.ok () w
 |d,e,[],ks,h,xs,g,off,c,_,_,_,_=>by simp
 |0,e,f::k,ks,h,xs,g,off,c,_,a,_,_=>by simp[lW]at a
 |d+1,e,f::k,ks,h,xs,g,off,c,C,a,m,v=>by
  unfold lW at a;split at a
  .cases a
  rename_i x;have b:¬ f.name= "_":=fun e=>x (.inl e);have i:f.offset=off:=Decidable.byContradiction fun e=>x (.inr e);split at a
  .rename_i l y;split at a
   .rename_i D n;cases a;obtain⟨o,p⟩:=Gz v;have z:=GA v;have q:=m.length;simp only[length_drop,length_append]at z q;obtain⟨r,j,E,s⟩:=ku (K:=K) (h:=h) w d y;have u:=F6 (P:=P) w r s xs off (by omega) j;have A:=jV d (t:=f.type) (e+1) c y (m.take l.length) o;have B:=jW d (e+1) (xs:=xs) (off+l.length) c (by omega) n (by simpa [drop_drop]using m.drop l.length) p;rw[show d+1+e=d+(e+1)by omega];simp only[forIn_cons,Sem.run_bind,b,ne_eq,not_false_eq_true,if_true,i,Result.andThen_ok,u,A,Sem.run_pure];exact B
   .cases a
  .cases a
end
theorem MF{h:Array Obj}:∀{ks:List Kd} {m n:List Value} {o es:List Dt},zI ks o->zI ks es->DRs K h m o->DRs K h n es->(fE o es=true->n=m)/\(fE o es=false->n≠m)
 |[],m,n,[],[],_,_,g,j=>by
  simp only[DRs]at g j;subst g;subst j;exact⟨fun _=>rfl,fun e=>by simp[fE]at e⟩
 |.b::ks,m,n,.b x::o,.b y::es,c,f,g,j=>by
  simp only[DRs,DR]at g j;simp only[zI]at c f;obtain⟨_,p,rfl,rfl,g⟩:=g;obtain⟨_,q,rfl,rfl,j⟩:=j;obtain⟨r,t⟩:=MF c f g j;simp only[fE,Bool.and_eq_true,decide_eq_true_eq,Bool.and_eq_false_iff,decide_eq_false_iff_not];refine⟨fun e=>by rw[r e.2,e.1],fun e he=>?_⟩;simp only[List.cons.injEq,Value.bool.injEq]at he;rcases e with e|e
  .exact e he.1.symm
  .exact t e he.2
 |.s::ks,m,n,.s x::o,.s y::es,c,f,g,j=>by
  simp only[DRs,DR]at g j;simp only[zI]at c f;obtain⟨_,p,rfl,⟨rfl,_⟩,g⟩:=g;obtain⟨_,q,rfl,⟨rfl,_⟩,j⟩:=j;obtain⟨r,t⟩:=MF c f g j;simp only[fE,Bool.and_eq_true,decide_eq_true_eq,Bool.and_eq_false_iff,decide_eq_false_iff_not];refine⟨fun e=>by rw[r e.2,e.1],fun e he=>?_⟩;simp only[List.cons.injEq,Value.string.injEq]at he;rcases e with e|e
  .exact e (by have:=he.1;injection this with this;simpa using this.symm)
  .exact t e he.2
 |.i k::ks,m,n,.i u x::o,.i v y::es,c,f,g,j=>by
  simp only[DRs,DR]at g j;simp only[zI]at c f;obtain⟨rfl,c⟩:=c;obtain⟨rfl,f⟩:=f;obtain⟨_,p,rfl,⟨rfl,_⟩,g⟩:=g;obtain⟨_,q,rfl,⟨rfl,_⟩,j⟩:=j;obtain⟨r,t⟩:=MF c f g j;simp only[fE,Bool.and_eq_true,decide_eq_true_eq,Bool.and_eq_false_iff,decide_eq_false_iff_not];refine⟨fun e=>by rw[r e.2,e.1],fun e he=>?_⟩;simp only[List.cons.injEq,Value.int.injEq,true_and]at he;rcases e with e|e
  .exact e he.1.symm
  .exact t e he.2
 |[],_,_,_::_,_,c,_,_,_=>by simp[zI]at c
 |[],_,_,[],_::_,_,f,_,_=>by simp[zI]at f
 |k::_,_,_,[],_,c,_,_,_=>by cases k <;> simp[zI]at c
 |k::_,_,_,d::_,[],_,f,_,_=>by cases k <;> simp[zI]at f
 |.b::_,_,_,.s _::_,_::_,c,_,_,_|.b::_,_,_,.i _ _::_,_::_,c,_,_,_|.b::_,_,_,.l _::_,_::_,c,_,_,_|.b::_,_,_,.a _::_,_::_,c,_,_,_=>by simp[zI]at c
 |.s::_,_,_,.b _::_,_::_,c,_,_,_|.s::_,_,_,.i _ _::_,_::_,c,_,_,_|.s::_,_,_,.l _::_,_::_,c,_,_,_|.s::_,_,_,.a _::_,_::_,c,_,_,_=>by simp[zI]at c
 |.i _::_,_,_,.b _::_,_::_,c,_,_,_|.i _::_,_,_,.s _::_,_::_,c,_,_,_|.i _::_,_,_,.l _::_,_::_,c,_,_,_|.i _::_,_,_,.a _::_,_::_,c,_,_,_=>by simp[zI]at c
 |.b::_,_,_,.b _::_,.s _::_,_,f,_,_|.b::_,_,_,.b _::_,.i _ _::_,_,f,_,_|.b::_,_,_,.b _::_,.l _::_,_,f,_,_|.b::_,_,_,.b _::_,.a _::_,_,f,_,_=>by simp[zI]at f
 |.s::_,_,_,.s _::_,.b _::_,_,f,_,_|.s::_,_,_,.s _::_,.i _ _::_,_,f,_,_|.s::_,_,_,.s _::_,.l _::_,_,f,_,_|.s::_,_,_,.s _::_,.a _::_,_,f,_,_=>by simp[zI]at f
 |.i _::_,_,_,.i _ _::_,.b _::_,_,f,_,_|.i _::_,_,_,.i _ _::_,.s _::_,_,f,_,_|.i _::_,_,_,.i _ _::_,.l _::_,_,f,_,_|.i _::_,_,_,.i _ _::_,.a _::_,_,f,_,_=>by simp[zI]at f
theorem M8{h:Array Obj}:∀{ks:List Kd} {e:List Value} {f:List Dt} (n:Nat),zI ks f->DRs K h e f->((e.zip e).all fun(x,y)=>Instr.sameBits n x y)=true
 |[],e,[],n,_,d=>by simp only[DRs]at d;subst d;rfl
 |.b::ks,e,.b x::f,n,c,d=>by
  simp only[DRs,DR]at d;simp only[zI]at c;obtain⟨_,g,rfl,rfl,d⟩:=d;have:=M8 n c d;simp only[zip_cons_cons,all_cons,this,Bool.and_true];cases n <;> simp[Instr.sameBits]
 |.s::ks,e,.s x::f,n,c,d=>by
  simp only[DRs,DR]at d;simp only[zI]at c;obtain⟨_,g,rfl,⟨rfl,_⟩,d⟩:=d;have:=M8 n c d;simp only[zip_cons_cons,all_cons,this,Bool.and_true];cases n <;> simp[Instr.sameBits,MapKept.bytes_beq]
 |.i k::ks,e,.i j x::f,n,c,d=>by
  simp only[DRs,DR]at d;simp only[zI]at c;obtain⟨_,g,rfl,⟨rfl,_⟩,d⟩:=d;have:=M8 n c.2 d;simp only[zip_cons_cons,all_cons,this,Bool.and_true];cases n <;> simp[Instr.sameBits]
 |[],_,_::_,_,c,_=>by simp[zI]at c
 |k::_,_,[],_,c,_=>by cases k <;> simp[zI]at c
 |.b::_,_,.s _::_,_,c,_|.b::_,_,.i _ _::_,_,c,_|.b::_,_,.l _::_,_,c,_|.b::_,_,.a _::_,_,c,_=>by simp[zI]at c
 |.s::_,_,.b _::_,_,c,_|.s::_,_,.i _ _::_,_,c,_|.s::_,_,.l _::_,_,c,_|.s::_,_,.a _::_,_,c,_=>by simp[zI]at c
 |.i _::_,_,.b _::_,_,c,_|.i _::_,_,.s _::_,_,c,_|.i _::_,_,.l _::_,_,c,_|.i _::_,_,.a _::_,_,c,_=>by simp[zI]at c
theorem Rp{t:TypeId}{ks:List Kd}(h:hT P t=some ks):∃n e k i,P.underlying t=some (.array n e)/\P.underlying e=some (.int k)/\hD P e=some 1/\P.info? e=some i/\P.cellsOf e=1/\ks=List.replicate n (.i k):=by
 unfold hT at h;split at h;rotate_left
 .cases h
 rename_i n e a;split at h;rotate_left
 .cases h
 rename_i k b;split at h;rotate_left
 .cases h
 rename_i hs;cases h;obtain⟨i,hi,_⟩:=Option.map_eq_some_iff.1 hs.1;exact⟨n,e,k,i,a,b,hs.1,hi,hs.2,rfl⟩
theorem sZ{t:TypeId}{ks:List Kd}(d:hT P t=some ks){h:Array Obj}{b c:List Value}{a es:List Dt}(f:DRs K h b a)(g:DRs K h c es)(j:zI ks a)(l:zI ks es) :
  (Op.equalIn (60+9940) t (.agg b.toArray) (.agg c.toArray)).run P w=.ok (fE a es) w:=by
 obtain⟨n,e,k,i,m,he,hs,hi,o,rfl⟩:=Rp d;rw[show 60+9940=9999+1 from rfl,run_equalIn_array w 9999 _ _ m hi,o,range_eq_range'];exact Pn w he hs 9998 b c n 0 a es f g j l
theorem pY{t:TypeId}{ks:List Kd}(p:hT P t=some ks){h:Array Obj}{d:List Value}{b:List Dt}(j:Bool)(f:DRs K h d b)(c:zI ks b) :
  (Instr.checkKey j 10000 t (.agg d.toArray)).run P w=.ok () w:=by
 obtain⟨n,e,k,i,q,he,hs,hi,r,rfl⟩:=Rp p;rw[show(10000:Nat)=9999+1 from rfl,Instr.checkKey];simp only[Sem.run_bind,run_underlying q,Result.andThen_ok];simp only[Std.Legacy.Range.forIn_eq_forIn_range',Std.Legacy.Range.size,Nat.sub_zero,Nat.add_one_sub_one,Nat.div_one];have s:∀(m a:Nat) (b:List Dt),DRs K h (d.drop a) b->zI (List.replicate m (.i k)) b ->
   (forIn (List.range' a m) PUnit.unit fun i _=>do
    Instr.checkKey j 9999 e (<-part e d.toArray (i*(<-sizeOf e)))
    pure (ForInStep.yield PUnit.unit):Sem PUnit).run P w=.ok () w:=by
  intro m;induction m with
  |zero=>intro a b _ _;simp
  |succ m u =>
   intro a b f c;rw[replicate_succ]at c;match b,c with
   |.i A x::b,c =>
    simp only[zI]at c;obtain⟨rfl,c⟩:=c;have v:=f.length;simp only[length_drop,length_cons]at v;have hag:eV P e=false:=by simp[eV,he]
    have o:=F6 (P:=P) w hs he d a (by omega) fun _=>rfl;have g:=f.take 1;simp only[take_succ_cons,take_zero,DRs,DR]at g;obtain⟨_,_,y,⟨rfl,_⟩,rfl⟩:=g;simp only[my,hag,y,Bool.false_eq_true,if_false,getD_cons_zero]at o;have z:=u (a+1) b (by simpa [drop_drop]using f.drop 1) c;have l:(Instr.checkKey j 9999 e (.int k x)).run P w=.ok () w:=by exact MapKept.run_checkKey (k:=.int k x) he (by simp[MapKept.IsKey]) j 9998
    rw[List.range'_succ];simp only[forIn_cons,Sem.run_bind,Go.run_sizeOf w hi,r,Nat.mul_one,Result.andThen_ok,o,l,Sem.run_pure];exact z
 have:=s n 0 b (by simpa using f) c;first|exact this|(rw[this];rfl)|(rw[this];simp)
theorem Ez{kt:TypeId}{k:Tk}(h:mC P kt=.tk k):k=zB P kt∨k=.other:=by
 unfold mC at h;split at h
 .split at h
  .cases h
  .cases h;exact .inr rfl
 .split at h
  .cases h
  .cases h;exact .inr rfl
 .cases h;exact .inl rfl
theorem lH{kt:TypeId}{l:List Kd}(h:mC P kt=.ks l):(gZ P 60 kt=some l/\∃a,P.underlying kt=some (.struct a))∨(hT P kt=some l/\∃n e,P.underlying kt=some (.array n e)):=by
 unfold mC at h;split at h
 .rename_i a b;split at h
  .rename_i d c;cases h;exact .inl ⟨c,a,b⟩
  .cases h
 .rename_i n e b;split at h
  .rename_i d c;cases h;exact .inr ⟨c,n,e,b⟩
  .cases h
 .cases h
theorem Ru{kt:TypeId}{l:List Kd}(k:∀{g t:List Value} {b es:List Dt},DRs K w.heap g b->DRs K w.heap t es->zI l b->zI l es->(Op.equalIn (60+9940) kt (.agg g.toArray) (.agg t.toArray)).run P w=.ok (fE b es) w){ag:Bool}{g:List Value}{b:List Dt}(u:zI l b)(v:DRs K w.heap g b):∀{c:List MapEntry} {es:List (Dt×List Dt)} (i:Nat),MRs K w.heap ag c es->jd (.ks l) es ->
  ((Instr.findAsking kt (.agg g.toArray) c i).run P w=.ok none w/\jr es (.a b)=none/\(∀r,iH es (.a b) r=es++[(.a b,r)])/\iG es (.a b)=es/\∀x∈c,x.key≠.agg g.toArray) ∨
  ∃j e row,(Instr.findAsking kt (.agg g.toArray) c i).run P w=.ok (some (i+j,e.val)) w/\c[j]?=some e/\e.key=.agg g.toArray/\jr es (.a b)=some row/\jy K w.heap ag e.val row/\(∀r,iH es (.a b) r=es.set j (.a b,r))/\iG es (.a b)=es.eraseIdx j
 |[],[],i,_,_=>.inl ⟨by simp[Instr.findAsking],rfl,fun _=>rfl,rfl,by simp⟩
 |e::c,p::es,i,m,o=>by
  simp only[MRs]at m;simp only[jd]at o;obtain⟨F,pr⟩:=p;cases F <;> simp only[kQ]at o <;> try exact o.1.elim
  rename_i E;have q:=m.1;simp only[KR]at q;obtain⟨t,n,s⟩:=q;have G:=k v s u o.1;have f:(Op.equal kt (.agg g.toArray) e.key).run P w=.ok (fE b E) w:=by rw[n];exact G
  obtain⟨H,I⟩:=MF u o.1 v s;cases d:fE b E with
  |true =>
   rw[d]at f;refine .inr ⟨0,e,pr,by simp[Instr.findAsking,f],rfl,by rw[n,H d],by simp[jr,fM,d],m.2.1,fun r=>by simp[iH,fM,d],by simp[iG,fM,d]⟩
  |false =>
   rw[d]at f;have y:e.key≠.agg g.toArray:=by
    rw[n];intro h;injection h with h;exact I d (by simpa using h)
   rcases Ru k u v (i+1) m.2.2 o.2 with⟨z,A,B,C,J⟩|⟨j,L,row,z,A,B,C,M,N,O⟩
   .exact .inl ⟨by simp[Instr.findAsking,f,z],by simp[jr,fM,d,A],fun r=>by simp[iH,fM,d,B],by simp[iG,fM,d,C],fun x D=>by rcases mem_cons.1 D with rfl|D;exact y;exact J x D⟩
   .exact .inr ⟨j+1,L,row,by simp[Instr.findAsking,f,z];omega,by simpa using A,B,by simp[jr,fM,d,C],M,fun r=>by simp[iH,fM,d,N],by simp[iG,fM,d,O]⟩
 |[],_::_,_,m,_=>by simp[MRs]at m
 |_::_,[],_,m,_=>by simp[MRs]at m
theorem MJ{kt:TypeId}{d:Dt}{c:Value}(f:kQ (mC P kt) d)(g:KR K w.heap c d) :
  (∀u,(Instr.checkKey u 10000 kt c).run P w=.ok () w)/\(Instr.keyThatStays c c).run P w=.ok c w /\
  ∀{ag:Bool} {b:List MapEntry} {es:List (Dt×List Dt)},MRs K w.heap ag b es->jd (mC P kt) es ->
   ((Instr.findKey kt c b).run P w=.ok none w/\jr es d=none/\(∀r,iH es d r=es++[(d,r)])/\iG es d=es/\∀x∈b,x.key≠c) ∨
   ∃j e row,(Instr.findKey kt c b).run P w=.ok (some (j,e.val)) w/\b[j]?=some e/\e.key=c/\jr es d=some row/\jy K w.heap ag e.val row/\(∀r,iH es d r=es.set j (d,r))/\iG es d=es.eraseIdx j:=by
 cases a:mC P kt with
 |tk k =>
  rw[a]at f;have A:k=zB P kt:=by
   rcases Ez a with h|h
   .exact h
   .subst h;cases d <;> exact f.elim
  subst A;obtain⟨O,m,o⟩:=AH rfl f g;refine⟨fun u=>MapKept.run_checkKey m o u 9999,MapKept.run_keyThatStays o,fun B p=>?_⟩;rcases oi f g o 0 B p with⟨i,q⟩|⟨j,e,row,i,q⟩
  .exact .inl ⟨MapKept.run_findKey m i,q⟩
  .rw[Nat.zero_add]at i;exact .inr ⟨j,e,row,MapKept.run_findKey m i,q⟩
 |ks l =>
  rw[a]at f;have E:eV P kt=true:=by rcases lH a with⟨_,M,y⟩|⟨_,n,e,y⟩ <;> simp[eV,y]
  have C:∀{v F:List Value} {z es:List Dt},DRs K w.heap v z->DRs K w.heap F es->zI l z->zI l es->(Op.equalIn (60+9940) kt (.agg v.toArray) (.agg F.toArray)).run P w=.ok (fE z es) w:=fun G H I J=>by
   rcases lH a with⟨s,_⟩|⟨s,_⟩
   .have N:=OI (P:=P) w 60 (t:=kt) 9940 s G H I J;simpa only[my,E,if_true]using N
   .exact sZ s G H I J
  cases d <;> simp only[kQ]at f
  rename_i z;simp only[KR]at g;obtain⟨v,rfl,g⟩:=g;refine⟨fun u=>?_,?_,fun B p=>?_⟩
  .rcases lH a with⟨s,_⟩|⟨s,_⟩
   .have:=jV (P:=P) (w:=w) 60 (t:=kt) 9940 u s g f;simp only[my,E,if_true]at this;exact this
   .exact pY s u g f
  .have D:Instr.sameBits 10000 (.agg v.toArray) (.agg v.toArray)=true:=by
    have:=M8 9999 f g;rw[show(10000:Nat)=9999+1 from rfl];simp only[Instr.sameBits,beq_self_eq_true,Bool.true_and];simpa using this
   simp[Instr.keyThatStays,D]
  .have L:=run_findKey_eq (P:=P) w (k:=kt) (by rcases lH a with⟨_,M,y⟩|⟨_,n,e,y⟩ <;> simp[y]) (.agg v.toArray);rcases Ru C f g 0 B p with⟨i,q⟩|⟨j,e,row,i,q⟩
   .exact .inl ⟨by rw[L];exact i,q⟩
   .rw[Nat.zero_add]at i;exact .inr ⟨j,e,row,by rw[L];exact i,q⟩
theorem wv:∀{e:List Va} {a:List Dt} {cs:List Value},EB e=some a->VRs K w.heap G cs e->DRs K w.heap cs a
 |[],a,cs,h,b=>by simp only[EB]at h;cases h;simpa only[VRs,DRs]using b
 |v::e,a,cs,h,b=>by
  cases v with
  |p d =>
   simp only[EB]at h;split at h
   .rename_i g i;cases h;simp only[VRs,VR]at b;obtain⟨c,f,rfl,j,k⟩:=b;simp only[DRs];exact⟨c,f,rfl,j,wv i k⟩
   .cases h
  |_=>simp[EB]at h
theorem Mx{v:Va}{d:Dt}{c:Value}(h:te v=some d)(a:VR K w.heap G c v):KR K w.heap c d:=by
 unfold te at h;split at h
 .cases h;simp only[VR]at a;cases d <;> first|exact a|(simp only[DR]at a)
 .split at h
  .rename_i e b;cases h;simp only[VR]at a;obtain⟨cs,rfl,a⟩:=a;simp only[KR];exact⟨cs,rfl,wv b a⟩
  .cases h
 .cases h
theorem MRs.length{h:Array Obj}{ag:Bool}:∀{b:List MapEntry} {es:List (Dt×List Dt)},MRs K h ag b es->b.length=es.length
 |[],[],_=>rfl
 |_::_,_::_,a=>by simp only[MRs]at a;simp[MRs.length a.2.2]
 |[],_::_,a=>by simp[MRs]at a
 |_::_,[],a=>by simp[MRs]at a
theorem MRs.append{h:Array Obj}{ag:Bool}{e:MapEntry}{p:Dt×List Dt}(he:KR K h e.key p.1)(c:jy K h ag e.val p.2):∀{a:List MapEntry} {es:List (Dt×List Dt)},MRs K h ag a es->MRs K h ag (a++[e]) (es++[p])
 |[],[],_=>by simp only[nil_append,MRs];exact⟨he,c,trivial⟩
 |x::a,y::es,b=>by simp only[MRs,cons_append]at *;exact⟨b.1,b.2.1,MRs.append he c b.2.2⟩
 |[],_::_,b=>by simp[MRs]at b
 |_::_,[],b=>by simp[MRs]at b
theorem MRs.set{h:Array Obj}{ag:Bool}{e:MapEntry}{p:Dt×List Dt}(he:KR K h e.key p.1)(c:jy K h ag e.val p.2):∀{a:List MapEntry} {es:List (Dt×List Dt)} (j:Nat),MRs K h ag a es->MRs K h ag (a.set j e) (es.set j p)
 |[],[],_,_=>by simp[MRs]
 |x::a,y::es,0,b=>by simp only[MRs,set_cons_zero]at *;exact⟨he,c,b.2.2⟩
 |x::a,y::es,j+1,b=>by simp only[MRs,set_cons_succ]at *;exact⟨b.1,b.2.1,MRs.set he c j b.2.2⟩
 |[],_::_,_,b=>by simp[MRs]at b
 |_::_,[],_,b=>by simp[MRs]at b
theorem MRs.erase{h:Array Obj}{ag:Bool}:∀{a:List MapEntry} {es:List (Dt×List Dt)} (j:Nat),MRs K h ag a es->MRs K h ag (a.eraseIdx j) (es.eraseIdx j)
 |[],[],_,_=>by simp[MRs]
 |x::a,y::es,0,b=>by simp only[MRs,eraseIdx_zero,tail_cons]at *;exact b.2.2
 |x::a,y::es,j+1,b=>by simp only[MRs,eraseIdx_cons_succ]at *;exact⟨b.1,b.2.1,MRs.erase j b.2.2⟩
 |[],_::_,_,b=>by simp[MRs]at b
 |_::_,[],_,b=>by simp[MRs]at b
theorem y7{h:Array Obj}{ag:Bool}{v:Value}{row:List Dt}(b:jy K h ag v row):VR K h G v (gW ag row):=by
 cases ag with
 |true =>
  obtain⟨cs,rfl,a⟩:=b;simp only[gW,cond_true,VR];exact⟨cs,rfl,a.vrs⟩
 |false =>
  obtain⟨d,rfl,a⟩:=b;simpa only[gW,cond_false,wD,drop_zero,VR]using a
theorem wg{t:TypeId}{a:Bool}(hS:St K G H w){c I:Value}{x k:Va}(hc:VR K w.heap G c x)(M:VR K w.heap G I k)(l:(nI P t H a x k).ok) :
  ∃s,(Instr.lookup t c I a).run P w=.ok s w/\VR K w.heap G s (nI P t H a x k).v:=by
 unfold nI at l|-;split at l;rotate_left
 .exact l.elim
 rename_i kt et o d N O;split at l;rotate_left
 .exact l.elim
 rename_i J u L ho Q;obtain⟨h1,h2,h3,h4,h5⟩:=l;obtain⟨ti,ht,R⟩:=zL N (by simp);have hu:=FP ht R;have M:=Mx O M;simp only[VR]at hc;obtain⟨g,b,hg,S,rfl⟩:=hc;obtain⟨hlim,T,mes,U,y,A,hm,_⟩:=hS.ob o g _ hg (zu ho (by simp));obtain rfl:T=b:=by rw[S]at y;exact(Option.some.inj y).symm
 obtain⟨B,_,q⟩:=MJ (P:=P) (w:=w) h2 M;have C:∀(v:Value) (m:List Dt) (ok:Bool),jy K w.heap J v m->(Instr.lookup t (.map (some T)) I a).run P w=.ok (if a then .tuple #[v,.bool ok]else v) w->yr u d (zr L.zero)=m->(jr u d).isSome=ok ->
   ∃s,(Instr.lookup t (.map (some T)) I a).run P w=.ok s w/\VR K w.heap G s (bif a then .tup [gW J (yr u d (zr L.zero)),.p (.b (jr u d).isSome)]else gW J (yr u d (zr L.zero))):=by
  intro v m ok hv hr e1 e2;refine⟨_,hr,?_⟩;rw[e1,e2];have:=y7 (G:=G) hv;cases a with
  |false=>simpa using this
  |true =>
   simp only[if_true,cond_true,VR];refine⟨[v,.bool ok],rfl,?_⟩;simp only[VRs,VR,DR];exact⟨_,_,rfl,this,_,_,rfl,rfl,rfl⟩
 rcases q hm h1 with⟨V,W,_,_,_⟩|⟨j,e,m,V,W,a3,a4,a5,_,_⟩
 .obtain⟨i,z,D,hi2,E,r⟩:=OA Q;have X:(zeroValue et).run P w=.ok z w:=by simp[zeroValue,typeInfo,D,E]
  have n:uD P et=(match z with|.agg _=>true|_=>false):=by simp only[uD,D,Option.bind_some,E];cases z <;> rfl
  refine C z (zr L.zero) false ?_ ?_ (by simp[yr,W]) (by simp[W])
  .have f:=mG (K:=K) (h:=w.heap) h4;rw[<-r]at f;cases J with
   |true =>
    rw[h3]at n;cases z <;> first|cases n|skip
    rename_i cs;exact⟨cs.toList,by simp,by rw[<-r];exact f⟩
   |false =>
    rw[h3]at n;have F:z.cells.toList=[z]:=by cases z <;> first|rfl|cases n
    rw[F]at f;have Y:=f.length;rw[<-r,F];match Z:zr [z],Y with
    |[d0],_ =>
     rw[Z]at f;simp only[DRs]at f;obtain⟨_,_,h6,h7,_⟩:=f;cases h6;exact⟨d0,rfl,h7⟩
  .simp only[Instr.lookup,Sem.run_bind,run_underlying hu,Result.andThen_ok,MapKept.run_getObj_map A,Sem.run_pure,B,V,X]
   first
    |done
    |(cases a <;> simp)
 .refine C e.val m true a5 ?_ (by simp[yr,a4]) (by simp[a4]);simp only[Instr.lookup,Sem.run_bind,run_underlying hu,Result.andThen_ok,MapKept.run_getObj_map A,Sem.run_pure,B,V]
  first
   |done
   |(cases a <;> simp)
end
def gS:List Va->Option (List Dt)
 |[]=>some []
 |.p d::l=>match gS l with
  |some a=>some (d::a)
  |none=>none
 |_::_=>none
def qy(op:BinOp)(b:Bool)(ok:Prop):Pv:=match op with
 |.eql=>⟨.p (.b b),ok⟩
 |.neq=>⟨.p (.b (!b)),ok⟩
 |_=>eC
def xu(P:Program)(op:BinOp)(t:TypeId)(x y:Va):Pv:=match x with
 |.p (.i k a)=>match y with
  |.p (.i f b)=>i5 op k a f b
  |_=>eC
 |.p (.s a)=>match y with
  |.p (.s b)=>xv op a b
  |_=>eC
 |.p (.b a)=>match y with
  |.p (.b b)=>match zB P t with
   |.bool=>qy op (decide (a=b)) True
   |_=>eC
  |_=>eC
 |.agg g=>match y with
  |.agg h=>match py P t,gS g,gS h with
   |some ks,some c,some d=>qy op (fE c d) (eV P t=true/\zI ks c/\zI ks d)
   |_,_,_=>eC
  |_=>eC
 |.nil=>match y with
  |.nil=>match zB P t with
   |.ptr _=>qy op true True
   |_=>eC
  |_=>eC
 |.ptr o a=>match y with
  |.nil=>match zB P t with
   |.ptr _=>qy op false True
   |_=>eC
  |.ptr j l=>match zB P t with
   |.ptr e=>qy op true (o=j/\a=l/\(P.info? e).isSome=true)
   |_=>eC
  |_=>eC
 |_=>eC
def Ej:Va->Pv
 |.ptr o a=>⟨.ptr o a,True⟩
 |.rp c=>⟨.rp c,True⟩
 |.el o d i a=>⟨.el o d i a,True⟩
 |.fn f b=>⟨.fn f b,True⟩
 |_=>eC
def me(c:Ti)(x:Va):Prop:=match c.kind,x with
 |.str,.p (.s _)=>True
 |.slice _ b _ _,.p (.l a)=>fh b a
 |.slice _ b _ _,.full a=>fh b a
 |.slice _ _ _ _,.nils=>True
 |_,_=>False
def oOk(g:Bool)(E:ey):Option Operand->Prop
 |none=>True
 |some x=>opOk g E x
def allOk(g:Bool)(E:ey):List Operand->Prop
 |[]=>True
 |x::a=>opOk g E x/\allOk g E a
def partsOk(g:Bool)(E:ey):List (Nat×Operand)->Prop
 |[]=>True
 |x::a=>opOk g E x.2/\partsOk g E a
def partsV(E:ey):List (Nat×Operand)->List (Nat×Va)
 |[]=>[]
 |x::a=>(x.1,opnd E x.2)::partsV E a
def opnds(E:ey):List Operand->List Va
 |[]=>[]
 |x::a=>opnd E x::opnds E a
def also(c:Prop)(r:Pv):Pv:=⟨r.v,c/\r.ok⟩
def VG:Va->Option Bool
 |.p (.b x)=>some x
 |_=>none
def j1(t:Bool)(a b:Va):Va:=match a,b with
 |.p (.b x),.p (.b y)=>.p (.b (bif t then x else y))
 |x,y=>bif t then x else y
theorem rn(a b:Va):j1 true a b=a:=by
 unfold j1;split <;> rfl
theorem ro(a b:Va):j1 false a b=b:=by
 unfold j1;split <;> rfl
theorem Af(t:Bool)(a b:Va):j1 t a b=match a,b with
 |.p (.b x),.p (.b y)=>.p (.b (bif t then x else y))
 |x,y=>bif t then x else y:=rfl
def vP(g:Bool)(c a b:Va):Pv:=match c with
 |.p (.b t)=>⟨j1 t (mY a) (mY b),g=true->(t=true->FL a=true)/\(t=false->FL b=true)⟩
 |_=>eC
def Kl(c:Bool)(x y:Va):Pv:=match x,y with
 |.p (.i k a),.p (.i d b)=>⟨.p (.i k (bif c then min a b else max a b)),k=d⟩
 |_,_=>eC
def QB(x y z:Va):Pv:=match x,y,z with
 |.p (.i k a),.p (.i e b),.p (.i d c)=>⟨.p (.i k (min (min a b) c)),k=e/\k=d⟩
 |_,_,_=>eC
def Fv(P:Program)(t:TypeId)(x:Va):Pv:=match zB P t,x with
 |.slice _ _ _ _,.bufc _ a=>⟨.p (.i .i64 a),(a:Int)<=9223372036854775807⟩
 |_,_=>eC
def LC(x y:Va)(o:Operand):Option Bool:=match x,y,o with
 |.raw .nilIface,.raw .nilIface,.const _=>some true
 |.er b,.raw .nilIface,.const _=>some b
 |_,_,_=>none
theorem Fh{K:Nat->Prop}{h:Array Obj}{G:List Gh}{x y:Va}{o:Operand}{b:Bool}{cx d:Value}(e:LC x y o=some b)(a:VR K h G cx x)(c:VR K h G d y) :
  (∃v,o=.const v)/\d=.nilIface/\((b=true/\cx=.nilIface)∨(b=false/\∃t v,cx=.iface t v)):=by
 unfold LC at e;split at e
 .cases e;simp only[VR]at a c;exact⟨⟨_,rfl⟩,c,.inl ⟨rfl,a⟩⟩
 .cases e;simp only[VR]at a c;exact⟨⟨_,rfl⟩,c,a⟩
 .cases e
def QW(P:Program)(t:TypeId):Bool:=match P.underlying t with
 |some (.interface _)=>true
 |_=>false
def fB(P:Program)(g:Bool)(E:ey)(H:List Ob):Op->Pv
 |.move x=>⟨opnd E x,opOk g E x⟩
 |.assign x=>⟨opnd E x,opOk g E x⟩
 |.pick c a b=>also (opOk g E c/\ub a/\ub b) (vP g (opnd E c) (eN E a) (eN E b))
 |.build t o=>match eB P t with
  |some e=>also (partsOk g E o.toList) (i3 e (partsV E o.toList))
  |none=>eC
 |.load t x=>match eB P t with
  |some e=>also (opOk g E x) (j8 e H (opnd E x))
  |none=>eC
 |.nilCheck x=>also (opOk g E x) (Ej (opnd E x))
 |.binOp op t x y _=>also (opOk g E x/\opOk g E y) (match LC (opnd E x) (opnd E y) y with
  |some b=>qy op b (QW P t=true)
  |none=>xu P op t (opnd E x) (opnd E y))
 |.unOp op _ x=>also (opOk g E x) (I9 op (opnd E x))
 |.convert s d x=>match eB P s with
  |some _=>also (opOk g E x) (oE P s d H (opnd E x))
  |none=>eC
 |.makeFunc fn first j=>match fn,first.toList with
  |.func f,[]=>⟨.fn f (opnds E j.toList),allOk g E j.toList⟩
  |_,_=>eC
 |.slice t x l h m=>match eB P t with
  |some e=>match kV e H (opnd E x)with
   |some r=>also (opOk g E x/\oOk g E l/\oOk g E h/\oOk g E m) (mP r (l.map (opnd E)) (h.map (opnd E)) (m.map (opnd E)))
   |none=>also (opOk g E x/\oOk g E l/\oOk g E h/\oOk g E m/\me e (opnd E x)) (xX (opnd E x) (l.map (opnd E)) (h.map (opnd E)) (m.map (opnd E)))
  |none=>eC
 |.fieldAddr t x f=>match eB P t with
  |some e=>also (opOk g E x) (HY e f (opnd E x))
  |none=>eC
 |.field t x f=>match eB P t with
  |some e=>also (opOk g E x) (i0 e f (opnd E x))
  |none=>eC
 |.indexAddr t x i=>match eB P t with
  |some e=>also (opOk g E x/\opOk g E i) (Hs e H (opnd E x) (opnd E i))
  |none=>eC
 |.index t x i=>match eB P t with
  |some e=>also (opOk g E x/\opOk g E i) (iU e (opnd E x) (opnd E i))
  |none=>eC
 |.extract x i=>also (opOk g E x) (Hp (opnd E x) i)
 |.lookup t x k n=>also (opOk g E x/\opOk g E k) (nI P t H n (opnd E x) (opnd E k))
 |.call c=>match c.callee,c.args.toList,c.argTypes.toList with
  |.builtin .len,[x],t::_=>also (opOk g E x) (wn P t H (opnd E x))
  |.builtin .cap,[x],t::_=>also (opOk g E x) (Fv P t (opnd E x))
  |.builtin .min,[x,y],_=>also (opOk g E x/\opOk g E y) (Kl true (opnd E x) (opnd E y))
  |.builtin .min,[x,y,z],_=>also (opOk g E x/\opOk g E y/\opOk g E z) (QB (opnd E x) (opnd E y) (opnd E z))
  |.builtin .max,[x,y],_=>also (opOk g E x/\opOk g E y) (Kl false (opnd E x) (opnd E y))
  |_,_,_=>eC
 |_=>eC
section
variable {K:Nat->Prop} {G:List Gh} {H:List Ob} {w:World} {P:Program} {E:ey} {a:Act} {g:Bool}
theorem OG{h:Array Obj}:∀{cs:List Value} {e:List Va} {b:List Dt},VRs K h G cs e->gS e=some b->DRs K h cs b
 |cs,[],b,H,a=>by simp only[gS]at a;cases a;simpa [VRs,DRs]using H
 |cs,.p d::e,b,H,a=>by
  simp only[gS]at a;split at a
  .rename_i g i;cases a;simp only[VRs,VR]at H;obtain⟨c,f,rfl,j,k⟩:=H;simp only[DRs];exact⟨c,f,rfl,j,OG k i⟩
  .cases a
 |cs,.nils::_,_,_,a=>by simp[gS]at a
 |cs,.full _::_,_,_,a=>by simp[gS]at a
 |cs,.rp _::_,_,_,a=>by simp[gS]at a
 |cs,.ptr _ _::_,_,_,a=>by simp[gS]at a
 |cs,.cs _ _::_,_,_,a=>by simp[gS]at a
 |cs,.el _ _ _ _::_,_,_,a=>by simp[gS]at a
 |cs,.buf _::_,_,_,a=>by simp[gS]at a
 |cs,.mp _::_,_,_,a=>by simp[gS]at a
 |cs,.np _::_,_,_,a=>by simp[gS]at a
 |cs,.sd _::_,_,_,a=>by simp[gS]at a
 |cs,.vw _ _ _ _::_,_,_,a=>by simp[gS]at a
 |cs,.bufc _ _::_,_,_,a=>by simp[gS]at a
 |cs,.fn _ _::_,_,_,a=>by simp[gS]at a
 |cs,.agg _::_,_,_,a=>by simp[gS]at a
 |cs,.tup _::_,_,_,a=>by simp[gS]at a
 |cs,.nil::_,_,_,a=>by simp[gS]at a
 |cs,.cnd _ _::_,_,_,a=>by simp[gS]at a
 |cs,.raw _::_,_,_,a=>by simp[gS]at a
 |cs,.er _::_,_,_,a=>by simp[gS]at a
 |cs,.top::_,_,_,a=>by simp[gS]at a
theorem yT{t:TypeId}{c:Ti}(f:eB P t=some c)(g:c.kind=.bool):P.underlying t=some .bool:=by
 obtain⟨d,h,a,i⟩:=uN f;rw[g]at a;cases d <;> simp only[u1]at a <;> try (cases a)
 case slice e=>split at a <;> cases a
 case array n e=>split at a <;> cases a
 case struct b=>split at a <;> cases a
 case bool=>exact h
theorem pJ{t:TypeId}{c:Ti}{e:TypeId}(f:eB P t=some c)(g:c.kind=.ptr e):P.underlying t=some (.pointer e):=by
 obtain⟨d,h,a,i⟩:=uN f;rw[g]at a;cases d <;> simp only[u1]at a <;> try (cases a)
 case slice e=>split at a <;> cases a
 case array n e=>split at a <;> cases a
 case struct b=>split at a <;> cases a
 case pointer=>exact h
theorem Bh{op:BinOp}{t:TypeId}{c d:Value}{x y:Va}(h:VR K w.heap G c x)(i:VR K w.heap G d y)(a:(xu P op t x y).ok)(E F:Operand) :
  ∃u,(do eqGuard op t E F c d;binOp op t c d:Sem Value).run P w=.ok u w/\VR K w.heap G u (xu P op t x y).v:=by
 unfold xu at a|-;split at a
 .split at a;rotate_left
  .exact a.elim
  simp only[VR,DR]at h i;obtain⟨rfl,z⟩:=h;obtain⟨rfl,_⟩:=i;obtain⟨u,H,I⟩:=Bj (K:=K) (G:=G) (w:=w) (P:=P) t z a;exact⟨u,by rw[eqGuard_at_int];simpa using H,I⟩
 .split at a;rotate_left
  .exact a.elim
  simp only[VR,DR]at h i;obtain⟨rfl,z⟩:=h;obtain⟨rfl,_⟩:=i;obtain⟨u,H,I⟩:=Bi (K:=K) (G:=G) (w:=w) (P:=P) t a;exact⟨u,by rw[eqGuard_at_string];simpa using H,I⟩
 .split at a;rotate_left
  .exact a.elim
  split at a;rotate_left
  .exact a.elim
  rename_i p;obtain⟨J,q,f⟩:=zL p (by simp);have l:=yT q f;simp only[VR,DR]at h i;subst h;subst i;cases op <;> try (exact a.elim)
  .exact⟨_,by rw[eqGuard_at_bool];simpa using run_eql_bool w t _ _ l,fX (CC _ _)⟩
  .exact⟨_,by rw[eqGuard_at_bool];simpa using run_neq_bool w t _ _ l,fX (by rw[CC])⟩
 .split at a;rotate_left
  .exact a.elim
  split at a;rotate_left
  .exact a.elim
  rename_i ks S T A L M;simp only[VR]at h i;obtain⟨cs,rfl,N⟩:=h;obtain⟨R,rfl,B⟩:=i;have m:=OG N L;have n:=OG B M;cases op <;> try (exact a.elim)
  .obtain⟨z,r,s⟩:=a;exact⟨_,(jU w A z m n r s E F).1,fX rfl⟩
  .obtain⟨z,r,s⟩:=a;exact⟨_,(jU w A z m n r s E F).2,fX rfl⟩
 .split at a;rotate_left
  .exact a.elim
  split at a;rotate_left
  .exact a.elim
  rename_i e p;obtain⟨J,q,f⟩:=zL p (by simp);have l:=pJ q f;have k:P.underlying t=some (.pointer (P.pointee t)):=by simp[Program.pointee,l]
  simp only[VR]at h i;subst h;subst i;cases op <;> try (exact a.elim)
  .exact⟨_,by rw[eqGuard_at_pointer];simpa using run_eql_pointer_nil w t none k,fX rfl⟩
  .exact⟨_,by rw[eqGuard_at_pointer];simpa using run_neq_pointer_nil w t none k,fX rfl⟩
 .split at a;rotate_left
  .split at a;rotate_left
   .exact a.elim
   rename_i U V e p;obtain⟨J,q,f⟩:=zL p (by simp);have l:=pJ q f;simp only[VR]at h i;obtain⟨g,b,Q,C,rfl⟩:=h;obtain⟨g',b',D,o,rfl⟩:=i;cases op <;> try (exact a.elim)
   .obtain⟨rfl,rfl,hi⟩:=a;obtain⟨j,O⟩:=Option.isSome_iff_exists.1 hi;obtain rfl:g=g':=Option.some.inj (Q.symm.trans D);obtain rfl:b=b':=Option.some.inj (C.symm.trans o);exact⟨_,by rw[eqGuard_at_pointer];simpa using run_eql_ptr_same w _ l O,fX rfl⟩
   .obtain⟨rfl,rfl,hi⟩:=a;obtain⟨j,O⟩:=Option.isSome_iff_exists.1 hi;obtain rfl:g=g':=Option.some.inj (Q.symm.trans D);obtain rfl:b=b':=Option.some.inj (C.symm.trans o);exact⟨_,by rw[eqGuard_at_pointer];simpa using Lib.run_neq_ptr_same w _ l O,fX rfl⟩
  .exact a.elim
  split at a;rotate_left
  .exact a.elim
  rename_i e p;obtain⟨J,q,f⟩:=zL p (by simp);have l:=pJ q f;have k:P.underlying t=some (.pointer (P.pointee t)):=by simp[Program.pointee,l]
  simp only[VR]at h i;obtain⟨_,b,_,_,rfl⟩:=h;subst i;cases op <;> try (exact a.elim)
  .exact⟨_,by rw[eqGuard_at_pointer];simpa using run_eql_pointer_nil w t (some _) k,fX rfl⟩
  .exact⟨_,by rw[eqGuard_at_pointer];simpa using run_neq_pointer_nil w t (some _) k,fX rfl⟩
 .exact a.elim
theorem MN(e:ja K w.heap G a E)(f:g=true):∀(l:List (Nat×Operand)),partsOk g E l ->
  (l.map fun x=>(x.1,a.eval x.2)).map (·.1)=(partsV E l).map (·.1) /\
  ∀(j:Nat) (c:Value) (v:Va),(((l.map fun x=>(x.1,a.eval x.2))[j]?).map fun x=>x.2)=some c->((partsV E l)[j]?.map fun x=>x.2)=some v->VR K w.heap G c v
 |[],_=>⟨rfl,by simp[partsV]⟩
 |x::l,h=>by
  simp only[partsOk]at h;obtain⟨i,k⟩:=MN e f l h.2;refine⟨by simp only[map_cons,partsV,i],fun j c v b d=>?_⟩;cases j with
  |zero =>
   simp only[map_cons,partsV,getElem?_cons_zero,Option.map_some,Option.some.injEq]at b d;subst b;subst d;exact zG e f _ h.1
  |succ j=>exact k j c v (by simpa using b) (by simpa [partsV]using d)
theorem x9(b:ja K w.heap G a E)(c:g=true):∀(l:List Operand),allOk g E l->VRs K w.heap G (l.map a.eval) (opnds E l)
 |[],_=>by simp[VRs,opnds]
 |x::l,h=>by simp only[allOk]at h;simp only[map_cons,opnds,VRs];exact⟨_,_,rfl,zG b c x h.1,x9 b c l h.2⟩
theorem FN(b:ja K w.heap G a E)(c:g=true)(x:Option Operand)(h:oOk g E x):BR K w.heap G (x.map a.eval) (x.map (opnd E)):=by
 cases x with
 |none=>trivial
 |some x=>exact zG b c x h
theorem MA(hS:St K G H w)(n:ja K w.heap G a E)(q:g=true)(o:Oper)(j:(fB P g E H o.op).ok) :
  ∃c,(execOp a.eval o).run P w=.ok (.value c) w/\VR K w.heap G c (fB P g E H o.op).v:=by
 obtain⟨dst,op,ty,pos,after,guard⟩:=o;have val:∀(s:Sem Value) (c:Value),s.run P w=.ok c w->(do pure (.value (<-s)):Sem Next).run P w=.ok (.value c) w:=by intro s c h;simp[h]
 cases op <;> simp only[fB]at j|- <;> try (exact j.elim)
 case move x=>exact⟨_,rfl,zG n q x j⟩
 case assign x=>exact⟨_,rfl,zG n q x j⟩
 case pick c x y =>
  obtain⟨⟨C,D,A⟩,hp⟩:=j;have hc:=zG n q c C;have p:=k7 n x D;have L:=k7 n y A;simp only[also];unfold vP at hp|-;split at hp;rotate_left
  .exact hp.elim
  rename_i t I;rw[I]at hc;simp only[VR,DR]at hc;have hp':=hp q;simp only[execOp,hc,asBool];cases t
  .exact⟨_,by simp;rfl,by simpa [ro]using OM L (hp'.2 rfl)⟩
  .exact⟨_,by simp;rfl,by simpa [rn]using OM p (hp'.1 rfl)⟩
 case build t ps =>
  split at j;rotate_left
  .exact j.elim
  rename_i V I;obtain⟨C,D⟩:=j;obtain⟨hp1,hp2⟩:=MN n q ps.toList C;obtain⟨c,B,F⟩:=tO (P:=P) w I (ps:=ps.map fun x=>(x.1,a.eval x.2)) (parts:=partsV E ps.toList) (by simpa using hp1) (by simpa using hp2) D;exact⟨c,val _ _ B,F⟩
 case load t x =>
  split at j;rotate_left
  .exact j.elim
  rename_i V I;obtain⟨c,B,F⟩:=nJ (P:=P) I hS (zG n q x j.1) j.2;exact⟨c,val _ _ B,F⟩
 case nilCheck x =>
  obtain⟨C,D⟩:=j;have p:=zG n q x C;simp only[also,execOp];generalize opnd E x=v at p D|-;generalize a.eval x=c at p|-;cases v <;> simp only[Ej]at D|- <;> try (exact D.elim)
  .have:=p;simp only[VR]at this;obtain⟨_,_,_,_,_,_,rfl,_⟩:=this;exact⟨_,rfl,p⟩
  .have:=p;simp only[VR]at this;obtain⟨_,_,_,_,rfl⟩:=this;exact⟨_,rfl,p⟩
  .have:=p;simp only[VR]at this;obtain⟨_,_,_,_,_,_,_,rfl⟩:=this;exact⟨_,rfl,p⟩
  .have:=p;simp only[VR]at this;obtain⟨_,rfl,_⟩:=this;exact⟨_,rfl,p⟩
 case binOp op t x y yt =>
  obtain⟨⟨C,D⟩,A⟩:=j;cases W:LC (opnd E x) (opnd E y) y with
  |some b =>
   simp only[W]at A;simp only[also];have p:=zG n q x C;have L:=zG n q _ D;obtain⟨⟨co,rfl⟩,S,N⟩:=Fh W p L;have hi:P.underlying t=some (.interface (P.methodsAt t)):=by
    cases op <;> first|exact A.elim|skip
    all_goals
     have T:QW P t=true:=A;unfold QW at T;split at T
     .rename_i ms hu;simp[Program.methodsAt,hu]
     .cases T
   rcases N with⟨rfl,N⟩|⟨rfl,tv,vv,N⟩
   .cases op <;> first|exact A.elim|skip
    .refine⟨_,val _ _ (by rw[N,S,eqGuard_nil_constR];simpa using run_eql_nil_nil w t hi),fX rfl⟩
    .refine⟨_,val _ _ (by rw[N,S,eqGuard_nil_constR];simpa using run_neq_nil_nil w t hi),fX rfl⟩
   .cases op <;> first|exact A.elim|skip
    .refine⟨_,val _ _ (by rw[N,S];simpa [eqGuard]using run_eql_held_nil w t tv vv hi),fX rfl⟩
    .refine⟨_,val _ _ (by rw[N,S];simpa [eqGuard]using run_neq_held_nil w t tv vv hi),fX rfl⟩
  |none =>
  simp only[W]at A;simp only[also];obtain⟨c,B,F⟩:=Bh (P:=P) (zG n q x C) (zG n q y D) A x y;exact⟨c,val _ _ B,F⟩
 case unOp op t x =>
  obtain⟨c,B,F⟩:=Di (P:=P) (zG n q x j.1) j.2;exact⟨c,val _ _ B,F⟩
 case convert src dst x =>
  split at j;rotate_left
  .exact j.elim
  rename_i V I;obtain⟨d,hd,_⟩:=uN I;obtain⟨c,B,F⟩:=xg (P:=P) (dst:=dst) hS (zG n q x j.1) ⟨d,hd⟩ j.2;exact⟨c,val _ _ B,F⟩
 case makeFunc fn first M =>
  split at j;rotate_left
  .exact j.elim
  rename_i f hfirst;have hf0:first=#[]:=by cases first;simp_all
  subst hf0;refine⟨.func (.func f) #[] (M.toList.map a.eval).toArray,?_,?_⟩
  .have C:M.map a.eval=(M.toList.map a.eval).toArray:=by cases M;simp
   have D:(#[]:Array Operand).map a.eval=#[]:=by simp
   simp only[execOp,Instr.makeFunc,C,D];simp
  .simp only[VR];exact⟨_,rfl,x9 n q M.toList j⟩
 case slice t x l h m =>
  split at j;rotate_left
  .exact j.elim
  rename_i V I;split at j
  .rename_i r B;obtain⟨⟨C,D,A,T⟩,h6⟩:=j;obtain⟨c,B,F⟩:=uW (P:=P) I hS (zG n q x C) (FN n q l D) (FN n q h A) (FN n q m T) B h6;exact⟨c,val _ _ B,F⟩
  obtain⟨⟨C,D,A,T,h5⟩,h6⟩:=j;obtain⟨c,B,F⟩:=sW (P:=P) I (zG n q x C) (FN n q l D) (FN n q h A) (FN n q m T) (by
   unfold me at h5;split at h5
   .rename_i s O p;exact .inl ⟨O,s,p⟩
   .rename_i e Q eb ez R O p;exact .inr ⟨e,Q,eb,ez,O,.inl ⟨R,p,h5⟩⟩
   .rename_i e Q eb ez R O p;exact .inr ⟨e,Q,eb,ez,O,.inr (.inl ⟨R,p,h5⟩)⟩
   .rename_i e Q eb ez O p;exact .inr ⟨e,Q,eb,ez,O,.inr (.inr p)⟩
   .exact h5.elim) h6
  exact⟨c,val _ _ B,F⟩
 case fieldAddr t x f =>
  split at j;rotate_left
  .exact j.elim
  rename_i V I;obtain⟨c,B,F⟩:=Tt (P:=P) (w:=w) I (zG n q x j.1) j.2;exact⟨c,val _ _ B,F⟩
 case field t x f =>
  split at j;rotate_left
  .exact j.elim
  rename_i V I;obtain⟨c,B,F⟩:=tw (P:=P) (w:=w) I (zG n q x j.1) j.2;exact⟨c,val _ _ B,F⟩
 case indexAddr t x i =>
  split at j;rotate_left
  .exact j.elim
  rename_i V I;obtain⟨c,B,F⟩:=nW (P:=P) I hS (zG n q x j.1.1) (zG n q i j.1.2) j.2;exact⟨c,val _ _ B,F⟩
 case index t x i =>
  split at j;rotate_left
  .exact j.elim
  rename_i V I;obtain⟨c,B,F⟩:=th (P:=P) (w:=w) I (zG n q x j.1.1) (zG n q i j.1.2) j.2;exact⟨c,val _ _ B,F⟩
 case extract x i =>
  obtain⟨c,B,F⟩:=oq (P:=P) (w:=w) (i:=i) (zG n q x j.1) j.2;exact⟨c,val _ _ B,F⟩
 case lookup t x k cok =>
  obtain⟨c,B,F⟩:=wg (P:=P) hS (zG n q x j.1.1) (zG n q k j.1.2) j.2;exact⟨c,val _ _ B,F⟩
 case call c =>
  obtain⟨callee,args,J⟩:=c;simp only at j|-;split at j
  .rename_i x t ts C D;have U:args=#[x]:=by cases args;simp_all
   subst U;obtain⟨c,B,F⟩:=AD (P:=P) hS (zG n q x j.1) j.2 J (by rw[<-Array.getElem?_toList,D];rfl) ty;exact⟨c,by simp[execOp,resolve,invoke,builtin,B],F⟩
  .rename_i x t ts C D;have U:args=#[x]:=by cases args;simp_all
   subst U;obtain⟨C,A⟩:=j;have p:=zG n q x C;simp only[also];unfold Fv at A|-;split at A;rotate_left
   .exact A.elim
   rename_i e Q eb ez o cp O he;obtain⟨V,I,X⟩:=zL O (by simp);rw[he]at p;simp only[VR]at p;obtain⟨g,a0,n0,cap,_,hsv,hc,rfl⟩:=p;have hts:J[0]?=some t:=by rw[<-Array.getElem?_toList,D];rfl
   refine⟨goInt cap,?_,jB (by simp only[Fits,lo,hi];omega)⟩;rw[hsv]at hc;simp[execOp,resolve,invoke,builtin,hc,Builtin.cap_,hts,run_underlying (jh I X).1]
  .rename_i tl x y C;have U:args=#[x,y]:=by cases args;simp_all
   subst U;obtain⟨⟨C,D⟩,A⟩:=j;have p:=zG n q x C;have L:=zG n q y D;simp only[also];unfold Kl at A|-;split at A;rotate_left
   .exact A.elim
   rename_i k u k' v Y Z;rw[Y]at p;rw[Z]at L;simp only[VR,DR]at p L;have O:k=k':=A;subst O;refine⟨.int k (min u v),?_,?_⟩
   .have:(if v<u then v else u)=min u v:=by rw[Int.min_def];split <;> split <;> omega
    simp[execOp,resolve,invoke,builtin,p.1,L.1,run_min_int2,this]
   .simp only[cond_true];exact jB (by rw[Int.min_def];split;exact p.2;exact L.2)
  .rename_i tl x y z C;have U:args=#[x,y,z]:=by cases args;simp_all
   subst U;obtain⟨⟨C,D,T⟩,A⟩:=j;have p:=zG n q x C;have L:=zG n q y D;have hz:=zG n q z T;simp only[also];unfold QB at A|-;split at A;rotate_left
   .exact A.elim
   rename_i k u k' v k'' t Y Z e3;rw[Y]at p;rw[Z]at L;rw[e3]at hz;simp only[VR,DR]at p L hz;obtain⟨O,X⟩:=A;subst O;subst X;refine⟨.int k (min (min u v) t),?_,?_⟩
   .have Y:(if v<u then v else u)=min u v:=by rw[Int.min_def];split <;> split <;> omega
    have Z:(if t<min u v then t else min u v)=min (min u v) t:=by rw[Int.min_def (min u v) t];split <;> split <;> omega
    simp[execOp,resolve,invoke,builtin,p.1,L.1,hz.1,Builtin.min_,Builtin.min2,Y,Z]
   .refine jB ?_;have C:=p.2;have D:=L.2;have A:=hz.2;unfold Fits at *;omega
  .rename_i tl x y C;have U:args=#[x,y]:=by cases args;simp_all
   subst U;obtain⟨⟨C,D⟩,A⟩:=j;have p:=zG n q x C;have L:=zG n q y D;simp only[also];unfold Kl at A|-;split at A;rotate_left
   .exact A.elim
   rename_i k u k' v Y Z;rw[Y]at p;rw[Z]at L;simp only[VR,DR]at p L;have O:k=k':=A;subst O;refine⟨.int k (max u v),?_,?_⟩
   .have:(if u<v then v else u)=max u v:=by rw[Int.max_def];split <;> split <;> omega
    simp[execOp,resolve,invoke,builtin,p.1,L.1,run_max_int2,this]
   .simp only[cond_false];exact jB (by rw[Int.max_def];split;exact L.2;exact p.2)
  .exact j.elim
end
abbrev Tp(a b:World):Prop:=b.tape=a.tape/\(Tabs.mono->a.drawn<=b.drawn)
structure Ext(kp:Nat->Bool)(K0:Nat->Prop)(G0:List Gh)(w0:World)(K:Nat->Prop)(G:List Gh)(w:World):Prop where
 os:w.os=w0.os
 tape:Tp w0 w
 output:w.output=w0.output
 size:w0.heap.size<=w.heap.size
 k:∀b,K0 b->K b
 knew:∀b,K b->K0 b∨(∃(o0:Nat) (g0:Gh),G0[o0]?=some g0/\own g0 b)∨w0.heap.size<=b
 glen:G0.length<=G.length
 gown:∀(o:Nat) (g:Gh) (b:Nat),G[o]?=some g->own g b->(∃(o0:Nat) (g0:Gh),G0[o0]?=some g0/\own g0 b)∨w0.heap.size<=b
 gsame:∀(o:Nat) (g0:Gh),kp o=true->G0[o]?=some g0->G[o]?=some g0
 frame:∀b,b<w0.heap.size->(∀(o:Nat) (g0:Gh),G0[o]?=some g0->¬ own g0 b)->w.heap[b]?=w0.heap[b]?
theorem Ext.refl(kp:Nat->Bool)(K:Nat->Prop)(G:List Gh)(w:World):Ext kp K G w K G w where
 os:=rfl
 tape:=⟨rfl,fun _=>Nat.le_refl _⟩
 output:=rfl
 size:=Nat.le_refl _
 k:=fun _ h=>h
 knew:=fun _ h=>.inl h
 glen:=Nat.le_refl _
 gown:=fun o g _ h hb=>.inl ⟨o,g,h,hb⟩
 gsame:=fun _ _ _ h=>h
 frame:=fun _ _ _=>rfl
theorem Ext.trans{kp:Nat->Bool}{j l n:Nat->Prop}{p q r:List Gh}{s w1 t:World}(h:Ext kp j p s l q w1)(k:Ext kp l q w1 n r t):Ext kp j p s n r t where
 os:=k.os.trans h.os
 tape:=⟨k.tape.1.trans h.tape.1,fun m=>Nat.le_trans (h.tape.2 m) (k.tape.2 m)⟩
 output:=k.output.trans h.output
 size:=Nat.le_trans h.size k.size
 k:=fun b hb=>k.k b (h.k b hb)
 knew:=fun b hb=>by
  rcases k.knew b hb with a|⟨i,d,a,c⟩|a
  .exact h.knew b a
  .exact .inr (h.gown i d b a c)
  .exact .inr (.inr (Nat.le_trans h.size a))
 glen:=Nat.le_trans h.glen k.glen
 gown:=fun o g b w hb=>by
  rcases k.gown o g b w hb with⟨i,d,a,c⟩|a
  .exact h.gown i d b a c
  .exact .inr (Nat.le_trans h.size a)
 gsame:=fun o f u x=>k.gsame o f u (h.gsame o f u x)
 frame:=fun b hb v=>by
  rw[k.frame b (Nat.lt_of_lt_of_le hb h.size) fun o d a e=>?_]
  .exact h.frame b hb v
  .rcases h.gown o d b a e with⟨y,f,c,z⟩|c
   .exact v y f c z
   .omega
theorem Ext.cut{d:Nat->Bool}{e K:Nat->Prop}{c G:List Gh}{f w:World}(h:Ext d e c f K G w){n:Nat}(l:c.length<=n):Ext d e c f K (G.take n) w :=
 { h with
  glen:=by rw[length_take];have:=h.glen;omega
  gown:=fun o g b a hb=>by
   rw[getElem?_take]at a;split at a
   .exact h.gown o g b a hb
   .cases a
  gsame:=fun o j k i=>by
   have:=(List.getElem?_eq_some_iff.1 i).1;rw[getElem?_take,if_pos (by omega)];exact h.gsame o j k i }
structure Cx where
 P:Program
 kp:Nat->Bool
 K0:Nat->Prop
 G0:List Gh
 w0:World
 n:Nat
def gg(kp:Nat->Bool)(H:List Ob):Prop:=∀o,kp o=true->∃x,H[o]?=some x/\x.kept=true
def Rel(C:Cx)(E:ey)(H:List Ob)(a:Act)(w:World):Prop :=
 ∃K G,Ext C.kp C.K0 C.G0 C.w0 K G w/\St K G H w/\ja K w.heap G a E/\a.defers=[]/\a.tmps.size=C.n/\gg C.kp H
def RelV(C:Cx)(E:ey)(H:List Ob)(c:Value)(v:Va)(a:Act)(w:World):Prop :=
 ∃K G,Ext C.kp C.K0 C.G0 C.w0 K G w/\St K G H w/\ja K w.heap G a E/\a.defers=[]/\a.tmps.size=C.n/\gg C.kp H/\VR K w.heap G c v
theorem RelV.put{C:Cx}{E:ey}{H:List Ob}{c:Value}{v:Va}{a:Act}{w:World}(h:RelV C E H c v a w)(b:Option Tmp)(j:∀d,b=some d->d<C.n):Rel C (eP E b v) H (a.put b c) w:=by
 obtain⟨K,G,k,l,g,o,i,p,q⟩:=h;refine⟨K,G,k,l,?_,?_,?_,p⟩
 .cases b with
  |none=>exact g
  |some d =>
   intro m;simp only[Act.put,eP,eR];have f:=j d rfl;split
   .rename_i e;subst e;rw[show(a.tmps.setIfInBounds d c).getD d undef=c by simp[Array.getD,i,f]];exact q
   .rename_i e;rw[show(a.tmps.setIfInBounds d c).getD m undef=a.tmps.getD m undef by simp only[Array.getD_eq_getD_getElem?];rw[Array.getElem?_setIfInBounds_ne e]];exact g m
 .cases b <;> exact o
 .cases b <;> simp[Act.put,i]
section
variable {K:Nat->Prop} {G:List Gh} {H:List Ob} {w:World}
def Ob.all(f:Nat->Bool):Ob->Bool
 |.cells _ a=>dp f a
 |.it o _ _=>f o
 |.nst _ _ _ _ p _ _=>f p
 |_=>true
theorem Ob.all_true(x:Ob):x.all (fun _=>true)=true:=by cases x <;> first|rfl|exact df _
theorem bufR.keep{K K':Nat->Prop}{h a:Array Obj}(M:Mn K K' h a){c:Option Nat}{g:Value}(hb:∀b,c=some b->a[b]?=h[b]?){T:TypeId}{sz:Nat}{rows:List (List Dt)}(H:bufR K h c g T sz rows):bufR K' a c g T sz rows:=by
 obtain⟨k,i,l,d⟩:=H;refine⟨k,i,DRss.mono M sz i rows l,?_⟩;rcases d with d|⟨b,e,f,m,n,j,o,p⟩
 .exact .inl d
 .exact .inr ⟨b,e,f,m,n,j,(hb b j).trans o,p⟩
theorem ObR.keep{K':Nat->Prop}{h q:Array Obj}{G z:List Gh}{f:Nat->Bool}(M:Mn K K' h q)(r:Mg f G z){g:Gh}(A:∀b,own g b->q[b]?=h[b]?){x:Ob}
  (s:x.all f=true) (H:ObR K h G g x):ObR K' q z g x:=by
 have hb:∀b,g.blk=some b->q[b]?=h[b]?:=fun b h=>A b (.inl h);cases x with
 |cells T t =>
  obtain⟨b,cs,a,e,c⟩:=H;exact⟨b,cs,a,(hb b a).trans e,VRs.keep M r cs t s c⟩
 |buf T u d=>exact bufR.keep M hb H
 |fx T u d=>exact bufR.keep M hb H
 |sb T I =>
  obtain⟨a,c⟩:=H;refine⟨a,?_⟩;rcases c with c|⟨b,w,y,J,L,B,N,O⟩
  .exact .inl c
  .exact .inr ⟨b,w,y,J,L,B,(hb b B).trans N,O⟩
 |mp P Q =>
  obtain⟨m,b,i,l,a,e,c⟩:=H;exact⟨m,b,i,l,a,(hb b a).trans e,c.1.mono M,c.2⟩
 |mpb P Q I R =>
  obtain⟨m,b,i,a,e,c⟩:=H;exact⟨m,b,i,a,(hb b a).trans e,c.1.mono M,c.2⟩
 |it o R C =>
  obtain⟨b,S,D,a,e,c,n⟩:=H;exact⟨b,S,D,a,r o D s e,c,(hb b a).trans n⟩
 |nst f T u k p d X =>
  obtain⟨m,a,E,t,e,c,n,U⟩:=H;exact⟨m,a,E,t,r p E s e,c,n,bufR.keep M hb U⟩
 |inn T u V =>
  obtain⟨a,e,c,n⟩:=H;refine⟨a,e,fun j v d F W=>bufR.keep M (fun b hb=>A b (.inr ⟨v,?_,hb⟩)) (c j v d F W),n⟩;exact mem_of_getElem? F
 |gone=>exact H
 |lost=>exact H
def Ob.prune(f:Nat->Bool):Ob->Ob
 |.cells T c=>.cells T (de f c)
 |.it o d a=>if f o then .it o d a else .gone
 |.nst g T e k p b h=>if f p then .nst g T e k p b h else bif g then .lost else .gone
 |x=>x
theorem ObR.prune{j:Nat->Prop}{h d:Array Obj}{G l:List Gh}{f:Nat->Bool}(M:Mn K j h d)(a:Mg f G l){g:Gh}(hb:∀b,own g b->d[b]?=h[b]?){x:Ob}
  (H:ObR K h G g x):ObR j d l g (x.prune f):=by
 cases x with
 |cells T q =>
  obtain⟨b,cs,m,r,s⟩:=H;exact⟨b,cs,m,(hb b (.inl m)).trans r,VRs.prune M a cs q s⟩
 |buf T e c=>exact ObR.keep M a hb rfl H
 |fx T e c=>exact ObR.keep M a hb rfl H
 |sb T t=>exact ObR.keep M a hb rfl H
 |mp u v=>exact ObR.keep M a hb rfl H
 |mpb u v t w=>exact ObR.keep M a hb rfl H
 |it o w n =>
  simp only[Ob.prune];split
  .rename_i i;exact ObR.keep M a hb i H
  .trivial
 |nst g T e k p c z =>
  simp only[Ob.prune];split
  .rename_i i;exact ObR.keep M a hb i H
  .cases g <;> trivial
 |inn T e y=>exact ObR.keep M a hb rfl H
 |gone=>exact H
 |lost=>exact H
theorem dh{f:Nat->Bool}{x:Ob}(h:x.kept=true):(x.prune f).kept=true:=by
 cases x <;> first|rfl|exact h|skip
 case it=>cases h
 case nst g T b k p a c =>
  simp only[Ob.prune];split
  .exact h
  .simp only[Ob.kept]at h;subst h;rfl
theorem Mg.push(G:List Gh)(g:Gh):Mg (fun _=>true) G (G++[g]):=fun o a _ h=>by rw[getElem?_append_left (List.getElem?_eq_some_iff.1 h).1];exact h
theorem Mg.refl(f:Nat->Bool)(G:List Gh):Mg f G G:=fun _ _ _ h=>h
theorem yx{x b:Nat}{a:Value}(h:own ⟨some x,a,[]⟩ b):b=x:=by
 rcases h with h|⟨v,c,_⟩
 .cases h;rfl
 .cases c
theorem uh{b:Nat}{a:Value}(h:own ⟨none,a,[]⟩ b):False:=by
 rcases h with h|⟨v,c,_⟩
 .cases h
 .cases c
theorem St.push(c:St K G H w){o:Obj}{x:Ob}{sv:Value}(r:ObR K (w.alloc o).heap (G++[⟨some w.heap.size,sv,[]⟩]) ⟨some w.heap.size,sv,[]⟩ x):St K (G++[⟨some w.heap.size,sv,[]⟩]) (H++[x]) (w.alloc o):=by
 have n:Mn K K w.heap (w.alloc o).heap:=⟨fun _ h=>h,fun b hb=>heap_alloc_old w o (c.kb b hb)⟩;have d:∀{i:Nat} {g:Gh},(G++[⟨some w.heap.size,sv,[]⟩])[i]?=some g->(G[i]?=some g)∨(i=G.length/\g=⟨some w.heap.size,sv,[]⟩):=by
  intro i g a;rcases Nat.lt_or_ge i G.length with h|h
  .rw[getElem?_append_left h]at a;exact .inl a
  .rw[getElem?_append_right h]at a
   have:i-G.length=0:=by
    rcases Nat.lt_or_ge (i-G.length) 1 with k|k
    .omega
    .rw[getElem?_eq_none (by simpa using k)]at a;cases a
   rw[this]at a;simp at a;exact .inr ⟨by omega,a.symm⟩
 constructor
 .simp[c.len]
 .intro b hb;rw[World.size_alloc];exact Nat.lt_succ_of_lt (c.kb b hb)
 .intro i g b a hb;rcases d a with h|⟨_,rfl⟩
  .have:=c.gbo i g b h hb;exact⟨by rw[World.size_alloc];omega,this.2⟩
  .obtain rfl:=yx hb;exact⟨by rw[World.size_alloc];omega,fun s=>Nat.lt_irrefl _ (c.kb _ s)⟩
 .intro i j g p b a m hb f;rcases d a with h|⟨e,rfl⟩ <;> rcases d m with k|⟨t,rfl⟩
  .exact c.ijo i j g p b h k hb f
  .obtain rfl:=yx f;have:=(c.gbo i g _ h hb).1;omega
  .obtain rfl:=yx hb;have:=(c.gbo j p _ k f).1;omega
  .omega
 .intro i g y a l;rcases d a with h|⟨e,rfl⟩
  .have q:=(List.getElem?_eq_some_iff.1 h).1;rw[c.len]at q;rw[getElem?_append_left q]at l;exact ObR.keep n (Mg.push G _) (fun b hb=>heap_alloc_old w o (c.gbo i g b h hb).1) (Ob.all_true _) (c.ob i g y h l)
  .subst e;rw[c.len,getElem?_append_right (Nat.le_refl _)]at l;simp at l;subst l;exact r
 .exact c.tb.mono n
theorem Ext.push(e:Nat->Bool)(o:Obj)(sv:Value):Ext e K G w K (G++[⟨some w.heap.size,sv,[]⟩]) (w.alloc o) where
 os:=rfl
 tape:=⟨rfl,fun _=>Nat.le_refl _⟩
 output:=rfl
 size:=by rw[World.size_alloc];omega
 k:=fun _ h=>h
 knew:=fun _ h=>.inl h
 glen:=by simp
 gown:=fun i g b a hb=>by
  rcases Nat.lt_or_ge i G.length with hi|hi
  .rw[getElem?_append_left hi]at a;exact .inl ⟨i,g,a,hb⟩
  .rw[getElem?_append_right hi]at a
   have:i-G.length=0:=by
    rcases Nat.lt_or_ge (i-G.length) 1 with c|c
    .omega
    .rw[getElem?_eq_none (by simpa using c)]at a;cases a
   rw[this]at a;simp at a;subst a;obtain rfl:=yx hb;exact .inr (Nat.le_refl _)
 gsame:=fun i f _ d=>by rw[getElem?_append_left (List.getElem?_eq_some_iff.1 d).1];exact d
 frame:=fun b hb _=>heap_alloc_old w o hb
theorem St.pushK(a:St K G H w)(o:Obj):St (fun b=>K b∨b=w.heap.size) G H (w.alloc o) where
 len:=a.len
 kb:=fun b hb=>by rw[World.size_alloc];rcases hb with h|h;exact Nat.lt_succ_of_lt (a.kb b h);omega
 gbo:=fun i g b c hb=>by have:=a.gbo i g b c hb;exact⟨by rw[World.size_alloc];omega,fun h=>h.elim this.2 fun e=>by omega⟩
 ijo:=a.ijo
 tb:=a.tb.mono ⟨fun _ h=>.inl h,fun b hb=>heap_alloc_old w o (a.kb b hb)⟩
 ob:=fun i g y c d=>ObR.keep (K:=K) ⟨fun _ h=>.inl h,fun b hb=>heap_alloc_old w o (a.kb b hb)⟩ (Mg.refl (fun _=>true) G) (fun b hb=>heap_alloc_old w o (a.gbo i g b c hb).1) (Ob.all_true _) (a.ob i g y c d)
theorem Ext.pushK(a:Nat->Bool)(o:Obj):Ext a K G w (fun b=>K b∨b=w.heap.size) G (w.alloc o) where
 os:=rfl
 tape:=⟨rfl,fun _=>Nat.le_refl _⟩
 output:=rfl
 size:=by rw[World.size_alloc];omega
 k:=fun _ h=>.inl h
 knew:=fun b h=>h.elim .inl fun e=>.inr (.inr (by omega))
 glen:=Nat.le_refl _
 gown:=fun i g b c hb=>.inl ⟨i,g,c,hb⟩
 gsame:=fun _ _ _ h=>h
 frame:=fun b hb _=>heap_alloc_old w o hb
end
section
variable {K:Nat->Prop} {G:List Gh} {H:List Ob} {w:World} {P:Program}
theorem St.modO(a:St K G H w){o:Nat}{g:Gh}{b:Nat}(d:G[o]?=some g)(hb:own g b){w':World}(f:w'.heap.size=w.heap.size)(j:∀i,i≠b->w'.heap[i]?=w.heap[i]?){x:Ob}(r:ObR K w'.heap G g x) :
  St K G (H.set o x) w':=by
 have m:Mn K K w.heap w'.heap:=⟨fun _ h=>h,fun i hi=>j i fun e=>(a.gbo o g b d hb).2 (e ▸ hi)⟩;refine⟨by simp[a.len],fun i hi=>by rw[f];exact a.kb i hi,fun i g b d hb=>by rw[f];exact a.gbo i g b d hb,a.ijo,fun i n y c k=>?_,a.tb.mono m⟩;by_cases e:i=o
 .subst e;rw[d]at c;cases c;have p:=(List.getElem?_eq_some_iff.1 d).1;rw[a.len]at p;rw[getElem?_set_self p]at k;cases k;exact r
 .rw[getElem?_set_ne (Ne.symm e)]at k;exact ObR.keep m (Mg.refl (fun _=>true) G) (fun q l=>j q fun s=>e (a.ijo i o n g q c d l (by rw[s];exact hb))) (Ob.all_true _) (a.ob i n y c k)
theorem St.modA(d:St K G H w){o:Nat}{g:Gh}{b:Nat}(e:G[o]?=some g)(hb:g.blk=some b){w':World}(a:w'.heap.size=w.heap.size)(c:∀i,i≠b->w'.heap[i]?=w.heap[i]?){x:Ob}(f:ObR K w'.heap G g x) :
  St K G (H.set o x) w':=d.modO e (.inl hb) a c f
theorem Ext.modO(j:Nat->Bool){o:Nat}{g:Gh}{b:Nat}(c:G[o]?=some g)(hb:own g b){a:World}(d:a.os=w.os)(l:Tp w a)(m:a.output=w.output)(n:a.heap.size=w.heap.size)(f:∀i,i≠b->a.heap[i]?=w.heap[i]?) :
  Ext j K G w K G a where
 os:=d
 tape:=l
 output:=m
 size:=by omega
 k:=fun _ h=>h
 knew:=fun _ h=>.inl h
 glen:=Nat.le_refl _
 gown:=fun i g _ c hb=>.inl ⟨i,g,c,hb⟩
 gsame:=fun _ _ _ h=>h
 frame:=fun i _ p=>f i fun e=>p o g c (by rw[e];exact hb)
theorem Ext.modA(kp:Nat->Bool){o:Nat}{g:Gh}{b:Nat}(e:G[o]?=some g)(hb:g.blk=some b){w':World}(a:w'.os=w.os)(f:Tp w w')(h:w'.output=w.output)(c:w'.heap.size=w.heap.size)(d:∀i,i≠b->w'.heap[i]?=w.heap[i]?) :
  Ext kp K G w K G w':=Ext.modO kp e (.inl hb) a f h c d
theorem St.modB(c:St K G H w){o:Nat}{g g1:Gh}(q:G[o]?=some g){w':World}(u:w.heap.size<=w'.heap.size)(r:∀i,i<w.heap.size->¬ own g i->w'.heap[i]?=w.heap[i]?)
  (t:∀b,own g1 b->b<w'.heap.size/\(own g b∨w.heap.size<=b)) {x:Ob} (F:ObR K w'.heap (G.set o g1) g1 x) :
  St K (G.set o g1) ((H.map (Ob.prune (· != o))).set o x) w':=by
 have B:=(List.getElem?_eq_some_iff.1 q).1;have C:Mn K K w.heap w'.heap:=⟨fun _ h=>h,fun i hi=>r i (c.kb i hi) fun e=>(c.gbo o g i q e).2 hi⟩;have v:Mg (· != o) G (G.set o g1):=fun i d hi f=>by rw[getElem?_set_ne (by simpa using Ne.symm (by simpa using hi))];exact f
 have a:∀{i:Nat} {d:Gh},(G.set o g1)[i]?=some d->(i=o/\d=g1)∨(i≠o/\G[i]?=some d):=by
  intro i d h;by_cases e:i=o
  .subst e;rw[getElem?_set_self B]at h;cases h;exact .inl ⟨rfl,rfl⟩
  .rw[getElem?_set_ne (Ne.symm e)]at h;exact .inr ⟨e,h⟩
 refine⟨by simp[c.len],fun i hi=>Nat.lt_of_lt_of_le (c.kb i hi) u,fun i d b f hb=>?_,fun i j d n b f s hb k=>?_,fun i d y f l=>?_,c.tb.mono C⟩
 .rcases a f with⟨rfl,rfl⟩|⟨e,h⟩
  .refine⟨(t b hb).1,fun D=>?_⟩;rcases(t b hb).2 with m|m
   .exact(c.gbo _ g b q m).2 D
   .have:=c.kb b D;omega
  .have:=c.gbo i d b h hb;exact⟨by omega,this.2⟩
 .rcases a f with⟨rfl,rfl⟩|⟨e,h⟩ <;> rcases a s with⟨rfl,rfl⟩|⟨E,z⟩
  .rfl
  .rcases(t b hb).2 with m|m
   .exact c.ijo _ j g n b q z m k
   .have:=(c.gbo j n b z k).1;omega
  .rcases(t b k).2 with m|m
   .exact c.ijo i _ d g b h q hb m
   .have:=(c.gbo i d b h hb).1;omega
  .exact c.ijo i j d n b h z hb k
 .rcases a f with⟨rfl,rfl⟩|⟨e,h⟩
  .rw[getElem?_set_self (by simp[<-c.len,B])]at l;cases l;exact F
  .rw[getElem?_set_ne (Ne.symm e),getElem?_map]at l;cases p:H[i]? with
   |none=>rw[p]at l;simp at l
   |some I =>
    rw[p]at l;simp at l;subst l;exact ObR.prune C v (fun A k=>r A (c.gbo i d A h k).1 fun E=>e (c.ijo i o d g A h q k E)) (c.ob i d I h p)
theorem Ext.modB{kp:Nat->Bool}{o:Nat}{g g1:Gh}(c:G[o]?=some g)(d:kp o=false){w':World}(f:w'.os=w.os)(m:Tp w w')(n:w'.output=w.output)(j:w.heap.size<=w'.heap.size)(l:∀i,i<w.heap.size->¬ own g i->w'.heap[i]?=w.heap[i]?)
  (p:∀b,own g1 b->own g b∨w.heap.size<=b):Ext kp K G w K (G.set o g1) w' where
 os:=f
 tape:=m
 output:=n
 size:=j
 k:=fun _ h=>h
 knew:=fun _ h=>.inl h
 glen:=by simp
 gown:=fun i q b a hb=>by
  by_cases e:i=o
  .subst e;rw[getElem?_set_self (List.getElem?_eq_some_iff.1 c).1]at a;cases a;exact(p b hb).imp (fun h=>⟨i,g,c,h⟩) id
  .rw[getElem?_set_ne (Ne.symm e)]at a;exact .inl ⟨i,q,a,hb⟩
 gsame:=fun i t hi r=>by rw[getElem?_set_ne (fun e=>by rw[<-e,d]at hi;cases hi)];exact r
 frame:=fun i hi s=>l i hi (s o g c)
theorem Qc(g o:Nat)(t:TypeId)(c:Nat×Nat):∀(q:List Value) (i:Nat) (a:Array Value) (w:World),w.heap[g]?=some (.cells a t c)->(∀j,o+i<=j->j<a.size->¬ (c.1<=j/\j<c.2))->o+i+q.length<=a.size->(∀v∈q,v.oneCell'=true) ->
  (storeCells ⟨g,o,none⟩ q i).run P w=.ok () (w.setRow g (ft a.toList (o+i) q).toArray)
 |[],i,a,w,h,_,k,_=>by
  have e:∀(l:List Value) (n:Nat),n<=l.length->ft l n []=l:=by
   intro l n;induction n generalizing l with
   |zero=>intro _;simp[ft]
   |succ n m=>intro d;cases l with
    |nil=>simp at d
    |cons x l=>simp only[ft];rw[m l (by simpa using d)]
  simp only[storeCells];rw[e a.toList _ (by simpa using k),Array.toArray_toList,setRow_self w g a t c h];rfl
 |v::b,i,a,w,h,B,k,r=>by
  have hi:o+i<a.size:=by simp at k;omega
  have f:w.cell? ⟨g,o+i,none⟩=some a[o+i]:=by simp[World.cell?,h,hi]
  have p:w.frozen? ⟨g,o+i,none⟩=false:=by
   have:=B (o+i) (Nat.le_refl _) hi;obtain⟨E,F⟩:=c;simp only[World.frozen?,h]at this|-;simpa using this
  have s:(store ((⟨g,o,none⟩:Addr).add i) v).run P w=.ok () (w.setRow g (a.setIfInBounds (o+i) v)):=by rw[mz,run_store P w _ v _ (r v (by simp)),f];simp[p,setCell_eq_setRow w g (o+i) a t c v h]
  have z:=setRow_heap w g a (a.setIfInBounds (o+i) v) t c h;have m:=Qc g o t c b (i+1) (a.setIfInBounds (o+i) v) (w.setRow g (a.setIfInBounds (o+i) v)) z (fun j r C=>B j (by omega) (by simpa using C)) (by simp at k|-;omega) (fun u D=>r u (by simp[D]));have A:∀(l:List Value) (n:Nat),n+(v::b).length<=l.length->ft (l.set n v) (n+1) b=ft l n (v::b):=by
   intro l n;induction n generalizing l with
   |zero=>intro d;cases l with
    |nil=>simp at d
    |cons y l=>simp[ft]
   |succ n m=>intro d;cases l with
    |nil=>simp at d
    |cons y l=>simp only[set_cons_succ,ft];rw[m l (by simp at d|-;omega)]
  simp only[storeCells,Sem.run_bind,s,Result.andThen_ok,m];rw[setRow_setRow,Array.toList_setIfInBounds,show o+(i+1)=(o+i)+1 by omega,A a.toList (o+i) (by simp at k|-;omega)]
theorem NO(g o:Nat)(t:TypeId)(c:Nat×Nat)(b:List Value)(i:Nat)(a:Array Value)(w:World)(d:w.heap[g]?=some (.cells a t c))(e:Free c a.size)(f:o+i+b.length<=a.size)(h:∀v∈b,v.oneCell'=true) :
  (storeCells ⟨g,o,none⟩ b i).run P w=.ok () (w.setRow g (ft a.toList (o+i) b).toArray):=Qc g o t c b i a w d (fun j _ k=>e.out j k) f h
theorem VR.one{h:Array Obj}{c:Value}{v:Va}(d:VR K h G c v)(m:v.isCell=true)(w:∀t,v≠.agg t):c.oneCell'=true:=by
 cases v with
 |p x =>
  cases x with
  |l q=>simp only[VR,DR]at d;rcases d with⟨⟨_,rfl⟩,_⟩|⟨_,_,_,_,_,_,_,_,rfl,_⟩ <;> rfl
  |b x=>simp only[VR,DR]at d;subst d;rfl
  |i k n=>simp only[VR,DR]at d;obtain⟨rfl,_⟩:=d;rfl
  |s x=>simp only[VR,DR]at d;obtain⟨rfl,_⟩:=d;rfl
  |a A=>simp[Va.isCell]at m
  |r x=>simp only[VR,DR]at d;obtain⟨rfl,h⟩:=d;exact h
 |nils=>simp only[VR]at d;subst d;rfl
 |full q=>simp only[VR]at d;obtain⟨_,a,rfl⟩:=d;rfl
 |rp z=>simp only[VR]at d;obtain⟨_,_,_,_,_,_,rfl,_⟩:=d;rfl
 |ptr o g=>simp only[VR]at d;obtain⟨_,_,_,_,rfl⟩:=d;rfl
 |cs o g=>simp only[VR]at d;obtain⟨_,_,_,_,rfl⟩:=d;rfl
 |el o u i g=>simp only[VR]at d;obtain⟨_,_,_,_,_,_,_,rfl⟩:=d;rfl
 |buf o=>simp only[VR]at d;obtain⟨_,_,rfl,_,_,_,e⟩:=d;rw[e];rfl
 |mp o=>simp only[VR]at d;obtain⟨_,_,_,_,rfl⟩:=d;rfl
 |np o=>simp only[VR]at d;rcases d with rfl|⟨_,_,_,_,rfl⟩ <;> rfl
 |sd o=>simp only[VR]at d;obtain⟨_,_,_,_,_,_,rfl⟩:=d;rfl
 |vw o u a n=>simp only[VR]at d;obtain⟨_,_,_,_,_,_,_,_,_,rfl,_⟩:=d;rfl
 |bufc o B=>simp only[VR]at d;obtain⟨_,_,_,_,_,e,rfl,_⟩:=d;rw[e];rfl
 |nv o i=>simp only[VR]at d;obtain⟨_,_,_,_,_,_,rfl⟩:=d;rfl
 |ne o u i j g=>simp only[VR]at d;obtain⟨_,_,_,_,_,_,rfl⟩:=d;rfl
 |fn f t=>simp only[VR]at d;obtain⟨_,rfl,_⟩:=d;rfl
 |agg cs=>exact absurd rfl (w cs)
 |tup t=>simp[Va.isCell]at m
 |nil=>simp only[VR]at d;subst d;rfl
 |cnd x y=>simp[Va.isCell]at m
 |raw x=>simp only[VR]at d;subst d;simpa [Va.isCell]using m
 |er b=>simp only[VR]at d;rcases d with⟨_,rfl⟩|⟨_,_,_,rfl⟩ <;> rfl
 |top=>simp[Va.isCell]at m
def uC:List Va->Prop
 |[]=>True
 |.agg _::_=>False
 |v::a=>v.isCell=true/\uC a
theorem HO{h:Array Obj}:∀{cs:List Value} {vs:List Va},VRs K h G cs vs->uC vs->∀c∈cs,c.oneCell'=true
 |cs,[],H,_=>by simp only[VRs]at H;subst H;simp
 |cs,v::vs,H,a=>by
  simp only[VRs]at H;obtain⟨c,e,rfl,f,g⟩:=H;have b:v.isCell=true/\(∀l,v≠.agg l)/\uC vs:=by cases v <;> simp only[uC]at a <;> first|exact⟨a.1,by simp,a.2⟩|exact a.elim
  intro i d;rcases mem_cons.1 d with rfl|j
  .exact f.one b.1 b.2.1
  .exact HO g b.2.2 i j
end
section
variable {P:Program} (w:World)
structure pb(P:Program)(w:World)(size:Nat)(x:Value)(m:Nat)(news:List Value):Prop where
 len:∀w',(Builtin.lenOf x).run P w'=.ok m w'
 cells:∀w',w'.heap=w.heap->(Builtin.firstCells size m x).run P w'=.ok news.toArray w'
 size:news.length=m*size
theorem PQ{t u ty e:TypeId}{i:TypeInfo}{z:Value}(p:P.underlying t=some (.slice e)){d:TypeDesc}(q:P.underlying u=some d)(r:(∃k,d=.slice k)∨d=.string)(hi:P.info? e=some i)(s:i.zero=some z)
  {c:Option Addr} {a b m:Nat} {x:Value} {f g:List Value} (v:pb P w i.size (.slice c a b) a f) (n:pb P w i.size x m g)
  (C:b<a+m) (y:a+m<=9223372036854775807) (o:Builtin.nextslicecap (a+m) b*i.bytes<=281474976710656) :
  (Builtin.append_ #[t,u] ty #[.slice c a b,x]).run P w =
   .ok (.slice (some ⟨w.heap.size,0,none⟩) (a+m) (grownCap w (a+m) b e))
    (w.drew.alloc (.cells (f.toArray++g.toArray++Builtin.zeroCells z.cells (grownCap w (a+m) b e-(a+m))) e)):=by
 have A:¬ (a+m<=b):=by omega
 have h:¬ (9223372036854775807<((a:Int)+(m:Int))):=by omega
 have j:¬ (281474976710656<Builtin.nextslicecap (a+m) b*i.bytes):=by omega
 have B:=n.cells w.drew rfl;have l:=v.cells w.drew rfl;rcases r with⟨k,rfl⟩|rfl;all_goals
  simp[Builtin.append_,run_underlying p,run_underlying q,sizeOf,typeInfo,zeroValue,hi,s,n.len,A,h,j,Question.forced,B,l,newRow,grownCap];congr 2;apply Array.ext';simp[append_assoc]
theorem R9{t u ty e:TypeId}{i:TypeInfo}(s:P.underlying t=some (.slice e)){d:TypeDesc}(v:P.underlying u=some d)(y:(∃k,d=.slice k)∨d=.string)(hi:P.info? e=some i)
  {g a c m:Nat} {x:Value} {f:Array Value} {o:Nat×Nat} {b:List Value} (p:w.heap[g]?=some (.cells f e o)) (q:∀j,a*i.size<=j->j<f.size->¬ (o.1<=j/\j<o.2)) (r:pb P w i.size x m b) (z:∀u∈b,u.oneCell'=true)
  (h:a+m<=c) (l:a*i.size+b.length<=f.size) :
  (Builtin.append_ #[t,u] ty #[.slice (some ⟨g,0,none⟩) a c,x]).run P w=.ok (.slice (some ⟨g,0,none⟩) (a+m) c) (w.setRow g (ft f.toList (a*i.size) b).toArray):=by
 have A:=r.cells w rfl;have n:=Qc (P:=P) g (a*i.size) e o b 0 f w p (by simpa using q) (by simpa using l) z;simp only[Nat.add_zero]at n;rcases y with⟨k,rfl⟩|rfl;all_goals
  simp[Builtin.append_,run_underlying s,run_underlying v,sizeOf,typeInfo,hi,r.len,h,A,mz,n]
theorem Ix{t u ty e:TypeId}{i:TypeInfo}(f:P.underlying t=some (.slice e)){d:TypeDesc}(g:P.underlying u=some d)(h:(∃k,d=.slice k)∨d=.string)(hi:P.info? e=some i)
  {x:Value} {b:List Value} (c:pb P w i.size x 0 b) (a:Option Addr) :
  (Builtin.append_ #[t,u] ty #[.slice a 0 0,x]).run P w=.ok (.slice a 0 0) w:=by
 have j:=c.cells w rfl;have l:b=[]:=by have:=c.size;simpa using this
 subst l;rcases h with⟨k,rfl⟩|rfl;all_goals
  cases a <;> simp[Builtin.append_,run_underlying f,run_underlying g,sizeOf,typeInfo,hi,c.len,j,storeCells]
end
theorem ui:∀(l:List Value) (n:Nat) (a:List Value),n+a.length<=l.length->ft l n a=l.take n++a++l.drop (n+a.length)
 |l,0,a,_=>by simp[ft]
 |x::l,n+1,a,h=>by
  simp only[ft];rw[ui l n a (by simp at h;omega)];simp[Nat.add_right_comm]
 |[],n+1,a,h=>by simp at h
section
variable {K:Nat->Prop} {G:List Gh} {H:List Ob} {w:World} {P:Program}
theorem mj(hKs:∀b,K b->b<w.heap.size){T:TypeId}{sz:Nat}{rows:List (List Dt)}{L:Option Nat}{B:Value}(M:∀b,L=some b->b<w.heap.size/\¬ K b)(ho:bufR K w.heap L B T sz rows)
  {t u ty:TypeId} {i:TypeInfo} {z:Value} (ht:P.underlying t=some (.slice T)) {d:TypeDesc} (hu:P.underlying u=some d) (hd:(∃k,d=.slice k)∨d=.string) (hi:P.info? T=some i) (hsz:i.size=sz) (hz:i.zero=some z) (hzs:z.cells.size=sz)
  {x:Value} {m:Nat} {g:List Value} (hx:pb P w i.size x m g) (h1:∀u∈g,u.oneCell'=true) {f:List (List Dt)} (hr:DRss K w.heap sz g f) (hm:f.length=m) (D:(rows++f).length<=eE) (hby:(rows++f).length*i.bytes<=140737488355328) :
  ∃N p U,(Builtin.append_ #[t,u] ty #[B,x]).run P w=.ok N p/\(∃a n c,N=.slice a n c)/\p.os=w.os/\Tp w p/\p.output=w.output/\w.heap.size<=p.heap.size /\
   (∀i,i<w.heap.size->L≠some i->p.heap[i]?=w.heap[i]?)/\(∀b,U=some b->b<p.heap.size/\(L=some b∨w.heap.size<=b))/\bufR K p.heap U N T sz (rows++f):=by
 subst hsz;subst hm;have V:rows.length+f.length<=9223372036854775807:=by simp only[length_append,eE]at D;omega
 have hlm:rows.length+f.length<=maxLen:=by simp only[maxLen];omega
 obtain⟨hlr,O,H,hh⟩:=ho;have E:=H.length;have I:=hx.size;have hK:∀b,K b->b<w.heap.size:=hKs
 -- where it grows
 have F:∀(J:Option Addr) (o:Nat),B=.slice J rows.length o->pb P w i.size B rows.length O->o<rows.length+f.length ->
   ∃N p U,(Builtin.append_ #[t,u] ty #[B,x]).run P w=.ok N p/\(∃a n c,N=.slice a n c)/\p.os=w.os/\Tp w p/\p.output=w.output/\w.heap.size<=p.heap.size /\
    (∀i,i<w.heap.size->L≠some i->p.heap[i]?=w.heap[i]?)/\(∀b,U=some b->b<p.heap.size/\(L=some b∨w.heap.size<=b))/\bufR K p.heap U N T i.size (rows++f):=by
  intro J o l A W;have q:=growslice_fits (bytes:=i.bytes) W (by simpa using hby);rw[l]at A;have G:=PQ (P:=P) w (ty:=ty) ht hu hd hi hz A hx W V q;have hge:=grownCap_ge w (rows.length+f.length) o T;have hcm:=grownCap_le_maxLen w (rows.length+f.length) o T hlm;refine⟨_,w.drew.alloc (.cells (O.toArray++g.toArray++Builtin.zeroCells z.cells (grownCap w (rows.length+f.length) o T-(rows.length+f.length))) T),some w.heap.size,by rw[l];exact G,⟨_,_,_,rfl⟩,rfl,⟨rfl,fun _=>Nat.le_succ _⟩,rfl,by simp,fun k hk _=>heap_alloc_old w.drew _ hk,fun b hb=>?_,?_⟩
  .cases hb;exact⟨by simp,.inr (Nat.le_refl _)⟩
  .refine⟨D,O++g,?_,.inr ⟨w.heap.size,_,_,(0,0),by rw[length_append],rfl,heap_alloc_new w.drew _,?_,by rw[length_append];exact hge,hcm,?_,?_⟩⟩
   .exact DRss.mono ⟨fun _ h=>h,fun b hb=>heap_alloc_old w.drew _ (hK b hb)⟩ _ _ _ (H.append hr)
   .exact .inl rfl
   .simp only[Array.size_append,size_toArray,size_zeroCells,hzs,E,I,<-Nat.add_mul];exact Nat.mul_le_mul_right _ (by omega)
   .simp only[Array.toList_append,append_assoc];rw[<-append_assoc];have:(O++g).length=(rows++f).length*i.size:=by rw[length_append,length_append,E,I,Nat.add_mul]
    rw[<-this];exact take_left
 rcases hh with⟨l,Q,C⟩|⟨b,o,r,fr,l,C,hb,X,hle,Y,Z,s⟩
 .obtain⟨ad,l⟩:=l;subst Q;have hx0:O=[]:=by simpa [DRss]using H
  subst hx0;rcases Nat.eq_zero_or_pos f.length with h0|hp
  .have Q:f=[]:=length_eq_zero_iff.1 h0;subst Q;refine⟨.slice ad 0 0,w,L,by rw[l];exact Ix (P:=P) w ht hu hd hi hx ad,⟨_,_,_,rfl⟩,rfl,⟨rfl,fun _=>Nat.le_refl _⟩,rfl,Nat.le_refl _,fun _ _ _=>rfl,fun b hb=>⟨(M b hb).1,.inl hb⟩,?_⟩;exact⟨by simp,[],by simp[DRss],.inl ⟨⟨ad,rfl⟩,rfl,C⟩⟩
  .have A:pb P w i.size B 0 []:=by
    rw[l];exact⟨fun _=>rfl,fun _ _=>by cases ad <;> simp[Builtin.firstCells,loadCells,loadCellsFrom],by simp⟩
   exact F ad 0 (by simpa using l) (by simpa using A) (by simpa using hp)
 .by_cases y:rows.length+f.length<=o
  .have q:rows.length*i.size+g.length<=r.size:=by rw[I,<-Nat.add_mul];exact Nat.le_trans (Nat.mul_le_mul_right _ y) Z
   have G:=R9 (P:=P) w (ty:=ty) ht hu hd hi hb (fun j _ S=>X.out j S) hx h1 y q;refine⟨_,w.setRow b (ft r.toList (rows.length*i.size) g).toArray,some b,by rw[l];exact G,⟨_,_,_,rfl⟩,rfl,⟨rfl,fun _=>Nat.le_refl _⟩,rfl,by simp,fun k _ hk=>setRow_other w b k _ (fun e=>hk (by rw[C,e])),fun b' R=>?_,?_⟩
   .cases R;exact⟨by rw[setRow_size];exact(M _ C).1,.inl C⟩
   .have hcl:(ft r.toList (rows.length*i.size) g).length=r.size:=by rw[Gw _ _ _ (by simpa using q)];simp
    refine⟨D,O++g,?_,.inr ⟨b,o,_,fr,by rw[length_append],rfl,setRow_heap w b r _ T fr hb,?_,by rw[length_append];exact y,Y,?_,?_⟩⟩
    .exact DRss.mono ⟨fun _ h=>h,fun b' R=>setRow_other w b b' _ (fun e=>(M b C).2 (e ▸ R))⟩ _ _ _ (H.append hr)
    .simp only[size_toArray,hcl];exact X
    .simp only[size_toArray,hcl];exact Z
    .simp only;have hl2:(r.toList.take (rows.length*i.size)++g).length=(rows++f).length*i.size:=by rw[s,length_append,length_append,E,I,Nat.add_mul]
     rw[ui _ _ _ (by simpa using q),<-hl2,take_left,s]
  .refine F (some ⟨b,0,none⟩) o l ?_ (by omega);rw[l];refine⟨fun _=>rfl,fun p hw'=>?_,E⟩;refine run_firstCells_some (P:=P) p i.size rows.length _ _ _ O E (fun j v S=>?_);rw[mz,cell_of_row p b (0+j) r T fr (by rw[hw'];exact hb),Nat.zero_add];rw[<-s,getElem?_take]at S;split at S
   .rw[<-Array.getElem?_toList];exact S
   .cases S
theorem FF(A:St K G H w){o:Nat}{T:TypeId}{sz:Nat}{rows:List (List Dt)}{g:Gh}(C:G[o]?=some g)(D:ObR K w.heap G g (.buf T sz rows))
  {t u ty:TypeId} {i:TypeInfo} {z:Value} (E:P.underlying t=some (.slice T)) {d:TypeDesc} (F:P.underlying u=some d) (I:(∃k,d=.slice k)∨d=.string) (hi:P.info? T=some i) (s:i.size=sz) (J:i.zero=some z) (v:z.cells.size=sz)
  {x:Value} {m:Nat} {j:List Value} (L:pb P w i.size x m j) (M:∀u∈j,u.oneCell'=true) {f:List (List Dt)} (N:DRss K w.heap sz j f) (hm:f.length=m) (q:(rows++f).length<=eE) (y:(rows++f).length*i.bytes<=140737488355328) :
  ∃p l r,(Builtin.append_ #[t,u] ty #[g.sv,x]).run P w=.ok p l/\r.sv=p/\(∃a n c,p=.slice a n c)/\l.os=w.os/\Tp w l/\l.output=w.output/\w.heap.size<=l.heap.size /\
   (∀i,i<w.heap.size->¬ own g i->l.heap[i]?=w.heap[i]?)/\(∀b,own r b->b<l.heap.size/\(own g b∨w.heap.size<=b))/\ObR K l.heap (G.set o r) r (.buf T sz (rows++f)):=by
 obtain⟨p,l,O,Q,R,S,U,V,W,X,B,Y⟩:=mj (P:=P) (w:=w) A.kb (fun b hb=>A.gb o g b C hb) D (t:=t) (u:=u) (ty:=ty) E F I hi s J v L M N hm q y;exact⟨p,l,⟨O,p,[]⟩,Q,rfl,R,S,U,V,W,fun i hi h=>X i hi fun e=>h (.inl e),fun b hb=>(by
  rcases hb with hb|⟨_,hb,_⟩
  .exact⟨(B b hb).1,(B b hb).2.imp .inl id⟩
  .cases hb),Y⟩
theorem tU(hS:St K G H w){o:Nat}{T:TypeId}{bs:List UInt8}{g:Gh}(hg:G[o]?=some g)(ho:ObR K w.heap G g (.sb T bs))
  {t u ty:TypeId} {i:TypeInfo} {z:Value} (Z:P.underlying t=some (.slice T)) {d:TypeDesc} (Q:P.underlying u=some d) (hd:(∃k,d=.slice k)∨d=.string) (hi:P.info? T=some i) (C:i.size=1) (hz:i.zero=some z) (hzs:z.cells.size=1)
  {x:Value} {f:List UInt8} (hx:pb P w i.size x f.length (f.map mx)) (D:(bs++f).length<=eE) (hby:(bs++f).length*i.bytes<=140737488355328) :
  ∃M p J,(Builtin.append_ #[t,u] ty #[g.sv,x]).run P w=.ok M p/\J.sv=M/\(∃a n c,M=.slice a n c)/\p.os=w.os/\Tp w p/\p.output=w.output/\w.heap.size<=p.heap.size /\
   (∀i,i<w.heap.size->¬ own g i->p.heap[i]?=w.heap[i]?)/\(∀b,own J b->b<p.heap.size/\(own g b∨w.heap.size<=b))/\ObR K p.heap (G.set o J) J (.sb T (bs++f)):=by
 have R:bs.length+f.length<=9223372036854775807:=by simp only[length_append,eE]at D;omega
 have hlm:bs.length+f.length<=maxLen:=by simp only[maxLen];omega
 have h1:∀u∈f.map mx,u.oneCell'=true:=by intro u Q;obtain⟨y,_,rfl⟩:=mem_map.1 Q;rfl
 obtain⟨hlr,hh⟩:=ho
 -- where it grows
 have E:∀(L:Option Addr) (l:Nat),g.sv=.slice L bs.length l->pb P w i.size g.sv bs.length (bs.map mx)->l<bs.length+f.length ->
   ∃M p J,(Builtin.append_ #[t,u] ty #[g.sv,x]).run P w=.ok M p/\J.sv=M/\(∃a n c,M=.slice a n c)/\p.os=w.os/\Tp w p/\p.output=w.output/\w.heap.size<=p.heap.size /\
    (∀i,i<w.heap.size->¬ own g i->p.heap[i]?=w.heap[i]?)/\(∀b,own J b->b<p.heap.size/\(own g b∨w.heap.size<=b))/\ObR K p.heap (G.set o J) J (.sb T (bs++f)):=by
  intro L l m B S;have q:=growslice_fits (bytes:=i.bytes) S (by simpa using hby);rw[m]at B;have F:=PQ (P:=P) w (ty:=ty) Z Q hd hi hz B hx S R q;have hge:=grownCap_ge w (bs.length+f.length) l T;have hcm:=grownCap_le_maxLen w (bs.length+f.length) l T hlm;refine⟨_,w.drew.alloc (.cells ((bs.map mx).toArray++(f.map mx).toArray++Builtin.zeroCells z.cells (grownCap w (bs.length+f.length) l T-(bs.length+f.length))) T),⟨some w.heap.size,.slice (some ⟨w.heap.size,0,none⟩) (bs.length+f.length) (grownCap w (bs.length+f.length) l T),[]⟩,by rw[m];exact F,rfl,⟨_,_,_,rfl⟩,rfl,⟨rfl,fun _=>Nat.le_succ _⟩,rfl,by simp,fun k hk _=>heap_alloc_old w.drew _ hk,fun b hb=>?_,?_⟩
  .obtain rfl:=yx hb;exact⟨by simp,.inr (Nat.le_refl _)⟩
  .refine⟨D,.inr ⟨w.heap.size,_,_,(0,0),by rw[length_append],rfl,heap_alloc_new w.drew _,.inl rfl,by rw[length_append];exact hge,by omega,hcm,?_,?_⟩⟩
   .simp only[Array.size_append,size_toArray,size_zeroCells,hzs,length_map];omega
   .simp only[Array.toList_append,append_assoc];rw[<-append_assoc,map_append];exact take_left' (by simp)
 rcases hh with⟨m,N,I⟩|⟨b,l,r,U,m,I,hb,V,hle,hc0,W,X,s⟩
 .subst N;rcases Nat.eq_zero_or_pos f.length with h0|hp
  .have N:f=[]:=length_eq_zero_iff.1 h0;subst N;refine⟨.slice none 0 0,w,g,by rw[m];exact Ix (P:=P) w Z Q hd hi hx none,m,⟨_,_,_,rfl⟩,rfl,⟨rfl,fun _=>Nat.le_refl _⟩,rfl,Nat.le_refl _,fun _ _ _=>rfl,fun b hb=>⟨(hS.gbo o g b hg hb).1,.inl hb⟩,?_⟩;exact⟨by simp,.inl ⟨m,rfl,I⟩⟩
  .have B:pb P w i.size g.sv 0 []:=by
    rw[m];exact⟨fun _=>rfl,fun _ _=>by simp[Builtin.firstCells],by simp⟩
   exact E none 0 (by simpa using m) (by simpa using B) (by simpa using hp)
 .by_cases A:bs.length+f.length<=l
  .have q:bs.length*i.size+(f.map mx).length<=r.size:=by rw[C,X];simpa using A
   have Y:∀j,bs.length*i.size<=j->j<r.size->¬ (U.1<=j/\j<U.2):=by
    intro j O _ ⟨h1,h2⟩;rw[C]at O;rcases V with h|⟨h,h'⟩ <;> omega
   have F:=R9 (P:=P) w (ty:=ty) Z Q hd hi hb Y hx h1 A q;refine⟨_,w.setRow b (ft r.toList (bs.length*i.size) (f.map mx)).toArray,⟨some b,.slice (some ⟨b,0,none⟩) (bs.length+f.length) l,[]⟩,by rw[m];exact F,rfl,⟨_,_,_,rfl⟩,rfl,⟨rfl,fun _=>Nat.le_refl _⟩,rfl,by simp,fun k _ hk=>setRow_other w b k _ (fun e=>hk (.inl (by rw[I,e]))),fun b' hb'=>?_,?_⟩
   .obtain rfl:=yx hb';exact⟨by rw[setRow_size];exact(hS.gb o g _ hg I).1,.inl (.inl I)⟩
   .have hcl:(ft r.toList (bs.length*i.size) (f.map mx)).length=r.size:=by rw[Gw _ _ _ (by simpa using q)];simp
    refine⟨D,.inr ⟨b,l,_,U,by rw[length_append],rfl,setRow_heap w b r _ T U hb,?_,by rw[length_append];exact A,hc0,W,?_,?_⟩⟩
    .rcases V with h|⟨h,h'⟩
     .exact .inl h
     .exact .inr ⟨h,by rw[length_append];omega⟩
    .simp only[size_toArray,hcl];exact X
    .simp only;have hl2:(r.toList.take (bs.length*i.size)++f.map mx).length=(bs++f).length:=by rw[C,Nat.mul_one,s];simp
     rw[ui _ _ _ (by simpa using q),<-hl2,take_left,C,Nat.mul_one,s,map_append]
  .refine E (some ⟨b,0,none⟩) l m ?_ (by omega);rw[m];refine⟨fun _=>rfl,fun p hw'=>?_,by rw[C];simp⟩;refine run_firstCells_some (P:=P) p i.size bs.length _ _ _ (bs.map mx) (by rw[C];simp) (fun j v O=>?_);rw[mz,cell_of_row p b (0+j) r T U (by rw[hw'];exact hb),Nat.zero_add];rw[<-s,getElem?_take]at O;split at O
   .rw[<-Array.getElem?_toList];exact O
   .cases O
end
structure Ev where
 v:Va
 E:ey
 H:List Ob
 ok:Prop
def fq:Ev:=⟨.top,[],[],False⟩
def fZ(f:Nat->Bool):ey->ey
 |[]=>[]
 |(k,v)::E=>(k,v.prune f)::fZ f E
def fF(f:Nat->Bool):List Ob->List Ob
 |[]=>[]
 |x::H=>x.prune f::fF f H
theorem pp(f:Nat->Bool):∀H:List Ob,fF f H=H.map (Ob.prune f)
 |[]=>rfl
 |x::H=>by simp[fF,pp f H]
theorem sH(f:Nat->Bool):∀(E:ey) (m:Nat),eR (fZ f E) m=(eR E m).prune f
 |[],m=>by simp[fZ,eR,Va.prune]
 |(k,v)::E,m=>by
  simp only[fZ,eR];split
  .rfl
  .exact sH f E m
def fe:List Va->Option (List Dt)
 |[]=>some []
 |.p d::l=>match fe l with
  |some a=>some (d::a)
  |none=>none
 |.nils::l=>match fe l with
  |some a=>some (.l []::a)
  |none=>none
 |.full b::l=>match fe l with
  |some a=>some (.l b::a)
  |none=>none
 |_::_=>none
def ib:List Dt->Nat->List Dt->List Dt
 |l,0,a=>a++l.drop a.length
 |x::l,n+1,a=>x::ib l n a
 |[],_+1,_=>[]
def BF(esz:Nat):List (List Dt)->List (Nat×Va)->Option (List (List Dt))
 |a,[]=>some a
 |a,(i,v)::b=>match fe (iD v)with
  |some c=>if v.isCell=true/\c.length=esz/\i<a.length then BF esz (a.set i c) b else none
  |none=>none
def xG(k:IntKind):List Value->Bool
 |[]=>true
 |.int a n::l=>decide (a=k)&&decide (n=0)&&xG k l
 |_::_=>false
def xz(P:Program)(a:Ti):Option (IntKind×Nat):=match a.kind with
 |.arr n e _ false=>match zB P e with
  |.int k=>bif decide (8<n)then some (k,n)else none
  |_=>none
 |_=>none
def Bw(P:Program)(E:ey)(H:List Ob)(t:TypeId):Ev:=match eB P t with
 |some a=>match xz P a with
  |some (k,n)=>⟨.ptr H.length 0,E,H++[.buf t 1 (List.replicate n [.i k 0])],xG k a.zero=true/\a.zero.length=n/\n<=eE⟩
  |none=>⟨.ptr H.length 0,E,H++[.cells t (a.zero.map cv)],pn a.zero⟩
 |none=>fq
def oL(E:ey)(H:List Ob)(t:TypeId)(x:Operand):Ev:=⟨.ptr H.length 0,E,H++[.cells t (iD (opnd E x))],opOk true E x/\(opnd E x).isCell=true⟩
def vS(P:Program)(e:TypeId)(n:Nat):Bool:=match zB P e with
 |.int .u8=>decide (3<n)
 |_=>false
def qq:Va->Bool
 |.agg _=>true
 |_=>false
def s4:Nat->List (Nat×Va)->Option (List Va)
 |_,[]=>some []
 |i,(j,v)::r=>bif decide (j=i)&&(v.isCell&&!qq v)then(match s4 (i+1) r with
  |some a=>some (v::a)
  |none=>none)else none
def Kf(P:Program)(t:TypeId):Bool:=match zB P t with
 |.ptr _=>true
 |_=>false
def ia(P:Program)(E:ey)(H:List Ob)(t:TypeId)(n:Nat)(ps:List (Nat×Operand)):Ev:=match zB P t with
 |.slice e a _ c=>match s4 0 (partsV E ps)with
  |some b=>⟨.cs H.length n,E,H++[.cells e b],partsOk true E ps/\c.length=a/\a=1/\0<n/\n*a<=16777216/\b.length=n⟩
  |none=>fq
 |_=>fq
def Ab(P:Program)(t:TypeId):Bool:=match zB P t with
 |.slice e _ _ _=>Kf P e
 |_=>false
def oJ(P:Program)(E:ey)(H:List Ob)(t:TypeId)(n:Nat)(ps:List (Nat×Operand)):Ev:=bif Ab P t then ia P E H t n ps else match zB P t with
 |.slice e a _ c=>match fe (c.map cv)with
  |some z=>match BF a (List.replicate n z) (partsV E ps)with
   |some b=>bif vS P e n then⟨.buf H.length,E,H++[.buf e a b],partsOk true E ps/\pn c/\c.length=a/\0<a/\n*a<=16777216/\n<=eE⟩else⟨.full b,E,H,partsOk true E ps/\pn c/\c.length=a/\0<a/\n*a<=16777216/\n<=eE⟩
   |none=>fq
  |none=>fq
 |_=>fq
def FO(sz:Nat)(row:List Dt)(a:Nat)(b:List Dt):List Dt:=bif a == 0&&b.length == sz then b else ib row a b
theorem RF:∀{row ds:List Dt},ds.length=row.length->ib row 0 ds=ds
 |[],[],_=>by simp[ib]
 |x::row,d::ds,h=>by
  have:=RF (row:=row) (ds:=ds) (by simpa using h);simp[ib]at this|-;first|exact this|simp_all
 |[],_::_,h=>by simp at h
 |_::_,[],h=>by simp at h
theorem Pg{sz:Nat}{row ds:List Dt}{off:Nat}(h:row.length=sz):FO sz row off ds=ib row off ds:=by
 unfold FO;cases a:(off == 0&&ds.length == sz)
 .rfl
 .simp only[Bool.and_eq_true,beq_iff_eq]at a;obtain⟨rfl,b⟩:=a;rw[RF (by omega)];rfl
def Bu(P:Program)(E:ey)(H:List Ob)(t:TypeId)(x y:Va):Ev:=match eB P t with
 |some f=>match x with
  |.ptr o a=>match eD H o with
   |.cells T g=>⟨.top,E,H.set o (.cells T (setR g a (iD y))),y.isCell=true/\uC (iD y)/\(iD y).length=f.size/\a+(iD y).length<=g.length⟩
   |_=>fq
  |.el o d i a=>match sC H o with
   |some (T,c,b,fx)=>match fe (iD y)with
    |some e=>⟨.top,E,H.set o (wc fx T c (b.set i (FO d (b.getD i []) a e))),y.isCell=true/\uC (iD y)/\e.length=f.size/\d=c/\i<b.length/\a+e.length<=d⟩
    |none=>fq
   |none=>fq
  |_=>fq
 |none=>fq
def hI(P:Program)(E:ey)(H:List Ob)(s d:TypeId)(o:Nat):Ev:=match zB P s,zB P d,eD H o with
 |.slice _ _ _ _,.slice e _ _ _,.buf _ _ a=>match zB P e with
  |.int .u8=>⟨.buf o,E,H,s=d/\0<a.length⟩
  |_=>fq
 |_,_,_=>fq
def BB(P:Program)(E:ey)(H:List Ob)(s d:TypeId)(x:Va):Ev:=match zB P s,zB P d,x with
 |.str,.slice e a _ _,.p (.s l)=>match zB P e with
  |.int .u8=>⟨.buf H.length,E,H++[.buf e 1 (bR l)],a=1⟩
  |_=>fq
 |_,_,_=>fq
def Bx(P:Program)(E:ey)(H:List Ob)(s d:TypeId)(x:Va):Ev:=match x with
 |.buf o=>hI P E H s d o
 |x=>BB P E H s d x
def hQ(P:Program)(E:ey)(H:List Ob)(t:TypeId)(l c:Va):Ev:=match zB P t with
 |.slice e a d b=>match fe (b.map cv),l,c with
  |some z,.p (.i _ n),.p (.i _ m)=>⟨.buf H.length,E,H++[.buf e a (List.replicate n.toNat z)],pn b/\b.length=a/\0<a/\0<=n/\n<=m/\m<=eE/\d<=512⟩
  |_,_,_=>fq
 |_=>fq
def FU(H:List Ob):Va->Option (List (List Dt))
 |.p (.s l)=>some (bR l)
 |x=>Cw H x
def uu(P:Program)(u:TypeId)(esz:Nat)(e:TypeId)(x:Va)(rows:List (List Dt)):Prop:=match x with
 |.p (.s _)=>zB P u=.str/\esz=1/\zB P e=.int .u8
 |_=>fh esz rows/\match zB P u with
  |.slice _ _ _ _=>True
  |_=>False
def iX:List (List Dt)->Nat->Prop
 |[],_=>True
 |_::_,n=>0<n
def Ce:Va->Bool
 |.full _=>true
 |_=>false
def Fr(P:Program)(e:TypeId)(x:Va):Bool:=match zB P e with
 |.int .i64=>Ce x
 |_=>false
def oQ(P:Program)(g:Nat->Bool)(E:ey)(H:List Ob)(t u:TypeId)(h x:Va):Ev:=match zB P t with
 |.slice e c d f=>match FU H x with
  |some a=>match h with
   |.buf o=>match eD H o with
    |.buf T i b=>⟨.buf o,fZ (· != o) E,(fF (· != o) H).set o (.buf T i (b++a)),g o=false/\T=e/\i=c/\f.length=c/\d<=512/\(b++a).length<=eE/\uu P u c e x a⟩
    |.sb T j=>⟨.buf o,fZ (· != o) E,(fF (· != o) H).set o (.sb T (j++gD a)),g o=false/\T=e/\c=1/\f.length=1/\d<=512/\(j++gD a).length<=eE/\fN a/\uu P u 1 e x a⟩
    |_=>fq
   |.nils=>⟨.buf H.length,E,H++[.buf e c a],g H.length=false/\f.length=c/\d<=512/\a.length<=eE/\uu P u c e x a⟩
   |.full b=>match Fr P e x with
    |true=>⟨.p (.l (b++a)),E,H,f.length=c/\d<=512/\(b++a).length<=eE/\fh c b/\iX b a.length/\uu P u c e x a⟩
    |false=>⟨.buf H.length,E,H++[.buf e c (b++a)],g H.length=false/\f.length=c/\d<=512/\(b++a).length<=eE/\fh c b/\iX b a.length/\uu P u c e x a⟩
   |_=>fq
  |none=>fq
 |_=>fq
def L8:Va->Bool
 |.agg _=>true
 |_=>false
def nF(P:Program)(E:ey)(H:List Ob)(t:TypeId):Ev:=match zB P t with
 |.map _ a=>⟨.mp H.length,E,H++[.mp (uD P a) []],True⟩
 |_=>fq
def jx(P:Program)(E:ey)(H:List Ob)(t:TypeId)(m k v:Va):Ev:=match zB P t,m,te k with
 |.map e _,.mp o,some d=>match eD H o with
  |.mp b c=>match fe (iD v)with
   |some a=>⟨.top,E,H.set o (.mp b (iH c d a)),jd (mC P e) c/\kQ (mC P e) d/\v.isCell=true/\L8 v=b/\(b=false->a.length=1)/\(iH c d a).length<=eE⟩
   |none=>fq
  |_=>fq
 |_,_,_=>fq
def oA(P:Program)(E:ey)(H:List Ob)(t _u:TypeId)(m k:Va):Ev:=match zB P t,m,te k with
 |.map b _,.mp o,some d=>match eD H o with
  |.mp c a=>⟨.top,E,H.set o (.mp c (iG a d)),jd (mC P b) a/\kQ (mC P b) d⟩
  |.mpb c a e f=>⟨.top,E,H.set o (.mpb c (iG a d) (oN a e d) f),jd (mC P b) a/\kQ (mC P b) d⟩
  |_=>fq
 |_,_,_=>fq
def Kb(H:List Ob):Va->Pv
 |.buf o=>match eD H o with
  |.sb _ _=>⟨.sd o,True⟩
  |_=>eC
 |_=>eC
def Qs(P:Program)(t T:TypeId):Bool:=match P.underlying t with
 |some (.pointer e)=>decide (e=T)&&decide (P.cellsOf T=1)
 |_=>false
def I8(P:Program)(H:List Ob)(t:TypeId):Va->Va->Pv
 |.sd o,.p (.i k n)=>match eD H o with
  |.sb T a=>⟨.p (.s a),Qs P t T=true/\k=.i64/\n=a.length⟩
  |_=>eC
 |_,_=>eC
def kP(P:Program)(a:Nat->Bool)(E:ey)(H:List Ob):Op->Ev
 |.alloc t=>Bw P E H t
 |.box t x=>oL E H t x
 |.buildSlice t n b=>oJ P E H t n b.toList
 |.store t x y=>let r:=Bu P E H t (opnd E x) (opnd E y);⟨r.v,r.E,r.H,opOk true E x/\opOk true E y/\r.ok⟩
 |.convert s d x=>let r:=Bx P E H s d (opnd E x);⟨r.v,r.E,r.H,opOk true E x/\r.ok⟩
 |.makeSlice t l c=>let r:=hQ P E H t (opnd E l) (opnd E c);⟨r.v,r.E,r.H,opOk true E l/\opOk true E c/\r.ok⟩
 |.call c=>match c.callee,c.args.toList,c.argTypes.toList with
  |.builtin .append,[x,y],[t,u]=>let r:=oQ P a E H t u (opnd E x) (opnd E y);⟨r.v,r.E,r.H,opOk true E x/\opOk true E y/\r.ok⟩
  |.builtin .unsafeSliceData,[x],_=>let r:=Kb H (opnd E x);⟨r.v,E,H,opOk true E x/\r.ok⟩
  |.builtin .unsafeString,[x,y],[t,_]=>let r:=I8 P H t (opnd E x) (opnd E y);⟨r.v,E,H,opOk true E x/\opOk true E y/\r.ok⟩
  |.builtin .delete,[x,y],[t,u]=>let r:=oA P E H t u (opnd E x) (opnd E y);⟨r.v,r.E,r.H,opOk true E x/\opOk true E y/\r.ok⟩
  |_,_,_=>fq
 |.makeMap t r=>match r with
  |none=>nF P E H t
  |some _=>fq
 |.mapUpdate t m k x=>let r:=jx P E H t (opnd E m) (opnd E k) (opnd E x);⟨r.v,r.E,r.H,opOk true E m/\opOk true E k/\opOk true E x/\r.ok⟩
 |.insert t m k x=>let r:=jx P E H t (opnd E m) (opnd E k) (opnd E x);⟨r.v,r.E,r.H,opOk true E m/\opOk true E k/\opOk true E x/\r.ok⟩
 |_=>fq
section
variable {K:Nat->Prop} {h:Array Obj} {G:List Gh}
theorem pj:∀{cs:List Value} {vs:List Va} {ds:List Dt},VRs K h G cs vs->fe vs=some ds->DRs K h cs ds
 |cs,[],ds,H,a=>by simp only[fe]at a;cases a;simpa [VRs,DRs]using H
 |cs,.p d::vs,ds,H,a=>by
  simp only[fe]at a;split at a
  .rename_i e f;cases a;simp only[VRs,VR]at H;obtain⟨c,b,rfl,g,i⟩:=H;simp only[DRs];exact⟨c,b,rfl,g,pj i f⟩
  .cases a
 |cs,.nils::vs,ds,H,a=>by
  simp only[fe]at a;split at a
  .rename_i e f;cases a;simp only[VRs,VR]at H;obtain⟨c,b,rfl,g,i⟩:=H;simp only[DRs,DR];exact⟨c,b,rfl,.inl ⟨⟨none,g⟩,trivial⟩,pj i f⟩
  .cases a
 |cs,.full j::vs,ds,H,a=>by
  simp only[fe]at a;split at a
  .rename_i e f;cases a;simp only[VRs,VR]at H;obtain⟨c,b,rfl,g,i⟩:=H;simp only[DRs];exact⟨c,b,rfl,g.1,pj i f⟩
  .cases a
 |cs,.rp _::_,_,_,a=>by simp[fe]at a
 |cs,.ptr _ _::_,_,_,a=>by simp[fe]at a
 |cs,.cs _ _::_,_,_,a=>by simp[fe]at a
 |cs,.el _ _ _ _::_,_,_,a=>by simp[fe]at a
 |cs,.buf _::_,_,_,a=>by simp[fe]at a
 |cs,.mp _::_,_,_,a=>by simp[fe]at a
 |cs,.np _::_,_,_,a=>by simp[fe]at a
 |cs,.sd _::_,_,_,a=>by simp[fe]at a
 |cs,.vw _ _ _ _::_,_,_,a=>by simp[fe]at a
 |cs,.bufc _ _::_,_,_,a=>by simp[fe]at a
 |cs,.fn _ _::_,_,_,a=>by simp[fe]at a
 |cs,.agg _::_,_,_,a=>by simp[fe]at a
 |cs,.tup _::_,_,_,a=>by simp[fe]at a
 |cs,.nil::_,_,_,a=>by simp[fe]at a
 |cs,.cnd _ _::_,_,_,a=>by simp[fe]at a
 |cs,.raw _::_,_,_,a=>by simp[fe]at a
 |cs,.er _::_,_,_,a=>by simp[fe]at a
 |cs,.top::_,_,_,a=>by simp[fe]at a
theorem DR.one{c:Value}{d:Dt}(a:DR K h c d):c.oneCell'=true:=VR.one (G:=[]) (v:=.p d) (by simpa only[VR]using a) (by cases d <;> first|rfl|(simp[DR]at a)) (by simp)
theorem DRs.ones:∀{cs:List Value} {a:List Dt},DRs K h cs a->∀c∈cs,c.oneCell'=true
 |cs,[],H=>by simp only[DRs]at H;subst H;simp
 |cs,d::a,H=>by
  simp only[DRs]at H;obtain⟨v,b,rfl,e,f⟩:=H;intro c g;rcases mem_cons.1 g with rfl|i
  .exact e.one
  .exact f.ones c i
theorem DRss.ones{sz:Nat}:∀{cs:List Value} {e:List (List Dt)},DRss K h sz cs e->∀c∈cs,c.oneCell'=true
 |cs,[],H=>by simp only[DRss]at H;subst H;simp
 |cs,r::e,H=>by
  simp only[DRss]at H;obtain⟨a,b,rfl,_,f,g⟩:=H;intro c i;rcases mem_append.1 i with d|d
  .exact f.ones c d
  .exact g.ones c d
theorem DRs.setR:∀{cs:List Value} {b:List Dt},DRs K h cs b->∀(n:Nat) {es:List Value} {a:List Dt},DRs K h es a->n+a.length<=b.length->DRs K h (ft cs n es) (ib b n a)
 |cs,b,H,0,es,a,e,_=>by
  simp only[ft,ib];rw[e.length];exact e.append (H.drop _)
 |cs,d::b,H,n+1,es,a,e,f=>by
  simp only[DRs]at H;obtain⟨c,g,rfl,i,j⟩:=H;simp only[ft,ib,DRs];exact⟨c,_,rfl,i,DRs.setR j n e (by simp at f;omega)⟩
 |cs,[],H,n+1,es,a,e,f=>by simp at f
theorem FZ{K:Nat->Prop}{h:Array Obj}{sz:Nat}:∀{d:List Value} {b:List (List Dt)},DRss K h sz d b->∀x∈b,x.length=sz
 |_,[],_,x,a=>by cases a
 |_,r::b,c,x,a=>by
  simp only[DRss]at c;obtain⟨_,_,_,e,_,f⟩:=c;rcases mem_cons.1 a with rfl|a
  .exact e
  .exact FZ f x a
theorem Sb:∀(l:List Dt) (n:Nat) (a:List Dt),n+a.length<=l.length->(ib l n a).length=l.length
 |l,0,a,h=>by simp[ib];omega
 |x::l,n+1,a,h=>by simp only[ib,length_cons]at *;rw[Sb l n a (by omega)]
 |[],n+1,a,h=>by simp at h
theorem DRss.set{sz:Nat}:∀{cs:List Value} {c:List (List Dt)},DRss K h sz cs c->∀(i off:Nat) {es:List Value} {d:List Dt},DRs K h es d->i<c.length->off+d.length<=sz ->
  DRss K h sz (ft cs (i*sz+off) es) (c.set i (ib (c.getD i []) off d))
 |cs,[],H,i,off,es,d,_,hi,_=>by simp at hi
 |cs,r::c,H,0,off,es,d,f,hi,p=>by
  simp only[DRss]at H;obtain⟨a,b,rfl,m,g,l⟩:=H;have n:=g.length;have j:=f.length;simp only[Nat.zero_mul,Nat.zero_add,set_cons_zero,getD_cons_zero,DRss];refine⟨ft a off es,b,?_,?_,g.setR off f (by omega),l⟩
  .rw[ui _ _ _ (by simp;omega),ui _ _ _ (by omega),take_append_of_le_length (by omega),drop_append_of_le_length (by omega)];simp
  .rw[Sb _ _ _ (by omega),m]
 |cs,r::c,H,i+1,off,es,d,f,hi,p=>by
  simp only[DRss]at H;obtain⟨a,b,rfl,m,g,l⟩:=H;have n:=g.length;have j:=f.length;have q:=DRss.set l i off f (by simpa using hi) p;have o:=l.length;have k:i*sz+off+es.length<=b.length:=by rw[o,j];have:(i+1)*sz<=c.length*sz:=Nat.mul_le_mul_right _ (by simp at hi;omega);rw[Nat.add_mul]at this;omega
  simp only[set_cons_succ,getD_cons_succ,DRss];refine⟨a,_,?_,m,g,q⟩;have e:(i+1)*sz+off=a.length+(i*sz+off):=by rw[Nat.add_mul];omega
  rw[e,ui _ _ _ (by simp;omega),ui _ _ _ k];rw[take_append,take_of_length_le (by omega),show a.length+(i*sz+off)-a.length=i*sz+off by omega];rw[drop_append,drop_eq_nil_of_le (by omega),show a.length+(i*sz+off)+es.length-a.length=i*sz+off+es.length by omega];simp
theorem DRss.replicate{z:List Dt}{a:List Value}(b:DRs K h a z):∀n:Nat,DRss K h z.length (List.replicate n a).flatten (List.replicate n z)
 |0=>by simp[DRss]
 |n+1=>by simp only[replicate_succ,DRss,flatten_cons];exact⟨a,_,rfl,trivial,b,DRss.replicate b n⟩
end
def gT(C:Cx)(o:Oper)(a:Act)(w:World)(v:Va)(E:ey)(H:List Ob):Prop :=
 ∃c b,((execOp a.eval o).run C.P w=.ok (.value c) b∨((execOp a.eval o).run C.P w=.ok .skip b/\c=undef))/\RelV C E H c v a b
theorem ue{P:Program}{s:Sem Value}{c:Value}{w w':World}(h:s.run P w=.ok c w'):(do pure (.value (<-s)):Sem Next).run P w=.ok (.value c) w':=by simp[h]
theorem MT{P:Program}{s:Sem Unit}{w w':World}(h:s.run P w=.ok () w'):(do s;pure .skip:Sem Next).run P w=.ok .skip w':=by simp[h]
theorem Mn.alloc{K:Nat->Prop}{w:World}(a:∀b,K b->b<w.heap.size)(o:Obj):Mn K K w.heap (w.alloc o).heap:=⟨fun _ h=>h,fun b hb=>heap_alloc_old w o (a b hb)⟩
theorem Free.zero(n:Nat):Free (0,0) n:=.inl rfl
section
variable {C:Cx} {E:ey} {H:List Ob} {a:Act} {w:World}
theorem Pl(k:Rel C E H a w){cs:List Value}{vs:List Va}{T:TypeId}(l:∀K G,ja K w.heap G a E->VRs K w.heap G cs vs) :
  RelV C E (H++[.cells T vs]) (.pointer (some ⟨w.heap.size,0,none⟩)) (.ptr H.length 0) a (w.alloc (.cells cs.toArray T)):=by
 obtain⟨K,G,n,c,h,p,q,r⟩:=k;have d:=l K G h;have i:=Mn.alloc c.kb (.cells cs.toArray T);have j:∀(o:Nat) (g:Gh),G[o]?=some g->(G++[⟨some w.heap.size,undef,[]⟩])[o]?=some g:=fun o g s=>Mg.push G _ o g rfl s;refine⟨K,G++[⟨some w.heap.size,undef,[]⟩],n.trans (Ext.push C.kp _ undef),c.push (x:=.cells T vs) ?_,fun m=>VR.grow i j _ _ (h m),p,q,fun o t=>?_,?_⟩
 .exact⟨w.heap.size,cs,rfl,heap_alloc_new w _,VRs.grow i j _ _ d⟩
 .obtain⟨e,b,f⟩:=r o t;exact⟨e,by rw[getElem?_append_left (List.getElem?_eq_some_iff.1 b).1];exact b,f⟩
 .simp only[VR];refine⟨⟨some w.heap.size,undef,[]⟩,w.heap.size,?_,rfl,rfl⟩;rw[<-c.len,getElem?_append_right (Nat.le_refl _)];simp
theorem Fy(c:Rel C E H a w)(o:Oper){t:TypeId}{x:Operand}(d:o.op=.box t x)(b:(oL E H t x).ok):gT C o a w (oL E H t x).v (oL E H t x).E (oL E H t x).H:=by
 obtain⟨e,f⟩:=b;refine⟨_,_,.inl (by simp[execOp,d,Instr.box,newVar,newRow];exact⟨rfl,rfl⟩),?_⟩;have:=Pl (T:=t) c (cs:=(a.eval x).cells.toList) (vs:=iD (opnd E x)) (fun K G g=>BJ (zG g rfl x e) f);simpa [oL]using this
theorem Sj{a:List Value}{sz:Nat}(c:a.length=sz):∀(n j:Nat),j<n*sz->(List.replicate n a).flatten[j]?=a[j % sz]?
 |0,j,h=>by simp at h
 |n+1,j,h=>by
  simp only[replicate_succ,flatten_cons];rcases Nat.lt_or_ge j sz with b|b
  .rw[getElem?_append_left (by omega),Nat.mod_eq_of_lt b]
  .rw[getElem?_append_right (by omega),c,Sj c n (j-sz) (by rw[Nat.add_mul]at h;omega),<-Nat.mod_eq_sub_mod b]
theorem HH{z:Array Value}{sz:Nat}(a:z.toList.length=sz)(d:0<sz)(n:Nat):(madeCells z (n*sz)).toList=(List.replicate n z.toList).flatten:=by
 apply ext_getElem?;intro j;rcases Nat.lt_or_ge j (n*sz)with h|h
 .rw[Sj a n j h];have c:j % sz<z.size:=by have:=Nat.mod_lt j d;simp at a;omega
  have b:z.size=sz:=by simpa using a
  simp only[madeCells,Array.toList_map,Array.toList_range,getElem?_map,getElem?_range h,Option.map_some,b,Array.getElem?_toList];rw[Array.getElem?_eq_getElem c,getElem!_pos z _ c]
 .rw[getElem?_eq_none (by simp[madeCells,h]),getElem?_eq_none]
  have:∀n:Nat,((List.replicate n z.toList).flatten).length=n*sz:=by
   intro n;induction n with
   |zero=>simp
   |succ n e=>rw[replicate_succ,flatten_cons,length_append,e,a,Nat.add_mul];omega
  rw[this];exact h
theorem PB{K:Nat->Prop}{h:Array Obj}{G:List Gh}{esz:Nat}:∀{d:List (Nat×Va)} {ps:List (Nat×Value)} {rows:List (List Dt)} {cs:Array Value} {r:List (List Dt)},
  BF esz rows d=some r->DRss K h esz cs.toList rows->(ps.map (·.1)=d.map (·.1))->(∀(j:Nat) (c:Value) (v:Va),(ps[j]?.map fun x=>x.2)=some c->(d[j]?.map fun x=>x.2)=some v->VR K h G c v) ->
  ∃e,Instr.fill (fun i=>some (i*esz,esz)) cs ps=some e/\DRss K h esz e.toList r/\r.length=rows.length
 |[],ps,rows,cs,r,f,p,l,_=>by
  simp only[BF]at f;cases f;cases ps with
  |nil=>exact⟨cs,rfl,p,rfl⟩
  |cons a b=>simp at l
 |(i,v)::d,ps,rows,cs,r,f,p,l,B=>by
  cases ps with
  |nil=>simp at l
  |cons a ps =>
   obtain⟨g,c⟩:=a;simp only[map_cons,List.cons.injEq]at l;obtain⟨rfl,l⟩:=l;simp only[BF]at f;split at f;rotate_left
   .cases f
   rename_i ds w;split at f;rotate_left
   .cases f
   rename_i m;obtain⟨n,q,hi⟩:=m;have y:=BJ (B 0 c v rfl rfl) n;have s:=pj y w;have t:=s.length;have u:=p.length;simp only[Array.length_toList]at t u;obtain⟨_,C⟩:=p.get g hi;have D:g*esz+c.cells.size<=cs.size:=by rw[u,t,q];have:(g+1)*esz<=rows.length*esz:=Nat.mul_le_mul_right _ hi;rw[Nat.add_mul]at this;omega
   have k:=p.set g 0 s hi (by omega);have he:ib (rows.getD g []) 0 ds=ds:=by simp only[ib];rw[drop_eq_nil_of_le (by omega)];simp
   rw[he,Nat.add_zero]at k;have o:DRss K h esz (c.cells.zipIdx.foldl (fun cs (c,j)=>cs.setIfInBounds (g*esz+j) c) cs).toList (rows.set g ds):=by have z:=O1 (g*esz) c.cells.toList 0 cs (by simp;omega);rw[<-Array.foldl_toList,Array.toList_zipIdx,z];exact k
   obtain⟨e,z,E,F⟩:=PB f o l (fun j c v H A=>B (j+1) c v (by simpa using H) (by simpa using A));refine⟨e,?_,E,by simpa using F⟩;simp only[Instr.fill];rw[if_neg (by simp;omega)];exact z
end
section
variable {C:Cx} {E:ey} {H:List Ob} {a:Act} {w:World}
theorem BS(w:World)(g:Nat)(cs:Array Value):∀i,i≠g->(w.setRow g cs).heap[i]?=w.heap[i]?:=fun i h=>setRow_other w g i cs h
theorem vj(hR:Rel C E H a w)(o:Oper){t:TypeId}{x y:Operand}(ho:o.op=.store t x y)(hx:opOk true E x)(hy:opOk true E y)(c:(Bu C.P E H t (opnd E x) (opnd E y)).ok) :
  gT C o a w (Bu C.P E H t (opnd E x) (opnd E y)).v (Bu C.P E H t (opnd E x) (opnd E y)).E (Bu C.P E H t (opnd E x) (opnd E y)).H:=by
 obtain⟨K,G,hX,M,hE,hd,hn,Q⟩:=hR;have r:=zG hE rfl x hx;have X:=zG hE rfl y hy;unfold Bu at c|-;split at c;rotate_left
 .exact c.elim
 rename_i ti ht;split at c
 .rename_i W f R;split at c;rotate_left
  .exact c.elim
  rename_i T vs I;obtain⟨k,z,hsz,N⟩:=c;rw[R]at r;simp only[VR]at r;obtain⟨g,b,A,d,S⟩:=r;obtain⟨j,cs,Y,hb,Z⟩:=M.ob W g _ A (zu I (by simp));obtain rfl:j=b:=by rw[d]at Y;exact(Option.some.inj Y).symm
  have s:=BJ X k;have J:=s.length;have hvl:=Z.length;have U:=NO (P:=C.P) j f T (0,0) (a.eval y).cells.toList 0 cs.toArray w hb (Free.zero _) (by simp at J|-;omega) (HO s z);have l:¬ (a.eval y).cells.size≠ti.size:=by simp at J;omega
  have B:(Instr.storeAt t (a.eval x) (a.eval y)).run C.P w=.ok () (w.setRow j (ft cs (f+0) (a.eval y).cells.toList).toArray):=by simp only[S,Instr.storeAt,Instr.sureAddr,Sem.run_bind,Sem.run_pure,Result.andThen_ok,storeVar,run_sizeOf w ht,if_neg l];exact U
  refine⟨undef,_,.inr ⟨by obtain⟨dst,op,ty,pos,af,gd⟩:=o;cases ho;exact MT B,rfl⟩,?_⟩;have D:Mn K K w.heap (w.setRow j (ft cs (f+0) (a.eval y).cells.toList).toArray).heap:=⟨fun _ h=>h,fun i hi=>BS w j _ i fun e=>(M.gb W g j A d).2 (e ▸ hi)⟩;refine⟨K,G,hX.trans (Ext.modA C.kp A d rfl ⟨rfl,fun _=>Nat.le_refl _⟩ rfl (by simp) (BS w j _)),M.modA A d (by simp) (BS w j _) ?_,fun m=>VR.grow D (fun _ _ h=>h) _ _ (hE m),hd,hn,fun i hi=>?_,by simp only[VR]⟩
  .exact⟨j,_,d,setRow_heap w j _ _ T (0,0) hb,VRs.grow D (fun _ _ h=>h) _ _ (Z.setR f s N)⟩
  .by_cases e:i=W
   .subst e;have:i<H.length:=by rw[<-M.len];exact(List.getElem?_eq_some_iff.1 A).1
    exact⟨_,getElem?_set_self this,rfl⟩
   .obtain⟨L,h,F⟩:=Q i hi;exact⟨L,by rw[getElem?_set_ne (Ne.symm e)];exact h,F⟩
 .rename_i W sz i f R;split at c;rotate_left
  .exact c.elim
  rename_i T sz' p fx I;split at c;rotate_left
  .exact c.elim
  rename_i ds hds;obtain⟨k,z,hsz,rfl,hi,N⟩:=c;rw[R]at r;simp only[VR]at r;obtain⟨g,b,n,cap,A,d,hsv,S⟩:=r;obtain⟨hlim,xs,V,hh⟩:=M.bufOb I A;rcases hh with⟨_,_,h3⟩|⟨j,cap',u,fr,h1,h2,hb,hfr,h4,h5,h6,h7⟩
  .rw[d]at h3;cases h3
  obtain rfl:j=b:=by rw[d]at h2;exact(Option.some.inj h2).symm
  have s:=BJ X k;have hdd:=pj s hds;have J:=hdd.length;have Cc:=V.length;have q:i*sz+f+(a.eval y).cells.toList.length<=p.length*sz:=by have:(i+1)*sz<=p.length*sz:=Nat.mul_le_mul_right _ hi;rw[Nat.add_mul]at this;omega
  have hcur:p.length*sz<=u.size:=Nat.le_trans (Nat.mul_le_mul_right _ h4) h6;have U:=NO (P:=C.P) j (i*sz+f) T fr (a.eval y).cells.toList 0 u w hb hfr (by omega) (HO s z);have l:¬ (a.eval y).cells.size≠ti.size:=by simp at J;omega
  have B:(Instr.storeAt t (a.eval x) (a.eval y)).run C.P w=.ok () (w.setRow j (ft u.toList (i*sz+f+0) (a.eval y).cells.toList).toArray):=by simp only[S,Instr.storeAt,Instr.sureAddr,Sem.run_bind,Sem.run_pure,Result.andThen_ok,storeVar,run_sizeOf w ht,if_neg l];exact U
  refine⟨undef,_,.inr ⟨by obtain⟨dst,op,ty,pos,af,gd⟩:=o;cases ho;exact MT B,rfl⟩,?_⟩;have D:Mn K K w.heap (w.setRow j (ft u.toList (i*sz+f+0) (a.eval y).cells.toList).toArray).heap:=⟨fun _ h=>h,fun i hi=>BS w j _ i fun e=>(M.gb W g j A d).2 (e ▸ hi)⟩;refine⟨K,G,hX.trans (Ext.modA C.kp A d rfl ⟨rfl,fun _=>Nat.le_refl _⟩ rfl (by simp) (BS w j _)),M.modA A d (by simp) (BS w j _) ?_,fun m=>VR.grow D (fun _ _ h=>h) _ _ (hE m),hd,hn,fun i hi=>?_,by simp only[VR]⟩
  .have O:(ft u.toList (i*sz+f) (a.eval y).cells.toList).length=u.size:=by rw[Gw _ _ _ (by simp at q|-;omega)];simp
   have hrl:(p.getD i []).length=sz:=FZ V _ (by rw[getD_eq_getElem?_getD,getElem?_eq_getElem hi];exact getElem_mem hi);rw[lv];refine⟨by simpa using hlim,_,DRss.mono D _ _ _ (by rw[Pg hrl];exact V.set i f hdd hi (by omega)),.inr ⟨j,cap',_,fr,by rw[length_set];exact h1,d,setRow_heap w j _ _ T fr hb,?_,by rw[length_set];exact h4,h5,?_,?_⟩⟩
   .simp only[Nat.add_zero,size_toArray,O];exact hfr
   .simp only[Nat.add_zero,size_toArray,O];exact h6
   .simp only[Nat.add_zero,length_set];rw[<-h7,ui _ _ _ (by simp at q|-;omega),ui _ _ _ (by simp at q hcur|-;omega)];simp only[Array.length_toList];rw[take_append,take_of_length_le (by simp;omega)];simp only[length_append,length_take,Array.length_toList];rw[take_take,drop_take];congr 1
    .rw[Nat.min_eq_left (by omega)]
    .congr 1;simp at q;omega
  .by_cases e:i=W
   .subst e;obtain⟨L,h,F⟩:=Q i hi;rw[Pw I]at h;cases h;refine⟨_,getElem?_set_self (by rw[<-M.len];exact(List.getElem?_eq_some_iff.1 A).1),?_⟩;cases fx
    .cases F
    .rfl
   .obtain⟨L,h,F⟩:=Q i hi;exact⟨L,by rw[getElem?_set_ne (Ne.symm e)];exact h,F⟩
 .exact c.elim
theorem Hw{K:Nat->Prop}{G:List Gh}(p:Ext C.kp C.K0 C.G0 C.w0 K G w)(d:St K G H w)(D:ja K w.heap G a E)(F:a.defers=[])(r:a.tmps.size=C.n)(I:gg C.kp H){w1:World}(f:w1=w∨w1=w.drew){cs:Array Value}{T:TypeId}{q:Nat×Nat}{sz n cap:Nat}{rows:List (List Dt)}{xs:List Value}
  (J:DRss K w.heap sz xs rows) (L:rows.length=n) (j:n<=eE) (s:Free q cs.size) (t:n<=cap) (k:cap<=maxLen) (u:cs.size=cap*sz) (i:cs.toList.take (n*sz)=xs) :
  RelV C E (H++[.buf T sz rows]) (.slice (some ⟨w.heap.size,0,none⟩) n cap) (.buf H.length) a (w1.alloc (.cells cs T q)):=by
 subst L;have v:St K G H w1:=by
  rcases f with rfl|rfl
  .exact d
  .exact⟨d.len,d.kb,d.gbo,d.ijo,d.ob,d.tb⟩
 have l:w1.heap=w.heap:=by rcases f with rfl|rfl <;> rfl
 have y:Ext C.kp C.K0 C.G0 C.w0 K G w1:=by
  rcases f with rfl|rfl
  .exact p
  .exact { p with tape:=⟨p.tape.1,fun m=>Nat.le_succ_of_le (p.tape.2 m)⟩ }
 have c:w1.heap.size=w.heap.size:=by rw[l]
 have B:Mn K K w.heap (w1.alloc (.cells cs T q)).heap:=⟨fun _ h=>h,fun b hb=>by rw[heap_alloc_old w1 _ (by rw[c];exact d.kb b hb),l]⟩;have M:∀(o:Nat) (g:Gh),G[o]?=some g->(G++[⟨some w1.heap.size,.slice (some ⟨w.heap.size,0,none⟩) rows.length cap,[]⟩])[o]?=some g:=fun o g N=>Mg.push G _ o g rfl N;refine⟨K,G++[⟨some w1.heap.size,.slice (some ⟨w.heap.size,0,none⟩) rows.length cap,[]⟩],y.trans (Ext.push C.kp _ _),v.push (x:=.buf T sz rows) ?_,fun m=>VR.grow B M _ _ (D m),F,r,fun o O=>?_,?_⟩
 .exact⟨j,xs,DRss.mono B _ _ _ J,.inr ⟨w.heap.size,cap,cs,q,rfl,by rw[c],by rw[<-c];exact heap_alloc_new w1 _,s,t,k,Nat.le_of_eq u.symm,i⟩⟩
 .obtain⟨z,e,A⟩:=I o O;exact⟨z,by rw[getElem?_append_left (List.getElem?_eq_some_iff.1 e).1];exact e,A⟩
 .simp only[VR];refine⟨⟨some w1.heap.size,.slice (some ⟨w.heap.size,0,none⟩) rows.length cap,[]⟩,?_,rfl,_,_,_,rfl⟩;rw[<-d.len,getElem?_append_right (Nat.le_refl _)];simp
set_option linter.unusedVariables false in
theorem vM{K:Nat->Prop}{G:List Gh}(q:Ext C.kp C.K0 C.G0 C.w0 K G w)(e:St K G H w)(B:ja K w.heap G a E)(D:a.defers=[])(t:a.tmps.size=C.n)(F:gg C.kp H){w1:World}(f:w1=w∨w1=w.drew){cs:Array Value}{T:TypeId}{r:Nat×Nat}{sz n c:Nat}{rows:List (List Dt)}{xs:List Value}
  (I:DRss K w.heap sz xs rows) (J:rows.length=n) (i:n<=eE) (L:Free r cs.size) (u:n<=c) (z:c<=maxLen) (M:cs.size=c*sz) (g:cs.toList.take (n*sz)=xs) :
  RelV C E H (.slice (some ⟨w.heap.size,0,none⟩) n c) (.p (.l rows)) a (w1.alloc (.cells cs T r)):=by
 subst J;have x:St K G H w1:=by
  rcases f with rfl|rfl
  .exact e
  .exact⟨e.len,e.kb,e.gbo,e.ijo,e.ob,e.tb⟩
 have k:w1.heap=w.heap:=by rcases f with rfl|rfl <;> rfl
 have y:Ext C.kp C.K0 C.G0 C.w0 K G w1:=by
  rcases f with rfl|rfl
  .exact q
  .exact { q with tape:=⟨q.tape.1,fun m=>Nat.le_succ_of_le (q.tape.2 m)⟩ }
 have d:w1.heap.size=w.heap.size:=by rw[k]
 have A:Mn K (fun b=>K b∨b=w1.heap.size) w.heap (w1.alloc (.cells cs T r)).heap:=⟨fun _ h=>.inl h,fun b hb=>by rw[heap_alloc_old w1 _ (by rw[d];exact e.kb b hb),k]⟩;refine⟨fun b=>K b∨b=w1.heap.size,G,y.trans (Ext.pushK C.kp _),x.pushK _,fun m=>VR.grow A (fun _ _ h=>h) _ _ (B m),D,t,F,?_⟩;simp only[VR,DR];refine .inr ⟨w.heap.size,0,c,cs,T,r,sz,xs,rfl,.inr (by rw[d]),by rw[<-d];exact heap_alloc_new w1 _,u,i,fun j v s=>?_,DRss.mono A _ _ _ I⟩;rw[Nat.zero_add,<-Array.getElem?_toList];have o:=(List.getElem?_eq_some_iff.1 s).1;rw[<-g]at s o;rw[length_take]at o;rw[getElem?_take_of_lt (by omega)]at s;exact s
theorem kH{K:Nat->Prop}{h:Array Obj}{k:IntKind}:∀{b:List Value},xG k b=true->DRss K h 1 b (List.replicate b.length [.i k 0])
 |[],_=>by simp[DRss]
 |z::b,a=>by
  cases z <;> simp only[xG]at a <;> try (cases a)
  rename_i c n;simp only[Bool.and_eq_true,decide_eq_true_eq]at a;obtain⟨⟨rfl,rfl⟩,a⟩:=a;simp only[length_cons,replicate_succ,DRss];refine⟨[_],b,rfl,rfl,?_,kH a⟩;simp only[DRs,DR];exact⟨_,[],rfl,⟨rfl,dq c⟩,rfl⟩
theorem dO{T:TypeId}{sz n cap:Nat}{rows:List (List Dt)}{b o:Nat}(h:RelV C E H (.slice (some ⟨b,0,none⟩) n cap) (.buf o) a w)(p:H[o]?=some (.buf T sz rows))(y:0<n):RelV C E H (.pointer (some ⟨b,0,none⟩)) (.ptr o 0) a w:=by
 obtain⟨K,G,e,i,q,r,s,t,j⟩:=h;refine⟨K,G,e,i,q,r,s,t,?_⟩;simp only[VR]at j|-;obtain⟨g,k,d,_⟩:=j;obtain⟨l,z,u,v⟩:=i.ob _ g _ k p;rcases v with⟨⟨A,e⟩,_,_⟩|⟨B,m,x,D,c,f,_⟩
 .rw[<-d]at e;cases e;omega
 .rw[<-d]at c;cases c;exact⟨g,b,k,f,rfl⟩
theorem xF(g:Rel C E H a w)(o:Oper){t:TypeId}(l:o.op=.alloc t)(c:(Bw C.P E H t).ok):gT C o a w (Bw C.P E H t).v (Bw C.P E H t).E (Bw C.P E H t).H:=by
 unfold Bw at c|-;split at c;rotate_left
 .exact c.elim
 rename_i h m;obtain⟨z,p,d⟩:=Sy w m;refine⟨_,_,.inl (by simp[execOp,l,Instr.alloc,p,newVar,newRow];exact⟨rfl,rfl⟩),?_⟩;split at c
 .rename_i k n b;obtain⟨q,j,r⟩:=c;obtain⟨K,G,s,u,x,y,e,f⟩:=g
  have B:8<n:=by
   unfold xz at b;split at b
   .split at b
    .rename_i D;cases hb:decide (8<_) <;> rw[hb]at b <;> simp only[cond_true,cond_false]at b <;> cases b
     exact of_decide_eq_true hb
    .cases b
   .cases b
  have A:z.cells.size=n:=by rw[<-Array.length_toList,d,j]
  unfold eE at r;refine dO (n:=n) (cap:=n) (T:=t) (sz:=1) (rows:=List.replicate n [.i k 0]) ?_ (by simp) (by omega);refine Hw (w1:=w) s u x y e f (.inl rfl) (xs:=h.zero) ?_ (by simp) (by unfold eE;omega) (Free.zero _) (Nat.le_refl _) (by simp only[maxLen];omega) (by omega) (by rw[d];exact take_of_length_le (by omega));rw[<-j];exact kH q
 have:=Pl (T:=t) g (cs:=z.cells.toList) (vs:=h.zero.map cv) (fun K G _=>by rw[d];exact yz c);simpa using this
theorem tK(N:Rel C E H a w)(o:Oper){s d:TypeId}{x:Operand}(O:o.op=.convert s d x)(Q:opOk true E x)(c:(BB C.P E H s d (opnd E x)).ok) :
  gT C o a w (BB C.P E H s d (opnd E x)).v (BB C.P E H s d (opnd E x)).E (BB C.P E H s d (opnd E x)).H:=by
 have i:∀K G,ja K w.heap G a E->VR K w.heap G (a.eval x) (opnd E x):=fun K G h=>zG h rfl x Q;unfold BB at c|-;split at c;rotate_left
 .exact c.elim
 rename_i e j Y Z l k m n;split at c;rotate_left
 .exact c.elim
 rename_i p;obtain rfl:j=1:=c;obtain⟨R,q,r⟩:=zL k (by simp);obtain⟨S,t,u⟩:=zL m (by simp);obtain⟨T,y,z⟩:=zL p (by simp);obtain⟨K,G,U,V,h,W,A,B⟩:=N;have D:=i K G h;rw[n]at D;simp only[VR,DR]at D;obtain⟨F,f⟩:=D;have g:=run_bytes_of_string (P:=C.P) w s d e ⟨l.toArray⟩ (Cv q r) (jh t u).1 (iM y z);have I:(⟨l.toArray⟩:ByteArray).size=l.length:=by simp[ByteArray.size]
 rw[I]at g;have J:=grownCap_ge w l.length 0 e;have L:=grownCap_le_maxLen w l.length 0 e (by simp only[maxLen];unfold eE at f;omega);have M:(bytesRow ⟨l.toArray⟩ (grownCap w l.length 0 e)).size=grownCap w l.length 0 e:=by simp[bytesRow,ByteArray.size];omega
 refine⟨_,_,.inl (by obtain⟨X,op,ty,pos,af,gd⟩:=o;cases O;exact ue (by rw[F];exact g)),?_⟩;refine Hw (w1:=w.drew) U V h W A B (.inr rfl) (xs:=l.map fun b=>Value.int .u8 b.toNat) (DRss.bytes l) (tS l) f ?_ J L (by rw[M];omega) ?_
 .right;simp only;omega
 .simp only[bytesRow,Nat.mul_one,Array.toList_append,Array.toList_map];rw[take_append_of_le_length (by simp)];exact take_of_length_le (by simp)
theorem oa{a:Nat×Nat}{n:Nat}(h:Free a n):Free (if a.1 == a.2 then(n,n+1)else(min a.1 n,max a.2 (n+1))) n:=by
 by_cases e:a.1=a.2
 .simp[e,Free]
 .rcases h with h|h
  .exact absurd h e
  .have:(a.1 == a.2)=false:=by simpa using e
   rw[this];simp only[Bool.false_eq_true,if_false,Free];right;omega
theorem y5(hR:Rel C E H a w)(o:Oper){s d:TypeId}{x:Operand}{n:Nat}(ho:o.op=.convert s d x)(hx:opOk true E x)(M:opnd E x=.buf n)(f:(hI C.P E H s d n).ok) :
  gT C o a w (hI C.P E H s d n).v (hI C.P E H s d n).E (hI C.P E H s d n).H:=by
 obtain⟨K,G,hX,N,hE,hd,hn,O⟩:=hR;have k:=zG hE rfl x hx;rw[M]at k;unfold hI at f|-;split at f;rotate_left
 .exact f.elim
 rename_i e1 s1 b1 z1 e esz eb ez T sz p hks Q R;split at f;rotate_left
 .exact f.elim
 rename_i S;obtain⟨rfl,u⟩:=f;obtain⟨ti2,U,V⟩:=zL Q (by simp);obtain⟨ti3,W,X⟩:=zL S (by simp);have Y:=(jh U V).1;have Z:=iM W X;have y:=k;simp only[VR]at k;obtain⟨g,L,hax,ad,m,cp,hsv0⟩:=k;have q:=zu R (by simp);obtain⟨z,xs,hxs,hh⟩:=N.ob n g _ L q;rcases hh with⟨_,h,_⟩|⟨b,cap,c,A,B,l,hb,hfr,h4,h5,h6,h7⟩
 .subst h;simp at u
 have hsh:w.shape? b=some (T,c.size):=by simp[World.shape?,hb]
 have hb':(w.freeze ⟨b,c.size,none⟩ 1).heap[b]?=some (.cells c T (if A.1 == A.2 then(c.size,c.size+1)else(min A.1 c.size,max A.2 (c.size+1)))):=by obtain⟨f1,f2⟩:=A;simp[World.freeze,Array.getElem?_modify,hb]
 have j:∀i,i≠b->(w.freeze ⟨b,c.size,none⟩ 1).heap[i]?=w.heap[i]?:=by intro i hi;simp[World.freeze,Array.getElem?_modify,Ne.symm hi]
 have D:(w.freeze ⟨b,c.size,none⟩ 1).heap.size=w.heap.size:=by simp[World.freeze]
 have r:(w.freeze ⟨b,c.size,none⟩ 1).os=w.os/\Tp w (w.freeze ⟨b,c.size,none⟩ 1)/\(w.freeze ⟨b,c.size,none⟩ 1).output=w.output:=by simp[World.freeze,Tp]
 have t:Mn K K w.heap (w.freeze ⟨b,c.size,none⟩ 1).heap:=⟨fun _ h=>h,fun i hi=>j i fun e=>(N.gb n g b L l).2 (e ▸ hi)⟩;have F:H.set n (.buf T sz p)=H:=by obtain⟨hl,he⟩:=List.getElem?_eq_some_iff.1 q;rw[<-he];exact set_getElem_self hl
 have I:=N.modA (x:=.buf T sz p) L l D j ⟨z,xs,DRss.mono t _ _ _ hxs,.inr ⟨b,cap,c,_,B,l,hb',oa hfr,h4,h5,h6,h7⟩⟩;rw[F]at I;have J:(convert s s (a.eval x)).run C.P w=.ok (a.eval x) (w.freeze ⟨b,c.size,none⟩ 1):=by rw[hax,B];simp[convert,run_underlying Y,run_underlying Z,markStringish,hsh]
 refine⟨a.eval x,w.freeze ⟨b,c.size,none⟩ 1,.inl (by obtain⟨dst,op,ty,pos,af,gd⟩:=o;cases ho;exact ue J),K,G,hX.trans (Ext.modA C.kp L l r.1 r.2.1 r.2.2 D j),I,fun m=>VR.grow t (fun _ _ h=>h) _ _ (hE m),hd,hn,O,VR.grow t (fun _ _ h=>h) _ _ y⟩
theorem xi(e:Rel C E H a w)(o:Oper){s d:TypeId}{x:Operand}(f:o.op=.convert s d x)(g:opOk true E x)(b:(Bx C.P E H s d (opnd E x)).ok) :
  gT C o a w (Bx C.P E H s d (opnd E x)).v (Bx C.P E H s d (opnd E x)).E (Bx C.P E H s d (opnd E x)).H:=by
 have h:=fun b=>tK (s:=s) (d:=d) e o f g b;cases c:opnd E x <;> simp only[c,Bx]at b h|- <;> first|exact h b|exact y5 e o f g c b
theorem Az(V:Rel C E H a w)(o:Oper){t:TypeId}{x y:Operand}(W:o.op=.makeSlice t x y)(X:opOk true E x)(Y:opOk true E y)(c:(hQ C.P E H t (opnd E x) (opnd E y)).ok) :
  gT C o a w (hQ C.P E H t (opnd E x) (opnd E y)).v (hQ C.P E H t (opnd E x) (opnd E y)).E (hQ C.P E H t (opnd E x) (opnd E y)).H:=by
 have s:∀K G,ja K w.heap G a E->VR K w.heap G (a.eval x) (opnd E x):=fun K G h=>zG h rfl x X;have u:∀K G,ja K w.heap G a E->VR K w.heap G (a.eval y) (opnd E y):=fun K G h=>zG h rfl y Y;unfold hQ at c|-;split at c;rotate_left
 .exact c.elim
 rename_i e esz Z ez hk;split at c;rotate_left
 .exact c.elim
 rename_i z kl n kc m hz A B;obtain⟨D,p,h0,F,I,J,heb⟩:=c;obtain⟨ti,ht,L⟩:=zL hk (by simp);obtain⟨hu,⟨i,q,M,N⟩,d⟩:=jh ht L;obtain⟨K,G,hX,hS,h,hd,O,Q⟩:=V;have R:=s K G h;have S:=u K G h;rw[A]at R;rw[B]at S;simp only[VR,DR]at R S;have T:∃j,i.zero=some j/\j.cells.toList=ez:=by unfold xR at d;rw[q]at d;simp at d;exact d
 obtain⟨j,U,k⟩:=T;unfold eE at J;have f:(i.bytes:Int)*m<=281474976710656:=by rw[N];have h1:(Z:Int)*m<=512*m:=Int.mul_le_mul_of_nonneg_right (by omega) (by omega);omega
 have g:=run_make (P:=C.P) w t e i j hu q U kl kc n m F I f (by omega);rw[M]at g;refine⟨_,_,.inl (by obtain⟨dst,op,ty,pos,af,gd⟩:=o;cases W;exact ue (by rw[R.1,S.1];exact g)),?_⟩;have l:=HH (z:=j.cells) (by rw[k];exact p) h0 m.toNat;have b:∀n:Nat,((List.replicate n j.cells.toList).flatten).length=n*esz:=by
  intro n;induction n with
  |zero=>simp
  |succ n ih=>rw[replicate_succ,flatten_cons,length_append,ih,k,p,Nat.add_mul];omega
 refine Hw (w1:=w) hX hS h hd O Q (.inl rfl) (xs:=(List.replicate n.toNat j.cells.toList).flatten) ?_ (by simp) (by unfold eE;omega) (Free.zero _) (by omega) (by simp only[maxLen];omega) (size_madeCells _ _) ?_
 .have r:DRs K w.heap ez z:=pj (yz (G:=G) D) hz;have hzl:=r.length;have:=DRss.replicate r n.toNat;rw[k]
  rwa [show z.length=esz by omega]at this
 .rw[l];have:m.toNat=n.toNat+(m.toNat-n.toNat):=by omega
  rw[this,<-replicate_append_replicate,flatten_append,take_append_of_le_length (by rw[b];exact Nat.le_refl _)];exact take_of_length_le (by rw[b];exact Nat.le_refl _)
theorem Rs{K:Nat->Prop}{h:Array Obj}{G:List Gh}:∀{d:List (Nat×Va)} {ps:List (Nat×Value)} {i:Nat} {cs:Array Value} {vs:List Va},
  s4 i d=some vs->(ps.map (·.1)=d.map (·.1))->(∀(j:Nat) (c:Value) (v:Va),(ps[j]?.map fun x=>x.2)=some c->(d[j]?.map fun x=>x.2)=some v->VR K h G c v)->i+vs.length=cs.size ->
  ∃g,Instr.fill (fun i=>some (i*1,1)) cs ps=some g/\∃o,g.toList=cs.toList.take i++o/\VRs K h G o vs
 |[],ps,i,cs,vs,f,m,_,p=>by
  simp only[s4]at f;cases f;cases ps with
  |nil=>exact⟨cs,rfl,[],by rw[append_nil,take_of_length_le (by simp at p;simp[p])],by simp only[VRs]⟩
  |cons a b=>simp at m
 |(j,v)::d,ps,i,cs,vs,f,m,w,p=>by
  cases ps with
  |nil=>simp at m
  |cons a ps =>
   obtain⟨q,c⟩:=a;simp only[map_cons,List.cons.injEq]at m;obtain⟨rfl,m⟩:=m;simp only[s4]at f;cases l:decide (q=i)&&(v.isCell&&!qq v)
   .rw[l]at f;cases f
   rw[l,cond_true]at f;simp only[Bool.and_eq_true,decide_eq_true_eq,Bool.not_eq_true']at l;obtain⟨rfl,n,r⟩:=l;split at f;rotate_left
   .cases f
   rename_i z s;cases f;simp only[length_cons]at p;have y:VR K h G c v:=w 0 c v rfl rfl;have A:c.oneCell'=true:=y.one n (fun H e=>by subst e;cases r);have t:c.cells=#[c]:=by cases c <;> first|rfl|cases A
   obtain⟨g,B,o,C,D⟩:=Rs (cs:=cs.setIfInBounds q c) s m (fun k c v E u=>w (k+1) c v (by simpa using E) (by simpa using u)) (by simp;omega);refine⟨g,?_,c::o,?_,?_⟩
   .simp only[Instr.fill,t];rw[if_neg (by simp;omega)];simpa using B
   .rw[C,Array.toList_setIfInBounds];have F:q<cs.toList.length:=by simp;omega
    rw[take_add_one,getElem?_set_self F,take_set_of_le (Nat.le_refl _)];simp
   .simp only[VRs];exact⟨c,o,rfl,y,D⟩
theorem Bf(hR:Rel C E H a w)(o:Oper){t:TypeId}{n:Nat}{ps:Array (Nat×Operand)}(ho:o.op=.buildSlice t n ps)(f:(ia C.P E H t n ps.toList).ok) :
  gT C o a w (ia C.P E H t n ps.toList).v (ia C.P E H t n ps.toList).E (ia C.P E H t n ps.toList).H:=by
 unfold ia at f|-;split at f;rotate_left
 .exact f.elim
 rename_i e c eb ez hk;split at f;rotate_left
 .exact f.elim
 rename_i vs F;obtain⟨I,hel,h,h0,hsm,J⟩:=f;obtain⟨ti,ht,m⟩:=zL hk (by simp);obtain⟨hu,⟨i,p,L,hi3⟩,k⟩:=jh ht m;have M:=hR;obtain⟨K,G,hX,hS,hE,hd,hn,hkp⟩:=hR;have N:∃l,(zeroValue e).run C.P w=.ok l w/\l.cells.toList=ez:=by unfold xR at k;rw[p]at k;simp at k;obtain⟨l,h,O⟩:=k;exact⟨l,by simp[zeroValue,typeInfo,p,h],O⟩
 obtain⟨l,Q,R⟩:=N;have s:(madeCells l.cells (n*c)).size=n:=by simp[madeCells,h]
 have u:∀q r,ja q w.heap r a E->∃d,Instr.fill (fun i=>some (i*c,c)) (madeCells l.cells (n*c)) (ps.map fun x=>(x.1,a.eval x.2)).toList=some d/\VRs q w.heap r d.toList vs:=by intro q r j;obtain⟨S,U⟩:=MN j rfl ps.toList I;obtain⟨d,e1,xs,e2,e3⟩:=Rs (cs:=madeCells l.cells (n*c)) (ps:=(ps.map fun x=>(x.1,a.eval x.2)).toList) F (by simpa using S) (by simpa using U) (by rw[s,J,Nat.zero_add]);refine⟨d,by subst h;exact e1,?_⟩;rw[e2,take_zero,nil_append];exact e3
 obtain⟨d,hf,hvv⟩:=u K G hE;have V:(sizeOf e).run C.P w=.ok c w:=mM (by simp[hD,p,L]);have y:¬ (n*c > 2^24):=by omega
 have z:(Instr.buildSlice t n (ps.map fun x=>(x.1,a.eval x.2))).run C.P w=.ok (.slice (some ⟨w.heap.size,0,none⟩) n n) (w.alloc (.cells d e)):=by
  have W:∀D:Array Value,D.toList=ez->(Array.range (n*c)).map (fun x=>D[x % D.size]!)=madeCells D (n*c):=fun _ _=>rfl;have X:¬ n*c=0:=by rw[h];omega
  simp only[Instr.buildSlice,run_underlying hu,V,Sem.run_bind,Result.andThen_ok,if_neg y,Sem.run_pure,if_neg X,Q,W _ R,hf,newRow,run_newObj];rfl
 refine⟨_,_,.inl (by obtain⟨dst,op,ty,pos,af,gd⟩:=o;cases ho;exact ue z),?_⟩;obtain⟨q,r,Y,Z,j,hd',hn',m,A⟩:=Pl (T:=e) M (cs:=d.toList) (vs:=vs) (fun q r j=>by
  obtain⟨cs2,B,hv2⟩:=u q r j;rw[hf]at B;cases B;exact hv2)
 refine⟨q,r,Y,by simpa using Z,by simpa using j,hd',hn',m,?_⟩;simp only[VR]at A|-;obtain⟨g,b,h1,h2,h3⟩:=A;refine⟨g,b,h1,h2,?_⟩;simp only[Value.pointer.injEq,Option.some.injEq,Addr.mk.injEq]at h3;rw[h3.1]
theorem Fx(hR:Rel C E H a w)(o:Oper){t:TypeId}{n:Nat}{ps:Array (Nat×Operand)}(ho:o.op=.buildSlice t n ps)(d:(oJ C.P E H t n ps.toList).ok) :
  gT C o a w (oJ C.P E H t n ps.toList).v (oJ C.P E H t n ps.toList).E (oJ C.P E H t n ps.toList).H:=by
 unfold oJ at d|-;cases l:Ab C.P t;rotate_left
 .rw[l,cond_true]at d;rw[cond_true];exact Bf hR o ho d
 rw[l,cond_false]at d;rw[cond_false];split at d;rotate_left
 .exact d.elim
 rename_i e c eb ez hk;split at d;rotate_left
 .exact d.elim
 rename_i z hz;split at d;rotate_left
 .exact d.elim
 rename_i F r;have I:partsOk true E ps.toList/\pn ez/\ez.length=c/\0<c/\n*c<=16777216/\n<=eE:=by cases hb:vS C.P e n <;> simpa only[hb,cond_true,cond_false]using d
 clear d;obtain⟨T,U,V,h0,hsm,p⟩:=I;obtain⟨ti,ht,W⟩:=zL hk (by simp);obtain⟨hu,⟨i,s,X,hi3⟩,k⟩:=jh ht W;obtain⟨K,G,hX,Y,Z,hd,hn,J⟩:=hR
 -- the zero
 have hzv:∃u,(zeroValue e).run C.P w=.ok u w/\u.cells.toList=ez:=by unfold xR at k;rw[s]at k;simp at k;obtain⟨u,hz1,hz2⟩:=k;exact⟨u,by simp[zeroValue,typeInfo,s,hz1],hz2⟩
 obtain⟨u,hzr,y⟩:=hzv;have L:DRs K w.heap ez z:=pj (yz (G:=G) U) hz;have hzl:=L.length;have M:DRss K w.heap c (madeCells u.cells (n*c)).toList (List.replicate n z):=by
  rw[HH (by rw[y];exact V) h0,y];have:=DRss.replicate L n
  rwa [show z.length=c by omega]at this
 obtain⟨hp1,hp2⟩:=MN Z rfl ps.toList T;obtain⟨g,hf,A,hrl⟩:=PB (ps:=(ps.map fun x=>(x.1,a.eval x.2)).toList) r M (by simpa using hp1) (by simpa using hp2);have N:(sizeOf e).run C.P w=.ok c w:=mM (by simp[hD,s,X]);have q:¬ (n*c > 2^24):=by omega
 have O:(Instr.buildSlice t n (ps.map fun x=>(x.1,a.eval x.2))).run C.P w=.ok (.slice (some ⟨w.heap.size,0,none⟩) n n) (w.alloc (.cells g e)):=by
  have hnz:∀S:Array Value,S.toList=ez->(Array.range (n*c)).map (fun x=>S[x % S.size]!)=madeCells S (n*c):=fun _ _=>rfl;by_cases B:n*c=0
  .have Q:(Array.range (n*c)).map (fun x=>(#[]:Array Value)[x % (#[]:Array Value).size]!)=madeCells u.cells (n*c):=by rw[B];apply Array.ext';simp[madeCells]
   simp only[Instr.buildSlice,run_underlying hu,N,Sem.run_bind,Result.andThen_ok,if_neg q,Sem.run_pure,if_pos B,Q,hf,newRow,run_newObj];rfl
  .simp only[Instr.buildSlice,run_underlying hu,N,Sem.run_bind,Result.andThen_ok,if_neg q,Sem.run_pure,if_neg B,hzr,hnz _ y,hf,newRow,run_newObj];rfl
 have f:F.length=n:=by simpa using hrl
 refine⟨_,_,.inl (by obtain⟨dst,op,ty,pos,af,gd⟩:=o;cases ho;exact ue O),?_⟩;cases hb:vS C.P e n;rotate_left
 .simp only[cond_true];have D:=A.length;simp only[Array.length_toList]at D;exact Hw (w1:=w) hX Y Z hd hn J (.inl rfl) (xs:=g.toList) A f p (Free.zero _) (Nat.le_refl _) (by simp only[maxLen];unfold eE at p;omega) (by rw[D,f]) (by rw[take_of_length_le];simp only[Array.length_toList];rw[D,f];exact Nat.le_refl _)
 simp only[cond_false];have R:Mn K (fun b=>K b∨b=w.heap.size) w.heap (w.alloc (.cells g e)).heap:=⟨fun _ h=>.inl h,fun b hb=>heap_alloc_old w _ (Y.kb b hb)⟩;refine⟨fun b=>K b∨b=w.heap.size,G,hX.trans (Ext.pushK C.kp _),Y.pushK _,fun m=>VR.grow R (fun _ _ h=>h) _ _ (Z m),hd,hn,J,?_⟩;simp only[VR,DR];refine⟨.inr ⟨w.heap.size,0,n,g,e,(0,0),c,g.toList,by rw[f],.inr rfl,heap_alloc_new w _,by omega,by omega,fun j v hj=>by rw[Nat.zero_add,<-Array.getElem?_toList];exact hj,DRss.mono R _ _ _ A⟩,some ⟨w.heap.size,0,none⟩,by rw[f]⟩
end
end Go.Vc
