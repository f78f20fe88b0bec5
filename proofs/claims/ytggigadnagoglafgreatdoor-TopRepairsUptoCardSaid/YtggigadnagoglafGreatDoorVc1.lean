/- An abstract machine for the model: what it computes on, its operations, the walk of a body, and that all of it is true of the model (part 1). -/
import Derived.ChangeKeysEq
import Derived.LaidEqlPtr
import Derived.Laws.StructEq
import Derived.Lib.Builder
import Derived.Lib.ConvBytes
import Derived.Lib.UnsafeStr
import Derived.MapKept
import Derived.WalkKit
import Derived.WideKeyRuns
set_option linter.unusedSectionVars false
open List
namespace Go.Vc

inductive Dt where
 |b (x:Bool)
 |i (k:IntKind) (n:Int)
 |s (x:List UInt8)
 |l (rows:List (List Dt))
 |a (ds:List Dt)
 |r (v:Value)

inductive Va where
 |p (x:Dt)
 |nils
 |full (rows:List (List Dt))
 |rp (row:List Dt)
 |ptr (o off:Nat)
 |el (o sz i off:Nat)
 |buf (o:Nat)
 |mp (o:Nat)
 |np (o:Nat)
 |sd (o:Nat)
 |vw (o sz a n:Nat)
 |bufc (o cp:Nat)
 |nv (o i:Nat)
 |ne (o sz i j off:Nat)
 |cs (o n:Nat)
 |fn (f:FuncId) (caps:List Va)
 |agg (cs:List Va)
 |tup (vs:List Va)
 |nil
 |cnd (c:Bool) (v:Va)
 |raw (v:Value)
 |er (nil:Bool)
 |top

def eh:Nat:=274877906944
theorem JK:eh=274877906944:=rfl

def lo:IntKind->Int
 |.i8=>-128|.i16=>-32768|.i32=>-2147483648|.i64=>-9223372036854775808|_=>0
def hi:IntKind->Int
 |.i8=>127|.i16=>32767|.i32=>2147483647|.i64=>9223372036854775807
 |.u8=>255|.u16=>65535|.u32=>4294967295|.u64=>18446744073709551615
def Fits(k:IntKind)(n:Int):Prop:=lo k<=n/\n<=hi k

structure Gh where
 blk:Option Nat
 sv:Value
 inn:List Value
def hJ:Value->Option Nat
 |.slice (some ⟨b,_,_⟩) _ (_+1)=>some b
 |_=>none
def own(g:Gh)(b:Nat):Prop:=g.blk=some b∨∃v∈g.inn,hJ v=some b

mutual
def DR(K:Nat->Prop)(h:Array Obj):Value->Dt->Prop
 |c,.b x=>c=.bool x
 |c,.i k n=>c=.int k n/\Fits k n
 |c,.s x=>c=.string ⟨x.toArray⟩/\x.length<=eh
 |c,.l rows=>((∃a,c=.slice a 0 0)/\rows=[]) ∨
   ∃b off cap cs T fr sz vs,c=.slice (some ⟨b,off,none⟩) rows.length cap/\K b/\h[b]?=some (.cells cs T fr) /\
    rows.length<=cap/\rows.length<=eh/\(∀j v,vs[j]?=some v->cs[off+j]?=some v)/\DRss K h sz vs rows
 |_,.a _=>False
 |c,.r v=>c=v/\v.oneCell'=true
def DRs(K:Nat->Prop)(h:Array Obj):List Value->List Dt->Prop
 |vs,[]=>vs=[]
 |vs,d::ds=>∃v vs',vs=v::vs'/\DR K h v d/\DRs K h vs' ds
def DRss(K:Nat->Prop)(h:Array Obj)(sz:Nat):List Value->List (List Dt)->Prop
 |vs,[]=>vs=[]
 |vs,r::rs=>∃a b,vs=a++b/\r.length=sz/\DRs K h a r/\DRss K h sz b rs
end

def G5(c:Value)(blk:Option Nat)(ad:Option Addr)(N cap sz a n:Nat):Prop :=
 a+n<=N/\∃ad' cap',c=.slice ad' n cap'/\n<=cap'/\a+cap'<=cap/\(0<cap'->∃b,blk=some b/\ad=some ⟨b,0,none⟩/\ad'=some ⟨b,a*sz,none⟩)
mutual
def VR(K:Nat->Prop)(h:Array Obj)(G:List Gh):Value->Va->Prop
 |c,.p x=>DR K h c x
 |c,.nils=>c=.slice none 0 0
 |c,.full rows=>DR K h c (.l rows)/\∃a,c=.slice a rows.length rows.length
 |c,.rp row=>∃b off cs T fr vs,c=.pointer (some ⟨b,off,none⟩)/\K b/\h[b]?=some (.cells cs T fr) /\
   (∀j v,vs[j]?=some v->cs[off+j]?=some v)/\DRs K h vs row
 |c,.ptr o off=>∃g b,G[o]?=some g/\g.blk=some b/\c=.pointer (some ⟨b,off,none⟩)
 |c,.cs o n=>∃g b,G[o]?=some g/\g.blk=some b/\c=.slice (some ⟨b,0,none⟩) n n
 |c,.el o sz i off=>∃g b n cap,G[o]?=some g/\g.blk=some b/\g.sv=.slice (some ⟨b,0,none⟩) n cap/\c=.pointer (some ⟨b,i*sz+off,none⟩)
 |c,.buf o=>∃g,G[o]?=some g/\c=g.sv/\∃a n cap,g.sv=.slice a n cap
 |c,.mp o=>∃g b,G[o]?=some g/\g.blk=some b/\c=.map (some b)
 |c,.np o=>c=.pointer none∨∃g b,G[o]?=some g/\g.blk=some b/\c=.pointer (some ⟨b,0,none⟩)
 |c,.sd o=>∃g a n cap,G[o]?=some g/\g.sv=.slice a n cap/\c=.pointer a
 |c,.bufc o cp=>∃g a n cap,G[o]?=some g/\g.sv=.slice a n cap/\c=g.sv/\cap=cp
 |c,.nv o i=>∃g a n cap,G[o]?=some g/\g.inn[i]?=some (.slice a n cap)/\c=.slice a n cap
 |c,.ne o sz i j off=>∃g b n cap,G[o]?=some g/\g.inn[i]?=some (.slice (some ⟨b,0,none⟩) n (cap+1))/\c=.pointer (some ⟨b,j*sz+off,none⟩)
 |c,.vw o sz a n=>∃g ad N cap,G[o]?=some g/\g.sv=.slice ad N cap/\G5 c g.blk ad N cap sz a n
 |c,.fn f caps=>∃cs,c=.func (.func f) #[] cs.toArray/\VRs K h G cs caps
 |c,.agg vs=>∃cs,c=.agg cs.toArray/\VRs K h G cs vs
 |c,.tup vs=>∃cs,c=.tuple cs.toArray/\VRs K h G cs vs
 |c,.nil=>c=.pointer none
 |c,.cnd t v=>(t=true->VR K h G c v)/\(t=false->c=undef)
 |c,.raw v=>c=v
 |c,.er b=>(b=true/\c=.nilIface)∨(b=false/\∃t v,c=.iface t v)
 |_,.top=>True
def VRs(K:Nat->Prop)(h:Array Obj)(G:List Gh):List Value->List Va->Prop
 |cs,[]=>cs=[]
 |cs,v::vs=>∃c cs',cs=c::cs'/\VR K h G c v/\VRs K h G cs' vs
end

inductive Ob where
 |cells (T:TypeId) (vs:List Va)
 |buf (T:TypeId) (sz:Nat) (rows:List (List Dt))
 |fx (T:TypeId) (sz:Nat) (rows:List (List Dt))
 |sb (T:TypeId) (bs:List UInt8)
 |mp (ag:Bool) (es:List (Dt×List Dt))
 |mpb (ag:Bool) (es:List (Dt×List Dt)) (bs:List Nat) (cl:Nat)
 |it (o cl:Nat) (seen:List Nat)
 |nst (fx:Bool) (T:TypeId) (sz k p:Nat) (rows:List (List Dt)) (st:Option Nat)
 |inn (T:TypeId) (sz:Nat) (ins:List (List (List Dt)))
 |gone
 |lost
def Ob.kept:Ob->Bool
 |.cells _ _=>true
 |.mp _ _=>true
 |.mpb _ _ _ _=>true
 |.fx _ _ _=>true
 |.nst f _ _ _ _ _ _=>f
 |.lost=>true
 |_=>false
def KR(K:Nat->Prop)(h:Array Obj)(c:Value):Dt->Prop
 |.a ds=>∃cs:List Value,c=.agg cs.toArray/\DRs K h cs ds
 |.b x=>DR K h c (.b x)
 |.i k x=>DR K h c (.i k x)
 |.s x=>DR K h c (.s x)
 |.l x=>DR K h c (.l x)
 |.r x=>DR K h c (.r x)
def MRs(K:Nat->Prop)(h:Array Obj)(ag:Bool):List MapEntry->List (Dt×List Dt)->Prop
 |[],[]=>True
 |e::es,p::ps=>KR K h e.key p.1/\(match ag with
   |true=>∃cs:List Value,e.val=.agg cs.toArray/\DRs K h cs p.2
   |false=>∃d,p.2=[d]/\DR K h e.val d)/\MRs K h ag es ps
 |_,_=>False

def Free(fr:Nat×Nat)(n:Nat):Prop:=fr.1=fr.2∨n<=fr.1
theorem Free.out{fr:Nat×Nat}{n:Nat}(h:Free fr n):∀i,i<n->¬ (fr.1<=i/\i<fr.2):=by
 intro i hi hh
 rcases h with h|h <;> omega

def nq(fr:Nat×Nat)(n:Nat):Prop:=fr.1=fr.2∨(fr.1=0/\fr.2<=n)
def nJ(b:UInt8):Value:=.int .u8 b.toNat

def bufR(K:Nat->Prop)(h:Array Obj)(bo:Option Nat)(sv:Value)(T:TypeId)(sz:Nat)(rows:List (List Dt)):Prop :=
 rows.length<=eh/\∃xs,DRss K h sz xs rows /\
   (((∃a,sv=.slice a 0 0)/\rows=[]/\bo=none) ∨
    ∃b cap cur fr,sv=.slice (some ⟨b,0,none⟩) rows.length cap/\bo=some b/\h[b]?=some (.cells cur T fr)/\Free fr cur.size /\
     rows.length<=cap/\cap<=maxLen/\cap*sz<=cur.size/\cur.toList.take (rows.length*sz)=xs)
def fy(k:Nat):List (List Dt)->List Value->List (List Dt)
 |r::rows,v::vs=>r.set k (.r v)::fy k rows vs
 |_,_=>[]
def FG(st:Option Nat)(vs inn:List Value):Prop:=vs.length=inn.length/\(∀j:Nat,st≠some j->vs[j]?=inn[j]?)/\∀v∈inn,∃a n c,v=.slice a n c

def ObR(K:Nat->Prop)(h:Array Obj)(G:List Gh)(g:Gh):Ob->Prop
 |.cells T vs=>∃b cs,g.blk=some b/\h[b]?=some (.cells cs.toArray T (0,0))/\VRs K h G cs vs
 |.buf T sz rows=>bufR K h g.blk g.sv T sz rows
 |.fx T sz rows=>bufR K h g.blk g.sv T sz rows
 |.sb T bs=>bs.length<=eh /\
   ((g.sv=.slice none 0 0/\bs=[]/\g.blk=none) ∨
    ∃b cap cur fr,g.sv=.slice (some ⟨b,0,none⟩) bs.length cap/\g.blk=some b/\h[b]?=some (.cells cur T fr)/\nq fr bs.length /\
     bs.length<=cap/\0<cap/\cap<=maxLen/\cur.size=cap/\cur.toList.take bs.length=bs.map nJ)
 |.mp ag es=>es.length<=eh/\∃b mes clock,g.blk=some b/\h[b]?=some (.map mes clock)/\MRs K h ag mes.toList es/\MapKept.Stamped mes clock
 |.mpb ag es bs cl=>es.length<=eh/\∃b mes,g.blk=some b/\h[b]?=some (.map mes cl)/\MRs K h ag mes.toList es/\MapKept.Stamped mes cl/\mes.toList.map (·.born)=bs
 |.it o cl seen=>∃b bm gm,g.blk=some b/\G[o]?=some gm/\gm.blk=some bm/\h[b]?=some (.mapIter (some bm) cl seen.toArray cl)
 |.nst _ T sz k p rows st=>rows.length<=eh/\k<sz/\∃gp vs,G[p]?=some gp/\vs.length=rows.length/\FG st vs gp.inn/\bufR K h g.blk g.sv T sz (fy k rows vs)
 |.inn T sz ins=>g.blk=none/\g.inn.length=ins.length/\(∀(j:Nat) (v:Value) (rows:List (List Dt)),g.inn[j]?=some v->ins[j]?=some rows->bufR K h (hJ v) v T sz rows) /\
   ∀(i j:Nat) (v u:Value) (b:Nat),g.inn[i]?=some v->g.inn[j]?=some u->hJ v=some b->hJ u=some b->i=j
 |.gone=>True
 |.lost=>True

structure Mn(K K':Nat->Prop)(h h':Array Obj):Prop where
 k:∀b,K b->K' b
 h:∀b,K b->h'[b]?=h[b]?
def Mg(f:Nat->Bool)(G G':List Gh):Prop:=∀(o:Nat) (g:Gh),f o=true->G[o]?=some g->G'[o]?=some g
section
variable {K K':Nat->Prop} {h h':Array Obj}
mutual
theorem DR.mono(M:Mn K K' h h'):∀(c:Value) (d:Dt),DR K h c d->DR K' h' c d
 |_,.b _,H=>by simpa [DR]using H
 |_,.i _ _,H=>by simpa [DR]using H
 |_,.s _,H=>by simpa [DR]using H
 |_,.l rows,H=>by
  unfold DR at *
  rcases H with H|⟨b,off,cap,cs,T,fr,sz,vs,h1,h2,h3,h4,h5,h6,h7⟩
  .exact .inl H
  .exact .inr ⟨b,off,cap,cs,T,fr,sz,vs,h1,M.k b h2,(M.h b h2).trans h3,h4,h5,h6,DRss.mono M sz vs rows h7⟩
 |_,.a ds,H=>by simp[DR]at H
 |_,.r v,H=>by simpa [DR]using H
theorem DRs.mono(M:Mn K K' h h'):∀(vs:List Value) (ds:List Dt),DRs K h vs ds->DRs K' h' vs ds
 |_,[],H=>by simpa [DRs]using H
 |_,d::ds,H=>by
  unfold DRs at *;obtain⟨v,vs',h1,h2,h3⟩:=H;exact⟨v,vs',h1,DR.mono M v d h2,DRs.mono M vs' ds h3⟩
theorem DRss.mono(M:Mn K K' h h')(sz:Nat):∀(vs:List Value) (rs:List (List Dt)),DRss K h sz vs rs->DRss K' h' sz vs rs
 |_,[],H=>by simpa [DRss]using H
 |_,r::rs,H=>by
  unfold DRss at *;obtain⟨a,b,h1,h2,h3,h4⟩:=H;exact⟨a,b,h1,h2,DRs.mono M a r h3,DRss.mono M sz b rs h4⟩
end
end

section
variable {K K':Nat->Prop} {h h':Array Obj}
theorem KR.mono(M:Mn K K' h h'){c:Value}:∀{d:Dt},KR K h c d->KR K' h' c d
 |.a ds,⟨cs,h1,h2⟩=>⟨cs,h1,DRs.mono M cs ds h2⟩
 |.b _,H=>DR.mono M _ _ H
 |.i _ _,H=>DR.mono M _ _ H
 |.s _,H=>DR.mono M _ _ H
 |.l _,H=>DR.mono M _ _ H
 |.r _,H=>DR.mono M _ _ H
theorem MRs.mono(M:Mn K K' h h'){ag:Bool}:∀{mes:List MapEntry} {es:List (Dt×List Dt)},MRs K h ag mes es->MRs K' h' ag mes es
 |[],[],H=>H
 |e::mes,p::es,H=>by
  simp only[MRs]at *;refine⟨KR.mono M H.1,?_,MRs.mono M H.2.2⟩
  cases ag with
  |true=>obtain⟨cs,h1,h2⟩:=H.2.1;exact⟨cs,h1,DRs.mono M _ _ h2⟩
  |false=>obtain⟨d,h1,h2⟩:=H.2.1;exact⟨d,h1,DR.mono M _ _ h2⟩
 |[],_::_,H=>by simp[MRs]at H
 |_::_,[],H=>by simp[MRs]at H
end
-- every object that it names is of this kind
mutual
def Va.all(f:Nat->Bool):Va->Bool
 |.ptr o _|.cs o _|.el o _ _ _|.buf o|.mp o|.np o|.sd o|.vw o _ _ _|.bufc o _|.nv o _|.ne o _ _ _ _=>f o
 |.fn _ vs|.agg vs|.tup vs=>cG f vs
 |.cnd _ v=>v.all f
 |_=>true
def cG(f:Nat->Bool):List Va->Bool
 |[]=>true
 |v::vs=>v.all f&&cG f vs
end
-- what names an object of another kind is forgotten
mutual
def Va.prune(f:Nat->Bool):Va->Va
 |.ptr o off=>if f o then .ptr o off else .top
 |.cs o off=>if f o then .cs o off else .top
 |.el o sz i off=>if f o then .el o sz i off else .top
 |.buf o=>if f o then .buf o else .top
 |.mp o=>if f o then .mp o else .top
 |.np o=>if f o then .np o else .top
 |.sd o=>if f o then .sd o else .top
 |.vw o sz a n=>if f o then .vw o sz a n else .top
 |.bufc o cp=>if f o then .bufc o cp else .top
 |.nv o i=>if f o then .nv o i else .top
 |.ne o sz i j off=>if f o then .ne o sz i j off else .top
 |.fn g vs=>.fn g (cr f vs)
 |.agg vs=>.agg (cr f vs)
 |.tup vs=>.tup (cr f vs)
 |.cnd c v=>if v.all f then .cnd c v else .top
 |v=>v
def cr(f:Nat->Bool):List Va->List Va
 |[]=>[]
 |v::vs=>v.prune f::cr f vs
end

section
variable {K K':Nat->Prop} {h h':Array Obj} {f:Nat->Bool} {G G':List Gh}
mutual
theorem VR.prune(M:Mn K K' h h')(hG:Mg f G G'):∀(c:Value) (v:Va),VR K h G c v->VR K' h' G' c (v.prune f)
 |c,.p x,H=>by simp only[VR,Va.prune]at *;exact DR.mono M c x H
 |c,.nils,H=>by simpa [VR,Va.prune]using H
 |c,.full rows,H=>by
  simp only[VR,Va.prune]at *;exact⟨DR.mono M c _ H.1,H.2⟩
 |c,.rp row,H=>by
  simp only[VR,Va.prune]at *;obtain⟨b,off,cs,T,fr,vs,h1,h2,h3,h4,h5⟩:=H;exact⟨b,off,cs,T,fr,vs,h1,M.k b h2,(M.h b h2).trans h3,h4,DRs.mono M vs row h5⟩
 |c,.ptr o off,H=>by
  simp only[Va.prune];split
  .rename_i hf;simp only[VR]at *;obtain⟨g,b,h1,h2⟩:=H;exact⟨g,b,hG o g hf h1,h2⟩
  .simp[VR]
 |c,.cs o off,H=>by
  simp only[Va.prune];split
  .rename_i hf;simp only[VR]at *;obtain⟨g,b,h1,h2⟩:=H;exact⟨g,b,hG o g hf h1,h2⟩
  .simp[VR]
 |c,.el o sz i off,H=>by
  simp only[Va.prune];split
  .rename_i hf;simp only[VR]at *;obtain⟨g,b,n,cap,h1,h2⟩:=H;exact⟨g,b,n,cap,hG o g hf h1,h2⟩
  .simp[VR]
 |c,.buf o,H=>by
  simp only[Va.prune];split
  .rename_i hf;simp only[VR]at *;obtain⟨g,h1,h2⟩:=H;exact⟨g,hG o g hf h1,h2⟩
  .simp[VR]
 |c,.mp o,H=>by
  simp only[Va.prune];split
  .rename_i hf;simp only[VR]at *;obtain⟨g,b,h1,h2⟩:=H;exact⟨g,b,hG o g hf h1,h2⟩
  .simp[VR]
 |c,.np o,H=>by
  simp only[Va.prune];split
  .rename_i hf
   simp only[VR]at *
   rcases H with H|⟨g,b,h1,h2⟩
   .exact .inl H
   .exact .inr ⟨g,b,hG o g hf h1,h2⟩
  .simp[VR]
 |c,.sd o,H=>by
  simp only[Va.prune];split
  .rename_i hf;simp only[VR]at *;obtain⟨g,a,n,cap,h1,h2⟩:=H;exact⟨g,a,n,cap,hG o g hf h1,h2⟩
  .simp[VR]
 |c,.vw o _ _ _,H=>by
  simp only[Va.prune];split
  .rename_i hf;simp only[VR]at *;obtain⟨g,a,n,cap,h1,h2⟩:=H;exact⟨g,a,n,cap,hG o g hf h1,h2⟩
  .simp[VR]
 |c,.bufc o _,H=>by
  simp only[Va.prune];split
  .rename_i hf;simp only[VR]at *;obtain⟨g,a,n,cap,h1,h2⟩:=H;exact⟨g,a,n,cap,hG o g hf h1,h2⟩
  .simp[VR]
 |c,.nv o _,H=>by
  simp only[Va.prune];split
  .rename_i hf;simp only[VR]at *;obtain⟨g,a,n,cap,h1,h2⟩:=H;exact⟨g,a,n,cap,hG o g hf h1,h2⟩
  .simp[VR]
 |c,.ne o _ _ _ _,H=>by
  simp only[Va.prune];split
  .rename_i hf;simp only[VR]at *;obtain⟨g,b,n,cap,h1,h2⟩:=H;exact⟨g,b,n,cap,hG o g hf h1,h2⟩
  .simp[VR]
 |c,.fn g vs,H=>by
  simp only[VR,Va.prune]at *;obtain⟨cs,h1,h2⟩:=H;exact⟨cs,h1,VRs.prune M hG cs vs h2⟩
 |c,.agg vs,H=>by
  simp only[VR,Va.prune]at *;obtain⟨cs,h1,h2⟩:=H;exact⟨cs,h1,VRs.prune M hG cs vs h2⟩
 |c,.tup vs,H=>by
  simp only[VR,Va.prune]at *;obtain⟨cs,h1,h2⟩:=H;exact⟨cs,h1,VRs.prune M hG cs vs h2⟩
 |c,.nil,H=>by simpa [VR,Va.prune]using H
 |c,.cnd t v,H=>by
  simp only[Va.prune];split
  .rename_i hf
   simp only[VR]at *;exact⟨fun e=>VR.keep M hG c v hf (H.1 e),H.2⟩
  .simp[VR]
 |c,.raw v,H=>by simpa [VR,Va.prune]using H
 |c,.er v,H=>by simpa [VR,Va.prune]using H
 |c,.top,_=>by simp[VR,Va.prune]
theorem VRs.prune(M:Mn K K' h h')(hG:Mg f G G'):∀(cs:List Value) (vs:List Va),VRs K h G cs vs->VRs K' h' G' cs (cr f vs)
 |cs,[],H=>by simpa [VRs,cr]using H
 |cs,v::vs,H=>by
  simp only[VRs,cr]at *;obtain⟨c,cs',h1,h2,h3⟩:=H;exact⟨c,cs',h1,VR.prune M hG c v h2,VRs.prune M hG cs' vs h3⟩
theorem VR.keep(M:Mn K K' h h')(hG:Mg f G G'):∀(c:Value) (v:Va),v.all f=true->VR K h G c v->VR K' h' G' c v
 |c,.p x,_,H=>by simp only[VR]at *;exact DR.mono M c x H
 |c,.nils,_,H=>by simpa [VR]using H
 |c,.full rows,_,H=>by
  simp only[VR]at *;exact⟨DR.mono M c _ H.1,H.2⟩
 |c,.rp row,_,H=>by
  simp only[VR]at *;obtain⟨b,off,cs,T,fr,vs,h1,h2,h3,h4,h5⟩:=H;exact⟨b,off,cs,T,fr,vs,h1,M.k b h2,(M.h b h2).trans h3,h4,DRs.mono M vs row h5⟩
 |c,.ptr o off,ha,H=>by simp only[VR,Va.all]at *;obtain⟨g,b,h1,h2⟩:=H;exact⟨g,b,hG o g ha h1,h2⟩
 |c,.cs o off,ha,H=>by simp only[VR,Va.all]at *;obtain⟨g,b,h1,h2⟩:=H;exact⟨g,b,hG o g ha h1,h2⟩
 |c,.el o sz i off,ha,H=>by simp only[VR,Va.all]at *;obtain⟨g,b,n,cap,h1,h2⟩:=H;exact⟨g,b,n,cap,hG o g ha h1,h2⟩
 |c,.buf o,ha,H=>by simp only[VR,Va.all]at *;obtain⟨g,h1,h2⟩:=H;exact⟨g,hG o g ha h1,h2⟩
 |c,.mp o,ha,H=>by simp only[VR,Va.all]at *;obtain⟨g,b,h1,h2⟩:=H;exact⟨g,b,hG o g ha h1,h2⟩
 |c,.np o,ha,H=>by
  simp only[VR,Va.all]at *
  rcases H with H|⟨g,b,h1,h2⟩
  .exact .inl H
  .exact .inr ⟨g,b,hG o g ha h1,h2⟩
 |c,.sd o,ha,H=>by simp only[VR,Va.all]at *;obtain⟨g,a,n,cap,h1,h2⟩:=H;exact⟨g,a,n,cap,hG o g ha h1,h2⟩
 |c,.vw o _ _ _,ha,H=>by simp only[VR,Va.all]at *;obtain⟨g,a,n,cap,h1,h2⟩:=H;exact⟨g,a,n,cap,hG o g ha h1,h2⟩
 |c,.bufc o _,ha,H=>by simp only[VR,Va.all]at *;obtain⟨g,a,n,cap,h1,h2⟩:=H;exact⟨g,a,n,cap,hG o g ha h1,h2⟩
 |c,.nv o _,ha,H=>by simp only[VR,Va.all]at *;obtain⟨g,a,n,cap,h1,h2⟩:=H;exact⟨g,a,n,cap,hG o g ha h1,h2⟩
 |c,.ne o _ _ _ _,ha,H=>by simp only[VR,Va.all]at *;obtain⟨g,b,n,cap,h1,h2⟩:=H;exact⟨g,b,n,cap,hG o g ha h1,h2⟩
 |c,.fn g vs,ha,H=>by
  simp only[VR,Va.all]at *;obtain⟨cs,h1,h2⟩:=H;exact⟨cs,h1,VRs.keep M hG cs vs ha h2⟩
 |c,.agg vs,ha,H=>by
  simp only[VR,Va.all]at *;obtain⟨cs,h1,h2⟩:=H;exact⟨cs,h1,VRs.keep M hG cs vs ha h2⟩
 |c,.tup vs,ha,H=>by
  simp only[VR,Va.all]at *;obtain⟨cs,h1,h2⟩:=H;exact⟨cs,h1,VRs.keep M hG cs vs ha h2⟩
 |c,.nil,_,H=>by simpa [VR]using H
 |c,.cnd t v,ha,H=>by
  simp only[VR,Va.all]at *;exact⟨fun e=>VR.keep M hG c v ha (H.1 e),H.2⟩
 |c,.raw v,_,H=>by simpa [VR]using H
 |c,.er v,_,H=>by simpa [VR]using H
 |c,.top,_,_=>by simp[VR]
theorem VRs.keep(M:Mn K K' h h')(hG:Mg f G G'):∀(cs:List Value) (vs:List Va),cG f vs=true->VRs K h G cs vs->VRs K' h' G' cs vs
 |cs,[],_,H=>by simpa [VRs]using H
 |cs,v::vs,ha,H=>by
  simp only[VRs,cG,Bool.and_eq_true]at *;obtain⟨c,cs',h1,h2,h3⟩:=H;exact⟨c,cs',h1,VR.keep M hG c v ha.1 h2,VRs.keep M hG cs' vs ha.2 h3⟩
end
end

mutual
theorem Va.all_true:∀v:Va,v.all (fun _=>true)=true
 |.p _|.nils|.full _|.rp _|.ptr _ _|.cs _ _|.el _ _ _ _|.buf _|.mp _|.np _|.sd _|.vw _ _ _ _|.bufc _ _|.nv _ _|.ne _ _ _ _ _|.nil|.raw _|.er _|.top=>rfl
 |.fn _ vs=>ct vs
 |.agg vs=>ct vs
 |.tup vs=>ct vs
 |.cnd _ v=>Va.all_true v
theorem ct:∀vs:List Va,cG (fun _=>true) vs=true
 |[]=>rfl
 |v::vs=>by simp only[cG,Va.all_true v,ct vs,Bool.and_self]
end

section
variable {K K':Nat->Prop} {h h':Array Obj} {G G':List Gh}
theorem VR.grow(M:Mn K K' h h')(hG:∀(o:Nat) (g:Gh),G[o]?=some g->G'[o]?=some g)(c:Value)(v:Va)(H:VR K h G c v):VR K' h' G' c v :=
 VR.keep (f:=fun _=>true) M (fun o g _=>hG o g) c v (Va.all_true v) H
theorem VRs.grow(M:Mn K K' h h')(hG:∀(o:Nat) (g:Gh),G[o]?=some g->G'[o]?=some g)(cs:List Value)(vs:List Va)(H:VRs K h G cs vs):VRs K' h' G' cs vs :=
 VRs.keep (f:=fun _=>true) M (fun o g _=>hG o g) cs vs (ct vs) H
end

inductive Tk where
 |other|str|bool
 |int (k:IntKind)
 |ptr (e:TypeId)
 |slice (e:TypeId) (esz ebytes:Nat) (ezero:List Value)
 |arr (n:Nat) (e:TypeId) (esz:Nat) (eagg:Bool)
 |struct (fs:List (Nat×Nat×Bool))
 |map (k e:TypeId)

structure Ti where
 agg:Bool
 size:Nat
 zero:List Value
 kind:Tk

def eM(P:Program)(t:TypeId):Bool:=match P.underlying t with
 |some (.struct _)|some (.array _ _)=>true
 |_=>false
def gO(P:Program)(t:TypeId):Option Nat:=(P.info? t).map (·.size)
def vb(P:Program)(t:TypeId):Option (List Value):=(P.info? t).bind fun i=>i.zero.map (·.cells.toList)
def vK(P:Program):List Field->Option (List (Nat×Nat×Bool))
 |[]=>some []
 |f::fs=>match gO P f.type,P.underlying f.type,vK P fs with
  |some n,some _,some l=>some ((f.offset,n,eM P f.type)::l)
  |_,_,_=>none
def sr(P:Program):TypeDesc->Tk
 |.bool=>.bool
 |.int k=>.int k
 |.string=>.str
 |.pointer e=>.ptr e
 |.slice e=>match P.info? e,vb P e with
  |some i,some z=>.slice e i.size i.bytes z
  |_,_=>.other
 |.array n e=>match gO P e,P.underlying e with
  |some s,some _=>.arr n e s (eM P e)
  |_,_=>.other
 |.struct fs=>match vK P fs.toList with
  |some l=>.struct l
  |none=>.other
 |.map k e=>.map k e
 |_=>.other
def ej(P:Program)(t:TypeId):Option Ti :=
 match P.underlying t,gO P t,vb P t with
 |some d,some n,some z=>some ⟨eM P t,n,z,sr P d⟩
 |_,_,_=>none

section
variable {P:Program} {t:TypeId} {r:Ti} (h:ej P t=some r)
include h
theorem rT:∃d,P.underlying t=some d/\r.kind=sr P d/\r.agg=eM P t:=by
 unfold ej at h;split at h
 .rename_i d n z h1 h2 h3;cases h;exact⟨d,h1,rfl,rfl⟩
 .cases h
theorem FY:∃i z,P.info? t=some i/\i.size=r.size/\i.zero=some z/\z.cells.toList=r.zero:=by
 unfold ej at h;split at h
 .rename_i d n z h1 h2 h3
  cases h;unfold gO at h2;unfold vb at h3
  cases hi:P.info? t with
  |none=>simp[hi]at h2
  |some i =>
   simp[hi]at h2 h3;obtain⟨z',hz1,hz2⟩:=h3;exact⟨i,z',rfl,h2,hz1,hz2⟩
 .cases h
end

section
variable {P:Program} {t:TypeId} {r:Ti} (w:World)
theorem jh(h:ej P t=some r):(isAgg t).run P w=.ok r.agg w:=by
 obtain⟨d,h1,_,h3⟩:=rT h;rw[h3];simp only[isAgg,underlying,eM,Sem.run_bind,run_program,Result.andThen_ok,h1]
 cases d <;> rfl
theorem run_sizeOf(h:ej P t=some r):(sizeOf t).run P w=.ok r.size w:=by
 obtain⟨i,z,h1,h2,_,_⟩:=FY h;simp[sizeOf,typeInfo,h1,h2]
theorem KA(h:ej P t=some r):∃z,(zeroValue t).run P w=.ok z w/\z.cells.toList=r.zero:=by
 obtain⟨i,z,h1,h2,h3,h4⟩:=FY h;exact⟨z,by simp[zeroValue,typeInfo,h1,h3],h4⟩
end

abbrev dY:=List (Nat×Va)
def eC:dY->Nat->Va
 |[],_=>.top
 |(k,v)::E,m=>if k=m then v else eC E m
def eB(E:dY):Option Nat->Va->dY
 |some d,v=>(d,v)::E
 |none,_=>E

def cv:Value->Va
 |.bool x=>.p (.b x)
 |.int k n=>.p (.i k n)
 |.string s=>.p (.s s.data.toList)
 |.slice none 0 0=>.nils
 |.pointer none=>.nil
 |v=>.raw v
def um:Value->Prop
 |.int k n=>Fits k n
 |.string s=>s.data.toList.length<=eh
 |_=>True

def eu(E:dY):Operand->Va
 |.tmp t=>eC E t
 |.const v=>cv v
 |.func f=>.fn f []
 |.global g=>.raw (.pointer (some ⟨g,0,none⟩))
def rA:Operand->Prop
 |.const v=>um v
 |_=>True
def lF:Va->Va
 |.cnd _ v=>v
 |v=>v
def Bl:Va->Bool
 |.cnd c _=>c
 |_=>true
def opnd(E:dY)(x:Operand):Va:=lF (eu E x)
def opOk(g:Bool)(E:dY)(x:Operand):Prop:=rA x/\(g=true->Bl (eu E x)=true)

def ig(K:Nat->Prop)(h:Array Obj)(G:List Gh)(a:Act)(E:dY):Prop:=∀m,VR K h G (a.tmps.getD m undef) (eC E m)

section
variable {K:Nat->Prop} {h:Array Obj} {G:List Gh} {a:Act} {E:dY}
theorem yh(v:Value)(hv:um v):VR K h G v (cv v):=by
 unfold cv
 split <;> simp_all[VR,DR,um]
theorem ke(hE:ig K h G a E)(x:Operand)(hx:rA x):VR K h G (a.eval x) (eu E x):=by
 cases x with
 |tmp t=>exact hE t
 |const v=>exact yh v hx
 |func f=>simp[eu,Act.eval,VR,VRs]
 |global g=>simp[eu,Act.eval,VR]
theorem Hg{c:Value}{v:Va}(hv:VR K h G c v)(hc:Bl v=true):VR K h G c (lF v):=by
 cases v <;> first|exact hv|(simp only[VR,Bl]at hv hc;exact hv.1 hc)
theorem zw(hE:ig K h G a E){g:Bool}(hg:g=true)(x:Operand)(hx:opOk g E x):VR K h G (a.eval x) (opnd E x) :=
 Hg (ke hE x hx.1) (hx.2 hg)
end

section
variable {K:Nat->Prop} {h:Array Obj} {G:List Gh}
theorem DRs.length:∀{vs:List Value} {ds:List Dt},DRs K h vs ds->vs.length=ds.length
 |vs,[],H=>by simp only[DRs]at H;subst H;rfl
 |vs,d::ds,H=>by
  simp only[DRs]at H;obtain⟨v,vs',rfl,_,h3⟩:=H;simp[DRs.length h3]
theorem DRs.get:∀{vs:List Value} {ds:List Dt},DRs K h vs ds->∀(j:Nat) (d:Dt),ds[j]?=some d->∃v,vs[j]?=some v/\DR K h v d
 |vs,[],H,j,d,hj=>by simp at hj
 |vs,e::ds,H,j,d,hj=>by
  simp only[DRs]at H;obtain⟨v,vs',rfl,h2,h3⟩:=H
  cases j with
  |zero=>simp at hj;subst hj;exact⟨v,rfl,h2⟩
  |succ j=>simp at hj;simpa using DRs.get h3 j d hj
theorem DRs.take:∀{vs:List Value} {ds:List Dt},DRs K h vs ds->∀n,DRs K h (vs.take n) (ds.take n)
 |vs,[],H,n=>by simp only[DRs]at H;subst H;simp[DRs]
 |vs,d::ds,H,0=>by simp[DRs]
 |vs,d::ds,H,n+1=>by
  simp only[DRs]at H;obtain⟨v,vs',rfl,h2,h3⟩:=H;simp only[take_succ_cons,DRs];exact⟨v,_,rfl,h2,DRs.take h3 n⟩
theorem DRs.drop:∀{vs:List Value} {ds:List Dt},DRs K h vs ds->∀n,DRs K h (vs.drop n) (ds.drop n)
 |vs,[],H,n=>by simp only[DRs]at H;subst H;simp[DRs]
 |vs,d::ds,H,0=>by simpa using H
 |vs,d::ds,H,n+1=>by
  simp only[DRs]at H;obtain⟨v,vs',rfl,h2,h3⟩:=H
  simpa using DRs.drop h3 n
theorem DRs.append:∀{vs us:List Value} {ds es:List Dt},DRs K h vs ds->DRs K h us es->DRs K h (vs++us) (ds++es)
 |vs,us,[],es,H,H'=>by simp only[DRs]at H;subst H;simpa using H'
 |vs,us,d::ds,es,H,H'=>by
  simp only[DRs]at H;obtain⟨v,vs',rfl,h2,h3⟩:=H;simp only[cons_append,DRs];exact⟨v,_,rfl,h2,DRs.append h3 H'⟩
theorem DRs.set:∀{vs:List Value} {ds:List Dt} {v:Value} {d:Dt},DRs K h vs ds->DR K h v d->∀j,DRs K h (vs.set j v) (ds.set j d)
 |vs,[],v,d,H,_,j=>by simp only[DRs]at H;subst H;simp[DRs]
 |vs,e::ds,v,d,H,H',0=>by
  simp only[DRs]at H;obtain⟨u,vs',rfl,h2,h3⟩:=H;simp only[set_cons_zero,DRs];exact⟨v,vs',rfl,H',h3⟩
 |vs,e::ds,v,d,H,H',j+1=>by
  simp only[DRs]at H;obtain⟨u,vs',rfl,h2,h3⟩:=H;simp only[set_cons_succ,DRs];exact⟨u,_,rfl,h2,DRs.set h3 H' j⟩
theorem DRs.vrs:∀{vs:List Value} {ds:List Dt},DRs K h vs ds->VRs K h G vs (ds.map .p)
 |vs,[],H=>by simpa [DRs,VRs]using H
 |vs,d::ds,H=>by
  simp only[DRs]at H;obtain⟨v,vs',rfl,h2,h3⟩:=H;simp only[map_cons,VRs,VR];exact⟨v,vs',rfl,h2,DRs.vrs h3⟩
theorem DRss.length{sz:Nat}:∀{vs:List Value} {rs:List (List Dt)},DRss K h sz vs rs->vs.length=rs.length*sz
 |vs,[],H=>by simp only[DRss]at H;subst H;simp
 |vs,r::rs,H=>by
  simp only[DRss]at H;obtain⟨a,b,rfl,h2,h3,h4⟩:=H;simp[h3.length,DRss.length h4,h2,Nat.add_mul,Nat.add_comm]
theorem DRss.get{sz:Nat}:∀{vs:List Value} {rs:List (List Dt)},DRss K h sz vs rs->∀(i:Nat),i<rs.length->DRs K h ((vs.drop (i*sz)).take sz) (rs.getD i [])/\(rs.getD i []).length=sz
 |vs,[],H,i,hi=>by simp at hi
 |vs,r::rs,H,i,hi=>by
  simp only[DRss]at H;obtain⟨a,b,rfl,h2,h3,h4⟩:=H;have hl:=h3.length
  cases i with
  |zero =>
   have:(a++b).take sz=a:=by rw[take_append_of_le_length (by omega)];exact take_of_length_le (by omega)
   simp only[Nat.zero_mul,drop_zero,this,getD_cons_zero];exact⟨h3,h2⟩
  |succ i =>
   have e:(a++b).drop ((i+1)*sz)=b.drop (i*sz):=by
    rw[drop_append]
    have h5:(i+1)*sz-a.length=i*sz:=by rw[Nat.add_mul];omega
    rw[h5,drop_eq_nil_of_le (by rw[Nat.add_mul];omega)];simp
   rw[e]
   simpa using DRss.get h4 i (by simpa using hi)
theorem DRss.append{sz:Nat}:∀{vs us:List Value} {rs qs:List (List Dt)},DRss K h sz vs rs->DRss K h sz us qs->DRss K h sz (vs++us) (rs++qs)
 |vs,us,[],qs,H,H'=>by simp only[DRss]at H;subst H;simpa using H'
 |vs,us,r::rs,qs,H,H'=>by
  simp only[DRss]at H;obtain⟨a,b,rfl,h2,h3,h4⟩:=H;simp only[cons_append,DRss];exact⟨a,b++us,by simp,h2,h3,DRss.append h4 H'⟩
theorem DRss.drop{sz:Nat}:∀{vs:List Value} {rs:List (List Dt)},DRss K h sz vs rs->∀n,DRss K h sz (vs.drop (n*sz)) (rs.drop n)
 |vs,[],H,n=>by simp only[DRss]at H;subst H;simp[DRss]
 |vs,r::rs,H,0=>by simpa using H
 |vs,r::rs,H,n+1=>by
  simp only[DRss]at H;obtain⟨a,b,rfl,h2,h3,h4⟩:=H;have hl:=h3.length
  have e:(a++b).drop ((n+1)*sz)=b.drop (n*sz):=by
   rw[drop_append]
   have h5:(n+1)*sz-a.length=n*sz:=by rw[Nat.add_mul];omega
   rw[h5,drop_eq_nil_of_le (by rw[Nat.add_mul];omega)];simp
  rw[e]
  simpa using DRss.drop h4 n
theorem DRss.take{sz:Nat}:∀{vs:List Value} {rs:List (List Dt)},DRss K h sz vs rs->∀n,DRss K h sz (vs.take (n*sz)) (rs.take n)
 |vs,[],H,n=>by simp only[DRss]at H;subst H;simp[DRss]
 |vs,r::rs,H,0=>by simp[DRss]
 |vs,r::rs,H,n+1=>by
  simp only[DRss]at H;obtain⟨a,b,rfl,h2,h3,h4⟩:=H;have hl:=h3.length
  have e:(a++b).take ((n+1)*sz)=a++b.take (n*sz):=by
   rw[take_append]
   have h5:(n+1)*sz-a.length=n*sz:=by rw[Nat.add_mul];omega
   rw[h5,take_of_length_le (by rw[Nat.add_mul];omega)]
  rw[e];simp only[take_succ_cons,DRss];exact⟨a,_,rfl,h2,h3,DRss.take h4 n⟩
theorem VRs.length:∀{cs:List Value} {vs:List Va},VRs K h G cs vs->cs.length=vs.length
 |cs,[],H=>by simp only[VRs]at H;subst H;rfl
 |cs,v::vs,H=>by
  simp only[VRs]at H;obtain⟨c,cs',rfl,_,h3⟩:=H;simp[VRs.length h3]
theorem VRs.get:∀{cs:List Value} {vs:List Va},VRs K h G cs vs->∀(j:Nat) (v:Va),vs[j]?=some v->∃c,cs[j]?=some c/\VR K h G c v
 |cs,[],H,j,d,hj=>by simp at hj
 |cs,e::vs,H,j,d,hj=>by
  simp only[VRs]at H;obtain⟨c,cs',rfl,h2,h3⟩:=H
  cases j with
  |zero=>simp at hj;subst hj;exact⟨c,rfl,h2⟩
  |succ j=>simp at hj;simpa using VRs.get h3 j d hj
theorem VRs.take:∀{cs:List Value} {vs:List Va},VRs K h G cs vs->∀n,VRs K h G (cs.take n) (vs.take n)
 |cs,[],H,n=>by simp only[VRs]at H;subst H;simp[VRs]
 |cs,d::vs,H,0=>by simp[VRs]
 |cs,d::vs,H,n+1=>by
  simp only[VRs]at H;obtain⟨v,vs',rfl,h2,h3⟩:=H;simp only[take_succ_cons,VRs];exact⟨v,_,rfl,h2,VRs.take h3 n⟩
theorem VRs.drop:∀{cs:List Value} {vs:List Va},VRs K h G cs vs->∀n,VRs K h G (cs.drop n) (vs.drop n)
 |cs,[],H,n=>by simp only[VRs]at H;subst H;simp[VRs]
 |cs,d::vs,H,0=>by simpa using H
 |cs,d::vs,H,n+1=>by
  simp only[VRs]at H;obtain⟨v,vs',rfl,h2,h3⟩:=H
  simpa using VRs.drop h3 n
theorem VRs.append:∀{cs es:List Value} {vs us:List Va},VRs K h G cs vs->VRs K h G es us->VRs K h G (cs++es) (vs++us)
 |cs,es,[],us,H,H'=>by simp only[VRs]at H;subst H;simpa using H'
 |cs,es,d::vs,us,H,H'=>by
  simp only[VRs]at H;obtain⟨v,vs',rfl,h2,h3⟩:=H;simp only[cons_append,VRs];exact⟨v,_,rfl,h2,VRs.append h3 H'⟩
theorem VRs.set:∀{cs:List Value} {vs:List Va} {c:Value} {v:Va},VRs K h G cs vs->VR K h G c v->∀j,VRs K h G (cs.set j c) (vs.set j v)
 |cs,[],c,v,H,_,j=>by simp only[VRs]at H;subst H;simp[VRs]
 |cs,e::vs,c,v,H,H',0=>by
  simp only[VRs]at H;obtain⟨u,vs',rfl,h2,h3⟩:=H;simp only[set_cons_zero,VRs];exact⟨c,vs',rfl,H',h3⟩
 |cs,e::vs,c,v,H,H',j+1=>by
  simp only[VRs]at H;obtain⟨u,vs',rfl,h2,h3⟩:=H;simp only[set_cons_succ,VRs];exact⟨u,_,rfl,h2,VRs.set h3 H' j⟩
end

class Tabs where
 tab:Nat->Option (IntKind×List Int)
 ifc:Nat->Bool
 nest:TypeId->Option (Nat×TypeId×Nat):=fun _=>none
 mono:Prop:=False
def TabOk[Tabs](K:Nat->Prop)(h:Array Obj):Prop:=(∀b k l,Tabs.tab b=some (k,l)->K b/\(∃T fr,h[b]?=some (.cells (l.map (Value.int k)).toArray T fr))/\∀n∈l,Fits k n) /\
 ∀b,Tabs.ifc b=true->K b/\∃ev T fr,h[b]?=some (.cells #[ev] T fr)/\(ev=.nilIface∨∃te pe,ev=.iface te pe)
theorem TabOk.mono[Tabs]{K K':Nat->Prop}{h h':Array Obj}(H:TabOk K h)(M:Mn K K' h h'):TabOk K' h':=⟨fun b k l e=>by
 obtain⟨h1,⟨T,fr,h2⟩,h3⟩:=H.1 b k l e
 exact⟨M.k b h1,⟨T,fr,by rw[M.h b h1];exact h2⟩,h3⟩,fun b e=>by
 obtain⟨h1,ev,T,fr,h2,h3⟩:=H.2 b e
 exact⟨M.k b h1,ev,T,fr,by rw[M.h b h1];exact h2,h3⟩⟩
variable [Tabs]
structure St(K:Nat->Prop)(G:List Gh)(H:List Ob)(w:World):Prop where
 len:G.length=H.length
 kb:∀b,K b->b<w.heap.size
 gbo:∀(o:Nat) (g:Gh) (b:Nat),G[o]?=some g->own g b->b<w.heap.size/\¬ K b
 ijo:∀(o o':Nat) (g g':Gh) (b:Nat),G[o]?=some g->G[o']?=some g'->own g b->own g' b->o=o'
 ob:∀(o:Nat) (g:Gh) (x:Ob),G[o]?=some g->H[o]?=some x->ObR K w.heap G g x
 tb:TabOk K w.heap

theorem St.gb{K:Nat->Prop}{G:List Gh}{H:List Ob}{w:World}(h:St K G H w)(o:Nat)(g:Gh)(b:Nat)(hg:G[o]?=some g)(hb:g.blk=some b):b<w.heap.size/\¬ K b:=h.gbo o g b hg (.inl hb)
theorem St.inj{K:Nat->Prop}{G:List Gh}{H:List Ob}{w:World}(h:St K G H w)(o o':Nat)(g g':Gh)(b:Nat)(hg:G[o]?=some g)(hg':G[o']?=some g')(hb:g.blk=some b)(hb':g'.blk=some b):o=o':=h.ijo o o' g g' b hg hg' (.inl hb) (.inl hb')
theorem St.ghost{K:Nat->Prop}{G:List Gh}{H:List Ob}{w:World}(h:St K G H w){o:Nat}{x:Ob}(hx:H[o]?=some x):∃g,G[o]?=some g/\ObR K w.heap G g x:=by
 have hl:o<G.length:=by rw[h.len];exact(List.getElem?_eq_some_iff.1 hx).1
 exact⟨G[o],getElem?_eq_getElem hl,h.ob o _ x (getElem?_eq_getElem hl) hx⟩

structure Pv where
 v:Va
 ok:Prop
def ew:Pv:=⟨.top,False⟩

theorem Fits.wrap(k:IntKind)(n:Int):Fits k (k.wrap n):=by
 cases k <;> simp only[Fits,lo,hi,IntKind.wrap,IntKind.bits,IntKind.signed] <;> (constructor <;> (simp;omega))
theorem cH(k:IntKind):lo k<=0/\0<=hi k:=by cases k <;> simp[lo,hi]
theorem Fits.tmod{k:IntKind}{a:Int}(h:Fits k a)(b:Int):Fits k (a.tmod b):=by
 obtain⟨h1,h2⟩:=h;have hz:=cH k;have hn:=Int.natAbs_tmod a b;have hm:=Nat.mod_le a.natAbs b.natAbs
 rcases Int.le_total 0 a with h0|h0
 .have:=Int.tmod_nonneg b h0
  constructor <;> omega
 .have h3:=Int.tmod_nonneg b (a:=-a) (by omega)
  rw[Int.neg_tmod]at h3
  constructor <;> omega
theorem Fits.fdiv{k:IntKind}{a:Int}(h:Fits k a)(n:Nat):Fits k (a.fdiv (2^n)):=by
 obtain⟨h1,h2⟩:=h;have hz:=cH k
 have hp:(0:Int)<2^n:=by exact_mod_cast Nat.pow_pos (n:=n) (by omega:0<2)
 rw[Int.fdiv_eq_ediv_of_nonneg _ (by omega)]
 rcases Int.le_total 0 a with h0|h0
 .have:=Int.ediv_le_self (2^n) h0
  have:=Int.ediv_nonneg h0 (Int.le_of_lt hp)
  constructor <;> omega
 .have h3:a<=a / 2^n:=by
   have h4:=Int.le_ediv_iff_mul_le (a:=a) (b:=a) hp
   have h5:a*2^n<=a:=by
    have h6:(1:Int)<=2^n:=by omega
    have:=Int.mul_le_mul_of_nonpos_left h0 h6
    simpa using this
   exact h4.2 h5
  have h7:a / 2^n<=0:=by
   have:=Int.ediv_le_ediv hp h0
   simpa using this
  constructor <;> omega

def qb(op:BinOp)(k:IntKind)(x y:Int):Int :=
 let a:=BitVec.ofInt k.bits x
 let b:=BitVec.ofInt k.bits y
 match op with
 |.and=>k.wrap (a &&& b).toNat
 |.or=>k.wrap (a ||| b).toNat
 |.xor=>k.wrap (a ^^^ b).toNat
 |_=>k.wrap (a &&& ~~~b).toNat
theorem Fits.bits(op:BinOp)(k:IntKind)(x y:Int):Fits k (qb op k x y):=by
 unfold qb;split <;> exact Fits.wrap _ _

def nY(k:IntKind)(y:Int):Nat:=min y.toNat k.bits
def iN(op:BinOp)(k:IntKind)(a:Int)(k':IntKind)(b:Int):Pv:=match op with
 |.shl=>⟨.p (.i k (k.wrap (a*2^nY k b))),0<=b⟩
 |.shr=>⟨.p (.i k (a.fdiv (2^nY k b))),0<=b⟩
 |.add=>⟨.p (.i k (k.wrap (a+b))),k=k'⟩
 |.sub=>⟨.p (.i k (k.wrap (a-b))),k=k'⟩
 |.mul=>⟨.p (.i k (k.wrap (a*b))),k=k'⟩
 |.quo=>⟨.p (.i k (k.wrap (a.tdiv b))),k=k'/\¬ b=0⟩
 |.rem=>⟨.p (.i k (a.tmod b)),k=k'/\¬ b=0⟩
 |.and=>⟨.p (.i k (qb .and k a b)),k=k'⟩
 |.or=>⟨.p (.i k (qb .or k a b)),k=k'⟩
 |.xor=>⟨.p (.i k (qb .xor k a b)),k=k'⟩
 |.andNot=>⟨.p (.i k (qb .andNot k a b)),k=k'⟩
 |.eql=>⟨.p (.b (decide (a=b))),k=k'⟩
 |.neq=>⟨.p (.b (!decide (a=b))),k=k'⟩
 |.lss=>⟨.p (.b (decide (a<b))),k=k'⟩
 |.leq=>⟨.p (.b (decide (a<=b))),k=k'⟩
 |.gtr=>⟨.p (.b (decide (b<a))),k=k'⟩
 |.geq=>⟨.p (.b (decide (b<=a))),k=k'⟩

def li(a b:List UInt8):Bool:=Op.bytesLess a b
def uI(op:BinOp)(a b:List UInt8):Pv:=match op with
 |.add=>⟨.p (.s (a++b)),(a++b).length<=eh⟩
 |.eql=>⟨.p (.b (decide (a=b))),True⟩
 |.neq=>⟨.p (.b (!decide (a=b))),True⟩
 |.lss=>⟨.p (.b (li a b)),True⟩
 |.leq=>⟨.p (.b (li a b||decide (a=b))),True⟩
 |.gtr=>⟨.p (.b (!(li a b||decide (a=b)))),True⟩
 |.geq=>⟨.p (.b (!li a b)),True⟩
 |_=>ew

section
variable {K:Nat->Prop} {G:List Gh} {H:List Ob} {w:World} {P:Program}

theorem yx{α:Type}[BEq α][LawfulBEq α][DecidableEq α](a b:α):(a == b)=decide (a=b):=by by_cases h:a=b <;> simp[h]
theorem i9{h:Array Obj}{k:IntKind}{n:Int}(hn:Fits k n):VR K h G (.int k n) (.p (.i k n)):=by simpa only[VR,DR,true_and]using hn
theorem fD{h:Array Obj}{x y:Bool}(e:x=y):VR K h G (.bool x) (.p (.b y)):=by subst e;simp only[VR,DR]
theorem uW{h:Array Obj}{x:List UInt8}(hn:x.length<=eh):VR K h G (.string ⟨x.toArray⟩) (.p (.s x)):=by simpa only[VR,DR,true_and]using hn
theorem LL(op:BinOp)(t:TypeId)(x y:Operand)(a b:Value)(h1:∀c,a≠.agg c)(h2:a≠.nilIface):(eqGuard op t x y a b).run P w=.ok () w:=by
 unfold eqGuard
 cases op <;> first|rfl|(cases a <;> first|rfl|exact absurd rfl (h1 _)|exact absurd rfl h2)

theorem xk{op:BinOp}{k k':IntKind}{a b:Int}(t:TypeId)(ha:Fits k a)(hok:(iN op k a k' b).ok) :
  ∃c,(binOp op t (.int k a) (.int k' b)).run P w=.ok c w/\VR K w.heap G c (iN op k a k' b).v:=by
 cases op
 case shl =>
  simp only[iN]at hok|-;exact⟨_,by simp only[binOp,Op.shift,if_neg (Int.not_lt.2 hok)];rfl,i9 (Fits.wrap _ _)⟩
 case shr =>
  simp only[iN]at hok|-;exact⟨_,by simp only[binOp,Op.shift,if_neg (Int.not_lt.2 hok)];rfl,i9 (Fits.fdiv ha _)⟩
 case quo =>
  simp only[iN]at hok|-;obtain⟨rfl,h0⟩:=hok;exact⟨_,by simp only[binOp,Op.intDiv,ne_eq,not_true_eq_false,if_false,if_neg h0];rfl,i9 (Fits.wrap _ _)⟩
 case rem =>
  simp only[iN]at hok|-;obtain⟨rfl,h0⟩:=hok;exact⟨_,by simp only[binOp,Op.intDiv,ne_eq,not_true_eq_false,if_false,if_neg h0];rfl,i9 (Fits.tmod ha _)⟩
 case and|or|xor|andNot =>
  simp only[iN]at hok|-;subst hok;exact⟨_,by simp only[binOp,Op.intBits,ne_eq,not_true_eq_false,if_false];rfl,i9 (Fits.bits _ _ _ _)⟩
 case add|sub|mul =>
  simp only[iN]at hok|-;subst hok;exact⟨_,by simp only[binOp,Op.intArith,ne_eq,not_true_eq_false,if_false];rfl,i9 (Fits.wrap _ _)⟩
 all_goals
  simp only[iN]at hok|-;subst hok;exact⟨_,by simp only[binOp,Op.intCmp,ne_eq,not_true_eq_false,if_false];rfl,fD (by simp[bne,yx])⟩
theorem xj{op:BinOp}{a b:List UInt8}(t:TypeId)(hok:(uI op a b).ok) :
  ∃c,(binOp op t (.string ⟨a.toArray⟩) (.string ⟨b.toArray⟩)).run P w=.ok c w/\VR K w.heap G c (uI op a b).v:=by
 cases op <;> simp only[uI]at hok|- <;> try (exact hok.elim)
 case add =>
  have h63:¬ (((⟨a.toArray⟩:ByteArray).size+(⟨b.toArray⟩:ByteArray).size:Nat):Int) > IntKind.i64.max:=by
   simp only[ByteArray.size,size_toArray]
   have:IntKind.i64.max=9223372036854775807:=by decide
   rw[this];simp only[length_append,eh]at hok;omega
  have e:(⟨a.toArray⟩++⟨b.toArray⟩:ByteArray)=⟨(a++b).toArray⟩:=by apply ByteArray.ext;simp
  exact⟨_,by simp only[binOp,Op.stringOp,if_neg h63,e];rfl,uW hok⟩
 all_goals
  exact⟨_,by simp only[binOp,Op.stringOp,ByteArray.toList_mk];rfl,fD (by simp[li,yx])⟩
end

def ed:List Ob->Nat->Ob
 |[],_=>.gone
 |x::_,0=>x
 |_::l,n+1=>ed l n
theorem zn:∀{H:List Ob} {o:Nat} {x:Ob},ed H o=x->x≠.gone->H[o]?=some x
 |[],_,_,h,hx=>by simp[ed]at h;exact absurd h.symm hx
 |x::l,0,y,h,_=>by simp[ed]at h;simp[h]
 |x::l,n+1,y,h,hx=>by simp only[ed]at h;simpa using zn h hx

def qc(H:List Ob)(o:Nat):Option (TypeId×Nat×List (List Dt)×Bool):=match ed H o with
 |.buf T sz rows=>some (T,sz,rows,false)
 |.fx T sz rows=>some (T,sz,rows,true)
 |_=>none
def tm(f:Bool)(T:TypeId)(sz:Nat)(rows:List (List Dt)):Ob:=bif f then .fx T sz rows else .buf T sz rows
theorem H6{H:List Ob}{o:Nat}{T:TypeId}{sz:Nat}{rows:List (List Dt)}{f:Bool}(h:qc H o=some (T,sz,rows,f)):H[o]?=some (tm f T sz rows):=by
 unfold qc at h;split at h
 .rename_i hx;cases h;exact zn hx (by simp[tm])
 .rename_i hx;cases h;exact zn hx (by simp[tm])
 .cases h
theorem kw{K:Nat->Prop}{h:Array Obj}{G:List Gh}{g:Gh}{f:Bool}{T:TypeId}{sz:Nat}{rows:List (List Dt)}:ObR K h G g (tm f T sz rows)=ObR K h G g (.buf T sz rows):=by cases f <;> rfl
theorem St.bufOb{K:Nat->Prop}{G:List Gh}{H:List Ob}{w:World}(hS:St K G H w){o:Nat}{T:TypeId}{sz:Nat}{rows:List (List Dt)}{f:Bool}{g:Gh}(h:qc H o=some (T,sz,rows,f))(hg:G[o]?=some g):ObR K w.heap G g (.buf T sz rows):=by
 rw[<-kw (f:=f)];exact hS.ob o g _ hg (H6 h)
def tL(l:List Dt)(j:Nat):Va:=match l.drop j with
 |d::_=>.p d
 |[]=>.top
def rl(l:List Va)(j:Nat):Va:=match l.drop j with
 |d::_=>d
 |[]=>.top
theorem jD{α:Type}:∀{l:List α} {j:Nat} {d:α} {r:List α},l.drop j=d::r->l[j]?=some d
 |[],_,_,_,h=>by simp at h
 |x::l,0,d,r,h=>by simp at h;simp[h.1]
 |x::l,j+1,d,r,h=>by simp at h;simpa using jD h

def jt(ti:Ti)(H:List Ob):Va->Pv
 |.rp row=>bif ti.agg then⟨.agg ((row.take ti.size).map .p),ti.size<=row.length⟩else⟨tL row 0,0<row.length⟩
 |.ptr o off=>match ed H o with
  |.cells _ vs=>bif ti.agg then⟨.agg ((vs.drop off).take ti.size),off+ti.size<=vs.length⟩else⟨rl vs off,off<vs.length⟩
  |_=>ew
 |.el o sz i off=>match qc H o with
  |some (_,sz',rows,_)=>bif ti.agg then⟨.agg ((((rows.getD i []).drop off).take ti.size).map .p),sz=sz'/\i<rows.length/\off+ti.size<=sz⟩
   else⟨tL (rows.getD i []) off,sz=sz'/\i<rows.length/\off<sz⟩
  |none=>match ed H o with
   |.nst _ _ sz' k p rows st=>bif ti.agg then⟨.agg (((((rows.getD i []).map .p).set k (.nv p i)).drop off).take ti.size),sz=sz'/\i<rows.length/\off+ti.size<=sz/\st=none⟩
    else bif off == k then⟨.nv p i,sz=sz'/\i<rows.length/\st=none⟩else⟨tL (rows.getD i []) off,sz=sz'/\i<rows.length/\off<sz⟩
   |_=>ew
 |.ne p sz i j off=>match ed H p with
  |.inn _ sz' ins=>bif ti.agg then⟨.agg (((((ins.getD i []).getD j []).drop off).take ti.size).map .p),sz=sz'/\j<(ins.getD i []).length/\off+ti.size<=sz⟩
   else⟨tL ((ins.getD i []).getD j []) off,sz=sz'/\j<(ins.getD i []).length/\off<sz⟩
  |_=>ew
 |_=>ew

section
variable {K:Nat->Prop} {G:List Gh} {H:List Ob} {w:World} {P:Program}

theorem lc(b off n:Nat):(⟨b,off,none⟩:Addr).add n=⟨b,off+n,none⟩:=by
 unfold Addr.add;split
 .rename_i h;subst h;rfl
 .rfl

theorem IY{t:TypeId}{ti:Ti}(ht:ej P t=some ti){b off:Nat}{cs:Array Value}{T:TypeId}{fr:Nat×Nat}(hb:w.heap[b]?=some (.cells cs T fr))
  {vs:List Value} (hv:∀j v,vs[j]?=some v->cs[off+j]?=some v) :
  (ti.agg=true->ti.size<=vs.length->(loadVar t ⟨b,off,none⟩).run P w=.ok (.agg (vs.take ti.size).toArray) w) /\
  (ti.agg=false->∀v,vs[0]?=some v->(loadVar t ⟨b,off,none⟩).run P w=.ok v w):=by
 constructor
 .intro ha hs
  have hl:(vs.take ti.size).length=ti.size:=by simp;omega
  have h1:=run_loadCells_list (P:=P) w ⟨b,off,none⟩ (vs.take ti.size) (fun j v hj=>by
   rw[lc,cell_of_row w b (off+j) cs T fr hb]
   exact hv j v (by rw[getElem?_take]at hj;split at hj <;> simp_all))
  rw[hl]at h1;simp only[loadVar,Sem.run_bind,jh w ht,Result.andThen_ok,ha,if_true,run_sizeOf w ht,h1,Sem.run_pure]
 .intro ha v h0
  have hc:w.cell? ⟨b,off,none⟩=some v:=by rw[cell_of_row w b off cs T fr hb];simpa using hv 0 v h0
  simp[loadVar,jh w ht,ha,run_load,hc]

theorem CB{t:TypeId}{ti:Ti}(ht:ej P t=some ti){bo:Option Nat}{sv:Value}{T:TypeId}{sz i off b:Nat}{rows:List (List Dt)}(hbuf:bufR K w.heap bo sv T sz rows)(hgb:bo=some b)(hi:i<rows.length) :
  (ti.agg=true->off+ti.size<=sz->∃cs:List Value,(Instr.loadAt t (.pointer (some ⟨b,i*sz+off,none⟩))).run P w=.ok (.agg cs.toArray) w/\DRs K w.heap cs (((rows.getD i []).drop off).take ti.size)) /\
  (ti.agg=false->off<sz->∃c d,(Instr.loadAt t (.pointer (some ⟨b,i*sz+off,none⟩))).run P w=.ok c w/\(rows.getD i [])[off]?=some d/\DR K w.heap c d):=by
 obtain⟨hlim,xs,hxs,hh⟩:=hbuf
 rcases hh with⟨h1,_,h3⟩|⟨b',cap',cur,fr,h1,h2,hb,hfr,h4,h5,h6,h7⟩
 .rw[hgb]at h3;cases h3
 obtain rfl:b'=b:=by rw[hgb]at h2;exact(Option.some.inj h2).symm
 have hxl:=hxs.length;obtain⟨hd,hrl⟩:=hxs.get i hi
 have hvd:∀j v,(((xs.drop (i*sz)).take sz).drop off)[j]?=some v->cur[i*sz+off+j]?=some v:=fun j v hj=>by
  rw[getElem?_drop,getElem?_take]at hj;split at hj
  .rw[getElem?_drop,<-h7,getElem?_take]at hj
   split at hj
   .rw[<-Array.getElem?_toList,show i*sz+off+j=i*sz+(off+j)by omega];exact hj
   .cases hj
  .cases hj
 obtain⟨h1',h2'⟩:=IY (P:=P) ht hb hvd;have hdl:=hd.length;constructor
 .intro ha hoff
  exact⟨_,by simp only[Instr.loadAt,Instr.sureAddr,Sem.run_bind,Sem.run_pure,Result.andThen_ok];exact h1' ha (by rw[length_drop,hdl];omega),(hd.drop _).take _⟩
 .intro ha hoff'
  have hoff:off<(rows.getD i []).length:=by omega
  have hj:(rows.getD i [])[off]?=some (rows.getD i [])[off]:=getElem?_eq_getElem hoff;obtain⟨c,hc1,hc2⟩:=hd.get off _ hj;exact⟨c,_,by simp only[Instr.loadAt,Instr.sureAddr,Sem.run_bind,Sem.run_pure,Result.andThen_ok];exact h2' ha c (by rw[getElem?_drop];simpa using hc1),hj,hc2⟩
theorem kG{l:List Dt}{j:Nat}{d:Dt}(h:l[j]?=some d):tL l j=.p d:=by
 have hj:=(List.getElem?_eq_some_iff.1 h).1;unfold tL;rw[drop_eq_getElem_cons hj];rw[getElem?_eq_getElem hj]at h
 cases h;rfl
theorem xI{k:Nat}:∀{rows:List (List Dt)} {vs:List Value},vs.length=rows.length->(fy k rows vs).length=rows.length
 |[],[],_=>rfl
 |r::rows,v::vs,h=>by simp only[fy,length_cons,xI (by simpa using h)]
 |[],_::_,h=>by simp at h
 |_::_,[],h=>by simp at h
theorem wW{k:Nat}:∀{rows:List (List Dt)} {vs:List Value} {i:Nat},vs.length=rows.length->i<rows.length->(fy k rows vs)[i]?=some ((rows.getD i []).set k (.r (vs.getD i undef)))
 |[],_,_,_,h=>by simp at h
 |r::rows,v::vs,0,_,_=>by simp[fy]
 |r::rows,v::vs,i+1,h,hi=>by simpa [fy]using wW (k:=k) (rows:=rows) (vs:=vs) (by simpa using h) (by simpa using hi)
 |_::_,[],_,h,_=>by simp at h
theorem FQ{k:Nat}{rows:List (List Dt)}{vs:List Value}(hl:vs.length=rows.length):∀i,i<rows.length->(fy k rows vs).getD i []=(rows.getD i []).set k (.r (vs.getD i undef)):=fun i hi=>by
 rw[getD_eq_getElem?_getD,wW hl hi];rfl
theorem ka{v:Value}{x:Va}(hx:∀c,c=v->VR K w.heap G c x):∀{r:List Dt} {k:Nat} (off n:Nat) {cs:List Value},DRs K w.heap cs (((r.set k (.r v)).drop off).take n)->VRs K w.heap G cs ((((r.map Va.p).set k x).drop off).take n)
 |[],_,_,_,_,h=>by simpa [DRs,VRs]using h
 |_::_,_,0,0,_,h=>by simpa [DRs,VRs]using h
 |d::r,0,0,n+1,cs,h=>by
  simp only[set_cons_zero,drop_zero,take_succ_cons,map_cons,DRs,VRs,DR]at h|-;obtain⟨c,cs',rfl,h1,h2⟩:=h;refine⟨c,cs',rfl,hx c h1.1,?_⟩;rw[<-map_take];exact DRs.vrs h2
 |d::r,k+1,0,n+1,cs,h=>by
  simp only[set_cons_succ,drop_zero,take_succ_cons,map_cons,DRs,VRs]at h|-;obtain⟨c,cs',rfl,h1,h2⟩:=h;refine⟨c,cs',rfl,by simpa only[VR]using h1,?_⟩;have:=ka hx (r:=r) (k:=k) 0 n (cs:=cs') (by simpa using h2)
  simpa using this
 |d::r,0,off+1,n,cs,h=>by
  simp only[set_cons_zero,drop_succ_cons,map_cons]at h|-;rw[<-map_drop,<-map_take];exact DRs.vrs h
 |d::r,k+1,off+1,n,cs,h=>by
  simp only[set_cons_succ,drop_succ_cons,map_cons]at h|-;exact ka hx off n h

theorem l9{t:TypeId}{ti:Ti}(ht:ej P t=some ti)(hS:St K G H w){c:Value}{v:Va}(hc:VR K w.heap G c v)(hok:(jt ti H v).ok) :
  ∃c',(Instr.loadAt t c).run P w=.ok c' w/\VR K w.heap G c' (jt ti H v).v:=by
 cases v <;> simp only[jt]at hok|- <;> try (exact hok.elim)
 case rp row =>
  simp only[VR]at hc;obtain⟨b,off,cs,T,fr,vs,rfl,hK,hb,hv,hd⟩:=hc;obtain⟨h1,h2⟩:=IY (P:=P) ht hb hv
  cases ha:ti.agg <;> simp only[ha,cond_true,cond_false]at hok|-
  .cases row with
   |nil=>simp at hok
   |cons d row =>
    simp only[DRs]at hd;obtain⟨v,vs',rfl,hd1,_⟩:=hd;exact⟨v,by simp[Instr.loadAt,Instr.sureAddr,h2 ha v rfl],by simpa [tL,VR]using hd1⟩
  .refine⟨_,by simp only[Instr.loadAt,Instr.sureAddr,Sem.run_bind,Sem.run_pure,Result.andThen_ok];exact h1 ha (by rw[hd.length];exact hok),?_⟩
   simp only[VR];exact⟨_,rfl,(hd.take _).vrs⟩
 case ptr o off =>
  split at hok
  rotate_left
  .exact hok.elim
  rename_i hx
  rename_i vs
  simp only[VR]at hc;obtain⟨g,b,hg,hgb,rfl⟩:=hc;have hob:=hS.ob o g _ hg (zn hx (by simp));obtain⟨b',cs,hb',hb,hvs⟩:=hob
  obtain rfl:b'=b:=by rw[hgb]at hb';exact(Option.some.inj hb').symm
  have hvd:∀j v,(cs.drop off)[j]?=some v->cs.toArray[off+j]?=some v:=fun j v hj=>by rw[getElem?_drop]at hj;simpa using hj
  obtain⟨h1,h2⟩:=IY (P:=P) ht hb hvd;have hl:=hvs.length
  cases ha:ti.agg <;> simp only[ha,cond_true,cond_false]at hok|-
  .have hj:vs[off]?=some vs[off]:=getElem?_eq_getElem hok
   obtain⟨c,hc1,hc2⟩:=hvs.get off _ hj;refine⟨c,by simp only[Instr.loadAt,Instr.sureAddr,Sem.run_bind,Sem.run_pure,Result.andThen_ok];exact h2 ha c (by rw[getElem?_drop];simpa using hc1),?_⟩;have:vs.drop off=vs[off]::vs.drop (off+1):=drop_eq_getElem_cons hok
   unfold rl;rw[this];exact hc2
  .refine⟨_,by simp only[Instr.loadAt,Instr.sureAddr,Sem.run_bind,Sem.run_pure,Result.andThen_ok];exact h1 ha (by simp;omega),?_⟩
   simp only[VR];exact⟨_,rfl,(hvs.drop _).take _⟩
 case el o sz i off =>
  simp only[VR]at hc;obtain⟨g,b,n,cap,hg,hgb,hsv,rfl⟩:=hc;split at hok
  .rename_i T sz' rows fx hx
   have hsz:sz=sz'/\i<rows.length:=by cases ha:ti.agg <;> simp only[ha,cond_true,cond_false]at hok <;> exact⟨hok.1,hok.2.1⟩
   obtain⟨rfl,hi⟩:=hsz;obtain⟨h1,h2⟩:=CB (P:=P) (off:=off) ht (hS.bufOb hx hg) hgb hi
   cases ha:ti.agg <;> simp only[ha,cond_true,cond_false]at hok|-
   .obtain⟨c,d,e1,e2,e3⟩:=h2 ha hok.2.2
    refine⟨c,e1,?_⟩
    rw[kG e2];simpa only[VR]using e3
   .obtain⟨cs,e1,e2⟩:=h1 ha hok.2.2
    refine⟨_,e1,?_⟩;simp only[VR];exact⟨cs,rfl,e2.vrs⟩
  .split at hok
   rotate_left
   .exact hok.elim
   rename_i f T sz' k p rows st hx
   obtain⟨h0,hk,gp,vs,hgp,hvl,hst,hbuf⟩:=hS.ob o g _ hg (zn hx (by simp));have hov:=FQ (k:=k) hvl;have hol:=xI (k:=k) hvl
   cases ha:ti.agg <;> simp only[ha,cond_true,cond_false]at hok|-
   .cases hkk:(off == k) <;> simp only[hkk,cond_true,cond_false]at hok|-
    .obtain⟨rfl,hi,hoff⟩:=hok
     obtain⟨_,h2⟩:=CB (P:=P) (off:=off) ht hbuf hgb (by rw[hol];exact hi);obtain⟨c,d,e1,e2,e3⟩:=h2 ha hoff;refine⟨c,e1,?_⟩;rw[hov i hi,getElem?_set_ne (fun e=>by simp[e]at hkk)]at e2
     rw[kG e2];simpa only[VR]using e3
    .obtain⟨rfl,hi,rfl⟩:=hok
     obtain rfl:off=k:=by simpa using hkk
     obtain⟨_,h2⟩:=CB (P:=P) (off:=off) ht hbuf hgb (by rw[hol];exact hi);obtain⟨c,d,e1,e2,e3⟩:=h2 ha hk
     have hvi:vs[i]?=some (vs.getD i undef):=by rw[getD_eq_getElem?_getD,getElem?_eq_getElem (by omega)];rfl
     rw[hov i hi]at e2
     have hd:d=.r (vs.getD i undef):=by
      rw[getElem?_set_self (by
       have:=(List.getElem?_eq_some_iff.1 e2).1
       simpa using this)]at e2
      exact(Option.some.inj e2).symm
     subst hd;simp only[DR]at e3
     have hgi:gp.inn[i]?=some (vs.getD i undef):=by rw[<-hst.2.1 i (by simp)];exact hvi
     obtain⟨a,m,cp,hv⟩:=hst.2.2 _ (mem_of_getElem? hgi);refine⟨c,e1,?_⟩;simp only[VR];exact⟨gp,a,m,cp,hgp,by rw[hgi,hv],by rw[e3.1,hv]⟩
   .obtain⟨rfl,hi,hoff,rfl⟩:=hok
    obtain⟨h1,_⟩:=CB (P:=P) (off:=off) ht hbuf hgb (by rw[hol];exact hi);obtain⟨cs,e1,e2⟩:=h1 ha hoff;refine⟨_,e1,?_⟩
    have hvi:vs[i]?=some (vs.getD i undef):=by rw[getD_eq_getElem?_getD,getElem?_eq_getElem (by omega)];rfl
    have hgi:gp.inn[i]?=some (vs.getD i undef):=by rw[<-hst.2.1 i (by simp)];exact hvi
    obtain⟨a,m,cp,hv⟩:=hst.2.2 _ (mem_of_getElem? hgi);rw[hov i hi]at e2;simp only[VR];refine⟨cs,rfl,ka (fun c hc=>?_) off ti.size e2⟩;simp only[VR];exact⟨gp,a,m,cp,hgp,by rw[hgi,hv],by rw[hc,hv]⟩
 case ne p sz i j off =>
  simp only[VR]at hc;obtain⟨g,b,n,cap,hg,hgi,rfl⟩:=hc;split at hok
  rotate_left
  .exact hok.elim
  rename_i T sz' ins hx
  obtain⟨hb0,hl,hin,_⟩:=hS.ob p g _ hg (zn hx (by simp));have hil:=(List.getElem?_eq_some_iff.1 hgi).1
  have hins:ins[i]?=some (ins.getD i []):=by rw[getElem?_eq_getElem (by omega),getD_eq_getElem?_getD,getElem?_eq_getElem (by omega)];rfl
  have hbuf:=hin i _ _ hgi hins
  have hsz:sz=sz'/\j<(ins.getD i []).length:=by cases ha:ti.agg <;> simp only[ha,cond_true,cond_false]at hok <;> exact⟨hok.1,hok.2.1⟩
  obtain⟨rfl,hj⟩:=hsz;obtain⟨h1,h2⟩:=CB (P:=P) (off:=off) ht hbuf rfl hj
  cases ha:ti.agg <;> simp only[ha,cond_true,cond_false]at hok|-
  .obtain⟨c,d,e1,e2,e3⟩:=h2 ha hok.2.2
   refine⟨c,e1,?_⟩
   rw[kG e2];simpa only[VR]using e3
  .obtain⟨cs,e1,e2⟩:=h1 ha hok.2.2
   refine⟨_,e1,?_⟩;simp only[VR];exact⟨cs,rfl,e2.vrs⟩
end

inductive Kd where
 |b|s|i (k:IntKind)
mutual
def gG(P:Program):Nat->TypeId->Option (List Kd)
 |0,_=>none
 |d+1,t=>match P.underlying t with
  |some .bool=>if gO P t=some 1 then some [.b]else none
  |some (.int k)=>if gO P t=some 1 then some [.i k]else none
  |some .string=>if gO P t=some 1 then some [.s]else none
  |some (.struct fs)=>if P.stoodInHeld t then none else match kM P d 0 fs.toList with
   |some l=>if gO P t=some l.length then some l else none
   |none=>none
  |_=>none
termination_by structural d=>d
def kM(P:Program):Nat->Nat->List Field->Option (List Kd)
 |_,_,[]=>some []
 |0,_,_=>none
 |d+1,off,f::fs=>if f.name= "_"∨f.offset≠off then none else match gG P d f.type with
  |some l=>match kM P d (off+l.length) fs with
   |some l'=>some (l++l')
   |none=>none
  |none=>none
termination_by structural d=>d
end
def gU(P:Program)(t:TypeId):Option (List Kd):=match P.underlying t with
 |some (.array n e)=>match P.underlying e with
  |some (.int k)=>if gO P e=some 1/\P.cellsOf e=1 then some (List.replicate n (.i k))else none
  |_=>none
 |_=>none
def vC(P:Program)(t:TypeId):Option (List Kd):=if P.eqGuardType P.depth t then none else match gU P t with
 |some l=>some l
 |none=>gG P 60 t

def zD:List Kd->List Dt->Prop
 |[],[]=>True
 |.b::ks,.b _::ds=>zD ks ds
 |.s::ks,.s _::ds=>zD ks ds
 |.i k::ks,.i k' _::ds=>k=k'/\zD ks ds
 |_,_=>False
def fb:List Dt->List Dt->Bool
 |[],[]=>true
 |.b x::ds,.b y::es=>decide (x=y)&&fb ds es
 |.s x::ds,.s y::es=>decide (x=y)&&fb ds es
 |.i _ x::ds,.i _ y::es=>decide (x=y)&&fb ds es
 |_,_=>false

theorem B3:∀{ks:List Kd} {ds:List Dt},zD ks ds->ds.length=ks.length
 |[],[],_=>rfl
 |.b::ks,.b _::ds,h=>by simp only[zD]at h;simp[B3 h]
 |.s::ks,.s _::ds,h=>by simp only[zD]at h;simp[B3 h]
 |.i k::ks,.i k' _::ds,h=>by simp only[zD]at h;simp[B3 h.2]
 |[],_::_,h=>by simp[zD]at h
 |.b::_,[],h=>by simp[zD]at h
 |.s::_,[],h=>by simp[zD]at h
 |.i _::_,[],h=>by simp[zD]at h
 |.b::_,.s _::_,h=>by simp[zD]at h
 |.b::_,.i _ _::_,h=>by simp[zD]at h
 |.b::_,.l _::_,h=>by simp[zD]at h
 |.b::_,.a _::_,h=>by simp[zD]at h
 |.s::_,.b _::_,h=>by simp[zD]at h
 |.s::_,.i _ _::_,h=>by simp[zD]at h
 |.s::_,.l _::_,h=>by simp[zD]at h
 |.s::_,.a _::_,h=>by simp[zD]at h
 |.i _::_,.b _::_,h=>by simp[zD]at h
 |.i _::_,.s _::_,h=>by simp[zD]at h
 |.i _::_,.l _::_,h=>by simp[zD]at h
 |.i _::_,.a _::_,h=>by simp[zD]at h
theorem B2:∀{ks ks':List Kd} {ds:List Dt},zD (ks++ks') ds->zD ks (ds.take ks.length)/\zD ks' (ds.drop ks.length)
 |[],ks',ds,h=>by simpa [zD]using h
 |.b::ks,ks',.b x::ds,h=>by
  simp only[cons_append,zD]at h
  simpa [zD]using B2 h
 |.s::ks,ks',.s x::ds,h=>by
  simp only[cons_append,zD]at h
  simpa [zD]using B2 h
 |.i k::ks,ks',.i k' x::ds,h=>by
  simp only[cons_append,zD]at h;obtain⟨h1,h2⟩:=h;have:=B2 h2;simp only[length_cons,take_succ_cons,drop_succ_cons,zD];exact⟨⟨h1,this.1⟩,this.2⟩
 |.b::_,_,[],h=>by simp[zD]at h
 |.s::_,_,[],h=>by simp[zD]at h
 |.i _::_,_,[],h=>by simp[zD]at h
 |.b::_,_,.s _::_,h=>by simp[zD]at h
 |.b::_,_,.i _ _::_,h=>by simp[zD]at h
 |.b::_,_,.l _::_,h=>by simp[zD]at h
 |.b::_,_,.a _::_,h=>by simp[zD]at h
 |.s::_,_,.b _::_,h=>by simp[zD]at h
 |.s::_,_,.i _ _::_,h=>by simp[zD]at h
 |.s::_,_,.l _::_,h=>by simp[zD]at h
 |.s::_,_,.a _::_,h=>by simp[zD]at h
 |.i _::_,_,.b _::_,h=>by simp[zD]at h
 |.i _::_,_,.s _::_,h=>by simp[zD]at h
 |.i _::_,_,.l _::_,h=>by simp[zD]at h
 |.i _::_,_,.a _::_,h=>by simp[zD]at h
theorem Gr:∀{ks:List Kd} {ds es:List Dt} (ds' es':List Dt),zD ks ds->zD ks es->fb (ds++ds') (es++es')=(fb ds es&&fb ds' es')
 |[],[],[],_,_,_,_=>by simp[fb]
 |.b::ks,.b x::ds,.b y::es,ds',es',h,h'=>by
  simp only[zD]at h h';simp[fb,Gr ds' es' h h',Bool.and_assoc]
 |.s::ks,.s x::ds,.s y::es,ds',es',h,h'=>by
  simp only[zD]at h h';simp[fb,Gr ds' es' h h',Bool.and_assoc]
 |.i k::ks,.i k1 x::ds,.i k2 y::es,ds',es',h,h'=>by
  simp only[zD]at h h';simp[fb,Gr ds' es' h.2 h'.2,Bool.and_assoc]
 |[],_::_,_,_,_,h,_=>by simp[zD]at h
 |[],[],_::_,_,_,_,h=>by simp[zD]at h
 |.b::_,[],_,_,_,h,_=>by simp[zD]at h
 |.s::_,[],_,_,_,h,_=>by simp[zD]at h
 |.i _::_,[],_,_,_,h,_=>by simp[zD]at h
 |.b::_,.s _::_,_,_,_,h,_=>by simp[zD]at h
 |.b::_,.i _ _::_,_,_,_,h,_=>by simp[zD]at h
 |.b::_,.l _::_,_,_,_,h,_=>by simp[zD]at h
 |.b::_,.a _::_,_,_,_,h,_=>by simp[zD]at h
 |.s::_,.b _::_,_,_,_,h,_=>by simp[zD]at h
 |.s::_,.i _ _::_,_,_,_,h,_=>by simp[zD]at h
 |.s::_,.l _::_,_,_,_,h,_=>by simp[zD]at h
 |.s::_,.a _::_,_,_,_,h,_=>by simp[zD]at h
 |.i _::_,.b _::_,_,_,_,h,_=>by simp[zD]at h
 |.i _::_,.s _::_,_,_,_,h,_=>by simp[zD]at h
 |.i _::_,.l _::_,_,_,_,h,_=>by simp[zD]at h
 |.i _::_,.a _::_,_,_,_,h,_=>by simp[zD]at h
 |.b::_,.b _::_,[],_,_,_,h=>by simp[zD]at h
 |.s::_,.s _::_,[],_,_,_,h=>by simp[zD]at h
 |.i _::_,.i _ _::_,[],_,_,_,h=>by simp[zD]at h
 |.b::_,.b _::_,.s _::_,_,_,_,h=>by simp[zD]at h
 |.b::_,.b _::_,.i _ _::_,_,_,_,h=>by simp[zD]at h
 |.b::_,.b _::_,.l _::_,_,_,_,h=>by simp[zD]at h
 |.b::_,.b _::_,.a _::_,_,_,_,h=>by simp[zD]at h
 |.s::_,.s _::_,.b _::_,_,_,_,h=>by simp[zD]at h
 |.s::_,.s _::_,.i _ _::_,_,_,_,h=>by simp[zD]at h
 |.s::_,.s _::_,.l _::_,_,_,_,h=>by simp[zD]at h
 |.s::_,.s _::_,.a _::_,_,_,_,h=>by simp[zD]at h
 |.i _::_,.i _ _::_,.b _::_,_,_,_,h=>by simp[zD]at h
 |.i _::_,.i _ _::_,.s _::_,_,_,_,h=>by simp[zD]at h
 |.i _::_,.i _ _::_,.l _::_,_,_,_,h=>by simp[zD]at h
 |.i _::_,.i _ _::_,.a _::_,_,_,_,h=>by simp[zD]at h

def k9(P:Program)(t:TypeId)(xs:List Value):Value:=if eM P t then .agg xs.toArray else xs.getD 0 undef

section
variable {K:Nat->Prop} {h:Array Obj} {P:Program} (w:World)
theorem BF{t:TypeId}{n:Nat}(hn:gO P t=some n){d:TypeDesc}(hd:P.underlying t=some d)(xs:List Value)(off:Nat)(hl:off+n<=xs.length)(h1:eM P t=false->n=1) :
  (part t xs.toArray off).run P w=.ok (k9 P t ((xs.drop off).take n)) w:=by
 unfold gO at hn
 cases hi:P.info? t with
 |none=>simp[hi]at hn
 |some i =>
  simp[hi]at hn
  have hag:(isAgg t).run P w=.ok (eM P t) w:=by
   simp only[isAgg,underlying,eM,Sem.run_bind,run_program,Result.andThen_ok,hd]
   cases d <;> rfl
  unfold part k9;simp only[Sem.run_bind,hag,Result.andThen_ok];cases ha:eM P t
  .have h1':=h1 ha
   subst h1'
   have hj:off<xs.length:=by omega
   simp[getElem?_eq_getElem hj,List.getD,getElem?_drop]
  .simp only[if_true,sizeOf,typeInfo,Sem.run_bind,run_program,Result.andThen_ok,hi,Sem.run_pure,hn]
   simp
mutual
theorem Hy:∀(d:Nat) {t:TypeId} {ks:List Kd} (e:Nat) {xs ys:List Value} {ds es:List Dt},gG P d t=some ks->DRs K h xs ds->DRs K h ys es->zD ks ds->zD ks es ->
  (Op.equalIn (d+e) t (k9 P t xs) (k9 P t ys)).run P w=.ok (fb ds es) w
 |0,t,ks,e,xs,ys,ds,es,hk,_,_,_,_=>by simp[gG]at hk
 |d+1,t,ks,e,xs,ys,ds,es,hk,hx,hy,h1,h2=>by
  rw[show d+1+e=(d+e)+1 by omega];unfold gG at hk;split at hk
  .rename_i hu
   split at hk
   rotate_left
   .cases hk
   cases hk
   match ds,es,h1,h2 with
   |[.b x],[.b y],_,_ =>
    simp only[DRs,DR]at hx hy;obtain⟨_,_,rfl,rfl,rfl⟩:=hx;obtain⟨_,_,rfl,rfl,rfl⟩:=hy;simp[k9,eM,hu,run_equalIn_bool' _ _ _ _ _ hu,fb,yx]
  .rename_i k hu
   split at hk
   rotate_left
   .cases hk
   cases hk
   match ds,es,h1,h2 with
   |[.i k1 x],[.i k2 y],h1,h2 =>
    simp only[zD]at h1 h2;obtain⟨rfl,_⟩:=h1;obtain⟨rfl,_⟩:=h2;simp only[DRs,DR]at hx hy;obtain⟨_,_,rfl,⟨rfl,_⟩,rfl⟩:=hx;obtain⟨_,_,rfl,⟨rfl,_⟩,rfl⟩:=hy;simp[k9,eM,hu,run_equalIn_int _ _ _ _ _ _ _ hu,fb,yx]
  .rename_i hu
   split at hk
   rotate_left
   .cases hk
   cases hk
   match ds,es,h1,h2 with
   |[.s x],[.s y],_,_ =>
    simp only[DRs,DR]at hx hy;obtain⟨_,_,rfl,⟨rfl,_⟩,rfl⟩:=hx;obtain⟨_,_,rfl,⟨rfl,_⟩,rfl⟩:=hy;simp[k9,eM,hu,run_equalIn_string _ _ _ _ _ hu,fb,yx]
  .rename_i fs hu
   have hag:eM P t=true:=by simp[eM,hu]
   have hfo:P.fieldsOf t=fs:=by simp[Program.fieldsOf,hu]
   split at hk
   .cases hk
   rename_i hp
   split at hk
   .rename_i l hl
    split at hk
    .cases hk
     simp only[k9,hag,if_true];rw[run_equalIn_struct w (d+e) t _ _ (by rw[hfo];exact hu) (by simpa using hp),hfo];have:=lP d e (xs:=xs) (ys:=ys) 0 (Nat.zero_le _) (Nat.zero_le _) hl (by simpa using hx) (by simpa using hy) h1 h2
     simpa using this
    .cases hk
   .cases hk
  .cases hk
theorem lP:∀(d:Nat) (e:Nat) {fs:List Field} {ks:List Kd} {xs ys:List Value} {ds es:List Dt} (off:Nat),off<=xs.length->off<=ys.length->kM P d off fs=some ks->DRs K h (xs.drop off) ds->DRs K h (ys.drop off) es->zD ks ds->zD ks es ->
  (Op.eqFields (d+e) xs.toArray ys.toArray fs).run P w=.ok (fb ds es) w
 |d,e,[],ks,xs,ys,ds,es,off,_,_,hk,_,_,h1,h2=>by
  cases d <;> (simp only[kM]at hk;cases hk)
  all_goals
   match ds,es,h1,h2 with
   |[],[],_,_=>simp[Op.eqFields,fb]
 |0,e,f::fs,ks,xs,ys,ds,es,off,_,_,hk,_,_,_,_=>by simp[kM]at hk
 |d+1,e,f::fs,ks,xs,ys,ds,es,off,ox,oy,hk,hx,hy,h1,h2=>by
  unfold kM at hk;split at hk
  .cases hk
  rename_i hn
  have hname:¬ f.name= "_":=fun e=>hn (.inl e)
  have hoff:f.offset=off:=Decidable.byContradiction fun e=>hn (.inr e)
  split at hk
  .rename_i l hl
   split at hk
   .rename_i l' hl'
    cases hk;obtain⟨h1a,h1b⟩:=B2 h1;obtain⟨h2a,h2b⟩:=B2 h2;have lx:=B3 h1;have ly:=B3 h2;have lx':=hx.length;have ly':=hy.length;simp only[length_drop,length_append]at lx ly lx' ly';obtain⟨hsz,hone,du,hdu⟩:=jC d hl;have hpx:=BF (P:=P) w hsz hdu xs off (by omega) hone;have hpy:=BF (P:=P) w hsz hdu ys off (by omega) hone;have hq:=Hy d (t:=f.type) (e+1) hl (hx.take l.length) (hy.take l.length) h1a h2a;have hr:=lP d (e+1) (xs:=xs) (ys:=ys) (off+l.length) (by omega) (by omega) hl' (by simpa [drop_drop]using hx.drop l.length) (by simpa [drop_drop]using hy.drop l.length) h1b h2b
    have hrow:fb ds es=(fb (ds.take l.length) (es.take l.length)&&fb (ds.drop l.length) (es.drop l.length)):=by
     rw[<-Gr _ _ h1a h2a,take_append_drop,take_append_drop]
    rw[hrow];rw[show d+1+e=d+(e+1)by omega];simp only[Op.eqFields,hname,ne_eq,not_false_eq_true,if_true,hoff,Sem.run_bind,hpx,hpy,hq,Result.andThen_ok];cases hb:fb (ds.take l.length) (es.take l.length)
    .simp
    .simpa using hr
   .cases hk
  .cases hk
theorem jC:∀(d:Nat) {t:TypeId} {ks:List Kd},gG P d t=some ks->gO P t=some ks.length/\(eM P t=false->ks.length=1)/\∃u,P.underlying t=some u
 |0,t,ks,hk=>by simp[gG]at hk
 |d+1,t,ks,hk=>by
  unfold gG at hk;split at hk
  .rename_i hu
   split at hk
   .rename_i hs;cases hk;exact⟨hs,fun _=>rfl,_,hu⟩
   .cases hk
  .rename_i hu
   split at hk
   .rename_i hs;cases hk;exact⟨hs,fun _=>rfl,_,hu⟩
   .cases hk
  .rename_i hu
   split at hk
   .rename_i hs;cases hk;exact⟨hs,fun _=>rfl,_,hu⟩
   .cases hk
  .rename_i fs hu
   split at hk
   .cases hk
   split at hk
   .rename_i l hl
    split at hk
    .rename_i hs;cases hk;exact⟨hs,fun h=>by simp[eM,hu]at h,_,hu⟩
    .cases hk
   .cases hk
  .cases hk
end

theorem Il{e:TypeId}{k:IntKind}(hu:P.underlying e=some (.int k))(hn:gO P e=some 1)(d:Nat)(xs ys:List Value):∀(m off:Nat) (ds es:List Dt),DRs K h (xs.drop off) ds->DRs K h (ys.drop off) es->zD (List.replicate m (.i k)) ds->zD (List.replicate m (.i k)) es ->
  (Op.eqItems (d+1) e 1 xs.toArray ys.toArray (List.range' off m)).run P w=.ok (fb ds es) w
 |0,off,ds,es,_,_,h1,h2=>by
  match ds,es,h1,h2 with
  |[],[],_,_=>simp[Op.eqItems,fb]
 |m+1,off,ds,es,hx,hy,h1,h2=>by
  rw[replicate_succ]at h1 h2
  match ds,es,h1,h2 with
  |.i k1 x::ds,.i k2 y::es,h1,h2 =>
   simp only[zD]at h1 h2;obtain⟨rfl,h1⟩:=h1;obtain⟨rfl,h2⟩:=h2;have lx:=hx.length;have ly:=hy.length;simp only[length_drop,length_cons]at lx ly
   have hag:eM P e=false:=by simp[eM,hu]
   have px:=BF (P:=P) w hn hu xs off (by omega) fun _=>rfl
   have py:=BF (P:=P) w hn hu ys off (by omega) fun _=>rfl
   have hx1:=hx.take 1;have hy1:=hy.take 1;simp only[take_succ_cons,take_zero,DRs,DR]at hx1 hy1;obtain⟨_,_,ex,⟨rfl,_⟩,rfl⟩:=hx1;obtain⟨_,_,ey,⟨rfl,_⟩,rfl⟩:=hy1;have hr:=Il hu hn d xs ys m (off+1) ds es (by simpa [drop_drop]using hx.drop 1) (by simpa [drop_drop]using hy.drop 1) h1 h2;rw[List.range'_succ];simp only[k9,hag,ex,ey,Bool.false_eq_true,if_false,getD_cons_zero]at px py;simp only[Op.eqItems,Nat.mul_one,Sem.run_bind,px,py,Result.andThen_ok,run_equalIn_int _ _ _ _ _ _ _ hu]
   by_cases e:x=y
   .subst e;simpa [fb]using hr
   .simp[fb,e]
theorem ji{t:TypeId}{ks:List Kd}(hk:vC P t=some ks)(ha:eM P t=true){xs ys:List Value}{ds es:List Dt}(hx:DRs K h xs ds)(hy:DRs K h ys es)(h1:zD ks ds)(h2:zD ks es)(x y:Operand) :
  (do eqGuard .eql t x y (.agg xs.toArray) (.agg ys.toArray);binOp .eql t (.agg xs.toArray) (.agg ys.toArray):Sem Value).run P w=.ok (.bool (fb ds es)) w /\
  (do eqGuard .neq t x y (.agg xs.toArray) (.agg ys.toArray);binOp .neq t (.agg xs.toArray) (.agg ys.toArray):Sem Value).run P w=.ok (.bool (!fb ds es)) w:=by
 unfold vC at hk;split at hk
 .cases hk
 rename_i hg
 have hg':P.eqGuardType P.depth t=false:=by simpa using hg
 have hq:(Op.equalIn (60+9940) t (.agg xs.toArray) (.agg ys.toArray)).run P w=.ok (fb ds es) w:=by
  split at hk
  .rename_i l hl
   cases hk;unfold gU at hl;split at hl
   rotate_left
   .cases hl
   rename_i n e hu
   split at hl
   rotate_left
   .cases hl
   rename_i k hk
   split at hl
   rotate_left
   .cases hl
   rename_i hs
   cases hl;obtain⟨i,hi,_⟩:=Option.map_eq_some_iff.1 hs.1;rw[show 60+9940=9999+1 from rfl,run_equalIn_array w 9999 _ _ hu hi,hs.2,range_eq_range'];exact Il w hk hs.1 9998 xs ys n 0 ds es hx hy h1 h2
  .have hq:=Hy (P:=P) w 60 (t:=t) 9940 hk hx hy h1 h2
   simpa only[k9,ha,if_true]using hq
 constructor
 .simp only[Sem.run_bind,run_eqGuard_agg _ _ _ _ _ _ _ hg',Result.andThen_ok,run_eql_struct]
  rw[show(10000:Nat)=60+9940 from rfl,hq];rfl
 .simp only[Sem.run_bind,run_eqGuard_agg _ _ _ _ _ _ _ hg',Result.andThen_ok,run_neq_struct]
  rw[show(10000:Nat)=60+9940 from rfl,hq];rfl
end

def zr:List Value->List Dt
 |.bool x::l=>.b x::zr l
 |.int k n::l=>.i k n::zr l
 |.string s::l=>.s s.data.toList::zr l
 |.slice none 0 0::l=>.l []::zr l
 |_=>[]
def CU(ti:Ti)(H:List Ob)(x i:Va):Pv:=match i with
 |.p (.i _ n)=>match ti.kind,x with
  |.slice _ esz _ ez,.p (.l rows)=>⟨.rp (rows.getD n.toNat (zr ez)),(rows.getD n.toNat (zr ez)).length=esz/\0<=n/\n<rows.length⟩
  |.slice _ esz _ ez,.full rows=>⟨.rp (rows.getD n.toNat (zr ez)),(rows.getD n.toNat (zr ez)).length=esz/\0<=n/\n<rows.length⟩
  |.slice _ esz _ _,.buf o=>match qc H o with
   |some (_,sz,rows,_)=>⟨.el o sz n.toNat 0,sz=esz/\0<=n/\n<rows.length⟩
   |none=>match ed H o with
    |.nst _ _ sz _ _ rows _=>⟨.el o sz n.toNat 0,sz=esz/\0<=n/\n<rows.length⟩
    |_=>ew
  |.slice _ esz _ _,.nv p j=>match ed H p with
   |.inn _ sz ins=>⟨.ne p sz j n.toNat 0,sz=esz/\0<=n/\n<(ins.getD j []).length⟩
   |_=>ew
  |.slice _ esz _ _,.vw o sz a m=>match qc H o with
   |some (_,sz',_,_)=>⟨.el o sz (a+n.toNat) 0,sz=esz/\sz=sz'/\0<=n/\n<m⟩
   |none=>ew
  |.slice _ esz _ _,.cs o m=>⟨.ptr o n.toNat,esz=1/\0<=n/\n<m⟩
  |.arr len _ esz _,.ptr o off=>match ed H o with
   |.buf _ sz rows=>⟨.el o sz n.toNat 0,sz=esz/\off=0/\len=rows.length/\0<=n/\n<len⟩
   |_=>⟨.ptr o (off+n.toNat * esz),0<=n/\n<len⟩
  |.arr len _ esz _,.rp row=>⟨.rp (row.drop (n.toNat * esz)),0<=n/\n<len⟩
  |.arr len _ esz _,.raw (.pointer (some ⟨b,0,none⟩))=>match Tabs.tab b with
   |some (k,l)=>⟨.rp [.i k (l.getD n.toNat 0)],esz=1/\l.length=len/\0<=n/\n<len⟩
   |none=>ew
  |_,_=>ew
 |_=>ew
def C3(ti:Ti)(f:Nat)(x:Va):Pv:=match ti.kind with
 |.struct fs=>match fs[f]? with
  |some (fo,fsz,_)=>match x with
   |.ptr o off=>⟨.ptr o (off+fo),0<fsz⟩
   |.rp row=>⟨.rp (row.drop fo),0<fsz⟩
   |.el o sz i off=>⟨.el o sz i (off+fo),0<fsz⟩
   |.ne o sz i j off=>⟨.ne o sz i j (off+fo),0<fsz⟩
   |_=>ew
  |none=>ew
 |_=>ew
def iG(ti:Ti)(f:Nat)(x:Va):Pv:=match ti.kind,x with
 |.struct fs,.agg cs=>match fs[f]? with
  |some (fo,fsz,ag)=>bif ag then⟨.agg ((cs.drop fo).take fsz),True⟩else⟨rl cs fo,fo<cs.length⟩
  |none=>ew
 |_,_=>ew
def iB(ti:Ti)(x i:Va):Pv:=match ti.kind,x,i with
 |.str,.p (.s s),.p (.i _ n)=>⟨.p (.i .u8 (s.getD n.toNat 0).toNat),0<=n/\n<s.length⟩
 |.arr len _ esz ag,.agg cs,.p (.i _ n)=>bif ag then⟨.agg ((cs.drop (n.toNat * esz)).take esz),0<=n/\n<len⟩else⟨rl cs (n.toNat * esz),0<=n/\n<len/\n.toNat * esz<cs.length⟩
 |_,_,_=>ew
def CS(x:Va)(i:Nat):Pv:=match x with
 |.tup vs=>⟨rl vs i,i<vs.length⟩
 |_=>ew

theorem kY{l:List Va}{j:Nat}(h:j<l.length):l[j]?=some (rl l j):=by
 unfold rl;rw[drop_eq_getElem_cons h];exact getElem?_eq_getElem h

theorem Ie{P:Program}:∀{fs:List Field} {l:List (Nat×Nat×Bool)},vK P fs=some l->∀{f:Nat} {x:Nat×Nat×Bool},l[f]?=some x->∃fd,fs[f]?=some fd/\fd.offset=x.1/\gO P fd.type=some x.2.1/\eM P fd.type=x.2.2/\∃d,P.underlying fd.type=some d
 |[],l,h,f,x,hx=>by simp only[vK]at h;cases h;simp at hx
 |fd::fs,l,h,f,x,hx=>by
  simp only[vK]at h;split at h
  .rename_i n d l' h1 h3 h2
   cases h
   cases f with
   |zero=>simp at hx;subst hx;exact⟨fd,rfl,rfl,h1,rfl,_,h3⟩
   |succ f=>simp at hx;simpa using Ie h2 hx
  .cases h

section
variable {K:Nat->Prop} {G:List Gh} {H:List Ob} {w:World} {P:Program}

theorem HW{t:TypeId}{ti:Ti}(ht:ej P t=some ti){fs:List (Nat×Nat×Bool)}(hk:ti.kind=.struct fs):∃fields,P.underlying t=some (.struct fields)/\vK P fields.toList=some fs:=by
 obtain⟨d,h1,h2,h3⟩:=rT ht;rw[hk]at h2
 cases d <;> simp only[sr]at h2 <;> try (cases h2)
 case slice e=>split at h2 <;> cases h2
 case array n e=>split at h2 <;> cases h2
 case struct fields =>
  split at h2
  .cases h2;exact⟨fields,h1,by assumption⟩
  .cases h2
theorem iT{t:TypeId}{ti:Ti}(ht:ej P t=some ti){e esz eb:Nat}{ez:List Value}(hk:ti.kind=.slice e esz eb ez):P.underlying t=some (.slice e)/\(∃i,P.info? e=some i/\i.size=esz/\i.bytes=eb)/\vb P e=some ez:=by
 obtain⟨d,h1,h2,h3⟩:=rT ht;rw[hk]at h2
 cases d <;> simp only[sr]at h2 <;> try (cases h2)
 case array n e=>split at h2 <;> cases h2
 case struct fields=>split at h2 <;> cases h2
 case slice e' =>
  split at h2
  .cases h2;exact⟨h1,⟨_,by assumption,rfl,rfl⟩,by assumption⟩
  .cases h2
theorem yn{t:TypeId}{ti:Ti}(ht:ej P t=some ti){n e esz:Nat}{ag:Bool}(hk:ti.kind=.arr n e esz ag):P.underlying t=some (.array n e)/\gO P e=some esz/\eM P e=ag/\∃d,P.underlying e=some d:=by
 obtain⟨d,h1,h2,h3⟩:=rT ht;rw[hk]at h2
 cases d <;> simp only[sr]at h2 <;> try (cases h2)
 case slice e=>split at h2 <;> cases h2
 case struct fields=>split at h2 <;> cases h2
 case array n' e' =>
  split at h2
  .cases h2;exact⟨h1,by assumption,rfl,_,by assumption⟩
  .cases h2
theorem yp{t:TypeId}{ti:Ti}(ht:ej P t=some ti)(hk:ti.kind=.str):P.underlying t=some .string:=by
 obtain⟨d,h1,h2,h3⟩:=rT ht;rw[hk]at h2
 cases d <;> simp only[sr]at h2 <;> try (cases h2)
 case slice e=>split at h2 <;> cases h2
 case array n e=>split at h2 <;> cases h2
 case struct fields=>split at h2 <;> cases h2
 case string=>exact h1
theorem ip{t:TypeId}{ti:Ti}{k:IntKind}(ht:ej P t=some ti)(hk:ti.kind=.int k):P.underlying t=some (.int k):=by
 obtain⟨d,h1,h2,h3⟩:=rT ht;rw[hk]at h2
 cases d <;> simp only[sr]at h2 <;> try (cases h2)
 case slice e=>split at h2 <;> cases h2
 case array n e=>split at h2 <;> cases h2
 case struct fields=>split at h2 <;> cases h2
 case int=>exact h1

theorem lr{t:TypeId}{n:Nat}(h:gO P t=some n):(sizeOf t).run P w=.ok n w:=by
 unfold gO at h
 cases hi:P.info? t with
 |none=>simp[hi]at h
 |some i=>simp[hi]at h;simp[sizeOf,typeInfo,hi,h]

theorem FS{h:Array Obj}{b off:Nat}{cs:Array Value}{T:TypeId}{fr:Nat×Nat}{vs:List Value}{row:List Dt}(hK:K b)(hb:h[b]?=some (.cells cs T fr))(hv:∀j v,vs[j]?=some v->cs[off+j]?=some v)(hd:DRs K h vs row)(n:Nat) :
  VR K h G (.pointer (some ⟨b,off+n,none⟩)) (.rp (row.drop n)):=by
 simp only[VR];exact⟨b,off+n,cs,T,fr,vs.drop n,rfl,hK,hb,fun j v hj=>by rw[getElem?_drop]at hj;rw[Nat.add_assoc];exact hv _ v hj,hd.drop n⟩

theorem x9{h:Array Obj}{c:Value}{rows:List (List Dt)}(hc:DR K h c (.l rows)){i:Nat}(hi:i<rows.length)(z:List Dt) :
  ∃b off cap,c=.slice (some ⟨b,off,none⟩) rows.length cap/\VR K h G (.pointer (some ⟨b,off+i*(rows.getD i z).length,none⟩)) (.rp (rows.getD i z)):=by
 simp only[DR]at hc
 rcases hc with⟨_,rfl⟩|⟨b,off,cap,cs,T,fr,sz,vs,rfl,hK,hb,_,_,hv,hd⟩
 .simp at hi
 obtain⟨h1,h2⟩:=hd.get i hi;rw[show rows.getD i []=rows.getD i z by simp[getD_eq_getElem?_getD,hi]]at h1 h2;refine⟨b,off,cap,rfl,?_⟩;simp only[VR];rw[h2];refine⟨b,off+i*sz,cs,T,fr,_,rfl,hK,hb,fun j v hj=>?_,h1⟩;rw[getElem?_take]at hj;split at hj
 .rw[getElem?_drop]at hj;rw[Nat.add_assoc];exact hv _ v hj
 .cases hj

theorem mq{t:TypeId}{ti:Ti}(ht:ej P t=some ti)(hS:St K G H w){c ci:Value}{x i:Va}(hc:VR K w.heap G c x)(hi:VR K w.heap G ci i)(hok:(CU ti H x i).ok) :
  ∃c',(Instr.indexAt t c ci).run P w=.ok c' w/\VR K w.heap G c' (CU ti H x i).v:=by
 unfold CU at hok|-;split at hok
 rotate_left
 .exact hok.elim
 rename_i k n
 simp only[VR,DR]at hi;obtain⟨rfl,_⟩:=hi
 have slice_run:∀{e esz eb:Nat} {ez:List Value},ti.kind=.slice e esz eb ez->∀{b off m cap:Nat},0<=n->n<m->(Instr.indexAt t (.slice (some ⟨b,off,none⟩) m cap) (.int k n)).run P w=.ok (.pointer (some ⟨b,off+n.toNat * esz,none⟩)) w:=by
  intro e esz eb ez hk b off m cap h0 h1;obtain⟨hu,⟨i,hi1,hi2,_⟩,_⟩:=iT ht hk;have hs:(sizeOf e).run P w=.ok esz w:=lr (by simp[gO,hi1,hi2]);simp[Instr.indexAt,asIntOf,run_underlying hu,h0,h1,hs,lc]
 split at hok
 .rename_i hk
  obtain⟨he,h0,h1⟩:=hok;simp only[VR]at hc;obtain⟨b,off,cap,rfl,hr⟩:=x9 (G:=G) hc (i:=n.toNat) (by omega) (zr _);rw[he]at hr;exact⟨_,slice_run hk h0 (by exact h1),hr⟩
 .rename_i hk
  obtain⟨he,h0,h1⟩:=hok;simp only[VR]at hc;obtain⟨b,off,cap,rfl,hr⟩:=x9 (G:=G) hc.1 (i:=n.toNat) (by omega) (zr _);rw[he]at hr;exact⟨_,slice_run hk h0 (by exact h1),hr⟩
 .rename_i hk
  simp only[VR]at hc;obtain⟨g,hg,rfl,_⟩:=hc;split at hok
  .rename_i o T sz rows fx hx
   obtain⟨rfl,h0,h1⟩:=hok;obtain⟨hlim,xs,hxs,hh⟩:=hS.bufOb hx hg
   rcases hh with⟨_,rfl,_⟩|⟨b,cap,cur,fr,hsv,hgb,hb,hfr,h4,h5,h6,h7⟩
   .simp at h1;omega
   refine⟨_,by rw[hsv];exact slice_run hk h0 h1,?_⟩;simp only[VR];exact⟨g,b,_,_,hg,hgb,hsv,by simp⟩
  .split at hok
   rotate_left
   .exact hok.elim
   rename_i f T sz k p rows st hx
   obtain⟨rfl,h0,h1⟩:=hok;obtain⟨_,_,gp,vs,_,hvl,_,hlim,xs,hxs,hh⟩:=hS.ob _ g _ hg (zn hx (by simp));have hol:=xI (k:=k) hvl
   rcases hh with⟨_,h0',_⟩|⟨b,cap,cur,fr,hsv,hgb,hb,hfr,h4,h5,h6,h7⟩
   .rw[h0']at hol;simp at hol;omega
   refine⟨_,by rw[hsv];exact slice_run hk h0 (by rw[hol];exact h1),?_⟩;simp only[VR];exact⟨g,b,_,_,hg,hgb,hsv,by simp⟩
 .rename_i hk
  simp only[VR]at hc;obtain⟨g,a,m,cap,hg,hgi,rfl⟩:=hc;split at hok
  rotate_left
  .exact hok.elim
  rename_i p j _ T sz ins hx
  obtain⟨rfl,h0,h1⟩:=hok;obtain⟨hb0,hl,hin,_⟩:=hS.ob p g _ hg (zn hx (by simp));have hil:=(List.getElem?_eq_some_iff.1 hgi).1
  have hins:ins[j]?=some (ins.getD j []):=by rw[getElem?_eq_getElem (by omega),getD_eq_getElem?_getD,getElem?_eq_getElem (by omega)];rfl
  obtain⟨hlim,xs,hxs,hh⟩:=hin j _ _ hgi hins
  rcases hh with⟨_,h0',_⟩|⟨b,cap',cur,fr,hsv,hgb,hb,hfr,h4,h5,h6,h7⟩
  .rw[h0']at h1;simp at h1;omega
  cases hsv
  cases cap with
  |zero=>omega
  |succ cap =>
   refine⟨_,slice_run hk h0 h1,?_⟩;simp only[VR];exact⟨g,b,_,_,hg,hgi,by simp⟩
 .rename_i hk
  split at hok
  rotate_left
  .exact hok.elim
  rename_i o sz a m T sz' rows fx hx
  obtain⟨rfl,rfl,h0,h1⟩:=hok;simp only[VR]at hc;obtain⟨g,ad,N,cap,hg,hsv,haN,ad',cap',rfl,hnc,_,hpos⟩:=hc;obtain⟨b,hgb,rfl,rfl⟩:=hpos (by omega);refine⟨_,slice_run hk h0 h1,?_⟩;simp only[VR];exact⟨g,b,_,_,hg,hgb,hsv,by rw[Nat.add_mul,Nat.add_zero]⟩
 .rename_i hk
  obtain⟨rfl,h0,h1⟩:=hok;simp only[VR]at hc;obtain⟨g,b,hg,hgb,rfl⟩:=hc;refine⟨_,slice_run hk h0 h1,?_⟩;simp only[VR];exact⟨g,b,hg,hgb,by rw[Nat.zero_add,Nat.mul_one]⟩
 .rename_i hk
  simp only[VR]at hc;obtain⟨g,b,hg,hgb,rfl⟩:=hc;obtain⟨hu,hs,_⟩:=yn ht hk;split at hok
  .rename_i T sz rows hx
   obtain⟨rfl,rfl,hl,h0,h1⟩:=hok;obtain⟨hlim,xs,hxs,hh⟩:=hS.ob _ g _ hg (zn hx (by simp))
   rcases hh with⟨_,_,hn⟩|⟨b',cap,cur,fr,hsv,hgb',_⟩
   .rw[hgb]at hn;cases hn
   obtain rfl:b'=b:=by rw[hgb]at hgb';exact(Option.some.inj hgb').symm
   refine⟨_,by simp only[Instr.indexAt,Instr.sureAddr,asIntOf,run_underlying hu,h0,h1,lr hs,lc,Sem.run_bind,Sem.run_pure,Result.andThen_ok,true_and,if_true];rfl,?_⟩;simp only[VR];exact⟨g,b',_,_,hg,hgb,hsv,by rw[Nat.zero_add,Nat.add_zero]⟩
  .obtain⟨h0,h1⟩:=hok
   refine⟨_,by simp only[Instr.indexAt,Instr.sureAddr,asIntOf,run_underlying hu,h0,h1,lr hs,lc,Sem.run_bind,Sem.run_pure,Result.andThen_ok,true_and,if_true];rfl,?_⟩;simp only[VR];exact⟨g,b,hg,hgb,rfl⟩
 .rename_i hk
  simp only[VR]at hc;obtain⟨b,off,cs,T,fr,vs,rfl,hK,hb,hv,hd⟩:=hc;obtain⟨hu,hs,_⟩:=yn ht hk;obtain⟨h0,h1⟩:=hok;exact⟨_,by simp only[Instr.indexAt,Instr.sureAddr,asIntOf,run_underlying hu,h0,h1,lr hs,lc,Sem.run_bind,Sem.run_pure,Result.andThen_ok,true_and,if_true],FS hK hb hv hd _⟩
 .rename_i hk
  split at hok
  rotate_left
  .exact hok.elim
  rename_i kk l ht0
  obtain⟨he,hlen,h0,h1⟩:=hok;subst he;simp only[VR]at hc;subst hc;obtain⟨hu,hs,_⟩:=yn ht hk;obtain⟨hK,⟨T,fr,hb⟩,hfit⟩:=hS.tb.1 _ _ _ ht0
  have hn:n.toNat<l.length:=by omega
  refine⟨_,by simp only[Instr.indexAt,Instr.sureAddr,asIntOf,run_underlying hu,h0,h1,lr hs,lc,Sem.run_bind,Sem.run_pure,Result.andThen_ok,true_and,if_true];rfl,?_⟩;simp only[VR];refine⟨_,_,_,T,fr,[.int kk (l.getD n.toNat 0)],rfl,hK,hb,fun j v hj=>?_,?_⟩
  .cases j with
   |succ j=>simp at hj
   |zero =>
    simp at hj;subst hj;simp[getElem?_eq_getElem hn]
  .simp only[DRs,DR]
   refine⟨_,[],rfl,⟨rfl,hfit _ ?_⟩,rfl⟩;simp[getElem?_eq_getElem hn]
 .exact hok.elim

theorem LM{t:TypeId}{ti:Ti}(ht:ej P t=some ti){f:Nat}{c:Value}{x:Va}(hc:VR K w.heap G c x)(hok:(C3 ti f x).ok) :
  ∃c',(Instr.fieldAt t c f).run P w=.ok c' w/\VR K w.heap G c' (C3 ti f x).v:=by
 unfold C3 at hok|-;split at hok
 rotate_left
 .exact hok.elim
 rename_i fs hk
 split at hok
 rotate_left
 .exact hok.elim
 rename_i fo fsz ag hf
 obtain⟨fields,hu,hfs⟩:=HW ht hk;obtain⟨fd,hfd,ho,hsz,_⟩:=Ie hfs hf;simp only at ho hsz
 have hfd':fields[f]?=some fd:=by simpa using hfd
 have run:∀(b off:Nat),0<fsz->(Instr.fieldAt t (.pointer (some ⟨b,off,none⟩)) f).run P w=.ok (.pointer (some ⟨b,off+fo,none⟩)) w:=by
  intro b off h0
  have:¬ fsz=0:=by omega
  simp[Instr.fieldAt,Instr.sureAddr,run_underlying hu,hfd',fieldPlace,lr hsz,this,lc,ho]
 split at hok
 .simp only[VR]at hc
  obtain⟨g,b,hg,hgb,rfl⟩:=hc;exact⟨_,run _ _ hok,by simp only[VR];exact⟨g,b,hg,hgb,rfl⟩⟩
 .simp only[VR]at hc
  obtain⟨b,off,cs,T,fr,vs,rfl,hK,hb,hv,hd⟩:=hc;exact⟨_,run _ _ hok,FS hK hb hv hd _⟩
 .simp only[VR]at hc
  obtain⟨g,b,n,cap,hg,hgb,hsv,rfl⟩:=hc;exact⟨_,run _ _ hok,by simp only[VR];exact⟨g,b,n,cap,hg,hgb,hsv,by rw[Nat.add_assoc]⟩⟩
 .simp only[VR]at hc
  obtain⟨g,b,n,cap,hg,hgi,rfl⟩:=hc;exact⟨_,run _ _ hok,by simp only[VR];exact⟨g,b,n,cap,hg,hgi,by rw[Nat.add_assoc]⟩⟩
 .exact hok.elim

theorem jg{t:TypeId}{n:Nat}(hn:gO P t=some n){d:TypeDesc}(hd:P.underlying t=some d)(cs:List Value)(off:Nat) :
  (eM P t=true->(part t cs.toArray off).run P w=.ok (.agg ((cs.drop off).take n).toArray) w)/\(eM P t=false->∀c,cs[off]?=some c->(part t cs.toArray off).run P w=.ok c w):=by
 have hag:(isAgg t).run P w=.ok (eM P t) w:=by
  simp only[isAgg,underlying,eM,Sem.run_bind,run_program,Result.andThen_ok,hd]
  cases d <;> rfl
 constructor
 .intro ha
  simp only[part,Sem.run_bind,hag,ha,Result.andThen_ok,if_true,lr hn];simp
 .intro ha c hc
  simp[part,hag,ha,hc]

theorem qU{t:TypeId}{ti:Ti}(ht:ej P t=some ti){f:Nat}{c:Value}{x:Va}(hc:VR K w.heap G c x)(hok:(iG ti f x).ok) :
  ∃c',(Instr.field t c f).run P w=.ok c' w/\VR K w.heap G c' (iG ti f x).v:=by
 unfold iG at hok|-;split at hok
 rotate_left
 .exact hok.elim
 rename_i fs cs hk
 split at hok
 rotate_left
 .exact hok.elim
 rename_i fo fsz ag hf
 obtain⟨fields,hu,hfs⟩:=HW ht hk;obtain⟨fd,hfd,ho,hsz,hag,d,hd⟩:=Ie hfs hf;simp only at ho hsz hag
 have hfd':fields[f]?=some fd:=by simpa using hfd
 simp only[VR]at hc;obtain⟨vs,rfl,hvs⟩:=hc;obtain⟨h1,h2⟩:=jg (w:=w) hsz hd vs fo
 have run:∀r,(part fd.type vs.toArray fo).run P w=.ok r w->(Instr.field t (.agg vs.toArray) f).run P w=.ok r w:=by
  intro r hr;simp only[Instr.field,run_underlying hu,hfd',asAgg,Sem.run_bind,Sem.run_pure,Result.andThen_ok,ho,hr]
 cases ag <;> simp only[cond_true,cond_false]at hok|-
 .obtain⟨c,hc1,hc2⟩:=hvs.get fo _ (kY hok)
  exact⟨c,run _ (h2 hag c hc1),hc2⟩
 .refine⟨_,run _ (h1 hag),?_⟩
  simp only[VR];exact⟨_,rfl,(hvs.drop _).take _⟩

theorem qJ{t:TypeId}{ti:Ti}(ht:ej P t=some ti){c ci:Value}{x i:Va}(hc:VR K w.heap G c x)(hi:VR K w.heap G ci i)(hok:(iB ti x i).ok) :
  ∃c',(Instr.index t c ci).run P w=.ok c' w/\VR K w.heap G c' (iB ti x i).v:=by
 unfold iB at hok|-;split at hok
 .rename_i s k n hk
  simp only[VR,DR]at hi hc;obtain⟨rfl,_⟩:=hi;obtain⟨rfl,_⟩:=hc;obtain⟨h0,h1⟩:=hok;have hu:=yp ht hk
  have hn:n.toNat<s.length:=by omega
  have hsz:(⟨s.toArray⟩:ByteArray).size=s.length:=by simp[ByteArray.size]
  rw[run_index_string w t _ k n hu,dif_pos ⟨h0,by rw[hsz];exact h1⟩];refine⟨_,rfl,?_⟩
  have e:((⟨s.toArray⟩:ByteArray)[n.toNat]'(by rw[hsz];exact hn))=s.getD n.toNat 0:=by
   show s.toArray[n.toNat]=_
   simp[getElem?_eq_getElem hn]
  rw[e];refine i9 ⟨by simp[lo],?_⟩;have:=(s.getD n.toNat 0).toNat_lt;simp only[hi];omega
 .rename_i len e esz ag cs k n hk
  simp only[VR,DR]at hi hc;obtain⟨rfl,_⟩:=hi;obtain⟨vs,rfl,hvs⟩:=hc;obtain⟨hu,hs,hag,d,hd⟩:=yn ht hk;obtain⟨h1,h2⟩:=jg (w:=w) hs hd vs (n.toNat * esz)
  cases ag <;> simp only[cond_true,cond_false]at hok|-
  .obtain⟨h0,hn,hl⟩:=hok
   obtain⟨c,hc1,hc2⟩:=hvs.get _ _ (kY hl);exact⟨c,by simp only[Instr.index,asIntOf,run_underlying hu,h0,hn,lr hs,Sem.run_bind,Sem.run_pure,Result.andThen_ok,true_and,if_true];exact h2 hag c hc1,hc2⟩
  .obtain⟨h0,hn⟩:=hok
   refine⟨_,by simp only[Instr.index,asIntOf,run_underlying hu,h0,hn,lr hs,Sem.run_bind,Sem.run_pure,Result.andThen_ok,true_and,if_true];exact h1 hag,?_⟩;simp only[VR];exact⟨_,rfl,(hvs.drop _).take _⟩
 .exact hok.elim

theorem mG{i:Nat}{c:Value}{x:Va}(hc:VR K w.heap G c x)(hok:(CS x i).ok) :
  ∃c',(Instr.extract c i).run P w=.ok c' w/\VR K w.heap G c' (CS x i).v:=by
 unfold CS at hok|-;split at hok
 .simp only[VR]at hc
  obtain⟨vs,rfl,hvs⟩:=hc;obtain⟨c,hc1,hc2⟩:=hvs.get i _ (kY hok);exact⟨c,by simp[Instr.extract,hc1],hc2⟩
 .exact hok.elim
end

def fT{α:Type}(x:List α):Option Nat->Option Nat->List α
 |none,none=>x
 |some a,none=>x.drop a
 |none,some b=>x.take b
 |some a,some b=>(x.drop a).take (b-a)
def fh:Option Va->Option Nat
 |some (.p (.i _ n))=>some n.toNat
 |_=>none
def jb(m:Nat):Option Va->Prop
 |none=>True
 |some (.p (.i _ n))=>0<=n/\n<=m
 |some _=>False
def fS:Option Va->Option Va->Prop
 |some (.p (.i _ a)),some (.p (.i _ b))=>a<=b
 |_,_=>True
def vd(x:Va)(l h m:Option Va):Pv:=match m with
 |none=>match x with
  |.p (.s s)=>⟨.p (.s (fT s (fh l) (fh h))),jb s.length l/\jb s.length h/\fS l h⟩
  |.p (.l rows)=>⟨.p (.l (fT rows (fh l) (fh h))),jb rows.length l/\jb rows.length h/\fS l h⟩
  |.full rows=>⟨.p (.l (fT rows (fh l) (fh h))),jb rows.length l/\jb rows.length h/\fS l h⟩
  |.nils=>⟨.nils,jb 0 l/\jb 0 h⟩
  |_=>ew
 |some (.p (.i _ c))=>match x,h with
  |.p (.l rows),some (.p (.i _ b))=>⟨.full (fT rows (fh l) (some b.toNat)),b=c/\jb rows.length l/\0<=b/\b<=rows.length/\fS l h⟩
  |_,_=>ew
 |_=>ew

section
variable {K:Nat->Prop} {G:List Gh} {H:List Ob} {w:World} {P:Program}

def BR(K:Nat->Prop)(h:Array Obj)(G:List Gh)(c:Option Value)(x:Option Va):Prop:=match c,x with
 |none,none=>True
 |some c,some x=>VR K h G c x
 |_,_=>False
theorem iQ{h:Array Obj}{c:Option Value}{x:Option Va}(hb:BR K h G c x){m:Nat}(hx:jb m x) :
  (c=none/\x=none)∨∃k n,c=some (.int k n)/\x=some (.p (.i k n))/\0<=n/\n<=m:=by
 cases x with
 |none=>cases c <;> simp_all[BR]
 |some x =>
  cases c with
  |none=>simp[BR]at hb
  |some c =>
   unfold jb at hx;split at hx
   .rename_i h;cases h
   .rename_i k n h
    cases h;simp only[BR,VR,DR]at hb;exact .inr ⟨k,n,by rw[hb.1],rfl,hx.1,hx.2⟩
   .exact hx.elim

theorem Ce(isS:Bool)(len cap:Nat)(hlc:len<=cap){cl ch:Option Value}{l h:Option Va}{hp:Array Obj}(hl:BR K hp G cl l)(hh:BR K hp G ch h)(h1:jb len l)(h2:jb len h)(h3:fS l h) :
  ∃a b,(Instr.sliceBounds isS len cap cl ch none).run P w=.ok (a,b,cap) w/\a<=b/\b<=len/\a=(fh l).getD 0/\b=(fh h).getD len:=by
 rcases iQ hl h1 with⟨rfl,rfl⟩|⟨kl,nl,rfl,rfl,hl0,hl1⟩ <;> rcases iQ hh h2 with⟨rfl,rfl⟩|⟨kh,nh,rfl,rfl,hh0,hh1⟩
 .exact⟨0,len,by simp[Instr.sliceBounds],by omega,by omega,rfl,rfl⟩
 .exact⟨0,nh.toNat,by simp[Instr.sliceBounds,run_sliceBound _ _ _ _ _ hh0 (show nh<=(cap:Int)by omega)],by omega,by omega,rfl,rfl⟩
 .exact⟨nl.toNat,len,by simp[Instr.sliceBounds,run_sliceBound _ _ _ _ _ hl0 (show nl<=(len:Int)by omega)],by omega,by omega,rfl,rfl⟩
 .simp only[fS]at h3
  exact⟨nl.toNat,nh.toNat,by simp[Instr.sliceBounds,run_sliceBound _ _ _ _ _ hh0 (show nh<=(cap:Int)by omega),run_sliceBound _ _ _ _ _ hl0 (show nl<=(nh.toNat:Int)by omega)],by omega,by omega,rfl,rfl⟩

theorem kU{α:Type}(x:List α)(l h:Option Nat)(ha:l.getD 0<=h.getD x.length)(hb:h.getD x.length<=x.length):fT x l h=(x.drop (l.getD 0)).take (h.getD x.length-l.getD 0):=by
 cases l <;> cases h <;> simp[fT]
 rw[take_of_length_le (by simp)]
theorem C7{α:Type}(x:List α)(l h:Option Nat)(ha:l.getD 0<=h.getD x.length)(hb:h.getD x.length<=x.length):(fT x l h).length=h.getD x.length-l.getD 0:=by
 rw[kU x l h ha hb];simp;omega

def eT(n:Nat)(rows:List (List Dt)):Prop:=∀r∈rows,r.length=n
theorem DRss.sz{hp:Array Obj}{n sz:Nat}{vs:List Value}:∀{rows:List (List Dt)},DRss K hp sz vs rows->eT n rows->rows≠[]->sz=n
 |[],_,_,h=>absurd rfl h
 |r::rs,hd,hs,_=>by
  simp only[DRss]at hd;obtain⟨_,_,_,h2,_⟩:=hd;have:=hs r (by simp);omega
theorem ya{hp:Array Obj}{b off esz:Nat}{rows:List (List Dt)}(hc:∃cs T fr sz vs,K b/\hp[b]?=some (.cells cs T fr)/\rows.length<=eh/\(∀j v,vs[j]?=some v->cs[off+j]?=some v)/\DRss K hp sz vs rows)(hsz:eT esz rows)(l h:Option Nat)(ha:l.getD 0<=h.getD rows.length)(hb:h.getD rows.length<=rows.length)(m:Nat)(hm:h.getD rows.length<=m) :
  DR K hp (.slice (some (if m=l.getD 0 then⟨b,off,none⟩else(⟨b,off,none⟩:Addr).add (l.getD 0*esz))) (h.getD rows.length-l.getD 0) (m-l.getD 0)) (.l (fT rows l h)):=by
 simp only[DR];obtain⟨cs,T,fr,sz,vs,hK,hbl,hlim,hv,hd⟩:=hc;have hlen:=C7 rows l h ha hb
 have hdd:DRss K hp sz ((vs.drop (l.getD 0*sz)).take ((h.getD rows.length-l.getD 0)*sz)) (fT rows l h):=by
  rw[kU rows l h ha hb];exact(hd.drop _).take _
 rw[<-hlen]
 by_cases hz:m=l.getD 0
 .have h0:(fT rows l h).length=0:=by omega
  have h0':fT rows l h=[]:=length_eq_zero_iff.1 h0;rw[if_pos hz,h0'];exact .inr ⟨b,off,m-l.getD 0,cs,T,fr,sz,[],rfl,hK,hbl,by simp,by simp,by simp,by simp[DRss]⟩
 .rw[if_neg hz,lc]
  refine .inr ⟨b,off+l.getD 0*esz,m-l.getD 0,cs,T,fr,sz,_,rfl,hK,hbl,by omega,by omega,fun j v hj=>?_,hdd⟩;rw[getElem?_take]at hj;split at hj
  .rw[getElem?_drop]at hj
   have:=hv _ v hj
   have hne:rows≠[]:=by
    rintro rfl;have:=hd;simp only[DRss]at this;subst this;simp at hj
   rw[<-hd.sz hsz hne,Nat.add_assoc];exact this
  .cases hj

theorem qw{t:TypeId}{ti:Ti}(ht:ej P t=some ti){c:Value}{cl ch cm:Option Value}{x:Va}{l h m:Option Va}(hc:VR K w.heap G c x)(hl:BR K w.heap G cl l)(hh:BR K w.heap G ch h)(hm:BR K w.heap G cm m)
  (hk:ti.kind=.str/\(∃s,x=.p (.s s))∨(∃e esz eb ez,ti.kind=.slice e esz eb ez/\((∃rows,x=.p (.l rows)/\eT esz rows)∨(∃rows,x=.full rows/\eT esz rows)∨x=.nils)))
  (hok:(vd x l h m).ok) :
  ∃c',(Instr.sliceAt t c cl ch cm).run P w=.ok c' w/\VR K w.heap G c' (vd x l h m).v:=by
 rcases hk with⟨hk,s,rfl⟩|⟨e,esz,eb,ez,hk,hx⟩
 .have hu:=yp ht hk
  cases m with
  |some m=>unfold vd at hok;cases m <;> first|exact hok.elim|(rename_i d;cases d <;> exact hok.elim)
  |none =>
   cases cm with
   |some cm=>simp[BR]at hm
   |none =>
    simp only[vd]at hok|-;obtain⟨h1,h2,h3⟩:=hok;simp only[VR,DR]at hc;obtain⟨rfl,hlim⟩:=hc
    have hsz:(⟨s.toArray⟩:ByteArray).size=s.length:=by simp[ByteArray.size]
    obtain⟨a,b,hr,hab,hbl,rfl,rfl⟩:=Ce (P:=P) (w:=w) false s.length s.length (Nat.le_refl _) hl hh h1 h2 h3;refine⟨_,by simp only[Instr.sliceAt,Instr.slice,run_underlying hu,Sem.run_bind,Result.andThen_ok,Option.isSome_none,Bool.false_eq_true,if_false,Sem.run_pure,hsz,hr];rfl,?_⟩
    have e:(⟨s.toArray⟩:ByteArray).extract ((fh l).getD 0) ((fh h).getD s.length)=⟨(fT s (fh l) (fh h)).toArray⟩:=by
     rw[kU s _ _ hab hbl];apply ByteArray.ext;rw[ByteArray.data_extract];simp
    rw[e];refine uW ?_
    rw[C7 s _ _ hab hbl];omega
 .obtain⟨hu,⟨i,hi1,hi2,hi3⟩,_⟩:=iT ht hk
  have hes:(sizeOf e).run P w=.ok esz w:=lr (by simp[gO,hi1,hi2])
  cases m with
  |none =>
   cases cm with
   |some cm=>simp[BR]at hm
   |none =>
    -- a slice of pure data,not nil or nil
    have main:∀(rows:List (List Dt)),eT esz rows->DR K w.heap c (.l rows)->jb rows.length l/\jb rows.length h/\fS l h ->
      ∃c',(Instr.sliceAt t c cl ch none).run P w=.ok c' w/\DR K w.heap c' (.l (fT rows (fh l) (fh h))):=by
     intro rows hsz hd ⟨h1,h2,h3⟩;have hd':=hd;simp only[DR]at hd'
     rcases hd' with⟨⟨a0,rfl⟩,rfl⟩|⟨b,off,cap,cs,T,fr,sz,vs,rfl,hK,hbl,hle,hlim,hv,hdd⟩
     .obtain⟨a,b,hr,hab,hbl,ha',hb'⟩:=Ce (P:=P) (w:=w) true 0 0 (Nat.le_refl _) hl hh h1 h2 h3
      have hb0:b=0:=by omega
      have ha0:a=0:=by omega
      subst hb0;subst ha0
      refine⟨.slice a0 0 0,by cases a0 <;> simp only[Instr.sliceAt,Instr.slice,run_underlying hu,Sem.run_bind,Result.andThen_ok,hr,hes,Sem.run_pure,if_true,Nat.sub_self],?_⟩;simp only[DR];left;refine⟨⟨a0,rfl⟩,?_⟩;have:=C7 ([]:List (List Dt)) (fh l) (fh h) (by rw[<-ha'];omega) (by simp only[length_nil];rw[<-hb'];omega);exact length_eq_zero_iff.1 (by rw[this];simp only[length_nil];rw[<-hb',Nat.zero_sub])
     .obtain⟨a,b',hr,hab,hbl',rfl,rfl⟩:=Ce (P:=P) (w:=w) true rows.length cap hle hl hh h1 h2 h3
      refine⟨_,by simp only[Instr.sliceAt,Instr.slice,run_underlying hu,Sem.run_bind,Result.andThen_ok,hr,hes,Sem.run_pure];rfl,?_⟩;have:=ya ⟨cs,T,fr,sz,vs,hK,hbl,hlim,hv,hdd⟩ hsz (fh l) (fh h) hab hbl' cap (by omega)
      split <;> rename_i hz <;> simpa [hz]using this
    rcases hx with⟨rows,rfl,hsz⟩|⟨rows,rfl,hsz⟩|rfl
    .simp only[vd]at hok|-
     simp only[VR]at hc|-;exact main rows hsz hc hok
    .simp only[vd]at hok|-
     simp only[VR]at hc|-;exact main rows hsz hc.1 hok
    .simp only[vd]at hok|-
     simp only[VR]at hc;subst hc;obtain⟨h1,h2⟩:=hok
     have h3:fS l h:=by
      rcases iQ hl h1 with⟨_,rfl⟩|⟨kl,nl,_,rfl,hl0,hl1⟩
      .simp[fS]
      .rcases iQ hh h2 with⟨_,rfl⟩|⟨kh,nh,_,rfl,hh0,hh1⟩
       .simp[fS]
       .simp only[fS];omega
     obtain⟨a,b,hr,hab,hbl,ha',hb'⟩:=Ce (P:=P) (w:=w) true 0 0 (Nat.le_refl _) hl hh h1 h2 h3
     have hb0:b=0:=by omega
     have ha0:a=0:=by omega
     subst hb0;subst ha0
     exact⟨.slice none 0 0,by simp only[Instr.sliceAt,Instr.slice,run_underlying hu,Sem.run_bind,Result.andThen_ok,hr,hes,Sem.run_pure,if_true,Nat.sub_self],by simp only[VR]⟩
  |some m =>
   unfold vd at hok|-;split at hok
   .rename_i hh;cases hh
   .rename_i km c0 heq
    cases heq;split at hok
    rotate_left
    .exact hok.elim
    rename_i rows kh b0
    obtain⟨rfl,h1,hb0,hb1,h3⟩:=hok
    have hsz:eT esz rows:=by
     rcases hx with⟨rows',he,hsz⟩|⟨_,he,_⟩|he
     .cases he;exact hsz
     .cases he
     .cases he
    cases ch with
    |none=>simp[BR]at hh
    |some ch =>
     cases cm with
     |none=>simp[BR]at hm
     |some cm =>
      simp only[BR,VR,DR]at hh hm;obtain⟨rfl,_⟩:=hh;obtain⟨rfl,_⟩:=hm;simp only[VR]at hc;have hd':=hc;simp only[DR]at hd'
      have hlb:∃a,a=(fh l).getD 0/\a<=b0.toNat/\(match cl with|some v=>Instr.sliceBound v b0.toNat .slice3C|none=>pure 0:Sem Nat).run P w=.ok a w:=by
       rcases iQ hl h1 with⟨rfl,rfl⟩|⟨kl,nl,rfl,rfl,hl0,hl1⟩
       .exact⟨0,rfl,by omega,rfl⟩
       .simp only[fS]at h3
        exact⟨nl.toNat,rfl,by omega,run_sliceBound _ _ _ _ _ hl0 (by omega)⟩
      obtain⟨a,ha,hab,hla⟩:=hlb
      have hcap:∀(base:Option Addr) (cap:Nat),rows.length<=cap->(Instr.sliceBounds true rows.length cap cl (some (.int kh b0)) (some (.int km b0))).run P w=.ok (a,b0.toNat,b0.toNat) w:=by
       intro base cap hle;have e1:=run_sliceBound (P:=P) (w:=w) km b0 cap .slice3Acap hb0 (show b0<=(cap:Int)by omega);have e2:=run_sliceBound (P:=P) (w:=w) kh b0 b0.toNat .slice3B hb0 (show b0<=(b0.toNat:Int)by omega);clear hx hk hi1 hi2 hi3 hes hd' hc;unfold Instr.sliceBounds
       cases cl with
       |none =>
        simp only[Sem.run_pure]at hla;cases hla;simp only[Sem.run_bind,if_true,e1,Result.andThen_ok,e2,Sem.run_pure]
       |some v =>
        simp only[Option.isSome_some,if_true,Sem.run_bind,e1,Result.andThen_ok,e2,Sem.run_pure];simp only at hla
        rw[hla];rfl
      rcases hd' with⟨⟨a0,rfl⟩,rfl⟩|⟨b,off,cap,cs,T,fr,sz,vs,rfl,hK,hbl,hle,hlim,hv,hdd⟩
      .have hb00:b0.toNat=0:=by simp at hb1;omega
       have ha0:a=0:=by omega
       have hr:=hcap none 0 (by simp);simp only[length_nil]at hr;refine⟨.slice a0 0 0,by cases a0 <;> simp only[Instr.sliceAt,Instr.slice,run_underlying hu,Sem.run_bind,Result.andThen_ok,hr,hes,Sem.run_pure,hb00,ha0,if_true,Nat.sub_self],?_⟩
       have hc0:fT ([]:List (List Dt)) (fh l) (some b0.toNat)=[]:=by
        apply length_eq_zero_iff.1;rw[C7 _ _ _ (by simp only[Option.getD_some];omega) (by simp only[Option.getD_some];simp;omega)]
        simp only[Option.getD_some];omega
       rw[hc0];simp only[VR,DR];exact⟨.inl ⟨⟨a0,rfl⟩,trivial⟩,a0,rfl⟩
      .have hr:=hcap (some ⟨b,off,none⟩) cap hle
       have hlc:=ya ⟨cs,T,fr,sz,vs,hK,hbl,hlim,hv,hdd⟩ hsz (fh l) (some b0.toNat) (by simp only[Option.getD_some];omega) (by simp only[Option.getD_some];omega) b0.toNat (by simp);have hlen:=C7 rows (fh l) (some b0.toNat) (by simp only[Option.getD_some];omega) (by simp only[Option.getD_some];omega);simp only[Option.getD_some,<-ha]at hlc hlen;refine⟨_,by simp only[Instr.sliceAt,Instr.slice,run_underlying hu,Sem.run_bind,Result.andThen_ok,hr,hes,Sem.run_pure];rfl,?_⟩;simp only[VR];refine⟨?_,⟨if b0.toNat=a then some ⟨b,off,none⟩else some ((⟨b,off,none⟩:Addr).add (a*esz)),?_⟩⟩
       .split <;> rename_i hz <;> simpa [hz]using hlc
       .rw[hlen];rfl
   .exact hok.elim

def jZ(ti:Ti)(H:List Ob):Va->Option (Nat×Nat×Nat×Nat×Prop)
 |.buf o=>match ti.kind,qc H o with
  |.slice _ esz _ _,some (_,sz,rows,_)=>some (o,sz,0,rows.length,sz=esz)
  |_,_=>none
 |.vw o sz a n=>match ti.kind with
  |.slice _ esz _ _=>some (o,sz,a,n,sz=esz)
  |_=>none
 |.ptr o 0=>match ti.kind,ed H o with
  |.arr len _ esz _,.buf _ sz rows=>some (o,sz,0,len,sz=esz/\rows.length=len)
  |_,_=>none
 |_=>none
def lz(r:Nat×Nat×Nat×Nat×Prop)(l h m:Option Va):Pv:=match m with
 |none=>⟨.vw r.1 r.2.1 (r.2.2.1+(fh l).getD 0) ((fh h).getD r.2.2.2.1-(fh l).getD 0),r.2.2.2.2/\jb r.2.2.2.1 l/\jb r.2.2.2.1 h/\fS l h⟩
 |some _=>ew
theorem r9{g:Gh}{ad:Option Addr}{N sz a n l h:Nat}{ad':Option Addr}{m cap:Nat}(h1:a+n<=N)(hc:a+m<=cap)(h3:0<m->∃b,g.blk=some b/\ad=some ⟨b,0,none⟩/\ad'=some ⟨b,a*sz,none⟩)(hl:l<=h)(hh:h<=n)(hm:n<=m) :
  G5 (.slice (if m=l then ad' else ad'.map (·.add (l*sz))) (h-l) (m-l)) g.blk ad N cap sz (a+l) (h-l):=by
 refine⟨by omega,_,_,rfl,by omega,by omega,fun hp=>?_⟩;obtain⟨b,e1,e2,e3⟩:=h3 (by omega);refine⟨b,e1,e2,?_⟩;rw[if_neg (by omega),e3,Option.map_some,lc,Nat.add_mul]
theorem se{t:TypeId}{ti:Ti}(ht:ej P t=some ti)(hS:St K G H w){c:Value}{cl ch cm:Option Value}{x:Va}{l h m:Option Va}(hc:VR K w.heap G c x)(hl:BR K w.heap G cl l)(hh:BR K w.heap G ch h)(hm:BR K w.heap G cm m)
  {r:Nat×Nat×Nat×Nat×Prop} (hr:jZ ti H x=some r) (hok:(lz r l h m).ok) :
  ∃c',(Instr.sliceAt t c cl ch cm).run P w=.ok c' w/\VR K w.heap G c' (lz r l h m).v:=by
 cases m with
 |some m=>exact hok.elim
 |none =>
  cases cm with
  |some cm=>simp[BR]at hm
  |none =>
   -- a cut of a slice
   have main:∀{o sz a n:Nat} {e esz eb:Nat} {ez:List Value},ti.kind=.slice e esz eb ez->sz=esz->jb n l->jb n h->fS l h->VR K w.heap G c (.vw o sz a n) ->
     ∃c',(Instr.sliceAt t c cl ch none).run P w=.ok c' w/\VR K w.heap G c' (.vw o sz (a+(fh l).getD 0) ((fh h).getD n-(fh l).getD 0)):=by
    intro o sz a n e esz eb ez hk he h1 h2 h3 hv;subst he;obtain⟨hu,⟨i,hi1,hi2,hi3⟩,_⟩:=iT ht hk;have hes:(sizeOf e).run P w=.ok sz w:=lr (by simp[gO,hi1,hi2]);simp only[VR]at hv;obtain⟨g,ad,N,cap,hg,hsv,haN,ad',cap',rfl,hnc,hcc,hpos⟩:=hv;obtain⟨x,y,hr,hab,hbl,rfl,rfl⟩:=Ce (P:=P) (w:=w) true n cap' hnc hl hh h1 h2 h3;refine⟨.slice (if cap'=(fh l).getD 0 then ad' else ad'.map (·.add ((fh l).getD 0*sz))) ((fh h).getD n-(fh l).getD 0) (cap'-(fh l).getD 0),by simp only[Instr.sliceAt,Instr.slice,run_underlying hu,Sem.run_bind,Result.andThen_ok,hr,hes,Sem.run_pure],?_⟩;simp only[VR];exact⟨g,ad,N,cap,hg,hsv,r9 haN hcc hpos hab hbl hnc⟩
   unfold jZ at hr;split at hr
   .split at hr
    rotate_left
    .cases hr
    rename_i o e esz eb ez T sz rows fx hk hx
    cases hr;obtain⟨h0,h1,h2,h3⟩:=hok;refine main hk h0 h1 h2 h3 ?_;simp only[VR]at hc|-;obtain⟨g,hg,rfl,_⟩:=hc;obtain⟨hlim,xs,hxs,hh'⟩:=hS.bufOb hx hg
    rcases hh' with⟨⟨a,hs0⟩,rfl,_⟩|⟨b,cap,cur,fr,hsv,hgb,hb,hfr,h4,h5,h6,h7⟩
    .exact⟨g,a,0,0,hg,hs0,by simp,a,0,hs0,by simp,by simp,by simp⟩
    .exact⟨g,_,_,cap,hg,hsv,by simp,_,cap,hsv,h4,by simp,fun _=>⟨b,hgb,rfl,by simp⟩⟩
   .split at hr
    rotate_left
    .cases hr
    rename_i o sz a n e esz eb ez hk
    cases hr;obtain⟨h0,h1,h2,h3⟩:=hok;exact main hk h0 h1 h2 h3 hc
   .split at hr
    rotate_left
    .cases hr
    rename_i o len e esz ag T sz rows hk hx
    cases hr;obtain⟨⟨h0,hlen⟩,h1,h2,h3⟩:=hok;simp only at h0 h1 h2;subst h0;subst hlen;obtain⟨hu,hs,_⟩:=yn ht hk;simp only[VR]at hc;obtain⟨g,b,hg,hgb,rfl⟩:=hc;obtain⟨hlim,xs,hxs,hh'⟩:=hS.ob _ g _ hg (zn hx (by simp))
    rcases hh' with⟨_,_,hn⟩|⟨b',cap,cur,fr,hsv,hgb',_,_,hcap',_⟩
    .rw[hgb]at hn;cases hn
    obtain rfl:b'=b:=by rw[hgb]at hgb';exact(Option.some.inj hgb').symm
    obtain⟨x,y,hr,hab,hbl,rfl,rfl⟩:=Ce (P:=P) (w:=w) false rows.length rows.length (Nat.le_refl _) hl hh h1 h2 h3;refine⟨.slice (if rows.length=(fh l).getD 0 then(some ⟨b',0,none⟩:Option Addr)else(some ⟨b',0,none⟩:Option Addr).map (·.add ((fh l).getD 0*sz))) ((fh h).getD rows.length-(fh l).getD 0) (rows.length-(fh l).getD 0),?_,?_⟩
    .simp only[Instr.sliceAt,Instr.sureAddr,run_underlying hu,Sem.run_bind,Result.andThen_ok,hr,lr hs,Sem.run_pure]
     split <;> rfl
    .simp only[lz,VR]
     exact⟨g,_,_,cap,hg,hsv,r9 (by simp) (by simpa using hcap') (fun _=>⟨b',hgb,rfl,by simp⟩) hab hbl (Nat.le_refl _)⟩
   .cases hr
end

def bR(l:List UInt8):List (List Dt):=l.map fun b=>[.i .u8 b.toNat]
def gf:List (List Dt)->List UInt8
 |[]=>[]
 |[.i _ n]::rs=>UInt8.ofNat n.toNat::gf rs
 |_::rs=>gf rs
def fm:List (List Dt)->Prop
 |[]=>True
 |[.i k _]::rs=>k=.u8/\fm rs
 |_::_=>False
theorem so:∀l:List UInt8,gf (bR l)=l
 |[]=>rfl
 |b::l=>by
  show UInt8.ofNat ((b.toNat:Int).toNat)::gf (bR l)=b::l
  rw[so l];simp
theorem p5:∀l:List UInt8,fm (bR l)
 |[]=>trivial
 |_::l=>⟨rfl,p5 l⟩
theorem Cw(a b:List UInt8):bR (a++b)=bR a++bR b:=by simp[bR]
theorem rj(a:List UInt8):(bR a).length=a.length:=by simp[bR]

def gS(H:List Ob)(o:Nat):Option (List (List Dt)):=match ed H o with
 |.sb _ bs=>some (bR bs)
 |_=>(qc H o).map fun p=>p.2.2.1
def ym(H:List Ob):Va->Option (List (List Dt))
 |.p (.l rows)=>some rows
 |.full rows=>some rows
 |.nils=>some []
 |.buf o=>gS H o
 |.bufc o _=>gS H o
 |.vw o sz a n=>match qc H o with
  |some (_,sz',rows,_)=>if sz=sz' then some ((rows.drop a).take n)else none
  |none=>none
 |.nv p i=>match ed H p with
  |.inn _ _ ins=>some (ins.getD i [])
  |_=>none
 |_=>none
def wP(H:List Ob):Va->Option Nat
 |.buf o=>match ed H o with
  |.nst _ _ _ _ _ rows _=>some rows.length
  |_=>none
 |_=>none

def Ea(op:UnOp):Va->Pv
 |.p (.b x)=>match op with
  |.not=>⟨.p (.b (!x)),True⟩
  |_=>ew
 |.p (.i k n)=>match op with
  |.neg=>⟨.p (.i k (k.wrap (0-n))),True⟩
  |.xor=>⟨.p (.i k (qb .xor k (if k.signed then -1 else k.max) n)),True⟩
  |_=>ew
 |_=>ew
def z7(P:Program)(t:TypeId):Tk:=match ej P t with
 |some ti=>ti.kind
 |none=>.other
def mU(P:Program)(src dst:TypeId)(H:List Ob)(x:Va):Pv:=match z7 P dst with
 |.int k'=>match x with
  |.p (.i _ n)=>⟨.p (.i k' (k'.wrap n)),True⟩
  |_=>ew
 |.str=>match x with
  |.p (.s s)=>⟨.p (.s s),True⟩
  |x=>match ym H x,z7 P src with
   |some rows,.slice e _ _ _=>match z7 P e with
    |.int .u8=>⟨.p (.s (gf rows)),fm rows⟩
    |_=>ew
   |_,_=>ew
 |_=>ew
def tA(P:Program)(t:TypeId)(H:List Ob)(x:Va):Pv:=match z7 P t with
 |.str=>match x with
  |.p (.s s)=>⟨.p (.i .i64 s.length),True⟩
  |_=>ew
 |.arr n _ _ _=>⟨.p (.i .i64 n),n<=eh⟩
 |.slice _ _ _ _=>match ym H x with
  |some rows=>⟨.p (.i .i64 rows.length),True⟩
  |none=>match x with
   |.cs _ n=>⟨.p (.i .i64 n),n<=eh⟩
   |x=>match wP H x with
    |some n=>⟨.p (.i .i64 n),True⟩
    |none=>ew
 |.map _ _=>match x with
  |.mp o=>match ed H o with
   |.mp _ es=>⟨.p (.i .i64 es.length),True⟩
   |_=>ew
  |_=>ew
 |_=>ew

def JF(P:Program)(src dst T:TypeId)(n:Nat):Bool:=match P.underlying src,P.underlying dst with
 |some (.pointer t),some .unsafePointer=>match P.info? t with
  |some j=>decide (j.size≠0)&&decide (0<n)
  |none=>false
 |some .unsafePointer,some (.pointer u)=>(P.info? u).isSome&&liesAt P P.depth T (n / P.cellsOf T) 0 u 1
 |_,_=>false
def mV(P:Program)(src dst:TypeId)(H:List Ob)(x:Va):Pv:=match x with
 |.ptr o 0=>match ed H o with
  |.cells T vs=>⟨.ptr o 0,JF P src dst T vs.length=true⟩
  |_=>ew
 |x=>mU P src dst H x
theorem BJ{n:Nat}(h:n<=eh):Fits .i64 n:=by
 simp only[Fits,lo,hi];unfold eh at h;omega

section
variable {K:Nat->Prop} {G:List Gh} {H:List Ob} {w:World} {P:Program}

theorem zH{t:TypeId}{k:Tk}(h:z7 P t=k)(hk:k≠.other):∃ti,ej P t=some ti/\ti.kind=k:=by
 unfold z7 at h;split at h
 .exact⟨_,by assumption,h⟩
 .exact absurd h.symm hk

theorem yV{op:UnOp}{c:Value}{x:Va}(hc:VR K w.heap G c x)(hok:(Ea op x).ok):∃c',(Op.unary op c).run P w=.ok c' w/\VR K w.heap G c' (Ea op x).v:=by
 unfold Ea at hok|-;split at hok
 .simp only[VR,DR]at hc
  subst hc
  cases op <;> first|exact hok.elim|exact⟨_,rfl,fD rfl⟩
 .simp only[VR,DR]at hc
  obtain⟨rfl,_⟩:=hc
  cases op <;> first|exact hok.elim|exact⟨_,rfl,i9 (Fits.wrap _ _)⟩|exact⟨_,rfl,i9 (Fits.bits _ _ _ _)⟩
 .exact hok.elim

theorem DRss.bytes{h:Array Obj}(l:List UInt8):DRss K h 1 (l.map fun b=>Value.int .u8 b.toNat) (bR l):=by
 induction l with
 |nil=>simp[bR,DRss]
 |cons b l ih =>
  simp only[bR,map_cons,DRss];refine⟨[.int .u8 b.toNat],_,rfl,rfl,?_,ih⟩;simp only[DRs,DR];refine⟨_,[],rfl,⟨rfl,by simp[lo],?_⟩,rfl⟩;have:=b.toNat_lt
  simp only[hi];omega
theorem lQ(hS:St K G H w){c:Value}{o:Nat}(hc:VR K w.heap G c (.buf o)){rows:List (List Dt)}(hx:gS H o=some rows) :
  rows.length<=eh/\((∃a cap,c=.slice a 0 cap/\rows=[])∨∃b off cap cs T fr sz vs,c=.slice (some ⟨b,off,none⟩) rows.length cap/\w.heap[b]?=some (.cells cs T fr) /\
   (∀j v,vs[j]?=some v->cs[off+j]?=some v)/\DRss K w.heap sz vs rows):=by
 unfold gS at hx;split at hx
 .rename_i o T bs ho
  cases hx;simp only[VR]at hc;obtain⟨g,hg,rfl,_⟩:=hc;obtain⟨hlim,hh⟩:=hS.ob _ g _ hg (zn ho (by simp))
  have hbl:(bR bs).length=bs.length:=by simp[bR]
  rcases hh with⟨h1,rfl,_⟩|⟨b,cap,cur,fr,hsv,hgb,hb,hfr,h4,h5,h6,h7,h8⟩
  .exact⟨by simp[bR],.inl ⟨none,0,h1,rfl⟩⟩
  .refine⟨by rw[hbl];exact hlim,.inr ⟨b,0,cap,cur,T,_,1,bs.map nJ,by rw[hbl];exact hsv,hb,fun j v hj=>?_,DRss.bytes bs⟩⟩
   rw[<-h8,getElem?_take]at hj;split at hj
   .rw[Nat.zero_add,<-Array.getElem?_toList];exact hj
   .cases hj
 obtain⟨⟨T,sz,rows',fx⟩,ho,hx⟩:=Option.map_eq_some_iff.1 hx;cases hx;simp only[VR]at hc;obtain⟨g,hg,rfl,_⟩:=hc;obtain⟨hlim,xs,hxs,hh⟩:=hS.bufOb ho hg
 rcases hh with⟨⟨a,h1⟩,rfl,_⟩|⟨b,cap,cur,fr,hsv,hgb,hb,hfr,h4,h5,h6,h7⟩
 .exact⟨by simp,.inl ⟨a,0,h1,rfl⟩⟩
 .refine⟨hlim,.inr ⟨b,0,cap,cur,T,_,sz,xs,hsv,hb,fun j v hj=>?_,hxs⟩⟩
  rw[<-h7,getElem?_take]at hj;split at hj
  .rw[Nat.zero_add,<-Array.getElem?_toList];exact hj
  .cases hj
theorem HS(hS:St K G H w){c:Value}{x:Va}(hc:VR K w.heap G c x){rows:List (List Dt)}(hx:ym H x=some rows) :
  rows.length<=eh/\((∃a cap,c=.slice a 0 cap/\rows=[])∨∃b off cap cs T fr sz vs,c=.slice (some ⟨b,off,none⟩) rows.length cap/\w.heap[b]?=some (.cells cs T fr) /\
   (∀j v,vs[j]?=some v->cs[off+j]?=some v)/\DRss K w.heap sz vs rows):=by
 unfold ym at hx;split at hx
 .rename_i rows'
  cases hx;simp only[VR,DR]at hc
  rcases hc with⟨⟨a,rfl⟩,rfl⟩|⟨b,off,cap,cs,T,fr,sz,vs,rfl,hK,hb,hle,hlim,hv,hd⟩
  .exact⟨by simp,.inl ⟨a,0,rfl,rfl⟩⟩
  .exact⟨hlim,.inr ⟨b,off,cap,cs,T,fr,sz,vs,rfl,hb,hv,hd⟩⟩
 .rename_i rows'
  cases hx;simp only[VR,DR]at hc
  rcases hc.1 with⟨⟨a,rfl⟩,rfl⟩|⟨b,off,cap,cs,T,fr,sz,vs,rfl,hK,hb,hle,hlim,hv,hd⟩
  .exact⟨by simp,.inl ⟨a,0,rfl,rfl⟩⟩
  .exact⟨hlim,.inr ⟨b,off,cap,cs,T,fr,sz,vs,rfl,hb,hv,hd⟩⟩
 .cases hx
  simp only[VR]at hc;exact⟨by simp,.inl ⟨none,0,hc,rfl⟩⟩
 .exact lQ hS hc hx
 .refine lQ hS ?_ hx
  simp only[VR]at hc|-;obtain⟨g,a,n,cap,h1,h2,h3,_⟩:=hc;exact⟨g,h1,h3,a,n,cap,h2⟩
 .rename_i o sz a n
  split at hx
  rotate_left
  .cases hx
  rename_i T sz' rows' fx ho
  split at hx
  rotate_left
  .cases hx
  rename_i hsz
  subst hsz;cases hx;simp only[VR]at hc;obtain⟨g,ad,N,cap,hg,hsv,haN,ad',cap',rfl,hnc,_,hpos⟩:=hc;obtain⟨hlim,xs,hxs,hh⟩:=hS.bufOb ho hg
  rcases Nat.eq_zero_or_pos n with rfl|hn
  .exact⟨by simp,.inl ⟨ad',cap',rfl,by simp⟩⟩
  obtain⟨b0,hgb0,rfl,rfl⟩:=hpos (by omega)
  rcases hh with⟨⟨a',h1⟩,rfl,_⟩|⟨b,cap2,cur,fr,hsv2,hgb,hb,hfr,h4,h5,h6,h7⟩
  .rw[hsv]at h1;cases h1;omega
  rw[hsv]at hsv2;cases hsv2
  have hl:((rows'.drop a).take n).length=n:=by simp;omega
  refine⟨by omega,.inr ⟨_,a*sz,cap',cur,T,_,sz,(xs.drop (a*sz)).take (n*sz),by rw[hl],hb,fun j v hj=>?_,(hxs.drop _).take _⟩⟩;rw[getElem?_take]at hj;split at hj
  .rw[getElem?_drop,<-h7,getElem?_take]at hj
   split at hj
   .rw[<-Array.getElem?_toList];exact hj
   .cases hj
  .cases hj
 .split at hx
  rotate_left
  .cases hx
  rename_i p i _ T sz ins ho
  cases hx;simp only[VR]at hc;obtain⟨g,a,m,cap,hg,hgi,rfl⟩:=hc;obtain⟨hb0,hl,hin,_⟩:=hS.ob p g _ hg (zn ho (by simp));have hil:=(List.getElem?_eq_some_iff.1 hgi).1
  have hins:ins[i]?=some (ins.getD i []):=by rw[getElem?_eq_getElem (by omega),getD_eq_getElem?_getD,getElem?_eq_getElem (by omega)];rfl
  obtain⟨hlim,xs,hxs,hh⟩:=hin i _ _ hgi hins
  rcases hh with⟨⟨a',h1⟩,h0',_⟩|⟨b,cap',cur,fr,hsv,hgb,hb,hfr,h4,h5,h6,h7⟩
  .exact⟨hlim,.inl ⟨a',0,h1,h0'⟩⟩
  .refine⟨hlim,.inr ⟨b,0,cap',cur,T,_,sz,xs,hsv,hb,fun j v hj=>?_,hxs⟩⟩
   rw[<-h7,getElem?_take]at hj;split at hj
   .rw[Nat.zero_add,<-Array.getElem?_toList];exact hj
   .cases hj
 .cases hx

theorem J7{h:Array Obj}{ag:Bool}:∀{mes:List MapEntry} {es:List (Dt×List Dt)},MRs K h ag mes es->mes.length=es.length
 |[],[],_=>rfl
 |_::mes,_::es,H=>by simp only[MRs]at H;simp[J7 H.2.2]
 |[],_::_,H=>by simp[MRs]at H
 |_::_,[],H=>by simp[MRs]at H
theorem yo{t:TypeId}{ti:Ti}(ht:ej P t=some ti){k e:TypeId}(hk:ti.kind=.map k e):P.underlying t=some (.map k e):=by
 obtain⟨d,h1,h2,h3⟩:=rT ht;rw[hk]at h2
 cases d <;> simp only[sr]at h2 <;> try (cases h2)
 case slice e=>split at h2 <;> cases h2
 case array n e=>split at h2 <;> cases h2
 case struct fields=>split at h2 <;> cases h2
 case map=>exact h1
theorem wO(hS:St K G H w){c:Value}{x:Va}(hc:VR K w.heap G c x){n:Nat}(hn:wP H x=some n):∃a cap,c=.slice a n cap/\n<=eh:=by
 unfold wP at hn;split at hn
 rotate_left
 .cases hn
 split at hn
 rotate_left
 .cases hn
 rename_i f T sz k p rows st ho
 cases hn;simp only[VR]at hc;obtain⟨g,hg,rfl,_⟩:=hc;obtain⟨h0,_,gp,vs,_,hvl,_,hlim,xs,hxs,hh⟩:=hS.ob _ g _ hg (zn ho (by simp));have hol:=xI (k:=k) hvl
 rcases hh with⟨⟨a,h1⟩,h0',_⟩|⟨b,cap,cur,fr,hsv,_⟩
 .rw[h0']at hol;simp at hol
  exact⟨a,0,by rw[h1,<-hol],h0⟩
 .exact⟨_,_,by rw[hsv,hol],h0⟩
theorem wM{t:TypeId}(hS:St K G H w){c:Value}{x:Va}(hc:VR K w.heap G c x)(hok:(tA P t H x).ok)(ts:Array TypeId)(hts:ts[0]?=some t)(ty:TypeId) :
  ∃c',(Builtin.len_ ts ty #[c]).run P w=.ok c' w/\VR K w.heap G c' (tA P t H x).v:=by
 unfold tA at hok|-;split at hok
 .rename_i hk
  obtain⟨ti,ht,hk'⟩:=zH hk (by simp);split at hok
  rotate_left
  .exact hok.elim
  simp only[VR,DR]at hc;obtain⟨rfl,hl⟩:=hc;refine⟨_,by simp only[Builtin.len_,hts,getElem?_toArray,getElem?_cons_zero,run_underlying (yp ht hk'),Sem.run_bind,Sem.run_pure,Result.andThen_ok];rfl,?_⟩;simp only[goInt,ByteArray.size,size_toArray];exact i9 (BJ hl)
 .rename_i n e s a hk
  obtain⟨ti,ht,hk'⟩:=zH hk (by simp);refine⟨_,by simp only[Builtin.len_,hts,getElem?_toArray,getElem?_cons_zero,run_underlying (yn ht hk').1,Sem.run_bind,Sem.run_pure,Result.andThen_ok];rfl,?_⟩;exact i9 (BJ hok)
 .rename_i e s b z hk
  obtain⟨ti,ht,hk'⟩:=zH hk (by simp);split at hok
  rotate_left
  .split at hok
   .simp only[VR]at hc
    obtain⟨g,b,hg,hgb,rfl⟩:=hc;exact⟨_,by simp only[Builtin.len_,hts,getElem?_toArray,getElem?_cons_zero,run_underlying (iT ht hk').1,Sem.run_bind,Sem.run_pure,Result.andThen_ok];rfl,i9 (BJ hok)⟩
   .split at hok
    rotate_left
    .exact hok.elim
    rename_i n hn
    obtain⟨a,cap,rfl,hlim⟩:=wO hS hc hn;exact⟨_,by simp only[Builtin.len_,hts,getElem?_toArray,getElem?_cons_zero,run_underlying (iT ht hk').1,Sem.run_bind,Sem.run_pure,Result.andThen_ok];rfl,i9 (BJ hlim)⟩
  rename_i rows hr
  obtain⟨hlim,hh⟩:=HS hS hc hr;refine⟨goInt rows.length,?_,i9 (BJ hlim)⟩
  rcases hh with⟨a,cap,rfl,rfl⟩|⟨b,off,cap,cs,T,fr,sz,vs,rfl,_⟩
  .simp only[Builtin.len_,hts,getElem?_toArray,getElem?_cons_zero,run_underlying (iT ht hk').1,Sem.run_bind,Sem.run_pure,Result.andThen_ok];rfl
  .simp only[Builtin.len_,hts,getElem?_toArray,getElem?_cons_zero,run_underlying (iT ht hk').1,Sem.run_bind,Sem.run_pure,Result.andThen_ok]
 .rename_i kt et hk
  obtain⟨ti,ht,hk'⟩:=zH hk (by simp);split at hok
  rotate_left
  .exact hok.elim
  rename_i o
  split at hok
  rotate_left
  .exact hok.elim
  rename_i ag es ho
  simp only[VR]at hc;obtain⟨g,b,hg,hgb,rfl⟩:=hc;obtain⟨hlim,b',mes,clock,hgb',hb,hrs,_⟩:=hS.ob _ g _ hg (zn ho (by simp))
  obtain rfl:b'=b:=by rw[hgb]at hgb';exact(Option.some.inj hgb').symm
  have hl:mes.size=es.length:=by rw[<-Array.length_toList];exact J7 hrs
  refine⟨goInt mes.size,by simp only[Builtin.len_,hts,getElem?_toArray,getElem?_cons_zero,run_underlying (yo ht hk'),Sem.run_bind,Sem.run_pure,Result.andThen_ok,run_getObj_map w b' mes clock hb],?_⟩;rw[hl];exact i9 (BJ hlim)
 .exact hok.elim

theorem JO{h:Array Obj}:∀{sz:Nat} {rows:List (List Dt)} {vs:List Value},DRss K h sz vs rows->fm rows->∃ns:List Int,vs=ns.map (Value.int .u8)/\(ns.map fun n=>UInt8.ofNat n.toNat)=gf rows/\ns.length=rows.length
 |_,[],vs,hd,_=>by simp only[DRss]at hd;subst hd;exact⟨[],rfl,rfl,rfl⟩
 |_,[.i k n]::rs,vs,hd,ha=>by
  simp only[DRss,DRs,DR]at hd;obtain⟨a,b,rfl,_,⟨v,vs',rfl,⟨rfl,_⟩,rfl⟩,h4⟩:=hd;simp only[fm]at ha;obtain⟨rfl,ha⟩:=ha;obtain⟨ns,rfl,h2,h3⟩:=JO h4 ha;exact⟨n::ns,by simp,by simp[gf,h2],by simp[h3]⟩
 |_,[]::_,_,_,ha=>by simp[fm]at ha
 |_,[.b _]::_,_,_,ha=>by simp[fm]at ha
 |_,[.s _]::_,_,_,ha=>by simp[fm]at ha
 |_,[.l _]::_,_,_,ha=>by simp[fm]at ha
 |_,[.a _]::_,_,_,ha=>by simp[fm]at ha
 |_,(_::_::_)::_,_,_,ha=>by simp[fm]at ha

theorem uo{src dst:TypeId}(hS:St K G H w){c:Value}{x:Va}(hc:VR K w.heap G c x)(hsrc:∃d,P.underlying src=some d)(hok:(mU P src dst H x).ok) :
  ∃c',(convert src dst c).run P w=.ok c' w/\VR K w.heap G c' (mU P src dst H x).v:=by
 obtain⟨dsrc,hsrc⟩:=hsrc;unfold mU at hok|-;split at hok
 .rename_i k' hk
  obtain⟨ti,ht,hk'⟩:=zH hk (by simp);have hu:=ip ht hk';split at hok
  rotate_left
  .exact hok.elim
  simp only[VR,DR]at hc;obtain⟨rfl,_⟩:=hc;exact⟨_,by simp[convert,run_underlying hsrc,run_underlying hu,Conv.intToInt],i9 (Fits.wrap _ _)⟩
 .rename_i hk
  obtain⟨ti,ht,hk'⟩:=zH hk (by simp);have hu:=yp ht hk';split at hok
  .simp only[VR,DR]at hc
   obtain⟨rfl,hl⟩:=hc;exact⟨_,by simp[convert,run_underlying hsrc,run_underlying hu],uW hl⟩
  .split at hok
   rotate_left
   .exact hok.elim
   rename_i rows e es eb ez hr hks
   split at hok
   rotate_left
   .exact hok.elim
   rename_i hke
   have hall:fm rows:=hok;obtain⟨ti2,ht2,hk2⟩:=zH hks (by simp);obtain⟨ti3,ht3,hk3⟩:=zH hke (by simp);have hu2:=(iT ht2 hk2).1;have hu3:=ip ht3 hk3;obtain⟨hlim,hh⟩:=HS hS hc hr
   rcases hh with⟨a,cap,rfl,rfl⟩|⟨b,off,cap,cs,T,fr,sz,vs,rfl,hb,hv,hd⟩
   .exact⟨.string ByteArray.empty,by
     rw[run_convert_bytes_string w src dst e _ _ _ hu2 hu3 hu]
     cases a <;> simp[Conv.bytesToString,loadCells,loadCellsFrom],uW (x:=[]) (by simp)⟩
   .obtain⟨ns,rfl,h2,h3⟩:=JO hd hall
    refine⟨_,run_convert_bytes_arg w src e hu2 hu3 b off _ cap ns h3 (fun i hi=>?_) dst hu,?_⟩
    .rw[cell_of_row w b (off+i) cs T fr hb]
     refine hv i _ ?_
     have:i<ns.length:=by omega
     simp[getElem?_eq_getElem this,List.getD]
    .rw[strOfNums,h2]
     refine uW ?_
     rw[<-h2];simp only[length_map];omega
 .exact hok.elim
theorem uq{src dst:TypeId}(hS:St K G H w){c:Value}{x:Va}(hc:VR K w.heap G c x)(hsrc:∃d,P.underlying src=some d)(hok:(mV P src dst H x).ok) :
  ∃c',(convert src dst c).run P w=.ok c' w/\VR K w.heap G c' (mV P src dst H x).v:=by
 unfold mV at hok|-;split at hok
 .rename_i o
  split at hok
  rotate_left
  .exact hok.elim
  rename_i T vs hob
  have hok':JF P src dst T vs.length=true:=hok;have hc':=hc;simp only[VR]at hc;obtain⟨g,b,hg,hgb,rfl⟩:=hc;obtain⟨b',cs,hb',hb,hvs⟩:=hS.ob o g _ hg (zn hob (by simp))
  obtain rfl:b'=b:=by rw[hgb]at hb';exact(Option.some.inj hb').symm
  have hl:=hvs.length
  have hsh:w.shape? b'=some (T,vs.length):=by simp[World.shape?,hb,hl]
  refine⟨_,?_,hc'⟩;unfold JF at hok';split at hok'
  .rename_i t h1 h2
   split at hok'
   .rename_i j hj
    simp only[Bool.and_eq_true,decide_eq_true_eq]at hok';exact Lib.run_to_unsafe w ⟨b',0,none⟩ h1 h2 hj hok'.1 hsh hok'.2
   .cases hok'
  .rename_i u h1 h2
   simp only[Bool.and_eq_true]at hok';obtain⟨j,hj⟩:=Option.isSome_iff_exists.1 hok'.1;exact Lib.run_from_unsafe w ⟨b',0,none⟩ h1 h2 hj hsh hok'.2
  .cases hok'
 .exact uo hS hc hsrc hok
end

def gL:Va->List Va
 |.agg cs=>cs
 |v=>[v]
def Va.isCell:Va->Bool
 |.tup _|.top|.cnd _ _|.p (.a _)=>false
 |.raw v=>v.oneCell'
 |_=>true
def setR:List Va->Nat->List Va->List Va
 |l,0,xs=>xs++l.drop xs.length
 |x::l,n+1,xs=>x::setR l n xs
 |[],_+1,_=>[]
def iF(pl:Nat->Option (Nat×Nat)):List Va->List (Nat×Va)->Option (List Va)
 |cells,[]=>some cells
 |cells,(i,v)::rest=>match pl i with
  |none=>none
  |some (off,size)=>if v.isCell=true/\(gL v).length=size/\off+(gL v).length<=cells.length then iF pl (setR cells off (gL v)) rest else none
def yr(fs:List (Nat×Nat×Bool))(i:Nat):Option (Nat×Nat):=match fs[i]? with
 |some (a,b,_)=>some (a,b)
 |none=>none
def nC:List Value->Prop
 |[]=>True
 |z::zs=>um z/\nC zs
def iL(ti:Ti)(parts:List (Nat×Va)):Pv:=match ti.kind with
 |.struct fs=>match iF (yr fs) (ti.zero.map cv) parts with
  |some cs=>⟨.agg cs,nC ti.zero⟩
  |none=>ew
 |.arr _ _ esz _=>match iF (fun i=>some (i*esz,esz)) (ti.zero.map cv) parts with
  |some cs=>⟨.agg cs,nC ti.zero⟩
  |none=>ew
 |_=>ew

def eP:List Value->Nat->List Value->List Value
 |l,0,xs=>xs++l.drop xs.length
 |x::l,n+1,xs=>x::eP l n xs
 |[],_+1,_=>[]

section
variable {K:Nat->Prop} {h:Array Obj} {G:List Gh} {P:Program} (w:World)
theorem BU{c:Value}(h:c.oneCell'=true):c.cells.toList=[c]:=by
 cases c <;> first|rfl|simp[Value.oneCell']at h
theorem vO{c:Value}{v:Va}(hc:VR K h G c v)(hv:v.isCell=true):VRs K h G c.cells.toList (gL v):=by
 have one:c.oneCell'=true->gL v=[v]->VRs K h G c.cells.toList (gL v):=fun h1 h2=>by
  rw[BU h1,h2];exact⟨c,[],rfl,hc,rfl⟩
 cases v with
 |p x =>
  refine one ?_ rfl
  cases x with
  |l rows=>simp only[VR,DR]at hc;rcases hc with⟨⟨_,rfl⟩,_⟩|⟨_,_,_,_,_,_,_,_,rfl,_⟩ <;> rfl
  |b x=>simp only[VR,DR]at hc;subst hc;rfl
  |i k n=>simp only[VR,DR]at hc;obtain⟨rfl,_⟩:=hc;rfl
  |s x=>simp only[VR,DR]at hc;obtain⟨rfl,_⟩:=hc;rfl
  |a ds=>simp[Va.isCell]at hv
  |r x=>simp only[VR,DR]at hc;obtain⟨rfl,h⟩:=hc;exact h
 |nils=>refine one ?_ rfl;simp only[VR]at hc;subst hc;rfl
 |full rows=>refine one ?_ rfl;simp only[VR]at hc;obtain⟨_,a,rfl⟩:=hc;rfl
 |rp row=>refine one ?_ rfl;simp only[VR]at hc;obtain⟨_,_,_,_,_,_,rfl,_⟩:=hc;rfl
 |ptr o off=>refine one ?_ rfl;simp only[VR]at hc;obtain⟨_,_,_,_,rfl⟩:=hc;rfl
 |cs o off=>refine one ?_ rfl;simp only[VR]at hc;obtain⟨_,_,_,_,rfl⟩:=hc;rfl
 |el o sz i off=>refine one ?_ rfl;simp only[VR]at hc;obtain⟨_,_,_,_,_,_,_,rfl⟩:=hc;rfl
 |buf o=>refine one ?_ rfl;simp only[VR]at hc;obtain⟨_,_,rfl,_,_,_,e⟩:=hc;rw[e];rfl
 |mp o=>refine one ?_ rfl;simp only[VR]at hc;obtain⟨_,_,_,_,rfl⟩:=hc;rfl
 |np o=>refine one ?_ rfl;simp only[VR]at hc;rcases hc with rfl|⟨_,_,_,_,rfl⟩ <;> rfl
 |sd o=>refine one ?_ rfl;simp only[VR]at hc;obtain⟨_,_,_,_,_,_,rfl⟩:=hc;rfl
 |vw o sz a n=>refine one ?_ rfl;simp only[VR]at hc;obtain⟨_,_,_,_,_,_,_,_,_,rfl,_⟩:=hc;rfl
 |bufc o cp=>refine one ?_ rfl;simp only[VR]at hc;obtain⟨_,_,_,_,_,e,rfl,_⟩:=hc;rw[e];rfl
 |nv o i=>refine one ?_ rfl;simp only[VR]at hc;obtain⟨_,_,_,_,_,_,rfl⟩:=hc;rfl
 |ne o sz i j off=>refine one ?_ rfl;simp only[VR]at hc;obtain⟨_,_,_,_,_,_,rfl⟩:=hc;rfl
 |fn f vs=>refine one ?_ rfl;simp only[VR]at hc;obtain⟨_,rfl,_⟩:=hc;rfl
 |agg cs=>simp only[VR]at hc;obtain⟨cs',rfl,hcs⟩:=hc;simpa [gL,Value.cells]using hcs
 |tup vs=>simp[Va.isCell]at hv
 |nil=>refine one ?_ rfl;simp only[VR]at hc;subst hc;rfl
 |cnd x y=>simp[Va.isCell]at hv
 |raw x=>refine one ?_ rfl;simp only[VR]at hc;subst hc;simpa [Va.isCell]using hv
 |er b=>refine one ?_ rfl;simp only[VR]at hc;rcases hc with⟨_,rfl⟩|⟨_,_,_,rfl⟩ <;> rfl
 |top=>simp[Va.isCell]at hv

theorem B4:∀(l:List Value) (n:Nat) (xs:List Value),n+xs.length<=l.length->(eP l n xs).length=l.length
 |l,0,xs,h=>by simp[eP];omega
 |x::l,n+1,xs,h=>by simp only[eP,length_cons]at *;rw[B4 l n xs (by omega)]
 |[],n+1,xs,h=>by simp at h
theorem lM:∀(l:List Va) (n:Nat) (xs:List Va),n+xs.length<=l.length->(setR l n xs).length=l.length
 |l,0,xs,h=>by simp[setR];omega
 |x::l,n+1,xs,h=>by simp only[setR,length_cons]at *;rw[lM l n xs (by omega)]
 |[],n+1,xs,h=>by simp at h
theorem VRs.setR:∀{cs:List Value} {vs:List Va},VRs K h G cs vs->∀(n:Nat) {es:List Value} {us:List Va},VRs K h G es us->n+us.length<=vs.length->VRs K h G (eP cs n es) (Vc.setR vs n us)
 |cs,vs,H,0,es,us,H',_=>by
  simp only[eP,Vc.setR];rw[H'.length];exact H'.append (H.drop _)
 |cs,v::vs,H,n+1,es,us,H',hl=>by
  simp only[VRs]at H;obtain⟨c,cs',rfl,h2,h3⟩:=H;simp only[eP,Vc.setR,VRs];exact⟨c,_,rfl,h2,VRs.setR h3 n H' (by simp at hl;omega)⟩
 |cs,[],H,n+1,es,us,H',hl=>by simp at hl
theorem H3(off:Nat):∀(xs:List Value) (k:Nat) (cs:Array Value),off+k+xs.length<=cs.size ->
  ((xs.zipIdx k).foldl (fun cs (c,j)=>cs.setIfInBounds (off+j) c) cs).toList=eP cs.toList (off+k) xs
 |[],k,cs,hl=>by
  simp only[zipIdx_nil,foldl_nil]
  have:∀(l:List Value) (n:Nat),n<=l.length->eP l n []=l:=by
   intro l n
   induction n generalizing l with
   |zero=>intro _;simp[eP]
   |succ n ih=>intro hn;cases l with
    |nil=>simp at hn
    |cons x l=>simp only[eP];rw[ih l (by simpa using hn)]
  exact(this cs.toList _ (by simpa using hl)).symm
 |x::xs,k,cs,hl=>by
  simp only[zipIdx_cons,foldl_cons];rw[H3 off xs (k+1) _ (by simp at hl|-;omega)]
  have key:∀(l:List Value) (n:Nat),n+(x::xs).length<=l.length->eP (l.set n x) (n+1) xs=eP l n (x::xs):=by
   intro l n
   induction n generalizing l with
   |zero=>intro hn;cases l with
    |nil=>simp at hn
    |cons y l=>simp[eP]
   |succ n ih=>intro hn;cases l with
    |nil=>simp at hn
    |cons y l=>simp only[set_cons_succ,eP];rw[ih l (by simp at hn|-;omega)]
  simp only[Array.toList_setIfInBounds];rw[<-key cs.toList (off+k) (by simp at hl|-;omega)];rfl

theorem kL{pl:Nat->Option (Nat×Nat)}:∀{parts:List (Nat×Va)} {ps:List (Nat×Value)} {cells:List Va} {cs:Array Value} {r:List Va},
  iF pl cells parts=some r->VRs K h G cs.toList cells->(ps.map (·.1)=parts.map (·.1))->(∀(j:Nat) (c:Value) (v:Va),(ps[j]?.map fun x=>x.2)=some c->(parts[j]?.map fun x=>x.2)=some v->VR K h G c v) ->
  ∃cs',Instr.fill pl cs ps=some cs'/\VRs K h G cs'.toList r
 |[],ps,cells,cs,r,hf,hc,hp,_=>by
  simp only[iF]at hf;cases hf
  cases ps with
  |nil=>exact⟨cs,rfl,hc⟩
  |cons a b=>simp at hp
 |(i,v)::parts,ps,cells,cs,r,hf,hc,hp,hv=>by
  cases ps with
  |nil=>simp at hp
  |cons a ps =>
   obtain⟨i',c⟩:=a;simp only[map_cons,List.cons.injEq]at hp;obtain⟨rfl,hp⟩:=hp;simp only[iF]at hf;split at hf
   .cases hf
   rename_i off size hpl
   split at hf
   rotate_left
   .cases hf
   rename_i hcond
   obtain⟨hcell,hsz,hl⟩:=hcond;have hcv:=vO (hv 0 c v rfl rfl) hcell;have hcl:=hcv.length;have hcsl:=hc.length;simp only[Array.length_toList]at hcl hcsl
   have hnext:VRs K h G (c.cells.zipIdx.foldl (fun cs (c,j)=>cs.setIfInBounds (off+j) c) cs).toList (setR cells off (gL v)):=by
    have h1:=H3 off c.cells.toList 0 cs (by simp;omega);rw[<-Array.foldl_toList,Array.toList_zipIdx,h1];exact hc.setR off hcv hl
   obtain⟨cs',h1,h2⟩:=kL hf hnext hp (fun j c v hj hj'=>hv (j+1) c v (by simpa using hj) (by simpa using hj'));refine⟨cs',?_,h2⟩;simp only[Instr.fill,hpl];rw[if_neg (by simp;omega)];exact h1
end

section
variable {K:Nat->Prop} {h:Array Obj} {G:List Gh} {P:Program} (w:World)
theorem Kz{α β:Type}(f:α->Sem β)(g:α->β):∀(l:List α),(∀x∈l,(f x).run P w=.ok (g x) w)->(l.mapM f).run P w=.ok (l.map g) w
 |[],_=>by simp
 |x::l,hx=>by
  rw[mapM_cons];simp only[Sem.run_bind,hx x (by simp),Result.andThen_ok,Kz f g l (fun y hy=>hx y (by simp[hy])),Sem.run_pure,map_cons]
def yq(P:Program)(f:Field):Nat×Nat:=(f.offset,(gO P f.type).getD 0)
theorem KL:∀{fs:List Field} {l:List (Nat×Nat×Bool)},vK P fs=some l->(∀f∈fs,(do pure (f.offset,<-sizeOf f.type):Sem (Nat×Nat)).run P w=.ok (yq P f) w)/\∀i:Nat,(fs.map (yq P))[i]?=yr l i
 |[],l,hf=>by simp only[vK]at hf;cases hf;exact⟨by simp,by simp[yr]⟩
 |f::fs,l,hf=>by
  simp only[vK]at hf;split at hf
  .rename_i n d l' h1 h2 h3
   cases hf;obtain⟨hg1,hg2⟩:=KL h3;refine⟨fun f' hf'=>?_,fun i=>?_⟩
   .rcases mem_cons.1 hf' with rfl|hm
    .simp[lr h1,h1,yq]
    .exact hg1 f' hm
   .cases i with
    |zero=>simp[yr,h1,yq]
    |succ i =>
     have h4:=hg2 i;simp only[map_cons,getElem?_cons_succ,h4,yr]
  .cases hf
theorem vL:∀{zs:List Value},nC zs->VRs K h G zs (zs.map cv)
 |[],_=>by simp[VRs]
 |z::zs,hz=>by
  simp only[nC]at hz;simp only[map_cons,VRs];exact⟨z,zs,rfl,yh z hz.1,vL hz.2⟩

theorem ri{t:TypeId}{ti:Ti}(ht:ej P t=some ti){ps:Array (Nat×Value)}{parts:List (Nat×Va)}(hp:ps.toList.map (·.1)=parts.map (·.1))
  (hv:∀(j:Nat) (c:Value) (v:Va),(ps.toList[j]?.map fun x=>x.2)=some c->(parts[j]?.map fun x=>x.2)=some v->VR K h G c v) (hok:(iL ti parts).ok) :
  ∃c',(Instr.build t ps).run P w=.ok c' w/\VR K h G c' (iL ti parts).v:=by
 obtain⟨z,hz,hzc⟩:=KA w ht;unfold iL at hok|-;split at hok
 .rename_i fs hk
  obtain⟨fields,hu,hfs⟩:=HW ht hk;split at hok
  rotate_left
  .exact hok.elim
  rename_i cs hf
  obtain⟨hg1,hg2⟩:=KL w hfs;have hm:=Kz (P:=P) w (fun f:Field=>(do pure (f.offset,<-sizeOf f.type):Sem (Nat×Nat))) (yq P) fields.toList hg1;obtain⟨cs',h1,h2⟩:=kL hf (by rw[hzc];exact vL hok) hp hv
  have hpl:(fun i:Nat=>(fields.toList.map (yq P)).toArray[i]?)=yr fs:=by
   funext i
   rw[<-hg2 i,getElem?_toArray]
  have hm':(fields.mapM fun f=>(do pure (f.offset,<-sizeOf f.type):Sem (Nat×Nat))).run P w=.ok (fields.toList.map (yq P)).toArray w:=by
   rw[Array.mapM_eq_mapM_toList];simp only[Sem.run_map,hm,Result.andThen_ok]
  refine⟨.agg cs',?_,?_⟩
  .simp only[Instr.build,Sem.run_bind,hz,Result.andThen_ok,run_underlying hu,hm',hpl,h1,Sem.run_pure]
  .simp only[VR];exact⟨cs'.toList,by simp,h2⟩
 .rename_i n e esz ag hk
  obtain⟨hu,hs,_⟩:=yn ht hk;split at hok
  rotate_left
  .exact hok.elim
  rename_i cs hf
  obtain⟨cs',h1,h2⟩:=kL hf (by rw[hzc];exact vL hok) hp hv;refine⟨.agg cs',?_,?_⟩
  .simp only[Instr.build,Sem.run_bind,hz,Result.andThen_ok,run_underlying hu,lr hs,h1,Sem.run_pure]
  .simp only[VR];exact⟨cs'.toList,by simp,h2⟩
 .exact hok.elim
end

def fi:Dt->Dt->Bool
 |.b a,.b b=>decide (a=b)
 |.i _ a,.i _ b=>decide (a=b)
 |.s a,.s b=>decide (a=b)
 |.a x,.a y=>fb y x
 |_,_=>false
def gl:List (Dt×List Dt)->Dt->Option (List Dt)
 |[],_=>none
 |p::es,d=>bif fi p.1 d then some p.2 else gl es d
def fq:List (Dt×List Dt)->Dt->List Dt->List (Dt×List Dt)
 |[],d,r=>[(d,r)]
 |p::es,d,r=>bif fi p.1 d then(d,r)::es else p::fq es d r
def ij:List (Dt×List Dt)->Dt->List (Dt×List Dt)
 |[],_=>[]
 |p::es,d=>bif fi p.1 d then es else p::ij es d
def m8:List (Dt×List Dt)->List Nat->Dt->List Nat
 |p::es,b::bs,d=>bif fi p.1 d then bs else b::m8 es bs d
 |_,bs,_=>bs
theorem pZ{d:Dt}:∀{es:List (Dt×List Dt)} {bs:List Nat} {j:Nat},es.length=bs.length->(∀r,fq es d r=es.set j (d,r))->j<es.length->m8 es bs d=bs.eraseIdx j
 |[],_,_,_,_,h=>by simp at h
 |_::_,[],_,h,_,_=>by simp at h
 |p::es,b::bs,j,hl,hs,hj=>by
  have no:∀q:Dt×List Dt,(∀r,(d,r)=q)->False:=fun q h=>by
   have h1:=(h []).trans (h [Dt.b true]).symm;simp at h1
  simp only[fq,m8]at *
  cases hq:fi p.1 d with
  |true =>
   simp only[hq,cond_true]at hs|-
   cases j with
   |zero=>rfl
   |succ j=>exact(no p fun r=>by have:=hs r;simp at this;exact this.1).elim
  |false =>
   simp only[hq,cond_false]at hs|-
   cases j with
   |zero=>exact(no p fun r=>by have:=hs r;simp at this;exact this.1.symm).elim
   |succ j =>
    rw[pZ (by simpa using hl) (fun r=>by have:=hs r;simpa using this) (by simpa using hj)];rfl
inductive Kk where
 |tk (k:Tk)
 |ks (l:List Kd)
def i6(P:Program)(kt:TypeId):Kk:=match P.underlying kt with
 |some (.struct _)=>match gG P 60 kt with
  |some l=>.ks l
  |none=>.tk .other
 |some (.array _ _)=>match gU P kt with
  |some l=>.ks l
  |none=>.tk .other
 |_=>.tk (z7 P kt)
def iX:Kk->Dt->Prop
 |.tk .str,.s _=>True
 |.tk .bool,.b _=>True
 |.tk (.int k),.i k' _=>k=k'
 |.ks l,.a ds=>zD l ds
 |_,_=>False
def ik(k:Kk):List (Dt×List Dt)->Prop
 |[]=>True
 |p::es=>iX k p.1/\ik k es
def AD:List Va->Option (List Dt)
 |[]=>some []
 |.p d::l=>match AD l with
  |some ds=>some (d::ds)
  |none=>none
 |_::_=>none
def mi:Va->Option Dt
 |.p d=>some d
 |.agg vs=>match AD vs with
  |some ds=>some (.a ds)
  |none=>none
 |_=>none
def nB(es:List (Dt×List Dt))(d:Dt)(z:List Dt):List Dt:=(gl es d).getD z
def gx:List Value->Prop
 |[]=>True
 |.bool _::l=>gx l
 |.int k n::l=>Fits k n/\gx l
 |.string s::l=>s.data.toList.length<=eh/\gx l
 |.slice none 0 0::l=>gx l
 |_=>False
def gD(ag:Bool)(row:List Dt):Va:=bif ag then .agg (row.map .p)else tL row 0
def oM(P:Program)(t:TypeId):Bool:=match (P.info? t).bind (·.zero)with
 |some (.agg _)=>true
 |_=>false
def l8(P:Program)(t:TypeId)(H:List Ob)(cok:Bool)(x k:Va):Pv:=match z7 P t,x,mi k with
 |.map kt et,.mp o,some d=>match ed H o,ej P et with
  |.mp ag es,some te=>⟨bif cok then .tup [gD ag (nB es d (zr te.zero)),.p (.b (gl es d).isSome)]else gD ag (nB es d (zr te.zero)),
    ik (i6 P kt) es/\iX (i6 P kt) d/\oM P et=ag/\gx te.zero/\(ag=false->te.zero.length=1)⟩
  |_,_=>ew
 |_,_,_=>ew

section
variable {K:Nat->Prop} {G:List Gh} {H:List Ob} {w:World} {P:Program}
theorem i7{h:Array Obj}:∀{l:List Value},gx l->DRs K h l (zr l)
 |[],_=>by simp[zr,DRs]
 |.bool x::l,hz=>by
  simp only[gx]at hz;simp only[zr,DRs,DR];exact⟨_,_,rfl,rfl,i7 hz⟩
 |.int k n::l,hz=>by
  simp only[gx]at hz;simp only[zr,DRs,DR];exact⟨_,_,rfl,⟨rfl,hz.1⟩,i7 hz.2⟩
 |.string s::l,hz=>by
  simp only[gx]at hz;simp only[zr,DRs,DR];exact⟨_,_,rfl,⟨by simp,hz.1⟩,i7 hz.2⟩
 |.slice none 0 0::l,hz=>by
  simp only[gx]at hz;simp only[zr,DRs,DR];exact⟨_,_,rfl,.inl ⟨⟨none,rfl⟩,trivial⟩,i7 hz⟩
theorem sq{t:TypeId}{ti:Ti}(ht:ej P t=some ti)(hk:ti.kind=.bool):P.underlying t=some .bool:=by
 obtain⟨d,h1,h2,h3⟩:=rT ht;rw[hk]at h2
 cases d <;> simp only[sr]at h2 <;> try (cases h2)
 case slice e=>split at h2 <;> cases h2
 case array n e=>split at h2 <;> cases h2
 case struct fields=>split at h2 <;> cases h2
 case bool=>exact h1
theorem wT{kt:TypeId}{d:Dt}{h:Array Obj}{c:Value}{kk:Kk}(hkk0:kk=.tk (z7 P kt))(hk:iX kk d)(hc:KR K h c d):∃td,P.underlying kt=some td/\MapKept.IsKey td c:=by
 subst hkk0
 cases hkk:z7 P kt <;> rw[hkk]at hk <;> cases d <;> simp only[iX]at hk
 .obtain⟨ti,ht,hk'⟩:=zH hkk (by simp)
  simp only[KR,DR]at hc;obtain⟨rfl,_⟩:=hc;exact⟨_,yp ht hk',by simp[MapKept.IsKey]⟩
 .obtain⟨ti,ht,hk'⟩:=zH hkk (by simp)
  simp only[KR,DR]at hc;subst hc;exact⟨_,sq ht hk',by simp[MapKept.IsKey]⟩
 .obtain⟨ti,ht,hk'⟩:=zH hkk (by simp)
  simp only[KR,DR]at hc;obtain⟨rfl,_⟩:=hc;exact⟨_,ip ht hk',by simp[MapKept.IsKey,hk]⟩
theorem lN{k:Tk}{h:Array Obj}{c e:Value}{d p:Dt}{td:TypeDesc}(hd:iX (.tk k) d)(hp:iX (.tk k) p)(hc:KR K h c d)(he:KR K h e p)(htd:MapKept.IsKey td c):Instr.sameNow td c e=some (fi p d)/\(fi p d=true->e=c)/\(fi p d=false->e≠c):=by
 cases k <;> cases d <;> simp only[iX]at hd <;> cases p <;> simp only[iX]at hp
 .rename_i a b
  simp only[KR,DR]at hc he;obtain⟨rfl,_⟩:=hc;obtain⟨rfl,_⟩:=he
  have e:((⟨a.toArray⟩:ByteArray) == ⟨b.toArray⟩)=decide (b=a):=by
   by_cases hab:b=a
   .subst hab;simp[MapKept.bytes_beq]
   .have:¬ ((⟨a.toArray⟩:ByteArray)=⟨b.toArray⟩):=fun h=>hab (by injection h with h;simpa using h.symm)
    rw[decide_eq_false hab];cases hx:((⟨a.toArray⟩:ByteArray) == ⟨b.toArray⟩)
    .rfl
    .exact absurd ((MapKept.bytes_beq _ _).1 hx) this
  refine⟨?_,fun h=>?_,fun h=>?_⟩
  .cases td <;> simp_all[MapKept.IsKey,Instr.sameNow,fi]
  .simp only[fi,decide_eq_true_eq]at h;rw[h]
  .simp only[fi,decide_eq_false_iff_not]at h;intro e;injection e with e;injection e with e;exact h (by simpa using e)
 .rename_i a b
  simp only[KR,DR]at hc he
  subst hc;subst he
  refine⟨?_,fun h=>?_,fun h=>?_⟩
  .cases td <;> simp_all[MapKept.IsKey,Instr.sameNow,fi]
   cases a <;> cases b <;> rfl
  .simp only[fi,decide_eq_true_eq]at h;rw[h]
  .simp only[fi,decide_eq_false_iff_not]at h;intro e;injection e with e;exact h e
 .rename_i k1 a k2 b
  simp only[KR,DR]at hc he;obtain⟨rfl,_⟩:=hc;obtain⟨rfl,_⟩:=he
  subst hd;subst hp
  refine⟨?_,fun h=>?_,fun h=>?_⟩
  .cases td <;> simp_all[MapKept.IsKey,Instr.sameNow,fi]
   by_cases hab:b=a
   .simp[hab]
   .simp[hab,Ne.symm hab]
  .simp only[fi,decide_eq_true_eq]at h;rw[h]
  .simp only[fi,decide_eq_false_iff_not]at h;intro e;injection e with _ e;exact h e
def iz(K:Nat->Prop)(h:Array Obj)(ag:Bool)(v:Value)(row:List Dt):Prop:=match ag with
 |true=>∃cs:List Value,v=.agg cs.toArray/\DRs K h cs row
 |false=>∃d,row=[d]/\DR K h v d
theorem mD{k:Tk}{h:Array Obj}{ag:Bool}{c:Value}{d:Dt}{td:TypeDesc}(hd:iX (.tk k) d)(hc:KR K h c d)(htd:MapKept.IsKey td c):∀{mes:List MapEntry} {es:List (Dt×List Dt)} (i:Nat),MRs K h ag mes es->ik (.tk k) es ->
  (Instr.findNow td c mes i=some none/\gl es d=none/\(∀r,fq es d r=es++[(d,r)])/\ij es d=es/\∀x∈mes,x.key≠c) ∨
  ∃j e row,Instr.findNow td c mes i=some (some (i+j,e.val))/\mes[j]?=some e/\e.key=c/\gl es d=some row/\iz K h ag e.val row/\(∀r,fq es d r=es.set j (d,r))/\ij es d=es.eraseIdx j
 |[],[],i,_,_=>.inl ⟨rfl,rfl,fun _=>rfl,rfl,by simp⟩
 |e::mes,p::es,i,hm,hk=>by
  simp only[MRs]at hm;simp only[ik]at hk;obtain⟨h1,h2,h3⟩:=lN hd hk.1 hc hm.1 htd
  cases hq:fi p.1 d with
  |true =>
   rw[hq]at h1;exact .inr ⟨0,e,p.2,by simp[Instr.findNow,h1],rfl,h2 hq,by simp[gl,hq],hm.2.1,fun r=>by simp[fq,hq],by simp[ij,hq]⟩
  |false =>
   rw[hq]at h1
   rcases mD hd hc htd (i+1) hm.2.2 hk.2 with⟨a1,a2,a3,a4,a8⟩|⟨j,e',row,a1,a2,a3,a4,a5,a6,a7⟩
   .exact .inl ⟨by simp[Instr.findNow,h1,a1],by simp[gl,hq,a2],fun r=>by simp[fq,hq,a3],by simp[ij,hq,a4],fun x hx=>by rcases mem_cons.1 hx with rfl|hx;exact h3 hq;exact a8 x hx⟩
   .exact .inr ⟨j+1,e',row,by simp[Instr.findNow,h1,a1];omega,by simpa using a2,a3,by simp[gl,hq,a4],a5,fun r=>by simp[fq,hq,a6],by simp[ij,hq,a7]⟩
 |[],_::_,_,hm,_=>by simp[MRs]at hm
 |_::_,[],_,hm,_=>by simp[MRs]at hm
mutual
theorem jj:∀(d:Nat) {t:TypeId} {ks:List Kd} (e:Nat) {h:Array Obj} {xs:List Value} {ds:List Dt} (em:Bool),gG P d t=some ks->DRs K h xs ds->zD ks ds ->
  (Instr.checkKey em (d+e) t (k9 P t xs)).run P w=.ok () w
 |0,t,ks,e,h,xs,ds,em,hk,_,_=>by simp[gG]at hk
 |d+1,t,ks,e,h,xs,ds,em,hk,hx,h1=>by
  rw[show d+1+e=(d+e)+1 by omega];unfold gG at hk;split at hk
  .rename_i hu
   split at hk
   rotate_left
   .cases hk
   cases hk
   match ds,h1 with
   |[.b x],_ =>
    simp only[DRs,DR]at hx;obtain⟨_,_,rfl,rfl,rfl⟩:=hx;simp[k9,eM,hu,Instr.checkKey,run_underlying hu]
  .rename_i k hu
   split at hk
   rotate_left
   .cases hk
   cases hk
   match ds,h1 with
   |[.i k1 x],h1 =>
    simp only[DRs,DR]at hx;obtain⟨_,_,rfl,⟨rfl,_⟩,rfl⟩:=hx;simp[k9,eM,hu,Instr.checkKey,run_underlying hu]
  .rename_i hu
   split at hk
   rotate_left
   .cases hk
   cases hk
   match ds,h1 with
   |[.s x],_ =>
    simp only[DRs,DR]at hx;obtain⟨_,_,rfl,⟨rfl,_⟩,rfl⟩:=hx;simp[k9,eM,hu,Instr.checkKey,run_underlying hu]
  .rename_i fs hu
   have hag:eM P t=true:=by simp[eM,hu]
   split at hk
   .cases hk
   split at hk
   .rename_i l hl
    split at hk
    .cases hk
     simp only[k9,hag,if_true];rw[Instr.checkKey];simp only[Sem.run_bind,run_underlying hu,Result.andThen_ok];rw[<-Array.forIn_toList];have hfs:=jk d e (xs:=xs) 0 em (Nat.zero_le _) hl (by simpa using hx) h1;rw[hfs];simp
    .cases hk
   .cases hk
  .cases hk
theorem jk:∀(d:Nat) (e:Nat) {fs:List Field} {ks:List Kd} {h:Array Obj} {xs:List Value} {ds:List Dt} (off:Nat) (em:Bool),off<=xs.length->kM P d off fs=some ks->DRs K h (xs.drop off) ds->zD ks ds ->
  (forIn fs PUnit.unit fun f _=>do
   if f.name≠ "_" then do
    Instr.checkKey em (d+e) f.type (<-part f.type xs.toArray f.offset)
    pure (ForInStep.yield PUnit.unit)
   else do
    pure PUnit.unit
    pure (ForInStep.yield PUnit.unit):Sem PUnit).run P w=.ok () w
 |d,e,[],ks,h,xs,ds,off,em,_,_,_,_=>by simp
 |0,e,f::fs,ks,h,xs,ds,off,em,_,hk,_,_=>by simp[kM]at hk
 |d+1,e,f::fs,ks,h,xs,ds,off,em,ox,hk,hx,h1=>by
  unfold kM at hk;split at hk
  .cases hk
  rename_i hn
  have hname:¬ f.name= "_":=fun e=>hn (.inl e)
  have hoff:f.offset=off:=Decidable.byContradiction fun e=>hn (.inr e)
  split at hk
  .rename_i l hl
   split at hk
   .rename_i l' hl'
    cases hk;obtain⟨h1a,h1b⟩:=B2 h1;have lx:=B3 h1;have lx':=hx.length;simp only[length_drop,length_append]at lx lx';obtain⟨hsz,hone,du,hdu⟩:=jC (K:=K) (h:=h) w d hl;have hpx:=BF (P:=P) w hsz hdu xs off (by omega) hone;have hq:=jj d (t:=f.type) (e+1) em hl (hx.take l.length) h1a;have hr:=jk d (e+1) (xs:=xs) (off+l.length) em (by omega) hl' (by simpa [drop_drop]using hx.drop l.length) h1b;rw[show d+1+e=d+(e+1)by omega];simp only[forIn_cons,Sem.run_bind,hname,ne_eq,not_false_eq_true,if_true,hoff,Result.andThen_ok,hpx,hq,Sem.run_pure];exact hr
   .cases hk
  .cases hk
end
theorem F2{h:Array Obj}:∀{ks:List Kd} {xs ys:List Value} {ds es:List Dt},zD ks ds->zD ks es->DRs K h xs ds->DRs K h ys es->(fb ds es=true->ys=xs)/\(fb ds es=false->ys≠xs)
 |[],xs,ys,[],[],_,_,hx,hy=>by
  simp only[DRs]at hx hy
  subst hx;subst hy
  exact⟨fun _=>rfl,fun e=>by simp[fb]at e⟩
 |.b::ks,xs,ys,.b x::ds,.b y::es,h1,h2,hx,hy=>by
  simp only[DRs,DR]at hx hy;simp only[zD]at h1 h2;obtain⟨_,xs',rfl,rfl,hx⟩:=hx;obtain⟨_,ys',rfl,rfl,hy⟩:=hy;obtain⟨i1,i2⟩:=F2 h1 h2 hx hy;simp only[fb,Bool.and_eq_true,decide_eq_true_eq,Bool.and_eq_false_iff,decide_eq_false_iff_not];refine⟨fun e=>by rw[i1 e.2,e.1],fun e he=>?_⟩;simp only[List.cons.injEq,Value.bool.injEq]at he
  rcases e with e|e
  .exact e he.1.symm
  .exact i2 e he.2
 |.s::ks,xs,ys,.s x::ds,.s y::es,h1,h2,hx,hy=>by
  simp only[DRs,DR]at hx hy;simp only[zD]at h1 h2;obtain⟨_,xs',rfl,⟨rfl,_⟩,hx⟩:=hx;obtain⟨_,ys',rfl,⟨rfl,_⟩,hy⟩:=hy;obtain⟨i1,i2⟩:=F2 h1 h2 hx hy;simp only[fb,Bool.and_eq_true,decide_eq_true_eq,Bool.and_eq_false_iff,decide_eq_false_iff_not];refine⟨fun e=>by rw[i1 e.2,e.1],fun e he=>?_⟩;simp only[List.cons.injEq,Value.string.injEq]at he
  rcases e with e|e
  .exact e (by have:=he.1;injection this with this;simpa using this.symm)
  .exact i2 e he.2
 |.i k::ks,xs,ys,.i k1 x::ds,.i k2 y::es,h1,h2,hx,hy=>by
  simp only[DRs,DR]at hx hy;simp only[zD]at h1 h2;obtain⟨rfl,h1⟩:=h1;obtain⟨rfl,h2⟩:=h2;obtain⟨_,xs',rfl,⟨rfl,_⟩,hx⟩:=hx;obtain⟨_,ys',rfl,⟨rfl,_⟩,hy⟩:=hy;obtain⟨i1,i2⟩:=F2 h1 h2 hx hy;simp only[fb,Bool.and_eq_true,decide_eq_true_eq,Bool.and_eq_false_iff,decide_eq_false_iff_not];refine⟨fun e=>by rw[i1 e.2,e.1],fun e he=>?_⟩;simp only[List.cons.injEq,Value.int.injEq,true_and]at he
  rcases e with e|e
  .exact e he.1.symm
  .exact i2 e he.2
 |[],_,_,_::_,_,h1,_,_,_=>by simp[zD]at h1
 |[],_,_,[],_::_,_,h2,_,_=>by simp[zD]at h2
 |k::_,_,_,[],_,h1,_,_,_=>by cases k <;> simp[zD]at h1
 |k::_,_,_,d::_,[],_,h2,_,_=>by cases k <;> simp[zD]at h2
 |.b::_,_,_,.s _::_,_::_,h1,_,_,_|.b::_,_,_,.i _ _::_,_::_,h1,_,_,_|.b::_,_,_,.l _::_,_::_,h1,_,_,_|.b::_,_,_,.a _::_,_::_,h1,_,_,_=>by simp[zD]at h1
 |.s::_,_,_,.b _::_,_::_,h1,_,_,_|.s::_,_,_,.i _ _::_,_::_,h1,_,_,_|.s::_,_,_,.l _::_,_::_,h1,_,_,_|.s::_,_,_,.a _::_,_::_,h1,_,_,_=>by simp[zD]at h1
 |.i _::_,_,_,.b _::_,_::_,h1,_,_,_|.i _::_,_,_,.s _::_,_::_,h1,_,_,_|.i _::_,_,_,.l _::_,_::_,h1,_,_,_|.i _::_,_,_,.a _::_,_::_,h1,_,_,_=>by simp[zD]at h1
 |.b::_,_,_,.b _::_,.s _::_,_,h2,_,_|.b::_,_,_,.b _::_,.i _ _::_,_,h2,_,_|.b::_,_,_,.b _::_,.l _::_,_,h2,_,_|.b::_,_,_,.b _::_,.a _::_,_,h2,_,_=>by simp[zD]at h2
 |.s::_,_,_,.s _::_,.b _::_,_,h2,_,_|.s::_,_,_,.s _::_,.i _ _::_,_,h2,_,_|.s::_,_,_,.s _::_,.l _::_,_,h2,_,_|.s::_,_,_,.s _::_,.a _::_,_,h2,_,_=>by simp[zD]at h2
 |.i _::_,_,_,.i _ _::_,.b _::_,_,h2,_,_|.i _::_,_,_,.i _ _::_,.s _::_,_,h2,_,_|.i _::_,_,_,.i _ _::_,.l _::_,_,h2,_,_|.i _::_,_,_,.i _ _::_,.a _::_,_,h2,_,_=>by simp[zD]at h2
theorem F5{h:Array Obj}:∀{ks:List Kd} {xs:List Value} {ds:List Dt} (n:Nat),zD ks ds->DRs K h xs ds->((xs.zip xs).all fun(x,y)=>Instr.sameBits n x y)=true
 |[],xs,[],n,_,hx=>by simp only[DRs]at hx;subst hx;rfl
 |.b::ks,xs,.b x::ds,n,h1,hx=>by
  simp only[DRs,DR]at hx;simp only[zD]at h1;obtain⟨_,xs',rfl,rfl,hx⟩:=hx;have:=F5 n h1 hx;simp only[zip_cons_cons,all_cons,this,Bool.and_true]
  cases n <;> simp[Instr.sameBits]
 |.s::ks,xs,.s x::ds,n,h1,hx=>by
  simp only[DRs,DR]at hx;simp only[zD]at h1;obtain⟨_,xs',rfl,⟨rfl,_⟩,hx⟩:=hx;have:=F5 n h1 hx;simp only[zip_cons_cons,all_cons,this,Bool.and_true]
  cases n <;> simp[Instr.sameBits,MapKept.bytes_beq]
 |.i k::ks,xs,.i k1 x::ds,n,h1,hx=>by
  simp only[DRs,DR]at hx;simp only[zD]at h1;obtain⟨_,xs',rfl,⟨rfl,_⟩,hx⟩:=hx;have:=F5 n h1.2 hx;simp only[zip_cons_cons,all_cons,this,Bool.and_true]
  cases n <;> simp[Instr.sameBits]
 |[],_,_::_,_,h1,_=>by simp[zD]at h1
 |k::_,_,[],_,h1,_=>by cases k <;> simp[zD]at h1
 |.b::_,_,.s _::_,_,h1,_|.b::_,_,.i _ _::_,_,h1,_|.b::_,_,.l _::_,_,h1,_|.b::_,_,.a _::_,_,h1,_=>by simp[zD]at h1
 |.s::_,_,.b _::_,_,h1,_|.s::_,_,.i _ _::_,_,h1,_|.s::_,_,.l _::_,_,h1,_|.s::_,_,.a _::_,_,h1,_=>by simp[zD]at h1
 |.i _::_,_,.b _::_,_,h1,_|.i _::_,_,.s _::_,_,h1,_|.i _::_,_,.l _::_,_,h1,_|.i _::_,_,.a _::_,_,h1,_=>by simp[zD]at h1
theorem JS{t:TypeId}{ks:List Kd}(h:gU P t=some ks):∃n e k i,P.underlying t=some (.array n e)/\P.underlying e=some (.int k)/\gO P e=some 1/\P.info? e=some i/\P.cellsOf e=1/\ks=List.replicate n (.i k):=by
 unfold gU at h;split at h
 rotate_left
 .cases h
 rename_i n e hu
 split at h
 rotate_left
 .cases h
 rename_i k hk
 split at h
 rotate_left
 .cases h
 rename_i hs
 cases h;obtain⟨i,hi,_⟩:=Option.map_eq_some_iff.1 hs.1;exact⟨n,e,k,i,hu,hk,hs.1,hi,hs.2,rfl⟩
theorem qz{t:TypeId}{ks:List Kd}(hk:gU P t=some ks){h:Array Obj}{xs ys:List Value}{ds es:List Dt}(hx:DRs K h xs ds)(hy:DRs K h ys es)(h1:zD ks ds)(h2:zD ks es) :
  (Op.equalIn (60+9940) t (.agg xs.toArray) (.agg ys.toArray)).run P w=.ok (fb ds es) w:=by
 obtain⟨n,e,k,i,hu,he,hs,hi,hc,rfl⟩:=JS hk;rw[show 60+9940=9999+1 from rfl,run_equalIn_array w 9999 _ _ hu hi,hc,range_eq_range'];exact Il w he hs 9998 xs ys n 0 ds es hx hy h1 h2
theorem nZ{t:TypeId}{ks:List Kd}(hk:gU P t=some ks){h:Array Obj}{xs:List Value}{ds:List Dt}(em:Bool)(hx:DRs K h xs ds)(h1:zD ks ds) :
  (Instr.checkKey em 10000 t (.agg xs.toArray)).run P w=.ok () w:=by
 obtain⟨n,e,k,i,hu,he,hs,hi,hc,rfl⟩:=JS hk;rw[show(10000:Nat)=9999+1 from rfl,Instr.checkKey];simp only[Sem.run_bind,run_underlying hu,Result.andThen_ok];simp only[Std.Legacy.Range.forIn_eq_forIn_range',Std.Legacy.Range.size,Nat.sub_zero,Nat.add_one_sub_one,Nat.div_one]
 have go:∀(m off:Nat) (ds:List Dt),DRs K h (xs.drop off) ds->zD (List.replicate m (.i k)) ds ->
   (forIn (List.range' off m) PUnit.unit fun i _=>do
    Instr.checkKey em 9999 e (<-part e xs.toArray (i*(<-sizeOf e)))
    pure (ForInStep.yield PUnit.unit):Sem PUnit).run P w=.ok () w:=by
  intro m
  induction m with
  |zero=>intro off ds _ _;simp
  |succ m ih =>
   intro off ds hx h1;rw[replicate_succ]at h1
   match ds,h1 with
   |.i k1 x::ds,h1 =>
    simp only[zD]at h1;obtain⟨rfl,h1⟩:=h1;have lx:=hx.length;simp only[length_drop,length_cons]at lx
    have hag:eM P e=false:=by simp[eM,he]
    have px:=BF (P:=P) w hs he xs off (by omega) fun _=>rfl
    have hx1:=hx.take 1;simp only[take_succ_cons,take_zero,DRs,DR]at hx1;obtain⟨_,_,ex,⟨rfl,_⟩,rfl⟩:=hx1;simp only[k9,hag,ex,Bool.false_eq_true,if_false,getD_cons_zero]at px;have hr:=ih (off+1) ds (by simpa [drop_drop]using hx.drop 1) h1
    have hc2:(Instr.checkKey em 9999 e (.int k x)).run P w=.ok () w:=by
     exact MapKept.run_checkKey (k:=.int k x) he (by simp[MapKept.IsKey]) em 9998
    rw[List.range'_succ];simp only[forIn_cons,Sem.run_bind,Go.run_sizeOf w hi,hc,Nat.mul_one,Result.andThen_ok,px,hc2,Sem.run_pure];exact hr
 have:=go n 0 ds (by simpa using hx) h1
 first|exact this|(rw[this];rfl)|(rw[this];simp)
theorem AB{kt:TypeId}{k:Tk}(h:i6 P kt=.tk k):k=z7 P kt∨k=.other:=by
 unfold i6 at h;split at h
 .split at h
  .cases h
  .cases h;exact .inr rfl
 .split at h
  .cases h
  .cases h;exact .inr rfl
 .cases h;exact .inl rfl
theorem kC{kt:TypeId}{l:List Kd}(h:i6 P kt=.ks l):(gG P 60 kt=some l/\∃fs,P.underlying kt=some (.struct fs))∨(gU P kt=some l/\∃n e,P.underlying kt=some (.array n e)):=by
 unfold i6 at h;split at h
 .rename_i fs hu
  split at h
  .rename_i l' hl;cases h;exact .inl ⟨hl,fs,hu⟩
  .cases h
 .rename_i n e hu
  split at h
  .rename_i l' hl;cases h;exact .inr ⟨hl,n,e,hu⟩
  .cases h
 .cases h
theorem JV{kt:TypeId}{l:List Kd}(hk60:∀{xs ys:List Value} {ds es:List Dt},DRs K w.heap xs ds->DRs K w.heap ys es->zD l ds->zD l es->(Op.equalIn (60+9940) kt (.agg xs.toArray) (.agg ys.toArray)).run P w=.ok (fb ds es) w){ag:Bool}{xs:List Value}{ds:List Dt}(hd:zD l ds)(hc:DRs K w.heap xs ds):∀{mes:List MapEntry} {es:List (Dt×List Dt)} (i:Nat),MRs K w.heap ag mes es->ik (.ks l) es ->
  ((Instr.findAsking kt (.agg xs.toArray) mes i).run P w=.ok none w/\gl es (.a ds)=none/\(∀r,fq es (.a ds) r=es++[(.a ds,r)])/\ij es (.a ds)=es/\∀x∈mes,x.key≠.agg xs.toArray) ∨
  ∃j e row,(Instr.findAsking kt (.agg xs.toArray) mes i).run P w=.ok (some (i+j,e.val)) w/\mes[j]?=some e/\e.key=.agg xs.toArray/\gl es (.a ds)=some row/\iz K w.heap ag e.val row/\(∀r,fq es (.a ds) r=es.set j (.a ds,r))/\ij es (.a ds)=es.eraseIdx j
 |[],[],i,_,_=>.inl ⟨by simp[Instr.findAsking],rfl,fun _=>rfl,rfl,by simp⟩
 |e::mes,p::es,i,hm,hk=>by
  simp only[MRs]at hm;simp only[ik]at hk;obtain⟨pk,pr⟩:=p
  cases pk <;> simp only[iX]at hk <;> try exact hk.1.elim
  rename_i ps
  have hpk:=hm.1;simp only[KR]at hpk;obtain⟨ys,hey,hps⟩:=hpk;have hq:=hk60 hc hps hd hk.1
  have hq':(Op.equal kt (.agg xs.toArray) e.key).run P w=.ok (fb ds ps) w:=by rw[hey];exact hq
  obtain⟨r1,r2⟩:=F2 hd hk.1 hc hps
  cases hr:fb ds ps with
  |true =>
   rw[hr]at hq';refine .inr ⟨0,e,pr,by simp[Instr.findAsking,hq'],rfl,by rw[hey,r1 hr],by simp[gl,fi,hr],hm.2.1,fun r=>by simp[fq,fi,hr],by simp[ij,fi,hr]⟩
  |false =>
   rw[hr]at hq'
   have hne:e.key≠.agg xs.toArray:=by
    rw[hey];intro h
    injection h with h
    exact r2 hr (by simpa using h)
   rcases JV hk60 hd hc (i+1) hm.2.2 hk.2 with⟨a1,a2,a3,a4,a8⟩|⟨j,e',row,a1,a2,a3,a4,a5,a6,a7⟩
   .exact .inl ⟨by simp[Instr.findAsking,hq',a1],by simp[gl,fi,hr,a2],fun r=>by simp[fq,fi,hr,a3],by simp[ij,fi,hr,a4],fun x hx=>by rcases mem_cons.1 hx with rfl|hx;exact hne;exact a8 x hx⟩
   .exact .inr ⟨j+1,e',row,by simp[Instr.findAsking,hq',a1];omega,by simpa using a2,a3,by simp[gl,fi,hr,a4],a5,fun r=>by simp[fq,fi,hr,a6],by simp[ij,fi,hr,a7]⟩
 |[],_::_,_,hm,_=>by simp[MRs]at hm
 |_::_,[],_,hm,_=>by simp[MRs]at hm
theorem CV{kt:TypeId}{d:Dt}{c:Value}(hk:iX (i6 P kt) d)(hc:KR K w.heap c d) :
  (∀em,(Instr.checkKey em 10000 kt c).run P w=.ok () w)/\(Instr.keyThatStays c c).run P w=.ok c w /\
  ∀{ag:Bool} {mes:List MapEntry} {es:List (Dt×List Dt)},MRs K w.heap ag mes es->ik (i6 P kt) es ->
   ((Instr.findKey kt c mes).run P w=.ok none w/\gl es d=none/\(∀r,fq es d r=es++[(d,r)])/\ij es d=es/\∀x∈mes,x.key≠c) ∨
   ∃j e row,(Instr.findKey kt c mes).run P w=.ok (some (j,e.val)) w/\mes[j]?=some e/\e.key=c/\gl es d=some row/\iz K w.heap ag e.val row/\(∀r,fq es d r=es.set j (d,r))/\ij es d=es.eraseIdx j:=by
 cases hkk:i6 P kt with
 |tk k =>
  rw[hkk]at hk
  have hkt:k=z7 P kt:=by
   rcases AB hkk with h|h
   .exact h
   .subst h;cases d <;> exact hk.elim
  subst hkt;obtain⟨td,htd,hik⟩:=wT rfl hk hc;refine⟨fun em=>MapKept.run_checkKey htd hik em 9999,MapKept.run_keyThatStays hik,fun hm hmk=>?_⟩
  rcases mD hk hc hik 0 hm hmk with⟨a1,a2⟩|⟨j,e,row,a1,a2⟩
  .exact .inl ⟨MapKept.run_findKey htd a1,a2⟩
  .rw[Nat.zero_add]at a1
   exact .inr ⟨j,e,row,MapKept.run_findKey htd a1,a2⟩
 |ks l =>
  rw[hkk]at hk
  have ha:eM P kt=true:=by
   rcases kC hkk with⟨_,fs,hu⟩|⟨_,n,e,hu⟩ <;> simp[eM,hu]
  have heq:∀{xs ys:List Value} {ds es:List Dt},DRs K w.heap xs ds->DRs K w.heap ys es->zD l ds->zD l es->(Op.equalIn (60+9940) kt (.agg xs.toArray) (.agg ys.toArray)).run P w=.ok (fb ds es) w:=fun hx hy h1 h2=>by
   rcases kC hkk with⟨hl,_⟩|⟨hl,_⟩
   .have hq:=Hy (P:=P) w 60 (t:=kt) 9940 hl hx hy h1 h2
    simpa only[k9,ha,if_true]using hq
   .exact qz hl hx hy h1 h2
  cases d <;> simp only[iX]at hk
  rename_i ds
  simp only[KR]at hc;obtain⟨xs,rfl,hc⟩:=hc;refine⟨fun em=>?_,?_,fun hm hmk=>?_⟩
  .rcases kC hkk with⟨hl,_⟩|⟨hl,_⟩
   .have:=jj (P:=P) (w:=w) 60 (t:=kt) 9940 em hl hc hk
    simp only[k9,ha,if_true]at this;exact this
   .exact nZ hl em hc hk
  .have hsb:Instr.sameBits 10000 (.agg xs.toArray) (.agg xs.toArray)=true:=by
    have:=F5 9999 hk hc;rw[show(10000:Nat)=9999+1 from rfl];simp only[Instr.sameBits,beq_self_eq_true,Bool.true_and]
    simpa using this
   simp[Instr.keyThatStays,hsb]
  .have hw:=run_findKey_eq (P:=P) w (k:=kt) (by rcases kC hkk with⟨_,fs,hu⟩|⟨_,n,e,hu⟩ <;> simp[hu]) (.agg xs.toArray)
   rcases JV heq hk hc 0 hm hmk with⟨a1,a2⟩|⟨j,e,row,a1,a2⟩
   .exact .inl ⟨by rw[hw];exact a1,a2⟩
   .rw[Nat.zero_add]at a1
    exact .inr ⟨j,e,row,by rw[hw];exact a1,a2⟩
theorem tG:∀{vs:List Va} {ds:List Dt} {cs:List Value},AD vs=some ds->VRs K w.heap G cs vs->DRs K w.heap cs ds
 |[],ds,cs,h,hv=>by simp only[AD]at h;cases h;simpa only[VRs,DRs]using hv
 |v::vs,ds,cs,h,hv=>by
  cases v with
  |p d =>
   simp only[AD]at h;split at h
   .rename_i ds' hd
    cases h;simp only[VRs,VR]at hv;obtain⟨c,cs',rfl,h1,h2⟩:=hv;simp only[DRs];exact⟨c,cs',rfl,h1,tG hd h2⟩
   .cases h
  |_=>simp[AD]at h
theorem CL{v:Va}{d:Dt}{c:Value}(h:mi v=some d)(hv:VR K w.heap G c v):KR K w.heap c d:=by
 unfold mi at h;split at h
 .cases h
  simp only[VR]at hv
  cases d <;> first|exact hv|(simp only[DR]at hv)
 .split at h
  .rename_i ds hd
   cases h;simp only[VR]at hv;obtain⟨cs,rfl,hv⟩:=hv;simp only[KR];exact⟨cs,rfl,tG hd hv⟩
  .cases h
 .cases h
theorem MRs.length{h:Array Obj}{ag:Bool}:∀{mes:List MapEntry} {es:List (Dt×List Dt)},MRs K h ag mes es->mes.length=es.length
 |[],[],_=>rfl
 |_::_,_::_,hm=>by simp only[MRs]at hm;simp[MRs.length hm.2.2]
 |[],_::_,hm=>by simp[MRs]at hm
 |_::_,[],hm=>by simp[MRs]at hm
theorem MRs.append{h:Array Obj}{ag:Bool}{e:MapEntry}{p:Dt×List Dt}(he:KR K h e.key p.1)(hv:iz K h ag e.val p.2):∀{mes:List MapEntry} {es:List (Dt×List Dt)},MRs K h ag mes es->MRs K h ag (mes++[e]) (es++[p])
 |[],[],_=>by simp only[nil_append,MRs];exact⟨he,hv,trivial⟩
 |x::mes,y::es,hm=>by simp only[MRs,cons_append]at *;exact⟨hm.1,hm.2.1,MRs.append he hv hm.2.2⟩
 |[],_::_,hm=>by simp[MRs]at hm
 |_::_,[],hm=>by simp[MRs]at hm
theorem MRs.set{h:Array Obj}{ag:Bool}{e:MapEntry}{p:Dt×List Dt}(he:KR K h e.key p.1)(hv:iz K h ag e.val p.2):∀{mes:List MapEntry} {es:List (Dt×List Dt)} (j:Nat),MRs K h ag mes es->MRs K h ag (mes.set j e) (es.set j p)
 |[],[],_,_=>by simp[MRs]
 |x::mes,y::es,0,hm=>by simp only[MRs,set_cons_zero]at *;exact⟨he,hv,hm.2.2⟩
 |x::mes,y::es,j+1,hm=>by simp only[MRs,set_cons_succ]at *;exact⟨hm.1,hm.2.1,MRs.set he hv j hm.2.2⟩
 |[],_::_,_,hm=>by simp[MRs]at hm
 |_::_,[],_,hm=>by simp[MRs]at hm
theorem MRs.erase{h:Array Obj}{ag:Bool}:∀{mes:List MapEntry} {es:List (Dt×List Dt)} (j:Nat),MRs K h ag mes es->MRs K h ag (mes.eraseIdx j) (es.eraseIdx j)
 |[],[],_,_=>by simp[MRs]
 |x::mes,y::es,0,hm=>by simp only[MRs,eraseIdx_zero,tail_cons]at *;exact hm.2.2
 |x::mes,y::es,j+1,hm=>by simp only[MRs,eraseIdx_cons_succ]at *;exact⟨hm.1,hm.2.1,MRs.erase j hm.2.2⟩
 |[],_::_,_,hm=>by simp[MRs]at hm
 |_::_,[],_,hm=>by simp[MRs]at hm
theorem wl{h:Array Obj}{ag:Bool}{v:Value}{row:List Dt}(hv:iz K h ag v row):VR K h G v (gD ag row):=by
 cases ag with
 |true =>
  obtain⟨cs,rfl,h2⟩:=hv;simp only[gD,cond_true,VR];exact⟨cs,rfl,h2.vrs⟩
 |false =>
  obtain⟨d,rfl,h2⟩:=hv
  simpa only[gD,cond_false,tL,drop_zero,VR]using h2
theorem tq{t:TypeId}{cok:Bool}(hS:St K G H w){c ck:Value}{x k:Va}(hc:VR K w.heap G c x)(hk:VR K w.heap G ck k)(hok:(l8 P t H cok x k).ok) :
  ∃c',(Instr.lookup t c ck cok).run P w=.ok c' w/\VR K w.heap G c' (l8 P t H cok x k).v:=by
 unfold l8 at hok|-;split at hok
 rotate_left
 .exact hok.elim
 rename_i kt et o d hkm hkv
 split at hok
 rotate_left
 .exact hok.elim
 rename_i ag es te ho hte
 obtain⟨h1,h2,h3,h4,h5⟩:=hok;obtain⟨ti,ht,hk'⟩:=zH hkm (by simp);have hu:=yo ht hk';have hk:=CL hkv hk;simp only[VR]at hc;obtain⟨g,b,hg,hgb,rfl⟩:=hc;obtain⟨hlim,b',mes,clock,hb',hbm,hm,_⟩:=hS.ob o g _ hg (zn ho (by simp))
 obtain rfl:b'=b:=by rw[hgb]at hb';exact(Option.some.inj hb').symm
 obtain⟨hck,_,hfind⟩:=CV (P:=P) (w:=w) h2 hk
 have fin:∀(v:Value) (row:List Dt) (ok:Bool),iz K w.heap ag v row->(Instr.lookup t (.map (some b')) ck cok).run P w=.ok (if cok then .tuple #[v,.bool ok]else v) w->nB es d (zr te.zero)=row->(gl es d).isSome=ok ->
   ∃c',(Instr.lookup t (.map (some b')) ck cok).run P w=.ok c' w/\VR K w.heap G c' (bif cok then .tup [gD ag (nB es d (zr te.zero)),.p (.b (gl es d).isSome)]else gD ag (nB es d (zr te.zero))):=by
  intro v row ok hv hr e1 e2;refine⟨_,hr,?_⟩;rw[e1,e2];have:=wl (G:=G) hv
  cases cok with
  |false=>simpa using this
  |true =>
   simp only[if_true,cond_true,VR];refine⟨[v,.bool ok],rfl,?_⟩;simp only[VRs,VR,DR];exact⟨_,_,rfl,this,_,_,rfl,rfl,rfl⟩
 rcases hfind hm h1 with⟨a1,a2,_,_,_⟩|⟨j,e,row,a1,a2,a3,a4,a5,_,_⟩
 .obtain⟨i,z,hi1,hi2,hi3,hz2⟩:=FY hte
  have hz1:(zeroValue et).run P w=.ok z w:=by simp[zeroValue,typeInfo,hi1,hi3]
  have hzf:oM P et=(match z with|.agg _=>true|_=>false):=by simp only[oM,hi1,Option.bind_some,hi3];cases z <;> rfl
  refine fin z (zr te.zero) false ?_ ?_ (by simp[nB,a2]) (by simp[a2])
  .have hzr:=i7 (K:=K) (h:=w.heap) h4
   rw[<-hz2]at hzr
   cases ag with
   |true =>
    rw[h3]at hzf
    cases z <;> first|cases hzf|skip
    rename_i cs
    exact⟨cs.toList,by simp,by rw[<-hz2];exact hzr⟩
   |false =>
    rw[h3]at hzf
    have hzs:z.cells.toList=[z]:=by cases z <;> first|rfl|cases hzf
    rw[hzs]at hzr;have hrl:=hzr.length;rw[<-hz2,hzs]
    match hzz:zr [z],hrl with
    |[d0],_ =>
     rw[hzz]at hzr;simp only[DRs]at hzr;obtain⟨_,_,h6,h7,_⟩:=hzr;cases h6;exact⟨d0,rfl,h7⟩
  .simp only[Instr.lookup,Sem.run_bind,run_underlying hu,Result.andThen_ok,MapKept.run_getObj_map hbm,Sem.run_pure,hck,a1,hz1]
   first
    |done
    |(cases cok <;> simp)
 .refine fin e.val row true a5 ?_ (by simp[nB,a4]) (by simp[a4])
  simp only[Instr.lookup,Sem.run_bind,run_underlying hu,Result.andThen_ok,MapKept.run_getObj_map hbm,Sem.run_pure,hck,a1]
  first
   |done
   |(cases cok <;> simp)
end

def gz:List Va->Option (List Dt)
 |[]=>some []
 |.p d::l=>match gz l with
  |some ds=>some (d::ds)
  |none=>none
 |_::_=>none
def oz(op:BinOp)(b:Bool)(ok:Prop):Pv:=match op with
 |.eql=>⟨.p (.b b),ok⟩
 |.neq=>⟨.p (.b (!b)),ok⟩
 |_=>ew
def uH(P:Program)(op:BinOp)(t:TypeId)(x y:Va):Pv:=match x with
 |.p (.i k a)=>match y with
  |.p (.i k' b)=>iN op k a k' b
  |_=>ew
 |.p (.s a)=>match y with
  |.p (.s b)=>uI op a b
  |_=>ew
 |.p (.b a)=>match y with
  |.p (.b b)=>match z7 P t with
   |.bool=>oz op (decide (a=b)) True
   |_=>ew
  |_=>ew
 |.agg xs=>match y with
  |.agg ys=>match vC P t,gz xs,gz ys with
   |some ks,some ds,some es=>oz op (fb ds es) (eM P t=true/\zD ks ds/\zD ks es)
   |_,_,_=>ew
  |_=>ew
 |.nil=>match y with
  |.nil=>match z7 P t with
   |.ptr _=>oz op true True
   |_=>ew
  |_=>ew
 |.ptr o a=>match y with
  |.nil=>match z7 P t with
   |.ptr _=>oz op false True
   |_=>ew
  |.ptr o' a'=>match z7 P t with
   |.ptr e=>oz op true (o=o'/\a=a'/\(P.info? e).isSome=true)
   |_=>ew
  |_=>ew
 |_=>ew
def Au:Va->Pv
 |.ptr o off=>⟨.ptr o off,True⟩
 |.rp row=>⟨.rp row,True⟩
 |.el o sz i off=>⟨.el o sz i off,True⟩
 |.fn f caps=>⟨.fn f caps,True⟩
 |_=>ew
def kV(ti:Ti)(x:Va):Prop:=match ti.kind,x with
 |.str,.p (.s _)=>True
 |.slice _ esz _ _,.p (.l rows)=>eT esz rows
 |.slice _ esz _ _,.full rows=>eT esz rows
 |.slice _ _ _ _,.nils=>True
 |_,_=>False
def oOk(g:Bool)(E:dY):Option Operand->Prop
 |none=>True
 |some x=>opOk g E x
def allOk(g:Bool)(E:dY):List Operand->Prop
 |[]=>True
 |x::xs=>opOk g E x/\allOk g E xs
def partsOk(g:Bool)(E:dY):List (Nat×Operand)->Prop
 |[]=>True
 |x::xs=>opOk g E x.2/\partsOk g E xs
def partsV(E:dY):List (Nat×Operand)->List (Nat×Va)
 |[]=>[]
 |x::xs=>(x.1,opnd E x.2)::partsV E xs
def opnds(E:dY):List Operand->List Va
 |[]=>[]
 |x::xs=>opnd E x::opnds E xs
def also(c:Prop)(r:Pv):Pv:=⟨r.v,c/\r.ok⟩
def Oa:Va->Option Bool
 |.p (.b x)=>some x
 |_=>none
def jn(t:Bool)(a b:Va):Va:=match a,b with
 |.p (.b x),.p (.b y)=>.p (.b (bif t then x else y))
 |x,y=>bif t then x else y
theorem pb(a b:Va):jn true a b=a:=by
 unfold jn
 split <;> rfl
theorem pc(a b:Va):jn false a b=b:=by
 unfold jn
 split <;> rfl
theorem wy(t:Bool)(a b:Va):jn t a b=match a,b with
 |.p (.b x),.p (.b y)=>.p (.b (bif t then x else y))
 |x,y=>bif t then x else y:=rfl
def s9(g:Bool)(c a b:Va):Pv:=match c with
 |.p (.b t)=>⟨jn t (lF a) (lF b),g=true->(t=true->Bl a=true)/\(t=false->Bl b=true)⟩
 |_=>ew
def EK(mn:Bool)(x y:Va):Pv:=match x,y with
 |.p (.i k a),.p (.i k' b)=>⟨.p (.i k (bif mn then min a b else max a b)),k=k'⟩
 |_,_=>ew
def Jr(x y z:Va):Pv:=match x,y,z with
 |.p (.i k a),.p (.i k' b),.p (.i k'' c)=>⟨.p (.i k (min (min a b) c)),k=k'/\k=k''⟩
 |_,_,_=>ew
def A4(P:Program)(t:TypeId)(x:Va):Pv:=match z7 P t,x with
 |.slice _ _ _ _,.bufc _ cp=>⟨.p (.i .i64 cp),(cp:Int)<=9223372036854775807⟩
 |_,_=>ew
def Fe(x y:Va)(o:Operand):Option Bool:=match x,y,o with
 |.raw .nilIface,.raw .nilIface,.const _=>some true
 |.er b,.raw .nilIface,.const _=>some b
 |_,_,_=>none
theorem AX{K:Nat->Prop}{h:Array Obj}{G:List Gh}{x y:Va}{o:Operand}{b:Bool}{cx cy:Value}(e:Fe x y o=some b)(hx:VR K h G cx x)(hy:VR K h G cy y) :
  (∃v,o=.const v)/\cy=.nilIface/\((b=true/\cx=.nilIface)∨(b=false/\∃t v,cx=.iface t v)):=by
 unfold Fe at e;split at e
 .cases e
  simp only[VR]at hx hy;exact⟨⟨_,rfl⟩,hy,.inl ⟨rfl,hx⟩⟩
 .cases e
  simp only[VR]at hx hy;exact⟨⟨_,rfl⟩,hy,hx⟩
 .cases e
def Jy(P:Program)(t:TypeId):Bool:=match P.underlying t with
 |some (.interface _)=>true
 |_=>false

def eY(P:Program)(g:Bool)(E:dY)(H:List Ob):Op->Pv
 |.move x=>⟨opnd E x,opOk g E x⟩
 |.assign x=>⟨opnd E x,opOk g E x⟩
 |.pick c a b=>also (opOk g E c/\rA a/\rA b) (s9 g (opnd E c) (eu E a) (eu E b))
 |.build t ps=>match ej P t with
  |some ti=>also (partsOk g E ps.toList) (iL ti (partsV E ps.toList))
  |none=>ew
 |.load t x=>match ej P t with
  |some ti=>also (opOk g E x) (jt ti H (opnd E x))
  |none=>ew
 |.nilCheck x=>also (opOk g E x) (Au (opnd E x))
 |.binOp op t x y _=>also (opOk g E x/\opOk g E y) (match Fe (opnd E x) (opnd E y) y with
  |some b=>oz op b (Jy P t=true)
  |none=>uH P op t (opnd E x) (opnd E y))
 |.unOp op _ x=>also (opOk g E x) (Ea op (opnd E x))
 |.convert s d x=>match ej P s with
  |some _=>also (opOk g E x) (mV P s d H (opnd E x))
  |none=>ew
 |.makeFunc fn first caps=>match fn,first.toList with
  |.func f,[]=>⟨.fn f (opnds E caps.toList),allOk g E caps.toList⟩
  |_,_=>ew
 |.slice t x l h m=>match ej P t with
  |some ti=>match jZ ti H (opnd E x)with
   |some r=>also (opOk g E x/\oOk g E l/\oOk g E h/\oOk g E m) (lz r (l.map (opnd E)) (h.map (opnd E)) (m.map (opnd E)))
   |none=>also (opOk g E x/\oOk g E l/\oOk g E h/\oOk g E m/\kV ti (opnd E x)) (vd (opnd E x) (l.map (opnd E)) (h.map (opnd E)) (m.map (opnd E)))
  |none=>ew
 |.fieldAddr t x f=>match ej P t with
  |some ti=>also (opOk g E x) (C3 ti f (opnd E x))
  |none=>ew
 |.field t x f=>match ej P t with
  |some ti=>also (opOk g E x) (iG ti f (opnd E x))
  |none=>ew
 |.indexAddr t x i=>match ej P t with
  |some ti=>also (opOk g E x/\opOk g E i) (CU ti H (opnd E x) (opnd E i))
  |none=>ew
 |.index t x i=>match ej P t with
  |some ti=>also (opOk g E x/\opOk g E i) (iB ti (opnd E x) (opnd E i))
  |none=>ew
 |.extract x i=>also (opOk g E x) (CS (opnd E x) i)
 |.lookup t x k cok=>also (opOk g E x/\opOk g E k) (l8 P t H cok (opnd E x) (opnd E k))
 |.call c=>match c.callee,c.args.toList,c.argTypes.toList with
  |.builtin .len,[x],t::_=>also (opOk g E x) (tA P t H (opnd E x))
  |.builtin .cap,[x],t::_=>also (opOk g E x) (A4 P t (opnd E x))
  |.builtin .min,[x,y],_=>also (opOk g E x/\opOk g E y) (EK true (opnd E x) (opnd E y))
  |.builtin .min,[x,y,z],_=>also (opOk g E x/\opOk g E y/\opOk g E z) (Jr (opnd E x) (opnd E y) (opnd E z))
  |.builtin .max,[x,y],_=>also (opOk g E x/\opOk g E y) (EK false (opnd E x) (opnd E y))
  |_,_,_=>ew
 |_=>ew

section
variable {K:Nat->Prop} {G:List Gh} {H:List Ob} {w:World} {P:Program} {E:dY} {a:Act} {g:Bool}

theorem Hw{h:Array Obj}:∀{cs:List Value} {vs:List Va} {ds:List Dt},VRs K h G cs vs->gz vs=some ds->DRs K h cs ds
 |cs,[],ds,H,hp=>by simp only[gz]at hp;cases hp;simpa [VRs,DRs]using H
 |cs,.p d::vs,ds,H,hp=>by
  simp only[gz]at hp;split at hp
  .rename_i ds' hd
   cases hp;simp only[VRs,VR]at H;obtain⟨c,cs',rfl,h2,h3⟩:=H;simp only[DRs];exact⟨c,cs',rfl,h2,Hw h3 hd⟩
  .cases hp
 |cs,.nils::_,_,_,hp=>by simp[gz]at hp
 |cs,.full _::_,_,_,hp=>by simp[gz]at hp
 |cs,.rp _::_,_,_,hp=>by simp[gz]at hp
 |cs,.ptr _ _::_,_,_,hp=>by simp[gz]at hp
 |cs,.cs _ _::_,_,_,hp=>by simp[gz]at hp
 |cs,.el _ _ _ _::_,_,_,hp=>by simp[gz]at hp
 |cs,.buf _::_,_,_,hp=>by simp[gz]at hp
 |cs,.mp _::_,_,_,hp=>by simp[gz]at hp
 |cs,.np _::_,_,_,hp=>by simp[gz]at hp
 |cs,.sd _::_,_,_,hp=>by simp[gz]at hp
 |cs,.vw _ _ _ _::_,_,_,hp=>by simp[gz]at hp
 |cs,.bufc _ _::_,_,_,hp=>by simp[gz]at hp
 |cs,.fn _ _::_,_,_,hp=>by simp[gz]at hp
 |cs,.agg _::_,_,_,hp=>by simp[gz]at hp
 |cs,.tup _::_,_,_,hp=>by simp[gz]at hp
 |cs,.nil::_,_,_,hp=>by simp[gz]at hp
 |cs,.cnd _ _::_,_,_,hp=>by simp[gz]at hp
 |cs,.raw _::_,_,_,hp=>by simp[gz]at hp
 |cs,.er _::_,_,_,hp=>by simp[gz]at hp
 |cs,.top::_,_,_,hp=>by simp[gz]at hp

theorem v6{t:TypeId}{ti:Ti}(ht:ej P t=some ti)(hk:ti.kind=.bool):P.underlying t=some .bool:=by
 obtain⟨d,h1,h2,h3⟩:=rT ht;rw[hk]at h2
 cases d <;> simp only[sr]at h2 <;> try (cases h2)
 case slice e=>split at h2 <;> cases h2
 case array n e=>split at h2 <;> cases h2
 case struct fields=>split at h2 <;> cases h2
 case bool=>exact h1
theorem nM{t:TypeId}{ti:Ti}{e:TypeId}(ht:ej P t=some ti)(hk:ti.kind=.ptr e):P.underlying t=some (.pointer e):=by
 obtain⟨d,h1,h2,h3⟩:=rT ht;rw[hk]at h2
 cases d <;> simp only[sr]at h2 <;> try (cases h2)
 case slice e=>split at h2 <;> cases h2
 case array n e=>split at h2 <;> cases h2
 case struct fields=>split at h2 <;> cases h2
 case pointer=>exact h1

theorem xi{op:BinOp}{t:TypeId}{c d:Value}{x y:Va}(hc:VR K w.heap G c x)(hd:VR K w.heap G d y)(hok:(uH P op t x y).ok)(ox oy:Operand) :
  ∃c',(do eqGuard op t ox oy c d;binOp op t c d:Sem Value).run P w=.ok c' w/\VR K w.heap G c' (uH P op t x y).v:=by
 unfold uH at hok|-;split at hok
 .split at hok
  rotate_left
  .exact hok.elim
  simp only[VR,DR]at hc hd;obtain⟨rfl,ha⟩:=hc;obtain⟨rfl,_⟩:=hd;obtain⟨c',h1,h2⟩:=xk (K:=K) (G:=G) (w:=w) (P:=P) t ha hok;exact⟨c',by rw[eqGuard_at_int];simpa using h1,h2⟩
 .split at hok
  rotate_left
  .exact hok.elim
  simp only[VR,DR]at hc hd;obtain⟨rfl,ha⟩:=hc;obtain⟨rfl,_⟩:=hd;obtain⟨c',h1,h2⟩:=xj (K:=K) (G:=G) (w:=w) (P:=P) t hok;exact⟨c',by rw[eqGuard_at_string];simpa using h1,h2⟩
 .split at hok
  rotate_left
  .exact hok.elim
  split at hok
  rotate_left
  .exact hok.elim
  rename_i hk
  obtain⟨ti,ht,hk'⟩:=zH hk (by simp);have hu:=v6 ht hk';simp only[VR,DR]at hc hd
  subst hc;subst hd
  cases op <;> try (exact hok.elim)
  .exact⟨_,by rw[eqGuard_at_bool];simpa using run_eql_bool w t _ _ hu,fD (yx _ _)⟩
  .exact⟨_,by rw[eqGuard_at_bool];simpa using run_neq_bool w t _ _ hu,fD (by rw[yx])⟩
 .split at hok
  rotate_left
  .exact hok.elim
  split at hok
  rotate_left
  .exact hok.elim
  rename_i ks ds es hks hds hes
  simp only[VR]at hc hd;obtain⟨cs,rfl,hcs⟩:=hc;obtain⟨cs',rfl,hcs'⟩:=hd;have hds':=Hw hcs hds;have hes':=Hw hcs' hes
  cases op <;> try (exact hok.elim)
  .obtain⟨ha,hk1,hk2⟩:=hok
   exact⟨_,(ji w hks ha hds' hes' hk1 hk2 ox oy).1,fD rfl⟩
  .obtain⟨ha,hk1,hk2⟩:=hok
   exact⟨_,(ji w hks ha hds' hes' hk1 hk2 ox oy).2,fD rfl⟩
 .split at hok
  rotate_left
  .exact hok.elim
  split at hok
  rotate_left
  .exact hok.elim
  rename_i e hk
  obtain⟨ti,ht,hk'⟩:=zH hk (by simp);have hu:=nM ht hk'
  have hu':P.underlying t=some (.pointer (P.pointee t)):=by simp[Program.pointee,hu]
  simp only[VR]at hc hd
  subst hc;subst hd
  cases op <;> try (exact hok.elim)
  .exact⟨_,by rw[eqGuard_at_pointer];simpa using run_eql_pointer_nil w t none hu',fD rfl⟩
  .exact⟨_,by rw[eqGuard_at_pointer];simpa using run_neq_pointer_nil w t none hu',fD rfl⟩
 .split at hok
  rotate_left
  .split at hok
   rotate_left
   .exact hok.elim
   rename_i o' a' e hk
   obtain⟨ti,ht,hk'⟩:=zH hk (by simp);have hu:=nM ht hk';simp only[VR]at hc hd;obtain⟨g,b,hg,hgb,rfl⟩:=hc;obtain⟨g',b',hg',hgb',rfl⟩:=hd
   cases op <;> try (exact hok.elim)
   .obtain⟨rfl,rfl,hi⟩:=hok
    obtain⟨j,hj⟩:=Option.isSome_iff_exists.1 hi;obtain rfl:g=g':=Option.some.inj (hg.symm.trans hg');obtain rfl:b=b':=Option.some.inj (hgb.symm.trans hgb');exact⟨_,by rw[eqGuard_at_pointer];simpa using run_eql_ptr_same w _ hu hj,fD rfl⟩
   .obtain⟨rfl,rfl,hi⟩:=hok
    obtain⟨j,hj⟩:=Option.isSome_iff_exists.1 hi;obtain rfl:g=g':=Option.some.inj (hg.symm.trans hg');obtain rfl:b=b':=Option.some.inj (hgb.symm.trans hgb');exact⟨_,by rw[eqGuard_at_pointer];simpa using Lib.run_neq_ptr_same w _ hu hj,fD rfl⟩
  .exact hok.elim
  split at hok
  rotate_left
  .exact hok.elim
  rename_i e hk
  obtain⟨ti,ht,hk'⟩:=zH hk (by simp);have hu:=nM ht hk'
  have hu':P.underlying t=some (.pointer (P.pointee t)):=by simp[Program.pointee,hu]
  simp only[VR]at hc hd;obtain⟨_,b,_,_,rfl⟩:=hc;subst hd
  cases op <;> try (exact hok.elim)
  .exact⟨_,by rw[eqGuard_at_pointer];simpa using run_eql_pointer_nil w t (some _) hu',fD rfl⟩
  .exact⟨_,by rw[eqGuard_at_pointer];simpa using run_neq_pointer_nil w t (some _) hu',fD rfl⟩
 .exact hok.elim

theorem FU(hE:ig K w.heap G a E)(hg:g=true):∀(l:List (Nat×Operand)),partsOk g E l ->
  (l.map fun x=>(x.1,a.eval x.2)).map (·.1)=(partsV E l).map (·.1) /\
  ∀(j:Nat) (c:Value) (v:Va),(((l.map fun x=>(x.1,a.eval x.2))[j]?).map fun x=>x.2)=some c->((partsV E l)[j]?.map fun x=>x.2)=some v->VR K w.heap G c v
 |[],_=>⟨rfl,by simp[partsV]⟩
 |x::l,h=>by
  simp only[partsOk]at h;obtain⟨h1,h2⟩:=FU hE hg l h.2;refine⟨by simp only[map_cons,partsV,h1],fun j c v hc hv=>?_⟩
  cases j with
  |zero =>
   simp only[map_cons,partsV,getElem?_cons_zero,Option.map_some,Option.some.injEq]at hc hv
   subst hc;subst hv
   exact zw hE hg _ h.1
  |succ j=>exact h2 j c v (by simpa using hc) (by simpa [partsV]using hv)
theorem vf(hE:ig K w.heap G a E)(hg:g=true):∀(l:List Operand),allOk g E l->VRs K w.heap G (l.map a.eval) (opnds E l)
 |[],_=>by simp[VRs,opnds]
 |x::l,h=>by
  simp only[allOk]at h;simp only[map_cons,opnds,VRs];exact⟨_,_,rfl,zw hE hg x h.1,vf hE hg l h.2⟩
theorem Bx(hE:ig K w.heap G a E)(hg:g=true)(x:Option Operand)(h:oOk g E x):BR K w.heap G (x.map a.eval) (x.map (opnd E)):=by
 cases x with
 |none=>trivial
 |some x=>exact zw hE hg x h


theorem FR(hS:St K G H w)(hE:ig K w.heap G a E)(hg:g=true)(o:Oper)(hok:(eY P g E H o.op).ok) :
  ∃c,(execOp a.eval o).run P w=.ok (.value c) w/\VR K w.heap G c (eY P g E H o.op).v:=by
 obtain⟨dst,op,ty,pos,after,guard⟩:=o
 have val:∀(s:Sem Value) (c:Value),s.run P w=.ok c w->(do pure (.value (<-s)):Sem Next).run P w=.ok (.value c) w:=by
  intro s c h;simp[h]
 cases op <;> simp only[eY]at hok|- <;> try (exact hok.elim)
 case move x=>exact⟨_,rfl,zw hE hg x hok⟩
 case assign x=>exact⟨_,rfl,zw hE hg x hok⟩
 case pick c x y =>
  obtain⟨⟨h1,h2,h3⟩,hp⟩:=hok;have hc:=zw hE hg c h1;have hx:=ke hE x h2;have hy:=ke hE y h3;simp only[also];unfold s9 at hp|-;split at hp
  rotate_left
  .exact hp.elim
  rename_i t ht
  rw[ht]at hc;simp only[VR,DR]at hc;have hp':=hp hg;simp only[execOp,hc,asBool];cases t
  .exact⟨_,by simp;rfl,by simpa [pc]using Hg hy (hp'.2 rfl)⟩
  .exact⟨_,by simp;rfl,by simpa [pb]using Hg hx (hp'.1 rfl)⟩
 case build t ps =>
  split at hok
  rotate_left
  .exact hok.elim
  rename_i ti ht
  obtain⟨h1,h2⟩:=hok;obtain⟨hp1,hp2⟩:=FU hE hg ps.toList h1;obtain⟨c,hr,hv⟩:=ri (P:=P) w ht (ps:=ps.map fun x=>(x.1,a.eval x.2)) (parts:=partsV E ps.toList) (by simpa using hp1) (by simpa using hp2) h2;exact⟨c,val _ _ hr,hv⟩
 case load t x =>
  split at hok
  rotate_left
  .exact hok.elim
  rename_i ti ht
  obtain⟨c,hr,hv⟩:=l9 (P:=P) ht hS (zw hE hg x hok.1) hok.2;exact⟨c,val _ _ hr,hv⟩
 case nilCheck x =>
  obtain⟨h1,h2⟩:=hok;have hx:=zw hE hg x h1;simp only[also,execOp];generalize opnd E x=v at hx h2|-;generalize a.eval x=c at hx|-
  cases v <;> simp only[Au]at h2|- <;> try (exact h2.elim)
  .have:=hx;simp only[VR]at this;obtain⟨_,_,_,_,_,_,rfl,_⟩:=this;exact⟨_,rfl,hx⟩
  .have:=hx;simp only[VR]at this;obtain⟨_,_,_,_,rfl⟩:=this;exact⟨_,rfl,hx⟩
  .have:=hx;simp only[VR]at this;obtain⟨_,_,_,_,_,_,_,rfl⟩:=this;exact⟨_,rfl,hx⟩
  .have:=hx;simp only[VR]at this;obtain⟨_,rfl,_⟩:=this;exact⟨_,rfl,hx⟩
 case binOp op t x y yt =>
  obtain⟨⟨h1,h2⟩,h3⟩:=hok
  cases hnn:Fe (opnd E x) (opnd E y) y with
  |some b =>
   simp only[hnn]at h3;simp only[also];have hx:=zw hE hg x h1;have hy:=zw hE hg _ h2;obtain⟨⟨co,rfl⟩,hcy,hcx⟩:=AX hnn hx hy
   have hi:P.underlying t=some (.interface (P.methodsAt t)):=by
    cases op <;> first|exact h3.elim|skip
    all_goals
     have h4:Jy P t=true:=h3;unfold Jy at h4;split at h4
     .rename_i ms hu
      simp[Program.methodsAt,hu]
     .cases h4
   rcases hcx with⟨rfl,hcx⟩|⟨rfl,tv,vv,hcx⟩
   .cases op <;> first|exact h3.elim|skip
    .refine⟨_,val _ _ (by rw[hcx,hcy,eqGuard_nil_constR];simpa using run_eql_nil_nil w t hi),fD rfl⟩
    .refine⟨_,val _ _ (by rw[hcx,hcy,eqGuard_nil_constR];simpa using run_neq_nil_nil w t hi),fD rfl⟩
   .cases op <;> first|exact h3.elim|skip
    .refine⟨_,val _ _ (by rw[hcx,hcy];simpa [eqGuard]using run_eql_held_nil w t tv vv hi),fD rfl⟩
    .refine⟨_,val _ _ (by rw[hcx,hcy];simpa [eqGuard]using run_neq_held_nil w t tv vv hi),fD rfl⟩
  |none =>
  simp only[hnn]at h3;simp only[also];obtain⟨c,hr,hv⟩:=xi (P:=P) (zw hE hg x h1) (zw hE hg y h2) h3 x y;exact⟨c,val _ _ hr,hv⟩
 case unOp op t x =>
  obtain⟨c,hr,hv⟩:=yV (P:=P) (zw hE hg x hok.1) hok.2;exact⟨c,val _ _ hr,hv⟩
 case convert src dst x =>
  split at hok
  rotate_left
  .exact hok.elim
  rename_i ti ht
  obtain⟨d,hd,_⟩:=rT ht;obtain⟨c,hr,hv⟩:=uq (P:=P) (dst:=dst) hS (zw hE hg x hok.1) ⟨d,hd⟩ hok.2;exact⟨c,val _ _ hr,hv⟩
 case makeFunc fn first caps =>
  split at hok
  rotate_left
  .exact hok.elim
  rename_i f hfirst
  have hf0:first=#[]:=by cases first;simp_all
  subst hf0;refine⟨.func (.func f) #[] (caps.toList.map a.eval).toArray,?_,?_⟩
  .have h1:caps.map a.eval=(caps.toList.map a.eval).toArray:=by cases caps;simp
   have h2:(#[]:Array Operand).map a.eval=#[]:=by simp
   simp only[execOp,Instr.makeFunc,h1,h2];simp
  .simp only[VR]
   exact⟨_,rfl,vf hE hg caps.toList hok⟩
 case slice t x l h m =>
  split at hok
  rotate_left
  .exact hok.elim
  rename_i ti ht
  split at hok
  .rename_i r hr
   obtain⟨⟨h1,h2,h3,h4⟩,h6⟩:=hok;obtain⟨c,hr,hv⟩:=se (P:=P) ht hS (zw hE hg x h1) (Bx hE hg l h2) (Bx hE hg h h3) (Bx hE hg m h4) hr h6;exact⟨c,val _ _ hr,hv⟩
  obtain⟨⟨h1,h2,h3,h4,h5⟩,h6⟩:=hok
  obtain⟨c,hr,hv⟩:=qw (P:=P) ht (zw hE hg x h1) (Bx hE hg l h2) (Bx hE hg h h3) (Bx hE hg m h4) (by
   unfold kV at h5;split at h5
   .rename_i s hk hx;exact .inl ⟨hk,s,hx⟩
   .rename_i e esz eb ez rows hk hx;exact .inr ⟨e,esz,eb,ez,hk,.inl ⟨rows,hx,h5⟩⟩
   .rename_i e esz eb ez rows hk hx;exact .inr ⟨e,esz,eb,ez,hk,.inr (.inl ⟨rows,hx,h5⟩)⟩
   .rename_i e esz eb ez hk hx;exact .inr ⟨e,esz,eb,ez,hk,.inr (.inr hx)⟩
   .exact h5.elim) h6
  exact⟨c,val _ _ hr,hv⟩
 case fieldAddr t x f =>
  split at hok
  rotate_left
  .exact hok.elim
  rename_i ti ht
  obtain⟨c,hr,hv⟩:=LM (P:=P) (w:=w) ht (zw hE hg x hok.1) hok.2;exact⟨c,val _ _ hr,hv⟩
 case field t x f =>
  split at hok
  rotate_left
  .exact hok.elim
  rename_i ti ht
  obtain⟨c,hr,hv⟩:=qU (P:=P) (w:=w) ht (zw hE hg x hok.1) hok.2;exact⟨c,val _ _ hr,hv⟩
 case indexAddr t x i =>
  split at hok
  rotate_left
  .exact hok.elim
  rename_i ti ht
  obtain⟨c,hr,hv⟩:=mq (P:=P) ht hS (zw hE hg x hok.1.1) (zw hE hg i hok.1.2) hok.2;exact⟨c,val _ _ hr,hv⟩
 case index t x i =>
  split at hok
  rotate_left
  .exact hok.elim
  rename_i ti ht
  obtain⟨c,hr,hv⟩:=qJ (P:=P) (w:=w) ht (zw hE hg x hok.1.1) (zw hE hg i hok.1.2) hok.2;exact⟨c,val _ _ hr,hv⟩
 case extract x i =>
  obtain⟨c,hr,hv⟩:=mG (P:=P) (w:=w) (i:=i) (zw hE hg x hok.1) hok.2;exact⟨c,val _ _ hr,hv⟩
 case lookup t x k cok =>
  obtain⟨c,hr,hv⟩:=tq (P:=P) hS (zw hE hg x hok.1.1) (zw hE hg k hok.1.2) hok.2;exact⟨c,val _ _ hr,hv⟩
 case call c =>
  obtain⟨callee,args,argTypes⟩:=c;simp only at hok|-;split at hok
  .rename_i x t ts h1 h2
   have ha:args=#[x]:=by cases args;simp_all
   subst ha;obtain⟨c,hr,hv⟩:=wM (P:=P) hS (zw hE hg x hok.1) hok.2 argTypes (by rw[<-Array.getElem?_toList,h2];rfl) ty;exact⟨c,by simp[execOp,resolve,invoke,builtin,hr],hv⟩
  .rename_i x t ts h1 h2
   have ha:args=#[x]:=by cases args;simp_all
   subst ha;obtain⟨h1,h3⟩:=hok;have hx:=zw hE hg x h1;simp only[also];unfold A4 at h3|-;split at h3
   rotate_left
   .exact h3.elim
   rename_i e esz eb ez o cp hk he
   obtain⟨ti,ht,hk'⟩:=zH hk (by simp);rw[he]at hx;simp only[VR]at hx;obtain⟨g,a0,n0,cap,_,hsv,hc,rfl⟩:=hx
   have hts:argTypes[0]?=some t:=by rw[<-Array.getElem?_toList,h2];rfl
   refine⟨goInt cap,?_,i9 (by simp only[Fits,lo,hi];omega)⟩;rw[hsv]at hc;simp[execOp,resolve,invoke,builtin,hc,Builtin.cap_,hts,run_underlying (iT ht hk').1]
  .rename_i tl x y h1
   have ha:args=#[x,y]:=by cases args;simp_all
   subst ha;obtain⟨⟨h1,h2⟩,h3⟩:=hok;have hx:=zw hE hg x h1;have hy:=zw hE hg y h2;simp only[also];unfold EK at h3|-;split at h3
   rotate_left
   .exact h3.elim
   rename_i k u k' v e1 e2
   rw[e1]at hx;rw[e2]at hy
   simp only[VR,DR]at hx hy;have hk:k=k':=h3;subst hk;refine⟨.int k (min u v),?_,?_⟩
   .have:(if v<u then v else u)=min u v:=by rw[Int.min_def];split <;> split <;> omega
    simp[execOp,resolve,invoke,builtin,hx.1,hy.1,run_min_int2,this]
   .simp only[cond_true]
    exact i9 (by rw[Int.min_def];split;exact hx.2;exact hy.2)
  .rename_i tl x y z h1
   have ha:args=#[x,y,z]:=by cases args;simp_all
   subst ha;obtain⟨⟨h1,h2,h4⟩,h3⟩:=hok;have hx:=zw hE hg x h1;have hy:=zw hE hg y h2;have hz:=zw hE hg z h4;simp only[also];unfold Jr at h3|-;split at h3
   rotate_left
   .exact h3.elim
   rename_i k u k' v k'' t e1 e2 e3
   rw[e1]at hx;rw[e2]at hy;rw[e3]at hz
   simp only[VR,DR]at hx hy hz;obtain⟨hk,hk'⟩:=h3
   subst hk;subst hk'
   refine⟨.int k (min (min u v) t),?_,?_⟩
   .have e1:(if v<u then v else u)=min u v:=by rw[Int.min_def];split <;> split <;> omega
    have e2:(if t<min u v then t else min u v)=min (min u v) t:=by rw[Int.min_def (min u v) t];split <;> split <;> omega
    simp[execOp,resolve,invoke,builtin,hx.1,hy.1,hz.1,Builtin.min_,Builtin.min2,e1,e2]
   .refine i9 ?_
    have h1:=hx.2;have h2:=hy.2;have h3:=hz.2
    unfold Fits at *;omega
  .rename_i tl x y h1
   have ha:args=#[x,y]:=by cases args;simp_all
   subst ha;obtain⟨⟨h1,h2⟩,h3⟩:=hok;have hx:=zw hE hg x h1;have hy:=zw hE hg y h2;simp only[also];unfold EK at h3|-;split at h3
   rotate_left
   .exact h3.elim
   rename_i k u k' v e1 e2
   rw[e1]at hx;rw[e2]at hy
   simp only[VR,DR]at hx hy;have hk:k=k':=h3;subst hk;refine⟨.int k (max u v),?_,?_⟩
   .have:(if u<v then v else u)=max u v:=by rw[Int.max_def];split <;> split <;> omega
    simp[execOp,resolve,invoke,builtin,hx.1,hy.1,run_max_int2,this]
   .simp only[cond_false]
    exact i9 (by rw[Int.max_def];split;exact hy.2;exact hx.2)
  .exact hok.elim
end

abbrev Tp(a b:World):Prop:=b.tape=a.tape/\(Tabs.mono->a.drawn<=b.drawn)
structure Ext(kp:Nat->Bool)(K0:Nat->Prop)(G0:List Gh)(w0:World)(K:Nat->Prop)(G:List Gh)(w:World):Prop where
 os:w.os=w0.os
 tape:Tp w0 w
 output:w.output=w0.output
 size:w0.heap.size<=w.heap.size
 k:∀b,K0 b->K b
 knew:∀b,K b->K0 b∨(∃(o0:Nat) (g0:Gh),G0[o0]?=some g0/\own g0 b)∨w0.heap.size<=b
 glen:G0.length<=G.length
 gown:∀(o:Nat) (g:Gh) (b:Nat),G[o]?=some g->own g b->(∃(o0:Nat) (g0:Gh),G0[o0]?=some g0/\own g0 b)∨w0.heap.size<=b
 gsame:∀(o:Nat) (g0:Gh),kp o=true->G0[o]?=some g0->G[o]?=some g0
 frame:∀b,b<w0.heap.size->(∀(o:Nat) (g0:Gh),G0[o]?=some g0->¬ own g0 b)->w.heap[b]?=w0.heap[b]?

theorem Ext.refl(kp:Nat->Bool)(K:Nat->Prop)(G:List Gh)(w:World):Ext kp K G w K G w where
 os:=rfl
 tape:=⟨rfl,fun _=>Nat.le_refl _⟩
 output:=rfl
 size:=Nat.le_refl _
 k:=fun _ h=>h
 knew:=fun _ h=>.inl h
 glen:=Nat.le_refl _
 gown:=fun o g _ h hb=>.inl ⟨o,g,h,hb⟩
 gsame:=fun _ _ _ h=>h
 frame:=fun _ _ _=>rfl
theorem Ext.trans{kp:Nat->Bool}{K0 K1 K2:Nat->Prop}{G0 G1 G2:List Gh}{w0 w1 w2:World}(h:Ext kp K0 G0 w0 K1 G1 w1)(k:Ext kp K1 G1 w1 K2 G2 w2):Ext kp K0 G0 w0 K2 G2 w2 where
 os:=k.os.trans h.os
 tape:=⟨k.tape.1.trans h.tape.1,fun m=>Nat.le_trans (h.tape.2 m) (k.tape.2 m)⟩
 output:=k.output.trans h.output
 size:=Nat.le_trans h.size k.size
 k:=fun b hb=>k.k b (h.k b hb)
 knew:=fun b hb=>by
  rcases k.knew b hb with h1|⟨o1,g1,h1,h2⟩|h1
  .exact h.knew b h1
  .exact .inr (h.gown o1 g1 b h1 h2)
  .exact .inr (.inr (Nat.le_trans h.size h1))
 glen:=Nat.le_trans h.glen k.glen
 gown:=fun o g b hg hb=>by
  rcases k.gown o g b hg hb with⟨o1,g1,h1,h2⟩|h1
  .exact h.gown o1 g1 b h1 h2
  .exact .inr (Nat.le_trans h.size h1)
 gsame:=fun o g0 ho h0=>k.gsame o g0 ho (h.gsame o g0 ho h0)
 frame:=fun b hb hn=>by
  rw[k.frame b (Nat.lt_of_lt_of_le hb h.size) fun o g1 h1 e=>?_]
  .exact h.frame b hb hn
  .rcases h.gown o g1 b h1 e with⟨o0,g0,h2,h3⟩|h2
   .exact hn o0 g0 h2 h3
   .omega
theorem Ext.cut{kp:Nat->Bool}{K0 K:Nat->Prop}{G0 G:List Gh}{w0 w:World}(h:Ext kp K0 G0 w0 K G w){n:Nat}(hn:G0.length<=n):Ext kp K0 G0 w0 K (G.take n) w :=
 { h with
  glen:=by rw[length_take];have:=h.glen;omega
  gown:=fun o g b hg hb=>by
   rw[getElem?_take]at hg;split at hg
   .exact h.gown o g b hg hb
   .cases hg
  gsame:=fun o g0 ho h0=>by
   have:=(List.getElem?_eq_some_iff.1 h0).1;rw[getElem?_take,if_pos (by omega)]
   exact h.gsame o g0 ho h0 }

structure Cx where
 P:Program
 kp:Nat->Bool
 K0:Nat->Prop
 G0:List Gh
 w0:World
 n:Nat

def fC(kp:Nat->Bool)(H:List Ob):Prop:=∀o,kp o=true->∃x,H[o]?=some x/\x.kept=true

def Rel(C:Cx)(E:dY)(H:List Ob)(a:Act)(w:World):Prop :=
 ∃K G,Ext C.kp C.K0 C.G0 C.w0 K G w/\St K G H w/\ig K w.heap G a E/\a.defers=[]/\a.tmps.size=C.n/\fC C.kp H
def RelV(C:Cx)(E:dY)(H:List Ob)(c:Value)(v:Va)(a:Act)(w:World):Prop :=
 ∃K G,Ext C.kp C.K0 C.G0 C.w0 K G w/\St K G H w/\ig K w.heap G a E/\a.defers=[]/\a.tmps.size=C.n/\fC C.kp H/\VR K w.heap G c v

theorem RelV.put{C:Cx}{E:dY}{H:List Ob}{c:Value}{v:Va}{a:Act}{w:World}(h:RelV C E H c v a w)(dst:Option Tmp)(hd:∀d,dst=some d->d<C.n):Rel C (eB E dst v) H (a.put dst c) w:=by
 obtain⟨K,G,h1,h2,h3,h4,h5,h6,h7⟩:=h;refine⟨K,G,h1,h2,?_,?_,?_,h6⟩
 .cases dst with
  |none=>exact h3
  |some d =>
   intro m;simp only[Act.put,eB,eC];have hdn:=hd d rfl;split
   .rename_i e
    subst e;rw[show(a.tmps.setIfInBounds d c).getD d undef=c by simp[Array.getD,h5,hdn]];exact h7
   .rename_i e
    rw[show(a.tmps.setIfInBounds d c).getD m undef=a.tmps.getD m undef by simp only[Array.getD_eq_getD_getElem?];rw[Array.getElem?_setIfInBounds_ne e]];exact h3 m
 .cases dst <;> exact h4
 .cases dst <;> simp[Act.put,h5]

section
variable {K:Nat->Prop} {G:List Gh} {H:List Ob} {w:World}

def Ob.all(f:Nat->Bool):Ob->Bool
 |.cells _ vs=>cG f vs
 |.it o _ _=>f o
 |.nst _ _ _ _ p _ _=>f p
 |_=>true
theorem Ob.all_true(x:Ob):x.all (fun _=>true)=true:=by cases x <;> first|rfl|exact ct _
theorem bufR.keep{K K':Nat->Prop}{h h':Array Obj}(M:Mn K K' h h'){bo:Option Nat}{sv:Value}(hb:∀b,bo=some b->h'[b]?=h[b]?){T:TypeId}{sz:Nat}{rows:List (List Dt)}(H:bufR K h bo sv T sz rows):bufR K' h' bo sv T sz rows:=by
 obtain⟨h1,xs,h2,h3⟩:=H;refine⟨h1,xs,DRss.mono M sz xs rows h2,?_⟩
 rcases h3 with h3|⟨b,cap,cur,fr,e1,e2,e3,e4⟩
 .exact .inl h3
 .exact .inr ⟨b,cap,cur,fr,e1,e2,(hb b e2).trans e3,e4⟩
theorem ObR.keep{K':Nat->Prop}{h h':Array Obj}{G G':List Gh}{f:Nat->Bool}(M:Mn K K' h h')(hG:Mg f G G'){g:Gh}(ho:∀b,own g b->h'[b]?=h[b]?){x:Ob}
  (hx:x.all f=true) (H:ObR K h G g x):ObR K' h' G' g x:=by
 have hb:∀b,g.blk=some b->h'[b]?=h[b]?:=fun b h=>ho b (.inl h)
 cases x with
 |cells T vs =>
  obtain⟨b,cs,h1,h2,h3⟩:=H;exact⟨b,cs,h1,(hb b h1).trans h2,VRs.keep M hG cs vs hx h3⟩
 |buf T sz rows=>exact bufR.keep M hb H
 |fx T sz rows=>exact bufR.keep M hb H
 |sb T bs =>
  obtain⟨h1,h3⟩:=H;refine⟨h1,?_⟩
  rcases h3 with h3|⟨b,cap,cur,fr,e1,e2,e3,e4⟩
  .exact .inl h3
  .exact .inr ⟨b,cap,cur,fr,e1,e2,(hb b e2).trans e3,e4⟩
 |mp ag es =>
  obtain⟨h0,b,mes,clock,h1,h2,h3⟩:=H;exact⟨h0,b,mes,clock,h1,(hb b h1).trans h2,h3.1.mono M,h3.2⟩
 |mpb ag es bs cl =>
  obtain⟨h0,b,mes,h1,h2,h3⟩:=H;exact⟨h0,b,mes,h1,(hb b h1).trans h2,h3.1.mono M,h3.2⟩
 |it o cl seen =>
  obtain⟨b,bm,gm,h1,h2,h3,h4⟩:=H;exact⟨b,bm,gm,h1,hG o gm hx h2,h3,(hb b h1).trans h4⟩
 |nst f T sz k p rows st =>
  obtain⟨h0,h1,gp,vs,h2,h3,h4,h5⟩:=H;exact⟨h0,h1,gp,vs,hG p gp hx h2,h3,h4,bufR.keep M hb h5⟩
 |inn T sz ins =>
  obtain⟨h1,h2,h3,h4⟩:=H;refine⟨h1,h2,fun j v rows hv hr=>bufR.keep M (fun b hb=>ho b (.inr ⟨v,?_,hb⟩)) (h3 j v rows hv hr),h4⟩;exact mem_of_getElem? hv
 |gone=>exact H
 |lost=>exact H
def Ob.prune(f:Nat->Bool):Ob->Ob
 |.cells T vs=>.cells T (cr f vs)
 |.it o cl seen=>if f o then .it o cl seen else .gone
 |.nst g T sz k p rows st=>if f p then .nst g T sz k p rows st else bif g then .lost else .gone
 |x=>x
theorem ObR.prune{K':Nat->Prop}{h h':Array Obj}{G G':List Gh}{f:Nat->Bool}(M:Mn K K' h h')(hG:Mg f G G'){g:Gh}(hb:∀b,own g b->h'[b]?=h[b]?){x:Ob}
  (H:ObR K h G g x):ObR K' h' G' g (x.prune f):=by
 cases x with
 |cells T vs =>
  obtain⟨b,cs,h1,h2,h3⟩:=H;exact⟨b,cs,h1,(hb b (.inl h1)).trans h2,VRs.prune M hG cs vs h3⟩
 |buf T sz rows=>exact ObR.keep M hG hb rfl H
 |fx T sz rows=>exact ObR.keep M hG hb rfl H
 |sb T bs=>exact ObR.keep M hG hb rfl H
 |mp ag es=>exact ObR.keep M hG hb rfl H
 |mpb ag es bs cl=>exact ObR.keep M hG hb rfl H
 |it o cl seen =>
  simp only[Ob.prune];split
  .rename_i hf;exact ObR.keep M hG hb hf H
  .trivial
 |nst g T sz k p rows st =>
  simp only[Ob.prune];split
  .rename_i hf;exact ObR.keep M hG hb hf H
  .cases g <;> trivial
 |inn T sz ins=>exact ObR.keep M hG hb rfl H
 |gone=>exact H
 |lost=>exact H
theorem cw{f:Nat->Bool}{x:Ob}(h:x.kept=true):(x.prune f).kept=true:=by
 cases x <;> first|rfl|exact h|skip
 case it=>cases h
 case nst g T sz k p rows st =>
  simp only[Ob.prune];split
  .exact h
  .simp only[Ob.kept]at h;subst h;rfl

theorem Mg.push(G:List Gh)(g:Gh):Mg (fun _=>true) G (G++[g]):=fun o g' _ h=>by
 rw[getElem?_append_left (List.getElem?_eq_some_iff.1 h).1];exact h
theorem Mg.refl(f:Nat->Bool)(G:List Gh):Mg f G G:=fun _ _ _ h=>h

theorem yA{x b:Nat}{sv:Value}(h:own ⟨some x,sv,[]⟩ b):b=x:=by
 rcases h with h|⟨v,hv,_⟩
 .cases h;rfl
 .cases hv
theorem rF{b:Nat}{sv:Value}(h:own ⟨none,sv,[]⟩ b):False:=by
 rcases h with h|⟨v,hv,_⟩
 .cases h
 .cases hv
theorem St.push(hS:St K G H w){o:Obj}{x:Ob}{sv:Value}(hx:ObR K (w.alloc o).heap (G++[⟨some w.heap.size,sv,[]⟩]) ⟨some w.heap.size,sv,[]⟩ x):St K (G++[⟨some w.heap.size,sv,[]⟩]) (H++[x]) (w.alloc o):=by
 have hM:Mn K K w.heap (w.alloc o).heap:=⟨fun _ h=>h,fun b hb=>heap_alloc_old w o (hS.kb b hb)⟩
 have old:∀{i:Nat} {g:Gh},(G++[⟨some w.heap.size,sv,[]⟩])[i]?=some g->(G[i]?=some g)∨(i=G.length/\g=⟨some w.heap.size,sv,[]⟩):=by
  intro i g hg
  rcases Nat.lt_or_ge i G.length with h|h
  .rw[getElem?_append_left h]at hg;exact .inl hg
  .rw[getElem?_append_right h]at hg
   have:i-G.length=0:=by
    rcases Nat.lt_or_ge (i-G.length) 1 with h'|h'
    .omega
    .rw[getElem?_eq_none (by simpa using h')]at hg;cases hg
   rw[this]at hg;simp at hg;exact .inr ⟨by omega,hg.symm⟩
 constructor
 .simp[hS.len]
 .intro b hb;rw[World.size_alloc];exact Nat.lt_succ_of_lt (hS.kb b hb)
 .intro i g b hg hb
  rcases old hg with h|⟨_,rfl⟩
  .have:=hS.gbo i g b h hb
   exact⟨by rw[World.size_alloc];omega,this.2⟩
  .obtain rfl:=yA hb
   exact⟨by rw[World.size_alloc];omega,fun hk=>Nat.lt_irrefl _ (hS.kb _ hk)⟩
 .intro i j g g' b hg hg' hb hb'
  rcases old hg with h|⟨e,rfl⟩ <;> rcases old hg' with h'|⟨e',rfl⟩
  .exact hS.ijo i j g g' b h h' hb hb'
  .obtain rfl:=yA hb';have:=(hS.gbo i g _ h hb).1;omega
  .obtain rfl:=yA hb;have:=(hS.gbo j g' _ h' hb').1;omega
  .omega
 .intro i g y hg hy
  rcases old hg with h|⟨e,rfl⟩
  .have hl:=(List.getElem?_eq_some_iff.1 h).1
   rw[hS.len]at hl;rw[getElem?_append_left hl]at hy;exact ObR.keep hM (Mg.push G _) (fun b hb=>heap_alloc_old w o (hS.gbo i g b h hb).1) (Ob.all_true _) (hS.ob i g y h hy)
  .subst e
   rw[hS.len,getElem?_append_right (Nat.le_refl _)]at hy;simp at hy;subst hy;exact hx
 .exact hS.tb.mono hM
theorem Ext.push(kp:Nat->Bool)(o:Obj)(sv:Value):Ext kp K G w K (G++[⟨some w.heap.size,sv,[]⟩]) (w.alloc o) where
 os:=rfl
 tape:=⟨rfl,fun _=>Nat.le_refl _⟩
 output:=rfl
 size:=by rw[World.size_alloc];omega
 k:=fun _ h=>h
 knew:=fun _ h=>.inl h
 glen:=by simp
 gown:=fun i g b hg hb=>by
  rcases Nat.lt_or_ge i G.length with hi|hi
  .rw[getElem?_append_left hi]at hg
   exact .inl ⟨i,g,hg,hb⟩
  .rw[getElem?_append_right hi]at hg
   have:i-G.length=0:=by
    rcases Nat.lt_or_ge (i-G.length) 1 with h'|h'
    .omega
    .rw[getElem?_eq_none (by simpa using h')]at hg;cases hg
   rw[this]at hg;simp at hg;subst hg;obtain rfl:=yA hb;exact .inr (Nat.le_refl _)
 gsame:=fun i g0 _ h0=>by rw[getElem?_append_left (List.getElem?_eq_some_iff.1 h0).1];exact h0
 frame:=fun b hb _=>heap_alloc_old w o hb
theorem St.pushK(hS:St K G H w)(o:Obj):St (fun b=>K b∨b=w.heap.size) G H (w.alloc o) where
 len:=hS.len
 kb:=fun b hb=>by rw[World.size_alloc];rcases hb with h|h;exact Nat.lt_succ_of_lt (hS.kb b h);omega
 gbo:=fun i g b hg hb=>by
  have:=hS.gbo i g b hg hb;exact⟨by rw[World.size_alloc];omega,fun h=>h.elim this.2 fun e=>by omega⟩
 ijo:=hS.ijo
 tb:=hS.tb.mono ⟨fun _ h=>.inl h,fun b hb=>heap_alloc_old w o (hS.kb b hb)⟩
 ob:=fun i g y hg hy=>ObR.keep (K:=K) ⟨fun _ h=>.inl h,fun b hb=>heap_alloc_old w o (hS.kb b hb)⟩ (Mg.refl (fun _=>true) G) (fun b hb=>heap_alloc_old w o (hS.gbo i g b hg hb).1) (Ob.all_true _) (hS.ob i g y hg hy)
theorem Ext.pushK(kp:Nat->Bool)(o:Obj):Ext kp K G w (fun b=>K b∨b=w.heap.size) G (w.alloc o) where
 os:=rfl
 tape:=⟨rfl,fun _=>Nat.le_refl _⟩
 output:=rfl
 size:=by rw[World.size_alloc];omega
 k:=fun _ h=>.inl h
 knew:=fun b h=>h.elim .inl fun e=>.inr (.inr (by omega))
 glen:=Nat.le_refl _
 gown:=fun i g b hg hb=>.inl ⟨i,g,hg,hb⟩
 gsame:=fun _ _ _ h=>h
 frame:=fun b hb _=>heap_alloc_old w o hb
end

section
variable {K:Nat->Prop} {G:List Gh} {H:List Ob} {w:World} {P:Program}

theorem St.modO(hS:St K G H w){o:Nat}{g:Gh}{b:Nat}(hg:G[o]?=some g)(hb:own g b){w':World}(hsz:w'.heap.size=w.heap.size)(hfr:∀i,i≠b->w'.heap[i]?=w.heap[i]?){x:Ob}(hx:ObR K w'.heap G g x) :
  St K G (H.set o x) w':=by
 have hM:Mn K K w.heap w'.heap:=⟨fun _ h=>h,fun i hi=>hfr i fun e=>(hS.gbo o g b hg hb).2 (e ▸ hi)⟩;refine⟨by simp[hS.len],fun i hi=>by rw[hsz];exact hS.kb i hi,fun i g b hg hb=>by rw[hsz];exact hS.gbo i g b hg hb,hS.ijo,fun i g' y hg' hy=>?_,hS.tb.mono hM⟩
 by_cases e:i=o
 .subst e
  rw[hg]at hg';cases hg'
  have hl:=(List.getElem?_eq_some_iff.1 hg).1;rw[hS.len]at hl;rw[getElem?_set_self hl]at hy;cases hy;exact hx
 .rw[getElem?_set_ne (Ne.symm e)]at hy
  exact ObR.keep hM (Mg.refl (fun _=>true) G) (fun b' hb'=>hfr b' fun e'=>e (hS.ijo i o g' g b' hg' hg hb' (by rw[e'];exact hb))) (Ob.all_true _) (hS.ob i g' y hg' hy)
theorem St.modA(hS:St K G H w){o:Nat}{g:Gh}{b:Nat}(hg:G[o]?=some g)(hb:g.blk=some b){w':World}(hsz:w'.heap.size=w.heap.size)(hfr:∀i,i≠b->w'.heap[i]?=w.heap[i]?){x:Ob}(hx:ObR K w'.heap G g x) :
  St K G (H.set o x) w':=hS.modO hg (.inl hb) hsz hfr hx
theorem Ext.modO(kp:Nat->Bool){o:Nat}{g:Gh}{b:Nat}(hg:G[o]?=some g)(hb:own g b){w':World}(hos:w'.os=w.os)(ht:Tp w w')(ho:w'.output=w.output)(hsz:w'.heap.size=w.heap.size)(hfr:∀i,i≠b->w'.heap[i]?=w.heap[i]?) :
  Ext kp K G w K G w' where
 os:=hos
 tape:=ht
 output:=ho
 size:=by omega
 k:=fun _ h=>h
 knew:=fun _ h=>.inl h
 glen:=Nat.le_refl _
 gown:=fun i g _ hg hb=>.inl ⟨i,g,hg,hb⟩
 gsame:=fun _ _ _ h=>h
 frame:=fun i _ hn=>hfr i fun e=>hn o g hg (by rw[e];exact hb)
theorem Ext.modA(kp:Nat->Bool){o:Nat}{g:Gh}{b:Nat}(hg:G[o]?=some g)(hb:g.blk=some b){w':World}(hos:w'.os=w.os)(ht:Tp w w')(ho:w'.output=w.output)(hsz:w'.heap.size=w.heap.size)(hfr:∀i,i≠b->w'.heap[i]?=w.heap[i]?) :
  Ext kp K G w K G w':=Ext.modO kp hg (.inl hb) hos ht ho hsz hfr

theorem St.modB(hS:St K G H w){o:Nat}{g g1:Gh}(hg:G[o]?=some g){w':World}(hsz:w.heap.size<=w'.heap.size)(hfr:∀i,i<w.heap.size->¬ own g i->w'.heap[i]?=w.heap[i]?)
  (h1:∀b,own g1 b->b<w'.heap.size/\(own g b∨w.heap.size<=b)) {x:Ob} (hx:ObR K w'.heap (G.set o g1) g1 x) :
  St K (G.set o g1) ((H.map (Ob.prune (· != o))).set o x) w':=by
 have hl:=(List.getElem?_eq_some_iff.1 hg).1;have hM:Mn K K w.heap w'.heap:=⟨fun _ h=>h,fun i hi=>hfr i (hS.kb i hi) fun e=>(hS.gbo o g i hg e).2 hi⟩
 have hMg:Mg (· != o) G (G.set o g1):=fun i g' hi hg'=>by rw[getElem?_set_ne (by simpa using Ne.symm (by simpa using hi))];exact hg'
 have cases2:∀{i:Nat} {g':Gh},(G.set o g1)[i]?=some g'->(i=o/\g'=g1)∨(i≠o/\G[i]?=some g'):=by
  intro i g' h
  by_cases e:i=o
  .subst e;rw[getElem?_set_self hl]at h;cases h;exact .inl ⟨rfl,rfl⟩
  .rw[getElem?_set_ne (Ne.symm e)]at h;exact .inr ⟨e,h⟩
 refine⟨by simp[hS.len],fun i hi=>Nat.lt_of_lt_of_le (hS.kb i hi) hsz,fun i g' b hg' hb=>?_,fun i j g' g'' b hg' hg'' hb hb'=>?_,fun i g' y hg' hy=>?_,hS.tb.mono hM⟩
 .rcases cases2 hg' with⟨rfl,rfl⟩|⟨e,h⟩
  .refine⟨(h1 b hb).1,fun hk=>?_⟩
   rcases(h1 b hb).2 with h2|h2
   .exact(hS.gbo _ g b hg h2).2 hk
   .have:=hS.kb b hk;omega
  .have:=hS.gbo i g' b h hb
   exact⟨by omega,this.2⟩
 .rcases cases2 hg' with⟨rfl,rfl⟩|⟨e,h⟩ <;> rcases cases2 hg'' with⟨rfl,rfl⟩|⟨e',h'⟩
  .rfl
  .rcases(h1 b hb).2 with h2|h2
   .exact hS.ijo _ j g g'' b hg h' h2 hb'
   .have:=(hS.gbo j g'' b h' hb').1;omega
  .rcases(h1 b hb').2 with h2|h2
   .exact hS.ijo i _ g' g b h hg hb h2
   .have:=(hS.gbo i g' b h hb).1;omega
  .exact hS.ijo i j g' g'' b h h' hb hb'
 .rcases cases2 hg' with⟨rfl,rfl⟩|⟨e,h⟩
  .rw[getElem?_set_self (by simp[<-hS.len,hl])]at hy
   cases hy;exact hx
  .rw[getElem?_set_ne (Ne.symm e),getElem?_map]at hy
   cases hyy:H[i]? with
   |none=>rw[hyy]at hy;simp at hy
   |some y0 =>
    rw[hyy]at hy;simp at hy;subst hy;exact ObR.prune hM hMg (fun b' hb'=>hfr b' (hS.gbo i g' b' h hb').1 fun e'=>e (hS.ijo i o g' g b' h hg hb' e')) (hS.ob i g' y0 h hyy)
theorem Ext.modB{kp:Nat->Bool}{o:Nat}{g g1:Gh}(hg:G[o]?=some g)(hkp:kp o=false){w':World}(hos:w'.os=w.os)(ht:Tp w w')(ho:w'.output=w.output)(hsz:w.heap.size<=w'.heap.size)(hfr:∀i,i<w.heap.size->¬ own g i->w'.heap[i]?=w.heap[i]?)
  (h1:∀b,own g1 b->own g b∨w.heap.size<=b):Ext kp K G w K (G.set o g1) w' where
 os:=hos
 tape:=ht
 output:=ho
 size:=hsz
 k:=fun _ h=>h
 knew:=fun _ h=>.inl h
 glen:=by simp
 gown:=fun i g' b hg' hb=>by
  by_cases e:i=o
  .subst e
   rw[getElem?_set_self (List.getElem?_eq_some_iff.1 hg).1]at hg';cases hg';exact(h1 b hb).imp (fun h=>⟨i,g,hg,h⟩) id
  .rw[getElem?_set_ne (Ne.symm e)]at hg';exact .inl ⟨i,g',hg',hb⟩
 gsame:=fun i g0 hi h0=>by
  rw[getElem?_set_ne (fun e=>by rw[<-e,hkp]at hi;cases hi)];exact h0
 frame:=fun i hi hn=>hfr i hi (hn o g hg)

theorem I3(g o:Nat)(t:TypeId)(fr:Nat×Nat):∀(vs:List Value) (i:Nat) (cur:Array Value) (w:World),w.heap[g]?=some (.cells cur t fr)->(∀j,o+i<=j->j<cur.size->¬ (fr.1<=j/\j<fr.2))->o+i+vs.length<=cur.size->(∀v∈vs,v.oneCell'=true) ->
  (storeCells ⟨g,o,none⟩ vs i).run P w=.ok () (w.setRow g (eP cur.toList (o+i) vs).toArray)
 |[],i,cur,w,hg,_,hl,_=>by
  have e:∀(l:List Value) (n:Nat),n<=l.length->eP l n []=l:=by
   intro l n
   induction n generalizing l with
   |zero=>intro _;simp[eP]
   |succ n ih=>intro hn;cases l with
    |nil=>simp at hn
    |cons x l=>simp only[eP];rw[ih l (by simpa using hn)]
  simp only[storeCells];rw[e cur.toList _ (by simpa using hl),Array.toArray_toList,setRow_self w g cur t fr hg];rfl
 |v::rest,i,cur,w,hg,hf,hl,h1=>by
  have hi:o+i<cur.size:=by simp at hl;omega
  have hcell:w.cell? ⟨g,o+i,none⟩=some cur[o+i]:=by simp[World.cell?,hg,hi]
  have hfro:w.frozen? ⟨g,o+i,none⟩=false:=by
   have:=hf (o+i) (Nat.le_refl _) hi;obtain⟨f1,f2⟩:=fr;simp only[World.frozen?,hg]at this|-
   simpa using this
  have hst:(store ((⟨g,o,none⟩:Addr).add i) v).run P w=.ok () (w.setRow g (cur.setIfInBounds (o+i) v)):=by
   rw[lc,run_store P w _ v _ (h1 v (by simp)),hcell];simp[hfro,setCell_eq_setRow w g (o+i) cur t fr v hg]
  have hg':=setRow_heap w g cur (cur.setIfInBounds (o+i) v) t fr hg;have ih:=I3 g o t fr rest (i+1) (cur.setIfInBounds (o+i) v) (w.setRow g (cur.setIfInBounds (o+i) v)) hg' (fun j h1 h2=>hf j (by omega) (by simpa using h2)) (by simp at hl|-;omega) (fun u hu=>h1 u (by simp[hu]))
  have key:∀(l:List Value) (n:Nat),n+(v::rest).length<=l.length->eP (l.set n v) (n+1) rest=eP l n (v::rest):=by
   intro l n
   induction n generalizing l with
   |zero=>intro hn;cases l with
    |nil=>simp at hn
    |cons y l=>simp[eP]
   |succ n ih=>intro hn;cases l with
    |nil=>simp at hn
    |cons y l=>simp only[set_cons_succ,eP];rw[ih l (by simp at hn|-;omega)]
  simp only[storeCells,Sem.run_bind,hst,Result.andThen_ok,ih];rw[setRow_setRow,Array.toList_setIfInBounds,show o+(i+1)=(o+i)+1 by omega,key cur.toList (o+i) (by simp at hl|-;omega)]

theorem GI(g o:Nat)(t:TypeId)(fr:Nat×Nat)(vs:List Value)(i:Nat)(cur:Array Value)(w:World)(hg:w.heap[g]?=some (.cells cur t fr))(hf:Free fr cur.size)(hl:o+i+vs.length<=cur.size)(h1:∀v∈vs,v.oneCell'=true) :
  (storeCells ⟨g,o,none⟩ vs i).run P w=.ok () (w.setRow g (eP cur.toList (o+i) vs).toArray):=I3 g o t fr vs i cur w hg (fun j _ hj=>hf.out j hj) hl h1

theorem VR.one{h:Array Obj}{c:Value}{v:Va}(hc:VR K h G c v)(hv:v.isCell=true)(ha:∀vs,v≠.agg vs):c.oneCell'=true:=by
 cases v with
 |p x =>
  cases x with
  |l rows=>simp only[VR,DR]at hc;rcases hc with⟨⟨_,rfl⟩,_⟩|⟨_,_,_,_,_,_,_,_,rfl,_⟩ <;> rfl
  |b x=>simp only[VR,DR]at hc;subst hc;rfl
  |i k n=>simp only[VR,DR]at hc;obtain⟨rfl,_⟩:=hc;rfl
  |s x=>simp only[VR,DR]at hc;obtain⟨rfl,_⟩:=hc;rfl
  |a ds=>simp[Va.isCell]at hv
  |r x=>simp only[VR,DR]at hc;obtain⟨rfl,h⟩:=hc;exact h
 |nils=>simp only[VR]at hc;subst hc;rfl
 |full rows=>simp only[VR]at hc;obtain⟨_,a,rfl⟩:=hc;rfl
 |rp row=>simp only[VR]at hc;obtain⟨_,_,_,_,_,_,rfl,_⟩:=hc;rfl
 |ptr o off=>simp only[VR]at hc;obtain⟨_,_,_,_,rfl⟩:=hc;rfl
 |cs o off=>simp only[VR]at hc;obtain⟨_,_,_,_,rfl⟩:=hc;rfl
 |el o sz i off=>simp only[VR]at hc;obtain⟨_,_,_,_,_,_,_,rfl⟩:=hc;rfl
 |buf o=>simp only[VR]at hc;obtain⟨_,_,rfl,_,_,_,e⟩:=hc;rw[e];rfl
 |mp o=>simp only[VR]at hc;obtain⟨_,_,_,_,rfl⟩:=hc;rfl
 |np o=>simp only[VR]at hc;rcases hc with rfl|⟨_,_,_,_,rfl⟩ <;> rfl
 |sd o=>simp only[VR]at hc;obtain⟨_,_,_,_,_,_,rfl⟩:=hc;rfl
 |vw o sz a n=>simp only[VR]at hc;obtain⟨_,_,_,_,_,_,_,_,_,rfl,_⟩:=hc;rfl
 |bufc o cp=>simp only[VR]at hc;obtain⟨_,_,_,_,_,e,rfl,_⟩:=hc;rw[e];rfl
 |nv o i=>simp only[VR]at hc;obtain⟨_,_,_,_,_,_,rfl⟩:=hc;rfl
 |ne o sz i j off=>simp only[VR]at hc;obtain⟨_,_,_,_,_,_,rfl⟩:=hc;rfl
 |fn f vs=>simp only[VR]at hc;obtain⟨_,rfl,_⟩:=hc;rfl
 |agg cs=>exact absurd rfl (ha cs)
 |tup vs=>simp[Va.isCell]at hv
 |nil=>simp only[VR]at hc;subst hc;rfl
 |cnd x y=>simp[Va.isCell]at hv
 |raw x=>simp only[VR]at hc;subst hc;simpa [Va.isCell]using hv
 |er b=>simp only[VR]at hc;rcases hc with⟨_,rfl⟩|⟨_,_,_,rfl⟩ <;> rfl
 |top=>simp[Va.isCell]at hv
def rO:List Va->Prop
 |[]=>True
 |.agg _::_=>False
 |v::vs=>v.isCell=true/\rO vs
theorem CY{h:Array Obj}:∀{cs:List Value} {vs:List Va},VRs K h G cs vs->rO vs->∀c∈cs,c.oneCell'=true
 |cs,[],H,_=>by simp only[VRs]at H;subst H;simp
 |cs,v::vs,H,ha=>by
  simp only[VRs]at H;obtain⟨c,cs',rfl,h2,h3⟩:=H
  have hv:v.isCell=true/\(∀l,v≠.agg l)/\rO vs:=by
   cases v <;> simp only[rO]at ha <;> first|exact⟨ha.1,by simp,ha.2⟩|exact ha.elim
  intro c' hc'
  rcases mem_cons.1 hc' with rfl|hm
  .exact h2.one hv.1 hv.2.1
  .exact CY h3 hv.2.2 c' hm
end

section
variable {P:Program} (w:World)
structure nk(P:Program)(w:World)(size:Nat)(x:Value)(m:Nat)(news:List Value):Prop where
 len:∀w',(Builtin.lenOf x).run P w'=.ok m w'
 cells:∀w',w'.heap=w.heap->(Builtin.firstCells size m x).run P w'=.ok news.toArray w'
 size:news.length=m*size

theorem IG{t u ty e:TypeId}{i:TypeInfo}{z:Value}(ht:P.underlying t=some (.slice e)){d:TypeDesc}(hu:P.underlying u=some d)(hd:(∃k,d=.slice k)∨d=.string)(hi:P.info? e=some i)(hz:i.zero=some z)
  {base:Option Addr} {sLen sCap m:Nat} {x:Value} {olds news:List Value} (ho:nk P w i.size (.slice base sLen sCap) sLen olds) (hx:nk P w i.size x m news)
  (hg:sCap<sLen+m) (h63:sLen+m<=9223372036854775807) (hfit:Builtin.nextslicecap (sLen+m) sCap*i.bytes<=281474976710656) :
  (Builtin.append_ #[t,u] ty #[.slice base sLen sCap,x]).run P w =
   .ok (.slice (some ⟨w.heap.size,0,none⟩) (sLen+m) (grownCap w (sLen+m) sCap e))
    (w.drew.alloc (.cells (olds.toArray++news.toArray++Builtin.zeroCells z.cells (grownCap w (sLen+m) sCap e-(sLen+m))) e)):=by
 have hn:¬ (sLen+m<=sCap):=by omega
 have h63':¬ (9223372036854775807<((sLen:Int)+(m:Int))):=by omega
 have h48':¬ (281474976710656<Builtin.nextslicecap (sLen+m) sCap*i.bytes):=by omega
 have hf:=hx.cells w.drew rfl;have hfo:=ho.cells w.drew rfl
 rcases hd with⟨k,rfl⟩|rfl
 all_goals
  simp[Builtin.append_,run_underlying ht,run_underlying hu,sizeOf,typeInfo,zeroValue,hi,hz,hx.len,hn,h63',h48',Question.forced,hf,hfo,newRow,grownCap]
  congr 2
  apply Array.ext';simp[append_assoc]

theorem Ks{t u ty e:TypeId}{i:TypeInfo}(ht:P.underlying t=some (.slice e)){d:TypeDesc}(hu:P.underlying u=some d)(hd:(∃k,d=.slice k)∨d=.string)(hi:P.info? e=some i)
  {g sLen sCap m:Nat} {x:Value} {cur:Array Value} {fr:Nat×Nat} {news:List Value} (hgc:w.heap[g]?=some (.cells cur e fr)) (hfr:∀j,sLen*i.size<=j->j<cur.size->¬ (fr.1<=j/\j<fr.2)) (hx:nk P w i.size x m news) (h1:∀u∈news,u.oneCell'=true)
  (hroom:sLen+m<=sCap) (hfit:sLen*i.size+news.length<=cur.size) :
  (Builtin.append_ #[t,u] ty #[.slice (some ⟨g,0,none⟩) sLen sCap,x]).run P w=.ok (.slice (some ⟨g,0,none⟩) (sLen+m) sCap) (w.setRow g (eP cur.toList (sLen*i.size) news).toArray):=by
 have hf:=hx.cells w rfl;have hst:=I3 (P:=P) g (sLen*i.size) e fr news 0 cur w hgc (by simpa using hfr) (by simpa using hfit) h1;simp only[Nat.add_zero]at hst
 rcases hd with⟨k,rfl⟩|rfl
 all_goals
  simp[Builtin.append_,run_underlying ht,run_underlying hu,sizeOf,typeInfo,hi,hx.len,hroom,hf,lc,hst]
theorem Ds{t u ty e:TypeId}{i:TypeInfo}(ht:P.underlying t=some (.slice e)){d:TypeDesc}(hu:P.underlying u=some d)(hd:(∃k,d=.slice k)∨d=.string)(hi:P.info? e=some i)
  {x:Value} {news:List Value} (hx:nk P w i.size x 0 news) (a:Option Addr) :
  (Builtin.append_ #[t,u] ty #[.slice a 0 0,x]).run P w=.ok (.slice a 0 0) w:=by
 have hf:=hx.cells w rfl
 have hn:news=[]:=by have:=hx.size;simpa using this
 subst hn
 rcases hd with⟨k,rfl⟩|rfl
 all_goals
  cases a <;> simp[Builtin.append_,run_underlying ht,run_underlying hu,sizeOf,typeInfo,hi,hx.len,hf,storeCells]
end

theorem rG:∀(l:List Value) (n:Nat) (xs:List Value),n+xs.length<=l.length->eP l n xs=l.take n++xs++l.drop (n+xs.length)
 |l,0,xs,_=>by simp[eP]
 |x::l,n+1,xs,h=>by
  simp only[eP];rw[rG l n xs (by simp at h;omega)];simp[Nat.add_right_comm]
 |[],n+1,xs,h=>by simp at h

section
variable {K:Nat->Prop} {G:List Gh} {H:List Ob} {w:World} {P:Program}

theorem kZ(hKs:∀b,K b->b<w.heap.size){T:TypeId}{sz:Nat}{rows:List (List Dt)}{bo:Option Nat}{sv0:Value}(hbb:∀b,bo=some b->b<w.heap.size/\¬ K b)(ho:bufR K w.heap bo sv0 T sz rows)
  {t u ty:TypeId} {i:TypeInfo} {z:Value} (ht:P.underlying t=some (.slice T)) {d:TypeDesc} (hu:P.underlying u=some d) (hd:(∃k,d=.slice k)∨d=.string) (hi:P.info? T=some i) (hsz:i.size=sz) (hz:i.zero=some z) (hzs:z.cells.size=sz)
  {x:Value} {m:Nat} {news:List Value} (hx:nk P w i.size x m news) (h1:∀u∈news,u.oneCell'=true) {rows':List (List Dt)} (hr:DRss K w.heap sz news rows') (hm:rows'.length=m) (hlim:(rows++rows').length<=eh) (hby:(rows++rows').length*i.bytes<=140737488355328) :
  ∃sv w' bn,(Builtin.append_ #[t,u] ty #[sv0,x]).run P w=.ok sv w'/\(∃a n c,sv=.slice a n c)/\w'.os=w.os/\Tp w w'/\w'.output=w.output/\w.heap.size<=w'.heap.size /\
   (∀i,i<w.heap.size->bo≠some i->w'.heap[i]?=w.heap[i]?)/\(∀b,bn=some b->b<w'.heap.size/\(bo=some b∨w.heap.size<=b))/\bufR K w'.heap bn sv T sz (rows++rows'):=by
 subst hsz;subst hm
 have hl63:rows.length+rows'.length<=9223372036854775807:=by simp only[length_append,eh]at hlim;omega
 have hlm:rows.length+rows'.length<=maxLen:=by simp only[maxLen];omega
 obtain⟨hlr,xs,hxs,hh⟩:=ho;have hxl:=hxs.length;have hnl:=hx.size;have hK:∀b,K b->b<w.heap.size:=hKs
 -- where it grows
 have grown:∀(base:Option Addr) (cap:Nat),sv0=.slice base rows.length cap->nk P w i.size sv0 rows.length xs->cap<rows.length+rows'.length ->
   ∃sv w' bn,(Builtin.append_ #[t,u] ty #[sv0,x]).run P w=.ok sv w'/\(∃a n c,sv=.slice a n c)/\w'.os=w.os/\Tp w w'/\w'.output=w.output/\w.heap.size<=w'.heap.size /\
    (∀i,i<w.heap.size->bo≠some i->w'.heap[i]?=w.heap[i]?)/\(∀b,bn=some b->b<w'.heap.size/\(bo=some b∨w.heap.size<=b))/\bufR K w'.heap bn sv T i.size (rows++rows'):=by
  intro base cap hsv hsrc hlt;have hfit:=growslice_fits (bytes:=i.bytes) hlt (by simpa using hby);rw[hsv]at hsrc;have hrun:=IG (P:=P) w (ty:=ty) ht hu hd hi hz hsrc hx hlt hl63 hfit;have hge:=grownCap_ge w (rows.length+rows'.length) cap T;have hcm:=grownCap_le_maxLen w (rows.length+rows'.length) cap T hlm;refine⟨_,w.drew.alloc (.cells (xs.toArray++news.toArray++Builtin.zeroCells z.cells (grownCap w (rows.length+rows'.length) cap T-(rows.length+rows'.length))) T),some w.heap.size,by rw[hsv];exact hrun,⟨_,_,_,rfl⟩,rfl,⟨rfl,fun _=>Nat.le_succ _⟩,rfl,by simp,fun k hk _=>heap_alloc_old w.drew _ hk,fun b hb=>?_,?_⟩
  .cases hb;exact⟨by simp,.inr (Nat.le_refl _)⟩
  .refine⟨hlim,xs++news,?_,.inr ⟨w.heap.size,_,_,(0,0),by rw[length_append],rfl,heap_alloc_new w.drew _,?_,by rw[length_append];exact hge,hcm,?_,?_⟩⟩
   .exact DRss.mono ⟨fun _ h=>h,fun b hb=>heap_alloc_old w.drew _ (hK b hb)⟩ _ _ _ (hxs.append hr)
   .exact .inl rfl
   .simp only[Array.size_append,size_toArray,size_zeroCells,hzs,hxl,hnl,<-Nat.add_mul]
    exact Nat.mul_le_mul_right _ (by omega)
   .simp only[Array.toList_append,append_assoc]
    rw[<-append_assoc]
    have:(xs++news).length=(rows++rows').length*i.size:=by rw[length_append,length_append,hxl,hnl,Nat.add_mul]
    rw[<-this];exact take_left
 rcases hh with⟨hsv,hr0,hgb⟩|⟨b,cap,cur,fr,hsv,hgb,hb,hfr,hle,hcap,hcs,htake⟩
 .obtain⟨ad,hsv⟩:=hsv
  subst hr0
  have hx0:xs=[]:=by simpa [DRss]using hxs
  subst hx0
  rcases Nat.eq_zero_or_pos rows'.length with h0|hp
  .have hr0:rows'=[]:=length_eq_zero_iff.1 h0
   subst hr0;refine⟨.slice ad 0 0,w,bo,by rw[hsv];exact Ds (P:=P) w ht hu hd hi hx ad,⟨_,_,_,rfl⟩,rfl,⟨rfl,fun _=>Nat.le_refl _⟩,rfl,Nat.le_refl _,fun _ _ _=>rfl,fun b hb=>⟨(hbb b hb).1,.inl hb⟩,?_⟩;exact⟨by simp,[],by simp[DRss],.inl ⟨⟨ad,rfl⟩,rfl,hgb⟩⟩
  .have hsrc:nk P w i.size sv0 0 []:=by
    rw[hsv];exact⟨fun _=>rfl,fun _ _=>by cases ad <;> simp[Builtin.firstCells,loadCells,loadCellsFrom],by simp⟩
   exact grown ad 0 (by simpa using hsv) (by simpa using hsrc) (by simpa using hp)
 .by_cases hroom:rows.length+rows'.length<=cap
  .have hfit:rows.length*i.size+news.length<=cur.size:=by rw[hnl,<-Nat.add_mul];exact Nat.le_trans (Nat.mul_le_mul_right _ hroom) hcs
   have hrun:=Ks (P:=P) w (ty:=ty) ht hu hd hi hb (fun j _ hj=>hfr.out j hj) hx h1 hroom hfit;refine⟨_,w.setRow b (eP cur.toList (rows.length*i.size) news).toArray,some b,by rw[hsv];exact hrun,⟨_,_,_,rfl⟩,rfl,⟨rfl,fun _=>Nat.le_refl _⟩,rfl,by simp,fun k _ hk=>setRow_other w b k _ (fun e=>hk (by rw[hgb,e])),fun b' hb'=>?_,?_⟩
   .cases hb'
    exact⟨by rw[setRow_size];exact(hbb _ hgb).1,.inl hgb⟩
   .have hcl:(eP cur.toList (rows.length*i.size) news).length=cur.size:=by rw[B4 _ _ _ (by simpa using hfit)];simp
    refine⟨hlim,xs++news,?_,.inr ⟨b,cap,_,fr,by rw[length_append],rfl,setRow_heap w b cur _ T fr hb,?_,by rw[length_append];exact hroom,hcap,?_,?_⟩⟩
    .exact DRss.mono ⟨fun _ h=>h,fun b' hb'=>setRow_other w b b' _ (fun e=>(hbb b hgb).2 (e ▸ hb'))⟩ _ _ _ (hxs.append hr)
    .simp only[size_toArray,hcl];exact hfr
    .simp only[size_toArray,hcl];exact hcs
    .simp only
     have hl2:(cur.toList.take (rows.length*i.size)++news).length=(rows++rows').length*i.size:=by
      rw[htake,length_append,length_append,hxl,hnl,Nat.add_mul]
     rw[rG _ _ _ (by simpa using hfit),<-hl2,take_left,htake]
  .refine grown (some ⟨b,0,none⟩) cap hsv ?_ (by omega)
   rw[hsv];refine⟨fun _=>rfl,fun w' hw'=>?_,hxl⟩;refine run_firstCells_some (P:=P) w' i.size rows.length _ _ _ xs hxl (fun j v hj=>?_);rw[lc,cell_of_row w' b (0+j) cur T fr (by rw[hw'];exact hb),Nat.zero_add];rw[<-htake,getElem?_take]at hj;split at hj
   .rw[<-Array.getElem?_toList];exact hj
   .cases hj
theorem Bh(hS:St K G H w){o:Nat}{T:TypeId}{sz:Nat}{rows:List (List Dt)}{g:Gh}(hg:G[o]?=some g)(ho:ObR K w.heap G g (.buf T sz rows))
  {t u ty:TypeId} {i:TypeInfo} {z:Value} (ht:P.underlying t=some (.slice T)) {d:TypeDesc} (hu:P.underlying u=some d) (hd:(∃k,d=.slice k)∨d=.string) (hi:P.info? T=some i) (hsz:i.size=sz) (hz:i.zero=some z) (hzs:z.cells.size=sz)
  {x:Value} {m:Nat} {news:List Value} (hx:nk P w i.size x m news) (h1:∀u∈news,u.oneCell'=true) {rows':List (List Dt)} (hr:DRss K w.heap sz news rows') (hm:rows'.length=m) (hlim:(rows++rows').length<=eh) (hby:(rows++rows').length*i.bytes<=140737488355328) :
  ∃sv w' g1,(Builtin.append_ #[t,u] ty #[g.sv,x]).run P w=.ok sv w'/\g1.sv=sv/\(∃a n c,sv=.slice a n c)/\w'.os=w.os/\Tp w w'/\w'.output=w.output/\w.heap.size<=w'.heap.size /\
   (∀i,i<w.heap.size->¬ own g i->w'.heap[i]?=w.heap[i]?)/\(∀b,own g1 b->b<w'.heap.size/\(own g b∨w.heap.size<=b))/\ObR K w'.heap (G.set o g1) g1 (.buf T sz (rows++rows')):=by
 obtain⟨sv,w',bn,e1,e2,e3,e4,e5,e6,e7,e8,e9⟩:=kZ (P:=P) (w:=w) hS.kb (fun b hb=>hS.gb o g b hg hb) ho (t:=t) (u:=u) (ty:=ty) ht hu hd hi hsz hz hzs hx h1 hr hm hlim hby
 exact⟨sv,w',⟨bn,sv,[]⟩,e1,rfl,e2,e3,e4,e5,e6,fun i hi h=>e7 i hi fun e=>h (.inl e),fun b hb=>(by
  rcases hb with hb|⟨_,hb,_⟩
  .exact⟨(e8 b hb).1,(e8 b hb).2.imp .inl id⟩
  .cases hb),e9⟩

theorem rm(hS:St K G H w){o:Nat}{T:TypeId}{bs:List UInt8}{g:Gh}(hg:G[o]?=some g)(ho:ObR K w.heap G g (.sb T bs))
  {t u ty:TypeId} {i:TypeInfo} {z:Value} (ht:P.underlying t=some (.slice T)) {d:TypeDesc} (hu:P.underlying u=some d) (hd:(∃k,d=.slice k)∨d=.string) (hi:P.info? T=some i) (hsz:i.size=1) (hz:i.zero=some z) (hzs:z.cells.size=1)
  {x:Value} {bs':List UInt8} (hx:nk P w i.size x bs'.length (bs'.map nJ)) (hlim:(bs++bs').length<=eh) (hby:(bs++bs').length*i.bytes<=140737488355328) :
  ∃sv w' g1,(Builtin.append_ #[t,u] ty #[g.sv,x]).run P w=.ok sv w'/\g1.sv=sv/\(∃a n c,sv=.slice a n c)/\w'.os=w.os/\Tp w w'/\w'.output=w.output/\w.heap.size<=w'.heap.size /\
   (∀i,i<w.heap.size->¬ own g i->w'.heap[i]?=w.heap[i]?)/\(∀b,own g1 b->b<w'.heap.size/\(own g b∨w.heap.size<=b))/\ObR K w'.heap (G.set o g1) g1 (.sb T (bs++bs')):=by
 have hl63:bs.length+bs'.length<=9223372036854775807:=by simp only[length_append,eh]at hlim;omega
 have hlm:bs.length+bs'.length<=maxLen:=by simp only[maxLen];omega
 have h1:∀u∈bs'.map nJ,u.oneCell'=true:=by
  intro u hu;obtain⟨y,_,rfl⟩:=mem_map.1 hu;rfl
 obtain⟨hlr,hh⟩:=ho
 -- where it grows
 have grown:∀(base:Option Addr) (cap:Nat),g.sv=.slice base bs.length cap->nk P w i.size g.sv bs.length (bs.map nJ)->cap<bs.length+bs'.length ->
   ∃sv w' g1,(Builtin.append_ #[t,u] ty #[g.sv,x]).run P w=.ok sv w'/\g1.sv=sv/\(∃a n c,sv=.slice a n c)/\w'.os=w.os/\Tp w w'/\w'.output=w.output/\w.heap.size<=w'.heap.size /\
    (∀i,i<w.heap.size->¬ own g i->w'.heap[i]?=w.heap[i]?)/\(∀b,own g1 b->b<w'.heap.size/\(own g b∨w.heap.size<=b))/\ObR K w'.heap (G.set o g1) g1 (.sb T (bs++bs')):=by
  intro base cap hsv hsrc hlt;have hfit:=growslice_fits (bytes:=i.bytes) hlt (by simpa using hby);rw[hsv]at hsrc;have hrun:=IG (P:=P) w (ty:=ty) ht hu hd hi hz hsrc hx hlt hl63 hfit;have hge:=grownCap_ge w (bs.length+bs'.length) cap T;have hcm:=grownCap_le_maxLen w (bs.length+bs'.length) cap T hlm;refine⟨_,w.drew.alloc (.cells ((bs.map nJ).toArray++(bs'.map nJ).toArray++Builtin.zeroCells z.cells (grownCap w (bs.length+bs'.length) cap T-(bs.length+bs'.length))) T),⟨some w.heap.size,.slice (some ⟨w.heap.size,0,none⟩) (bs.length+bs'.length) (grownCap w (bs.length+bs'.length) cap T),[]⟩,by rw[hsv];exact hrun,rfl,⟨_,_,_,rfl⟩,rfl,⟨rfl,fun _=>Nat.le_succ _⟩,rfl,by simp,fun k hk _=>heap_alloc_old w.drew _ hk,fun b hb=>?_,?_⟩
  .obtain rfl:=yA hb;exact⟨by simp,.inr (Nat.le_refl _)⟩
  .refine⟨hlim,.inr ⟨w.heap.size,_,_,(0,0),by rw[length_append],rfl,heap_alloc_new w.drew _,.inl rfl,by rw[length_append];exact hge,by omega,hcm,?_,?_⟩⟩
   .simp only[Array.size_append,size_toArray,size_zeroCells,hzs,length_map]
    omega
   .simp only[Array.toList_append,append_assoc]
    rw[<-append_assoc,map_append];exact take_left' (by simp)
 rcases hh with⟨hsv,hr0,hgb⟩|⟨b,cap,cur,fr,hsv,hgb,hb,hfr,hle,hc0,hcap,hcs,htake⟩
 .subst hr0
  rcases Nat.eq_zero_or_pos bs'.length with h0|hp
  .have hr0:bs'=[]:=length_eq_zero_iff.1 h0
   subst hr0;refine⟨.slice none 0 0,w,g,by rw[hsv];exact Ds (P:=P) w ht hu hd hi hx none,hsv,⟨_,_,_,rfl⟩,rfl,⟨rfl,fun _=>Nat.le_refl _⟩,rfl,Nat.le_refl _,fun _ _ _=>rfl,fun b hb=>⟨(hS.gbo o g b hg hb).1,.inl hb⟩,?_⟩;exact⟨by simp,.inl ⟨hsv,rfl,hgb⟩⟩
  .have hsrc:nk P w i.size g.sv 0 []:=by
    rw[hsv];exact⟨fun _=>rfl,fun _ _=>by simp[Builtin.firstCells],by simp⟩
   exact grown none 0 (by simpa using hsv) (by simpa using hsrc) (by simpa using hp)
 .by_cases hroom:bs.length+bs'.length<=cap
  .have hfit:bs.length*i.size+(bs'.map nJ).length<=cur.size:=by rw[hsz,hcs];simpa using hroom
   have hfr':∀j,bs.length*i.size<=j->j<cur.size->¬ (fr.1<=j/\j<fr.2):=by
    intro j hj _ ⟨h1,h2⟩;rw[hsz]at hj
    rcases hfr with h|⟨h,h'⟩ <;> omega
   have hrun:=Ks (P:=P) w (ty:=ty) ht hu hd hi hb hfr' hx h1 hroom hfit;refine⟨_,w.setRow b (eP cur.toList (bs.length*i.size) (bs'.map nJ)).toArray,⟨some b,.slice (some ⟨b,0,none⟩) (bs.length+bs'.length) cap,[]⟩,by rw[hsv];exact hrun,rfl,⟨_,_,_,rfl⟩,rfl,⟨rfl,fun _=>Nat.le_refl _⟩,rfl,by simp,fun k _ hk=>setRow_other w b k _ (fun e=>hk (.inl (by rw[hgb,e]))),fun b' hb'=>?_,?_⟩
   .obtain rfl:=yA hb'
    exact⟨by rw[setRow_size];exact(hS.gb o g _ hg hgb).1,.inl (.inl hgb)⟩
   .have hcl:(eP cur.toList (bs.length*i.size) (bs'.map nJ)).length=cur.size:=by rw[B4 _ _ _ (by simpa using hfit)];simp
    refine⟨hlim,.inr ⟨b,cap,_,fr,by rw[length_append],rfl,setRow_heap w b cur _ T fr hb,?_,by rw[length_append];exact hroom,hc0,hcap,?_,?_⟩⟩
    .rcases hfr with h|⟨h,h'⟩
     .exact .inl h
     .exact .inr ⟨h,by rw[length_append];omega⟩
    .simp only[size_toArray,hcl];exact hcs
    .simp only
     have hl2:(cur.toList.take (bs.length*i.size)++bs'.map nJ).length=(bs++bs').length:=by
      rw[hsz,Nat.mul_one,htake];simp
     rw[rG _ _ _ (by simpa using hfit),<-hl2,take_left,hsz,Nat.mul_one,htake,map_append]
  .refine grown (some ⟨b,0,none⟩) cap hsv ?_ (by omega)
   rw[hsv];refine⟨fun _=>rfl,fun w' hw'=>?_,by rw[hsz];simp⟩;refine run_firstCells_some (P:=P) w' i.size bs.length _ _ _ (bs.map nJ) (by rw[hsz];simp) (fun j v hj=>?_);rw[lc,cell_of_row w' b (0+j) cur T fr (by rw[hw'];exact hb),Nat.zero_add];rw[<-htake,getElem?_take]at hj;split at hj
   .rw[<-Array.getElem?_toList];exact hj
   .cases hj
end

structure Ev where
 v:Va
 E:dY
 H:List Ob
 ok:Prop
def eN:Ev:=⟨.top,[],[],False⟩

def fF(f:Nat->Bool):dY->dY
 |[]=>[]
 |(k,v)::E=>(k,v.prune f)::fF f E
def fc(f:Nat->Bool):List Ob->List Ob
 |[]=>[]
 |x::H=>x.prune f::fc f H
theorem nH(f:Nat->Bool):∀H:List Ob,fc f H=H.map (Ob.prune f)
 |[]=>rfl
 |x::H=>by simp[fc,nH f H]
theorem qh(f:Nat->Bool):∀(E:dY) (m:Nat),eC (fF f E) m=(eC E m).prune f
 |[],m=>by simp[fF,eC,Va.prune]
 |(k,v)::E,m=>by
  simp only[fF,eC];split
  .rfl
  .exact qh f E m

def eK:List Va->Option (List Dt)
 |[]=>some []
 |.p d::l=>match eK l with
  |some ds=>some (d::ds)
  |none=>none
 |.nils::l=>match eK l with
  |some ds=>some (.l []::ds)
  |none=>none
 |.full rows::l=>match eK l with
  |some ds=>some (.l rows::ds)
  |none=>none
 |_::_=>none
def g5:List Dt->Nat->List Dt->List Dt
 |l,0,xs=>xs++l.drop xs.length
 |x::l,n+1,xs=>x::g5 l n xs
 |[],_+1,_=>[]
def xD(esz:Nat):List (List Dt)->List (Nat×Va)->Option (List (List Dt))
 |rows,[]=>some rows
 |rows,(i,v)::rest=>match eK (gL v)with
  |some ds=>if v.isCell=true/\ds.length=esz/\i<rows.length then xD esz (rows.set i ds) rest else none
  |none=>none

def uS(k:IntKind):List Value->Bool
 |[]=>true
 |.int k' n::l=>decide (k'=k)&&decide (n=0)&&uS k l
 |_::_=>false
def uL(P:Program)(ti:Ti):Option (IntKind×Nat):=match ti.kind with
 |.arr n e _ false=>match z7 P e with
  |.int k=>bif decide (8<n)then some (k,n)else none
  |_=>none
 |_=>none
def xv(P:Program)(E:dY)(H:List Ob)(t:TypeId):Ev:=match ej P t with
 |some ti=>match uL P ti with
  |some (k,n)=>⟨.ptr H.length 0,E,H++[.buf t 1 (List.replicate n [.i k 0])],uS k ti.zero=true/\ti.zero.length=n/\n<=eh⟩
  |none=>⟨.ptr H.length 0,E,H++[.cells t (ti.zero.map cv)],nC ti.zero⟩
 |none=>eN
def m7(E:dY)(H:List Ob)(t:TypeId)(x:Operand):Ev:=⟨.ptr H.length 0,E,H++[.cells t (gL (opnd E x))],opOk true E x/\(opnd E x).isCell=true⟩
def tf(P:Program)(e:TypeId)(n:Nat):Bool:=match z7 P e with
 |.int .u8=>decide (3<n)
 |_=>false
def ol:Va->Bool
 |.agg _=>true
 |_=>false
def qD:Nat->List (Nat×Va)->Option (List Va)
 |_,[]=>some []
 |i,(j,v)::r=>bif decide (j=i)&&(v.isCell&&!ol v)then(match qD (i+1) r with
  |some vs=>some (v::vs)
  |none=>none)else none
def EH(P:Program)(t:TypeId):Bool:=match z7 P t with
 |.ptr _=>true
 |_=>false
def gY(P:Program)(E:dY)(H:List Ob)(t:TypeId)(n:Nat)(ps:List (Nat×Operand)):Ev:=match z7 P t with
 |.slice e esz _ ez=>match qD 0 (partsV E ps)with
  |some vs=>⟨.cs H.length n,E,H++[.cells e vs],partsOk true E ps/\ez.length=esz/\esz=1/\0<n/\n*esz<=16777216/\vs.length=n⟩
  |none=>eN
 |_=>eN
def wt(P:Program)(t:TypeId):Bool:=match z7 P t with
 |.slice e _ _ _=>EH P e
 |_=>false
def m5(P:Program)(E:dY)(H:List Ob)(t:TypeId)(n:Nat)(ps:List (Nat×Operand)):Ev:=bif wt P t then gY P E H t n ps else match z7 P t with
 |.slice e esz _ ez=>match eK (ez.map cv)with
  |some z=>match xD esz (List.replicate n z) (partsV E ps)with
   |some rows=>bif tf P e n then⟨.buf H.length,E,H++[.buf e esz rows],partsOk true E ps/\nC ez/\ez.length=esz/\0<esz/\n*esz<=16777216/\n<=eh⟩else⟨.full rows,E,H,partsOk true E ps/\nC ez/\ez.length=esz/\0<esz/\n*esz<=16777216/\n<=eh⟩
   |none=>eN
  |none=>eN
 |_=>eN
def Bq(sz:Nat)(row:List Dt)(off:Nat)(ds:List Dt):List Dt:=bif off == 0&&ds.length == sz then ds else g5 row off ds
theorem J5:∀{row ds:List Dt},ds.length=row.length->g5 row 0 ds=ds
 |[],[],_=>by simp[g5]
 |x::row,d::ds,h=>by
  have:=J5 (row:=row) (ds:=ds) (by simpa using h);simp[g5]at this|-
  first|exact this|simp_all
 |[],_::_,h=>by simp at h
 |_::_,[],h=>by simp at h
theorem HR{sz:Nat}{row ds:List Dt}{off:Nat}(h:row.length=sz):Bq sz row off ds=g5 row off ds:=by
 unfold Bq;cases hc:(off == 0&&ds.length == sz)
 .rfl
 .simp only[Bool.and_eq_true,beq_iff_eq]at hc
  obtain⟨rfl,h2⟩:=hc
  rw[J5 (by omega)];rfl
def xt(P:Program)(E:dY)(H:List Ob)(t:TypeId)(x y:Va):Ev:=match ej P t with
 |some ti=>match x with
  |.ptr o off=>match ed H o with
   |.cells T vs=>⟨.top,E,H.set o (.cells T (setR vs off (gL y))),y.isCell=true/\rO (gL y)/\(gL y).length=ti.size/\off+(gL y).length<=vs.length⟩
   |_=>eN
  |.el o sz i off=>match qc H o with
   |some (T,sz',rows,fx)=>match eK (gL y)with
    |some ds=>⟨.top,E,H.set o (tm fx T sz' (rows.set i (Bq sz (rows.getD i []) off ds))),y.isCell=true/\rO (gL y)/\ds.length=ti.size/\sz=sz'/\i<rows.length/\off+ds.length<=sz⟩
    |none=>eN
   |none=>eN
  |_=>eN
 |none=>eN
def gQ(P:Program)(E:dY)(H:List Ob)(s d:TypeId)(o:Nat):Ev:=match z7 P s,z7 P d,ed H o with
 |.slice _ _ _ _,.slice e _ _ _,.buf _ _ rows=>match z7 P e with
  |.int .u8=>⟨.buf o,E,H,s=d/\0<rows.length⟩
  |_=>eN
 |_,_,_=>eN
def xy(P:Program)(E:dY)(H:List Ob)(s d:TypeId)(x:Va):Ev:=match z7 P s,z7 P d,x with
 |.str,.slice e esz _ _,.p (.s l)=>match z7 P e with
  |.int .u8=>⟨.buf H.length,E,H++[.buf e 1 (bR l)],esz=1⟩
  |_=>eN
 |_,_,_=>eN
def xw(P:Program)(E:dY)(H:List Ob)(s d:TypeId)(x:Va):Ev:=match x with
 |.buf o=>gQ P E H s d o
 |x=>xy P E H s d x
def gT(P:Program)(E:dY)(H:List Ob)(t:TypeId)(l c:Va):Ev:=match z7 P t with
 |.slice e esz eb ez=>match eK (ez.map cv),l,c with
  |some z,.p (.i _ n),.p (.i _ m)=>⟨.buf H.length,E,H++[.buf e esz (List.replicate n.toNat z)],nC ez/\ez.length=esz/\0<esz/\0<=n/\n<=m/\m<=eh/\eb<=512⟩
  |_,_,_=>eN
 |_=>eN
def BB(H:List Ob):Va->Option (List (List Dt))
 |.p (.s l)=>some (bR l)
 |x=>ym H x
def rM(P:Program)(u:TypeId)(esz:Nat)(e:TypeId)(x:Va)(rows:List (List Dt)):Prop:=match x with
 |.p (.s _)=>z7 P u=.str/\esz=1/\z7 P e=.int .u8
 |_=>eT esz rows/\match z7 P u with
  |.slice _ _ _ _=>True
  |_=>False
def iE:List (List Dt)->Nat->Prop
 |[],_=>True
 |_::_,n=>0<n
def yg:Va->Bool
 |.full _=>true
 |_=>false
def A3(P:Program)(e:TypeId)(x:Va):Bool:=match z7 P e with
 |.int .i64=>yg x
 |_=>false
def nb(P:Program)(kp:Nat->Bool)(E:dY)(H:List Ob)(t u:TypeId)(dst x:Va):Ev:=match z7 P t with
 |.slice e esz eb ez=>match BB H x with
  |some rows'=>match dst with
   |.buf o=>match ed H o with
    |.buf T sz rows=>⟨.buf o,fF (· != o) E,(fc (· != o) H).set o (.buf T sz (rows++rows')),kp o=false/\T=e/\sz=esz/\ez.length=esz/\eb<=512/\(rows++rows').length<=eh/\rM P u esz e x rows'⟩
    |.sb T bs=>⟨.buf o,fF (· != o) E,(fc (· != o) H).set o (.sb T (bs++gf rows')),kp o=false/\T=e/\esz=1/\ez.length=1/\eb<=512/\(bs++gf rows').length<=eh/\fm rows'/\rM P u 1 e x rows'⟩
    |_=>eN
   |.nils=>⟨.buf H.length,E,H++[.buf e esz rows'],kp H.length=false/\ez.length=esz/\eb<=512/\rows'.length<=eh/\rM P u esz e x rows'⟩
   |.full rows=>match A3 P e x with
    |true=>⟨.p (.l (rows++rows')),E,H,ez.length=esz/\eb<=512/\(rows++rows').length<=eh/\eT esz rows/\iE rows rows'.length/\rM P u esz e x rows'⟩
    |false=>⟨.buf H.length,E,H++[.buf e esz (rows++rows')],kp H.length=false/\ez.length=esz/\eb<=512/\(rows++rows').length<=eh/\eT esz rows/\iE rows rows'.length/\rM P u esz e x rows'⟩
   |_=>eN
  |none=>eN
 |_=>eN

def Bj:Va->Bool
 |.agg _=>true
 |_=>false
def l6(P:Program)(E:dY)(H:List Ob)(t:TypeId):Ev:=match z7 P t with
 |.map _ et=>⟨.mp H.length,E,H++[.mp (oM P et) []],True⟩
 |_=>eN
def i5(P:Program)(E:dY)(H:List Ob)(t:TypeId)(m k v:Va):Ev:=match z7 P t,m,mi k with
 |.map kt _,.mp o,some d=>match ed H o with
  |.mp ag es=>match eK (gL v)with
   |some row=>⟨.top,E,H.set o (.mp ag (fq es d row)),ik (i6 P kt) es/\iX (i6 P kt) d/\v.isCell=true/\Bj v=ag/\(ag=false->row.length=1)/\(fq es d row).length<=eh⟩
   |none=>eN
  |_=>eN
 |_,_,_=>eN
def mR(P:Program)(E:dY)(H:List Ob)(t _u:TypeId)(m k:Va):Ev:=match z7 P t,m,mi k with
 |.map kt _,.mp o,some d=>match ed H o with
  |.mp ag es=>⟨.top,E,H.set o (.mp ag (ij es d)),ik (i6 P kt) es/\iX (i6 P kt) d⟩
  |.mpb ag es bs cl=>⟨.top,E,H.set o (.mpb ag (ij es d) (m8 es bs d) cl),ik (i6 P kt) es/\iX (i6 P kt) d⟩
  |_=>eN
 |_,_,_=>eN
def EE(H:List Ob):Va->Pv
 |.buf o=>match ed H o with
  |.sb _ _=>⟨.sd o,True⟩
  |_=>ew
 |_=>ew
def Lt(P:Program)(t T:TypeId):Bool:=match P.underlying t with
 |some (.pointer e)=>decide (e=T)&&decide (P.cellsOf T=1)
 |_=>false
def D9(P:Program)(H:List Ob)(t:TypeId):Va->Va->Pv
 |.sd o,.p (.i k n)=>match ed H o with
  |.sb T bs=>⟨.p (.s bs),Lt P t T=true/\k=.i64/\n=bs.length⟩
  |_=>ew
 |_,_=>ew
def jV(P:Program)(kp:Nat->Bool)(E:dY)(H:List Ob):Op->Ev
 |.alloc t=>xv P E H t
 |.box t x=>m7 E H t x
 |.buildSlice t n ps=>m5 P E H t n ps.toList
 |.store t x y=>let r:=xt P E H t (opnd E x) (opnd E y);⟨r.v,r.E,r.H,opOk true E x/\opOk true E y/\r.ok⟩
 |.convert s d x=>let r:=xw P E H s d (opnd E x);⟨r.v,r.E,r.H,opOk true E x/\r.ok⟩
 |.makeSlice t l c=>let r:=gT P E H t (opnd E l) (opnd E c);⟨r.v,r.E,r.H,opOk true E l/\opOk true E c/\r.ok⟩
 |.call c=>match c.callee,c.args.toList,c.argTypes.toList with
  |.builtin .append,[x,y],[t,u]=>let r:=nb P kp E H t u (opnd E x) (opnd E y);⟨r.v,r.E,r.H,opOk true E x/\opOk true E y/\r.ok⟩
  |.builtin .unsafeSliceData,[x],_=>let r:=EE H (opnd E x);⟨r.v,E,H,opOk true E x/\r.ok⟩
  |.builtin .unsafeString,[x,y],[t,_]=>let r:=D9 P H t (opnd E x) (opnd E y);⟨r.v,E,H,opOk true E x/\opOk true E y/\r.ok⟩
  |.builtin .delete,[x,y],[t,u]=>let r:=mR P E H t u (opnd E x) (opnd E y);⟨r.v,r.E,r.H,opOk true E x/\opOk true E y/\r.ok⟩
  |_,_,_=>eN
 |.makeMap t r=>match r with
  |none=>l6 P E H t
  |some _=>eN
 |.mapUpdate t m k x=>let r:=i5 P E H t (opnd E m) (opnd E k) (opnd E x);⟨r.v,r.E,r.H,opOk true E m/\opOk true E k/\opOk true E x/\r.ok⟩
 |.insert t m k x=>let r:=i5 P E H t (opnd E m) (opnd E k) (opnd E x);⟨r.v,r.E,r.H,opOk true E m/\opOk true E k/\opOk true E x/\r.ok⟩
 |_=>eN

section
variable {K:Nat->Prop} {h:Array Obj} {G:List Gh}
theorem lj:∀{cs:List Value} {vs:List Va} {ds:List Dt},VRs K h G cs vs->eK vs=some ds->DRs K h cs ds
 |cs,[],ds,H,hp=>by simp only[eK]at hp;cases hp;simpa [VRs,DRs]using H
 |cs,.p d::vs,ds,H,hp=>by
  simp only[eK]at hp;split at hp
  .rename_i ds' hd
   cases hp;simp only[VRs,VR]at H;obtain⟨c,cs',rfl,h2,h3⟩:=H;simp only[DRs];exact⟨c,cs',rfl,h2,lj h3 hd⟩
  .cases hp
 |cs,.nils::vs,ds,H,hp=>by
  simp only[eK]at hp;split at hp
  .rename_i ds' hd
   cases hp;simp only[VRs,VR]at H;obtain⟨c,cs',rfl,h2,h3⟩:=H;simp only[DRs,DR];exact⟨c,cs',rfl,.inl ⟨⟨none,h2⟩,trivial⟩,lj h3 hd⟩
  .cases hp
 |cs,.full rows::vs,ds,H,hp=>by
  simp only[eK]at hp;split at hp
  .rename_i ds' hd
   cases hp;simp only[VRs,VR]at H;obtain⟨c,cs',rfl,h2,h3⟩:=H;simp only[DRs];exact⟨c,cs',rfl,h2.1,lj h3 hd⟩
  .cases hp
 |cs,.rp _::_,_,_,hp=>by simp[eK]at hp
 |cs,.ptr _ _::_,_,_,hp=>by simp[eK]at hp
 |cs,.cs _ _::_,_,_,hp=>by simp[eK]at hp
 |cs,.el _ _ _ _::_,_,_,hp=>by simp[eK]at hp
 |cs,.buf _::_,_,_,hp=>by simp[eK]at hp
 |cs,.mp _::_,_,_,hp=>by simp[eK]at hp
 |cs,.np _::_,_,_,hp=>by simp[eK]at hp
 |cs,.sd _::_,_,_,hp=>by simp[eK]at hp
 |cs,.vw _ _ _ _::_,_,_,hp=>by simp[eK]at hp
 |cs,.bufc _ _::_,_,_,hp=>by simp[eK]at hp
 |cs,.fn _ _::_,_,_,hp=>by simp[eK]at hp
 |cs,.agg _::_,_,_,hp=>by simp[eK]at hp
 |cs,.tup _::_,_,_,hp=>by simp[eK]at hp
 |cs,.nil::_,_,_,hp=>by simp[eK]at hp
 |cs,.cnd _ _::_,_,_,hp=>by simp[eK]at hp
 |cs,.raw _::_,_,_,hp=>by simp[eK]at hp
 |cs,.er _::_,_,_,hp=>by simp[eK]at hp
 |cs,.top::_,_,_,hp=>by simp[eK]at hp
theorem DR.one{c:Value}{d:Dt}(hc:DR K h c d):c.oneCell'=true:=VR.one (G:=[]) (v:=.p d) (by simpa only[VR]using hc) (by cases d <;> first|rfl|(simp[DR]at hc)) (by simp)
theorem DRs.ones:∀{cs:List Value} {ds:List Dt},DRs K h cs ds->∀c∈cs,c.oneCell'=true
 |cs,[],H=>by simp only[DRs]at H;subst H;simp
 |cs,d::ds,H=>by
  simp only[DRs]at H;obtain⟨v,vs',rfl,h2,h3⟩:=H;intro c hc
  rcases mem_cons.1 hc with rfl|hm
  .exact h2.one
  .exact h3.ones c hm
theorem DRss.ones{sz:Nat}:∀{cs:List Value} {rs:List (List Dt)},DRss K h sz cs rs->∀c∈cs,c.oneCell'=true
 |cs,[],H=>by simp only[DRss]at H;subst H;simp
 |cs,r::rs,H=>by
  simp only[DRss]at H;obtain⟨a,b,rfl,_,h3,h4⟩:=H;intro c hc
  rcases mem_append.1 hc with hm|hm
  .exact h3.ones c hm
  .exact h4.ones c hm
theorem DRs.setR:∀{cs:List Value} {ds:List Dt},DRs K h cs ds->∀(n:Nat) {es:List Value} {us:List Dt},DRs K h es us->n+us.length<=ds.length->DRs K h (eP cs n es) (g5 ds n us)
 |cs,ds,H,0,es,us,H',_=>by
  simp only[eP,g5];rw[H'.length];exact H'.append (H.drop _)
 |cs,d::ds,H,n+1,es,us,H',hl=>by
  simp only[DRs]at H;obtain⟨c,cs',rfl,h2,h3⟩:=H;simp only[eP,g5,DRs];exact⟨c,_,rfl,h2,DRs.setR h3 n H' (by simp at hl;omega)⟩
 |cs,[],H,n+1,es,us,H',hl=>by simp at hl
theorem BI{K:Nat->Prop}{h:Array Obj}{sz:Nat}:∀{xs:List Value} {rs:List (List Dt)},DRss K h sz xs rs->∀x∈rs,x.length=sz
 |_,[],_,x,hx=>by cases hx
 |_,r::rs,hd,x,hx=>by
  simp only[DRss]at hd;obtain⟨_,_,_,h1,_,h3⟩:=hd
  rcases mem_cons.1 hx with rfl|hx
  .exact h1
  .exact BI h3 x hx
theorem Ku:∀(l:List Dt) (n:Nat) (xs:List Dt),n+xs.length<=l.length->(g5 l n xs).length=l.length
 |l,0,xs,h=>by simp[g5];omega
 |x::l,n+1,xs,h=>by simp only[g5,length_cons]at *;rw[Ku l n xs (by omega)]
 |[],n+1,xs,h=>by simp at h
theorem DRss.set{sz:Nat}:∀{cs:List Value} {rs:List (List Dt)},DRss K h sz cs rs->∀(i off:Nat) {es:List Value} {us:List Dt},DRs K h es us->i<rs.length->off+us.length<=sz ->
  DRss K h sz (eP cs (i*sz+off) es) (rs.set i (g5 (rs.getD i []) off us))
 |cs,[],H,i,off,es,us,_,hi,_=>by simp at hi
 |cs,r::rs,H,0,off,es,us,H',hi,hl=>by
  simp only[DRss]at H;obtain⟨a,b,rfl,h2,h3,h4⟩:=H;have hal:=h3.length;have hel:=H'.length;simp only[Nat.zero_mul,Nat.zero_add,set_cons_zero,getD_cons_zero,DRss];refine⟨eP a off es,b,?_,?_,h3.setR off H' (by omega),h4⟩
  .rw[rG _ _ _ (by simp;omega),rG _ _ _ (by omega),take_append_of_le_length (by omega),drop_append_of_le_length (by omega)]
   simp
  .rw[Ku _ _ _ (by omega),h2]
 |cs,r::rs,H,i+1,off,es,us,H',hi,hl=>by
  simp only[DRss]at H;obtain⟨a,b,rfl,h2,h3,h4⟩:=H;have hal:=h3.length;have hel:=H'.length;have ih:=DRss.set h4 i off H' (by simpa using hi) hl;have hbl:=h4.length
  have hile:i*sz+off+es.length<=b.length:=by
   rw[hbl,hel];have:(i+1)*sz<=rs.length*sz:=Nat.mul_le_mul_right _ (by simp at hi;omega);rw[Nat.add_mul]at this;omega
  simp only[set_cons_succ,getD_cons_succ,DRss];refine⟨a,_,?_,h2,h3,ih⟩
  have e:(i+1)*sz+off=a.length+(i*sz+off):=by rw[Nat.add_mul];omega
  rw[e,rG _ _ _ (by simp;omega),rG _ _ _ hile];rw[take_append,take_of_length_le (by omega),show a.length+(i*sz+off)-a.length=i*sz+off by omega];rw[drop_append,drop_eq_nil_of_le (by omega),show a.length+(i*sz+off)+es.length-a.length=i*sz+off+es.length by omega];simp
theorem DRss.replicate{z:List Dt}{zs:List Value}(hz:DRs K h zs z):∀n:Nat,DRss K h z.length (List.replicate n zs).flatten (List.replicate n z)
 |0=>by simp[DRss]
 |n+1=>by
  simp only[replicate_succ,DRss,flatten_cons];exact⟨zs,_,rfl,trivial,hz,DRss.replicate hz n⟩
end

def fW(C:Cx)(o:Oper)(a:Act)(w:World)(v:Va)(E:dY)(H:List Ob):Prop :=
 ∃c w',((execOp a.eval o).run C.P w=.ok (.value c) w'∨((execOp a.eval o).run C.P w=.ok .skip w'/\c=undef))/\RelV C E H c v a w'

theorem qg{P:Program}{s:Sem Value}{c:Value}{w w':World}(h:s.run P w=.ok c w'):(do pure (.value (<-s)):Sem Next).run P w=.ok (.value c) w':=by simp[h]
theorem CN{P:Program}{s:Sem Unit}{w w':World}(h:s.run P w=.ok () w'):(do s;pure .skip:Sem Next).run P w=.ok .skip w':=by simp[h]
theorem Mn.alloc{K:Nat->Prop}{w:World}(hK:∀b,K b->b<w.heap.size)(o:Obj):Mn K K w.heap (w.alloc o).heap:=⟨fun _ h=>h,fun b hb=>heap_alloc_old w o (hK b hb)⟩
theorem Free.zero(n:Nat):Free (0,0) n:=.inl rfl

section
variable {C:Cx} {E:dY} {H:List Ob} {a:Act} {w:World}

theorem Ia(hR:Rel C E H a w){cs:List Value}{vs:List Va}{T:TypeId}(hv:∀K G,ig K w.heap G a E->VRs K w.heap G cs vs) :
  RelV C E (H++[.cells T vs]) (.pointer (some ⟨w.heap.size,0,none⟩)) (.ptr H.length 0) a (w.alloc (.cells cs.toArray T)):=by
 obtain⟨K,G,hX,hS,hE,hd,hn,hk⟩:=hR;have hvs:=hv K G hE;have hM:=Mn.alloc hS.kb (.cells cs.toArray T)
 have hG:∀(o:Nat) (g:Gh),G[o]?=some g->(G++[⟨some w.heap.size,undef,[]⟩])[o]?=some g:=fun o g hg=>Mg.push G _ o g rfl hg
 refine⟨K,G++[⟨some w.heap.size,undef,[]⟩],hX.trans (Ext.push C.kp _ undef),hS.push (x:=.cells T vs) ?_,fun m=>VR.grow hM hG _ _ (hE m),hd,hn,fun o ho=>?_,?_⟩
 .exact⟨w.heap.size,cs,rfl,heap_alloc_new w _,VRs.grow hM hG _ _ hvs⟩
 .obtain⟨vs',hvs',hkt⟩:=hk o ho
  exact⟨vs',by rw[getElem?_append_left (List.getElem?_eq_some_iff.1 hvs').1];exact hvs',hkt⟩
 .simp only[VR]
  refine⟨⟨some w.heap.size,undef,[]⟩,w.heap.size,?_,rfl,rfl⟩;rw[<-hS.len,getElem?_append_right (Nat.le_refl _)];simp

theorem Ba(hR:Rel C E H a w)(o:Oper){t:TypeId}{x:Operand}(ho:o.op=.box t x)(hok:(m7 E H t x).ok):fW C o a w (m7 E H t x).v (m7 E H t x).E (m7 E H t x).H:=by
 obtain⟨h1,h2⟩:=hok;refine⟨_,_,.inl (by simp[execOp,ho,Instr.box,newVar,newRow];exact⟨rfl,rfl⟩),?_⟩;have:=Ia (T:=t) hR (cs:=(a.eval x).cells.toList) (vs:=gL (opnd E x)) (fun K G hE=>vO (zw hE rfl x h1) h2)
 simpa [m7]using this

theorem Ky{zs:List Value}{sz:Nat}(hz:zs.length=sz):∀(n j:Nat),j<n*sz->(List.replicate n zs).flatten[j]?=zs[j % sz]?
 |0,j,h=>by simp at h
 |n+1,j,h=>by
  simp only[replicate_succ,flatten_cons]
  rcases Nat.lt_or_ge j sz with h1|h1
  .rw[getElem?_append_left (by omega),Nat.mod_eq_of_lt h1]
  .rw[getElem?_append_right (by omega),hz,Ky hz n (j-sz) (by rw[Nat.add_mul]at h;omega),<-Nat.mod_eq_sub_mod h1]
theorem C0{z:Array Value}{sz:Nat}(hz:z.toList.length=sz)(h0:0<sz)(n:Nat):(madeCells z (n*sz)).toList=(List.replicate n z.toList).flatten:=by
 apply ext_getElem?;intro j
 rcases Nat.lt_or_ge j (n*sz)with h|h
 .rw[Ky hz n j h]
  have hm:j % sz<z.size:=by have:=Nat.mod_lt j h0;simp at hz;omega
  have hzs:z.size=sz:=by simpa using hz
  simp only[madeCells,Array.toList_map,Array.toList_range,getElem?_map,getElem?_range h,Option.map_some,hzs,Array.getElem?_toList];rw[Array.getElem?_eq_getElem hm,getElem!_pos z _ hm]
 .rw[getElem?_eq_none (by simp[madeCells,h]),getElem?_eq_none]
  have:∀n:Nat,((List.replicate n z.toList).flatten).length=n*sz:=by
   intro n
   induction n with
   |zero=>simp
   |succ n ih=>rw[replicate_succ,flatten_cons,length_append,ih,hz,Nat.add_mul];omega
  rw[this];exact h

theorem Ig{K:Nat->Prop}{h:Array Obj}{G:List Gh}{esz:Nat}:∀{parts:List (Nat×Va)} {ps:List (Nat×Value)} {rows:List (List Dt)} {cs:Array Value} {r:List (List Dt)},
  xD esz rows parts=some r->DRss K h esz cs.toList rows->(ps.map (·.1)=parts.map (·.1))->(∀(j:Nat) (c:Value) (v:Va),(ps[j]?.map fun x=>x.2)=some c->(parts[j]?.map fun x=>x.2)=some v->VR K h G c v) ->
  ∃cs',Instr.fill (fun i=>some (i*esz,esz)) cs ps=some cs'/\DRss K h esz cs'.toList r/\r.length=rows.length
 |[],ps,rows,cs,r,hf,hc,hp,_=>by
  simp only[xD]at hf;cases hf
  cases ps with
  |nil=>exact⟨cs,rfl,hc,rfl⟩
  |cons a b=>simp at hp
 |(i,v)::parts,ps,rows,cs,r,hf,hc,hp,hv=>by
  cases ps with
  |nil=>simp at hp
  |cons a ps =>
   obtain⟨i',c⟩:=a;simp only[map_cons,List.cons.injEq]at hp;obtain⟨rfl,hp⟩:=hp;simp only[xD]at hf;split at hf
   rotate_left
   .cases hf
   rename_i ds hds
   split at hf
   rotate_left
   .cases hf
   rename_i hcond
   obtain⟨hcell,hlen,hi⟩:=hcond;have hcv:=vO (hv 0 c v rfl rfl) hcell;have hdd:=lj hcv hds;have hcl:=hdd.length;have hrl:=hc.length;simp only[Array.length_toList]at hcl hrl;obtain⟨_,hrow⟩:=hc.get i' hi
   have hfit:i'*esz+c.cells.size<=cs.size:=by
    rw[hrl,hcl,hlen];have:(i'+1)*esz<=rows.length*esz:=Nat.mul_le_mul_right _ hi;rw[Nat.add_mul]at this;omega
   have hset:=hc.set i' 0 hdd hi (by omega)
   have he:g5 (rows.getD i' []) 0 ds=ds:=by simp only[g5];rw[drop_eq_nil_of_le (by omega)];simp
   rw[he,Nat.add_zero]at hset
   have hnext:DRss K h esz (c.cells.zipIdx.foldl (fun cs (c,j)=>cs.setIfInBounds (i'*esz+j) c) cs).toList (rows.set i' ds):=by
    have h1:=H3 (i'*esz) c.cells.toList 0 cs (by simp;omega);rw[<-Array.foldl_toList,Array.toList_zipIdx,h1];exact hset
   obtain⟨cs',h1,h2,h3⟩:=Ig hf hnext hp (fun j c v hj hj'=>hv (j+1) c v (by simpa using hj) (by simpa using hj'));refine⟨cs',?_,h2,by simpa using h3⟩;simp only[Instr.fill];rw[if_neg (by simp;omega)];exact h1
end
end Go.Vc
