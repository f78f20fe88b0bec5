/- An abstract machine for the model: what it computes on, its operations, the walk of a body, and that all of it is true of the model (part 1). -/
import Derived.LaidEqlPtr
import Derived.Laws.StructEq
import Derived.Lib.Builder
import Derived.Lib.ConvBytes
import Derived.Lib.UnsafeStr
import Derived.MapKept
import Derived.WalkKit
import Derived.WideKeyRuns
set_option linter.unusedSectionVars false
open List
namespace Go.Vc
inductive Dt where
 |b (x:Bool)
 |i (k:IntKind) (n:Int)
 |s (x:List UInt8)
 |l (rows:List (List Dt))
 |a (ds:List Dt)
inductive Va where
 |p (x:Dt)
 |nils
 |full (rows:List (List Dt))
 |rp (row:List Dt)
 |ptr (o off:Nat)
 |el (o sz i off:Nat)
 |buf (o:Nat)
 |mp (o:Nat)
 |np (o:Nat)
 |sd (o:Nat)
 |vw (o sz a n:Nat)
 |bufc (o cp:Nat)
 |cs (o n:Nat)
 |fn (f:FuncId) (caps:List Va)
 |agg (cs:List Va)
 |tup (vs:List Va)
 |nil
 |cnd (c:Bool) (v:Va)
 |raw (v:Value)
 |er (nil:Bool)
 |top
def dJ:Nat:=274877906944
theorem PV:dJ=274877906944:=rfl
def lo:IntKind->Int
 |.i8=>-128|.i16=>-32768|.i32=>-2147483648|.i64=>-9223372036854775808|_=>0
def hi:IntKind->Int
 |.i8=>127|.i16=>32767|.i32=>2147483647|.i64=>9223372036854775807
 |.u8=>255|.u16=>65535|.u32=>4294967295|.u64=>18446744073709551615
def Fits(k:IntKind)(n:Int):Prop:=lo k<=n/\n<=hi k
structure Gh where
 blk:Option Nat
 sv:Value
mutual
def DR(K:Nat->Prop)(h:Array Obj):Value->Dt->Prop
 |c,.b x=>c=.bool x
 |c,.i k n=>c=.int k n/\Fits k n
 |c,.s x=>c=.string ⟨x.toArray⟩/\x.length<=dJ
 |c,.l rows=>((∃a,c=.slice a 0 0)/\rows=[]) ∨
   ∃b off cap cs T fr sz vs,c=.slice (some ⟨b,off,none⟩) rows.length cap/\K b/\h[b]?=some (.cells cs T fr) /\
    rows.length<=cap/\rows.length<=dJ/\(∀j v,vs[j]?=some v->cs[off+j]?=some v)/\DRss K h sz vs rows
 |_,.a _=>False
def DRs(K:Nat->Prop)(h:Array Obj):List Value->List Dt->Prop
 |vs,[]=>vs=[]
 |vs,d::ds=>∃v vs',vs=v::vs'/\DR K h v d/\DRs K h vs' ds
def DRss(K:Nat->Prop)(h:Array Obj)(sz:Nat):List Value->List (List Dt)->Prop
 |vs,[]=>vs=[]
 |vs,r::rs=>∃a b,vs=a++b/\r.length=sz/\DRs K h a r/\DRss K h sz b rs
end
def Pm(c:Value)(blk:Option Nat)(ad:Option Addr)(N cap sz a n:Nat):Prop :=
 a+n<=N/\∃ad' cap',c=.slice ad' n cap'/\n<=cap'/\a+cap'<=cap/\(0<cap'->∃b,blk=some b/\ad=some ⟨b,0,none⟩/\ad'=some ⟨b,a*sz,none⟩)
mutual
def VR(K:Nat->Prop)(h:Array Obj)(G:List Gh):Value->Va->Prop
 |c,.p x=>DR K h c x
 |c,.nils=>c=.slice none 0 0
 |c,.full rows=>DR K h c (.l rows)/\∃a,c=.slice a rows.length rows.length
 |c,.rp row=>∃b off cs T fr vs,c=.pointer (some ⟨b,off,none⟩)/\K b/\h[b]?=some (.cells cs T fr) /\
   (∀j v,vs[j]?=some v->cs[off+j]?=some v)/\DRs K h vs row
 |c,.ptr o off=>∃g b,G[o]?=some g/\g.blk=some b/\c=.pointer (some ⟨b,off,none⟩)
 |c,.cs o n=>∃g b,G[o]?=some g/\g.blk=some b/\c=.slice (some ⟨b,0,none⟩) n n
 |c,.el o sz i off=>∃g b n cap,G[o]?=some g/\g.blk=some b/\g.sv=.slice (some ⟨b,0,none⟩) n cap/\c=.pointer (some ⟨b,i*sz+off,none⟩)
 |c,.buf o=>∃g,G[o]?=some g/\c=g.sv/\∃a n cap,g.sv=.slice a n cap
 |c,.mp o=>∃g b,G[o]?=some g/\g.blk=some b/\c=.map (some b)
 |c,.np o=>c=.pointer none∨∃g b,G[o]?=some g/\g.blk=some b/\c=.pointer (some ⟨b,0,none⟩)
 |c,.sd o=>∃g a n cap,G[o]?=some g/\g.sv=.slice a n cap/\c=.pointer a
 |c,.bufc o cp=>∃g a n cap,G[o]?=some g/\g.sv=.slice a n cap/\c=g.sv/\cap=cp
 |c,.vw o sz a n=>∃g ad N cap,G[o]?=some g/\g.sv=.slice ad N cap/\Pm c g.blk ad N cap sz a n
 |c,.fn f caps=>∃cs,c=.func (.func f) #[] cs.toArray/\VRs K h G cs caps
 |c,.agg vs=>∃cs,c=.agg cs.toArray/\VRs K h G cs vs
 |c,.tup vs=>∃cs,c=.tuple cs.toArray/\VRs K h G cs vs
 |c,.nil=>c=.pointer none
 |c,.cnd t v=>(t=true->VR K h G c v)/\(t=false->c=undef)
 |c,.raw v=>c=v
 |c,.er b=>(b=true/\c=.nilIface)∨(b=false/\∃t v,c=.iface t v)
 |_,.top=>True
def VRs(K:Nat->Prop)(h:Array Obj)(G:List Gh):List Value->List Va->Prop
 |cs,[]=>cs=[]
 |cs,v::vs=>∃c cs',cs=c::cs'/\VR K h G c v/\VRs K h G cs' vs
end
inductive Ob where
 |cells (T:TypeId) (vs:List Va)
 |buf (T:TypeId) (sz:Nat) (rows:List (List Dt))
 |fx (T:TypeId) (sz:Nat) (rows:List (List Dt))
 |sb (T:TypeId) (bs:List UInt8)
 |mp (ag:Bool) (es:List (Dt×List Dt))
 |mpb (ag:Bool) (es:List (Dt×List Dt)) (bs:List Nat) (cl:Nat)
 |it (o cl:Nat) (seen:List Nat)
 |gone
def Ob.kept:Ob->Bool
 |.cells _ _=>true
 |.mp _ _=>true
 |.mpb _ _ _ _=>true
 |.fx _ _ _=>true
 |_=>false
def KR(K:Nat->Prop)(h:Array Obj)(c:Value):Dt->Prop
 |.a ds=>∃cs:List Value,c=.agg cs.toArray/\DRs K h cs ds
 |.b x=>DR K h c (.b x)
 |.i k x=>DR K h c (.i k x)
 |.s x=>DR K h c (.s x)
 |.l x=>DR K h c (.l x)
def MRs(K:Nat->Prop)(h:Array Obj)(ag:Bool):List MapEntry->List (Dt×List Dt)->Prop
 |[],[]=>True
 |e::es,p::ps=>KR K h e.key p.1/\(match ag with
   |true=>∃cs:List Value,e.val=.agg cs.toArray/\DRs K h cs p.2
   |false=>∃d,p.2=[d]/\DR K h e.val d)/\MRs K h ag es ps
 |_,_=>False
def Free(fr:Nat×Nat)(n:Nat):Prop:=fr.1=fr.2∨n<=fr.1
theorem Free.out{fr:Nat×Nat}{n:Nat}(h:Free fr n):∀i,i<n->¬ (fr.1<=i/\i<fr.2):=by
 intro i hi hh
 rcases h with h|h <;> omega
def pK(fr:Nat×Nat)(n:Nat):Prop:=fr.1=fr.2∨(fr.1=0/\fr.2<=n)
def mN(b:UInt8):Value:=.int .u8 b.toNat
def ObR(K:Nat->Prop)(h:Array Obj)(G:List Gh)(g:Gh):Ob->Prop
 |.cells T vs=>∃b cs,g.blk=some b/\h[b]?=some (.cells cs.toArray T (0,0))/\VRs K h G cs vs
 |.buf T sz rows=>rows.length<=dJ/\∃xs,DRss K h sz xs rows /\
   (((∃a,g.sv=.slice a 0 0)/\rows=[]/\g.blk=none) ∨
    ∃b cap cur fr,g.sv=.slice (some ⟨b,0,none⟩) rows.length cap/\g.blk=some b/\h[b]?=some (.cells cur T fr)/\Free fr cur.size /\
     rows.length<=cap/\cap<=maxLen/\cur.size=cap*sz/\cur.toList.take (rows.length*sz)=xs)
 |.fx T sz rows=>rows.length<=dJ/\∃xs,DRss K h sz xs rows /\
   (((∃a,g.sv=.slice a 0 0)/\rows=[]/\g.blk=none) ∨
    ∃b cap cur fr,g.sv=.slice (some ⟨b,0,none⟩) rows.length cap/\g.blk=some b/\h[b]?=some (.cells cur T fr)/\Free fr cur.size /\
     rows.length<=cap/\cap<=maxLen/\cur.size=cap*sz/\cur.toList.take (rows.length*sz)=xs)
 |.sb T bs=>bs.length<=dJ /\
   ((g.sv=.slice none 0 0/\bs=[]/\g.blk=none) ∨
    ∃b cap cur fr,g.sv=.slice (some ⟨b,0,none⟩) bs.length cap/\g.blk=some b/\h[b]?=some (.cells cur T fr)/\pK fr bs.length /\
     bs.length<=cap/\0<cap/\cap<=maxLen/\cur.size=cap/\cur.toList.take bs.length=bs.map mN)
 |.mp ag es=>es.length<=dJ/\∃b mes clock,g.blk=some b/\h[b]?=some (.map mes clock)/\MRs K h ag mes.toList es/\MapKept.Stamped mes clock
 |.mpb ag es bs cl=>es.length<=dJ/\∃b mes,g.blk=some b/\h[b]?=some (.map mes cl)/\MRs K h ag mes.toList es/\MapKept.Stamped mes cl/\mes.toList.map (·.born)=bs
 |.it o cl seen=>∃b bm gm,g.blk=some b/\G[o]?=some gm/\gm.blk=some bm/\h[b]?=some (.mapIter (some bm) cl seen.toArray cl)
 |.gone=>True
structure Mn(K K':Nat->Prop)(h h':Array Obj):Prop where
 k:∀b,K b->K' b
 h:∀b,K b->h'[b]?=h[b]?
def Mg(f:Nat->Bool)(G G':List Gh):Prop:=∀(o:Nat) (g:Gh),f o=true->G[o]?=some g->G'[o]?=some g
section
variable {K K':Nat->Prop} {h h':Array Obj}
mutual
theorem DR.mono(M:Mn K K' h h'):∀(c:Value) (d:Dt),DR K h c d->DR K' h' c d
 |_,.b _,H=>by simpa [DR]using H
 |_,.i _ _,H=>by simpa [DR]using H
 |_,.s _,H=>by simpa [DR]using H
 |_,.l rows,H=>by
  unfold DR at *
  rcases H with H|⟨b,off,cap,cs,T,fr,sz,vs,h1,h2,h3,h4,h5,h6,h7⟩
  .exact .inl H
  .exact .inr ⟨b,off,cap,cs,T,fr,sz,vs,h1,M.k b h2,(M.h b h2).trans h3,h4,h5,h6,DRss.mono M sz vs rows h7⟩
 |_,.a ds,H=>by simp[DR]at H
theorem DRs.mono(M:Mn K K' h h'):∀(vs:List Value) (ds:List Dt),DRs K h vs ds->DRs K' h' vs ds
 |_,[],H=>by simpa [DRs]using H
 |_,d::ds,H=>by
  unfold DRs at *;obtain⟨v,vs',h1,h2,h3⟩:=H;exact⟨v,vs',h1,DR.mono M v d h2,DRs.mono M vs' ds h3⟩
theorem DRss.mono(M:Mn K K' h h')(sz:Nat):∀(vs:List Value) (rs:List (List Dt)),DRss K h sz vs rs->DRss K' h' sz vs rs
 |_,[],H=>by simpa [DRss]using H
 |_,r::rs,H=>by
  unfold DRss at *;obtain⟨a,b,h1,h2,h3,h4⟩:=H;exact⟨a,b,h1,h2,DRs.mono M a r h3,DRss.mono M sz b rs h4⟩
end
end
section
variable {K K':Nat->Prop} {h h':Array Obj}
theorem KR.mono(M:Mn K K' h h'){c:Value}:∀{d:Dt},KR K h c d->KR K' h' c d
 |.a ds,⟨cs,h1,h2⟩=>⟨cs,h1,DRs.mono M cs ds h2⟩
 |.b _,H=>DR.mono M _ _ H
 |.i _ _,H=>DR.mono M _ _ H
 |.s _,H=>DR.mono M _ _ H
 |.l _,H=>DR.mono M _ _ H
theorem MRs.mono(M:Mn K K' h h'){ag:Bool}:∀{mes:List MapEntry} {es:List (Dt×List Dt)},MRs K h ag mes es->MRs K' h' ag mes es
 |[],[],H=>H
 |e::mes,p::es,H=>by
  simp only[MRs]at *;refine⟨KR.mono M H.1,?_,MRs.mono M H.2.2⟩
  cases ag with
  |true=>obtain⟨cs,h1,h2⟩:=H.2.1;exact⟨cs,h1,DRs.mono M _ _ h2⟩
  |false=>obtain⟨d,h1,h2⟩:=H.2.1;exact⟨d,h1,DR.mono M _ _ h2⟩
 |[],_::_,H=>by simp[MRs]at H
 |_::_,[],H=>by simp[MRs]at H
end
-- every object that it names is of this kind
mutual
def Va.all(f:Nat->Bool):Va->Bool
 |.ptr o _|.cs o _|.el o _ _ _|.buf o|.mp o|.np o|.sd o|.vw o _ _ _|.bufc o _=>f o
 |.fn _ vs|.agg vs|.tup vs=>cq f vs
 |.cnd _ v=>v.all f
 |_=>true
def cq(f:Nat->Bool):List Va->Bool
 |[]=>true
 |v::vs=>v.all f&&cq f vs
end
-- what names an object of another kind is forgotten
mutual
def Va.prune(f:Nat->Bool):Va->Va
 |.ptr o off=>if f o then .ptr o off else .top
 |.cs o off=>if f o then .cs o off else .top
 |.el o sz i off=>if f o then .el o sz i off else .top
 |.buf o=>if f o then .buf o else .top
 |.mp o=>if f o then .mp o else .top
 |.np o=>if f o then .np o else .top
 |.sd o=>if f o then .sd o else .top
 |.vw o sz a n=>if f o then .vw o sz a n else .top
 |.bufc o cp=>if f o then .bufc o cp else .top
 |.fn g vs=>.fn g (cf f vs)
 |.agg vs=>.agg (cf f vs)
 |.tup vs=>.tup (cf f vs)
 |.cnd c v=>if v.all f then .cnd c v else .top
 |v=>v
def cf(f:Nat->Bool):List Va->List Va
 |[]=>[]
 |v::vs=>v.prune f::cf f vs
end
section
variable {K K':Nat->Prop} {h h':Array Obj} {f:Nat->Bool} {G G':List Gh}
mutual
theorem VR.prune(M:Mn K K' h h')(hG:Mg f G G'):∀(c:Value) (v:Va),VR K h G c v->VR K' h' G' c (v.prune f)
 |c,.p x,H=>by simp only[VR,Va.prune]at *;exact DR.mono M c x H
 |c,.nils,H=>by simpa [VR,Va.prune]using H
 |c,.full rows,H=>by
  simp only[VR,Va.prune]at *;exact⟨DR.mono M c _ H.1,H.2⟩
 |c,.rp row,H=>by
  simp only[VR,Va.prune]at *;obtain⟨b,off,cs,T,fr,vs,h1,h2,h3,h4,h5⟩:=H;exact⟨b,off,cs,T,fr,vs,h1,M.k b h2,(M.h b h2).trans h3,h4,DRs.mono M vs row h5⟩
 |c,.ptr o off,H=>by
  simp only[Va.prune];split
  .rename_i hf;simp only[VR]at *;obtain⟨g,b,h1,h2⟩:=H;exact⟨g,b,hG o g hf h1,h2⟩
  .simp[VR]
 |c,.cs o off,H=>by
  simp only[Va.prune];split
  .rename_i hf;simp only[VR]at *;obtain⟨g,b,h1,h2⟩:=H;exact⟨g,b,hG o g hf h1,h2⟩
  .simp[VR]
 |c,.el o sz i off,H=>by
  simp only[Va.prune];split
  .rename_i hf;simp only[VR]at *;obtain⟨g,b,n,cap,h1,h2⟩:=H;exact⟨g,b,n,cap,hG o g hf h1,h2⟩
  .simp[VR]
 |c,.buf o,H=>by
  simp only[Va.prune];split
  .rename_i hf;simp only[VR]at *;obtain⟨g,h1,h2⟩:=H;exact⟨g,hG o g hf h1,h2⟩
  .simp[VR]
 |c,.mp o,H=>by
  simp only[Va.prune];split
  .rename_i hf;simp only[VR]at *;obtain⟨g,b,h1,h2⟩:=H;exact⟨g,b,hG o g hf h1,h2⟩
  .simp[VR]
 |c,.np o,H=>by
  simp only[Va.prune];split
  .rename_i hf
   simp only[VR]at *
   rcases H with H|⟨g,b,h1,h2⟩
   .exact .inl H
   .exact .inr ⟨g,b,hG o g hf h1,h2⟩
  .simp[VR]
 |c,.sd o,H=>by
  simp only[Va.prune];split
  .rename_i hf;simp only[VR]at *;obtain⟨g,a,n,cap,h1,h2⟩:=H;exact⟨g,a,n,cap,hG o g hf h1,h2⟩
  .simp[VR]
 |c,.vw o _ _ _,H=>by
  simp only[Va.prune];split
  .rename_i hf;simp only[VR]at *;obtain⟨g,a,n,cap,h1,h2⟩:=H;exact⟨g,a,n,cap,hG o g hf h1,h2⟩
  .simp[VR]
 |c,.bufc o _,H=>by
  simp only[Va.prune];split
  .rename_i hf;simp only[VR]at *;obtain⟨g,a,n,cap,h1,h2⟩:=H;exact⟨g,a,n,cap,hG o g hf h1,h2⟩
  .simp[VR]
 |c,.fn g vs,H=>by
  simp only[VR,Va.prune]at *;obtain⟨cs,h1,h2⟩:=H;exact⟨cs,h1,VRs.prune M hG cs vs h2⟩
 |c,.agg vs,H=>by
  simp only[VR,Va.prune]at *;obtain⟨cs,h1,h2⟩:=H;exact⟨cs,h1,VRs.prune M hG cs vs h2⟩
 |c,.tup vs,H=>by
  simp only[VR,Va.prune]at *;obtain⟨cs,h1,h2⟩:=H;exact⟨cs,h1,VRs.prune M hG cs vs h2⟩
 |c,.nil,H=>by simpa [VR,Va.prune]using H
 |c,.cnd t v,H=>by
  simp only[Va.prune];split
  .rename_i hf
   simp only[VR]at *;exact⟨fun e=>VR.keep M hG c v hf (H.1 e),H.2⟩
  .simp[VR]
 |c,.raw v,H=>by simpa [VR,Va.prune]using H
 |c,.er v,H=>by simpa [VR,Va.prune]using H
 |c,.top,_=>by simp[VR,Va.prune]
theorem VRs.prune(M:Mn K K' h h')(hG:Mg f G G'):∀(cs:List Value) (vs:List Va),VRs K h G cs vs->VRs K' h' G' cs (cf f vs)
 |cs,[],H=>by simpa [VRs,cf]using H
 |cs,v::vs,H=>by
  simp only[VRs,cf]at *;obtain⟨c,cs',h1,h2,h3⟩:=H;exact⟨c,cs',h1,VR.prune M hG c v h2,VRs.prune M hG cs' vs h3⟩
theorem VR.keep(M:Mn K K' h h')(hG:Mg f G G'):∀(c:Value) (v:Va),v.all f=true->VR K h G c v->VR K' h' G' c v
 |c,.p x,_,H=>by simp only[VR]at *;exact DR.mono M c x H
 |c,.nils,_,H=>by simpa [VR]using H
 |c,.full rows,_,H=>by
  simp only[VR]at *;exact⟨DR.mono M c _ H.1,H.2⟩
 |c,.rp row,_,H=>by
  simp only[VR]at *;obtain⟨b,off,cs,T,fr,vs,h1,h2,h3,h4,h5⟩:=H;exact⟨b,off,cs,T,fr,vs,h1,M.k b h2,(M.h b h2).trans h3,h4,DRs.mono M vs row h5⟩
 |c,.ptr o off,ha,H=>by simp only[VR,Va.all]at *;obtain⟨g,b,h1,h2⟩:=H;exact⟨g,b,hG o g ha h1,h2⟩
 |c,.cs o off,ha,H=>by simp only[VR,Va.all]at *;obtain⟨g,b,h1,h2⟩:=H;exact⟨g,b,hG o g ha h1,h2⟩
 |c,.el o sz i off,ha,H=>by simp only[VR,Va.all]at *;obtain⟨g,b,n,cap,h1,h2⟩:=H;exact⟨g,b,n,cap,hG o g ha h1,h2⟩
 |c,.buf o,ha,H=>by simp only[VR,Va.all]at *;obtain⟨g,h1,h2⟩:=H;exact⟨g,hG o g ha h1,h2⟩
 |c,.mp o,ha,H=>by simp only[VR,Va.all]at *;obtain⟨g,b,h1,h2⟩:=H;exact⟨g,b,hG o g ha h1,h2⟩
 |c,.np o,ha,H=>by
  simp only[VR,Va.all]at *
  rcases H with H|⟨g,b,h1,h2⟩
  .exact .inl H
  .exact .inr ⟨g,b,hG o g ha h1,h2⟩
 |c,.sd o,ha,H=>by simp only[VR,Va.all]at *;obtain⟨g,a,n,cap,h1,h2⟩:=H;exact⟨g,a,n,cap,hG o g ha h1,h2⟩
 |c,.vw o _ _ _,ha,H=>by simp only[VR,Va.all]at *;obtain⟨g,a,n,cap,h1,h2⟩:=H;exact⟨g,a,n,cap,hG o g ha h1,h2⟩
 |c,.bufc o _,ha,H=>by simp only[VR,Va.all]at *;obtain⟨g,a,n,cap,h1,h2⟩:=H;exact⟨g,a,n,cap,hG o g ha h1,h2⟩
 |c,.fn g vs,ha,H=>by
  simp only[VR,Va.all]at *;obtain⟨cs,h1,h2⟩:=H;exact⟨cs,h1,VRs.keep M hG cs vs ha h2⟩
 |c,.agg vs,ha,H=>by
  simp only[VR,Va.all]at *;obtain⟨cs,h1,h2⟩:=H;exact⟨cs,h1,VRs.keep M hG cs vs ha h2⟩
 |c,.tup vs,ha,H=>by
  simp only[VR,Va.all]at *;obtain⟨cs,h1,h2⟩:=H;exact⟨cs,h1,VRs.keep M hG cs vs ha h2⟩
 |c,.nil,_,H=>by simpa [VR]using H
 |c,.cnd t v,ha,H=>by
  simp only[VR,Va.all]at *;exact⟨fun e=>VR.keep M hG c v ha (H.1 e),H.2⟩
 |c,.raw v,_,H=>by simpa [VR]using H
 |c,.er v,_,H=>by simpa [VR]using H
 |c,.top,_,_=>by simp[VR]
theorem VRs.keep(M:Mn K K' h h')(hG:Mg f G G'):∀(cs:List Value) (vs:List Va),cq f vs=true->VRs K h G cs vs->VRs K' h' G' cs vs
 |cs,[],_,H=>by simpa [VRs]using H
 |cs,v::vs,ha,H=>by
  simp only[VRs,cq,Bool.and_eq_true]at *;obtain⟨c,cs',h1,h2,h3⟩:=H;exact⟨c,cs',h1,VR.keep M hG c v ha.1 h2,VRs.keep M hG cs' vs ha.2 h3⟩
end
end
mutual
theorem Va.all_true:∀v:Va,v.all (fun _=>true)=true
 |.p _|.nils|.full _|.rp _|.ptr _ _|.cs _ _|.el _ _ _ _|.buf _|.mp _|.np _|.sd _|.vw _ _ _ _|.bufc _ _|.nil|.raw _|.er _|.top=>rfl
 |.fn _ vs=>cg vs
 |.agg vs=>cg vs
 |.tup vs=>cg vs
 |.cnd _ v=>Va.all_true v
theorem cg:∀vs:List Va,cq (fun _=>true) vs=true
 |[]=>rfl
 |v::vs=>by simp only[cq,Va.all_true v,cg vs,Bool.and_self]
end
section
variable {K K':Nat->Prop} {h h':Array Obj} {G G':List Gh}
theorem VR.grow(M:Mn K K' h h')(hG:∀(o:Nat) (g:Gh),G[o]?=some g->G'[o]?=some g)(c:Value)(v:Va)(H:VR K h G c v):VR K' h' G' c v :=
 VR.keep (f:=fun _=>true) M (fun o g _=>hG o g) c v (Va.all_true v) H
theorem VRs.grow(M:Mn K K' h h')(hG:∀(o:Nat) (g:Gh),G[o]?=some g->G'[o]?=some g)(cs:List Value)(vs:List Va)(H:VRs K h G cs vs):VRs K' h' G' cs vs :=
 VRs.keep (f:=fun _=>true) M (fun o g _=>hG o g) cs vs (cg vs) H
end
inductive Tk where
 |other|str|bool
 |int (k:IntKind)
 |ptr (e:TypeId)
 |slice (e:TypeId) (esz ebytes:Nat) (ezero:List Value)
 |arr (n:Nat) (e:TypeId) (esz:Nat) (eagg:Bool)
 |struct (fs:List (Nat×Nat×Bool))
 |map (k e:TypeId)
structure Ti where
 agg:Bool
 size:Nat
 zero:List Value
 kind:Tk
def eG(P:Program)(t:TypeId):Bool:=match P.underlying t with
 |some (.struct _)|some (.array _ _)=>true
 |_=>false
def jG(P:Program)(t:TypeId):Option Nat:=(P.info? t).map (·.size)
def y7(P:Program)(t:TypeId):Option (List Value):=(P.info? t).bind fun i=>i.zero.map (·.cells.toList)
def Ak(P:Program):List Field->Option (List (Nat×Nat×Bool))
 |[]=>some []
 |f::fs=>match jG P f.type,P.underlying f.type,Ak P fs with
  |some n,some _,some l=>some ((f.offset,n,eG P f.type)::l)
  |_,_,_=>none
def vK(P:Program):TypeDesc->Tk
 |.bool=>.bool
 |.int k=>.int k
 |.string=>.str
 |.pointer e=>.ptr e
 |.slice e=>match P.info? e,y7 P e with
  |some i,some z=>.slice e i.size i.bytes z
  |_,_=>.other
 |.array n e=>match jG P e,P.underlying e with
  |some s,some _=>.arr n e s (eG P e)
  |_,_=>.other
 |.struct fs=>match Ak P fs.toList with
  |some l=>.struct l
  |none=>.other
 |.map k e=>.map k e
 |_=>.other
def dM(P:Program)(t:TypeId):Option Ti :=
 match P.underlying t,jG P t,y7 P t with
 |some d,some n,some z=>some ⟨eG P t,n,z,vK P d⟩
 |_,_,_=>none
section
variable {P:Program} {t:TypeId} {r:Ti} (h:dM P t=some r)
include h
theorem vy:∃d,P.underlying t=some d/\r.kind=vK P d/\r.agg=eG P t:=by
 unfold dM at h;split at h
 .rename_i d n z h1 h2 h3;cases h;exact⟨d,h1,rfl,rfl⟩
 .cases h
theorem M9:∃i z,P.info? t=some i/\i.size=r.size/\i.zero=some z/\z.cells.toList=r.zero:=by
 unfold dM at h;split at h
 .rename_i d n z h1 h2 h3
  cases h;unfold jG at h2;unfold y7 at h3
  cases hi:P.info? t with
  |none=>simp[hi]at h2
  |some i =>
   simp[hi]at h2 h3;obtain⟨z',hz1,hz2⟩:=h3;exact⟨i,z',rfl,h2,hz1,hz2⟩
 .cases h
end
section
variable {P:Program} {t:TypeId} {r:Ti} (w:World)
theorem kg(h:dM P t=some r):(isAgg t).run P w=.ok r.agg w:=by
 obtain⟨d,h1,_,h3⟩:=vy h;rw[h3];simp only[isAgg,underlying,eG,Sem.run_bind,run_program,Result.andThen_ok,h1]
 cases d <;> rfl
theorem Oj(h:dM P t=some r):(sizeOf t).run P w=.ok r.size w:=by
 obtain⟨i,z,h1,h2,_,_⟩:=M9 h;simp[sizeOf,typeInfo,h1,h2]
theorem Rt(h:dM P t=some r):∃z,(zeroValue t).run P w=.ok z w/\z.cells.toList=r.zero:=by
 obtain⟨i,z,h1,h2,h3,h4⟩:=M9 h;exact⟨z,by simp[zeroValue,typeInfo,h1,h3],h4⟩
end
abbrev dz:=List (Nat×Va)
def ei:dz->Nat->Va
 |[],_=>.top
 |(k,v)::E,m=>if k=m then v else ei E m
def dV(E:dz):Option Nat->Va->dz
 |some d,v=>(d,v)::E
 |none,_=>E
def cv:Value->Va
 |.bool x=>.p (.b x)
 |.int k n=>.p (.i k n)
 |.string s=>.p (.s s.data.toList)
 |.slice none 0 0=>.nils
 |.pointer none=>.nil
 |v=>.raw v
def xH:Value->Prop
 |.int k n=>Fits k n
 |.string s=>s.data.toList.length<=dJ
 |_=>True
def ed(E:dz):Operand->Va
 |.tmp t=>ei E t
 |.const v=>cv v
 |.func f=>.fn f []
 |.global g=>.raw (.pointer (some ⟨g,0,none⟩))
def uK:Operand->Prop
 |.const v=>xH v
 |_=>True
def ni:Va->Va
 |.cnd _ v=>v
 |v=>v
def FL:Va->Bool
 |.cnd c _=>c
 |_=>true
def opnd(E:dz)(x:Operand):Va:=ni (ed E x)
def opOk(g:Bool)(E:dz)(x:Operand):Prop:=uK x/\(g=true->FL (ed E x)=true)
def jJ(K:Nat->Prop)(h:Array Obj)(G:List Gh)(a:Act)(E:dz):Prop:=∀m,VR K h G (a.tmps.getD m undef) (ei E m)
section
variable {K:Nat->Prop} {h:Array Obj} {G:List Gh} {a:Act} {E:dz}
theorem CZ(v:Value)(hv:xH v):VR K h G v (cv v):=by
 unfold cv
 split <;> simp_all[VR,DR,xH]
theorem lP(hE:jJ K h G a E)(x:Operand)(hx:uK x):VR K h G (a.eval x) (ed E x):=by
 cases x with
 |tmp t=>exact hE t
 |const v=>exact CZ v hx
 |func f=>simp[ed,Act.eval,VR,VRs]
 |global g=>simp[ed,Act.eval,VR]
theorem M7{c:Value}{v:Va}(hv:VR K h G c v)(hc:FL v=true):VR K h G c (ni v):=by
 cases v <;> first|exact hv|(simp only[VR,FL]at hv hc;exact hv.1 hc)
theorem zz(hE:jJ K h G a E){g:Bool}(hg:g=true)(x:Operand)(hx:opOk g E x):VR K h G (a.eval x) (opnd E x) :=
 M7 (lP hE x hx.1) (hx.2 hg)
end
section
variable {K:Nat->Prop} {h:Array Obj} {G:List Gh}
theorem DRs.length:∀{vs:List Value} {ds:List Dt},DRs K h vs ds->vs.length=ds.length
 |vs,[],H=>by simp only[DRs]at H;subst H;rfl
 |vs,d::ds,H=>by
  simp only[DRs]at H;obtain⟨v,vs',rfl,_,h3⟩:=H;simp[DRs.length h3]
theorem DRs.get:∀{vs:List Value} {ds:List Dt},DRs K h vs ds->∀(j:Nat) (d:Dt),ds[j]?=some d->∃v,vs[j]?=some v/\DR K h v d
 |vs,[],H,j,d,hj=>by simp at hj
 |vs,e::ds,H,j,d,hj=>by
  simp only[DRs]at H;obtain⟨v,vs',rfl,h2,h3⟩:=H
  cases j with
  |zero=>simp at hj;subst hj;exact⟨v,rfl,h2⟩
  |succ j=>simp at hj;simpa using DRs.get h3 j d hj
theorem DRs.take:∀{vs:List Value} {ds:List Dt},DRs K h vs ds->∀n,DRs K h (vs.take n) (ds.take n)
 |vs,[],H,n=>by simp only[DRs]at H;subst H;simp[DRs]
 |vs,d::ds,H,0=>by simp[DRs]
 |vs,d::ds,H,n+1=>by
  simp only[DRs]at H;obtain⟨v,vs',rfl,h2,h3⟩:=H;simp only[take_succ_cons,DRs];exact⟨v,_,rfl,h2,DRs.take h3 n⟩
theorem DRs.drop:∀{vs:List Value} {ds:List Dt},DRs K h vs ds->∀n,DRs K h (vs.drop n) (ds.drop n)
 |vs,[],H,n=>by simp only[DRs]at H;subst H;simp[DRs]
 |vs,d::ds,H,0=>by simpa using H
 |vs,d::ds,H,n+1=>by
  simp only[DRs]at H;obtain⟨v,vs',rfl,h2,h3⟩:=H
  simpa using DRs.drop h3 n
theorem DRs.append:∀{vs us:List Value} {ds es:List Dt},DRs K h vs ds->DRs K h us es->DRs K h (vs++us) (ds++es)
 |vs,us,[],es,H,H'=>by simp only[DRs]at H;subst H;simpa using H'
 |vs,us,d::ds,es,H,H'=>by
  simp only[DRs]at H;obtain⟨v,vs',rfl,h2,h3⟩:=H;simp only[cons_append,DRs];exact⟨v,_,rfl,h2,DRs.append h3 H'⟩
theorem DRs.set:∀{vs:List Value} {ds:List Dt} {v:Value} {d:Dt},DRs K h vs ds->DR K h v d->∀j,DRs K h (vs.set j v) (ds.set j d)
 |vs,[],v,d,H,_,j=>by simp only[DRs]at H;subst H;simp[DRs]
 |vs,e::ds,v,d,H,H',0=>by
  simp only[DRs]at H;obtain⟨u,vs',rfl,h2,h3⟩:=H;simp only[set_cons_zero,DRs];exact⟨v,vs',rfl,H',h3⟩
 |vs,e::ds,v,d,H,H',j+1=>by
  simp only[DRs]at H;obtain⟨u,vs',rfl,h2,h3⟩:=H;simp only[set_cons_succ,DRs];exact⟨u,_,rfl,h2,DRs.set h3 H' j⟩
theorem DRs.vrs:∀{vs:List Value} {ds:List Dt},DRs K h vs ds->VRs K h G vs (ds.map .p)
 |vs,[],H=>by simpa [DRs,VRs]using H
 |vs,d::ds,H=>by
  simp only[DRs]at H;obtain⟨v,vs',rfl,h2,h3⟩:=H;simp only[map_cons,VRs,VR];exact⟨v,vs',rfl,h2,DRs.vrs h3⟩
theorem DRss.length{sz:Nat}:∀{vs:List Value} {rs:List (List Dt)},DRss K h sz vs rs->vs.length=rs.length*sz
 |vs,[],H=>by simp only[DRss]at H;subst H;simp
 |vs,r::rs,H=>by
  simp only[DRss]at H;obtain⟨a,b,rfl,h2,h3,h4⟩:=H;simp[h3.length,DRss.length h4,h2,Nat.add_mul,Nat.add_comm]
theorem DRss.get{sz:Nat}:∀{vs:List Value} {rs:List (List Dt)},DRss K h sz vs rs->∀(i:Nat),i<rs.length->DRs K h ((vs.drop (i*sz)).take sz) (rs.getD i [])/\(rs.getD i []).length=sz
 |vs,[],H,i,hi=>by simp at hi
 |vs,r::rs,H,i,hi=>by
  simp only[DRss]at H;obtain⟨a,b,rfl,h2,h3,h4⟩:=H;have hl:=h3.length
  cases i with
  |zero =>
   have:(a++b).take sz=a:=by rw[take_append_of_le_length (by omega)];exact take_of_length_le (by omega)
   simp only[Nat.zero_mul,drop_zero,this,getD_cons_zero];exact⟨h3,h2⟩
  |succ i =>
   have e:(a++b).drop ((i+1)*sz)=b.drop (i*sz):=by
    rw[drop_append]
    have h5:(i+1)*sz-a.length=i*sz:=by rw[Nat.add_mul];omega
    rw[h5,drop_eq_nil_of_le (by rw[Nat.add_mul];omega)];simp
   rw[e]
   simpa using DRss.get h4 i (by simpa using hi)
theorem DRss.append{sz:Nat}:∀{vs us:List Value} {rs qs:List (List Dt)},DRss K h sz vs rs->DRss K h sz us qs->DRss K h sz (vs++us) (rs++qs)
 |vs,us,[],qs,H,H'=>by simp only[DRss]at H;subst H;simpa using H'
 |vs,us,r::rs,qs,H,H'=>by
  simp only[DRss]at H;obtain⟨a,b,rfl,h2,h3,h4⟩:=H;simp only[cons_append,DRss];exact⟨a,b++us,by simp,h2,h3,DRss.append h4 H'⟩
theorem DRss.drop{sz:Nat}:∀{vs:List Value} {rs:List (List Dt)},DRss K h sz vs rs->∀n,DRss K h sz (vs.drop (n*sz)) (rs.drop n)
 |vs,[],H,n=>by simp only[DRss]at H;subst H;simp[DRss]
 |vs,r::rs,H,0=>by simpa using H
 |vs,r::rs,H,n+1=>by
  simp only[DRss]at H;obtain⟨a,b,rfl,h2,h3,h4⟩:=H;have hl:=h3.length
  have e:(a++b).drop ((n+1)*sz)=b.drop (n*sz):=by
   rw[drop_append]
   have h5:(n+1)*sz-a.length=n*sz:=by rw[Nat.add_mul];omega
   rw[h5,drop_eq_nil_of_le (by rw[Nat.add_mul];omega)];simp
  rw[e]
  simpa using DRss.drop h4 n
theorem DRss.take{sz:Nat}:∀{vs:List Value} {rs:List (List Dt)},DRss K h sz vs rs->∀n,DRss K h sz (vs.take (n*sz)) (rs.take n)
 |vs,[],H,n=>by simp only[DRss]at H;subst H;simp[DRss]
 |vs,r::rs,H,0=>by simp[DRss]
 |vs,r::rs,H,n+1=>by
  simp only[DRss]at H;obtain⟨a,b,rfl,h2,h3,h4⟩:=H;have hl:=h3.length
  have e:(a++b).take ((n+1)*sz)=a++b.take (n*sz):=by
   rw[take_append]
   have h5:(n+1)*sz-a.length=n*sz:=by rw[Nat.add_mul];omega
   rw[h5,take_of_length_le (by rw[Nat.add_mul];omega)]
  rw[e];simp only[take_succ_cons,DRss];exact⟨a,_,rfl,h2,h3,DRss.take h4 n⟩
theorem VRs.length:∀{cs:List Value} {vs:List Va},VRs K h G cs vs->cs.length=vs.length
 |cs,[],H=>by simp only[VRs]at H;subst H;rfl
 |cs,v::vs,H=>by
  simp only[VRs]at H;obtain⟨c,cs',rfl,_,h3⟩:=H;simp[VRs.length h3]
theorem VRs.get:∀{cs:List Value} {vs:List Va},VRs K h G cs vs->∀(j:Nat) (v:Va),vs[j]?=some v->∃c,cs[j]?=some c/\VR K h G c v
 |cs,[],H,j,d,hj=>by simp at hj
 |cs,e::vs,H,j,d,hj=>by
  simp only[VRs]at H;obtain⟨c,cs',rfl,h2,h3⟩:=H
  cases j with
  |zero=>simp at hj;subst hj;exact⟨c,rfl,h2⟩
  |succ j=>simp at hj;simpa using VRs.get h3 j d hj
theorem VRs.take:∀{cs:List Value} {vs:List Va},VRs K h G cs vs->∀n,VRs K h G (cs.take n) (vs.take n)
 |cs,[],H,n=>by simp only[VRs]at H;subst H;simp[VRs]
 |cs,d::vs,H,0=>by simp[VRs]
 |cs,d::vs,H,n+1=>by
  simp only[VRs]at H;obtain⟨v,vs',rfl,h2,h3⟩:=H;simp only[take_succ_cons,VRs];exact⟨v,_,rfl,h2,VRs.take h3 n⟩
theorem VRs.drop:∀{cs:List Value} {vs:List Va},VRs K h G cs vs->∀n,VRs K h G (cs.drop n) (vs.drop n)
 |cs,[],H,n=>by simp only[VRs]at H;subst H;simp[VRs]
 |cs,d::vs,H,0=>by simpa using H
 |cs,d::vs,H,n+1=>by
  simp only[VRs]at H;obtain⟨v,vs',rfl,h2,h3⟩:=H
  simpa using VRs.drop h3 n
theorem VRs.append:∀{cs es:List Value} {vs us:List Va},VRs K h G cs vs->VRs K h G es us->VRs K h G (cs++es) (vs++us)
 |cs,es,[],us,H,H'=>by simp only[VRs]at H;subst H;simpa using H'
 |cs,es,d::vs,us,H,H'=>by
  simp only[VRs]at H;obtain⟨v,vs',rfl,h2,h3⟩:=H;simp only[cons_append,VRs];exact⟨v,_,rfl,h2,VRs.append h3 H'⟩
theorem VRs.set:∀{cs:List Value} {vs:List Va} {c:Value} {v:Va},VRs K h G cs vs->VR K h G c v->∀j,VRs K h G (cs.set j c) (vs.set j v)
 |cs,[],c,v,H,_,j=>by simp only[VRs]at H;subst H;simp[VRs]
 |cs,e::vs,c,v,H,H',0=>by
  simp only[VRs]at H;obtain⟨u,vs',rfl,h2,h3⟩:=H;simp only[set_cons_zero,VRs];exact⟨c,vs',rfl,H',h3⟩
 |cs,e::vs,c,v,H,H',j+1=>by
  simp only[VRs]at H;obtain⟨u,vs',rfl,h2,h3⟩:=H;simp only[set_cons_succ,VRs];exact⟨u,_,rfl,h2,VRs.set h3 H' j⟩
end
class Tabs where
 tab:Nat->Option (IntKind×List Int)
 ifc:Nat->Bool
def TabOk[Tabs](K:Nat->Prop)(h:Array Obj):Prop:=(∀b k l,Tabs.tab b=some (k,l)->K b/\(∃T fr,h[b]?=some (.cells (l.map (Value.int k)).toArray T fr))/\∀n∈l,Fits k n) /\
 ∀b,Tabs.ifc b=true->K b/\∃ev T fr,h[b]?=some (.cells #[ev] T fr)/\(ev=.nilIface∨∃te pe,ev=.iface te pe)
theorem TabOk.mono[Tabs]{K K':Nat->Prop}{h h':Array Obj}(H:TabOk K h)(M:Mn K K' h h'):TabOk K' h':=⟨fun b k l e=>by
 obtain⟨h1,⟨T,fr,h2⟩,h3⟩:=H.1 b k l e
 exact⟨M.k b h1,⟨T,fr,by rw[M.h b h1];exact h2⟩,h3⟩,fun b e=>by
 obtain⟨h1,ev,T,fr,h2,h3⟩:=H.2 b e
 exact⟨M.k b h1,ev,T,fr,by rw[M.h b h1];exact h2,h3⟩⟩
variable [Tabs]
structure St(K:Nat->Prop)(G:List Gh)(H:List Ob)(w:World):Prop where
 len:G.length=H.length
 kb:∀b,K b->b<w.heap.size
 gb:∀(o:Nat) (g:Gh) (b:Nat),G[o]?=some g->g.blk=some b->b<w.heap.size/\¬ K b
 inj:∀(o o':Nat) (g g':Gh) (b:Nat),G[o]?=some g->G[o']?=some g'->g.blk=some b->g'.blk=some b->o=o'
 ob:∀(o:Nat) (g:Gh) (x:Ob),G[o]?=some g->H[o]?=some x->ObR K w.heap G g x
 tb:TabOk K w.heap
theorem St.ghost{K:Nat->Prop}{G:List Gh}{H:List Ob}{w:World}(h:St K G H w){o:Nat}{x:Ob}(hx:H[o]?=some x):∃g,G[o]?=some g/\ObR K w.heap G g x:=by
 have hl:o<G.length:=by rw[h.len];exact(List.getElem?_eq_some_iff.1 hx).1
 exact⟨G[o],getElem?_eq_getElem hl,h.ob o _ x (getElem?_eq_getElem hl) hx⟩
structure Pv where
 v:Va
 ok:Prop
def dD:Pv:=⟨.top,False⟩
theorem Fits.wrap(k:IntKind)(n:Int):Fits k (k.wrap n):=by
 cases k <;> simp only[Fits,lo,hi,IntKind.wrap,IntKind.bits,IntKind.signed] <;> (constructor <;> (simp;omega))
theorem cr(k:IntKind):lo k<=0/\0<=hi k:=by cases k <;> simp[lo,hi]
theorem Fits.tmod{k:IntKind}{a:Int}(h:Fits k a)(b:Int):Fits k (a.tmod b):=by
 obtain⟨h1,h2⟩:=h;have hz:=cr k;have hn:=Int.natAbs_tmod a b;have hm:=Nat.mod_le a.natAbs b.natAbs
 rcases Int.le_total 0 a with h0|h0
 .have:=Int.tmod_nonneg b h0
  constructor <;> omega
 .have h3:=Int.tmod_nonneg b (a:=-a) (by omega)
  rw[Int.neg_tmod]at h3
  constructor <;> omega
theorem Fits.fdiv{k:IntKind}{a:Int}(h:Fits k a)(n:Nat):Fits k (a.fdiv (2^n)):=by
 obtain⟨h1,h2⟩:=h;have hz:=cr k
 have hp:(0:Int)<2^n:=by exact_mod_cast Nat.pow_pos (n:=n) (by omega:0<2)
 rw[Int.fdiv_eq_ediv_of_nonneg _ (by omega)]
 rcases Int.le_total 0 a with h0|h0
 .have:=Int.ediv_le_self (2^n) h0
  have:=Int.ediv_nonneg h0 (Int.le_of_lt hp)
  constructor <;> omega
 .have h3:a<=a / 2^n:=by
   have h4:=Int.le_ediv_iff_mul_le (a:=a) (b:=a) hp
   have h5:a*2^n<=a:=by
    have h6:(1:Int)<=2^n:=by omega
    have:=Int.mul_le_mul_of_nonpos_left h0 h6
    simpa using this
   exact h4.2 h5
  have h7:a / 2^n<=0:=by
   have:=Int.ediv_le_ediv hp h0
   simpa using this
  constructor <;> omega
def pN(op:BinOp)(k:IntKind)(x y:Int):Int :=
 let a:=BitVec.ofInt k.bits x
 let b:=BitVec.ofInt k.bits y
 match op with
 |.and=>k.wrap (a &&& b).toNat
 |.or=>k.wrap (a ||| b).toNat
 |.xor=>k.wrap (a ^^^ b).toNat
 |_=>k.wrap (a &&& ~~~b).toNat
theorem Fits.bits(op:BinOp)(k:IntKind)(x y:Int):Fits k (pN op k x y):=by
 unfold pN;split <;> exact Fits.wrap _ _
def yY(k:IntKind)(y:Int):Nat:=min y.toNat k.bits
def jl(op:BinOp)(k:IntKind)(a:Int)(k':IntKind)(b:Int):Pv:=match op with
 |.shl=>⟨.p (.i k (k.wrap (a*2^yY k b))),0<=b⟩
 |.shr=>⟨.p (.i k (a.fdiv (2^yY k b))),0<=b⟩
 |.add=>⟨.p (.i k (k.wrap (a+b))),k=k'⟩
 |.sub=>⟨.p (.i k (k.wrap (a-b))),k=k'⟩
 |.mul=>⟨.p (.i k (k.wrap (a*b))),k=k'⟩
 |.quo=>⟨.p (.i k (k.wrap (a.tdiv b))),k=k'/\¬ b=0⟩
 |.rem=>⟨.p (.i k (a.tmod b)),k=k'/\¬ b=0⟩
 |.and=>⟨.p (.i k (pN .and k a b)),k=k'⟩
 |.or=>⟨.p (.i k (pN .or k a b)),k=k'⟩
 |.xor=>⟨.p (.i k (pN .xor k a b)),k=k'⟩
 |.andNot=>⟨.p (.i k (pN .andNot k a b)),k=k'⟩
 |.eql=>⟨.p (.b (decide (a=b))),k=k'⟩
 |.neq=>⟨.p (.b (!decide (a=b))),k=k'⟩
 |.lss=>⟨.p (.b (decide (a<b))),k=k'⟩
 |.leq=>⟨.p (.b (decide (a<=b))),k=k'⟩
 |.gtr=>⟨.p (.b (decide (b<a))),k=k'⟩
 |.geq=>⟨.p (.b (decide (b<=a))),k=k'⟩
def ls(a b:List UInt8):Bool:=Op.bytesLess a b
def x7(op:BinOp)(a b:List UInt8):Pv:=match op with
 |.add=>⟨.p (.s (a++b)),(a++b).length<=dJ⟩
 |.eql=>⟨.p (.b (decide (a=b))),True⟩
 |.neq=>⟨.p (.b (!decide (a=b))),True⟩
 |.lss=>⟨.p (.b (ls a b)),True⟩
 |.leq=>⟨.p (.b (ls a b||decide (a=b))),True⟩
 |.gtr=>⟨.p (.b (!(ls a b||decide (a=b)))),True⟩
 |.geq=>⟨.p (.b (!ls a b)),True⟩
 |_=>dD
section
variable {K:Nat->Prop} {G:List Gh} {H:List Ob} {w:World} {P:Program}
theorem Dh{α:Type}[BEq α][LawfulBEq α][DecidableEq α](a b:α):(a == b)=decide (a=b):=by by_cases h:a=b <;> simp[h]
theorem lp{h:Array Obj}{k:IntKind}{n:Int}(hn:Fits k n):VR K h G (.int k n) (.p (.i k n)):=by simpa only[VR,DR,true_and]using hn
theorem fH{h:Array Obj}{x y:Bool}(e:x=y):VR K h G (.bool x) (.p (.b y)):=by subst e;simp only[VR,DR]
theorem ym{h:Array Obj}{x:List UInt8}(hn:x.length<=dJ):VR K h G (.string ⟨x.toArray⟩) (.p (.s x)):=by simpa only[VR,DR,true_and]using hn
theorem Su(op:BinOp)(t:TypeId)(x y:Operand)(a b:Value)(h1:∀c,a≠.agg c)(h2:a≠.nilIface):(eqGuard op t x y a b).run P w=.ok () w:=by
 unfold eqGuard
 cases op <;> first|rfl|(cases a <;> first|rfl|exact absurd rfl (h1 _)|exact absurd rfl h2)
theorem BT{op:BinOp}{k k':IntKind}{a b:Int}(t:TypeId)(ha:Fits k a)(hok:(jl op k a k' b).ok) :
  ∃c,(binOp op t (.int k a) (.int k' b)).run P w=.ok c w/\VR K w.heap G c (jl op k a k' b).v:=by
 cases op
 case shl =>
  simp only[jl]at hok|-;exact⟨_,by simp only[binOp,Op.shift,if_neg (Int.not_lt.2 hok)];rfl,lp (Fits.wrap _ _)⟩
 case shr =>
  simp only[jl]at hok|-;exact⟨_,by simp only[binOp,Op.shift,if_neg (Int.not_lt.2 hok)];rfl,lp (Fits.fdiv ha _)⟩
 case quo =>
  simp only[jl]at hok|-;obtain⟨rfl,h0⟩:=hok;exact⟨_,by simp only[binOp,Op.intDiv,ne_eq,not_true_eq_false,if_false,if_neg h0];rfl,lp (Fits.wrap _ _)⟩
 case rem =>
  simp only[jl]at hok|-;obtain⟨rfl,h0⟩:=hok;exact⟨_,by simp only[binOp,Op.intDiv,ne_eq,not_true_eq_false,if_false,if_neg h0];rfl,lp (Fits.tmod ha _)⟩
 case and|or|xor|andNot =>
  simp only[jl]at hok|-;subst hok;exact⟨_,by simp only[binOp,Op.intBits,ne_eq,not_true_eq_false,if_false];rfl,lp (Fits.bits _ _ _ _)⟩
 case add|sub|mul =>
  simp only[jl]at hok|-;subst hok;exact⟨_,by simp only[binOp,Op.intArith,ne_eq,not_true_eq_false,if_false];rfl,lp (Fits.wrap _ _)⟩
 all_goals
  simp only[jl]at hok|-;subst hok;exact⟨_,by simp only[binOp,Op.intCmp,ne_eq,not_true_eq_false,if_false];rfl,fH (by simp[bne,Dh])⟩
theorem BS{op:BinOp}{a b:List UInt8}(t:TypeId)(hok:(x7 op a b).ok) :
  ∃c,(binOp op t (.string ⟨a.toArray⟩) (.string ⟨b.toArray⟩)).run P w=.ok c w/\VR K w.heap G c (x7 op a b).v:=by
 cases op <;> simp only[x7]at hok|- <;> try (exact hok.elim)
 case add =>
  have h63:¬ (((⟨a.toArray⟩:ByteArray).size+(⟨b.toArray⟩:ByteArray).size:Nat):Int) > IntKind.i64.max:=by
   simp only[ByteArray.size,size_toArray]
   have:IntKind.i64.max=9223372036854775807:=by decide
   rw[this];simp only[length_append,dJ]at hok;omega
  have e:(⟨a.toArray⟩++⟨b.toArray⟩:ByteArray)=⟨(a++b).toArray⟩:=by apply ByteArray.ext;simp
  exact⟨_,by simp only[binOp,Op.stringOp,if_neg h63,e];rfl,ym hok⟩
 all_goals
  exact⟨_,by simp only[binOp,Op.stringOp,ByteArray.toList_mk];rfl,fH (by simp[ls,Dh])⟩
end
def dT:List Ob->Nat->Ob
 |[],_=>.gone
 |x::_,0=>x
 |_::l,n+1=>dT l n
theorem zJ:∀{H:List Ob} {o:Nat} {x:Ob},dT H o=x->x≠.gone->H[o]?=some x
 |[],_,_,h,hx=>by simp[dT]at h;exact absurd h.symm hx
 |x::l,0,y,h,_=>by simp[dT]at h;simp[h]
 |x::l,n+1,y,h,hx=>by simp only[dT]at h;simpa using zJ h hx
def sW(H:List Ob)(o:Nat):Option (TypeId×Nat×List (List Dt)×Bool):=match dT H o with
 |.buf T sz rows=>some (T,sz,rows,false)
 |.fx T sz rows=>some (T,sz,rows,true)
 |_=>none
def wK(f:Bool)(T:TypeId)(sz:Nat)(rows:List (List Dt)):Ob:=bif f then .fx T sz rows else .buf T sz rows
theorem N9{H:List Ob}{o:Nat}{T:TypeId}{sz:Nat}{rows:List (List Dt)}{f:Bool}(h:sW H o=some (T,sz,rows,f)):H[o]?=some (wK f T sz rows):=by
 unfold sW at h;split at h
 .rename_i hx;cases h;exact zJ hx (by simp[wK])
 .rename_i hx;cases h;exact zJ hx (by simp[wK])
 .cases h
theorem l8{K:Nat->Prop}{h:Array Obj}{G:List Gh}{g:Gh}{f:Bool}{T:TypeId}{sz:Nat}{rows:List (List Dt)}:ObR K h G g (wK f T sz rows)=ObR K h G g (.buf T sz rows):=by cases f <;> rfl
theorem St.bufOb{K:Nat->Prop}{G:List Gh}{H:List Ob}{w:World}(hS:St K G H w){o:Nat}{T:TypeId}{sz:Nat}{rows:List (List Dt)}{f:Bool}{g:Gh}(h:sW H o=some (T,sz,rows,f))(hg:G[o]?=some g):ObR K w.heap G g (.buf T sz rows):=by
 rw[<-l8 (f:=f)];exact hS.ob o g _ hg (N9 h)
def CS(l:List Dt)(j:Nat):Va:=match l.drop j with
 |d::_=>.p d
 |[]=>.top
def C0(l:List Va)(j:Nat):Va:=match l.drop j with
 |d::_=>d
 |[]=>.top
theorem uk{α:Type}:∀{l:List α} {j:Nat} {d:α} {r:List α},l.drop j=d::r->l[j]?=some d
 |[],_,_,_,h=>by simp at h
 |x::l,0,d,r,h=>by simp at h;simp[h.1]
 |x::l,j+1,d,r,h=>by simp at h;simpa using uk h
def kI(ti:Ti)(H:List Ob):Va->Pv
 |.rp row=>bif ti.agg then⟨.agg ((row.take ti.size).map .p),ti.size<=row.length⟩else⟨CS row 0,0<row.length⟩
 |.ptr o off=>match dT H o with
  |.cells _ vs=>bif ti.agg then⟨.agg ((vs.drop off).take ti.size),off+ti.size<=vs.length⟩else⟨C0 vs off,off<vs.length⟩
  |_=>dD
 |.el o sz i off=>match sW H o with
  |some (_,sz',rows,_)=>bif ti.agg then⟨.agg ((((rows.getD i []).drop off).take ti.size).map .p),sz=sz'/\i<rows.length/\off+ti.size<=sz⟩
   else⟨CS (rows.getD i []) off,sz=sz'/\i<rows.length/\off<sz⟩
  |none=>dD
 |_=>dD
section
variable {K:Nat->Prop} {G:List Gh} {H:List Ob} {w:World} {P:Program}
theorem m0(b off n:Nat):(⟨b,off,none⟩:Addr).add n=⟨b,off+n,none⟩:=by
 unfold Addr.add;split
 .rename_i h;subst h;rfl
 .rfl
theorem O9{t:TypeId}{ti:Ti}(ht:dM P t=some ti){b off:Nat}{cs:Array Value}{T:TypeId}{fr:Nat×Nat}(hb:w.heap[b]?=some (.cells cs T fr))
  {vs:List Value} (hv:∀j v,vs[j]?=some v->cs[off+j]?=some v) :
  (ti.agg=true->ti.size<=vs.length->(loadVar t ⟨b,off,none⟩).run P w=.ok (.agg (vs.take ti.size).toArray) w) /\
  (ti.agg=false->∀v,vs[0]?=some v->(loadVar t ⟨b,off,none⟩).run P w=.ok v w):=by
 constructor
 .intro ha hs
  have hl:(vs.take ti.size).length=ti.size:=by simp;omega
  have h1:=run_loadCells_list (P:=P) w ⟨b,off,none⟩ (vs.take ti.size) (fun j v hj=>by
   rw[m0,cell_of_row w b (off+j) cs T fr hb]
   exact hv j v (by rw[getElem?_take]at hj;split at hj <;> simp_all))
  rw[hl]at h1;simp only[loadVar,Sem.run_bind,kg w ht,Result.andThen_ok,ha,if_true,Oj w ht,h1,Sem.run_pure]
 .intro ha v h0
  have hc:w.cell? ⟨b,off,none⟩=some v:=by rw[cell_of_row w b off cs T fr hb];simpa using hv 0 v h0
  simp[loadVar,kg w ht,ha,run_load,hc]
theorem oc{t:TypeId}{ti:Ti}(ht:dM P t=some ti)(hS:St K G H w){c:Value}{v:Va}(hc:VR K w.heap G c v)(hok:(kI ti H v).ok) :
  ∃c',(Instr.loadAt t c).run P w=.ok c' w/\VR K w.heap G c' (kI ti H v).v:=by
 cases v <;> simp only[kI]at hok|- <;> try (exact hok.elim)
 case rp row =>
  simp only[VR]at hc;obtain⟨b,off,cs,T,fr,vs,rfl,hK,hb,hv,hd⟩:=hc;obtain⟨h1,h2⟩:=O9 (P:=P) ht hb hv
  cases ha:ti.agg <;> simp only[ha,cond_true,cond_false]at hok|-
  .cases row with
   |nil=>simp at hok
   |cons d row =>
    simp only[DRs]at hd;obtain⟨v,vs',rfl,hd1,_⟩:=hd;exact⟨v,by simp[Instr.loadAt,Instr.sureAddr,h2 ha v rfl],by simpa [CS,VR]using hd1⟩
  .refine⟨_,by simp only[Instr.loadAt,Instr.sureAddr,Sem.run_bind,Sem.run_pure,Result.andThen_ok];exact h1 ha (by rw[hd.length];exact hok),?_⟩
   simp only[VR];exact⟨_,rfl,(hd.take _).vrs⟩
 case ptr o off =>
  split at hok
  rotate_left
  .exact hok.elim
  rename_i hx
  rename_i vs
  simp only[VR]at hc;obtain⟨g,b,hg,hgb,rfl⟩:=hc;have hob:=hS.ob o g _ hg (zJ hx (by simp));obtain⟨b',cs,hb',hb,hvs⟩:=hob
  obtain rfl:b'=b:=by rw[hgb]at hb';exact(Option.some.inj hb').symm
  have hvd:∀j v,(cs.drop off)[j]?=some v->cs.toArray[off+j]?=some v:=fun j v hj=>by rw[getElem?_drop]at hj;simpa using hj
  obtain⟨h1,h2⟩:=O9 (P:=P) ht hb hvd;have hl:=hvs.length
  cases ha:ti.agg <;> simp only[ha,cond_true,cond_false]at hok|-
  .have hj:vs[off]?=some vs[off]:=getElem?_eq_getElem hok
   obtain⟨c,hc1,hc2⟩:=hvs.get off _ hj;refine⟨c,by simp only[Instr.loadAt,Instr.sureAddr,Sem.run_bind,Sem.run_pure,Result.andThen_ok];exact h2 ha c (by rw[getElem?_drop];simpa using hc1),?_⟩;have:vs.drop off=vs[off]::vs.drop (off+1):=drop_eq_getElem_cons hok
   unfold C0;rw[this];exact hc2
  .refine⟨_,by simp only[Instr.loadAt,Instr.sureAddr,Sem.run_bind,Sem.run_pure,Result.andThen_ok];exact h1 ha (by simp;omega),?_⟩
   simp only[VR];exact⟨_,rfl,(hvs.drop _).take _⟩
 case el o sz i off =>
  split at hok
  rotate_left
  .exact hok.elim
  rename_i T sz' rows fx hx
  simp only[VR]at hc;obtain⟨g,b,n,cap,hg,hgb,hsv,rfl⟩:=hc;have hob:=hS.bufOb hx hg;obtain⟨hlim,xs,hxs,hh⟩:=hob
  rcases hh with⟨h1,_,h3⟩|⟨b',cap',cur,fr,h1,h2,hb,hfr,h4,h5,h6,h7⟩
  .rw[hgb]at h3;cases h3
  obtain rfl:b'=b:=by rw[hgb]at h2;exact(Option.some.inj h2).symm
  have hxl:=hxs.length
  have hsz:sz=sz'/\i<rows.length:=by cases ha:ti.agg <;> simp only[ha,cond_true,cond_false]at hok <;> exact⟨hok.1,hok.2.1⟩
  obtain⟨rfl,hi⟩:=hsz;obtain⟨hd,hrl⟩:=hxs.get i hi
  have hvd:∀j v,(((xs.drop (i*sz)).take sz).drop off)[j]?=some v->cur[i*sz+off+j]?=some v:=fun j v hj=>by
   rw[getElem?_drop,getElem?_take]at hj;split at hj
   .rw[getElem?_drop,<-h7,getElem?_take]at hj
    split at hj
    .rw[<-Array.getElem?_toList,show i*sz+off+j=i*sz+(off+j)by omega];exact hj
    .cases hj
   .cases hj
  obtain⟨h1',h2'⟩:=O9 (P:=P) ht hb hvd;have hdl:=hd.length
  cases ha:ti.agg <;> simp only[ha,cond_true,cond_false]at hok|-
  .have hoff:off<(rows.getD i []).length:=by omega
   have hj:(rows.getD i [])[off]?=some (rows.getD i [])[off]:=getElem?_eq_getElem hoff;obtain⟨c,hc1,hc2⟩:=hd.get off _ hj;refine⟨c,by simp only[Instr.loadAt,Instr.sureAddr,Sem.run_bind,Sem.run_pure,Result.andThen_ok];exact h2' ha c (by rw[getElem?_drop];simpa using hc1),?_⟩;have:(rows.getD i []).drop off=(rows.getD i [])[off]::(rows.getD i []).drop (off+1):=drop_eq_getElem_cons hoff
   unfold CS;rw[this];simpa only[VR]using hc2
  .refine⟨_,by simp only[Instr.loadAt,Instr.sureAddr,Sem.run_bind,Sem.run_pure,Result.andThen_ok];exact h1' ha (by rw[length_drop,hdl];omega),?_⟩
   simp only[VR];exact⟨_,rfl,((hd.drop _).take _).vrs⟩
end
inductive Kd where
 |b|s|i (k:IntKind)
mutual
def gL(P:Program):Nat->TypeId->Option (List Kd)
 |0,_=>none
 |d+1,t=>match P.underlying t with
  |some .bool=>if jG P t=some 1 then some [.b]else none
  |some (.int k)=>if jG P t=some 1 then some [.i k]else none
  |some .string=>if jG P t=some 1 then some [.s]else none
  |some (.struct fs)=>if P.stoodInHeld t then none else match mr P d 0 fs.toList with
   |some l=>if jG P t=some l.length then some l else none
   |none=>none
  |_=>none
termination_by structural d=>d
def mr(P:Program):Nat->Nat->List Field->Option (List Kd)
 |_,_,[]=>some []
 |0,_,_=>none
 |d+1,off,f::fs=>if f.name= "_"∨f.offset≠off then none else match gL P d f.type with
  |some l=>match mr P d (off+l.length) fs with
   |some l'=>some (l++l')
   |none=>none
  |none=>none
termination_by structural d=>d
end
def y5(P:Program)(t:TypeId):Option (List Kd):=if P.eqGuardType P.depth t then none else gL P 60 t
def zF:List Kd->List Dt->Prop
 |[],[]=>True
 |.b::ks,.b _::ds=>zF ks ds
 |.s::ks,.s _::ds=>zF ks ds
 |.i k::ks,.i k' _::ds=>k=k'/\zF ks ds
 |_,_=>False
def fJ:List Dt->List Dt->Bool
 |[],[]=>true
 |.b x::ds,.b y::es=>decide (x=y)&&fJ ds es
 |.s x::ds,.s y::es=>decide (x=y)&&fJ ds es
 |.i _ x::ds,.i _ y::es=>decide (x=y)&&fJ ds es
 |_,_=>false
theorem GI:∀{ks:List Kd} {ds:List Dt},zF ks ds->ds.length=ks.length
 |[],[],_=>rfl
 |.b::ks,.b _::ds,h=>by simp only[zF]at h;simp[GI h]
 |.s::ks,.s _::ds,h=>by simp only[zF]at h;simp[GI h]
 |.i k::ks,.i k' _::ds,h=>by simp only[zF]at h;simp[GI h.2]
 |[],_::_,h=>by simp[zF]at h
 |.b::_,[],h=>by simp[zF]at h
 |.s::_,[],h=>by simp[zF]at h
 |.i _::_,[],h=>by simp[zF]at h
 |.b::_,.s _::_,h=>by simp[zF]at h
 |.b::_,.i _ _::_,h=>by simp[zF]at h
 |.b::_,.l _::_,h=>by simp[zF]at h
 |.b::_,.a _::_,h=>by simp[zF]at h
 |.s::_,.b _::_,h=>by simp[zF]at h
 |.s::_,.i _ _::_,h=>by simp[zF]at h
 |.s::_,.l _::_,h=>by simp[zF]at h
 |.s::_,.a _::_,h=>by simp[zF]at h
 |.i _::_,.b _::_,h=>by simp[zF]at h
 |.i _::_,.s _::_,h=>by simp[zF]at h
 |.i _::_,.l _::_,h=>by simp[zF]at h
 |.i _::_,.a _::_,h=>by simp[zF]at h
theorem GH:∀{ks ks':List Kd} {ds:List Dt},zF (ks++ks') ds->zF ks (ds.take ks.length)/\zF ks' (ds.drop ks.length)
 |[],ks',ds,h=>by simpa [zF]using h
 |.b::ks,ks',.b x::ds,h=>by
  simp only[cons_append,zF]at h
  simpa [zF]using GH h
 |.s::ks,ks',.s x::ds,h=>by
  simp only[cons_append,zF]at h
  simpa [zF]using GH h
 |.i k::ks,ks',.i k' x::ds,h=>by
  simp only[cons_append,zF]at h;obtain⟨h1,h2⟩:=h;have:=GH h2;simp only[length_cons,take_succ_cons,drop_succ_cons,zF];exact⟨⟨h1,this.1⟩,this.2⟩
 |.b::_,_,[],h=>by simp[zF]at h
 |.s::_,_,[],h=>by simp[zF]at h
 |.i _::_,_,[],h=>by simp[zF]at h
 |.b::_,_,.s _::_,h=>by simp[zF]at h
 |.b::_,_,.i _ _::_,h=>by simp[zF]at h
 |.b::_,_,.l _::_,h=>by simp[zF]at h
 |.b::_,_,.a _::_,h=>by simp[zF]at h
 |.s::_,_,.b _::_,h=>by simp[zF]at h
 |.s::_,_,.i _ _::_,h=>by simp[zF]at h
 |.s::_,_,.l _::_,h=>by simp[zF]at h
 |.s::_,_,.a _::_,h=>by simp[zF]at h
 |.i _::_,_,.b _::_,h=>by simp[zF]at h
 |.i _::_,_,.s _::_,h=>by simp[zF]at h
 |.i _::_,_,.l _::_,h=>by simp[zF]at h
 |.i _::_,_,.a _::_,h=>by simp[zF]at h
theorem L0:∀{ks:List Kd} {ds es:List Dt} (ds' es':List Dt),zF ks ds->zF ks es->fJ (ds++ds') (es++es')=(fJ ds es&&fJ ds' es')
 |[],[],[],_,_,_,_=>by simp[fJ]
 |.b::ks,.b x::ds,.b y::es,ds',es',h,h'=>by
  simp only[zF]at h h';simp[fJ,L0 ds' es' h h',Bool.and_assoc]
 |.s::ks,.s x::ds,.s y::es,ds',es',h,h'=>by
  simp only[zF]at h h';simp[fJ,L0 ds' es' h h',Bool.and_assoc]
 |.i k::ks,.i k1 x::ds,.i k2 y::es,ds',es',h,h'=>by
  simp only[zF]at h h';simp[fJ,L0 ds' es' h.2 h'.2,Bool.and_assoc]
 |[],_::_,_,_,_,h,_=>by simp[zF]at h
 |[],[],_::_,_,_,_,h=>by simp[zF]at h
 |.b::_,[],_,_,_,h,_=>by simp[zF]at h
 |.s::_,[],_,_,_,h,_=>by simp[zF]at h
 |.i _::_,[],_,_,_,h,_=>by simp[zF]at h
 |.b::_,.s _::_,_,_,_,h,_=>by simp[zF]at h
 |.b::_,.i _ _::_,_,_,_,h,_=>by simp[zF]at h
 |.b::_,.l _::_,_,_,_,h,_=>by simp[zF]at h
 |.b::_,.a _::_,_,_,_,h,_=>by simp[zF]at h
 |.s::_,.b _::_,_,_,_,h,_=>by simp[zF]at h
 |.s::_,.i _ _::_,_,_,_,h,_=>by simp[zF]at h
 |.s::_,.l _::_,_,_,_,h,_=>by simp[zF]at h
 |.s::_,.a _::_,_,_,_,h,_=>by simp[zF]at h
 |.i _::_,.b _::_,_,_,_,h,_=>by simp[zF]at h
 |.i _::_,.s _::_,_,_,_,h,_=>by simp[zF]at h
 |.i _::_,.l _::_,_,_,_,h,_=>by simp[zF]at h
 |.i _::_,.a _::_,_,_,_,h,_=>by simp[zF]at h
 |.b::_,.b _::_,[],_,_,_,h=>by simp[zF]at h
 |.s::_,.s _::_,[],_,_,_,h=>by simp[zF]at h
 |.i _::_,.i _ _::_,[],_,_,_,h=>by simp[zF]at h
 |.b::_,.b _::_,.s _::_,_,_,_,h=>by simp[zF]at h
 |.b::_,.b _::_,.i _ _::_,_,_,_,h=>by simp[zF]at h
 |.b::_,.b _::_,.l _::_,_,_,_,h=>by simp[zF]at h
 |.b::_,.b _::_,.a _::_,_,_,_,h=>by simp[zF]at h
 |.s::_,.s _::_,.b _::_,_,_,_,h=>by simp[zF]at h
 |.s::_,.s _::_,.i _ _::_,_,_,_,h=>by simp[zF]at h
 |.s::_,.s _::_,.l _::_,_,_,_,h=>by simp[zF]at h
 |.s::_,.s _::_,.a _::_,_,_,_,h=>by simp[zF]at h
 |.i _::_,.i _ _::_,.b _::_,_,_,_,h=>by simp[zF]at h
 |.i _::_,.i _ _::_,.s _::_,_,_,_,h=>by simp[zF]at h
 |.i _::_,.i _ _::_,.l _::_,_,_,_,h=>by simp[zF]at h
 |.i _::_,.i _ _::_,.a _::_,_,_,_,h=>by simp[zF]at h
def zcc(P:Program)(t:TypeId)(xs:List Value):Value:=if eG P t then .agg xs.toArray else xs.getD 0 undef
section
variable {K:Nat->Prop} {h:Array Obj} {P:Program} (w:World)
theorem M5{t:TypeId}{n:Nat}(hn:jG P t=some n){d:TypeDesc}(hd:P.underlying t=some d)(xs:List Value)(off:Nat)(hl:off+n<=xs.length)(h1:eG P t=false->n=1) :
  (part t xs.toArray off).run P w=.ok (zcc P t ((xs.drop off).take n)) w:=by
 unfold jG at hn
 cases hi:P.info? t with
 |none=>simp[hi]at hn
 |some i =>
  simp[hi]at hn
  have hag:(isAgg t).run P w=.ok (eG P t) w:=by
   simp only[isAgg,underlying,eG,Sem.run_bind,run_program,Result.andThen_ok,hd]
   cases d <;> rfl
  unfold part zcc;simp only[Sem.run_bind,hag,Result.andThen_ok];cases ha:eG P t
  .have h1':=h1 ha
   subst h1'
   have hj:off<xs.length:=by omega
   simp[getElem?_eq_getElem hj,List.getD,getElem?_drop]
  .simp only[if_true,sizeOf,typeInfo,Sem.run_bind,run_program,Result.andThen_ok,hi,Sem.run_pure,hn]
   simp
mutual
theorem M3:∀(d:Nat) {t:TypeId} {ks:List Kd} (e:Nat) {xs ys:List Value} {ds es:List Dt},gL P d t=some ks->DRs K h xs ds->DRs K h ys es->zF ks ds->zF ks es ->
  (Op.equalIn (d+e) t (zcc P t xs) (zcc P t ys)).run P w=.ok (fJ ds es) w
 |0,t,ks,e,xs,ys,ds,es,hk,_,_,_,_=>by simp[gL]at hk
 |d+1,t,ks,e,xs,ys,ds,es,hk,hx,hy,h1,h2=>by
  rw[show d+1+e=(d+e)+1 by omega];unfold gL at hk;split at hk
  .rename_i hu
   split at hk
   rotate_left
   .cases hk
   cases hk
   match ds,es,h1,h2 with
   |[.b x],[.b y],_,_ =>
    simp only[DRs,DR]at hx hy;obtain⟨_,_,rfl,rfl,rfl⟩:=hx;obtain⟨_,_,rfl,rfl,rfl⟩:=hy;simp[zcc,eG,hu,run_equalIn_bool' _ _ _ _ _ hu,fJ,Dh]
  .rename_i k hu
   split at hk
   rotate_left
   .cases hk
   cases hk
   match ds,es,h1,h2 with
   |[.i k1 x],[.i k2 y],h1,h2 =>
    simp only[zF]at h1 h2;obtain⟨rfl,_⟩:=h1;obtain⟨rfl,_⟩:=h2;simp only[DRs,DR]at hx hy;obtain⟨_,_,rfl,⟨rfl,_⟩,rfl⟩:=hx;obtain⟨_,_,rfl,⟨rfl,_⟩,rfl⟩:=hy;simp[zcc,eG,hu,run_equalIn_int _ _ _ _ _ _ _ hu,fJ,Dh]
  .rename_i hu
   split at hk
   rotate_left
   .cases hk
   cases hk
   match ds,es,h1,h2 with
   |[.s x],[.s y],_,_ =>
    simp only[DRs,DR]at hx hy;obtain⟨_,_,rfl,⟨rfl,_⟩,rfl⟩:=hx;obtain⟨_,_,rfl,⟨rfl,_⟩,rfl⟩:=hy;simp[zcc,eG,hu,run_equalIn_string _ _ _ _ _ hu,fJ,Dh]
  .rename_i fs hu
   have hag:eG P t=true:=by simp[eG,hu]
   have hfo:P.fieldsOf t=fs:=by simp[Program.fieldsOf,hu]
   split at hk
   .cases hk
   rename_i hp
   split at hk
   .rename_i l hl
    split at hk
    .cases hk
     simp only[zcc,hag,if_true];rw[run_equalIn_struct w (d+e) t _ _ (by rw[hfo];exact hu) (by simpa using hp),hfo];have:=nB d e (xs:=xs) (ys:=ys) 0 (Nat.zero_le _) (Nat.zero_le _) hl (by simpa using hx) (by simpa using hy) h1 h2
     simpa using this
    .cases hk
   .cases hk
  .cases hk
theorem nB:∀(d:Nat) (e:Nat) {fs:List Field} {ks:List Kd} {xs ys:List Value} {ds es:List Dt} (off:Nat),off<=xs.length->off<=ys.length->mr P d off fs=some ks->DRs K h (xs.drop off) ds->DRs K h (ys.drop off) es->zF ks ds->zF ks es ->
  (Op.eqFields (d+e) xs.toArray ys.toArray fs).run P w=.ok (fJ ds es) w
 |d,e,[],ks,xs,ys,ds,es,off,_,_,hk,_,_,h1,h2=>by
  cases d <;> (simp only[mr]at hk;cases hk)
  all_goals
   match ds,es,h1,h2 with
   |[],[],_,_=>simp[Op.eqFields,fJ]
 |0,e,f::fs,ks,xs,ys,ds,es,off,_,_,hk,_,_,_,_=>by simp[mr]at hk
 |d+1,e,f::fs,ks,xs,ys,ds,es,off,ox,oy,hk,hx,hy,h1,h2=>by
  unfold mr at hk;split at hk
  .cases hk
  rename_i hn
  have hname:¬ f.name= "_":=fun e=>hn (.inl e)
  have hoff:f.offset=off:=Decidable.byContradiction fun e=>hn (.inr e)
  split at hk
  .rename_i l hl
   split at hk
   .rename_i l' hl'
    cases hk;obtain⟨h1a,h1b⟩:=GH h1;obtain⟨h2a,h2b⟩:=GH h2;have lx:=GI h1;have ly:=GI h2;have lx':=hx.length;have ly':=hy.length;simp only[length_drop,length_append]at lx ly lx' ly';obtain⟨hsz,hone,du,hdu⟩:=kX d hl;have hpx:=M5 (P:=P) w hsz hdu xs off (by omega) hone;have hpy:=M5 (P:=P) w hsz hdu ys off (by omega) hone;have hq:=M3 d (t:=f.type) (e+1) hl (hx.take l.length) (hy.take l.length) h1a h2a;have hr:=nB d (e+1) (xs:=xs) (ys:=ys) (off+l.length) (by omega) (by omega) hl' (by simpa [drop_drop]using hx.drop l.length) (by simpa [drop_drop]using hy.drop l.length) h1b h2b
    have hrow:fJ ds es=(fJ (ds.take l.length) (es.take l.length)&&fJ (ds.drop l.length) (es.drop l.length)):=by
     rw[<-L0 _ _ h1a h2a,take_append_drop,take_append_drop]
    rw[hrow];rw[show d+1+e=d+(e+1)by omega];simp only[Op.eqFields,hname,ne_eq,not_false_eq_true,if_true,hoff,Sem.run_bind,hpx,hpy,hq,Result.andThen_ok];cases hb:fJ (ds.take l.length) (es.take l.length)
    .simp
    .simpa using hr
   .cases hk
  .cases hk
theorem kX:∀(d:Nat) {t:TypeId} {ks:List Kd},gL P d t=some ks->jG P t=some ks.length/\(eG P t=false->ks.length=1)/\∃u,P.underlying t=some u
 |0,t,ks,hk=>by simp[gL]at hk
 |d+1,t,ks,hk=>by
  unfold gL at hk;split at hk
  .rename_i hu
   split at hk
   .rename_i hs;cases hk;exact⟨hs,fun _=>rfl,_,hu⟩
   .cases hk
  .rename_i hu
   split at hk
   .rename_i hs;cases hk;exact⟨hs,fun _=>rfl,_,hu⟩
   .cases hk
  .rename_i hu
   split at hk
   .rename_i hs;cases hk;exact⟨hs,fun _=>rfl,_,hu⟩
   .cases hk
  .rename_i fs hu
   split at hk
   .cases hk
   split at hk
   .rename_i l hl
    split at hk
    .rename_i hs;cases hk;exact⟨hs,fun h=>by simp[eG,hu]at h,_,hu⟩
    .cases hk
   .cases hk
  .cases hk
end
theorem kj{t:TypeId}{ks:List Kd}(hk:y5 P t=some ks)(ha:eG P t=true){xs ys:List Value}{ds es:List Dt}(hx:DRs K h xs ds)(hy:DRs K h ys es)(h1:zF ks ds)(h2:zF ks es)(x y:Operand) :
  (do eqGuard .eql t x y (.agg xs.toArray) (.agg ys.toArray);binOp .eql t (.agg xs.toArray) (.agg ys.toArray):Sem Value).run P w=.ok (.bool (fJ ds es)) w /\
  (do eqGuard .neq t x y (.agg xs.toArray) (.agg ys.toArray);binOp .neq t (.agg xs.toArray) (.agg ys.toArray):Sem Value).run P w=.ok (.bool (!fJ ds es)) w:=by
 unfold y5 at hk;split at hk
 .cases hk
 rename_i hg
 have hg':P.eqGuardType P.depth t=false:=by simpa using hg
 have hq:=M3 (P:=P) w 60 (t:=t) 9940 hk hx hy h1 h2;simp only[zcc,ha,if_true]at hq;constructor
 .simp only[Sem.run_bind,run_eqGuard_agg _ _ _ _ _ _ _ hg',Result.andThen_ok,run_eql_struct]
  rw[show(10000:Nat)=60+9940 from rfl,hq];rfl
 .simp only[Sem.run_bind,run_eqGuard_agg _ _ _ _ _ _ _ hg',Result.andThen_ok,run_neq_struct]
  rw[show(10000:Nat)=60+9940 from rfl,hq];rfl
end
def zr:List Value->List Dt
 |.bool x::l=>.b x::zr l
 |.int k n::l=>.i k n::zr l
 |.string s::l=>.s s.data.toList::zr l
 |.slice none 0 0::l=>.l []::zr l
 |_=>[]
def HJ(ti:Ti)(H:List Ob)(x i:Va):Pv:=match i with
 |.p (.i _ n)=>match ti.kind,x with
  |.slice _ esz _ ez,.p (.l rows)=>⟨.rp (rows.getD n.toNat (zr ez)),(rows.getD n.toNat (zr ez)).length=esz/\0<=n/\n<rows.length⟩
  |.slice _ esz _ ez,.full rows=>⟨.rp (rows.getD n.toNat (zr ez)),(rows.getD n.toNat (zr ez)).length=esz/\0<=n/\n<rows.length⟩
  |.slice _ esz _ _,.buf o=>match sW H o with
   |some (_,sz,rows,_)=>⟨.el o sz n.toNat 0,sz=esz/\0<=n/\n<rows.length⟩
   |none=>dD
  |.slice _ esz _ _,.vw o sz a m=>match sW H o with
   |some (_,sz',_,_)=>⟨.el o sz (a+n.toNat) 0,sz=esz/\sz=sz'/\0<=n/\n<m⟩
   |none=>dD
  |.slice _ esz _ _,.cs o m=>⟨.ptr o n.toNat,esz=1/\0<=n/\n<m⟩
  |.arr len _ esz _,.ptr o off=>match dT H o with
   |.buf _ sz rows=>⟨.el o sz n.toNat 0,sz=esz/\off=0/\len=rows.length/\0<=n/\n<len⟩
   |_=>⟨.ptr o (off+n.toNat * esz),0<=n/\n<len⟩
  |.arr len _ esz _,.rp row=>⟨.rp (row.drop (n.toNat * esz)),0<=n/\n<len⟩
  |.arr len _ esz _,.raw (.pointer (some ⟨b,0,none⟩))=>match Tabs.tab b with
   |some (k,l)=>⟨.rp [.i k (l.getD n.toNat 0)],esz=1/\l.length=len/\0<=n/\n<len⟩
   |none=>dD
  |_,_=>dD
 |_=>dD
def H5(ti:Ti)(f:Nat)(x:Va):Pv:=match ti.kind with
 |.struct fs=>match fs[f]? with
  |some (fo,fsz,_)=>match x with
   |.ptr o off=>⟨.ptr o (off+fo),0<fsz⟩
   |.rp row=>⟨.rp (row.drop fo),0<fsz⟩
   |.el o sz i off=>⟨.el o sz i (off+fo),0<fsz⟩
   |_=>dD
  |none=>dD
 |_=>dD
def jg(ti:Ti)(f:Nat)(x:Va):Pv:=match ti.kind,x with
 |.struct fs,.agg cs=>match fs[f]? with
  |some (fo,fsz,ag)=>bif ag then⟨.agg ((cs.drop fo).take fsz),True⟩else⟨C0 cs fo,fo<cs.length⟩
  |none=>dD
 |_,_=>dD
def ja(ti:Ti)(x i:Va):Pv:=match ti.kind,x,i with
 |.str,.p (.s s),.p (.i _ n)=>⟨.p (.i .u8 (s.getD n.toNat 0).toNat),0<=n/\n<s.length⟩
 |.arr len _ esz ag,.agg cs,.p (.i _ n)=>bif ag then⟨.agg ((cs.drop (n.toNat * esz)).take esz),0<=n/\n<len⟩else⟨C0 cs (n.toNat * esz),0<=n/\n<len/\n.toNat * esz<cs.length⟩
 |_,_,_=>dD
def HH(x:Va)(i:Nat):Pv:=match x with
 |.tup vs=>⟨C0 vs i,i<vs.length⟩
 |_=>dD
theorem mG{l:List Va}{j:Nat}(h:j<l.length):l[j]?=some (C0 l j):=by
 unfold C0;rw[drop_eq_getElem_cons h];exact getElem?_eq_getElem h
theorem Ow{P:Program}:∀{fs:List Field} {l:List (Nat×Nat×Bool)},Ak P fs=some l->∀{f:Nat} {x:Nat×Nat×Bool},l[f]?=some x->∃fd,fs[f]?=some fd/\fd.offset=x.1/\jG P fd.type=some x.2.1/\eG P fd.type=x.2.2/\∃d,P.underlying fd.type=some d
 |[],l,h,f,x,hx=>by simp only[Ak]at h;cases h;simp at hx
 |fd::fs,l,h,f,x,hx=>by
  simp only[Ak]at h;split at h
  .rename_i n d l' h1 h3 h2
   cases h
   cases f with
   |zero=>simp at hx;subst hx;exact⟨fd,rfl,rfl,h1,rfl,_,h3⟩
   |succ f=>simp at hx;simpa using Ow h2 hx
  .cases h
section
variable {K:Nat->Prop} {G:List Gh} {H:List Ob} {w:World} {P:Program}
theorem N0{t:TypeId}{ti:Ti}(ht:dM P t=some ti){fs:List (Nat×Nat×Bool)}(hk:ti.kind=.struct fs):∃fields,P.underlying t=some (.struct fields)/\Ak P fields.toList=some fs:=by
 obtain⟨d,h1,h2,h3⟩:=vy ht;rw[hk]at h2
 cases d <;> simp only[vK]at h2 <;> try (cases h2)
 case slice e=>split at h2 <;> cases h2
 case array n e=>split at h2 <;> cases h2
 case struct fields =>
  split at h2
  .cases h2;exact⟨fields,h1,by assumption⟩
  .cases h2
theorem lD{t:TypeId}{ti:Ti}(ht:dM P t=some ti){e esz eb:Nat}{ez:List Value}(hk:ti.kind=.slice e esz eb ez):P.underlying t=some (.slice e)/\(∃i,P.info? e=some i/\i.size=esz/\i.bytes=eb)/\y7 P e=some ez:=by
 obtain⟨d,h1,h2,h3⟩:=vy ht;rw[hk]at h2
 cases d <;> simp only[vK]at h2 <;> try (cases h2)
 case array n e=>split at h2 <;> cases h2
 case struct fields=>split at h2 <;> cases h2
 case slice e' =>
  split at h2
  .cases h2;exact⟨h1,⟨_,by assumption,rfl,rfl⟩,by assumption⟩
  .cases h2
theorem Dc{t:TypeId}{ti:Ti}(ht:dM P t=some ti){n e esz:Nat}{ag:Bool}(hk:ti.kind=.arr n e esz ag):P.underlying t=some (.array n e)/\jG P e=some esz/\eG P e=ag/\∃d,P.underlying e=some d:=by
 obtain⟨d,h1,h2,h3⟩:=vy ht;rw[hk]at h2
 cases d <;> simp only[vK]at h2 <;> try (cases h2)
 case slice e=>split at h2 <;> cases h2
 case struct fields=>split at h2 <;> cases h2
 case array n' e' =>
  split at h2
  .cases h2;exact⟨h1,by assumption,rfl,_,by assumption⟩
  .cases h2
theorem Dd{t:TypeId}{ti:Ti}(ht:dM P t=some ti)(hk:ti.kind=.str):P.underlying t=some .string:=by
 obtain⟨d,h1,h2,h3⟩:=vy ht;rw[hk]at h2
 cases d <;> simp only[vK]at h2 <;> try (cases h2)
 case slice e=>split at h2 <;> cases h2
 case array n e=>split at h2 <;> cases h2
 case struct fields=>split at h2 <;> cases h2
 case string=>exact h1
theorem iU{t:TypeId}{ti:Ti}{k:IntKind}(ht:dM P t=some ti)(hk:ti.kind=.int k):P.underlying t=some (.int k):=by
 obtain⟨d,h1,h2,h3⟩:=vy ht;rw[hk]at h2
 cases d <;> simp only[vK]at h2 <;> try (cases h2)
 case slice e=>split at h2 <;> cases h2
 case array n e=>split at h2 <;> cases h2
 case struct fields=>split at h2 <;> cases h2
 case int=>exact h1
theorem pY{t:TypeId}{n:Nat}(h:jG P t=some n):(sizeOf t).run P w=.ok n w:=by
 unfold jG at h
 cases hi:P.info? t with
 |none=>simp[hi]at h
 |some i=>simp[hi]at h;simp[sizeOf,typeInfo,hi,h]
theorem lN{h:Array Obj}{b off:Nat}{cs:Array Value}{T:TypeId}{fr:Nat×Nat}{vs:List Value}{row:List Dt}(hK:K b)(hb:h[b]?=some (.cells cs T fr))(hv:∀j v,vs[j]?=some v->cs[off+j]?=some v)(hd:DRs K h vs row)(n:Nat) :
  VR K h G (.pointer (some ⟨b,off+n,none⟩)) (.rp (row.drop n)):=by
 simp only[VR];exact⟨b,off+n,cs,T,fr,vs.drop n,rfl,hK,hb,fun j v hj=>by rw[getElem?_drop]at hj;rw[Nat.add_assoc];exact hv _ v hj,hd.drop n⟩
theorem CP{h:Array Obj}{c:Value}{rows:List (List Dt)}(hc:DR K h c (.l rows)){i:Nat}(hi:i<rows.length)(z:List Dt) :
  ∃b off cap,c=.slice (some ⟨b,off,none⟩) rows.length cap/\VR K h G (.pointer (some ⟨b,off+i*(rows.getD i z).length,none⟩)) (.rp (rows.getD i z)):=by
 simp only[DR]at hc
 rcases hc with⟨_,rfl⟩|⟨b,off,cap,cs,T,fr,sz,vs,rfl,hK,hb,_,_,hv,hd⟩
 .simp at hi
 obtain⟨h1,h2⟩:=hd.get i hi;rw[show rows.getD i []=rows.getD i z by simp[getD_eq_getElem?_getD,hi]]at h1 h2;refine⟨b,off,cap,rfl,?_⟩;simp only[VR];rw[h2];refine⟨b,off+i*sz,cs,T,fr,_,rfl,hK,hb,fun j v hj=>?_,h1⟩;rw[getElem?_take]at hj;split at hj
 .rw[getElem?_drop]at hj;rw[Nat.add_assoc];exact hv _ v hj
 .cases hj
theorem ot{t:TypeId}{ti:Ti}(ht:dM P t=some ti)(hS:St K G H w){c ci:Value}{x i:Va}(hc:VR K w.heap G c x)(hi:VR K w.heap G ci i)(hok:(HJ ti H x i).ok) :
  ∃c',(Instr.indexAt t c ci).run P w=.ok c' w/\VR K w.heap G c' (HJ ti H x i).v:=by
 unfold HJ at hok|-;split at hok
 rotate_left
 .exact hok.elim
 rename_i k n
 simp only[VR,DR]at hi;obtain⟨rfl,_⟩:=hi
 have slice_run:∀{e esz eb:Nat} {ez:List Value},ti.kind=.slice e esz eb ez->∀{b off m cap:Nat},0<=n->n<m->(Instr.indexAt t (.slice (some ⟨b,off,none⟩) m cap) (.int k n)).run P w=.ok (.pointer (some ⟨b,off+n.toNat * esz,none⟩)) w:=by
  intro e esz eb ez hk b off m cap h0 h1;obtain⟨hu,⟨i,hi1,hi2,_⟩,_⟩:=lD ht hk;have hs:(sizeOf e).run P w=.ok esz w:=pY (by simp[jG,hi1,hi2]);simp[Instr.indexAt,asIntOf,run_underlying hu,h0,h1,hs,m0]
 split at hok
 .rename_i hk
  obtain⟨he,h0,h1⟩:=hok;simp only[VR]at hc;obtain⟨b,off,cap,rfl,hr⟩:=CP (G:=G) hc (i:=n.toNat) (by omega) (zr _);rw[he]at hr;exact⟨_,slice_run hk h0 (by exact h1),hr⟩
 .rename_i hk
  obtain⟨he,h0,h1⟩:=hok;simp only[VR]at hc;obtain⟨b,off,cap,rfl,hr⟩:=CP (G:=G) hc.1 (i:=n.toNat) (by omega) (zr _);rw[he]at hr;exact⟨_,slice_run hk h0 (by exact h1),hr⟩
 .rename_i hk
  split at hok
  rotate_left
  .exact hok.elim
  rename_i o T sz rows fx hx
  obtain⟨rfl,h0,h1⟩:=hok;simp only[VR]at hc;obtain⟨g,hg,rfl,_⟩:=hc;obtain⟨hlim,xs,hxs,hh⟩:=hS.bufOb hx hg
  rcases hh with⟨_,rfl,_⟩|⟨b,cap,cur,fr,hsv,hgb,hb,hfr,h4,h5,h6,h7⟩
  .simp at h1;omega
  refine⟨_,by rw[hsv];exact slice_run hk h0 h1,?_⟩;simp only[VR];exact⟨g,b,_,_,hg,hgb,hsv,by simp⟩
 .rename_i hk
  split at hok
  rotate_left
  .exact hok.elim
  rename_i o sz a m T sz' rows fx hx
  obtain⟨rfl,rfl,h0,h1⟩:=hok;simp only[VR]at hc;obtain⟨g,ad,N,cap,hg,hsv,haN,ad',cap',rfl,hnc,_,hpos⟩:=hc;obtain⟨b,hgb,rfl,rfl⟩:=hpos (by omega);refine⟨_,slice_run hk h0 h1,?_⟩;simp only[VR];exact⟨g,b,_,_,hg,hgb,hsv,by rw[Nat.add_mul,Nat.add_zero]⟩
 .rename_i hk
  obtain⟨rfl,h0,h1⟩:=hok;simp only[VR]at hc;obtain⟨g,b,hg,hgb,rfl⟩:=hc;refine⟨_,slice_run hk h0 h1,?_⟩;simp only[VR];exact⟨g,b,hg,hgb,by rw[Nat.zero_add,Nat.mul_one]⟩
 .rename_i hk
  simp only[VR]at hc;obtain⟨g,b,hg,hgb,rfl⟩:=hc;obtain⟨hu,hs,_⟩:=Dc ht hk;split at hok
  .rename_i T sz rows hx
   obtain⟨rfl,rfl,hl,h0,h1⟩:=hok;obtain⟨hlim,xs,hxs,hh⟩:=hS.ob _ g _ hg (zJ hx (by simp))
   rcases hh with⟨_,_,hn⟩|⟨b',cap,cur,fr,hsv,hgb',_⟩
   .rw[hgb]at hn;cases hn
   obtain rfl:b'=b:=by rw[hgb]at hgb';exact(Option.some.inj hgb').symm
   refine⟨_,by simp only[Instr.indexAt,Instr.sureAddr,asIntOf,run_underlying hu,h0,h1,pY hs,m0,Sem.run_bind,Sem.run_pure,Result.andThen_ok,true_and,if_true];rfl,?_⟩;simp only[VR];exact⟨g,b',_,_,hg,hgb,hsv,by rw[Nat.zero_add,Nat.add_zero]⟩
  .obtain⟨h0,h1⟩:=hok
   refine⟨_,by simp only[Instr.indexAt,Instr.sureAddr,asIntOf,run_underlying hu,h0,h1,pY hs,m0,Sem.run_bind,Sem.run_pure,Result.andThen_ok,true_and,if_true];rfl,?_⟩;simp only[VR];exact⟨g,b,hg,hgb,rfl⟩
 .rename_i hk
  simp only[VR]at hc;obtain⟨b,off,cs,T,fr,vs,rfl,hK,hb,hv,hd⟩:=hc;obtain⟨hu,hs,_⟩:=Dc ht hk;obtain⟨h0,h1⟩:=hok;exact⟨_,by simp only[Instr.indexAt,Instr.sureAddr,asIntOf,run_underlying hu,h0,h1,pY hs,m0,Sem.run_bind,Sem.run_pure,Result.andThen_ok,true_and,if_true],lN hK hb hv hd _⟩
 .rename_i hk
  split at hok
  rotate_left
  .exact hok.elim
  rename_i kk l ht0
  obtain⟨he,hlen,h0,h1⟩:=hok;subst he;simp only[VR]at hc;subst hc;obtain⟨hu,hs,_⟩:=Dc ht hk;obtain⟨hK,⟨T,fr,hb⟩,hfit⟩:=hS.tb.1 _ _ _ ht0
  have hn:n.toNat<l.length:=by omega
  refine⟨_,by simp only[Instr.indexAt,Instr.sureAddr,asIntOf,run_underlying hu,h0,h1,pY hs,m0,Sem.run_bind,Sem.run_pure,Result.andThen_ok,true_and,if_true];rfl,?_⟩;simp only[VR];refine⟨_,_,_,T,fr,[.int kk (l.getD n.toNat 0)],rfl,hK,hb,fun j v hj=>?_,?_⟩
  .cases j with
   |succ j=>simp at hj
   |zero =>
    simp at hj;subst hj;simp[getElem?_eq_getElem hn]
  .simp only[DRs,DR]
   refine⟨_,[],rfl,⟨rfl,hfit _ ?_⟩,rfl⟩;simp[getElem?_eq_getElem hn]
 .exact hok.elim
theorem Sv{t:TypeId}{ti:Ti}(ht:dM P t=some ti){f:Nat}{c:Value}{x:Va}(hc:VR K w.heap G c x)(hok:(H5 ti f x).ok) :
  ∃c',(Instr.fieldAt t c f).run P w=.ok c' w/\VR K w.heap G c' (H5 ti f x).v:=by
 unfold H5 at hok|-;split at hok
 rotate_left
 .exact hok.elim
 rename_i fs hk
 split at hok
 rotate_left
 .exact hok.elim
 rename_i fo fsz ag hf
 obtain⟨fields,hu,hfs⟩:=N0 ht hk;obtain⟨fd,hfd,ho,hsz,_⟩:=Ow hfs hf;simp only at ho hsz
 have hfd':fields[f]?=some fd:=by simpa using hfd
 have run:∀(b off:Nat),0<fsz->(Instr.fieldAt t (.pointer (some ⟨b,off,none⟩)) f).run P w=.ok (.pointer (some ⟨b,off+fo,none⟩)) w:=by
  intro b off h0
  have:¬ fsz=0:=by omega
  simp[Instr.fieldAt,Instr.sureAddr,run_underlying hu,hfd',fieldPlace,pY hsz,this,m0,ho]
 split at hok
 .simp only[VR]at hc
  obtain⟨g,b,hg,hgb,rfl⟩:=hc;exact⟨_,run _ _ hok,by simp only[VR];exact⟨g,b,hg,hgb,rfl⟩⟩
 .simp only[VR]at hc
  obtain⟨b,off,cs,T,fr,vs,rfl,hK,hb,hv,hd⟩:=hc;exact⟨_,run _ _ hok,lN hK hb hv hd _⟩
 .simp only[VR]at hc
  obtain⟨g,b,n,cap,hg,hgb,hsv,rfl⟩:=hc;exact⟨_,run _ _ hok,by simp only[VR];exact⟨g,b,n,cap,hg,hgb,hsv,by rw[Nat.add_assoc]⟩⟩
 .exact hok.elim
theorem kf{t:TypeId}{n:Nat}(hn:jG P t=some n){d:TypeDesc}(hd:P.underlying t=some d)(cs:List Value)(off:Nat) :
  (eG P t=true->(part t cs.toArray off).run P w=.ok (.agg ((cs.drop off).take n).toArray) w)/\(eG P t=false->∀c,cs[off]?=some c->(part t cs.toArray off).run P w=.ok c w):=by
 have hag:(isAgg t).run P w=.ok (eG P t) w:=by
  simp only[isAgg,underlying,eG,Sem.run_bind,run_program,Result.andThen_ok,hd]
  cases d <;> rfl
 constructor
 .intro ha
  simp only[part,Sem.run_bind,hag,ha,Result.andThen_ok,if_true,pY hn];simp
 .intro ha c hc
  simp[part,hag,ha,hc]
theorem uf{t:TypeId}{ti:Ti}(ht:dM P t=some ti){f:Nat}{c:Value}{x:Va}(hc:VR K w.heap G c x)(hok:(jg ti f x).ok) :
  ∃c',(Instr.field t c f).run P w=.ok c' w/\VR K w.heap G c' (jg ti f x).v:=by
 unfold jg at hok|-;split at hok
 rotate_left
 .exact hok.elim
 rename_i fs cs hk
 split at hok
 rotate_left
 .exact hok.elim
 rename_i fo fsz ag hf
 obtain⟨fields,hu,hfs⟩:=N0 ht hk;obtain⟨fd,hfd,ho,hsz,hag,d,hd⟩:=Ow hfs hf;simp only at ho hsz hag
 have hfd':fields[f]?=some fd:=by simpa using hfd
 simp only[VR]at hc;obtain⟨vs,rfl,hvs⟩:=hc;obtain⟨h1,h2⟩:=kf (w:=w) hsz hd vs fo
 have run:∀r,(part fd.type vs.toArray fo).run P w=.ok r w->(Instr.field t (.agg vs.toArray) f).run P w=.ok r w:=by
  intro r hr;simp only[Instr.field,run_underlying hu,hfd',asAgg,Sem.run_bind,Sem.run_pure,Result.andThen_ok,ho,hr]
 cases ag <;> simp only[cond_true,cond_false]at hok|-
 .obtain⟨c,hc1,hc2⟩:=hvs.get fo _ (mG hok)
  exact⟨c,run _ (h2 hag c hc1),hc2⟩
 .refine⟨_,run _ (h1 hag),?_⟩
  simp only[VR];exact⟨_,rfl,(hvs.drop _).take _⟩
theorem tW{t:TypeId}{ti:Ti}(ht:dM P t=some ti){c ci:Value}{x i:Va}(hc:VR K w.heap G c x)(hi:VR K w.heap G ci i)(hok:(ja ti x i).ok) :
  ∃c',(Instr.index t c ci).run P w=.ok c' w/\VR K w.heap G c' (ja ti x i).v:=by
 unfold ja at hok|-;split at hok
 .rename_i s k n hk
  simp only[VR,DR]at hi hc;obtain⟨rfl,_⟩:=hi;obtain⟨rfl,_⟩:=hc;obtain⟨h0,h1⟩:=hok;have hu:=Dd ht hk
  have hn:n.toNat<s.length:=by omega
  have hsz:(⟨s.toArray⟩:ByteArray).size=s.length:=by simp[ByteArray.size]
  rw[run_index_string w t _ k n hu,dif_pos ⟨h0,by rw[hsz];exact h1⟩];refine⟨_,rfl,?_⟩
  have e:((⟨s.toArray⟩:ByteArray)[n.toNat]'(by rw[hsz];exact hn))=s.getD n.toNat 0:=by
   show s.toArray[n.toNat]=_
   simp[getElem?_eq_getElem hn]
  rw[e];refine lp ⟨by simp[lo],?_⟩;have:=(s.getD n.toNat 0).toNat_lt;simp only[hi];omega
 .rename_i len e esz ag cs k n hk
  simp only[VR,DR]at hi hc;obtain⟨rfl,_⟩:=hi;obtain⟨vs,rfl,hvs⟩:=hc;obtain⟨hu,hs,hag,d,hd⟩:=Dc ht hk;obtain⟨h1,h2⟩:=kf (w:=w) hs hd vs (n.toNat * esz)
  cases ag <;> simp only[cond_true,cond_false]at hok|-
  .obtain⟨h0,hn,hl⟩:=hok
   obtain⟨c,hc1,hc2⟩:=hvs.get _ _ (mG hl);exact⟨c,by simp only[Instr.index,asIntOf,run_underlying hu,h0,hn,pY hs,Sem.run_bind,Sem.run_pure,Result.andThen_ok,true_and,if_true];exact h2 hag c hc1,hc2⟩
  .obtain⟨h0,hn⟩:=hok
   refine⟨_,by simp only[Instr.index,asIntOf,run_underlying hu,h0,hn,pY hs,Sem.run_bind,Sem.run_pure,Result.andThen_ok,true_and,if_true];exact h1 hag,?_⟩;simp only[VR];exact⟨_,rfl,(hvs.drop _).take _⟩
 .exact hok.elim
theorem oH{i:Nat}{c:Value}{x:Va}(hc:VR K w.heap G c x)(hok:(HH x i).ok) :
  ∃c',(Instr.extract c i).run P w=.ok c' w/\VR K w.heap G c' (HH x i).v:=by
 unfold HH at hok|-;split at hok
 .simp only[VR]at hc
  obtain⟨vs,rfl,hvs⟩:=hc;obtain⟨c,hc1,hc2⟩:=hvs.get i _ (mG hok);exact⟨c,by simp[Instr.extract,hc1],hc2⟩
 .exact hok.elim
end
def gp{α:Type}(x:List α):Option Nat->Option Nat->List α
 |none,none=>x
 |some a,none=>x.drop a
 |none,some b=>x.take b
 |some a,some b=>(x.drop a).take (b-a)
def ff:Option Va->Option Nat
 |some (.p (.i _ n))=>some n.toNat
 |_=>none
def j2(m:Nat):Option Va->Prop
 |none=>True
 |some (.p (.i _ n))=>0<=n/\n<=m
 |some _=>False
def go:Option Va->Option Va->Prop
 |some (.p (.i _ a)),some (.p (.i _ b))=>a<=b
 |_,_=>True
def yE(x:Va)(l h m:Option Va):Pv:=match m with
 |none=>match x with
  |.p (.s s)=>⟨.p (.s (gp s (ff l) (ff h))),j2 s.length l/\j2 s.length h/\go l h⟩
  |.p (.l rows)=>⟨.p (.l (gp rows (ff l) (ff h))),j2 rows.length l/\j2 rows.length h/\go l h⟩
  |.full rows=>⟨.p (.l (gp rows (ff l) (ff h))),j2 rows.length l/\j2 rows.length h/\go l h⟩
  |.nils=>⟨.nils,j2 0 l/\j2 0 h⟩
  |_=>dD
 |some (.p (.i _ c))=>match x,h with
  |.p (.l rows),some (.p (.i _ b))=>⟨.full (gp rows (ff l) (some b.toNat)),b=c/\j2 rows.length l/\0<=b/\b<=rows.length/\go l h⟩
  |_,_=>dD
 |_=>dD
section
variable {K:Nat->Prop} {G:List Gh} {H:List Ob} {w:World} {P:Program}
def BR(K:Nat->Prop)(h:Array Obj)(G:List Gh)(c:Option Value)(x:Option Va):Prop:=match c,x with
 |none,none=>True
 |some c,some x=>VR K h G c x
 |_,_=>False
theorem jn{h:Array Obj}{c:Option Value}{x:Option Va}(hb:BR K h G c x){m:Nat}(hx:j2 m x) :
  (c=none/\x=none)∨∃k n,c=some (.int k n)/\x=some (.p (.i k n))/\0<=n/\n<=m:=by
 cases x with
 |none=>cases c <;> simp_all[BR]
 |some x =>
  cases c with
  |none=>simp[BR]at hb
  |some c =>
   unfold j2 at hx;split at hx
   .rename_i h;cases h
   .rename_i k n h
    cases h;simp only[BR,VR,DR]at hb;exact .inr ⟨k,n,by rw[hb.1],rfl,hx.1,hx.2⟩
   .exact hx.elim
theorem GS(isS:Bool)(len cap:Nat)(hlc:len<=cap){cl ch:Option Value}{l h:Option Va}{hp:Array Obj}(hl:BR K hp G cl l)(hh:BR K hp G ch h)(h1:j2 len l)(h2:j2 len h)(h3:go l h) :
  ∃a b,(Instr.sliceBounds isS len cap cl ch none).run P w=.ok (a,b,cap) w/\a<=b/\b<=len/\a=(ff l).getD 0/\b=(ff h).getD len:=by
 rcases jn hl h1 with⟨rfl,rfl⟩|⟨kl,nl,rfl,rfl,hl0,hl1⟩ <;> rcases jn hh h2 with⟨rfl,rfl⟩|⟨kh,nh,rfl,rfl,hh0,hh1⟩
 .exact⟨0,len,by simp[Instr.sliceBounds],by omega,by omega,rfl,rfl⟩
 .exact⟨0,nh.toNat,by simp[Instr.sliceBounds,run_sliceBound _ _ _ _ _ hh0 (show nh<=(cap:Int)by omega)],by omega,by omega,rfl,rfl⟩
 .exact⟨nl.toNat,len,by simp[Instr.sliceBounds,run_sliceBound _ _ _ _ _ hl0 (show nl<=(len:Int)by omega)],by omega,by omega,rfl,rfl⟩
 .simp only[go]at h3
  exact⟨nl.toNat,nh.toNat,by simp[Instr.sliceBounds,run_sliceBound _ _ _ _ _ hh0 (show nh<=(cap:Int)by omega),run_sliceBound _ _ _ _ _ hl0 (show nl<=(nh.toNat:Int)by omega)],by omega,by omega,rfl,rfl⟩
theorem my{α:Type}(x:List α)(l h:Option Nat)(ha:l.getD 0<=h.getD x.length)(hb:h.getD x.length<=x.length):gp x l h=(x.drop (l.getD 0)).take (h.getD x.length-l.getD 0):=by
 cases l <;> cases h <;> simp[gp]
 rw[take_of_length_le (by simp)]
theorem Ig{α:Type}(x:List α)(l h:Option Nat)(ha:l.getD 0<=h.getD x.length)(hb:h.getD x.length<=x.length):(gp x l h).length=h.getD x.length-l.getD 0:=by
 rw[my x l h ha hb];simp;omega
def eP(n:Nat)(rows:List (List Dt)):Prop:=∀r∈rows,r.length=n
theorem DRss.sz{hp:Array Obj}{n sz:Nat}{vs:List Value}:∀{rows:List (List Dt)},DRss K hp sz vs rows->eP n rows->rows≠[]->sz=n
 |[],_,_,h=>absurd rfl h
 |r::rs,hd,hs,_=>by
  simp only[DRss]at hd;obtain⟨_,_,_,h2,_⟩:=hd;have:=hs r (by simp);omega
theorem CQ{hp:Array Obj}{b off esz:Nat}{rows:List (List Dt)}(hc:∃cs T fr sz vs,K b/\hp[b]?=some (.cells cs T fr)/\rows.length<=dJ/\(∀j v,vs[j]?=some v->cs[off+j]?=some v)/\DRss K hp sz vs rows)(hsz:eP esz rows)(l h:Option Nat)(ha:l.getD 0<=h.getD rows.length)(hb:h.getD rows.length<=rows.length)(m:Nat)(hm:h.getD rows.length<=m) :
  DR K hp (.slice (some (if m=l.getD 0 then⟨b,off,none⟩else(⟨b,off,none⟩:Addr).add (l.getD 0*esz))) (h.getD rows.length-l.getD 0) (m-l.getD 0)) (.l (gp rows l h)):=by
 simp only[DR];obtain⟨cs,T,fr,sz,vs,hK,hbl,hlim,hv,hd⟩:=hc;have hlen:=Ig rows l h ha hb
 have hdd:DRss K hp sz ((vs.drop (l.getD 0*sz)).take ((h.getD rows.length-l.getD 0)*sz)) (gp rows l h):=by
  rw[my rows l h ha hb];exact(hd.drop _).take _
 rw[<-hlen]
 by_cases hz:m=l.getD 0
 .have h0:(gp rows l h).length=0:=by omega
  have h0':gp rows l h=[]:=length_eq_zero_iff.1 h0;rw[if_pos hz,h0'];exact .inr ⟨b,off,m-l.getD 0,cs,T,fr,sz,[],rfl,hK,hbl,by simp,by simp,by simp,by simp[DRss]⟩
 .rw[if_neg hz,m0]
  refine .inr ⟨b,off+l.getD 0*esz,m-l.getD 0,cs,T,fr,sz,_,rfl,hK,hbl,by omega,by omega,fun j v hj=>?_,hdd⟩;rw[getElem?_take]at hj;split at hj
  .rw[getElem?_drop]at hj
   have:=hv _ v hj
   have hne:rows≠[]:=by
    rintro rfl;have:=hd;simp only[DRss]at this;subst this;simp at hj
   rw[<-hd.sz hsz hne,Nat.add_assoc];exact this
  .cases hj
theorem tE{t:TypeId}{ti:Ti}(ht:dM P t=some ti){c:Value}{cl ch cm:Option Value}{x:Va}{l h m:Option Va}(hc:VR K w.heap G c x)(hl:BR K w.heap G cl l)(hh:BR K w.heap G ch h)(hm:BR K w.heap G cm m)
  (hk:ti.kind=.str/\(∃s,x=.p (.s s))∨(∃e esz eb ez,ti.kind=.slice e esz eb ez/\((∃rows,x=.p (.l rows)/\eP esz rows)∨(∃rows,x=.full rows/\eP esz rows)∨x=.nils)))
  (hok:(yE x l h m).ok) :
  ∃c',(Instr.sliceAt t c cl ch cm).run P w=.ok c' w/\VR K w.heap G c' (yE x l h m).v:=by
 rcases hk with⟨hk,s,rfl⟩|⟨e,esz,eb,ez,hk,hx⟩
 .have hu:=Dd ht hk
  cases m with
  |some m=>unfold yE at hok;cases m <;> first|exact hok.elim|(rename_i d;cases d <;> exact hok.elim)
  |none =>
   cases cm with
   |some cm=>simp[BR]at hm
   |none =>
    simp only[yE]at hok|-;obtain⟨h1,h2,h3⟩:=hok;simp only[VR,DR]at hc;obtain⟨rfl,hlim⟩:=hc
    have hsz:(⟨s.toArray⟩:ByteArray).size=s.length:=by simp[ByteArray.size]
    obtain⟨a,b,hr,hab,hbl,rfl,rfl⟩:=GS (P:=P) (w:=w) false s.length s.length (Nat.le_refl _) hl hh h1 h2 h3;refine⟨_,by simp only[Instr.sliceAt,Instr.slice,run_underlying hu,Sem.run_bind,Result.andThen_ok,Option.isSome_none,Bool.false_eq_true,if_false,Sem.run_pure,hsz,hr];rfl,?_⟩
    have e:(⟨s.toArray⟩:ByteArray).extract ((ff l).getD 0) ((ff h).getD s.length)=⟨(gp s (ff l) (ff h)).toArray⟩:=by
     rw[my s _ _ hab hbl];apply ByteArray.ext;rw[ByteArray.data_extract];simp
    rw[e];refine ym ?_
    rw[Ig s _ _ hab hbl];omega
 .obtain⟨hu,⟨i,hi1,hi2,hi3⟩,_⟩:=lD ht hk
  have hes:(sizeOf e).run P w=.ok esz w:=pY (by simp[jG,hi1,hi2])
  cases m with
  |none =>
   cases cm with
   |some cm=>simp[BR]at hm
   |none =>
    -- a slice of pure data,not nil or nil
    have main:∀(rows:List (List Dt)),eP esz rows->DR K w.heap c (.l rows)->j2 rows.length l/\j2 rows.length h/\go l h ->
      ∃c',(Instr.sliceAt t c cl ch none).run P w=.ok c' w/\DR K w.heap c' (.l (gp rows (ff l) (ff h))):=by
     intro rows hsz hd ⟨h1,h2,h3⟩;have hd':=hd;simp only[DR]at hd'
     rcases hd' with⟨⟨a0,rfl⟩,rfl⟩|⟨b,off,cap,cs,T,fr,sz,vs,rfl,hK,hbl,hle,hlim,hv,hdd⟩
     .obtain⟨a,b,hr,hab,hbl,ha',hb'⟩:=GS (P:=P) (w:=w) true 0 0 (Nat.le_refl _) hl hh h1 h2 h3
      have hb0:b=0:=by omega
      have ha0:a=0:=by omega
      subst hb0;subst ha0
      refine⟨.slice a0 0 0,by cases a0 <;> simp only[Instr.sliceAt,Instr.slice,run_underlying hu,Sem.run_bind,Result.andThen_ok,hr,hes,Sem.run_pure,if_true,Nat.sub_self],?_⟩;simp only[DR];left;refine⟨⟨a0,rfl⟩,?_⟩;have:=Ig ([]:List (List Dt)) (ff l) (ff h) (by rw[<-ha'];omega) (by simp only[length_nil];rw[<-hb'];omega);exact length_eq_zero_iff.1 (by rw[this];simp only[length_nil];rw[<-hb',Nat.zero_sub])
     .obtain⟨a,b',hr,hab,hbl',rfl,rfl⟩:=GS (P:=P) (w:=w) true rows.length cap hle hl hh h1 h2 h3
      refine⟨_,by simp only[Instr.sliceAt,Instr.slice,run_underlying hu,Sem.run_bind,Result.andThen_ok,hr,hes,Sem.run_pure];rfl,?_⟩;have:=CQ ⟨cs,T,fr,sz,vs,hK,hbl,hlim,hv,hdd⟩ hsz (ff l) (ff h) hab hbl' cap (by omega)
      split <;> rename_i hz <;> simpa [hz]using this
    rcases hx with⟨rows,rfl,hsz⟩|⟨rows,rfl,hsz⟩|rfl
    .simp only[yE]at hok|-
     simp only[VR]at hc|-;exact main rows hsz hc hok
    .simp only[yE]at hok|-
     simp only[VR]at hc|-;exact main rows hsz hc.1 hok
    .simp only[yE]at hok|-
     simp only[VR]at hc;subst hc;obtain⟨h1,h2⟩:=hok
     have h3:go l h:=by
      rcases jn hl h1 with⟨_,rfl⟩|⟨kl,nl,_,rfl,hl0,hl1⟩
      .simp[go]
      .rcases jn hh h2 with⟨_,rfl⟩|⟨kh,nh,_,rfl,hh0,hh1⟩
       .simp[go]
       .simp only[go];omega
     obtain⟨a,b,hr,hab,hbl,ha',hb'⟩:=GS (P:=P) (w:=w) true 0 0 (Nat.le_refl _) hl hh h1 h2 h3
     have hb0:b=0:=by omega
     have ha0:a=0:=by omega
     subst hb0;subst ha0
     exact⟨.slice none 0 0,by simp only[Instr.sliceAt,Instr.slice,run_underlying hu,Sem.run_bind,Result.andThen_ok,hr,hes,Sem.run_pure,if_true,Nat.sub_self],by simp only[VR]⟩
  |some m =>
   unfold yE at hok|-;split at hok
   .rename_i hh;cases hh
   .rename_i km c0 heq
    cases heq;split at hok
    rotate_left
    .exact hok.elim
    rename_i rows kh b0
    obtain⟨rfl,h1,hb0,hb1,h3⟩:=hok
    have hsz:eP esz rows:=by
     rcases hx with⟨rows',he,hsz⟩|⟨_,he,_⟩|he
     .cases he;exact hsz
     .cases he
     .cases he
    cases ch with
    |none=>simp[BR]at hh
    |some ch =>
     cases cm with
     |none=>simp[BR]at hm
     |some cm =>
      simp only[BR,VR,DR]at hh hm;obtain⟨rfl,_⟩:=hh;obtain⟨rfl,_⟩:=hm;simp only[VR]at hc;have hd':=hc;simp only[DR]at hd'
      have hlb:∃a,a=(ff l).getD 0/\a<=b0.toNat/\(match cl with|some v=>Instr.sliceBound v b0.toNat .slice3C|none=>pure 0:Sem Nat).run P w=.ok a w:=by
       rcases jn hl h1 with⟨rfl,rfl⟩|⟨kl,nl,rfl,rfl,hl0,hl1⟩
       .exact⟨0,rfl,by omega,rfl⟩
       .simp only[go]at h3
        exact⟨nl.toNat,rfl,by omega,run_sliceBound _ _ _ _ _ hl0 (by omega)⟩
      obtain⟨a,ha,hab,hla⟩:=hlb
      have hcap:∀(base:Option Addr) (cap:Nat),rows.length<=cap->(Instr.sliceBounds true rows.length cap cl (some (.int kh b0)) (some (.int km b0))).run P w=.ok (a,b0.toNat,b0.toNat) w:=by
       intro base cap hle;have e1:=run_sliceBound (P:=P) (w:=w) km b0 cap .slice3Acap hb0 (show b0<=(cap:Int)by omega);have e2:=run_sliceBound (P:=P) (w:=w) kh b0 b0.toNat .slice3B hb0 (show b0<=(b0.toNat:Int)by omega);clear hx hk hi1 hi2 hi3 hes hd' hc;unfold Instr.sliceBounds
       cases cl with
       |none =>
        simp only[Sem.run_pure]at hla;cases hla;simp only[Sem.run_bind,if_true,e1,Result.andThen_ok,e2,Sem.run_pure]
       |some v =>
        simp only[Option.isSome_some,if_true,Sem.run_bind,e1,Result.andThen_ok,e2,Sem.run_pure];simp only at hla
        rw[hla];rfl
      rcases hd' with⟨⟨a0,rfl⟩,rfl⟩|⟨b,off,cap,cs,T,fr,sz,vs,rfl,hK,hbl,hle,hlim,hv,hdd⟩
      .have hb00:b0.toNat=0:=by simp at hb1;omega
       have ha0:a=0:=by omega
       have hr:=hcap none 0 (by simp);simp only[length_nil]at hr;refine⟨.slice a0 0 0,by cases a0 <;> simp only[Instr.sliceAt,Instr.slice,run_underlying hu,Sem.run_bind,Result.andThen_ok,hr,hes,Sem.run_pure,hb00,ha0,if_true,Nat.sub_self],?_⟩
       have hc0:gp ([]:List (List Dt)) (ff l) (some b0.toNat)=[]:=by
        apply length_eq_zero_iff.1;rw[Ig _ _ _ (by simp only[Option.getD_some];omega) (by simp only[Option.getD_some];simp;omega)]
        simp only[Option.getD_some];omega
       rw[hc0];simp only[VR,DR];exact⟨.inl ⟨⟨a0,rfl⟩,trivial⟩,a0,rfl⟩
      .have hr:=hcap (some ⟨b,off,none⟩) cap hle
       have hlc:=CQ ⟨cs,T,fr,sz,vs,hK,hbl,hlim,hv,hdd⟩ hsz (ff l) (some b0.toNat) (by simp only[Option.getD_some];omega) (by simp only[Option.getD_some];omega) b0.toNat (by simp);have hlen:=Ig rows (ff l) (some b0.toNat) (by simp only[Option.getD_some];omega) (by simp only[Option.getD_some];omega);simp only[Option.getD_some,<-ha]at hlc hlen;refine⟨_,by simp only[Instr.sliceAt,Instr.slice,run_underlying hu,Sem.run_bind,Result.andThen_ok,hr,hes,Sem.run_pure];rfl,?_⟩;simp only[VR];refine⟨?_,⟨if b0.toNat=a then some ⟨b,off,none⟩else some ((⟨b,off,none⟩:Addr).add (a*esz)),?_⟩⟩
       .split <;> rename_i hz <;> simpa [hz]using hlc
       .rw[hlen];rfl
   .exact hok.elim
def lF(ti:Ti)(H:List Ob):Va->Option (Nat×Nat×Nat×Nat×Prop)
 |.buf o=>match ti.kind,sW H o with
  |.slice _ esz _ _,some (_,sz,rows,_)=>some (o,sz,0,rows.length,sz=esz)
  |_,_=>none
 |.vw o sz a n=>match ti.kind with
  |.slice _ esz _ _=>some (o,sz,a,n,sz=esz)
  |_=>none
 |.ptr o 0=>match ti.kind,dT H o with
  |.arr len _ esz _,.buf _ sz rows=>some (o,sz,0,len,sz=esz/\rows.length=len)
  |_,_=>none
 |_=>none
def m9(r:Nat×Nat×Nat×Nat×Prop)(l h m:Option Va):Pv:=match m with
 |none=>⟨.vw r.1 r.2.1 (r.2.2.1+(ff l).getD 0) ((ff h).getD r.2.2.2.1-(ff l).getD 0),r.2.2.2.2/\j2 r.2.2.2.1 l/\j2 r.2.2.2.1 h/\go l h⟩
 |some _=>dD
theorem vC{g:Gh}{ad:Option Addr}{N sz a n l h:Nat}{ad':Option Addr}{m cap:Nat}(h1:a+n<=N)(hc:a+m<=cap)(h3:0<m->∃b,g.blk=some b/\ad=some ⟨b,0,none⟩/\ad'=some ⟨b,a*sz,none⟩)(hl:l<=h)(hh:h<=n)(hm:n<=m) :
  Pm (.slice (if m=l then ad' else ad'.map (·.add (l*sz))) (h-l) (m-l)) g.blk ad N cap sz (a+l) (h-l):=by
 refine⟨by omega,_,_,rfl,by omega,by omega,fun hp=>?_⟩;obtain⟨b,e1,e2,e3⟩:=h3 (by omega);refine⟨b,e1,e2,?_⟩;rw[if_neg (by omega),e3,Option.map_some,m0,Nat.add_mul]
theorem vD{t:TypeId}{ti:Ti}(ht:dM P t=some ti)(hS:St K G H w){c:Value}{cl ch cm:Option Value}{x:Va}{l h m:Option Va}(hc:VR K w.heap G c x)(hl:BR K w.heap G cl l)(hh:BR K w.heap G ch h)(hm:BR K w.heap G cm m)
  {r:Nat×Nat×Nat×Nat×Prop} (hr:lF ti H x=some r) (hok:(m9 r l h m).ok) :
  ∃c',(Instr.sliceAt t c cl ch cm).run P w=.ok c' w/\VR K w.heap G c' (m9 r l h m).v:=by
 cases m with
 |some m=>exact hok.elim
 |none =>
  cases cm with
  |some cm=>simp[BR]at hm
  |none =>
   -- a cut of a slice
   have main:∀{o sz a n:Nat} {e esz eb:Nat} {ez:List Value},ti.kind=.slice e esz eb ez->sz=esz->j2 n l->j2 n h->go l h->VR K w.heap G c (.vw o sz a n) ->
     ∃c',(Instr.sliceAt t c cl ch none).run P w=.ok c' w/\VR K w.heap G c' (.vw o sz (a+(ff l).getD 0) ((ff h).getD n-(ff l).getD 0)):=by
    intro o sz a n e esz eb ez hk he h1 h2 h3 hv;subst he;obtain⟨hu,⟨i,hi1,hi2,hi3⟩,_⟩:=lD ht hk;have hes:(sizeOf e).run P w=.ok sz w:=pY (by simp[jG,hi1,hi2]);simp only[VR]at hv;obtain⟨g,ad,N,cap,hg,hsv,haN,ad',cap',rfl,hnc,hcc,hpos⟩:=hv;obtain⟨x,y,hr,hab,hbl,rfl,rfl⟩:=GS (P:=P) (w:=w) true n cap' hnc hl hh h1 h2 h3;refine⟨.slice (if cap'=(ff l).getD 0 then ad' else ad'.map (·.add ((ff l).getD 0*sz))) ((ff h).getD n-(ff l).getD 0) (cap'-(ff l).getD 0),by simp only[Instr.sliceAt,Instr.slice,run_underlying hu,Sem.run_bind,Result.andThen_ok,hr,hes,Sem.run_pure],?_⟩;simp only[VR];exact⟨g,ad,N,cap,hg,hsv,vC haN hcc hpos hab hbl hnc⟩
   unfold lF at hr;split at hr
   .split at hr
    rotate_left
    .cases hr
    rename_i o e esz eb ez T sz rows fx hk hx
    cases hr;obtain⟨h0,h1,h2,h3⟩:=hok;refine main hk h0 h1 h2 h3 ?_;simp only[VR]at hc|-;obtain⟨g,hg,rfl,_⟩:=hc;obtain⟨hlim,xs,hxs,hh'⟩:=hS.bufOb hx hg
    rcases hh' with⟨⟨a,hs0⟩,rfl,_⟩|⟨b,cap,cur,fr,hsv,hgb,hb,hfr,h4,h5,h6,h7⟩
    .exact⟨g,a,0,0,hg,hs0,by simp,a,0,hs0,by simp,by simp,by simp⟩
    .exact⟨g,_,_,cap,hg,hsv,by simp,_,cap,hsv,h4,by simp,fun _=>⟨b,hgb,rfl,by simp⟩⟩
   .split at hr
    rotate_left
    .cases hr
    rename_i o sz a n e esz eb ez hk
    cases hr;obtain⟨h0,h1,h2,h3⟩:=hok;exact main hk h0 h1 h2 h3 hc
   .split at hr
    rotate_left
    .cases hr
    rename_i o len e esz ag T sz rows hk hx
    cases hr;obtain⟨⟨h0,hlen⟩,h1,h2,h3⟩:=hok;simp only at h0 h1 h2;subst h0;subst hlen;obtain⟨hu,hs,_⟩:=Dc ht hk;simp only[VR]at hc;obtain⟨g,b,hg,hgb,rfl⟩:=hc;obtain⟨hlim,xs,hxs,hh'⟩:=hS.ob _ g _ hg (zJ hx (by simp))
    rcases hh' with⟨_,_,hn⟩|⟨b',cap,cur,fr,hsv,hgb',_,_,hcap',_⟩
    .rw[hgb]at hn;cases hn
    obtain rfl:b'=b:=by rw[hgb]at hgb';exact(Option.some.inj hgb').symm
    obtain⟨x,y,hr,hab,hbl,rfl,rfl⟩:=GS (P:=P) (w:=w) false rows.length rows.length (Nat.le_refl _) hl hh h1 h2 h3;refine⟨.slice (if rows.length=(ff l).getD 0 then(some ⟨b',0,none⟩:Option Addr)else(some ⟨b',0,none⟩:Option Addr).map (·.add ((ff l).getD 0*sz))) ((ff h).getD rows.length-(ff l).getD 0) (rows.length-(ff l).getD 0),?_,?_⟩
    .simp only[Instr.sliceAt,Instr.sureAddr,run_underlying hu,Sem.run_bind,Result.andThen_ok,hr,pY hs,Sem.run_pure]
     split <;> rfl
    .simp only[m9,VR]
     exact⟨g,_,_,cap,hg,hsv,vC (by simp) (by simpa using hcap') (fun _=>⟨b',hgb,rfl,by simp⟩) hab hbl (Nat.le_refl _)⟩
   .cases hr
end
def bR(l:List UInt8):List (List Dt):=l.map fun b=>[.i .u8 b.toNat]
def gP:List (List Dt)->List UInt8
 |[]=>[]
 |[.i _ n]::rs=>UInt8.ofNat n.toNat::gP rs
 |_::rs=>gP rs
def fy:List (List Dt)->Prop
 |[]=>True
 |[.i k _]::rs=>k=.u8/\fy rs
 |_::_=>False
theorem vH:∀l:List UInt8,gP (bR l)=l
 |[]=>rfl
 |b::l=>by
  show UInt8.ofNat ((b.toNat:Int).toNat)::gP (bR l)=b::l
  rw[vH l];simp
theorem sP:∀l:List UInt8,fy (bR l)
 |[]=>trivial
 |_::l=>⟨rfl,sP l⟩
theorem uy(a:List UInt8):(bR a).length=a.length:=by simp[bR]
def nD(H:List Ob)(o:Nat):Option (List (List Dt)):=match dT H o with
 |.sb _ bs=>some (bR bs)
 |_=>(sW H o).map fun p=>p.2.2.1
def Df(H:List Ob):Va->Option (List (List Dt))
 |.p (.l rows)=>some rows
 |.full rows=>some rows
 |.nils=>some []
 |.buf o=>nD H o
 |.bufc o _=>nD H o
 |.vw o sz a n=>match sW H o with
  |some (_,sz',rows,_)=>if sz=sz' then some ((rows.drop a).take n)else none
  |none=>none
 |_=>none
def Jl(op:UnOp):Va->Pv
 |.p (.b x)=>match op with
  |.not=>⟨.p (.b (!x)),True⟩
  |_=>dD
 |.p (.i k n)=>match op with
  |.neg=>⟨.p (.i k (k.wrap (0-n))),True⟩
  |.xor=>⟨.p (.i k (pN .xor k (if k.signed then -1 else k.max) n)),True⟩
  |_=>dD
 |_=>dD
def dL(P:Program)(t:TypeId):Tk:=match dM P t with
 |some ti=>ti.kind
 |none=>.other
def oV(P:Program)(src dst:TypeId)(H:List Ob)(x:Va):Pv:=match dL P dst with
 |.int k'=>match x with
  |.p (.i _ n)=>⟨.p (.i k' (k'.wrap n)),True⟩
  |_=>dD
 |.str=>match x with
  |.p (.s s)=>⟨.p (.s s),True⟩
  |x=>match Df H x,dL P src with
   |some rows,.slice e _ _ _=>match dL P e with
    |.int .u8=>⟨.p (.s (gP rows)),fy rows⟩
    |_=>dD
   |_,_=>dD
 |_=>dD
def wY(P:Program)(t:TypeId)(H:List Ob)(x:Va):Pv:=match dL P t with
 |.str=>match x with
  |.p (.s s)=>⟨.p (.i .i64 s.length),True⟩
  |_=>dD
 |.arr n _ _ _=>⟨.p (.i .i64 n),n<=dJ⟩
 |.slice _ _ _ _=>match Df H x with
  |some rows=>⟨.p (.i .i64 rows.length),True⟩
  |none=>match x with
   |.cs _ n=>⟨.p (.i .i64 n),n<=dJ⟩
   |_=>dD
 |.map _ _=>match x with
  |.mp o=>match dT H o with
   |.mp _ es=>⟨.p (.i .i64 es.length),True⟩
   |_=>dD
  |_=>dD
 |_=>dD
def Ko(P:Program)(src dst T:TypeId)(n:Nat):Bool:=match P.underlying src,P.underlying dst with
 |some (.pointer t),some .unsafePointer=>match P.info? t with
  |some j=>decide (j.size≠0)&&decide (0<n)
  |none=>false
 |some .unsafePointer,some (.pointer u)=>(P.info? u).isSome&&liesAt P P.depth T (n / P.cellsOf T) 0 u 1
 |_,_=>false
def oW(P:Program)(src dst:TypeId)(H:List Ob)(x:Va):Pv:=match x with
 |.ptr o 0=>match dT H o with
  |.cells T vs=>⟨.ptr o 0,Ko P src dst T vs.length=true⟩
  |_=>dD
 |x=>oV P src dst H x
theorem Hz{n:Nat}(h:n<=dJ):Fits .i64 n:=by
 simp only[Fits,lo,hi];unfold dJ at h;omega
section
variable {K:Nat->Prop} {G:List Gh} {H:List Ob} {w:World} {P:Program}
theorem zH{t:TypeId}{k:Tk}(h:dL P t=k)(hk:k≠.other):∃ti,dM P t=some ti/\ti.kind=k:=by
 unfold dL at h;split at h
 .exact⟨_,by assumption,h⟩
 .exact absurd h.symm hk
theorem D9{op:UnOp}{c:Value}{x:Va}(hc:VR K w.heap G c x)(hok:(Jl op x).ok):∃c',(Op.unary op c).run P w=.ok c' w/\VR K w.heap G c' (Jl op x).v:=by
 unfold Jl at hok|-;split at hok
 .simp only[VR,DR]at hc
  subst hc
  cases op <;> first|exact hok.elim|exact⟨_,rfl,fH rfl⟩
 .simp only[VR,DR]at hc
  obtain⟨rfl,_⟩:=hc
  cases op <;> first|exact hok.elim|exact⟨_,rfl,lp (Fits.wrap _ _)⟩|exact⟨_,rfl,lp (Fits.bits _ _ _ _)⟩
 .exact hok.elim
theorem DRss.bytes{h:Array Obj}(l:List UInt8):DRss K h 1 (l.map fun b=>Value.int .u8 b.toNat) (bR l):=by
 induction l with
 |nil=>simp[bR,DRss]
 |cons b l ih =>
  simp only[bR,map_cons,DRss];refine⟨[.int .u8 b.toNat],_,rfl,rfl,?_,ih⟩;simp only[DRs,DR];refine⟨_,[],rfl,⟨rfl,by simp[lo],?_⟩,rfl⟩;have:=b.toNat_lt
  simp only[hi];omega
theorem nC(hS:St K G H w){c:Value}{o:Nat}(hc:VR K w.heap G c (.buf o)){rows:List (List Dt)}(hx:nD H o=some rows) :
  rows.length<=dJ/\((∃a cap,c=.slice a 0 cap/\rows=[])∨∃b off cap cs T fr sz vs,c=.slice (some ⟨b,off,none⟩) rows.length cap/\w.heap[b]?=some (.cells cs T fr) /\
   (∀j v,vs[j]?=some v->cs[off+j]?=some v)/\DRss K w.heap sz vs rows):=by
 unfold nD at hx;split at hx
 .rename_i o T bs ho
  cases hx;simp only[VR]at hc;obtain⟨g,hg,rfl,_⟩:=hc;obtain⟨hlim,hh⟩:=hS.ob _ g _ hg (zJ ho (by simp))
  have hbl:(bR bs).length=bs.length:=by simp[bR]
  rcases hh with⟨h1,rfl,_⟩|⟨b,cap,cur,fr,hsv,hgb,hb,hfr,h4,h5,h6,h7,h8⟩
  .exact⟨by simp[bR],.inl ⟨none,0,h1,rfl⟩⟩
  .refine⟨by rw[hbl];exact hlim,.inr ⟨b,0,cap,cur,T,_,1,bs.map mN,by rw[hbl];exact hsv,hb,fun j v hj=>?_,DRss.bytes bs⟩⟩
   rw[<-h8,getElem?_take]at hj;split at hj
   .rw[Nat.zero_add,<-Array.getElem?_toList];exact hj
   .cases hj
 obtain⟨⟨T,sz,rows',fx⟩,ho,hx⟩:=Option.map_eq_some_iff.1 hx;cases hx;simp only[VR]at hc;obtain⟨g,hg,rfl,_⟩:=hc;obtain⟨hlim,xs,hxs,hh⟩:=hS.bufOb ho hg
 rcases hh with⟨⟨a,h1⟩,rfl,_⟩|⟨b,cap,cur,fr,hsv,hgb,hb,hfr,h4,h5,h6,h7⟩
 .exact⟨by simp,.inl ⟨a,0,h1,rfl⟩⟩
 .refine⟨hlim,.inr ⟨b,0,cap,cur,T,_,sz,xs,hsv,hb,fun j v hj=>?_,hxs⟩⟩
  rw[<-h7,getElem?_take]at hj;split at hj
  .rw[Nat.zero_add,<-Array.getElem?_toList];exact hj
  .cases hj
theorem N3(hS:St K G H w){c:Value}{x:Va}(hc:VR K w.heap G c x){rows:List (List Dt)}(hx:Df H x=some rows) :
  rows.length<=dJ/\((∃a cap,c=.slice a 0 cap/\rows=[])∨∃b off cap cs T fr sz vs,c=.slice (some ⟨b,off,none⟩) rows.length cap/\w.heap[b]?=some (.cells cs T fr) /\
   (∀j v,vs[j]?=some v->cs[off+j]?=some v)/\DRss K w.heap sz vs rows):=by
 unfold Df at hx;split at hx
 .rename_i rows'
  cases hx;simp only[VR,DR]at hc
  rcases hc with⟨⟨a,rfl⟩,rfl⟩|⟨b,off,cap,cs,T,fr,sz,vs,rfl,hK,hb,hle,hlim,hv,hd⟩
  .exact⟨by simp,.inl ⟨a,0,rfl,rfl⟩⟩
  .exact⟨hlim,.inr ⟨b,off,cap,cs,T,fr,sz,vs,rfl,hb,hv,hd⟩⟩
 .rename_i rows'
  cases hx;simp only[VR,DR]at hc
  rcases hc.1 with⟨⟨a,rfl⟩,rfl⟩|⟨b,off,cap,cs,T,fr,sz,vs,rfl,hK,hb,hle,hlim,hv,hd⟩
  .exact⟨by simp,.inl ⟨a,0,rfl,rfl⟩⟩
  .exact⟨hlim,.inr ⟨b,off,cap,cs,T,fr,sz,vs,rfl,hb,hv,hd⟩⟩
 .cases hx
  simp only[VR]at hc;exact⟨by simp,.inl ⟨none,0,hc,rfl⟩⟩
 .exact nC hS hc hx
 .refine nC hS ?_ hx
  simp only[VR]at hc|-;obtain⟨g,a,n,cap,h1,h2,h3,_⟩:=hc;exact⟨g,h1,h3,a,n,cap,h2⟩
 .rename_i o sz a n
  split at hx
  rotate_left
  .cases hx
  rename_i T sz' rows' fx ho
  split at hx
  rotate_left
  .cases hx
  rename_i hsz
  subst hsz;cases hx;simp only[VR]at hc;obtain⟨g,ad,N,cap,hg,hsv,haN,ad',cap',rfl,hnc,_,hpos⟩:=hc;obtain⟨hlim,xs,hxs,hh⟩:=hS.bufOb ho hg
  rcases Nat.eq_zero_or_pos n with rfl|hn
  .exact⟨by simp,.inl ⟨ad',cap',rfl,by simp⟩⟩
  obtain⟨b0,hgb0,rfl,rfl⟩:=hpos (by omega)
  rcases hh with⟨⟨a',h1⟩,rfl,_⟩|⟨b,cap2,cur,fr,hsv2,hgb,hb,hfr,h4,h5,h6,h7⟩
  .rw[hsv]at h1;cases h1;omega
  rw[hsv]at hsv2;cases hsv2
  have hl:((rows'.drop a).take n).length=n:=by simp;omega
  refine⟨by omega,.inr ⟨_,a*sz,cap',cur,T,_,sz,(xs.drop (a*sz)).take (n*sz),by rw[hl],hb,fun j v hj=>?_,(hxs.drop _).take _⟩⟩;rw[getElem?_take]at hj;split at hj
  .rw[getElem?_drop,<-h7,getElem?_take]at hj
   split at hj
   .rw[<-Array.getElem?_toList];exact hj
   .cases hj
  .cases hj
 .cases hx
theorem Qo{h:Array Obj}{ag:Bool}:∀{mes:List MapEntry} {es:List (Dt×List Dt)},MRs K h ag mes es->mes.length=es.length
 |[],[],_=>rfl
 |_::mes,_::es,H=>by simp only[MRs]at H;simp[Qo H.2.2]
 |[],_::_,H=>by simp[MRs]at H
 |_::_,[],H=>by simp[MRs]at H
theorem FK{t:TypeId}{ti:Ti}(ht:dM P t=some ti){k e:TypeId}(hk:ti.kind=.map k e):P.underlying t=some (.map k e):=by
 obtain⟨d,h1,h2,h3⟩:=vy ht;rw[hk]at h2
 cases d <;> simp only[vK]at h2 <;> try (cases h2)
 case slice e=>split at h2 <;> cases h2
 case array n e=>split at h2 <;> cases h2
 case struct fields=>split at h2 <;> cases h2
 case map=>exact h1
theorem Bf{t:TypeId}(hS:St K G H w){c:Value}{x:Va}(hc:VR K w.heap G c x)(hok:(wY P t H x).ok)(ts:Array TypeId)(hts:ts[0]?=some t)(ty:TypeId) :
  ∃c',(Builtin.len_ ts ty #[c]).run P w=.ok c' w/\VR K w.heap G c' (wY P t H x).v:=by
 unfold wY at hok|-;split at hok
 .rename_i hk
  obtain⟨ti,ht,hk'⟩:=zH hk (by simp);split at hok
  rotate_left
  .exact hok.elim
  simp only[VR,DR]at hc;obtain⟨rfl,hl⟩:=hc;refine⟨_,by simp only[Builtin.len_,hts,getElem?_toArray,getElem?_cons_zero,run_underlying (Dd ht hk'),Sem.run_bind,Sem.run_pure,Result.andThen_ok];rfl,?_⟩;simp only[goInt,ByteArray.size,size_toArray];exact lp (Hz hl)
 .rename_i n e s a hk
  obtain⟨ti,ht,hk'⟩:=zH hk (by simp);refine⟨_,by simp only[Builtin.len_,hts,getElem?_toArray,getElem?_cons_zero,run_underlying (Dc ht hk').1,Sem.run_bind,Sem.run_pure,Result.andThen_ok];rfl,?_⟩;exact lp (Hz hok)
 .rename_i e s b z hk
  obtain⟨ti,ht,hk'⟩:=zH hk (by simp);split at hok
  rotate_left
  .split at hok
   rotate_left
   .exact hok.elim
   simp only[VR]at hc;obtain⟨g,b,hg,hgb,rfl⟩:=hc;exact⟨_,by simp only[Builtin.len_,hts,getElem?_toArray,getElem?_cons_zero,run_underlying (lD ht hk').1,Sem.run_bind,Sem.run_pure,Result.andThen_ok];rfl,lp (Hz hok)⟩
  rename_i rows hr
  obtain⟨hlim,hh⟩:=N3 hS hc hr;refine⟨goInt rows.length,?_,lp (Hz hlim)⟩
  rcases hh with⟨a,cap,rfl,rfl⟩|⟨b,off,cap,cs,T,fr,sz,vs,rfl,_⟩
  .simp only[Builtin.len_,hts,getElem?_toArray,getElem?_cons_zero,run_underlying (lD ht hk').1,Sem.run_bind,Sem.run_pure,Result.andThen_ok];rfl
  .simp only[Builtin.len_,hts,getElem?_toArray,getElem?_cons_zero,run_underlying (lD ht hk').1,Sem.run_bind,Sem.run_pure,Result.andThen_ok]
 .rename_i kt et hk
  obtain⟨ti,ht,hk'⟩:=zH hk (by simp);split at hok
  rotate_left
  .exact hok.elim
  rename_i o
  split at hok
  rotate_left
  .exact hok.elim
  rename_i ag es ho
  simp only[VR]at hc;obtain⟨g,b,hg,hgb,rfl⟩:=hc;obtain⟨hlim,b',mes,clock,hgb',hb,hrs,_⟩:=hS.ob _ g _ hg (zJ ho (by simp))
  obtain rfl:b'=b:=by rw[hgb]at hgb';exact(Option.some.inj hgb').symm
  have hl:mes.size=es.length:=by rw[<-Array.length_toList];exact Qo hrs
  refine⟨goInt mes.size,by simp only[Builtin.len_,hts,getElem?_toArray,getElem?_cons_zero,run_underlying (FK ht hk'),Sem.run_bind,Sem.run_pure,Result.andThen_ok,run_getObj_map w b' mes clock hb],?_⟩;rw[hl];exact lp (Hz hlim)
 .exact hok.elim
theorem QA{h:Array Obj}:∀{sz:Nat} {rows:List (List Dt)} {vs:List Value},DRss K h sz vs rows->fy rows->∃ns:List Int,vs=ns.map (Value.int .u8)/\(ns.map fun n=>UInt8.ofNat n.toNat)=gP rows/\ns.length=rows.length
 |_,[],vs,hd,_=>by simp only[DRss]at hd;subst hd;exact⟨[],rfl,rfl,rfl⟩
 |_,[.i k n]::rs,vs,hd,ha=>by
  simp only[DRss,DRs,DR]at hd;obtain⟨a,b,rfl,_,⟨v,vs',rfl,⟨rfl,_⟩,rfl⟩,h4⟩:=hd;simp only[fy]at ha;obtain⟨rfl,ha⟩:=ha;obtain⟨ns,rfl,h2,h3⟩:=QA h4 ha;exact⟨n::ns,by simp,by simp[gP,h2],by simp[h3]⟩
 |_,[]::_,_,_,ha=>by simp[fy]at ha
 |_,[.b _]::_,_,_,ha=>by simp[fy]at ha
 |_,[.s _]::_,_,_,ha=>by simp[fy]at ha
 |_,[.l _]::_,_,_,ha=>by simp[fy]at ha
 |_,[.a _]::_,_,_,ha=>by simp[fy]at ha
 |_,(_::_::_)::_,_,_,ha=>by simp[fy]at ha
theorem xJ{src dst:TypeId}(hS:St K G H w){c:Value}{x:Va}(hc:VR K w.heap G c x)(hsrc:∃d,P.underlying src=some d)(hok:(oV P src dst H x).ok) :
  ∃c',(convert src dst c).run P w=.ok c' w/\VR K w.heap G c' (oV P src dst H x).v:=by
 obtain⟨dsrc,hsrc⟩:=hsrc;unfold oV at hok|-;split at hok
 .rename_i k' hk
  obtain⟨ti,ht,hk'⟩:=zH hk (by simp);have hu:=iU ht hk';split at hok
  rotate_left
  .exact hok.elim
  simp only[VR,DR]at hc;obtain⟨rfl,_⟩:=hc;exact⟨_,by simp[convert,run_underlying hsrc,run_underlying hu,Conv.intToInt],lp (Fits.wrap _ _)⟩
 .rename_i hk
  obtain⟨ti,ht,hk'⟩:=zH hk (by simp);have hu:=Dd ht hk';split at hok
  .simp only[VR,DR]at hc
   obtain⟨rfl,hl⟩:=hc;exact⟨_,by simp[convert,run_underlying hsrc,run_underlying hu],ym hl⟩
  .split at hok
   rotate_left
   .exact hok.elim
   rename_i rows e es eb ez hr hks
   split at hok
   rotate_left
   .exact hok.elim
   rename_i hke
   have hall:fy rows:=hok;obtain⟨ti2,ht2,hk2⟩:=zH hks (by simp);obtain⟨ti3,ht3,hk3⟩:=zH hke (by simp);have hu2:=(lD ht2 hk2).1;have hu3:=iU ht3 hk3;obtain⟨hlim,hh⟩:=N3 hS hc hr
   rcases hh with⟨a,cap,rfl,rfl⟩|⟨b,off,cap,cs,T,fr,sz,vs,rfl,hb,hv,hd⟩
   .exact⟨.string ByteArray.empty,by
     rw[run_convert_bytes_string w src dst e _ _ _ hu2 hu3 hu]
     cases a <;> simp[Conv.bytesToString,loadCells,loadCellsFrom],ym (x:=[]) (by simp)⟩
   .obtain⟨ns,rfl,h2,h3⟩:=QA hd hall
    refine⟨_,run_convert_bytes_arg w src e hu2 hu3 b off _ cap ns h3 (fun i hi=>?_) dst hu,?_⟩
    .rw[cell_of_row w b (off+i) cs T fr hb]
     refine hv i _ ?_
     have:i<ns.length:=by omega
     simp[getElem?_eq_getElem this,List.getD]
    .rw[strOfNums,h2]
     refine ym ?_
     rw[<-h2];simp only[length_map];omega
 .exact hok.elim
theorem xK{src dst:TypeId}(hS:St K G H w){c:Value}{x:Va}(hc:VR K w.heap G c x)(hsrc:∃d,P.underlying src=some d)(hok:(oW P src dst H x).ok) :
  ∃c',(convert src dst c).run P w=.ok c' w/\VR K w.heap G c' (oW P src dst H x).v:=by
 unfold oW at hok|-;split at hok
 .rename_i o
  split at hok
  rotate_left
  .exact hok.elim
  rename_i T vs hob
  have hok':Ko P src dst T vs.length=true:=hok;have hc':=hc;simp only[VR]at hc;obtain⟨g,b,hg,hgb,rfl⟩:=hc;obtain⟨b',cs,hb',hb,hvs⟩:=hS.ob o g _ hg (zJ hob (by simp))
  obtain rfl:b'=b:=by rw[hgb]at hb';exact(Option.some.inj hb').symm
  have hl:=hvs.length
  have hsh:w.shape? b'=some (T,vs.length):=by simp[World.shape?,hb,hl]
  refine⟨_,?_,hc'⟩;unfold Ko at hok';split at hok'
  .rename_i t h1 h2
   split at hok'
   .rename_i j hj
    simp only[Bool.and_eq_true,decide_eq_true_eq]at hok';exact Lib.run_to_unsafe w ⟨b',0,none⟩ h1 h2 hj hok'.1 hsh hok'.2
   .cases hok'
  .rename_i u h1 h2
   simp only[Bool.and_eq_true]at hok';obtain⟨j,hj⟩:=Option.isSome_iff_exists.1 hok'.1;exact Lib.run_from_unsafe w ⟨b',0,none⟩ h1 h2 hj hsh hok'.2
  .cases hok'
 .exact xJ hS hc hsrc hok
end
def lw:Va->List Va
 |.agg cs=>cs
 |v=>[v]
def Va.isCell:Va->Bool
 |.tup _|.top|.cnd _ _|.p (.a _)=>false
 |.raw v=>v.oneCell'
 |_=>true
def setR:List Va->Nat->List Va->List Va
 |l,0,xs=>xs++l.drop xs.length
 |x::l,n+1,xs=>x::setR l n xs
 |[],_+1,_=>[]
def je(pl:Nat->Option (Nat×Nat)):List Va->List (Nat×Va)->Option (List Va)
 |cells,[]=>some cells
 |cells,(i,v)::rest=>match pl i with
  |none=>none
  |some (off,size)=>if v.isCell=true/\(lw v).length=size/\off+(lw v).length<=cells.length then je pl (setR cells off (lw v)) rest else none
def zbh(fs:List (Nat×Nat×Bool))(i:Nat):Option (Nat×Nat):=match fs[i]? with
 |some (a,b,_)=>some (a,b)
 |none=>none
def uX:List Value->Prop
 |[]=>True
 |z::zs=>xH z/\uX zs
def jj(ti:Ti)(parts:List (Nat×Va)):Pv:=match ti.kind with
 |.struct fs=>match je (zbh fs) (ti.zero.map cv) parts with
  |some cs=>⟨.agg cs,uX ti.zero⟩
  |none=>dD
 |.arr _ _ esz _=>match je (fun i=>some (i*esz,esz)) (ti.zero.map cv) parts with
  |some cs=>⟨.agg cs,uX ti.zero⟩
  |none=>dD
 |_=>dD
def eN:List Value->Nat->List Value->List Value
 |l,0,xs=>xs++l.drop xs.length
 |x::l,n+1,xs=>x::eN l n xs
 |[],_+1,_=>[]
section
variable {K:Nat->Prop} {h:Array Obj} {G:List Gh} {P:Program} (w:World)
theorem kw{c:Value}(h:c.oneCell'=true):c.cells.toList=[c]:=by
 cases c <;> first|rfl|simp[Value.oneCell']at h
theorem Gi{c:Value}{v:Va}(hc:VR K h G c v)(hv:v.isCell=true):VRs K h G c.cells.toList (lw v):=by
 have one:c.oneCell'=true->lw v=[v]->VRs K h G c.cells.toList (lw v):=fun h1 h2=>by
  rw[kw h1,h2];exact⟨c,[],rfl,hc,rfl⟩
 cases v with
 |p x =>
  refine one ?_ rfl
  cases x with
  |l rows=>simp only[VR,DR]at hc;rcases hc with⟨⟨_,rfl⟩,_⟩|⟨_,_,_,_,_,_,_,_,rfl,_⟩ <;> rfl
  |b x=>simp only[VR,DR]at hc;subst hc;rfl
  |i k n=>simp only[VR,DR]at hc;obtain⟨rfl,_⟩:=hc;rfl
  |s x=>simp only[VR,DR]at hc;obtain⟨rfl,_⟩:=hc;rfl
  |a ds=>simp[Va.isCell]at hv
 |nils=>refine one ?_ rfl;simp only[VR]at hc;subst hc;rfl
 |full rows=>refine one ?_ rfl;simp only[VR]at hc;obtain⟨_,a,rfl⟩:=hc;rfl
 |rp row=>refine one ?_ rfl;simp only[VR]at hc;obtain⟨_,_,_,_,_,_,rfl,_⟩:=hc;rfl
 |ptr o off=>refine one ?_ rfl;simp only[VR]at hc;obtain⟨_,_,_,_,rfl⟩:=hc;rfl
 |cs o off=>refine one ?_ rfl;simp only[VR]at hc;obtain⟨_,_,_,_,rfl⟩:=hc;rfl
 |el o sz i off=>refine one ?_ rfl;simp only[VR]at hc;obtain⟨_,_,_,_,_,_,_,rfl⟩:=hc;rfl
 |buf o=>refine one ?_ rfl;simp only[VR]at hc;obtain⟨_,_,rfl,_,_,_,e⟩:=hc;rw[e];rfl
 |mp o=>refine one ?_ rfl;simp only[VR]at hc;obtain⟨_,_,_,_,rfl⟩:=hc;rfl
 |np o=>refine one ?_ rfl;simp only[VR]at hc;rcases hc with rfl|⟨_,_,_,_,rfl⟩ <;> rfl
 |sd o=>refine one ?_ rfl;simp only[VR]at hc;obtain⟨_,_,_,_,_,_,rfl⟩:=hc;rfl
 |vw o sz a n=>refine one ?_ rfl;simp only[VR]at hc;obtain⟨_,_,_,_,_,_,_,_,_,rfl,_⟩:=hc;rfl
 |bufc o cp=>refine one ?_ rfl;simp only[VR]at hc;obtain⟨_,_,_,_,_,e,rfl,_⟩:=hc;rw[e];rfl
 |fn f vs=>refine one ?_ rfl;simp only[VR]at hc;obtain⟨_,rfl,_⟩:=hc;rfl
 |agg cs=>simp only[VR]at hc;obtain⟨cs',rfl,hcs⟩:=hc;simpa [lw,Value.cells]using hcs
 |tup vs=>simp[Va.isCell]at hv
 |nil=>refine one ?_ rfl;simp only[VR]at hc;subst hc;rfl
 |cnd x y=>simp[Va.isCell]at hv
 |raw x=>refine one ?_ rfl;simp only[VR]at hc;subst hc;simpa [Va.isCell]using hv
 |er b=>refine one ?_ rfl;simp only[VR]at hc;rcases hc with⟨_,rfl⟩|⟨_,_,_,rfl⟩ <;> rfl
 |top=>simp[Va.isCell]at hv
theorem Iu:∀(l:List Value) (n:Nat) (xs:List Value),n+xs.length<=l.length->(eN l n xs).length=l.length
 |l,0,xs,h=>by simp[eN];omega
 |x::l,n+1,xs,h=>by simp only[eN,length_cons]at *;rw[Iu l n xs (by omega)]
 |[],n+1,xs,h=>by simp at h
theorem VRs.setR:∀{cs:List Value} {vs:List Va},VRs K h G cs vs->∀(n:Nat) {es:List Value} {us:List Va},VRs K h G es us->n+us.length<=vs.length->VRs K h G (eN cs n es) (Vc.setR vs n us)
 |cs,vs,H,0,es,us,H',_=>by
  simp only[eN,Vc.setR];rw[H'.length];exact H'.append (H.drop _)
 |cs,v::vs,H,n+1,es,us,H',hl=>by
  simp only[VRs]at H;obtain⟨c,cs',rfl,h2,h3⟩:=H;simp only[eN,Vc.setR,VRs];exact⟨c,_,rfl,h2,VRs.setR h3 n H' (by simp at hl;omega)⟩
 |cs,[],H,n+1,es,us,H',hl=>by simp at hl
theorem NC(off:Nat):∀(xs:List Value) (k:Nat) (cs:Array Value),off+k+xs.length<=cs.size ->
  ((xs.zipIdx k).foldl (fun cs (c,j)=>cs.setIfInBounds (off+j) c) cs).toList=eN cs.toList (off+k) xs
 |[],k,cs,hl=>by
  simp only[zipIdx_nil,foldl_nil]
  have:∀(l:List Value) (n:Nat),n<=l.length->eN l n []=l:=by
   intro l n
   induction n generalizing l with
   |zero=>intro _;simp[eN]
   |succ n ih=>intro hn;cases l with
    |nil=>simp at hn
    |cons x l=>simp only[eN];rw[ih l (by simpa using hn)]
  exact(this cs.toList _ (by simpa using hl)).symm
 |x::xs,k,cs,hl=>by
  simp only[zipIdx_cons,foldl_cons];rw[NC off xs (k+1) _ (by simp at hl|-;omega)]
  have key:∀(l:List Value) (n:Nat),n+(x::xs).length<=l.length->eN (l.set n x) (n+1) xs=eN l n (x::xs):=by
   intro l n
   induction n generalizing l with
   |zero=>intro hn;cases l with
    |nil=>simp at hn
    |cons y l=>simp[eN]
   |succ n ih=>intro hn;cases l with
    |nil=>simp at hn
    |cons y l=>simp only[set_cons_succ,eN];rw[ih l (by simp at hn|-;omega)]
  simp only[Array.toList_setIfInBounds];rw[<-key cs.toList (off+k) (by simp at hl|-;omega)];rfl
theorem mo{pl:Nat->Option (Nat×Nat)}:∀{parts:List (Nat×Va)} {ps:List (Nat×Value)} {cells:List Va} {cs:Array Value} {r:List Va},
  je pl cells parts=some r->VRs K h G cs.toList cells->(ps.map (·.1)=parts.map (·.1))->(∀(j:Nat) (c:Value) (v:Va),(ps[j]?.map fun x=>x.2)=some c->(parts[j]?.map fun x=>x.2)=some v->VR K h G c v) ->
  ∃cs',Instr.fill pl cs ps=some cs'/\VRs K h G cs'.toList r
 |[],ps,cells,cs,r,hf,hc,hp,_=>by
  simp only[je]at hf;cases hf
  cases ps with
  |nil=>exact⟨cs,rfl,hc⟩
  |cons a b=>simp at hp
 |(i,v)::parts,ps,cells,cs,r,hf,hc,hp,hv=>by
  cases ps with
  |nil=>simp at hp
  |cons a ps =>
   obtain⟨i',c⟩:=a;simp only[map_cons,List.cons.injEq]at hp;obtain⟨rfl,hp⟩:=hp;simp only[je]at hf;split at hf
   .cases hf
   rename_i off size hpl
   split at hf
   rotate_left
   .cases hf
   rename_i hcond
   obtain⟨hcell,hsz,hl⟩:=hcond;have hcv:=Gi (hv 0 c v rfl rfl) hcell;have hcl:=hcv.length;have hcsl:=hc.length;simp only[Array.length_toList]at hcl hcsl
   have hnext:VRs K h G (c.cells.zipIdx.foldl (fun cs (c,j)=>cs.setIfInBounds (off+j) c) cs).toList (setR cells off (lw v)):=by
    have h1:=NC off c.cells.toList 0 cs (by simp;omega);rw[<-Array.foldl_toList,Array.toList_zipIdx,h1];exact hc.setR off hcv hl
   obtain⟨cs',h1,h2⟩:=mo hf hnext hp (fun j c v hj hj'=>hv (j+1) c v (by simpa using hj) (by simpa using hj'));refine⟨cs',?_,h2⟩;simp only[Instr.fill,hpl];rw[if_neg (by simp;omega)];exact h1
end
section
variable {K:Nat->Prop} {h:Array Obj} {G:List Gh} {P:Program} (w:World)
theorem Rs{α β:Type}(f:α->Sem β)(g:α->β):∀(l:List α),(∀x∈l,(f x).run P w=.ok (g x) w)->(l.mapM f).run P w=.ok (l.map g) w
 |[],_=>by simp
 |x::l,hx=>by
  rw[mapM_cons];simp only[Sem.run_bind,hx x (by simp),Result.andThen_ok,Rs f g l (fun y hy=>hx y (by simp[hy])),Sem.run_pure,map_cons]
def De(P:Program)(f:Field):Nat×Nat:=(f.offset,(jG P f.type).getD 0)
theorem RH:∀{fs:List Field} {l:List (Nat×Nat×Bool)},Ak P fs=some l->(∀f∈fs,(do pure (f.offset,<-sizeOf f.type):Sem (Nat×Nat)).run P w=.ok (De P f) w)/\∀i:Nat,(fs.map (De P))[i]?=zbh l i
 |[],l,hf=>by simp only[Ak]at hf;cases hf;exact⟨by simp,by simp[zbh]⟩
 |f::fs,l,hf=>by
  simp only[Ak]at hf;split at hf
  .rename_i n d l' h1 h2 h3
   cases hf;obtain⟨hg1,hg2⟩:=RH h3;refine⟨fun f' hf'=>?_,fun i=>?_⟩
   .rcases mem_cons.1 hf' with rfl|hm
    .simp[pY h1,h1,De]
    .exact hg1 f' hm
   .cases i with
    |zero=>simp[zbh,h1,De]
    |succ i =>
     have h4:=hg2 i;simp only[map_cons,getElem?_cons_succ,h4,zbh]
  .cases hf
theorem Dw:∀{zs:List Value},uX zs->VRs K h G zs (zs.map cv)
 |[],_=>by simp[VRs]
 |z::zs,hz=>by
  simp only[uX]at hz;simp only[map_cons,VRs];exact⟨z,zs,rfl,CZ z hz.1,Dw hz.2⟩
theorem uw{t:TypeId}{ti:Ti}(ht:dM P t=some ti){ps:Array (Nat×Value)}{parts:List (Nat×Va)}(hp:ps.toList.map (·.1)=parts.map (·.1))
  (hv:∀(j:Nat) (c:Value) (v:Va),(ps.toList[j]?.map fun x=>x.2)=some c->(parts[j]?.map fun x=>x.2)=some v->VR K h G c v) (hok:(jj ti parts).ok) :
  ∃c',(Instr.build t ps).run P w=.ok c' w/\VR K h G c' (jj ti parts).v:=by
 obtain⟨z,hz,hzc⟩:=Rt w ht;unfold jj at hok|-;split at hok
 .rename_i fs hk
  obtain⟨fields,hu,hfs⟩:=N0 ht hk;split at hok
  rotate_left
  .exact hok.elim
  rename_i cs hf
  obtain⟨hg1,hg2⟩:=RH w hfs;have hm:=Rs (P:=P) w (fun f:Field=>(do pure (f.offset,<-sizeOf f.type):Sem (Nat×Nat))) (De P) fields.toList hg1;obtain⟨cs',h1,h2⟩:=mo hf (by rw[hzc];exact Dw hok) hp hv
  have hpl:(fun i:Nat=>(fields.toList.map (De P)).toArray[i]?)=zbh fs:=by
   funext i
   rw[<-hg2 i,getElem?_toArray]
  have hm':(fields.mapM fun f=>(do pure (f.offset,<-sizeOf f.type):Sem (Nat×Nat))).run P w=.ok (fields.toList.map (De P)).toArray w:=by
   rw[Array.mapM_eq_mapM_toList];simp only[Sem.run_map,hm,Result.andThen_ok]
  refine⟨.agg cs',?_,?_⟩
  .simp only[Instr.build,Sem.run_bind,hz,Result.andThen_ok,run_underlying hu,hm',hpl,h1,Sem.run_pure]
  .simp only[VR];exact⟨cs'.toList,by simp,h2⟩
 .rename_i n e esz ag hk
  obtain⟨hu,hs,_⟩:=Dc ht hk;split at hok
  rotate_left
  .exact hok.elim
  rename_i cs hf
  obtain⟨cs',h1,h2⟩:=mo hf (by rw[hzc];exact Dw hok) hp hv;refine⟨.agg cs',?_,?_⟩
  .simp only[Instr.build,Sem.run_bind,hz,Result.andThen_ok,run_underlying hu,pY hs,h1,Sem.run_pure]
  .simp only[VR];exact⟨cs'.toList,by simp,h2⟩
 .exact hok.elim
end
def fi:Dt->Dt->Bool
 |.b a,.b b=>decide (a=b)
 |.i _ a,.i _ b=>decide (a=b)
 |.s a,.s b=>decide (a=b)
 |.a x,.a y=>fJ y x
 |_,_=>false
def j1:List (Dt×List Dt)->Dt->Option (List Dt)
 |[],_=>none
 |p::es,d=>bif fi p.1 d then some p.2 else j1 es d
def iL:List (Dt×List Dt)->Dt->List Dt->List (Dt×List Dt)
 |[],d,r=>[(d,r)]
 |p::es,d,r=>bif fi p.1 d then(d,r)::es else p::iL es d r
def iK:List (Dt×List Dt)->Dt->List (Dt×List Dt)
 |[],_=>[]
 |p::es,d=>bif fi p.1 d then es else p::iK es d
def iu:List (Dt×List Dt)->List Nat->Dt->List Nat
 |p::es,b::bs,d=>bif fi p.1 d then bs else b::iu es bs d
 |_,bs,_=>bs
theorem sH{d:Dt}:∀{es:List (Dt×List Dt)} {bs:List Nat} {j:Nat},es.length=bs.length->(∀r,iL es d r=es.set j (d,r))->j<es.length->iu es bs d=bs.eraseIdx j
 |[],_,_,_,_,h=>by simp at h
 |_::_,[],_,h,_,_=>by simp at h
 |p::es,b::bs,j,hl,hs,hj=>by
  have no:∀q:Dt×List Dt,(∀r,(d,r)=q)->False:=fun q h=>by
   have h1:=(h []).trans (h [Dt.b true]).symm;simp at h1
  simp only[iL,iu]at *
  cases hq:fi p.1 d with
  |true =>
   simp only[hq,cond_true]at hs|-
   cases j with
   |zero=>rfl
   |succ j=>exact(no p fun r=>by have:=hs r;simp at this;exact this.1).elim
  |false =>
   simp only[hq,cond_false]at hs|-
   cases j with
   |zero=>exact(no p fun r=>by have:=hs r;simp at this;exact this.1.symm).elim
   |succ j =>
    rw[sH (by simpa using hl) (fun r=>by have:=hs r;simpa using this) (by simpa using hj)];rfl
inductive Kk where
 |tk (k:Tk)
 |ks (l:List Kd)
def ol(P:Program)(kt:TypeId):Kk:=match P.underlying kt with
 |some (.struct _)=>match gL P 60 kt with
  |some l=>.ks l
  |none=>.tk .other
 |_=>.tk (dL P kt)
def lr:Kk->Dt->Prop
 |.tk .str,.s _=>True
 |.tk .bool,.b _=>True
 |.tk (.int k),.i k' _=>k=k'
 |.ks l,.a ds=>zF l ds
 |_,_=>False
def jN(k:Kk):List (Dt×List Dt)->Prop
 |[]=>True
 |p::es=>lr k p.1/\jN k es
def EY:List Va->Option (List Dt)
 |[]=>some []
 |.p d::l=>match EY l with
  |some ds=>some (d::ds)
  |none=>none
 |_::_=>none
def tT:Va->Option Dt
 |.p d=>some d
 |.agg vs=>match EY vs with
  |some ds=>some (.a ds)
  |none=>none
 |_=>none
def Af(es:List (Dt×List Dt))(d:Dt)(z:List Dt):List Dt:=(j1 es d).getD z
def iI:List Value->Prop
 |[]=>True
 |.bool _::l=>iI l
 |.int k n::l=>Fits k n/\iI l
 |.string s::l=>s.data.toList.length<=dJ/\iI l
 |.slice none 0 0::l=>iI l
 |_=>False
def gX(ag:Bool)(row:List Dt):Va:=bif ag then .agg (row.map .p)else CS row 0
def yO(P:Program)(t:TypeId):Bool:=match (P.info? t).bind (·.zero)with
 |some (.agg _)=>true
 |_=>false
def oa(P:Program)(t:TypeId)(H:List Ob)(cok:Bool)(x k:Va):Pv:=match dL P t,x,tT k with
 |.map kt et,.mp o,some d=>match dT H o,dM P et with
  |.mp ag es,some te=>⟨bif cok then .tup [gX ag (Af es d (zr te.zero)),.p (.b (j1 es d).isSome)]else gX ag (Af es d (zr te.zero)),
    jN (ol P kt) es/\lr (ol P kt) d/\yO P et=ag/\iI te.zero/\(ag=false->te.zero.length=1)⟩
  |_,_=>dD
 |_,_,_=>dD
section
variable {K:Nat->Prop} {G:List Gh} {H:List Ob} {w:World} {P:Program}
theorem mU{h:Array Obj}:∀{l:List Value},iI l->DRs K h l (zr l)
 |[],_=>by simp[zr,DRs]
 |.bool x::l,hz=>by
  simp only[iI]at hz;simp only[zr,DRs,DR];exact⟨_,_,rfl,rfl,mU hz⟩
 |.int k n::l,hz=>by
  simp only[iI]at hz;simp only[zr,DRs,DR];exact⟨_,_,rfl,⟨rfl,hz.1⟩,mU hz.2⟩
 |.string s::l,hz=>by
  simp only[iI]at hz;simp only[zr,DRs,DR];exact⟨_,_,rfl,⟨by simp,hz.1⟩,mU hz.2⟩
 |.slice none 0 0::l,hz=>by
  simp only[iI]at hz;simp only[zr,DRs,DR];exact⟨_,_,rfl,.inl ⟨⟨none,rfl⟩,trivial⟩,mU hz⟩
theorem vJ{t:TypeId}{ti:Ti}(ht:dM P t=some ti)(hk:ti.kind=.bool):P.underlying t=some .bool:=by
 obtain⟨d,h1,h2,h3⟩:=vy ht;rw[hk]at h2
 cases d <;> simp only[vK]at h2 <;> try (cases h2)
 case slice e=>split at h2 <;> cases h2
 case array n e=>split at h2 <;> cases h2
 case struct fields=>split at h2 <;> cases h2
 case bool=>exact h1
theorem Bh{kt:TypeId}{d:Dt}{h:Array Obj}{c:Value}{kk:Kk}(hkk0:kk=.tk (dL P kt))(hk:lr kk d)(hc:KR K h c d):∃td,P.underlying kt=some td/\MapKept.IsKey td c:=by
 subst hkk0
 cases hkk:dL P kt <;> rw[hkk]at hk <;> cases d <;> simp only[lr]at hk
 .obtain⟨ti,ht,hk'⟩:=zH hkk (by simp)
  simp only[KR,DR]at hc;obtain⟨rfl,_⟩:=hc;exact⟨_,Dd ht hk',by simp[MapKept.IsKey]⟩
 .obtain⟨ti,ht,hk'⟩:=zH hkk (by simp)
  simp only[KR,DR]at hc;subst hc;exact⟨_,vJ ht hk',by simp[MapKept.IsKey]⟩
 .obtain⟨ti,ht,hk'⟩:=zH hkk (by simp)
  simp only[KR,DR]at hc;obtain⟨rfl,_⟩:=hc;exact⟨_,iU ht hk',by simp[MapKept.IsKey,hk]⟩
theorem ny{k:Tk}{h:Array Obj}{c e:Value}{d p:Dt}{td:TypeDesc}(hd:lr (.tk k) d)(hp:lr (.tk k) p)(hc:KR K h c d)(he:KR K h e p)(htd:MapKept.IsKey td c):Instr.sameNow td c e=some (fi p d)/\(fi p d=true->e=c)/\(fi p d=false->e≠c):=by
 cases k <;> cases d <;> simp only[lr]at hd <;> cases p <;> simp only[lr]at hp
 .rename_i a b
  simp only[KR,DR]at hc he;obtain⟨rfl,_⟩:=hc;obtain⟨rfl,_⟩:=he
  have e:((⟨a.toArray⟩:ByteArray) == ⟨b.toArray⟩)=decide (b=a):=by
   by_cases hab:b=a
   .subst hab;simp[MapKept.bytes_beq]
   .have:¬ ((⟨a.toArray⟩:ByteArray)=⟨b.toArray⟩):=fun h=>hab (by injection h with h;simpa using h.symm)
    rw[decide_eq_false hab];cases hx:((⟨a.toArray⟩:ByteArray) == ⟨b.toArray⟩)
    .rfl
    .exact absurd ((MapKept.bytes_beq _ _).1 hx) this
  refine⟨?_,fun h=>?_,fun h=>?_⟩
  .cases td <;> simp_all[MapKept.IsKey,Instr.sameNow,fi]
  .simp only[fi,decide_eq_true_eq]at h;rw[h]
  .simp only[fi,decide_eq_false_iff_not]at h;intro e;injection e with e;injection e with e;exact h (by simpa using e)
 .rename_i a b
  simp only[KR,DR]at hc he
  subst hc;subst he
  refine⟨?_,fun h=>?_,fun h=>?_⟩
  .cases td <;> simp_all[MapKept.IsKey,Instr.sameNow,fi]
   cases a <;> cases b <;> rfl
  .simp only[fi,decide_eq_true_eq]at h;rw[h]
  .simp only[fi,decide_eq_false_iff_not]at h;intro e;injection e with e;exact h e
 .rename_i k1 a k2 b
  simp only[KR,DR]at hc he;obtain⟨rfl,_⟩:=hc;obtain⟨rfl,_⟩:=he
  subst hd;subst hp
  refine⟨?_,fun h=>?_,fun h=>?_⟩
  .cases td <;> simp_all[MapKept.IsKey,Instr.sameNow,fi]
   by_cases hab:b=a
   .simp[hab]
   .simp[hab,Ne.symm hab]
  .simp only[fi,decide_eq_true_eq]at h;rw[h]
  .simp only[fi,decide_eq_false_iff_not]at h;intro e;injection e with _ e;exact h e
def jW(K:Nat->Prop)(h:Array Obj)(ag:Bool)(v:Value)(row:List Dt):Prop:=match ag with
 |true=>∃cs:List Value,v=.agg cs.toArray/\DRs K h cs row
 |false=>∃d,row=[d]/\DR K h v d
theorem oD{k:Tk}{h:Array Obj}{ag:Bool}{c:Value}{d:Dt}{td:TypeDesc}(hd:lr (.tk k) d)(hc:KR K h c d)(htd:MapKept.IsKey td c):∀{mes:List MapEntry} {es:List (Dt×List Dt)} (i:Nat),MRs K h ag mes es->jN (.tk k) es ->
  (Instr.findNow td c mes i=some none/\j1 es d=none/\(∀r,iL es d r=es++[(d,r)])/\iK es d=es/\∀x∈mes,x.key≠c) ∨
  ∃j e row,Instr.findNow td c mes i=some (some (i+j,e.val))/\mes[j]?=some e/\e.key=c/\j1 es d=some row/\jW K h ag e.val row/\(∀r,iL es d r=es.set j (d,r))/\iK es d=es.eraseIdx j
 |[],[],i,_,_=>.inl ⟨rfl,rfl,fun _=>rfl,rfl,by simp⟩
 |e::mes,p::es,i,hm,hk=>by
  simp only[MRs]at hm;simp only[jN]at hk;obtain⟨h1,h2,h3⟩:=ny hd hk.1 hc hm.1 htd
  cases hq:fi p.1 d with
  |true =>
   rw[hq]at h1;exact .inr ⟨0,e,p.2,by simp[Instr.findNow,h1],rfl,h2 hq,by simp[j1,hq],hm.2.1,fun r=>by simp[iL,hq],by simp[iK,hq]⟩
  |false =>
   rw[hq]at h1
   rcases oD hd hc htd (i+1) hm.2.2 hk.2 with⟨a1,a2,a3,a4,a8⟩|⟨j,e',row,a1,a2,a3,a4,a5,a6,a7⟩
   .exact .inl ⟨by simp[Instr.findNow,h1,a1],by simp[j1,hq,a2],fun r=>by simp[iL,hq,a3],by simp[iK,hq,a4],fun x hx=>by rcases mem_cons.1 hx with rfl|hx;exact h3 hq;exact a8 x hx⟩
   .exact .inr ⟨j+1,e',row,by simp[Instr.findNow,h1,a1];omega,by simpa using a2,a3,by simp[j1,hq,a4],a5,fun r=>by simp[iL,hq,a6],by simp[iK,hq,a7]⟩
 |[],_::_,_,hm,_=>by simp[MRs]at hm
 |_::_,[],_,hm,_=>by simp[MRs]at hm
mutual
theorem kn:∀(d:Nat) {t:TypeId} {ks:List Kd} (e:Nat) {h:Array Obj} {xs:List Value} {ds:List Dt} (em:Bool),gL P d t=some ks->DRs K h xs ds->zF ks ds ->
  (Instr.checkKey em (d+e) t (zcc P t xs)).run P w=.ok () w
 |0,t,ks,e,h,xs,ds,em,hk,_,_=>by simp[gL]at hk
 |d+1,t,ks,e,h,xs,ds,em,hk,hx,h1=>by
  rw[show d+1+e=(d+e)+1 by omega];unfold gL at hk;split at hk
  .rename_i hu
   split at hk
   rotate_left
   .cases hk
   cases hk
   match ds,h1 with
   |[.b x],_ =>
    simp only[DRs,DR]at hx;obtain⟨_,_,rfl,rfl,rfl⟩:=hx;simp[zcc,eG,hu,Instr.checkKey,run_underlying hu]
  .rename_i k hu
   split at hk
   rotate_left
   .cases hk
   cases hk
   match ds,h1 with
   |[.i k1 x],h1 =>
    simp only[DRs,DR]at hx;obtain⟨_,_,rfl,⟨rfl,_⟩,rfl⟩:=hx;simp[zcc,eG,hu,Instr.checkKey,run_underlying hu]
  .rename_i hu
   split at hk
   rotate_left
   .cases hk
   cases hk
   match ds,h1 with
   |[.s x],_ =>
    simp only[DRs,DR]at hx;obtain⟨_,_,rfl,⟨rfl,_⟩,rfl⟩:=hx;simp[zcc,eG,hu,Instr.checkKey,run_underlying hu]
  .rename_i fs hu
   have hag:eG P t=true:=by simp[eG,hu]
   split at hk
   .cases hk
   split at hk
   .rename_i l hl
    split at hk
    .cases hk
     simp only[zcc,hag,if_true];rw[Instr.checkKey];simp only[Sem.run_bind,run_underlying hu,Result.andThen_ok];rw[<-Array.forIn_toList];have hfs:=ko d e (xs:=xs) 0 em (Nat.zero_le _) hl (by simpa using hx) h1;rw[hfs];simp
    .cases hk
   .cases hk
  .cases hk
theorem ko:∀(d:Nat) (e:Nat) {fs:List Field} {ks:List Kd} {h:Array Obj} {xs:List Value} {ds:List Dt} (off:Nat) (em:Bool),off<=xs.length->mr P d off fs=some ks->DRs K h (xs.drop off) ds->zF ks ds ->
  (forIn fs PUnit.unit fun f _=>do
   if f.name≠ "_" then do
    Instr.checkKey em (d+e) f.type (<-part f.type xs.toArray f.offset)
    pure (ForInStep.yield PUnit.unit)
   else do
    pure PUnit.unit
    pure (ForInStep.yield PUnit.unit):Sem PUnit).run P w=.ok () w
 |d,e,[],ks,h,xs,ds,off,em,_,_,_,_=>by simp
 |0,e,f::fs,ks,h,xs,ds,off,em,_,hk,_,_=>by simp[mr]at hk
 |d+1,e,f::fs,ks,h,xs,ds,off,em,ox,hk,hx,h1=>by
  unfold mr at hk;split at hk
  .cases hk
  rename_i hn
  have hname:¬ f.name= "_":=fun e=>hn (.inl e)
  have hoff:f.offset=off:=Decidable.byContradiction fun e=>hn (.inr e)
  split at hk
  .rename_i l hl
   split at hk
   .rename_i l' hl'
    cases hk;obtain⟨h1a,h1b⟩:=GH h1;have lx:=GI h1;have lx':=hx.length;simp only[length_drop,length_append]at lx lx';obtain⟨hsz,hone,du,hdu⟩:=kX (K:=K) (h:=h) w d hl;have hpx:=M5 (P:=P) w hsz hdu xs off (by omega) hone;have hq:=kn d (t:=f.type) (e+1) em hl (hx.take l.length) h1a;have hr:=ko d (e+1) (xs:=xs) (off+l.length) em (by omega) hl' (by simpa [drop_drop]using hx.drop l.length) h1b;rw[show d+1+e=d+(e+1)by omega];simp only[forIn_cons,Sem.run_bind,hname,ne_eq,not_false_eq_true,if_true,hoff,Result.andThen_ok,hpx,hq,Sem.run_pure];exact hr
   .cases hk
  .cases hk
end
theorem Lt{h:Array Obj}:∀{ks:List Kd} {xs ys:List Value} {ds es:List Dt},zF ks ds->zF ks es->DRs K h xs ds->DRs K h ys es->(fJ ds es=true->ys=xs)/\(fJ ds es=false->ys≠xs)
 |[],xs,ys,[],[],_,_,hx,hy=>by
  simp only[DRs]at hx hy
  subst hx;subst hy
  exact⟨fun _=>rfl,fun e=>by simp[fJ]at e⟩
 |.b::ks,xs,ys,.b x::ds,.b y::es,h1,h2,hx,hy=>by
  simp only[DRs,DR]at hx hy;simp only[zF]at h1 h2;obtain⟨_,xs',rfl,rfl,hx⟩:=hx;obtain⟨_,ys',rfl,rfl,hy⟩:=hy;obtain⟨i1,i2⟩:=Lt h1 h2 hx hy;simp only[fJ,Bool.and_eq_true,decide_eq_true_eq,Bool.and_eq_false_iff,decide_eq_false_iff_not];refine⟨fun e=>by rw[i1 e.2,e.1],fun e he=>?_⟩;simp only[List.cons.injEq,Value.bool.injEq]at he
  rcases e with e|e
  .exact e he.1.symm
  .exact i2 e he.2
 |.s::ks,xs,ys,.s x::ds,.s y::es,h1,h2,hx,hy=>by
  simp only[DRs,DR]at hx hy;simp only[zF]at h1 h2;obtain⟨_,xs',rfl,⟨rfl,_⟩,hx⟩:=hx;obtain⟨_,ys',rfl,⟨rfl,_⟩,hy⟩:=hy;obtain⟨i1,i2⟩:=Lt h1 h2 hx hy;simp only[fJ,Bool.and_eq_true,decide_eq_true_eq,Bool.and_eq_false_iff,decide_eq_false_iff_not];refine⟨fun e=>by rw[i1 e.2,e.1],fun e he=>?_⟩;simp only[List.cons.injEq,Value.string.injEq]at he
  rcases e with e|e
  .exact e (by have:=he.1;injection this with this;simpa using this.symm)
  .exact i2 e he.2
 |.i k::ks,xs,ys,.i k1 x::ds,.i k2 y::es,h1,h2,hx,hy=>by
  simp only[DRs,DR]at hx hy;simp only[zF]at h1 h2;obtain⟨rfl,h1⟩:=h1;obtain⟨rfl,h2⟩:=h2;obtain⟨_,xs',rfl,⟨rfl,_⟩,hx⟩:=hx;obtain⟨_,ys',rfl,⟨rfl,_⟩,hy⟩:=hy;obtain⟨i1,i2⟩:=Lt h1 h2 hx hy;simp only[fJ,Bool.and_eq_true,decide_eq_true_eq,Bool.and_eq_false_iff,decide_eq_false_iff_not];refine⟨fun e=>by rw[i1 e.2,e.1],fun e he=>?_⟩;simp only[List.cons.injEq,Value.int.injEq,true_and]at he
  rcases e with e|e
  .exact e he.1.symm
  .exact i2 e he.2
 |[],_,_,_::_,_,h1,_,_,_=>by simp[zF]at h1
 |[],_,_,[],_::_,_,h2,_,_=>by simp[zF]at h2
 |k::_,_,_,[],_,h1,_,_,_=>by cases k <;> simp[zF]at h1
 |k::_,_,_,d::_,[],_,h2,_,_=>by cases k <;> simp[zF]at h2
 |.b::_,_,_,.s _::_,_::_,h1,_,_,_|.b::_,_,_,.i _ _::_,_::_,h1,_,_,_|.b::_,_,_,.l _::_,_::_,h1,_,_,_|.b::_,_,_,.a _::_,_::_,h1,_,_,_=>by simp[zF]at h1
 |.s::_,_,_,.b _::_,_::_,h1,_,_,_|.s::_,_,_,.i _ _::_,_::_,h1,_,_,_|.s::_,_,_,.l _::_,_::_,h1,_,_,_|.s::_,_,_,.a _::_,_::_,h1,_,_,_=>by simp[zF]at h1
 |.i _::_,_,_,.b _::_,_::_,h1,_,_,_|.i _::_,_,_,.s _::_,_::_,h1,_,_,_|.i _::_,_,_,.l _::_,_::_,h1,_,_,_|.i _::_,_,_,.a _::_,_::_,h1,_,_,_=>by simp[zF]at h1
 |.b::_,_,_,.b _::_,.s _::_,_,h2,_,_|.b::_,_,_,.b _::_,.i _ _::_,_,h2,_,_|.b::_,_,_,.b _::_,.l _::_,_,h2,_,_|.b::_,_,_,.b _::_,.a _::_,_,h2,_,_=>by simp[zF]at h2
 |.s::_,_,_,.s _::_,.b _::_,_,h2,_,_|.s::_,_,_,.s _::_,.i _ _::_,_,h2,_,_|.s::_,_,_,.s _::_,.l _::_,_,h2,_,_|.s::_,_,_,.s _::_,.a _::_,_,h2,_,_=>by simp[zF]at h2
 |.i _::_,_,_,.i _ _::_,.b _::_,_,h2,_,_|.i _::_,_,_,.i _ _::_,.s _::_,_,h2,_,_|.i _::_,_,_,.i _ _::_,.l _::_,_,h2,_,_|.i _::_,_,_,.i _ _::_,.a _::_,_,h2,_,_=>by simp[zF]at h2
theorem LD{h:Array Obj}:∀{ks:List Kd} {xs:List Value} {ds:List Dt} (n:Nat),zF ks ds->DRs K h xs ds->((xs.zip xs).all fun(x,y)=>Instr.sameBits n x y)=true
 |[],xs,[],n,_,hx=>by simp only[DRs]at hx;subst hx;rfl
 |.b::ks,xs,.b x::ds,n,h1,hx=>by
  simp only[DRs,DR]at hx;simp only[zF]at h1;obtain⟨_,xs',rfl,rfl,hx⟩:=hx;have:=LD n h1 hx;simp only[zip_cons_cons,all_cons,this,Bool.and_true]
  cases n <;> simp[Instr.sameBits]
 |.s::ks,xs,.s x::ds,n,h1,hx=>by
  simp only[DRs,DR]at hx;simp only[zF]at h1;obtain⟨_,xs',rfl,⟨rfl,_⟩,hx⟩:=hx;have:=LD n h1 hx;simp only[zip_cons_cons,all_cons,this,Bool.and_true]
  cases n <;> simp[Instr.sameBits,MapKept.bytes_beq]
 |.i k::ks,xs,.i k1 x::ds,n,h1,hx=>by
  simp only[DRs,DR]at hx;simp only[zF]at h1;obtain⟨_,xs',rfl,⟨rfl,_⟩,hx⟩:=hx;have:=LD n h1.2 hx;simp only[zip_cons_cons,all_cons,this,Bool.and_true]
  cases n <;> simp[Instr.sameBits]
 |[],_,_::_,_,h1,_=>by simp[zF]at h1
 |k::_,_,[],_,h1,_=>by cases k <;> simp[zF]at h1
 |.b::_,_,.s _::_,_,h1,_|.b::_,_,.i _ _::_,_,h1,_|.b::_,_,.l _::_,_,h1,_|.b::_,_,.a _::_,_,h1,_=>by simp[zF]at h1
 |.s::_,_,.b _::_,_,h1,_|.s::_,_,.i _ _::_,_,h1,_|.s::_,_,.l _::_,_,h1,_|.s::_,_,.a _::_,_,h1,_=>by simp[zF]at h1
 |.i _::_,_,.b _::_,_,h1,_|.i _::_,_,.s _::_,_,h1,_|.i _::_,_,.l _::_,_,h1,_|.i _::_,_,.a _::_,_,h1,_=>by simp[zF]at h1
theorem EW{kt:TypeId}{k:Tk}(h:ol P kt=.tk k):k=dL P kt∨k=.other:=by
 unfold ol at h;split at h
 .split at h
  .cases h
  .cases h;exact .inr rfl
 .cases h;exact .inl rfl
theorem EX{kt:TypeId}{l:List Kd}(h:ol P kt=.ks l):gL P 60 kt=some l/\∃fs,P.underlying kt=some (.struct fs):=by
 unfold ol at h;split at h
 .rename_i fs hu
  split at h
  .rename_i l' hl;cases h;exact⟨hl,fs,hu⟩
  .cases h
 .cases h
theorem Qg{kt:TypeId}{l:List Kd}(hk60:gL P 60 kt=some l)(ha:eG P kt=true){ag:Bool}{xs:List Value}{ds:List Dt}(hd:zF l ds)(hc:DRs K w.heap xs ds):∀{mes:List MapEntry} {es:List (Dt×List Dt)} (i:Nat),MRs K w.heap ag mes es->jN (.ks l) es ->
  ((Instr.findAsking kt (.agg xs.toArray) mes i).run P w=.ok none w/\j1 es (.a ds)=none/\(∀r,iL es (.a ds) r=es++[(.a ds,r)])/\iK es (.a ds)=es/\∀x∈mes,x.key≠.agg xs.toArray) ∨
  ∃j e row,(Instr.findAsking kt (.agg xs.toArray) mes i).run P w=.ok (some (i+j,e.val)) w/\mes[j]?=some e/\e.key=.agg xs.toArray/\j1 es (.a ds)=some row/\jW K w.heap ag e.val row/\(∀r,iL es (.a ds) r=es.set j (.a ds,r))/\iK es (.a ds)=es.eraseIdx j
 |[],[],i,_,_=>.inl ⟨by simp[Instr.findAsking],rfl,fun _=>rfl,rfl,by simp⟩
 |e::mes,p::es,i,hm,hk=>by
  simp only[MRs]at hm;simp only[jN]at hk;obtain⟨pk,pr⟩:=p
  cases pk <;> simp only[lr]at hk <;> try exact hk.1.elim
  rename_i ps
  have hpk:=hm.1;simp only[KR]at hpk;obtain⟨ys,hey,hps⟩:=hpk;have hq:=M3 (P:=P) w 60 (t:=kt) 9940 hk60 hc hps hd hk.1;simp only[zcc,ha,if_true]at hq
  have hq':(Op.equal kt (.agg xs.toArray) e.key).run P w=.ok (fJ ds ps) w:=by rw[hey];exact hq
  obtain⟨r1,r2⟩:=Lt hd hk.1 hc hps
  cases hr:fJ ds ps with
  |true =>
   rw[hr]at hq';refine .inr ⟨0,e,pr,by simp[Instr.findAsking,hq'],rfl,by rw[hey,r1 hr],by simp[j1,fi,hr],hm.2.1,fun r=>by simp[iL,fi,hr],by simp[iK,fi,hr]⟩
  |false =>
   rw[hr]at hq'
   have hne:e.key≠.agg xs.toArray:=by
    rw[hey];intro h
    injection h with h
    exact r2 hr (by simpa using h)
   rcases Qg hk60 ha hd hc (i+1) hm.2.2 hk.2 with⟨a1,a2,a3,a4,a8⟩|⟨j,e',row,a1,a2,a3,a4,a5,a6,a7⟩
   .exact .inl ⟨by simp[Instr.findAsking,hq',a1],by simp[j1,fi,hr,a2],fun r=>by simp[iL,fi,hr,a3],by simp[iK,fi,hr,a4],fun x hx=>by rcases mem_cons.1 hx with rfl|hx;exact hne;exact a8 x hx⟩
   .exact .inr ⟨j+1,e',row,by simp[Instr.findAsking,hq',a1];omega,by simpa using a2,a3,by simp[j1,fi,hr,a4],a5,fun r=>by simp[iL,fi,hr,a6],by simp[iK,fi,hr,a7]⟩
 |[],_::_,_,hm,_=>by simp[MRs]at hm
 |_::_,[],_,hm,_=>by simp[MRs]at hm
theorem Lb{kt:TypeId}{d:Dt}{c:Value}(hk:lr (ol P kt) d)(hc:KR K w.heap c d) :
  (∀em,(Instr.checkKey em 10000 kt c).run P w=.ok () w)/\(Instr.keyThatStays c c).run P w=.ok c w /\
  ∀{ag:Bool} {mes:List MapEntry} {es:List (Dt×List Dt)},MRs K w.heap ag mes es->jN (ol P kt) es ->
   ((Instr.findKey kt c mes).run P w=.ok none w/\j1 es d=none/\(∀r,iL es d r=es++[(d,r)])/\iK es d=es/\∀x∈mes,x.key≠c) ∨
   ∃j e row,(Instr.findKey kt c mes).run P w=.ok (some (j,e.val)) w/\mes[j]?=some e/\e.key=c/\j1 es d=some row/\jW K w.heap ag e.val row/\(∀r,iL es d r=es.set j (d,r))/\iK es d=es.eraseIdx j:=by
 cases hkk:ol P kt with
 |tk k =>
  rw[hkk]at hk
  have hkt:k=dL P kt:=by
   rcases EW hkk with h|h
   .exact h
   .subst h;cases d <;> exact hk.elim
  subst hkt;obtain⟨td,htd,hik⟩:=Bh rfl hk hc;refine⟨fun em=>MapKept.run_checkKey htd hik em 9999,MapKept.run_keyThatStays hik,fun hm hmk=>?_⟩
  rcases oD hk hc hik 0 hm hmk with⟨a1,a2⟩|⟨j,e,row,a1,a2⟩
  .exact .inl ⟨MapKept.run_findKey htd a1,a2⟩
  .rw[Nat.zero_add]at a1
   exact .inr ⟨j,e,row,MapKept.run_findKey htd a1,a2⟩
 |ks l =>
  rw[hkk]at hk;obtain⟨hl,fs,hu⟩:=EX hkk
  have ha:eG P kt=true:=by simp[eG,hu]
  cases d <;> simp only[lr]at hk
  rename_i ds
  simp only[KR]at hc;obtain⟨xs,rfl,hc⟩:=hc;refine⟨fun em=>?_,?_,fun hm hmk=>?_⟩
  .have:=kn (P:=P) (w:=w) 60 (t:=kt) 9940 em hl hc hk
   simp only[zcc,ha,if_true]at this;exact this
  .have hsb:Instr.sameBits 10000 (.agg xs.toArray) (.agg xs.toArray)=true:=by
    have:=LD 9999 hk hc;rw[show(10000:Nat)=9999+1 from rfl];simp only[Instr.sameBits,beq_self_eq_true,Bool.true_and]
    simpa using this
   simp[Instr.keyThatStays,hsb]
  .have hw:=run_findKey_eq (P:=P) w (k:=kt) (by simp[hu]) (.agg xs.toArray)
   rcases Qg hl ha hk hc 0 hm hmk with⟨a1,a2⟩|⟨j,e,row,a1,a2⟩
   .exact .inl ⟨by rw[hw];exact a1,a2⟩
   .rw[Nat.zero_add]at a1
    exact .inr ⟨j,e,row,by rw[hw];exact a1,a2⟩
theorem w9:∀{vs:List Va} {ds:List Dt} {cs:List Value},EY vs=some ds->VRs K w.heap G cs vs->DRs K w.heap cs ds
 |[],ds,cs,h,hv=>by simp only[EY]at h;cases h;simpa only[VRs,DRs]using hv
 |v::vs,ds,cs,h,hv=>by
  cases v with
  |p d =>
   simp only[EY]at h;split at h
   .rename_i ds' hd
    cases h;simp only[VRs,VR]at hv;obtain⟨c,cs',rfl,h1,h2⟩:=hv;simp only[DRs];exact⟨c,cs',rfl,h1,w9 hd h2⟩
   .cases h
  |_=>simp[EY]at h
theorem KX{v:Va}{d:Dt}{c:Value}(h:tT v=some d)(hv:VR K w.heap G c v):KR K w.heap c d:=by
 unfold tT at h;split at h
 .cases h
  simp only[VR]at hv
  cases d <;> first|exact hv|(simp only[DR]at hv)
 .split at h
  .rename_i ds hd
   cases h;simp only[VR]at hv;obtain⟨cs,rfl,hv⟩:=hv;simp only[KR];exact⟨cs,rfl,w9 hd hv⟩
  .cases h
 .cases h
theorem MRs.length{h:Array Obj}{ag:Bool}:∀{mes:List MapEntry} {es:List (Dt×List Dt)},MRs K h ag mes es->mes.length=es.length
 |[],[],_=>rfl
 |_::_,_::_,hm=>by simp only[MRs]at hm;simp[MRs.length hm.2.2]
 |[],_::_,hm=>by simp[MRs]at hm
 |_::_,[],hm=>by simp[MRs]at hm
theorem MRs.append{h:Array Obj}{ag:Bool}{e:MapEntry}{p:Dt×List Dt}(he:KR K h e.key p.1)(hv:jW K h ag e.val p.2):∀{mes:List MapEntry} {es:List (Dt×List Dt)},MRs K h ag mes es->MRs K h ag (mes++[e]) (es++[p])
 |[],[],_=>by simp only[nil_append,MRs];exact⟨he,hv,trivial⟩
 |x::mes,y::es,hm=>by simp only[MRs,cons_append]at *;exact⟨hm.1,hm.2.1,MRs.append he hv hm.2.2⟩
 |[],_::_,hm=>by simp[MRs]at hm
 |_::_,[],hm=>by simp[MRs]at hm
theorem MRs.set{h:Array Obj}{ag:Bool}{e:MapEntry}{p:Dt×List Dt}(he:KR K h e.key p.1)(hv:jW K h ag e.val p.2):∀{mes:List MapEntry} {es:List (Dt×List Dt)} (j:Nat),MRs K h ag mes es->MRs K h ag (mes.set j e) (es.set j p)
 |[],[],_,_=>by simp[MRs]
 |x::mes,y::es,0,hm=>by simp only[MRs,set_cons_zero]at *;exact⟨he,hv,hm.2.2⟩
 |x::mes,y::es,j+1,hm=>by simp only[MRs,set_cons_succ]at *;exact⟨hm.1,hm.2.1,MRs.set he hv j hm.2.2⟩
 |[],_::_,_,hm=>by simp[MRs]at hm
 |_::_,[],_,hm=>by simp[MRs]at hm
theorem MRs.erase{h:Array Obj}{ag:Bool}:∀{mes:List MapEntry} {es:List (Dt×List Dt)} (j:Nat),MRs K h ag mes es->MRs K h ag (mes.eraseIdx j) (es.eraseIdx j)
 |[],[],_,_=>by simp[MRs]
 |x::mes,y::es,0,hm=>by simp only[MRs,eraseIdx_zero,tail_cons]at *;exact hm.2.2
 |x::mes,y::es,j+1,hm=>by simp only[MRs,eraseIdx_cons_succ]at *;exact⟨hm.1,hm.2.1,MRs.erase j hm.2.2⟩
 |[],_::_,_,hm=>by simp[MRs]at hm
 |_::_,[],_,hm=>by simp[MRs]at hm
theorem AY{h:Array Obj}{ag:Bool}{v:Value}{row:List Dt}(hv:jW K h ag v row):VR K h G v (gX ag row):=by
 cases ag with
 |true =>
  obtain⟨cs,rfl,h2⟩:=hv;simp only[gX,cond_true,VR];exact⟨cs,rfl,h2.vrs⟩
 |false =>
  obtain⟨d,rfl,h2⟩:=hv
  simpa only[gX,cond_false,CS,drop_zero,VR]using h2
theorem wT{t:TypeId}{cok:Bool}(hS:St K G H w){c ck:Value}{x k:Va}(hc:VR K w.heap G c x)(hk:VR K w.heap G ck k)(hok:(oa P t H cok x k).ok) :
  ∃c',(Instr.lookup t c ck cok).run P w=.ok c' w/\VR K w.heap G c' (oa P t H cok x k).v:=by
 unfold oa at hok|-;split at hok
 rotate_left
 .exact hok.elim
 rename_i kt et o d hkm hkv
 split at hok
 rotate_left
 .exact hok.elim
 rename_i ag es te ho hte
 obtain⟨h1,h2,h3,h4,h5⟩:=hok;obtain⟨ti,ht,hk'⟩:=zH hkm (by simp);have hu:=FK ht hk';have hk:=KX hkv hk;simp only[VR]at hc;obtain⟨g,b,hg,hgb,rfl⟩:=hc;obtain⟨hlim,b',mes,clock,hb',hbm,hm,_⟩:=hS.ob o g _ hg (zJ ho (by simp))
 obtain rfl:b'=b:=by rw[hgb]at hb';exact(Option.some.inj hb').symm
 obtain⟨hck,_,hfind⟩:=Lb (P:=P) (w:=w) h2 hk
 have eu:∀(v:Value) (row:List Dt) (ok:Bool),jW K w.heap ag v row->(Instr.lookup t (.map (some b')) ck cok).run P w=.ok (if cok then .tuple #[v,.bool ok]else v) w->Af es d (zr te.zero)=row->(j1 es d).isSome=ok ->
   ∃c',(Instr.lookup t (.map (some b')) ck cok).run P w=.ok c' w/\VR K w.heap G c' (bif cok then .tup [gX ag (Af es d (zr te.zero)),.p (.b (j1 es d).isSome)]else gX ag (Af es d (zr te.zero))):=by
  intro v row ok hv hr e1 e2;refine⟨_,hr,?_⟩;rw[e1,e2];have:=AY (G:=G) hv
  cases cok with
  |false=>simpa using this
  |true =>
   simp only[if_true,cond_true,VR];refine⟨[v,.bool ok],rfl,?_⟩;simp only[VRs,VR,DR];exact⟨_,_,rfl,this,_,_,rfl,rfl,rfl⟩
 rcases hfind hm h1 with⟨a1,a2,_,_,_⟩|⟨j,e,row,a1,a2,a3,a4,a5,_,_⟩
 .obtain⟨i,z,hi1,hi2,hi3,hz2⟩:=M9 hte
  have hz1:(zeroValue et).run P w=.ok z w:=by simp[zeroValue,typeInfo,hi1,hi3]
  have hzf:yO P et=(match z with|.agg _=>true|_=>false):=by simp only[yO,hi1,Option.bind_some,hi3];cases z <;> rfl
  refine eu z (zr te.zero) false ?_ ?_ (by simp[Af,a2]) (by simp[a2])
  .have hzr:=mU (K:=K) (h:=w.heap) h4
   rw[<-hz2]at hzr
   cases ag with
   |true =>
    rw[h3]at hzf
    cases z <;> first|cases hzf|skip
    rename_i cs
    exact⟨cs.toList,by simp,by rw[<-hz2];exact hzr⟩
   |false =>
    rw[h3]at hzf
    have hzs:z.cells.toList=[z]:=by cases z <;> first|rfl|cases hzf
    rw[hzs]at hzr;have hrl:=hzr.length;rw[<-hz2,hzs]
    match hzz:zr [z],hrl with
    |[d0],_ =>
     rw[hzz]at hzr;simp only[DRs]at hzr;obtain⟨_,_,h6,h7,_⟩:=hzr;cases h6;exact⟨d0,rfl,h7⟩
  .simp only[Instr.lookup,Sem.run_bind,run_underlying hu,Result.andThen_ok,MapKept.run_getObj_map hbm,Sem.run_pure,hck,a1,hz1]
   first
    |done
    |(cases cok <;> simp)
 .refine eu e.val row true a5 ?_ (by simp[Af,a4]) (by simp[a4])
  simp only[Instr.lookup,Sem.run_bind,run_underlying hu,Result.andThen_ok,MapKept.run_getObj_map hbm,Sem.run_pure,hck,a1]
  first
   |done
   |(cases cok <;> simp)
end
def gR:List Va->Option (List Dt)
 |[]=>some []
 |.p d::l=>match gR l with
  |some ds=>some (d::ds)
  |none=>none
 |_::_=>none
def qZ(op:BinOp)(b:Bool)(ok:Prop):Pv:=match op with
 |.eql=>⟨.p (.b b),ok⟩
 |.neq=>⟨.p (.b (!b)),ok⟩
 |_=>dD
def xZ(P:Program)(op:BinOp)(t:TypeId)(x y:Va):Pv:=match x with
 |.p (.i k a)=>match y with
  |.p (.i k' b)=>jl op k a k' b
  |_=>dD
 |.p (.s a)=>match y with
  |.p (.s b)=>x7 op a b
  |_=>dD
 |.p (.b a)=>match y with
  |.p (.b b)=>match dL P t with
   |.bool=>qZ op (decide (a=b)) True
   |_=>dD
  |_=>dD
 |.agg xs=>match y with
  |.agg ys=>match y5 P t,gR xs,gR ys with
   |some ks,some ds,some es=>qZ op (fJ ds es) (eG P t=true/\zF ks ds/\zF ks es)
   |_,_,_=>dD
  |_=>dD
 |.nil=>match y with
  |.nil=>match dL P t with
   |.ptr _=>qZ op true True
   |_=>dD
  |_=>dD
 |.ptr o a=>match y with
  |.nil=>match dL P t with
   |.ptr _=>qZ op false True
   |_=>dD
  |.ptr o' a'=>match dL P t with
   |.ptr e=>qZ op true (o=o'/\a=a'/\(P.info? e).isSome=true)
   |_=>dD
  |_=>dD
 |_=>dD
def EP:Va->Pv
 |.ptr o off=>⟨.ptr o off,True⟩
 |.rp row=>⟨.rp row,True⟩
 |.el o sz i off=>⟨.el o sz i off,True⟩
 |.fn f caps=>⟨.fn f caps,True⟩
 |_=>dD
def mA(ti:Ti)(x:Va):Prop:=match ti.kind,x with
 |.str,.p (.s _)=>True
 |.slice _ esz _ _,.p (.l rows)=>eP esz rows
 |.slice _ esz _ _,.full rows=>eP esz rows
 |.slice _ _ _ _,.nils=>True
 |_,_=>False
def oOk(g:Bool)(E:dz):Option Operand->Prop
 |none=>True
 |some x=>opOk g E x
def allOk(g:Bool)(E:dz):List Operand->Prop
 |[]=>True
 |x::xs=>opOk g E x/\allOk g E xs
def partsOk(g:Bool)(E:dz):List (Nat×Operand)->Prop
 |[]=>True
 |x::xs=>opOk g E x.2/\partsOk g E xs
def partsV(E:dz):List (Nat×Operand)->List (Nat×Va)
 |[]=>[]
 |x::xs=>(x.1,opnd E x.2)::partsV E xs
def opnds(E:dz):List Operand->List Va
 |[]=>[]
 |x::xs=>opnd E x::opnds E xs
def also(c:Prop)(r:Pv):Pv:=⟨r.v,c/\r.ok⟩
def U7:Va->Option Bool
 |.p (.b x)=>some x
 |_=>none
def ku(t:Bool)(a b:Va):Va:=match a,b with
 |.p (.b x),.p (.b y)=>.p (.b (bif t then x else y))
 |x,y=>bif t then x else y
theorem rM(a b:Va):ku true a b=a:=by
 unfold ku
 split <;> rfl
theorem rN(a b:Va):ku false a b=b:=by
 unfold ku
 split <;> rfl
theorem A7(t:Bool)(a b:Va):ku t a b=match a,b with
 |.p (.b x),.p (.b y)=>.p (.b (bif t then x else y))
 |x,y=>bif t then x else y:=rfl
def wx(g:Bool)(c a b:Va):Pv:=match c with
 |.p (.b t)=>⟨ku t (ni a) (ni b),g=true->(t=true->FL a=true)/\(t=false->FL b=true)⟩
 |_=>dD
def JS(mn:Bool)(x y:Va):Pv:=match x,y with
 |.p (.i k a),.p (.i k' b)=>⟨.p (.i k (bif mn then min a b else max a b)),k=k'⟩
 |_,_=>dD
def Px(x y z:Va):Pv:=match x,y,z with
 |.p (.i k a),.p (.i k' b),.p (.i k'' c)=>⟨.p (.i k (min (min a b) c)),k=k'/\k=k''⟩
 |_,_,_=>dD
def Fs(P:Program)(t:TypeId)(x:Va):Pv:=match dL P t,x with
 |.slice _ _ _ _,.bufc _ cp=>⟨.p (.i .i64 cp),(cp:Int)<=9223372036854775807⟩
 |_,_=>dD
def Kg(x y:Va)(o:Operand):Option Bool:=match x,y,o with
 |.raw .nilIface,.raw .nilIface,.const _=>some true
 |.er b,.raw .nilIface,.const _=>some b
 |_,_,_=>none
theorem Fj{K:Nat->Prop}{h:Array Obj}{G:List Gh}{x y:Va}{o:Operand}{b:Bool}{cx cy:Value}(e:Kg x y o=some b)(hx:VR K h G cx x)(hy:VR K h G cy y) :
  (∃v,o=.const v)/\cy=.nilIface/\((b=true/\cx=.nilIface)∨(b=false/\∃t v,cx=.iface t v)):=by
 unfold Kg at e;split at e
 .cases e
  simp only[VR]at hx hy;exact⟨⟨_,rfl⟩,hy,.inl ⟨rfl,hx⟩⟩
 .cases e
  simp only[VR]at hx hy;exact⟨⟨_,rfl⟩,hy,hx⟩
 .cases e
def MO(P:Program)(t:TypeId):Bool:=match P.underlying t with
 |some (.interface _)=>true
 |_=>false
def eR(P:Program)(g:Bool)(E:dz)(H:List Ob):Op->Pv
 |.move x=>⟨opnd E x,opOk g E x⟩
 |.assign x=>⟨opnd E x,opOk g E x⟩
 |.pick c a b=>also (opOk g E c/\uK a/\uK b) (wx g (opnd E c) (ed E a) (ed E b))
 |.build t ps=>match dM P t with
  |some ti=>also (partsOk g E ps.toList) (jj ti (partsV E ps.toList))
  |none=>dD
 |.load t x=>match dM P t with
  |some ti=>also (opOk g E x) (kI ti H (opnd E x))
  |none=>dD
 |.nilCheck x=>also (opOk g E x) (EP (opnd E x))
 |.binOp op t x y _=>also (opOk g E x/\opOk g E y) (match Kg (opnd E x) (opnd E y) y with
  |some b=>qZ op b (MO P t=true)
  |none=>xZ P op t (opnd E x) (opnd E y))
 |.unOp op _ x=>also (opOk g E x) (Jl op (opnd E x))
 |.convert s d x=>match dM P s with
  |some _=>also (opOk g E x) (oW P s d H (opnd E x))
  |none=>dD
 |.makeFunc fn first caps=>match fn,first.toList with
  |.func f,[]=>⟨.fn f (opnds E caps.toList),allOk g E caps.toList⟩
  |_,_=>dD
 |.slice t x l h m=>match dM P t with
  |some ti=>match lF ti H (opnd E x)with
   |some r=>also (opOk g E x/\oOk g E l/\oOk g E h/\oOk g E m) (m9 r (l.map (opnd E)) (h.map (opnd E)) (m.map (opnd E)))
   |none=>also (opOk g E x/\oOk g E l/\oOk g E h/\oOk g E m/\mA ti (opnd E x)) (yE (opnd E x) (l.map (opnd E)) (h.map (opnd E)) (m.map (opnd E)))
  |none=>dD
 |.fieldAddr t x f=>match dM P t with
  |some ti=>also (opOk g E x) (H5 ti f (opnd E x))
  |none=>dD
 |.field t x f=>match dM P t with
  |some ti=>also (opOk g E x) (jg ti f (opnd E x))
  |none=>dD
 |.indexAddr t x i=>match dM P t with
  |some ti=>also (opOk g E x/\opOk g E i) (HJ ti H (opnd E x) (opnd E i))
  |none=>dD
 |.index t x i=>match dM P t with
  |some ti=>also (opOk g E x/\opOk g E i) (ja ti (opnd E x) (opnd E i))
  |none=>dD
 |.extract x i=>also (opOk g E x) (HH (opnd E x) i)
 |.lookup t x k cok=>also (opOk g E x/\opOk g E k) (oa P t H cok (opnd E x) (opnd E k))
 |.call c=>match c.callee,c.args.toList,c.argTypes.toList with
  |.builtin .len,[x],t::_=>also (opOk g E x) (wY P t H (opnd E x))
  |.builtin .cap,[x],t::_=>also (opOk g E x) (Fs P t (opnd E x))
  |.builtin .min,[x,y],_=>also (opOk g E x/\opOk g E y) (JS true (opnd E x) (opnd E y))
  |.builtin .min,[x,y,z],_=>also (opOk g E x/\opOk g E y/\opOk g E z) (Px (opnd E x) (opnd E y) (opnd E z))
  |.builtin .max,[x,y],_=>also (opOk g E x/\opOk g E y) (JS false (opnd E x) (opnd E y))
  |_,_,_=>dD
 |_=>dD
section
variable {K:Nat->Prop} {G:List Gh} {H:List Ob} {w:World} {P:Program} {E:dz} {a:Act} {g:Bool}
theorem Ns{h:Array Obj}:∀{cs:List Value} {vs:List Va} {ds:List Dt},VRs K h G cs vs->gR vs=some ds->DRs K h cs ds
 |cs,[],ds,H,hp=>by simp only[gR]at hp;cases hp;simpa [VRs,DRs]using H
 |cs,.p d::vs,ds,H,hp=>by
  simp only[gR]at hp;split at hp
  .rename_i ds' hd
   cases hp;simp only[VRs,VR]at H;obtain⟨c,cs',rfl,h2,h3⟩:=H;simp only[DRs];exact⟨c,cs',rfl,h2,Ns h3 hd⟩
  .cases hp
 |cs,.nils::_,_,_,hp=>by simp[gR]at hp
 |cs,.full _::_,_,_,hp=>by simp[gR]at hp
 |cs,.rp _::_,_,_,hp=>by simp[gR]at hp
 |cs,.ptr _ _::_,_,_,hp=>by simp[gR]at hp
 |cs,.cs _ _::_,_,_,hp=>by simp[gR]at hp
 |cs,.el _ _ _ _::_,_,_,hp=>by simp[gR]at hp
 |cs,.buf _::_,_,_,hp=>by simp[gR]at hp
 |cs,.mp _::_,_,_,hp=>by simp[gR]at hp
 |cs,.np _::_,_,_,hp=>by simp[gR]at hp
 |cs,.sd _::_,_,_,hp=>by simp[gR]at hp
 |cs,.vw _ _ _ _::_,_,_,hp=>by simp[gR]at hp
 |cs,.bufc _ _::_,_,_,hp=>by simp[gR]at hp
 |cs,.fn _ _::_,_,_,hp=>by simp[gR]at hp
 |cs,.agg _::_,_,_,hp=>by simp[gR]at hp
 |cs,.tup _::_,_,_,hp=>by simp[gR]at hp
 |cs,.nil::_,_,_,hp=>by simp[gR]at hp
 |cs,.cnd _ _::_,_,_,hp=>by simp[gR]at hp
 |cs,.raw _::_,_,_,hp=>by simp[gR]at hp
 |cs,.er _::_,_,_,hp=>by simp[gR]at hp
 |cs,.top::_,_,_,hp=>by simp[gR]at hp
theorem AM{t:TypeId}{ti:Ti}(ht:dM P t=some ti)(hk:ti.kind=.bool):P.underlying t=some .bool:=by
 obtain⟨d,h1,h2,h3⟩:=vy ht;rw[hk]at h2
 cases d <;> simp only[vK]at h2 <;> try (cases h2)
 case slice e=>split at h2 <;> cases h2
 case array n e=>split at h2 <;> cases h2
 case struct fields=>split at h2 <;> cases h2
 case bool=>exact h1
theorem ql{t:TypeId}{ti:Ti}{e:TypeId}(ht:dM P t=some ti)(hk:ti.kind=.ptr e):P.underlying t=some (.pointer e):=by
 obtain⟨d,h1,h2,h3⟩:=vy ht;rw[hk]at h2
 cases d <;> simp only[vK]at h2 <;> try (cases h2)
 case slice e=>split at h2 <;> cases h2
 case array n e=>split at h2 <;> cases h2
 case struct fields=>split at h2 <;> cases h2
 case pointer=>exact h1
theorem BQ{op:BinOp}{t:TypeId}{c d:Value}{x y:Va}(hc:VR K w.heap G c x)(hd:VR K w.heap G d y)(hok:(xZ P op t x y).ok)(ox oy:Operand) :
  ∃c',(do eqGuard op t ox oy c d;binOp op t c d:Sem Value).run P w=.ok c' w/\VR K w.heap G c' (xZ P op t x y).v:=by
 unfold xZ at hok|-;split at hok
 .split at hok
  rotate_left
  .exact hok.elim
  simp only[VR,DR]at hc hd;obtain⟨rfl,ha⟩:=hc;obtain⟨rfl,_⟩:=hd;obtain⟨c',h1,h2⟩:=BT (K:=K) (G:=G) (w:=w) (P:=P) t ha hok;exact⟨c',by rw[eqGuard_at_int];simpa using h1,h2⟩
 .split at hok
  rotate_left
  .exact hok.elim
  simp only[VR,DR]at hc hd;obtain⟨rfl,ha⟩:=hc;obtain⟨rfl,_⟩:=hd;obtain⟨c',h1,h2⟩:=BS (K:=K) (G:=G) (w:=w) (P:=P) t hok;exact⟨c',by rw[eqGuard_at_string];simpa using h1,h2⟩
 .split at hok
  rotate_left
  .exact hok.elim
  split at hok
  rotate_left
  .exact hok.elim
  rename_i hk
  obtain⟨ti,ht,hk'⟩:=zH hk (by simp);have hu:=AM ht hk';simp only[VR,DR]at hc hd
  subst hc;subst hd
  cases op <;> try (exact hok.elim)
  .exact⟨_,by rw[eqGuard_at_bool];simpa using run_eql_bool w t _ _ hu,fH (Dh _ _)⟩
  .exact⟨_,by rw[eqGuard_at_bool];simpa using run_neq_bool w t _ _ hu,fH (by rw[Dh])⟩
 .split at hok
  rotate_left
  .exact hok.elim
  split at hok
  rotate_left
  .exact hok.elim
  rename_i ks ds es hks hds hes
  simp only[VR]at hc hd;obtain⟨cs,rfl,hcs⟩:=hc;obtain⟨cs',rfl,hcs'⟩:=hd;have hds':=Ns hcs hds;have hes':=Ns hcs' hes
  cases op <;> try (exact hok.elim)
  .obtain⟨ha,hk1,hk2⟩:=hok
   exact⟨_,(kj w hks ha hds' hes' hk1 hk2 ox oy).1,fH rfl⟩
  .obtain⟨ha,hk1,hk2⟩:=hok
   exact⟨_,(kj w hks ha hds' hes' hk1 hk2 ox oy).2,fH rfl⟩
 .split at hok
  rotate_left
  .exact hok.elim
  split at hok
  rotate_left
  .exact hok.elim
  rename_i e hk
  obtain⟨ti,ht,hk'⟩:=zH hk (by simp);have hu:=ql ht hk'
  have hu':P.underlying t=some (.pointer (P.pointee t)):=by simp[Program.pointee,hu]
  simp only[VR]at hc hd
  subst hc;subst hd
  cases op <;> try (exact hok.elim)
  .exact⟨_,by rw[eqGuard_at_pointer];simpa using run_eql_pointer_nil w t none hu',fH rfl⟩
  .exact⟨_,by rw[eqGuard_at_pointer];simpa using run_neq_pointer_nil w t none hu',fH rfl⟩
 .split at hok
  rotate_left
  .split at hok
   rotate_left
   .exact hok.elim
   rename_i o' a' e hk
   obtain⟨ti,ht,hk'⟩:=zH hk (by simp);have hu:=ql ht hk';simp only[VR]at hc hd;obtain⟨g,b,hg,hgb,rfl⟩:=hc;obtain⟨g',b',hg',hgb',rfl⟩:=hd
   cases op <;> try (exact hok.elim)
   .obtain⟨rfl,rfl,hi⟩:=hok
    obtain⟨j,hj⟩:=Option.isSome_iff_exists.1 hi;obtain rfl:g=g':=Option.some.inj (hg.symm.trans hg');obtain rfl:b=b':=Option.some.inj (hgb.symm.trans hgb');exact⟨_,by rw[eqGuard_at_pointer];simpa using run_eql_ptr_same w _ hu hj,fH rfl⟩
   .obtain⟨rfl,rfl,hi⟩:=hok
    obtain⟨j,hj⟩:=Option.isSome_iff_exists.1 hi;obtain rfl:g=g':=Option.some.inj (hg.symm.trans hg');obtain rfl:b=b':=Option.some.inj (hgb.symm.trans hgb');exact⟨_,by rw[eqGuard_at_pointer];simpa using Lib.run_neq_ptr_same w _ hu hj,fH rfl⟩
  .exact hok.elim
  split at hok
  rotate_left
  .exact hok.elim
  rename_i e hk
  obtain⟨ti,ht,hk'⟩:=zH hk (by simp);have hu:=ql ht hk'
  have hu':P.underlying t=some (.pointer (P.pointee t)):=by simp[Program.pointee,hu]
  simp only[VR]at hc hd;obtain⟨_,b,_,_,rfl⟩:=hc;subst hd
  cases op <;> try (exact hok.elim)
  .exact⟨_,by rw[eqGuard_at_pointer];simpa using run_eql_pointer_nil w t (some _) hu',fH rfl⟩
  .exact⟨_,by rw[eqGuard_at_pointer];simpa using run_neq_pointer_nil w t (some _) hu',fH rfl⟩
 .exact hok.elim
theorem Lg(hE:jJ K w.heap G a E)(hg:g=true):∀(l:List (Nat×Operand)),partsOk g E l ->
  (l.map fun x=>(x.1,a.eval x.2)).map (·.1)=(partsV E l).map (·.1) /\
  ∀(j:Nat) (c:Value) (v:Va),(((l.map fun x=>(x.1,a.eval x.2))[j]?).map fun x=>x.2)=some c->((partsV E l)[j]?.map fun x=>x.2)=some v->VR K w.heap G c v
 |[],_=>⟨rfl,by simp[partsV]⟩
 |x::l,h=>by
  simp only[partsOk]at h;obtain⟨h1,h2⟩:=Lg hE hg l h.2;refine⟨by simp only[map_cons,partsV,h1],fun j c v hc hv=>?_⟩
  cases j with
  |zero =>
   simp only[map_cons,partsV,getElem?_cons_zero,Option.map_some,Option.some.injEq]at hc hv
   subst hc;subst hv
   exact zz hE hg _ h.1
  |succ j=>exact h2 j c v (by simpa using hc) (by simpa [partsV]using hv)
theorem vt(hE:jJ K w.heap G a E)(hg:g=true):∀(l:List Operand),allOk g E l->VRs K w.heap G (l.map a.eval) (opnds E l)
 |[],_=>by simp[VRs,opnds]
 |x::l,h=>by
  simp only[allOk]at h;simp only[map_cons,opnds,VRs];exact⟨_,_,rfl,zz hE hg x h.1,vt hE hg l h.2⟩
theorem FN(hE:jJ K w.heap G a E)(hg:g=true)(x:Option Operand)(h:oOk g E x):BR K w.heap G (x.map a.eval) (x.map (opnd E)):=by
 cases x with
 |none=>trivial
 |some x=>exact zz hE hg x h
theorem KV(hS:St K G H w)(hE:jJ K w.heap G a E)(hg:g=true)(o:Oper)(hok:(eR P g E H o.op).ok) :
  ∃c,(execOp a.eval o).run P w=.ok (.value c) w/\VR K w.heap G c (eR P g E H o.op).v:=by
 obtain⟨dst,op,ty,pos,after,guard⟩:=o
 have val:∀(s:Sem Value) (c:Value),s.run P w=.ok c w->(do pure (.value (<-s)):Sem Next).run P w=.ok (.value c) w:=by
  intro s c h;simp[h]
 cases op <;> simp only[eR]at hok|- <;> try (exact hok.elim)
 case move x=>exact⟨_,rfl,zz hE hg x hok⟩
 case assign x=>exact⟨_,rfl,zz hE hg x hok⟩
 case pick c x y =>
  obtain⟨⟨h1,h2,h3⟩,hp⟩:=hok;have hc:=zz hE hg c h1;have hx:=lP hE x h2;have hy:=lP hE y h3;simp only[also];unfold wx at hp|-;split at hp
  rotate_left
  .exact hp.elim
  rename_i t ht
  rw[ht]at hc;simp only[VR,DR]at hc;have hp':=hp hg;simp only[execOp,hc,asBool];cases t
  .exact⟨_,by simp;rfl,by simpa [rN]using M7 hy (hp'.2 rfl)⟩
  .exact⟨_,by simp;rfl,by simpa [rM]using M7 hx (hp'.1 rfl)⟩
 case build t ps =>
  split at hok
  rotate_left
  .exact hok.elim
  rename_i ti ht
  obtain⟨h1,h2⟩:=hok;obtain⟨hp1,hp2⟩:=Lg hE hg ps.toList h1;obtain⟨c,hr,hv⟩:=uw (P:=P) w ht (ps:=ps.map fun x=>(x.1,a.eval x.2)) (parts:=partsV E ps.toList) (by simpa using hp1) (by simpa using hp2) h2;exact⟨c,val _ _ hr,hv⟩
 case load t x =>
  split at hok
  rotate_left
  .exact hok.elim
  rename_i ti ht
  obtain⟨c,hr,hv⟩:=oc (P:=P) ht hS (zz hE hg x hok.1) hok.2;exact⟨c,val _ _ hr,hv⟩
 case nilCheck x =>
  obtain⟨h1,h2⟩:=hok;have hx:=zz hE hg x h1;simp only[also,execOp];generalize opnd E x=v at hx h2|-;generalize a.eval x=c at hx|-
  cases v <;> simp only[EP]at h2|- <;> try (exact h2.elim)
  .have:=hx;simp only[VR]at this;obtain⟨_,_,_,_,_,_,rfl,_⟩:=this;exact⟨_,rfl,hx⟩
  .have:=hx;simp only[VR]at this;obtain⟨_,_,_,_,rfl⟩:=this;exact⟨_,rfl,hx⟩
  .have:=hx;simp only[VR]at this;obtain⟨_,_,_,_,_,_,_,rfl⟩:=this;exact⟨_,rfl,hx⟩
  .have:=hx;simp only[VR]at this;obtain⟨_,rfl,_⟩:=this;exact⟨_,rfl,hx⟩
 case binOp op t x y yt =>
  obtain⟨⟨h1,h2⟩,h3⟩:=hok
  cases hnn:Kg (opnd E x) (opnd E y) y with
  |some b =>
   simp only[hnn]at h3;simp only[also];have hx:=zz hE hg x h1;have hy:=zz hE hg _ h2;obtain⟨⟨co,rfl⟩,hcy,hcx⟩:=Fj hnn hx hy
   have hi:P.underlying t=some (.interface (P.methodsAt t)):=by
    cases op <;> first|exact h3.elim|skip
    all_goals
     have h4:MO P t=true:=h3;unfold MO at h4;split at h4
     .rename_i ms hu
      simp[Program.methodsAt,hu]
     .cases h4
   rcases hcx with⟨rfl,hcx⟩|⟨rfl,tv,vv,hcx⟩
   .cases op <;> first|exact h3.elim|skip
    .refine⟨_,val _ _ (by rw[hcx,hcy,eqGuard_nil_constR];simpa using run_eql_nil_nil w t hi),fH rfl⟩
    .refine⟨_,val _ _ (by rw[hcx,hcy,eqGuard_nil_constR];simpa using run_neq_nil_nil w t hi),fH rfl⟩
   .cases op <;> first|exact h3.elim|skip
    .refine⟨_,val _ _ (by rw[hcx,hcy];simpa [eqGuard]using run_eql_held_nil w t tv vv hi),fH rfl⟩
    .refine⟨_,val _ _ (by rw[hcx,hcy];simpa [eqGuard]using run_neq_held_nil w t tv vv hi),fH rfl⟩
  |none =>
  simp only[hnn]at h3;simp only[also];obtain⟨c,hr,hv⟩:=BQ (P:=P) (zz hE hg x h1) (zz hE hg y h2) h3 x y;exact⟨c,val _ _ hr,hv⟩
 case unOp op t x =>
  obtain⟨c,hr,hv⟩:=D9 (P:=P) (zz hE hg x hok.1) hok.2;exact⟨c,val _ _ hr,hv⟩
 case convert src dst x =>
  split at hok
  rotate_left
  .exact hok.elim
  rename_i ti ht
  obtain⟨d,hd,_⟩:=vy ht;obtain⟨c,hr,hv⟩:=xK (P:=P) (dst:=dst) hS (zz hE hg x hok.1) ⟨d,hd⟩ hok.2;exact⟨c,val _ _ hr,hv⟩
 case makeFunc fn first caps =>
  split at hok
  rotate_left
  .exact hok.elim
  rename_i f hfirst
  have hf0:first=#[]:=by cases first;simp_all
  subst hf0;refine⟨.func (.func f) #[] (caps.toList.map a.eval).toArray,?_,?_⟩
  .have h1:caps.map a.eval=(caps.toList.map a.eval).toArray:=by cases caps;simp
   have h2:(#[]:Array Operand).map a.eval=#[]:=by simp
   simp only[execOp,Instr.makeFunc,h1,h2];simp
  .simp only[VR]
   exact⟨_,rfl,vt hE hg caps.toList hok⟩
 case slice t x l h m =>
  split at hok
  rotate_left
  .exact hok.elim
  rename_i ti ht
  split at hok
  .rename_i r hr
   obtain⟨⟨h1,h2,h3,h4⟩,h6⟩:=hok;obtain⟨c,hr,hv⟩:=vD (P:=P) ht hS (zz hE hg x h1) (FN hE hg l h2) (FN hE hg h h3) (FN hE hg m h4) hr h6;exact⟨c,val _ _ hr,hv⟩
  obtain⟨⟨h1,h2,h3,h4,h5⟩,h6⟩:=hok
  obtain⟨c,hr,hv⟩:=tE (P:=P) ht (zz hE hg x h1) (FN hE hg l h2) (FN hE hg h h3) (FN hE hg m h4) (by
   unfold mA at h5;split at h5
   .rename_i s hk hx;exact .inl ⟨hk,s,hx⟩
   .rename_i e esz eb ez rows hk hx;exact .inr ⟨e,esz,eb,ez,hk,.inl ⟨rows,hx,h5⟩⟩
   .rename_i e esz eb ez rows hk hx;exact .inr ⟨e,esz,eb,ez,hk,.inr (.inl ⟨rows,hx,h5⟩)⟩
   .rename_i e esz eb ez hk hx;exact .inr ⟨e,esz,eb,ez,hk,.inr (.inr hx)⟩
   .exact h5.elim) h6
  exact⟨c,val _ _ hr,hv⟩
 case fieldAddr t x f =>
  split at hok
  rotate_left
  .exact hok.elim
  rename_i ti ht
  obtain⟨c,hr,hv⟩:=Sv (P:=P) (w:=w) ht (zz hE hg x hok.1) hok.2;exact⟨c,val _ _ hr,hv⟩
 case field t x f =>
  split at hok
  rotate_left
  .exact hok.elim
  rename_i ti ht
  obtain⟨c,hr,hv⟩:=uf (P:=P) (w:=w) ht (zz hE hg x hok.1) hok.2;exact⟨c,val _ _ hr,hv⟩
 case indexAddr t x i =>
  split at hok
  rotate_left
  .exact hok.elim
  rename_i ti ht
  obtain⟨c,hr,hv⟩:=ot (P:=P) ht hS (zz hE hg x hok.1.1) (zz hE hg i hok.1.2) hok.2;exact⟨c,val _ _ hr,hv⟩
 case index t x i =>
  split at hok
  rotate_left
  .exact hok.elim
  rename_i ti ht
  obtain⟨c,hr,hv⟩:=tW (P:=P) (w:=w) ht (zz hE hg x hok.1.1) (zz hE hg i hok.1.2) hok.2;exact⟨c,val _ _ hr,hv⟩
 case extract x i =>
  obtain⟨c,hr,hv⟩:=oH (P:=P) (w:=w) (i:=i) (zz hE hg x hok.1) hok.2;exact⟨c,val _ _ hr,hv⟩
 case lookup t x k cok =>
  obtain⟨c,hr,hv⟩:=wT (P:=P) hS (zz hE hg x hok.1.1) (zz hE hg k hok.1.2) hok.2;exact⟨c,val _ _ hr,hv⟩
 case call c =>
  obtain⟨callee,args,argTypes⟩:=c;simp only at hok|-;split at hok
  .rename_i x t ts h1 h2
   have ha:args=#[x]:=by cases args;simp_all
   subst ha;obtain⟨c,hr,hv⟩:=Bf (P:=P) hS (zz hE hg x hok.1) hok.2 argTypes (by rw[<-Array.getElem?_toList,h2];rfl) ty;exact⟨c,by simp[execOp,resolve,invoke,builtin,hr],hv⟩
  .rename_i x t ts h1 h2
   have ha:args=#[x]:=by cases args;simp_all
   subst ha;obtain⟨h1,h3⟩:=hok;have hx:=zz hE hg x h1;simp only[also];unfold Fs at h3|-;split at h3
   rotate_left
   .exact h3.elim
   rename_i e esz eb ez o cp hk he
   obtain⟨ti,ht,hk'⟩:=zH hk (by simp);rw[he]at hx;simp only[VR]at hx;obtain⟨g,a0,n0,cap,_,hsv,hc,rfl⟩:=hx
   have hts:argTypes[0]?=some t:=by rw[<-Array.getElem?_toList,h2];rfl
   refine⟨goInt cap,?_,lp (by simp only[Fits,lo,hi];omega)⟩;rw[hsv]at hc;simp[execOp,resolve,invoke,builtin,hc,Builtin.cap_,hts,run_underlying (lD ht hk').1]
  .rename_i tl x y h1
   have ha:args=#[x,y]:=by cases args;simp_all
   subst ha;obtain⟨⟨h1,h2⟩,h3⟩:=hok;have hx:=zz hE hg x h1;have hy:=zz hE hg y h2;simp only[also];unfold JS at h3|-;split at h3
   rotate_left
   .exact h3.elim
   rename_i k u k' v e1 e2
   rw[e1]at hx;rw[e2]at hy
   simp only[VR,DR]at hx hy;have hk:k=k':=h3;subst hk;refine⟨.int k (min u v),?_,?_⟩
   .have:(if v<u then v else u)=min u v:=by rw[Int.min_def];split <;> split <;> omega
    simp[execOp,resolve,invoke,builtin,hx.1,hy.1,run_min_int2,this]
   .simp only[cond_true]
    exact lp (by rw[Int.min_def];split;exact hx.2;exact hy.2)
  .rename_i tl x y z h1
   have ha:args=#[x,y,z]:=by cases args;simp_all
   subst ha;obtain⟨⟨h1,h2,h4⟩,h3⟩:=hok;have hx:=zz hE hg x h1;have hy:=zz hE hg y h2;have hz:=zz hE hg z h4;simp only[also];unfold Px at h3|-;split at h3
   rotate_left
   .exact h3.elim
   rename_i k u k' v k'' t e1 e2 e3
   rw[e1]at hx;rw[e2]at hy;rw[e3]at hz
   simp only[VR,DR]at hx hy hz;obtain⟨hk,hk'⟩:=h3
   subst hk;subst hk'
   refine⟨.int k (min (min u v) t),?_,?_⟩
   .have e1:(if v<u then v else u)=min u v:=by rw[Int.min_def];split <;> split <;> omega
    have e2:(if t<min u v then t else min u v)=min (min u v) t:=by rw[Int.min_def (min u v) t];split <;> split <;> omega
    simp[execOp,resolve,invoke,builtin,hx.1,hy.1,hz.1,Builtin.min_,Builtin.min2,e1,e2]
   .refine lp ?_
    have h1:=hx.2;have h2:=hy.2;have h3:=hz.2
    unfold Fits at *;omega
  .rename_i tl x y h1
   have ha:args=#[x,y]:=by cases args;simp_all
   subst ha;obtain⟨⟨h1,h2⟩,h3⟩:=hok;have hx:=zz hE hg x h1;have hy:=zz hE hg y h2;simp only[also];unfold JS at h3|-;split at h3
   rotate_left
   .exact h3.elim
   rename_i k u k' v e1 e2
   rw[e1]at hx;rw[e2]at hy
   simp only[VR,DR]at hx hy;have hk:k=k':=h3;subst hk;refine⟨.int k (max u v),?_,?_⟩
   .have:(if u<v then v else u)=max u v:=by rw[Int.max_def];split <;> split <;> omega
    simp[execOp,resolve,invoke,builtin,hx.1,hy.1,run_max_int2,this]
   .simp only[cond_false]
    exact lp (by rw[Int.max_def];split;exact hy.2;exact hx.2)
  .exact hok.elim
end
structure Ext(kp:Nat->Bool)(K0:Nat->Prop)(G0:List Gh)(w0:World)(K:Nat->Prop)(G:List Gh)(w:World):Prop where
 os:w.os=w0.os
 tape:w.tape=w0.tape
 output:w.output=w0.output
 size:w0.heap.size<=w.heap.size
 k:∀b,K0 b->K b
 knew:∀b,K b->K0 b∨w0.heap.size<=b
 glen:G0.length<=G.length
 gold:∀(o:Nat) (g0 g:Gh) (b:Nat),G0[o]?=some g0->G[o]?=some g->g.blk=some b->g0.blk=some b∨w0.heap.size<=b
 gnew:∀(o:Nat) (g:Gh) (b:Nat),G0.length<=o->G[o]?=some g->g.blk=some b->w0.heap.size<=b
 gsame:∀(o:Nat) (g0:Gh),kp o=true->G0[o]?=some g0->G[o]?=some g0
 frame:∀b,b<w0.heap.size->(∀(o:Nat) (g0:Gh),G0[o]?=some g0->g0.blk≠some b)->w.heap[b]?=w0.heap[b]?
theorem Ext.refl(kp:Nat->Bool)(K:Nat->Prop)(G:List Gh)(w:World):Ext kp K G w K G w where
 os:=rfl
 tape:=rfl
 output:=rfl
 size:=Nat.le_refl _
 k:=fun _ h=>h
 knew:=fun _ h=>.inl h
 glen:=Nat.le_refl _
 gold:=fun o g0 g b h0 h hb=>by rw[h0]at h;cases h;exact .inl hb
 gnew:=fun o g b ho hg _=>by rw[getElem?_eq_none ho]at hg;cases hg
 gsame:=fun _ _ _ h=>h
 frame:=fun _ _ _=>rfl
theorem Ext.trans{kp:Nat->Bool}{K0 K1 K2:Nat->Prop}{G0 G1 G2:List Gh}{w0 w1 w2:World}(h:Ext kp K0 G0 w0 K1 G1 w1)(k:Ext kp K1 G1 w1 K2 G2 w2):Ext kp K0 G0 w0 K2 G2 w2 where
 os:=k.os.trans h.os
 tape:=k.tape.trans h.tape
 output:=k.output.trans h.output
 size:=Nat.le_trans h.size k.size
 k:=fun b hb=>k.k b (h.k b hb)
 knew:=fun b hb=>(k.knew b hb).elim (h.knew b) fun hb=>.inr (Nat.le_trans h.size hb)
 glen:=Nat.le_trans h.glen k.glen
 gold:=fun o g0 g b h0 hg hb=>by
  have ho:o<G1.length:=Nat.lt_of_lt_of_le (List.getElem?_eq_some_iff.1 h0).1 h.glen
  rcases k.gold o _ g b (getElem?_eq_getElem ho) hg hb with h1|h1
  .exact h.gold o g0 _ b h0 (getElem?_eq_getElem ho) h1
  .exact .inr (Nat.le_trans h.size h1)
 gnew:=fun o g b ho hg hb=>by
  rcases Nat.lt_or_ge o G1.length with h1|h1
  .rcases k.gold o _ g b (getElem?_eq_getElem h1) hg hb with h2|h2
   .exact h.gnew o _ b ho (getElem?_eq_getElem h1) h2
   .exact Nat.le_trans h.size h2
  .exact Nat.le_trans h.size (k.gnew o g b h1 hg hb)
 gsame:=fun o g0 ho h0=>k.gsame o g0 ho (h.gsame o g0 ho h0)
 frame:=fun b hb hn=>by
  rw[k.frame b (Nat.lt_of_lt_of_le hb h.size) fun o g1 h1 e=>?_]
  .exact h.frame b hb hn
  .rcases Nat.lt_or_ge o G0.length with h2|h2
   .rcases h.gold o _ g1 b (getElem?_eq_getElem h2) h1 e with h3|h3
    .exact hn o _ (getElem?_eq_getElem h2) h3
    .omega
   .have:=h.gnew o g1 b h2 h1 e
    omega
theorem Ext.cut{kp:Nat->Bool}{K0 K:Nat->Prop}{G0 G:List Gh}{w0 w:World}(h:Ext kp K0 G0 w0 K G w){n:Nat}(hn:G0.length<=n):Ext kp K0 G0 w0 K (G.take n) w :=
 { h with
  glen:=by rw[length_take];have:=h.glen;omega
  gold:=fun o g0 g b h0 hg hb=>by
   rw[getElem?_take]at hg;split at hg
   .exact h.gold o g0 g b h0 hg hb
   .cases hg
  gnew:=fun o g b ho hg hb=>by
   rw[getElem?_take]at hg;split at hg
   .exact h.gnew o g b ho hg hb
   .cases hg
  gsame:=fun o g0 ho h0=>by
   have:=(List.getElem?_eq_some_iff.1 h0).1;rw[getElem?_take,if_pos (by omega)]
   exact h.gsame o g0 ho h0 }
structure Cx where
 P:Program
 kp:Nat->Bool
 K0:Nat->Prop
 G0:List Gh
 w0:World
 n:Nat
def fE(kp:Nat->Bool)(H:List Ob):Prop:=∀o,kp o=true->∃x,H[o]?=some x/\x.kept=true
def Rel(C:Cx)(E:dz)(H:List Ob)(a:Act)(w:World):Prop :=
 ∃K G,Ext C.kp C.K0 C.G0 C.w0 K G w/\St K G H w/\jJ K w.heap G a E/\a.defers=[]/\a.tmps.size=C.n/\fE C.kp H
def RelV(C:Cx)(E:dz)(H:List Ob)(c:Value)(v:Va)(a:Act)(w:World):Prop :=
 ∃K G,Ext C.kp C.K0 C.G0 C.w0 K G w/\St K G H w/\jJ K w.heap G a E/\a.defers=[]/\a.tmps.size=C.n/\fE C.kp H/\VR K w.heap G c v
theorem RelV.put{C:Cx}{E:dz}{H:List Ob}{c:Value}{v:Va}{a:Act}{w:World}(h:RelV C E H c v a w)(dst:Option Tmp)(hd:∀d,dst=some d->d<C.n):Rel C (dV E dst v) H (a.put dst c) w:=by
 obtain⟨K,G,h1,h2,h3,h4,h5,h6,h7⟩:=h;refine⟨K,G,h1,h2,?_,?_,?_,h6⟩
 .cases dst with
  |none=>exact h3
  |some d =>
   intro m;simp only[Act.put,dV,ei];have hdn:=hd d rfl;split
   .rename_i e
    subst e;rw[show(a.tmps.setIfInBounds d c).getD d undef=c by simp[Array.getD,h5,hdn]];exact h7
   .rename_i e
    rw[show(a.tmps.setIfInBounds d c).getD m undef=a.tmps.getD m undef by simp only[Array.getD_eq_getD_getElem?];rw[Array.getElem?_setIfInBounds_ne e]];exact h3 m
 .cases dst <;> exact h4
 .cases dst <;> simp[Act.put,h5]
section
variable {K:Nat->Prop} {G:List Gh} {H:List Ob} {w:World}
def Ob.all(f:Nat->Bool):Ob->Bool
 |.cells _ vs=>cq f vs
 |.it o _ _=>f o
 |_=>true
theorem Ob.all_true(x:Ob):x.all (fun _=>true)=true:=by cases x <;> first|rfl|exact cg _
theorem ObR.keep{K':Nat->Prop}{h h':Array Obj}{G G':List Gh}{f:Nat->Bool}(M:Mn K K' h h')(hG:Mg f G G'){g:Gh}(hb:∀b,g.blk=some b->h'[b]?=h[b]?){x:Ob}
  (hx:x.all f=true) (H:ObR K h G g x):ObR K' h' G' g x:=by
 cases x with
 |cells T vs =>
  obtain⟨b,cs,h1,h2,h3⟩:=H;exact⟨b,cs,h1,(hb b h1).trans h2,VRs.keep M hG cs vs hx h3⟩
 |buf T sz rows =>
  obtain⟨h1,xs,h2,h3⟩:=H;refine⟨h1,xs,DRss.mono M sz xs rows h2,?_⟩
  rcases h3 with h3|⟨b,cap,cur,fr,e1,e2,e3,e4⟩
  .exact .inl h3
  .exact .inr ⟨b,cap,cur,fr,e1,e2,(hb b e2).trans e3,e4⟩
 |fx T sz rows =>
  obtain⟨h1,xs,h2,h3⟩:=H;refine⟨h1,xs,DRss.mono M sz xs rows h2,?_⟩
  rcases h3 with h3|⟨b,cap,cur,fr,e1,e2,e3,e4⟩
  .exact .inl h3
  .exact .inr ⟨b,cap,cur,fr,e1,e2,(hb b e2).trans e3,e4⟩
 |sb T bs =>
  obtain⟨h1,h3⟩:=H;refine⟨h1,?_⟩
  rcases h3 with h3|⟨b,cap,cur,fr,e1,e2,e3,e4⟩
  .exact .inl h3
  .exact .inr ⟨b,cap,cur,fr,e1,e2,(hb b e2).trans e3,e4⟩
 |mp ag es =>
  obtain⟨h0,b,mes,clock,h1,h2,h3⟩:=H;exact⟨h0,b,mes,clock,h1,(hb b h1).trans h2,h3.1.mono M,h3.2⟩
 |mpb ag es bs cl =>
  obtain⟨h0,b,mes,h1,h2,h3⟩:=H;exact⟨h0,b,mes,h1,(hb b h1).trans h2,h3.1.mono M,h3.2⟩
 |it o cl seen =>
  obtain⟨b,bm,gm,h1,h2,h3,h4⟩:=H;exact⟨b,bm,gm,h1,hG o gm hx h2,h3,(hb b h1).trans h4⟩
 |gone=>exact H
def Ob.prune(f:Nat->Bool):Ob->Ob
 |.cells T vs=>.cells T (cf f vs)
 |.it o cl seen=>if f o then .it o cl seen else .gone
 |x=>x
theorem ObR.prune{K':Nat->Prop}{h h':Array Obj}{G G':List Gh}{f:Nat->Bool}(M:Mn K K' h h')(hG:Mg f G G'){g:Gh}(hb:∀b,g.blk=some b->h'[b]?=h[b]?){x:Ob}
  (H:ObR K h G g x):ObR K' h' G' g (x.prune f):=by
 cases x with
 |cells T vs =>
  obtain⟨b,cs,h1,h2,h3⟩:=H;exact⟨b,cs,h1,(hb b h1).trans h2,VRs.prune M hG cs vs h3⟩
 |buf T sz rows=>exact ObR.keep M hG hb rfl H
 |fx T sz rows=>exact ObR.keep M hG hb rfl H
 |sb T bs=>exact ObR.keep M hG hb rfl H
 |mp ag es=>exact ObR.keep M hG hb rfl H
 |mpb ag es bs cl=>exact ObR.keep M hG hb rfl H
 |it o cl seen =>
  simp only[Ob.prune];split
  .rename_i hf;exact ObR.keep M hG hb hf H
  .trivial
 |gone=>exact H
theorem Mg.push(G:List Gh)(g:Gh):Mg (fun _=>true) G (G++[g]):=fun o g' _ h=>by
 rw[getElem?_append_left (List.getElem?_eq_some_iff.1 h).1];exact h
theorem Mg.refl(f:Nat->Bool)(G:List Gh):Mg f G G:=fun _ _ _ h=>h
theorem St.push(hS:St K G H w){o:Obj}{x:Ob}{sv:Value}(hx:ObR K (w.alloc o).heap (G++[⟨some w.heap.size,sv⟩]) ⟨some w.heap.size,sv⟩ x):St K (G++[⟨some w.heap.size,sv⟩]) (H++[x]) (w.alloc o):=by
 have hM:Mn K K w.heap (w.alloc o).heap:=⟨fun _ h=>h,fun b hb=>heap_alloc_old w o (hS.kb b hb)⟩
 have old:∀{i:Nat} {g:Gh},(G++[⟨some w.heap.size,sv⟩])[i]?=some g->(G[i]?=some g)∨(i=G.length/\g=⟨some w.heap.size,sv⟩):=by
  intro i g hg
  rcases Nat.lt_or_ge i G.length with h|h
  .rw[getElem?_append_left h]at hg;exact .inl hg
  .rw[getElem?_append_right h]at hg
   have:i-G.length=0:=by
    rcases Nat.lt_or_ge (i-G.length) 1 with h'|h'
    .omega
    .rw[getElem?_eq_none (by simpa using h')]at hg;cases hg
   rw[this]at hg;simp at hg;exact .inr ⟨by omega,hg.symm⟩
 constructor
 .simp[hS.len]
 .intro b hb;rw[World.size_alloc];exact Nat.lt_succ_of_lt (hS.kb b hb)
 .intro i g b hg hb
  rcases old hg with h|⟨_,rfl⟩
  .have:=hS.gb i g b h hb
   exact⟨by rw[World.size_alloc];omega,this.2⟩
  .cases hb
   exact⟨by rw[World.size_alloc];omega,fun hk=>Nat.lt_irrefl _ (hS.kb _ hk)⟩
 .intro i j g g' b hg hg' hb hb'
  rcases old hg with h|⟨e,rfl⟩ <;> rcases old hg' with h'|⟨e',rfl⟩
  .exact hS.inj i j g g' b h h' hb hb'
  .cases hb';have:=(hS.gb i g _ h hb).1;omega
  .cases hb;have:=(hS.gb j g' _ h' hb').1;omega
  .omega
 .intro i g y hg hy
  rcases old hg with h|⟨e,rfl⟩
  .have hl:=(List.getElem?_eq_some_iff.1 h).1
   rw[hS.len]at hl;rw[getElem?_append_left hl]at hy;exact ObR.keep hM (Mg.push G _) (fun b hb=>heap_alloc_old w o (hS.gb i g b h hb).1) (Ob.all_true _) (hS.ob i g y h hy)
  .subst e
   rw[hS.len,getElem?_append_right (Nat.le_refl _)]at hy;simp at hy;subst hy;exact hx
 .exact hS.tb.mono hM
theorem Ext.push(kp:Nat->Bool)(o:Obj)(sv:Value):Ext kp K G w K (G++[⟨some w.heap.size,sv⟩]) (w.alloc o) where
 os:=rfl
 tape:=rfl
 output:=rfl
 size:=by rw[World.size_alloc];omega
 k:=fun _ h=>h
 knew:=fun _ h=>.inl h
 glen:=by simp
 gold:=fun i g0 g b h0 hg hb=>by
  rw[getElem?_append_left (List.getElem?_eq_some_iff.1 h0).1,h0]at hg;cases hg;exact .inl hb
 gnew:=fun i g b hi hg hb=>by
  rw[getElem?_append_right hi]at hg
  have:i-G.length=0:=by
   rcases Nat.lt_or_ge (i-G.length) 1 with h'|h'
   .omega
   .rw[getElem?_eq_none (by simpa using h')]at hg;cases hg
  rw[this]at hg;simp at hg;subst hg;cases hb;exact Nat.le_refl _
 gsame:=fun i g0 _ h0=>by rw[getElem?_append_left (List.getElem?_eq_some_iff.1 h0).1];exact h0
 frame:=fun b hb _=>heap_alloc_old w o hb
theorem St.pushK(hS:St K G H w)(o:Obj):St (fun b=>K b∨b=w.heap.size) G H (w.alloc o) where
 len:=hS.len
 kb:=fun b hb=>by rw[World.size_alloc];rcases hb with h|h;exact Nat.lt_succ_of_lt (hS.kb b h);omega
 gb:=fun i g b hg hb=>by
  have:=hS.gb i g b hg hb;exact⟨by rw[World.size_alloc];omega,fun h=>h.elim this.2 fun e=>by omega⟩
 inj:=hS.inj
 tb:=hS.tb.mono ⟨fun _ h=>.inl h,fun b hb=>heap_alloc_old w o (hS.kb b hb)⟩
 ob:=fun i g y hg hy=>ObR.keep (K:=K) ⟨fun _ h=>.inl h,fun b hb=>heap_alloc_old w o (hS.kb b hb)⟩ (Mg.refl (fun _=>true) G) (fun b hb=>heap_alloc_old w o (hS.gb i g b hg hb).1) (Ob.all_true _) (hS.ob i g y hg hy)
theorem Ext.pushK(kp:Nat->Bool)(o:Obj):Ext kp K G w (fun b=>K b∨b=w.heap.size) G (w.alloc o) where
 os:=rfl
 tape:=rfl
 output:=rfl
 size:=by rw[World.size_alloc];omega
 k:=fun _ h=>.inl h
 knew:=fun b h=>h.elim .inl fun e=>.inr (by omega)
 glen:=Nat.le_refl _
 gold:=fun i g0 g b h0 hg hb=>by rw[h0]at hg;cases hg;exact .inl hb
 gnew:=fun i g b hi hg _=>by rw[getElem?_eq_none hi]at hg;cases hg
 gsame:=fun _ _ _ h=>h
 frame:=fun b hb _=>heap_alloc_old w o hb
end
section
variable {K:Nat->Prop} {G:List Gh} {H:List Ob} {w:World} {P:Program}
theorem St.modA(hS:St K G H w){o:Nat}{g:Gh}{b:Nat}(hg:G[o]?=some g)(hb:g.blk=some b){w':World}(hsz:w'.heap.size=w.heap.size)(hfr:∀i,i≠b->w'.heap[i]?=w.heap[i]?){x:Ob}(hx:ObR K w'.heap G g x) :
  St K G (H.set o x) w':=by
 have hM:Mn K K w.heap w'.heap:=⟨fun _ h=>h,fun i hi=>hfr i fun e=>(hS.gb o g b hg hb).2 (e ▸ hi)⟩;refine⟨by simp[hS.len],fun i hi=>by rw[hsz];exact hS.kb i hi,fun i g b hg hb=>by rw[hsz];exact hS.gb i g b hg hb,hS.inj,fun i g' y hg' hy=>?_,hS.tb.mono hM⟩
 by_cases e:i=o
 .subst e
  rw[hg]at hg';cases hg'
  have hl:=(List.getElem?_eq_some_iff.1 hg).1;rw[hS.len]at hl;rw[getElem?_set_self hl]at hy;cases hy;exact hx
 .rw[getElem?_set_ne (Ne.symm e)]at hy
  exact ObR.keep hM (Mg.refl (fun _=>true) G) (fun b' hb'=>hfr b' fun e'=>e (hS.inj i o g' g b' hg' hg hb' (by rw[hb,e']))) (Ob.all_true _) (hS.ob i g' y hg' hy)
theorem Ext.modA(kp:Nat->Bool){o:Nat}{g:Gh}{b:Nat}(hg:G[o]?=some g)(hb:g.blk=some b){w':World}(hos:w'.os=w.os)(ht:w'.tape=w.tape)(ho:w'.output=w.output)(hsz:w'.heap.size=w.heap.size)(hfr:∀i,i≠b->w'.heap[i]?=w.heap[i]?) :
  Ext kp K G w K G w' where
 os:=hos
 tape:=ht
 output:=ho
 size:=by omega
 k:=fun _ h=>h
 knew:=fun _ h=>.inl h
 glen:=Nat.le_refl _
 gold:=fun i g0 g b h0 hg hb=>by rw[h0]at hg;cases hg;exact .inl hb
 gnew:=fun i g b hi hg _=>by rw[getElem?_eq_none hi]at hg;cases hg
 gsame:=fun _ _ _ h=>h
 frame:=fun i _ hn=>hfr i fun e=>hn o g hg (by rw[hb,e])
theorem St.modB(hS:St K G H w){o:Nat}{g g1:Gh}(hg:G[o]?=some g){w':World}(hsz:w.heap.size<=w'.heap.size)(hfr:∀i,i<w.heap.size->g.blk≠some i->w'.heap[i]?=w.heap[i]?)
  (h1:∀b,g1.blk=some b->b<w'.heap.size/\(g.blk=some b∨w.heap.size<=b)) {x:Ob} (hx:ObR K w'.heap (G.set o g1) g1 x) :
  St K (G.set o g1) ((H.map (Ob.prune (· != o))).set o x) w':=by
 have hl:=(List.getElem?_eq_some_iff.1 hg).1;have hM:Mn K K w.heap w'.heap:=⟨fun _ h=>h,fun i hi=>hfr i (hS.kb i hi) fun e=>(hS.gb o g i hg e).2 hi⟩
 have hMg:Mg (· != o) G (G.set o g1):=fun i g' hi hg'=>by rw[getElem?_set_ne (by simpa using Ne.symm (by simpa using hi))];exact hg'
 have cases2:∀{i:Nat} {g':Gh},(G.set o g1)[i]?=some g'->(i=o/\g'=g1)∨(i≠o/\G[i]?=some g'):=by
  intro i g' h
  by_cases e:i=o
  .subst e;rw[getElem?_set_self hl]at h;cases h;exact .inl ⟨rfl,rfl⟩
  .rw[getElem?_set_ne (Ne.symm e)]at h;exact .inr ⟨e,h⟩
 refine⟨by simp[hS.len],fun i hi=>Nat.lt_of_lt_of_le (hS.kb i hi) hsz,fun i g' b hg' hb=>?_,fun i j g' g'' b hg' hg'' hb hb'=>?_,fun i g' y hg' hy=>?_,hS.tb.mono hM⟩
 .rcases cases2 hg' with⟨rfl,rfl⟩|⟨e,h⟩
  .refine⟨(h1 b hb).1,fun hk=>?_⟩
   rcases(h1 b hb).2 with h2|h2
   .exact(hS.gb _ g b hg h2).2 hk
   .have:=hS.kb b hk;omega
  .have:=hS.gb i g' b h hb
   exact⟨by omega,this.2⟩
 .rcases cases2 hg' with⟨rfl,rfl⟩|⟨e,h⟩ <;> rcases cases2 hg'' with⟨rfl,rfl⟩|⟨e',h'⟩
  .rfl
  .rcases(h1 b hb).2 with h2|h2
   .exact hS.inj _ j g g'' b hg h' h2 hb'
   .have:=(hS.gb j g'' b h' hb').1;omega
  .rcases(h1 b hb').2 with h2|h2
   .exact hS.inj i _ g' g b h hg hb h2
   .have:=(hS.gb i g' b h hb).1;omega
  .exact hS.inj i j g' g'' b h h' hb hb'
 .rcases cases2 hg' with⟨rfl,rfl⟩|⟨e,h⟩
  .rw[getElem?_set_self (by simp[<-hS.len,hl])]at hy
   cases hy;exact hx
  .rw[getElem?_set_ne (Ne.symm e),getElem?_map]at hy
   cases hyy:H[i]? with
   |none=>rw[hyy]at hy;simp at hy
   |some y0 =>
    rw[hyy]at hy;simp at hy;subst hy;exact ObR.prune hM hMg (fun b' hb'=>hfr b' (hS.gb i g' b' h hb').1 fun e'=>e (hS.inj i o g' g b' h hg hb' e')) (hS.ob i g' y0 h hyy)
theorem Ext.modB{kp:Nat->Bool}{o:Nat}{g g1:Gh}(hg:G[o]?=some g)(hkp:kp o=false){w':World}(hos:w'.os=w.os)(ht:w'.tape=w.tape)(ho:w'.output=w.output)(hsz:w.heap.size<=w'.heap.size)(hfr:∀i,i<w.heap.size->g.blk≠some i->w'.heap[i]?=w.heap[i]?)
  (h1:∀b,g1.blk=some b->g.blk=some b∨w.heap.size<=b):Ext kp K G w K (G.set o g1) w' where
 os:=hos
 tape:=ht
 output:=ho
 size:=hsz
 k:=fun _ h=>h
 knew:=fun _ h=>.inl h
 glen:=by simp
 gold:=fun i g0 g' b h0 hg' hb=>by
  by_cases e:i=o
  .subst e
   rw[hg]at h0;cases h0
   rw[getElem?_set_self (List.getElem?_eq_some_iff.1 hg).1]at hg';cases hg';exact h1 b hb
  .rw[getElem?_set_ne (Ne.symm e),h0]at hg';cases hg';exact .inl hb
 gnew:=fun i g' b hi hg' _=>by rw[getElem?_eq_none (by simpa using hi)]at hg';cases hg'
 gsame:=fun i g0 hi h0=>by
  rw[getElem?_set_ne (fun e=>by rw[<-e,hkp]at hi;cases hi)];exact h0
 frame:=fun i hi hn=>hfr i hi (hn o g hg)
theorem Pf(g o:Nat)(t:TypeId)(fr:Nat×Nat):∀(vs:List Value) (i:Nat) (cur:Array Value) (w:World),w.heap[g]?=some (.cells cur t fr)->(∀j,o+i<=j->j<cur.size->¬ (fr.1<=j/\j<fr.2))->o+i+vs.length<=cur.size->(∀v∈vs,v.oneCell'=true) ->
  (storeCells ⟨g,o,none⟩ vs i).run P w=.ok () (w.setRow g (eN cur.toList (o+i) vs).toArray)
 |[],i,cur,w,hg,_,hl,_=>by
  have e:∀(l:List Value) (n:Nat),n<=l.length->eN l n []=l:=by
   intro l n
   induction n generalizing l with
   |zero=>intro _;simp[eN]
   |succ n ih=>intro hn;cases l with
    |nil=>simp at hn
    |cons x l=>simp only[eN];rw[ih l (by simpa using hn)]
  simp only[storeCells];rw[e cur.toList _ (by simpa using hl),Array.toArray_toList,setRow_self w g cur t fr hg];rfl
 |v::rest,i,cur,w,hg,hf,hl,h1=>by
  have hi:o+i<cur.size:=by simp at hl;omega
  have hcell:w.cell? ⟨g,o+i,none⟩=some cur[o+i]:=by simp[World.cell?,hg,hi]
  have hfro:w.frozen? ⟨g,o+i,none⟩=false:=by
   have:=hf (o+i) (Nat.le_refl _) hi;obtain⟨f1,f2⟩:=fr;simp only[World.frozen?,hg]at this|-
   simpa using this
  have hst:(store ((⟨g,o,none⟩:Addr).add i) v).run P w=.ok () (w.setRow g (cur.setIfInBounds (o+i) v)):=by
   rw[m0,run_store P w _ v _ (h1 v (by simp)),hcell];simp[hfro,setCell_eq_setRow w g (o+i) cur t fr v hg]
  have hg':=setRow_heap w g cur (cur.setIfInBounds (o+i) v) t fr hg;have ih:=Pf g o t fr rest (i+1) (cur.setIfInBounds (o+i) v) (w.setRow g (cur.setIfInBounds (o+i) v)) hg' (fun j h1 h2=>hf j (by omega) (by simpa using h2)) (by simp at hl|-;omega) (fun u hu=>h1 u (by simp[hu]))
  have key:∀(l:List Value) (n:Nat),n+(v::rest).length<=l.length->eN (l.set n v) (n+1) rest=eN l n (v::rest):=by
   intro l n
   induction n generalizing l with
   |zero=>intro hn;cases l with
    |nil=>simp at hn
    |cons y l=>simp[eN]
   |succ n ih=>intro hn;cases l with
    |nil=>simp at hn
    |cons y l=>simp only[set_cons_succ,eN];rw[ih l (by simp at hn|-;omega)]
  simp only[storeCells,Sem.run_bind,hst,Result.andThen_ok,ih];rw[setRow_setRow,Array.toList_setIfInBounds,show o+(i+1)=(o+i)+1 by omega,key cur.toList (o+i) (by simp at hl|-;omega)]
theorem Pe(g o:Nat)(t:TypeId)(fr:Nat×Nat)(vs:List Value)(i:Nat)(cur:Array Value)(w:World)(hg:w.heap[g]?=some (.cells cur t fr))(hf:Free fr cur.size)(hl:o+i+vs.length<=cur.size)(h1:∀v∈vs,v.oneCell'=true) :
  (storeCells ⟨g,o,none⟩ vs i).run P w=.ok () (w.setRow g (eN cur.toList (o+i) vs).toArray):=Pf g o t fr vs i cur w hg (fun j _ hj=>hf.out j hj) hl h1
theorem VR.one{h:Array Obj}{c:Value}{v:Va}(hc:VR K h G c v)(hv:v.isCell=true)(ha:∀vs,v≠.agg vs):c.oneCell'=true:=by
 cases v with
 |p x =>
  cases x with
  |l rows=>simp only[VR,DR]at hc;rcases hc with⟨⟨_,rfl⟩,_⟩|⟨_,_,_,_,_,_,_,_,rfl,_⟩ <;> rfl
  |b x=>simp only[VR,DR]at hc;subst hc;rfl
  |i k n=>simp only[VR,DR]at hc;obtain⟨rfl,_⟩:=hc;rfl
  |s x=>simp only[VR,DR]at hc;obtain⟨rfl,_⟩:=hc;rfl
  |a ds=>simp[Va.isCell]at hv
 |nils=>simp only[VR]at hc;subst hc;rfl
 |full rows=>simp only[VR]at hc;obtain⟨_,a,rfl⟩:=hc;rfl
 |rp row=>simp only[VR]at hc;obtain⟨_,_,_,_,_,_,rfl,_⟩:=hc;rfl
 |ptr o off=>simp only[VR]at hc;obtain⟨_,_,_,_,rfl⟩:=hc;rfl
 |cs o off=>simp only[VR]at hc;obtain⟨_,_,_,_,rfl⟩:=hc;rfl
 |el o sz i off=>simp only[VR]at hc;obtain⟨_,_,_,_,_,_,_,rfl⟩:=hc;rfl
 |buf o=>simp only[VR]at hc;obtain⟨_,_,rfl,_,_,_,e⟩:=hc;rw[e];rfl
 |mp o=>simp only[VR]at hc;obtain⟨_,_,_,_,rfl⟩:=hc;rfl
 |np o=>simp only[VR]at hc;rcases hc with rfl|⟨_,_,_,_,rfl⟩ <;> rfl
 |sd o=>simp only[VR]at hc;obtain⟨_,_,_,_,_,_,rfl⟩:=hc;rfl
 |vw o sz a n=>simp only[VR]at hc;obtain⟨_,_,_,_,_,_,_,_,_,rfl,_⟩:=hc;rfl
 |bufc o cp=>simp only[VR]at hc;obtain⟨_,_,_,_,_,e,rfl,_⟩:=hc;rw[e];rfl
 |fn f vs=>simp only[VR]at hc;obtain⟨_,rfl,_⟩:=hc;rfl
 |agg cs=>exact absurd rfl (ha cs)
 |tup vs=>simp[Va.isCell]at hv
 |nil=>simp only[VR]at hc;subst hc;rfl
 |cnd x y=>simp[Va.isCell]at hv
 |raw x=>simp only[VR]at hc;subst hc;simpa [Va.isCell]using hv
 |er b=>simp only[VR]at hc;rcases hc with⟨_,rfl⟩|⟨_,_,_,rfl⟩ <;> rfl
 |top=>simp[Va.isCell]at hv
def Da:List Va->Prop
 |[]=>True
 |.agg _::_=>False
 |v::vs=>v.isCell=true/\Da vs
theorem NK{h:Array Obj}:∀{cs:List Value} {vs:List Va},VRs K h G cs vs->Da vs->∀c∈cs,c.oneCell'=true
 |cs,[],H,_=>by simp only[VRs]at H;subst H;simp
 |cs,v::vs,H,ha=>by
  simp only[VRs]at H;obtain⟨c,cs',rfl,h2,h3⟩:=H
  have hv:v.isCell=true/\(∀l,v≠.agg l)/\Da vs:=by
   cases v <;> simp only[Da]at ha <;> first|exact⟨ha.1,by simp,ha.2⟩|exact ha.elim
  intro c' hc'
  rcases mem_cons.1 hc' with rfl|hm
  .exact h2.one hv.1 hv.2.1
  .exact NK h3 hv.2.2 c' hm
end
section
variable {P:Program} (w:World)
structure rk(P:Program)(w:World)(size:Nat)(x:Value)(m:Nat)(news:List Value):Prop where
 len:∀w',(Builtin.lenOf x).run P w'=.ok m w'
 cells:∀w',w'.heap=w.heap->(Builtin.firstCells size m x).run P w'=.ok news.toArray w'
 size:news.length=m*size
theorem OG{t u ty e:TypeId}{i:TypeInfo}{z:Value}(ht:P.underlying t=some (.slice e)){d:TypeDesc}(hu:P.underlying u=some d)(hd:(∃k,d=.slice k)∨d=.string)(hi:P.info? e=some i)(hz:i.zero=some z)
  {base:Option Addr} {sLen sCap m:Nat} {x:Value} {olds news:List Value} (ho:rk P w i.size (.slice base sLen sCap) sLen olds) (hx:rk P w i.size x m news)
  (hg:sCap<sLen+m) (h63:sLen+m<=9223372036854775807) (hfit:Builtin.nextslicecap (sLen+m) sCap*i.bytes<=281474976710656) :
  (Builtin.append_ #[t,u] ty #[.slice base sLen sCap,x]).run P w =
   .ok (.slice (some ⟨w.heap.size,0,none⟩) (sLen+m) (grownCap w (sLen+m) sCap e))
    (w.drew.alloc (.cells (olds.toArray++news.toArray++Builtin.zeroCells z.cells (grownCap w (sLen+m) sCap e-(sLen+m))) e)):=by
 have hn:¬ (sLen+m<=sCap):=by omega
 have h63':¬ (9223372036854775807<((sLen:Int)+(m:Int))):=by omega
 have h48':¬ (281474976710656<Builtin.nextslicecap (sLen+m) sCap*i.bytes):=by omega
 have hf:=hx.cells w.drew rfl;have hfo:=ho.cells w.drew rfl
 rcases hd with⟨k,rfl⟩|rfl
 all_goals
  simp[Builtin.append_,run_underlying ht,run_underlying hu,sizeOf,typeInfo,zeroValue,hi,hz,hx.len,hn,h63',h48',Question.forced,hf,hfo,newRow,grownCap]
  congr 2
  apply Array.ext';simp[append_assoc]
theorem Rf{t u ty e:TypeId}{i:TypeInfo}(ht:P.underlying t=some (.slice e)){d:TypeDesc}(hu:P.underlying u=some d)(hd:(∃k,d=.slice k)∨d=.string)(hi:P.info? e=some i)
  {g sLen sCap m:Nat} {x:Value} {cur:Array Value} {fr:Nat×Nat} {news:List Value} (hgc:w.heap[g]?=some (.cells cur e fr)) (hfr:∀j,sLen*i.size<=j->j<cur.size->¬ (fr.1<=j/\j<fr.2)) (hx:rk P w i.size x m news) (h1:∀u∈news,u.oneCell'=true)
  (hroom:sLen+m<=sCap) (hfit:sLen*i.size+news.length<=cur.size) :
  (Builtin.append_ #[t,u] ty #[.slice (some ⟨g,0,none⟩) sLen sCap,x]).run P w=.ok (.slice (some ⟨g,0,none⟩) (sLen+m) sCap) (w.setRow g (eN cur.toList (sLen*i.size) news).toArray):=by
 have hf:=hx.cells w rfl;have hst:=Pf (P:=P) g (sLen*i.size) e fr news 0 cur w hgc (by simpa using hfr) (by simpa using hfit) h1;simp only[Nat.add_zero]at hst
 rcases hd with⟨k,rfl⟩|rfl
 all_goals
  simp[Builtin.append_,run_underlying ht,run_underlying hu,sizeOf,typeInfo,hi,hx.len,hroom,hf,m0,hst]
theorem It{t u ty e:TypeId}{i:TypeInfo}(ht:P.underlying t=some (.slice e)){d:TypeDesc}(hu:P.underlying u=some d)(hd:(∃k,d=.slice k)∨d=.string)(hi:P.info? e=some i)
  {x:Value} {news:List Value} (hx:rk P w i.size x 0 news) (a:Option Addr) :
  (Builtin.append_ #[t,u] ty #[.slice a 0 0,x]).run P w=.ok (.slice a 0 0) w:=by
 have hf:=hx.cells w rfl
 have hn:news=[]:=by have:=hx.size;simpa using this
 subst hn
 rcases hd with⟨k,rfl⟩|rfl
 all_goals
  cases a <;> simp[Builtin.append_,run_underlying ht,run_underlying hu,sizeOf,typeInfo,hi,hx.len,hf,storeCells]
end
theorem yM:∀(l:List Value) (n:Nat) (xs:List Value),n+xs.length<=l.length->eN l n xs=l.take n++xs++l.drop (n+xs.length)
 |l,0,xs,_=>by simp[eN]
 |x::l,n+1,xs,h=>by
  simp only[eN];rw[yM l n xs (by simp at h;omega)];simp[Nat.add_right_comm]
 |[],n+1,xs,h=>by simp at h
section
variable {K:Nat->Prop} {G:List Gh} {H:List Ob} {w:World} {P:Program}
theorem FB(hS:St K G H w){o:Nat}{T:TypeId}{sz:Nat}{rows:List (List Dt)}{g:Gh}(hg:G[o]?=some g)(ho:ObR K w.heap G g (.buf T sz rows))
  {t u ty:TypeId} {i:TypeInfo} {z:Value} (ht:P.underlying t=some (.slice T)) {d:TypeDesc} (hu:P.underlying u=some d) (hd:(∃k,d=.slice k)∨d=.string) (hi:P.info? T=some i) (hsz:i.size=sz) (hz:i.zero=some z) (hzs:z.cells.size=sz)
  {x:Value} {m:Nat} {news:List Value} (hx:rk P w i.size x m news) (h1:∀u∈news,u.oneCell'=true) {rows':List (List Dt)} (hr:DRss K w.heap sz news rows') (hm:rows'.length=m) (hlim:(rows++rows').length<=dJ) (hby:(rows++rows').length*i.bytes<=140737488355328) :
  ∃sv w' g1,(Builtin.append_ #[t,u] ty #[g.sv,x]).run P w=.ok sv w'/\g1.sv=sv/\(∃a n c,sv=.slice a n c)/\w'.os=w.os/\w'.tape=w.tape/\w'.output=w.output/\w.heap.size<=w'.heap.size /\
   (∀i,i<w.heap.size->g.blk≠some i->w'.heap[i]?=w.heap[i]?)/\(∀b,g1.blk=some b->b<w'.heap.size/\(g.blk=some b∨w.heap.size<=b))/\ObR K w'.heap (G.set o g1) g1 (.buf T sz (rows++rows')):=by
 subst hsz;subst hm
 have hl63:rows.length+rows'.length<=9223372036854775807:=by simp only[length_append,dJ]at hlim;omega
 have hlm:rows.length+rows'.length<=maxLen:=by simp only[maxLen];omega
 obtain⟨hlr,xs,hxs,hh⟩:=ho;have hxl:=hxs.length;have hnl:=hx.size;have hK:∀b,K b->b<w.heap.size:=hS.kb
 -- where it grows
 have grown:∀(base:Option Addr) (cap:Nat),g.sv=.slice base rows.length cap->rk P w i.size g.sv rows.length xs->cap<rows.length+rows'.length ->
   ∃sv w' g1,(Builtin.append_ #[t,u] ty #[g.sv,x]).run P w=.ok sv w'/\g1.sv=sv/\(∃a n c,sv=.slice a n c)/\w'.os=w.os/\w'.tape=w.tape/\w'.output=w.output/\w.heap.size<=w'.heap.size /\
    (∀i,i<w.heap.size->g.blk≠some i->w'.heap[i]?=w.heap[i]?)/\(∀b,g1.blk=some b->b<w'.heap.size/\(g.blk=some b∨w.heap.size<=b))/\ObR K w'.heap (G.set o g1) g1 (.buf T i.size (rows++rows')):=by
  intro base cap hsv hsrc hlt;have hfit:=growslice_fits (bytes:=i.bytes) hlt (by simpa using hby);rw[hsv]at hsrc;have hrun:=OG (P:=P) w (ty:=ty) ht hu hd hi hz hsrc hx hlt hl63 hfit;have hge:=grownCap_ge w (rows.length+rows'.length) cap T;have hcm:=grownCap_le_maxLen w (rows.length+rows'.length) cap T hlm;refine⟨_,w.drew.alloc (.cells (xs.toArray++news.toArray++Builtin.zeroCells z.cells (grownCap w (rows.length+rows'.length) cap T-(rows.length+rows'.length))) T),⟨some w.heap.size,.slice (some ⟨w.heap.size,0,none⟩) (rows.length+rows'.length) (grownCap w (rows.length+rows'.length) cap T)⟩,by rw[hsv];exact hrun,rfl,⟨_,_,_,rfl⟩,rfl,rfl,rfl,by simp,fun k hk _=>heap_alloc_old w.drew _ hk,fun b hb=>?_,?_⟩
  .cases hb;exact⟨by simp,.inr (Nat.le_refl _)⟩
  .refine⟨hlim,xs++news,?_,.inr ⟨w.heap.size,_,_,(0,0),by rw[length_append],rfl,heap_alloc_new w.drew _,?_,by rw[length_append];exact hge,hcm,?_,?_⟩⟩
   .exact DRss.mono ⟨fun _ h=>h,fun b hb=>heap_alloc_old w.drew _ (hK b hb)⟩ _ _ _ (hxs.append hr)
   .exact .inl rfl
   .simp only[Array.size_append,size_toArray,size_zeroCells,hzs,hxl,hnl,<-Nat.add_mul]
    congr 1
    omega
   .simp only[Array.toList_append,append_assoc]
    rw[<-append_assoc]
    have:(xs++news).length=(rows++rows').length*i.size:=by rw[length_append,length_append,hxl,hnl,Nat.add_mul]
    rw[<-this];exact take_left
 rcases hh with⟨hsv,hr0,hgb⟩|⟨b,cap,cur,fr,hsv,hgb,hb,hfr,hle,hcap,hcs,htake⟩
 .obtain⟨ad,hsv⟩:=hsv
  subst hr0
  have hx0:xs=[]:=by simpa [DRss]using hxs
  subst hx0
  rcases Nat.eq_zero_or_pos rows'.length with h0|hp
  .have hr0:rows'=[]:=length_eq_zero_iff.1 h0
   subst hr0;refine⟨.slice ad 0 0,w,g,by rw[hsv];exact It (P:=P) w ht hu hd hi hx ad,hsv,⟨_,_,_,rfl⟩,rfl,rfl,rfl,Nat.le_refl _,fun _ _ _=>rfl,fun b hb=>absurd hb (by rw[hgb];simp),?_⟩;exact⟨by simp,[],by simp[DRss],.inl ⟨⟨ad,hsv⟩,rfl,hgb⟩⟩
  .have hsrc:rk P w i.size g.sv 0 []:=by
    rw[hsv];exact⟨fun _=>rfl,fun _ _=>by cases ad <;> simp[Builtin.firstCells,loadCells,loadCellsFrom],by simp⟩
   exact grown ad 0 (by simpa using hsv) (by simpa using hsrc) (by simpa using hp)
 .by_cases hroom:rows.length+rows'.length<=cap
  .have hfit:rows.length*i.size+news.length<=cur.size:=by rw[hnl,hcs,<-Nat.add_mul];exact Nat.mul_le_mul_right _ hroom
   have hrun:=Rf (P:=P) w (ty:=ty) ht hu hd hi hb (fun j _ hj=>hfr.out j hj) hx h1 hroom hfit;refine⟨_,w.setRow b (eN cur.toList (rows.length*i.size) news).toArray,⟨some b,.slice (some ⟨b,0,none⟩) (rows.length+rows'.length) cap⟩,by rw[hsv];exact hrun,rfl,⟨_,_,_,rfl⟩,rfl,rfl,rfl,by simp,fun k _ hk=>setRow_other w b k _ (fun e=>hk (by rw[hgb,e])),fun b' hb'=>?_,?_⟩
   .cases hb'
    exact⟨by rw[setRow_size];exact(hS.gb o g b hg hgb).1,.inl hgb⟩
   .have hcl:(eN cur.toList (rows.length*i.size) news).length=cur.size:=by rw[Iu _ _ _ (by simpa using hfit)];simp
    refine⟨hlim,xs++news,?_,.inr ⟨b,cap,_,fr,by rw[length_append],rfl,setRow_heap w b cur _ T fr hb,?_,by rw[length_append];exact hroom,hcap,?_,?_⟩⟩
    .exact DRss.mono ⟨fun _ h=>h,fun b' hb'=>setRow_other w b b' _ (fun e=>(hS.gb o g b hg hgb).2 (e ▸ hb'))⟩ _ _ _ (hxs.append hr)
    .simp only[size_toArray,hcl];exact hfr
    .simp only[size_toArray,hcl];exact hcs
    .simp only
     have hl2:(cur.toList.take (rows.length*i.size)++news).length=(rows++rows').length*i.size:=by
      rw[htake,length_append,length_append,hxl,hnl,Nat.add_mul]
     rw[yM _ _ _ (by simpa using hfit),<-hl2,take_left,htake]
  .refine grown (some ⟨b,0,none⟩) cap hsv ?_ (by omega)
   rw[hsv];refine⟨fun _=>rfl,fun w' hw'=>?_,hxl⟩;refine run_firstCells_some (P:=P) w' i.size rows.length _ _ _ xs hxl (fun j v hj=>?_);rw[m0,cell_of_row w' b (0+j) cur T fr (by rw[hw'];exact hb),Nat.zero_add];rw[<-htake,getElem?_take]at hj;split at hj
   .rw[<-Array.getElem?_toList];exact hj
   .cases hj
theorem uA(hS:St K G H w){o:Nat}{T:TypeId}{bs:List UInt8}{g:Gh}(hg:G[o]?=some g)(ho:ObR K w.heap G g (.sb T bs))
  {t u ty:TypeId} {i:TypeInfo} {z:Value} (ht:P.underlying t=some (.slice T)) {d:TypeDesc} (hu:P.underlying u=some d) (hd:(∃k,d=.slice k)∨d=.string) (hi:P.info? T=some i) (hsz:i.size=1) (hz:i.zero=some z) (hzs:z.cells.size=1)
  {x:Value} {bs':List UInt8} (hx:rk P w i.size x bs'.length (bs'.map mN)) (hlim:(bs++bs').length<=dJ) (hby:(bs++bs').length*i.bytes<=140737488355328) :
  ∃sv w' g1,(Builtin.append_ #[t,u] ty #[g.sv,x]).run P w=.ok sv w'/\g1.sv=sv/\(∃a n c,sv=.slice a n c)/\w'.os=w.os/\w'.tape=w.tape/\w'.output=w.output/\w.heap.size<=w'.heap.size /\
   (∀i,i<w.heap.size->g.blk≠some i->w'.heap[i]?=w.heap[i]?)/\(∀b,g1.blk=some b->b<w'.heap.size/\(g.blk=some b∨w.heap.size<=b))/\ObR K w'.heap (G.set o g1) g1 (.sb T (bs++bs')):=by
 have hl63:bs.length+bs'.length<=9223372036854775807:=by simp only[length_append,dJ]at hlim;omega
 have hlm:bs.length+bs'.length<=maxLen:=by simp only[maxLen];omega
 have h1:∀u∈bs'.map mN,u.oneCell'=true:=by
  intro u hu;obtain⟨y,_,rfl⟩:=mem_map.1 hu;rfl
 obtain⟨hlr,hh⟩:=ho
 -- where it grows
 have grown:∀(base:Option Addr) (cap:Nat),g.sv=.slice base bs.length cap->rk P w i.size g.sv bs.length (bs.map mN)->cap<bs.length+bs'.length ->
   ∃sv w' g1,(Builtin.append_ #[t,u] ty #[g.sv,x]).run P w=.ok sv w'/\g1.sv=sv/\(∃a n c,sv=.slice a n c)/\w'.os=w.os/\w'.tape=w.tape/\w'.output=w.output/\w.heap.size<=w'.heap.size /\
    (∀i,i<w.heap.size->g.blk≠some i->w'.heap[i]?=w.heap[i]?)/\(∀b,g1.blk=some b->b<w'.heap.size/\(g.blk=some b∨w.heap.size<=b))/\ObR K w'.heap (G.set o g1) g1 (.sb T (bs++bs')):=by
  intro base cap hsv hsrc hlt;have hfit:=growslice_fits (bytes:=i.bytes) hlt (by simpa using hby);rw[hsv]at hsrc;have hrun:=OG (P:=P) w (ty:=ty) ht hu hd hi hz hsrc hx hlt hl63 hfit;have hge:=grownCap_ge w (bs.length+bs'.length) cap T;have hcm:=grownCap_le_maxLen w (bs.length+bs'.length) cap T hlm;refine⟨_,w.drew.alloc (.cells ((bs.map mN).toArray++(bs'.map mN).toArray++Builtin.zeroCells z.cells (grownCap w (bs.length+bs'.length) cap T-(bs.length+bs'.length))) T),⟨some w.heap.size,.slice (some ⟨w.heap.size,0,none⟩) (bs.length+bs'.length) (grownCap w (bs.length+bs'.length) cap T)⟩,by rw[hsv];exact hrun,rfl,⟨_,_,_,rfl⟩,rfl,rfl,rfl,by simp,fun k hk _=>heap_alloc_old w.drew _ hk,fun b hb=>?_,?_⟩
  .cases hb;exact⟨by simp,.inr (Nat.le_refl _)⟩
  .refine⟨hlim,.inr ⟨w.heap.size,_,_,(0,0),by rw[length_append],rfl,heap_alloc_new w.drew _,.inl rfl,by rw[length_append];exact hge,by omega,hcm,?_,?_⟩⟩
   .simp only[Array.size_append,size_toArray,size_zeroCells,hzs,length_map]
    omega
   .simp only[Array.toList_append,append_assoc]
    rw[<-append_assoc,map_append];exact take_left' (by simp)
 rcases hh with⟨hsv,hr0,hgb⟩|⟨b,cap,cur,fr,hsv,hgb,hb,hfr,hle,hc0,hcap,hcs,htake⟩
 .subst hr0
  rcases Nat.eq_zero_or_pos bs'.length with h0|hp
  .have hr0:bs'=[]:=length_eq_zero_iff.1 h0
   subst hr0;refine⟨.slice none 0 0,w,g,by rw[hsv];exact It (P:=P) w ht hu hd hi hx none,hsv,⟨_,_,_,rfl⟩,rfl,rfl,rfl,Nat.le_refl _,fun _ _ _=>rfl,fun b hb=>absurd hb (by rw[hgb];simp),?_⟩;exact⟨by simp,.inl ⟨hsv,rfl,hgb⟩⟩
  .have hsrc:rk P w i.size g.sv 0 []:=by
    rw[hsv];exact⟨fun _=>rfl,fun _ _=>by simp[Builtin.firstCells],by simp⟩
   exact grown none 0 (by simpa using hsv) (by simpa using hsrc) (by simpa using hp)
 .by_cases hroom:bs.length+bs'.length<=cap
  .have hfit:bs.length*i.size+(bs'.map mN).length<=cur.size:=by rw[hsz,hcs];simpa using hroom
   have hfr':∀j,bs.length*i.size<=j->j<cur.size->¬ (fr.1<=j/\j<fr.2):=by
    intro j hj _ ⟨h1,h2⟩;rw[hsz]at hj
    rcases hfr with h|⟨h,h'⟩ <;> omega
   have hrun:=Rf (P:=P) w (ty:=ty) ht hu hd hi hb hfr' hx h1 hroom hfit;refine⟨_,w.setRow b (eN cur.toList (bs.length*i.size) (bs'.map mN)).toArray,⟨some b,.slice (some ⟨b,0,none⟩) (bs.length+bs'.length) cap⟩,by rw[hsv];exact hrun,rfl,⟨_,_,_,rfl⟩,rfl,rfl,rfl,by simp,fun k _ hk=>setRow_other w b k _ (fun e=>hk (by rw[hgb,e])),fun b' hb'=>?_,?_⟩
   .cases hb'
    exact⟨by rw[setRow_size];exact(hS.gb o g b hg hgb).1,.inl hgb⟩
   .have hcl:(eN cur.toList (bs.length*i.size) (bs'.map mN)).length=cur.size:=by rw[Iu _ _ _ (by simpa using hfit)];simp
    refine⟨hlim,.inr ⟨b,cap,_,fr,by rw[length_append],rfl,setRow_heap w b cur _ T fr hb,?_,by rw[length_append];exact hroom,hc0,hcap,?_,?_⟩⟩
    .rcases hfr with h|⟨h,h'⟩
     .exact .inl h
     .exact .inr ⟨h,by rw[length_append];omega⟩
    .simp only[size_toArray,hcl];exact hcs
    .simp only
     have hl2:(cur.toList.take (bs.length*i.size)++bs'.map mN).length=(bs++bs').length:=by
      rw[hsz,Nat.mul_one,htake];simp
     rw[yM _ _ _ (by simpa using hfit),<-hl2,take_left,hsz,Nat.mul_one,htake,map_append]
  .refine grown (some ⟨b,0,none⟩) cap hsv ?_ (by omega)
   rw[hsv];refine⟨fun _=>rfl,fun w' hw'=>?_,by rw[hsz];simp⟩;refine run_firstCells_some (P:=P) w' i.size bs.length _ _ _ (bs.map mN) (by rw[hsz];simp) (fun j v hj=>?_);rw[m0,cell_of_row w' b (0+j) cur T fr (by rw[hw'];exact hb),Nat.zero_add];rw[<-htake,getElem?_take]at hj;split at hj
   .rw[<-Array.getElem?_toList];exact hj
   .cases hj
end
structure Ev where
 v:Va
 E:dz
 H:List Ob
 ok:Prop
def ga:Ev:=⟨.top,[],[],False⟩
def ik(f:Nat->Bool):dz->dz
 |[]=>[]
 |(k,v)::E=>(k,v.prune f)::ik f E
def gh(f:Nat->Bool):List Ob->List Ob
 |[]=>[]
 |x::H=>x.prune f::gh f H
theorem jQ(f:Nat->Bool):∀H:List Ob,gh f H=H.map (Ob.prune f)
 |[]=>rfl
 |x::H=>by simp[gh,jQ f H]
theorem Ay(f:Nat->Bool):∀(E:dz) (m:Nat),ei (ik f E) m=(ei E m).prune f
 |[],m=>by simp[ik,ei,Va.prune]
 |(k,v)::E,m=>by
  simp only[ik,ei];split
  .rfl
  .exact Ay f E m
def fQ:List Va->Option (List Dt)
 |[]=>some []
 |.p d::l=>match fQ l with
  |some ds=>some (d::ds)
  |none=>none
 |.nils::l=>match fQ l with
  |some ds=>some (.l []::ds)
  |none=>none
 |.full rows::l=>match fQ l with
  |some ds=>some (.l rows::ds)
  |none=>none
 |_::_=>none
def pP:List Dt->Nat->List Dt->List Dt
 |l,0,xs=>xs++l.drop xs.length
 |x::l,n+1,xs=>x::pP l n xs
 |[],_+1,_=>[]
def F2(esz:Nat):List (List Dt)->List (Nat×Va)->Option (List (List Dt))
 |rows,[]=>some rows
 |rows,(i,v)::rest=>match fQ (lw v)with
  |some ds=>if v.isCell=true/\ds.length=esz/\i<rows.length then F2 esz (rows.set i ds) rest else none
  |none=>none
def yj(k:IntKind):List Value->Bool
 |[]=>true
 |.int k' n::l=>decide (k'=k)&&decide (n=0)&&yj k l
 |_::_=>false
def ya(P:Program)(ti:Ti):Option (IntKind×Nat):=match ti.kind with
 |.arr n e _ false=>match dL P e with
  |.int k=>bif decide (8<n)then some (k,n)else none
  |_=>none
 |_=>none
def B1(P:Program)(E:dz)(H:List Ob)(t:TypeId):Ev:=match dM P t with
 |some ti=>match ya P ti with
  |some (k,n)=>⟨.ptr H.length 0,E,H++[.buf t 1 (List.replicate n [.i k 0])],yj k ti.zero=true/\ti.zero.length=n/\n<=dJ⟩
  |none=>⟨.ptr H.length 0,E,H++[.cells t (ti.zero.map cv)],uX ti.zero⟩
 |none=>ga
def pd(E:dz)(H:List Ob)(t:TypeId)(x:Operand):Ev:=⟨.ptr H.length 0,E,H++[.cells t (lw (opnd E x))],opOk true E x/\(opnd E x).isCell=true⟩
def wD(P:Program)(e:TypeId)(n:Nat):Bool:=match dL P e with
 |.int .u8=>decide (3<n)
 |_=>false
def qV:Va->Bool
 |.agg _=>true
 |_=>false
def tK:Nat->List (Nat×Va)->Option (List Va)
 |_,[]=>some []
 |i,(j,v)::r=>bif decide (j=i)&&(v.isCell&&!qV v)then(match tK (i+1) r with
  |some vs=>some (v::vs)
  |none=>none)else none
def JN(P:Program)(t:TypeId):Bool:=match dL P t with
 |.ptr _=>true
 |_=>false
def hU(P:Program)(E:dz)(H:List Ob)(t:TypeId)(n:Nat)(ps:List (Nat×Operand)):Ev:=match dL P t with
 |.slice e esz _ ez=>match tK 0 (partsV E ps)with
  |some vs=>⟨.cs H.length n,E,H++[.cells e vs],partsOk true E ps/\ez.length=esz/\esz=1/\0<n/\n*esz<=16777216/\vs.length=n⟩
  |none=>ga
 |_=>ga
def A4(P:Program)(t:TypeId):Bool:=match dL P t with
 |.slice e _ _ _=>JN P e
 |_=>false
def pc(P:Program)(E:dz)(H:List Ob)(t:TypeId)(n:Nat)(ps:List (Nat×Operand)):Ev:=bif A4 P t then hU P E H t n ps else match dL P t with
 |.slice e esz _ ez=>match fQ (ez.map cv)with
  |some z=>match F2 esz (List.replicate n z) (partsV E ps)with
   |some rows=>bif wD P e n then⟨.buf H.length,E,H++[.buf e esz rows],partsOk true E ps/\uX ez/\ez.length=esz/\0<esz/\n*esz<=16777216/\n<=dJ⟩else⟨.full rows,E,H,partsOk true E ps/\uX ez/\ez.length=esz/\0<esz/\n*esz<=16777216/\n<=dJ⟩
   |none=>ga
  |none=>ga
 |_=>ga
def lO(sz:Nat)(row:List Dt)(off:Nat)(ds:List Dt):List Dt:=bif off == 0&&ds.length == sz then ds else pP row off ds
theorem P7:∀{row ds:List Dt},ds.length=row.length->pP row 0 ds=ds
 |[],[],_=>by simp[pP]
 |x::row,d::ds,h=>by
  have:=P7 (row:=row) (ds:=ds) (by simpa using h);simp[pP]at this|-
  first|exact this|simp_all
 |[],_::_,h=>by simp at h
 |_::_,[],h=>by simp at h
theorem tH{sz:Nat}{row ds:List Dt}{off:Nat}(h:row.length=sz):lO sz row off ds=pP row off ds:=by
 unfold lO;cases hc:(off == 0&&ds.length == sz)
 .rfl
 .simp only[Bool.and_eq_true,beq_iff_eq]at hc
  obtain⟨rfl,h2⟩:=hc
  rw[P7 (by omega)];rfl
def B5(P:Program)(E:dz)(H:List Ob)(t:TypeId)(x y:Va):Ev:=match dM P t with
 |some ti=>match x with
  |.ptr o off=>match dT H o with
   |.cells T vs=>⟨.top,E,H.set o (.cells T (setR vs off (lw y))),y.isCell=true/\Da (lw y)/\(lw y).length=ti.size/\off+(lw y).length<=vs.length⟩
   |_=>ga
  |.el o sz i off=>match sW H o with
   |some (T,sz',rows,fx)=>match fQ (lw y)with
    |some ds=>⟨.top,E,H.set o (wK fx T sz' (rows.set i (lO sz (rows.getD i []) off ds))),y.isCell=true/\Da (lw y)/\ds.length=ti.size/\sz=sz'/\i<rows.length/\off+ds.length<=sz⟩
    |none=>ga
   |none=>ga
  |_=>ga
 |none=>ga
def g9(P:Program)(E:dz)(H:List Ob)(s d:TypeId)(o:Nat):Ev:=match dL P s,dL P d,dT H o with
 |.slice _ _ _ _,.slice e _ _ _,.buf _ _ rows=>match dL P e with
  |.int .u8=>⟨.buf o,E,H,s=d/\0<rows.length⟩
  |_=>ga
 |_,_,_=>ga
def B9(P:Program)(E:dz)(H:List Ob)(s d:TypeId)(x:Va):Ev:=match dL P s,dL P d,x with
 |.str,.slice e esz _ _,.p (.s l)=>match dL P e with
  |.int .u8=>⟨.buf H.length,E,H++[.buf e 1 (bR l)],esz=1⟩
  |_=>ga
 |_,_,_=>ga
def B2(P:Program)(E:dz)(H:List Ob)(s d:TypeId)(x:Va):Ev:=match x with
 |.buf o=>g9 P E H s d o
 |x=>B9 P E H s d x
def hO(P:Program)(E:dz)(H:List Ob)(t:TypeId)(l c:Va):Ev:=match dL P t with
 |.slice e esz eb ez=>match fQ (ez.map cv),l,c with
  |some z,.p (.i _ n),.p (.i _ m)=>⟨.buf H.length,E,H++[.buf e esz (List.replicate n.toNat z)],uX ez/\ez.length=esz/\0<esz/\0<=n/\n<=m/\m<=dJ/\eb<=512⟩
  |_,_,_=>ga
 |_=>ga
def Hq(H:List Ob):Va->Option (List (List Dt))
 |.p (.s l)=>some (bR l)
 |x=>Df H x
def yD(P:Program)(u:TypeId)(esz:Nat)(e:TypeId)(x:Va)(rows:List (List Dt)):Prop:=match x with
 |.p (.s _)=>dL P u=.str/\esz=1/\dL P e=.int .u8
 |_=>eP esz rows/\match dL P u with
  |.slice _ _ _ _=>True
  |_=>False
def jc:List (List Dt)->Nat->Prop
 |[],_=>True
 |_::_,n=>0<n
def CV:Va->Bool
 |.full _=>true
 |_=>false
def Fq(P:Program)(e:TypeId)(x:Va):Bool:=match dL P e with
 |.int .i64=>CV x
 |_=>false
def pt(P:Program)(kp:Nat->Bool)(E:dz)(H:List Ob)(t u:TypeId)(dst x:Va):Ev:=match dL P t with
 |.slice e esz eb ez=>match Hq H x with
  |some rows'=>match dst with
   |.buf o=>match dT H o with
    |.buf T sz rows=>⟨.buf o,ik (· != o) E,(gh (· != o) H).set o (.buf T sz (rows++rows')),kp o=false/\T=e/\sz=esz/\ez.length=esz/\eb<=512/\(rows++rows').length<=dJ/\yD P u esz e x rows'⟩
    |.sb T bs=>⟨.buf o,ik (· != o) E,(gh (· != o) H).set o (.sb T (bs++gP rows')),kp o=false/\T=e/\esz=1/\ez.length=1/\eb<=512/\(bs++gP rows').length<=dJ/\fy rows'/\yD P u 1 e x rows'⟩
    |_=>ga
   |.nils=>⟨.buf H.length,E,H++[.buf e esz rows'],kp H.length=false/\ez.length=esz/\eb<=512/\rows'.length<=dJ/\yD P u esz e x rows'⟩
   |.full rows=>match Fq P e x with
    |true=>⟨.p (.l (rows++rows')),E,H,ez.length=esz/\eb<=512/\(rows++rows').length<=dJ/\eP esz rows/\jc rows rows'.length/\yD P u esz e x rows'⟩
    |false=>⟨.buf H.length,E,H++[.buf e esz (rows++rows')],kp H.length=false/\ez.length=esz/\eb<=512/\(rows++rows').length<=dJ/\eP esz rows/\jc rows rows'.length/\yD P u esz e x rows'⟩
   |_=>ga
  |none=>ga
 |_=>ga
def Ky:Va->Bool
 |.agg _=>true
 |_=>false
def nX(P:Program)(E:dz)(H:List Ob)(t:TypeId):Ev:=match dL P t with
 |.map _ et=>⟨.mp H.length,E,H++[.mp (yO P et) []],True⟩
 |_=>ga
def jU(P:Program)(E:dz)(H:List Ob)(t:TypeId)(m k v:Va):Ev:=match dL P t,m,tT k with
 |.map kt _,.mp o,some d=>match dT H o with
  |.mp ag es=>match fQ (lw v)with
   |some row=>⟨.top,E,H.set o (.mp ag (iL es d row)),jN (ol P kt) es/\lr (ol P kt) d/\v.isCell=true/\Ky v=ag/\(ag=false->row.length=1)/\(iL es d row).length<=dJ⟩
   |none=>ga
  |_=>ga
 |_,_,_=>ga
def oQ(P:Program)(E:dz)(H:List Ob)(t _u:TypeId)(m k:Va):Ev:=match dL P t,m,tT k with
 |.map kt _,.mp o,some d=>match dT H o with
  |.mp ag es=>⟨.top,E,H.set o (.mp ag (iK es d)),jN (ol P kt) es/\lr (ol P kt) d⟩
  |.mpb ag es bs cl=>⟨.top,E,H.set o (.mpb ag (iK es d) (iu es bs d) cl),jN (ol P kt) es/\lr (ol P kt) d⟩
  |_=>ga
 |_,_,_=>ga
def JL(H:List Ob):Va->Pv
 |.buf o=>match dT H o with
  |.sb _ _=>⟨.sd o,True⟩
  |_=>dD
 |_=>dD
def Pr(P:Program)(t T:TypeId):Bool:=match P.underlying t with
 |some (.pointer e)=>decide (e=T)&&decide (P.cellsOf T=1)
 |_=>false
def Jk(P:Program)(H:List Ob)(t:TypeId):Va->Va->Pv
 |.sd o,.p (.i k n)=>match dT H o with
  |.sb T bs=>⟨.p (.s bs),Pr P t T=true/\k=.i64/\n=bs.length⟩
  |_=>dD
 |_,_=>dD
def eY(P:Program)(kp:Nat->Bool)(E:dz)(H:List Ob):Op->Ev
 |.alloc t=>B1 P E H t
 |.box t x=>pd E H t x
 |.buildSlice t n ps=>pc P E H t n ps.toList
 |.store t x y=>let r:=B5 P E H t (opnd E x) (opnd E y);⟨r.v,r.E,r.H,opOk true E x/\opOk true E y/\r.ok⟩
 |.convert s d x=>let r:=B2 P E H s d (opnd E x);⟨r.v,r.E,r.H,opOk true E x/\r.ok⟩
 |.makeSlice t l c=>let r:=hO P E H t (opnd E l) (opnd E c);⟨r.v,r.E,r.H,opOk true E l/\opOk true E c/\r.ok⟩
 |.call c=>match c.callee,c.args.toList,c.argTypes.toList with
  |.builtin .append,[x,y],[t,u]=>let r:=pt P kp E H t u (opnd E x) (opnd E y);⟨r.v,r.E,r.H,opOk true E x/\opOk true E y/\r.ok⟩
  |.builtin .unsafeSliceData,[x],_=>let r:=JL H (opnd E x);⟨r.v,E,H,opOk true E x/\r.ok⟩
  |.builtin .unsafeString,[x,y],[t,_]=>let r:=Jk P H t (opnd E x) (opnd E y);⟨r.v,E,H,opOk true E x/\opOk true E y/\r.ok⟩
  |.builtin .delete,[x,y],[t,u]=>let r:=oQ P E H t u (opnd E x) (opnd E y);⟨r.v,r.E,r.H,opOk true E x/\opOk true E y/\r.ok⟩
  |_,_,_=>ga
 |.makeMap t r=>match r with
  |none=>nX P E H t
  |some _=>ga
 |.mapUpdate t m k x=>let r:=jU P E H t (opnd E m) (opnd E k) (opnd E x);⟨r.v,r.E,r.H,opOk true E m/\opOk true E k/\opOk true E x/\r.ok⟩
 |.insert t m k x=>let r:=jU P E H t (opnd E m) (opnd E k) (opnd E x);⟨r.v,r.E,r.H,opOk true E m/\opOk true E k/\opOk true E x/\r.ok⟩
 |_=>ga
section
variable {K:Nat->Prop} {h:Array Obj} {G:List Gh}
theorem yG:∀{cs:List Value} {vs:List Va} {ds:List Dt},VRs K h G cs vs->fQ vs=some ds->DRs K h cs ds
 |cs,[],ds,H,hp=>by simp only[fQ]at hp;cases hp;simpa [VRs,DRs]using H
 |cs,.p d::vs,ds,H,hp=>by
  simp only[fQ]at hp;split at hp
  .rename_i ds' hd
   cases hp;simp only[VRs,VR]at H;obtain⟨c,cs',rfl,h2,h3⟩:=H;simp only[DRs];exact⟨c,cs',rfl,h2,yG h3 hd⟩
  .cases hp
 |cs,.nils::vs,ds,H,hp=>by
  simp only[fQ]at hp;split at hp
  .rename_i ds' hd
   cases hp;simp only[VRs,VR]at H;obtain⟨c,cs',rfl,h2,h3⟩:=H;simp only[DRs,DR];exact⟨c,cs',rfl,.inl ⟨⟨none,h2⟩,trivial⟩,yG h3 hd⟩
  .cases hp
 |cs,.full rows::vs,ds,H,hp=>by
  simp only[fQ]at hp;split at hp
  .rename_i ds' hd
   cases hp;simp only[VRs,VR]at H;obtain⟨c,cs',rfl,h2,h3⟩:=H;simp only[DRs];exact⟨c,cs',rfl,h2.1,yG h3 hd⟩
  .cases hp
 |cs,.rp _::_,_,_,hp=>by simp[fQ]at hp
 |cs,.ptr _ _::_,_,_,hp=>by simp[fQ]at hp
 |cs,.cs _ _::_,_,_,hp=>by simp[fQ]at hp
 |cs,.el _ _ _ _::_,_,_,hp=>by simp[fQ]at hp
 |cs,.buf _::_,_,_,hp=>by simp[fQ]at hp
 |cs,.mp _::_,_,_,hp=>by simp[fQ]at hp
 |cs,.np _::_,_,_,hp=>by simp[fQ]at hp
 |cs,.sd _::_,_,_,hp=>by simp[fQ]at hp
 |cs,.vw _ _ _ _::_,_,_,hp=>by simp[fQ]at hp
 |cs,.bufc _ _::_,_,_,hp=>by simp[fQ]at hp
 |cs,.fn _ _::_,_,_,hp=>by simp[fQ]at hp
 |cs,.agg _::_,_,_,hp=>by simp[fQ]at hp
 |cs,.tup _::_,_,_,hp=>by simp[fQ]at hp
 |cs,.nil::_,_,_,hp=>by simp[fQ]at hp
 |cs,.cnd _ _::_,_,_,hp=>by simp[fQ]at hp
 |cs,.raw _::_,_,_,hp=>by simp[fQ]at hp
 |cs,.er _::_,_,_,hp=>by simp[fQ]at hp
 |cs,.top::_,_,_,hp=>by simp[fQ]at hp
theorem DR.one{c:Value}{d:Dt}(hc:DR K h c d):c.oneCell'=true:=VR.one (G:=[]) (v:=.p d) (by simpa only[VR]using hc) (by cases d <;> first|rfl|(simp[DR]at hc)) (by simp)
theorem DRs.ones:∀{cs:List Value} {ds:List Dt},DRs K h cs ds->∀c∈cs,c.oneCell'=true
 |cs,[],H=>by simp only[DRs]at H;subst H;simp
 |cs,d::ds,H=>by
  simp only[DRs]at H;obtain⟨v,vs',rfl,h2,h3⟩:=H;intro c hc
  rcases mem_cons.1 hc with rfl|hm
  .exact h2.one
  .exact h3.ones c hm
theorem DRss.ones{sz:Nat}:∀{cs:List Value} {rs:List (List Dt)},DRss K h sz cs rs->∀c∈cs,c.oneCell'=true
 |cs,[],H=>by simp only[DRss]at H;subst H;simp
 |cs,r::rs,H=>by
  simp only[DRss]at H;obtain⟨a,b,rfl,_,h3,h4⟩:=H;intro c hc
  rcases mem_append.1 hc with hm|hm
  .exact h3.ones c hm
  .exact h4.ones c hm
theorem DRs.setR:∀{cs:List Value} {ds:List Dt},DRs K h cs ds->∀(n:Nat) {es:List Value} {us:List Dt},DRs K h es us->n+us.length<=ds.length->DRs K h (eN cs n es) (pP ds n us)
 |cs,ds,H,0,es,us,H',_=>by
  simp only[eN,pP];rw[H'.length];exact H'.append (H.drop _)
 |cs,d::ds,H,n+1,es,us,H',hl=>by
  simp only[DRs]at H;obtain⟨c,cs',rfl,h2,h3⟩:=H;simp only[eN,pP,DRs];exact⟨c,_,rfl,h2,DRs.setR h3 n H' (by simp at hl;omega)⟩
 |cs,[],H,n+1,es,us,H',hl=>by simp at hl
theorem MT{K:Nat->Prop}{h:Array Obj}{sz:Nat}:∀{xs:List Value} {rs:List (List Dt)},DRss K h sz xs rs->∀x∈rs,x.length=sz
 |_,[],_,x,hx=>by cases hx
 |_,r::rs,hd,x,hx=>by
  simp only[DRss]at hd;obtain⟨_,_,_,h1,_,h3⟩:=hd
  rcases mem_cons.1 hx with rfl|hx
  .exact h1
  .exact MT h3 x hx
theorem Rm:∀(l:List Dt) (n:Nat) (xs:List Dt),n+xs.length<=l.length->(pP l n xs).length=l.length
 |l,0,xs,h=>by simp[pP];omega
 |x::l,n+1,xs,h=>by simp only[pP,length_cons]at *;rw[Rm l n xs (by omega)]
 |[],n+1,xs,h=>by simp at h
theorem DRss.set{sz:Nat}:∀{cs:List Value} {rs:List (List Dt)},DRss K h sz cs rs->∀(i off:Nat) {es:List Value} {us:List Dt},DRs K h es us->i<rs.length->off+us.length<=sz ->
  DRss K h sz (eN cs (i*sz+off) es) (rs.set i (pP (rs.getD i []) off us))
 |cs,[],H,i,off,es,us,_,hi,_=>by simp at hi
 |cs,r::rs,H,0,off,es,us,H',hi,hl=>by
  simp only[DRss]at H;obtain⟨a,b,rfl,h2,h3,h4⟩:=H;have hal:=h3.length;have hel:=H'.length;simp only[Nat.zero_mul,Nat.zero_add,set_cons_zero,getD_cons_zero,DRss];refine⟨eN a off es,b,?_,?_,h3.setR off H' (by omega),h4⟩
  .rw[yM _ _ _ (by simp;omega),yM _ _ _ (by omega),take_append_of_le_length (by omega),drop_append_of_le_length (by omega)]
   simp
  .rw[Rm _ _ _ (by omega),h2]
 |cs,r::rs,H,i+1,off,es,us,H',hi,hl=>by
  simp only[DRss]at H;obtain⟨a,b,rfl,h2,h3,h4⟩:=H;have hal:=h3.length;have hel:=H'.length;have ih:=DRss.set h4 i off H' (by simpa using hi) hl;have hbl:=h4.length
  have hile:i*sz+off+es.length<=b.length:=by
   rw[hbl,hel];have:(i+1)*sz<=rs.length*sz:=Nat.mul_le_mul_right _ (by simp at hi;omega);rw[Nat.add_mul]at this;omega
  simp only[set_cons_succ,getD_cons_succ,DRss];refine⟨a,_,?_,h2,h3,ih⟩
  have e:(i+1)*sz+off=a.length+(i*sz+off):=by rw[Nat.add_mul];omega
  rw[e,yM _ _ _ (by simp;omega),yM _ _ _ hile];rw[take_append,take_of_length_le (by omega),show a.length+(i*sz+off)-a.length=i*sz+off by omega];rw[drop_append,drop_eq_nil_of_le (by omega),show a.length+(i*sz+off)+es.length-a.length=i*sz+off+es.length by omega];simp
theorem DRss.replicate{z:List Dt}{zs:List Value}(hz:DRs K h zs z):∀n:Nat,DRss K h z.length (List.replicate n zs).flatten (List.replicate n z)
 |0=>by simp[DRss]
 |n+1=>by
  simp only[replicate_succ,DRss,flatten_cons];exact⟨zs,_,rfl,trivial,hz,DRss.replicate hz n⟩
end
def jz(C:Cx)(o:Oper)(a:Act)(w:World)(v:Va)(E:dz)(H:List Ob):Prop :=
 ∃c w',((execOp a.eval o).run C.P w=.ok (.value c) w'∨((execOp a.eval o).run C.P w=.ok .skip w'/\c=undef))/\RelV C E H c v a w'
theorem yK{P:Program}{s:Sem Value}{c:Value}{w w':World}(h:s.run P w=.ok c w'):(do pure (.value (<-s)):Sem Next).run P w=.ok (.value c) w':=by simp[h]
theorem Nb{P:Program}{s:Sem Unit}{w w':World}(h:s.run P w=.ok () w'):(do s;pure .skip:Sem Next).run P w=.ok .skip w':=by simp[h]
theorem Mn.alloc{K:Nat->Prop}{w:World}(hK:∀b,K b->b<w.heap.size)(o:Obj):Mn K K w.heap (w.alloc o).heap:=⟨fun _ h=>h,fun b hb=>heap_alloc_old w o (hK b hb)⟩
theorem Free.zero(n:Nat):Free (0,0) n:=.inl rfl
section
variable {C:Cx} {E:dz} {H:List Ob} {a:Act} {w:World}
theorem Oh(hR:Rel C E H a w){cs:List Value}{vs:List Va}{T:TypeId}(hv:∀K G,jJ K w.heap G a E->VRs K w.heap G cs vs) :
  RelV C E (H++[.cells T vs]) (.pointer (some ⟨w.heap.size,0,none⟩)) (.ptr H.length 0) a (w.alloc (.cells cs.toArray T)):=by
 obtain⟨K,G,hX,hS,hE,hd,hn,hk⟩:=hR;have hvs:=hv K G hE;have hM:=Mn.alloc hS.kb (.cells cs.toArray T)
 have hG:∀(o:Nat) (g:Gh),G[o]?=some g->(G++[⟨some w.heap.size,undef⟩])[o]?=some g:=fun o g hg=>Mg.push G _ o g rfl hg
 refine⟨K,G++[⟨some w.heap.size,undef⟩],hX.trans (Ext.push C.kp _ undef),hS.push (x:=.cells T vs) ?_,fun m=>VR.grow hM hG _ _ (hE m),hd,hn,fun o ho=>?_,?_⟩
 .exact⟨w.heap.size,cs,rfl,heap_alloc_new w _,VRs.grow hM hG _ _ hvs⟩
 .obtain⟨vs',hvs',hkt⟩:=hk o ho
  exact⟨vs',by rw[getElem?_append_left (List.getElem?_eq_some_iff.1 hvs').1];exact hvs',hkt⟩
 .simp only[VR]
  refine⟨⟨some w.heap.size,undef⟩,w.heap.size,?_,rfl,rfl⟩;rw[<-hS.len,getElem?_append_right (Nat.le_refl _)];simp
theorem Fu(hR:Rel C E H a w)(o:Oper){t:TypeId}{x:Operand}(ho:o.op=.box t x)(hok:(pd E H t x).ok):jz C o a w (pd E H t x).v (pd E H t x).E (pd E H t x).H:=by
 obtain⟨h1,h2⟩:=hok;refine⟨_,_,.inl (by simp[execOp,ho,Instr.box,newVar,newRow];exact⟨rfl,rfl⟩),?_⟩;have:=Oh (T:=t) hR (cs:=(a.eval x).cells.toList) (vs:=lw (opnd E x)) (fun K G hE=>Gi (zz hE rfl x h1) h2)
 simpa [pd]using this
theorem Q9{zs:List Value}{sz:Nat}(hz:zs.length=sz):∀(n j:Nat),j<n*sz->(List.replicate n zs).flatten[j]?=zs[j % sz]?
 |0,j,h=>by simp at h
 |n+1,j,h=>by
  simp only[replicate_succ,flatten_cons]
  rcases Nat.lt_or_ge j sz with h1|h1
  .rw[getElem?_append_left (by omega),Nat.mod_eq_of_lt h1]
  .rw[getElem?_append_right (by omega),hz,Q9 hz n (j-sz) (by rw[Nat.add_mul]at h;omega),<-Nat.mod_eq_sub_mod h1]
theorem N4{z:Array Value}{sz:Nat}(hz:z.toList.length=sz)(h0:0<sz)(n:Nat):(madeCells z (n*sz)).toList=(List.replicate n z.toList).flatten:=by
 apply ext_getElem?;intro j
 rcases Nat.lt_or_ge j (n*sz)with h|h
 .rw[Q9 hz n j h]
  have hm:j % sz<z.size:=by have:=Nat.mod_lt j h0;simp at hz;omega
  have hzs:z.size=sz:=by simpa using hz
  simp only[madeCells,Array.toList_map,Array.toList_range,getElem?_map,getElem?_range h,Option.map_some,hzs,Array.getElem?_toList];rw[Array.getElem?_eq_getElem hm,getElem!_pos z _ hm]
 .rw[getElem?_eq_none (by simp[madeCells,h]),getElem?_eq_none]
  have:∀n:Nat,((List.replicate n z.toList).flatten).length=n*sz:=by
   intro n
   induction n with
   |zero=>simp
   |succ n ih=>rw[replicate_succ,flatten_cons,length_append,ih,hz,Nat.add_mul];omega
  rw[this];exact h
theorem QJ{K:Nat->Prop}{h:Array Obj}{G:List Gh}{esz:Nat}:∀{parts:List (Nat×Va)} {ps:List (Nat×Value)} {rows:List (List Dt)} {cs:Array Value} {r:List (List Dt)},
  F2 esz rows parts=some r->DRss K h esz cs.toList rows->(ps.map (·.1)=parts.map (·.1))->(∀(j:Nat) (c:Value) (v:Va),(ps[j]?.map fun x=>x.2)=some c->(parts[j]?.map fun x=>x.2)=some v->VR K h G c v) ->
  ∃cs',Instr.fill (fun i=>some (i*esz,esz)) cs ps=some cs'/\DRss K h esz cs'.toList r/\r.length=rows.length
 |[],ps,rows,cs,r,hf,hc,hp,_=>by
  simp only[F2]at hf;cases hf
  cases ps with
  |nil=>exact⟨cs,rfl,hc,rfl⟩
  |cons a b=>simp at hp
 |(i,v)::parts,ps,rows,cs,r,hf,hc,hp,hv=>by
  cases ps with
  |nil=>simp at hp
  |cons a ps =>
   obtain⟨i',c⟩:=a;simp only[map_cons,List.cons.injEq]at hp;obtain⟨rfl,hp⟩:=hp;simp only[F2]at hf;split at hf
   rotate_left
   .cases hf
   rename_i ds hds
   split at hf
   rotate_left
   .cases hf
   rename_i hcond
   obtain⟨hcell,hlen,hi⟩:=hcond;have hcv:=Gi (hv 0 c v rfl rfl) hcell;have hdd:=yG hcv hds;have hcl:=hdd.length;have hrl:=hc.length;simp only[Array.length_toList]at hcl hrl;obtain⟨_,hrow⟩:=hc.get i' hi
   have hfit:i'*esz+c.cells.size<=cs.size:=by
    rw[hrl,hcl,hlen];have:(i'+1)*esz<=rows.length*esz:=Nat.mul_le_mul_right _ hi;rw[Nat.add_mul]at this;omega
   have hset:=hc.set i' 0 hdd hi (by omega)
   have he:pP (rows.getD i' []) 0 ds=ds:=by simp only[pP];rw[drop_eq_nil_of_le (by omega)];simp
   rw[he,Nat.add_zero]at hset
   have hnext:DRss K h esz (c.cells.zipIdx.foldl (fun cs (c,j)=>cs.setIfInBounds (i'*esz+j) c) cs).toList (rows.set i' ds):=by
    have h1:=NC (i'*esz) c.cells.toList 0 cs (by simp;omega);rw[<-Array.foldl_toList,Array.toList_zipIdx,h1];exact hset
   obtain⟨cs',h1,h2,h3⟩:=QJ hf hnext hp (fun j c v hj hj'=>hv (j+1) c v (by simpa using hj) (by simpa using hj'));refine⟨cs',?_,h2,by simpa using h3⟩;simp only[Instr.fill];rw[if_neg (by simp;omega)];exact h1
end
section
variable {C:Cx} {E:dz} {H:List Ob} {a:Act} {w:World}
theorem GJ(w:World)(g:Nat)(cs:Array Value):∀i,i≠g->(w.setRow g cs).heap[i]?=w.heap[i]?:=fun i h=>setRow_other w g i cs h
theorem vT(hR:Rel C E H a w)(o:Oper){t:TypeId}{x y:Operand}(ho:o.op=.store t x y)(hx:opOk true E x)(hy:opOk true E y)(hok:(B5 C.P E H t (opnd E x) (opnd E y)).ok) :
  jz C o a w (B5 C.P E H t (opnd E x) (opnd E y)).v (B5 C.P E H t (opnd E x) (opnd E y)).E (B5 C.P E H t (opnd E x) (opnd E y)).H:=by
 obtain⟨K,G,hX,hS,hE,hd,hn,hkp⟩:=hR;have hvx:=zz hE rfl x hx;have hvy:=zz hE rfl y hy;unfold B5 at hok|-;split at hok
 rotate_left
 .exact hok.elim
 rename_i ti ht
 split at hok
 .rename_i oo off hox
  split at hok
  rotate_left
  .exact hok.elim
  rename_i T vs hob
  obtain⟨hcell,hone,hsz,hfit⟩:=hok;rw[hox]at hvx;simp only[VR]at hvx;obtain⟨g,b,hg,hgb,hax⟩:=hvx;obtain⟨b',cs,hb',hb,hvs⟩:=hS.ob oo g _ hg (zJ hob (by simp))
  obtain rfl:b'=b:=by rw[hgb]at hb';exact(Option.some.inj hb').symm
  have hcv:=Gi hvy hcell;have hcl:=hcv.length;have hvl:=hvs.length;have hst:=Pe (P:=C.P) b' off T (0,0) (a.eval y).cells.toList 0 cs.toArray w hb (Free.zero _) (by simp at hcl|-;omega) (NK hcv hone)
  have hsize:¬ (a.eval y).cells.size≠ti.size:=by simp at hcl;omega
  have hrun:(Instr.storeAt t (a.eval x) (a.eval y)).run C.P w=.ok () (w.setRow b' (eN cs (off+0) (a.eval y).cells.toList).toArray):=by
   simp only[hax,Instr.storeAt,Instr.sureAddr,Sem.run_bind,Sem.run_pure,Result.andThen_ok,storeVar,Oj w ht,if_neg hsize];exact hst
  refine⟨undef,_,.inr ⟨by obtain⟨dst,op,ty,pos,af,gd⟩:=o;cases ho;exact Nb hrun,rfl⟩,?_⟩;have hMn:Mn K K w.heap (w.setRow b' (eN cs (off+0) (a.eval y).cells.toList).toArray).heap:=⟨fun _ h=>h,fun i hi=>GJ w b' _ i fun e=>(hS.gb oo g b' hg hgb).2 (e ▸ hi)⟩;refine⟨K,G,hX.trans (Ext.modA C.kp hg hgb rfl rfl rfl (by simp) (GJ w b' _)),hS.modA hg hgb (by simp) (GJ w b' _) ?_,fun m=>VR.grow hMn (fun _ _ h=>h) _ _ (hE m),hd,hn,fun i hi=>?_,by simp only[VR]⟩
  .exact⟨b',_,hgb,setRow_heap w b' _ _ T (0,0) hb,VRs.grow hMn (fun _ _ h=>h) _ _ (hvs.setR off hcv hfit)⟩
  .by_cases e:i=oo
   .subst e
    have:i<H.length:=by rw[<-hS.len];exact(List.getElem?_eq_some_iff.1 hg).1
    exact⟨_,getElem?_set_self this,rfl⟩
   .obtain⟨vs',h,hkt⟩:=hkp i hi
    exact⟨vs',by rw[getElem?_set_ne (Ne.symm e)];exact h,hkt⟩
 .rename_i oo sz i off hox
  split at hok
  rotate_left
  .exact hok.elim
  rename_i T sz' rows fx hob
  split at hok
  rotate_left
  .exact hok.elim
  rename_i ds hds
  obtain⟨hcell,hone,hsz,rfl,hi,hfit⟩:=hok;rw[hox]at hvx;simp only[VR]at hvx;obtain⟨g,b,n,cap,hg,hgb,hsv,hax⟩:=hvx;obtain⟨hlim,xs,hxs,hh⟩:=hS.bufOb hob hg
  rcases hh with⟨_,_,h3⟩|⟨b',cap',cur,fr,h1,h2,hb,hfr,h4,h5,h6,h7⟩
  .rw[hgb]at h3;cases h3
  obtain rfl:b'=b:=by rw[hgb]at h2;exact(Option.some.inj h2).symm
  have hcv:=Gi hvy hcell;have hdd:=yG hcv hds;have hcl:=hdd.length;have hxl:=hxs.length
  have hpos:i*sz+off+(a.eval y).cells.toList.length<=rows.length*sz:=by
   have:(i+1)*sz<=rows.length*sz:=Nat.mul_le_mul_right _ hi;rw[Nat.add_mul]at this;omega
  have hcur:rows.length*sz<=cur.size:=by rw[h6];exact Nat.mul_le_mul_right _ h4
  have hst:=Pe (P:=C.P) b' (i*sz+off) T fr (a.eval y).cells.toList 0 cur w hb hfr (by omega) (NK hcv hone)
  have hsize:¬ (a.eval y).cells.size≠ti.size:=by simp at hcl;omega
  have hrun:(Instr.storeAt t (a.eval x) (a.eval y)).run C.P w=.ok () (w.setRow b' (eN cur.toList (i*sz+off+0) (a.eval y).cells.toList).toArray):=by
   simp only[hax,Instr.storeAt,Instr.sureAddr,Sem.run_bind,Sem.run_pure,Result.andThen_ok,storeVar,Oj w ht,if_neg hsize];exact hst
  refine⟨undef,_,.inr ⟨by obtain⟨dst,op,ty,pos,af,gd⟩:=o;cases ho;exact Nb hrun,rfl⟩,?_⟩;have hMn:Mn K K w.heap (w.setRow b' (eN cur.toList (i*sz+off+0) (a.eval y).cells.toList).toArray).heap:=⟨fun _ h=>h,fun i hi=>GJ w b' _ i fun e=>(hS.gb oo g b' hg hgb).2 (e ▸ hi)⟩;refine⟨K,G,hX.trans (Ext.modA C.kp hg hgb rfl rfl rfl (by simp) (GJ w b' _)),hS.modA hg hgb (by simp) (GJ w b' _) ?_,fun m=>VR.grow hMn (fun _ _ h=>h) _ _ (hE m),hd,hn,fun i hi=>?_,by simp only[VR]⟩
  .have hlen:(eN cur.toList (i*sz+off) (a.eval y).cells.toList).length=cur.size:=by rw[Iu _ _ _ (by simp at hpos|-;omega)];simp
   have hrl:(rows.getD i []).length=sz:=MT hxs _ (by rw[getD_eq_getElem?_getD,getElem?_eq_getElem hi];exact getElem_mem hi);rw[l8];refine⟨by simpa using hlim,_,DRss.mono hMn _ _ _ (by rw[tH hrl];exact hxs.set i off hdd hi (by omega)),.inr ⟨b',cap',_,fr,by rw[length_set];exact h1,hgb,setRow_heap w b' _ _ T fr hb,?_,by rw[length_set];exact h4,h5,?_,?_⟩⟩
   .simp only[Nat.add_zero,size_toArray,hlen];exact hfr
   .simp only[Nat.add_zero,size_toArray,hlen];exact h6
   .simp only[Nat.add_zero,length_set]
    rw[<-h7,yM _ _ _ (by simp at hpos|-;omega),yM _ _ _ (by simp at hpos hcur|-;omega)];simp only[Array.length_toList];rw[take_append,take_of_length_le (by simp;omega)];simp only[length_append,length_take,Array.length_toList];rw[take_take,drop_take]
    congr 1
    .rw[Nat.min_eq_left (by omega)]
    .congr 1
     simp at hpos;omega
  .by_cases e:i=oo
   .subst e
    obtain⟨vs',h,hkt⟩:=hkp i hi
    rw[N9 hob]at h;cases h
    refine⟨_,getElem?_set_self (by rw[<-hS.len];exact(List.getElem?_eq_some_iff.1 hg).1),?_⟩;cases fx
    .cases hkt
    .rfl
   .obtain⟨vs',h,hkt⟩:=hkp i hi
    exact⟨vs',by rw[getElem?_set_ne (Ne.symm e)];exact h,hkt⟩
 .exact hok.elim
theorem HM{K:Nat->Prop}{G:List Gh}(hX:Ext C.kp C.K0 C.G0 C.w0 K G w)(hS:St K G H w)(hE:jJ K w.heap G a E)(hd:a.defers=[])(hnn:a.tmps.size=C.n)(hk:fE C.kp H){w1:World}(hw1:w1=w∨w1=w.drew){cs:Array Value}{T:TypeId}{fr:Nat×Nat}{sz n cap:Nat}{rows:List (List Dt)}{xs:List Value}
  (hx:DRss K w.heap sz xs rows) (hn:rows.length=n) (hlim:n<=dJ) (hfr:Free fr cs.size) (hle:n<=cap) (hcap:cap<=maxLen) (hcs:cs.size=cap*sz) (htake:cs.toList.take (n*sz)=xs) :
  RelV C E (H++[.buf T sz rows]) (.slice (some ⟨w.heap.size,0,none⟩) n cap) (.buf H.length) a (w1.alloc (.cells cs T fr)):=by
 subst hn
 have hS1:St K G H w1:=by
  rcases hw1 with rfl|rfl
  .exact hS
  .exact⟨hS.len,hS.kb,hS.gb,hS.inj,hS.ob,hS.tb⟩
 have hh1:w1.heap=w.heap:=by rcases hw1 with rfl|rfl <;> rfl
 have hX1:Ext C.kp C.K0 C.G0 C.w0 K G w1:=by
  rcases hw1 with rfl|rfl
  .exact hX
  .exact { hX with }
 have hsz1:w1.heap.size=w.heap.size:=by rw[hh1]
 have hM:Mn K K w.heap (w1.alloc (.cells cs T fr)).heap:=⟨fun _ h=>h,fun b hb=>by rw[heap_alloc_old w1 _ (by rw[hsz1];exact hS.kb b hb),hh1]⟩
 have hG:∀(o:Nat) (g:Gh),G[o]?=some g->(G++[⟨some w1.heap.size,.slice (some ⟨w.heap.size,0,none⟩) rows.length cap⟩])[o]?=some g:=fun o g hg=>Mg.push G _ o g rfl hg
 refine⟨K,G++[⟨some w1.heap.size,.slice (some ⟨w.heap.size,0,none⟩) rows.length cap⟩],hX1.trans (Ext.push C.kp _ _),hS1.push (x:=.buf T sz rows) ?_,fun m=>VR.grow hM hG _ _ (hE m),hd,hnn,fun o ho=>?_,?_⟩
 .exact⟨hlim,xs,DRss.mono hM _ _ _ hx,.inr ⟨w.heap.size,cap,cs,fr,rfl,by rw[hsz1],by rw[<-hsz1];exact heap_alloc_new w1 _,hfr,hle,hcap,hcs,htake⟩⟩
 .obtain⟨vs',hvs',hkt⟩:=hk o ho
  exact⟨vs',by rw[getElem?_append_left (List.getElem?_eq_some_iff.1 hvs').1];exact hvs',hkt⟩
 .simp only[VR]
  refine⟨⟨some w1.heap.size,.slice (some ⟨w.heap.size,0,none⟩) rows.length cap⟩,?_,rfl,_,_,_,rfl⟩;rw[<-hS.len,getElem?_append_right (Nat.le_refl _)];simp
set_option linter.unusedVariables false in
theorem wt{K:Nat->Prop}{G:List Gh}(hX:Ext C.kp C.K0 C.G0 C.w0 K G w)(hS:St K G H w)(hE:jJ K w.heap G a E)(hd:a.defers=[])(hnn:a.tmps.size=C.n)(hk:fE C.kp H){w1:World}(hw1:w1=w∨w1=w.drew){cs:Array Value}{T:TypeId}{fr:Nat×Nat}{sz n cap:Nat}{rows:List (List Dt)}{xs:List Value}
  (hx:DRss K w.heap sz xs rows) (hn:rows.length=n) (hlim:n<=dJ) (hfr:Free fr cs.size) (hle:n<=cap) (hcap:cap<=maxLen) (hcs:cs.size=cap*sz) (htake:cs.toList.take (n*sz)=xs) :
  RelV C E H (.slice (some ⟨w.heap.size,0,none⟩) n cap) (.p (.l rows)) a (w1.alloc (.cells cs T fr)):=by
 subst hn
 have hS1:St K G H w1:=by
  rcases hw1 with rfl|rfl
  .exact hS
  .exact⟨hS.len,hS.kb,hS.gb,hS.inj,hS.ob,hS.tb⟩
 have hh1:w1.heap=w.heap:=by rcases hw1 with rfl|rfl <;> rfl
 have hX1:Ext C.kp C.K0 C.G0 C.w0 K G w1:=by
  rcases hw1 with rfl|rfl
  .exact hX
  .exact { hX with }
 have hsz1:w1.heap.size=w.heap.size:=by rw[hh1]
 have hM:Mn K (fun b=>K b∨b=w1.heap.size) w.heap (w1.alloc (.cells cs T fr)).heap:=⟨fun _ h=>.inl h,fun b hb=>by rw[heap_alloc_old w1 _ (by rw[hsz1];exact hS.kb b hb),hh1]⟩;refine⟨fun b=>K b∨b=w1.heap.size,G,hX1.trans (Ext.pushK C.kp _),hS1.pushK _,fun m=>VR.grow hM (fun _ _ h=>h) _ _ (hE m),hd,hnn,hk,?_⟩;simp only[VR,DR];refine .inr ⟨w.heap.size,0,cap,cs,T,fr,sz,xs,rfl,.inr (by rw[hsz1]),by rw[<-hsz1];exact heap_alloc_new w1 _,hle,hlim,fun j v hj=>?_,DRss.mono hM _ _ _ hx⟩;rw[Nat.zero_add,<-Array.getElem?_toList];have hlt:=(List.getElem?_eq_some_iff.1 hj).1;rw[<-htake]at hj hlt;rw[length_take]at hlt;rw[getElem?_take_of_lt (by omega)]at hj;exact hj
theorem lg{K:Nat->Prop}{h:Array Obj}{k:IntKind}:∀{zs:List Value},yj k zs=true->DRss K h 1 zs (List.replicate zs.length [.i k 0])
 |[],_=>by simp[DRss]
 |z::zs,hz=>by
  cases z <;> simp only[yj]at hz <;> try (cases hz)
  rename_i k' n
  simp only[Bool.and_eq_true,decide_eq_true_eq]at hz;obtain⟨⟨rfl,rfl⟩,hz⟩:=hz;simp only[length_cons,replicate_succ,DRss];refine⟨[_],zs,rfl,rfl,?_,lg hz⟩;simp only[DRs,DR];exact⟨_,[],rfl,⟨rfl,cr k'⟩,rfl⟩
theorem dc{T:TypeId}{sz n cap:Nat}{rows:List (List Dt)}{b o:Nat}(h:RelV C E H (.slice (some ⟨b,0,none⟩) n cap) (.buf o) a w)(ho:H[o]?=some (.buf T sz rows))(h0:0<n):RelV C E H (.pointer (some ⟨b,0,none⟩)) (.ptr o 0) a w:=by
 obtain⟨K,G,h1,hS,h3,h4,h5,h6,hv⟩:=h;refine⟨K,G,h1,hS,h3,h4,h5,h6,?_⟩;simp only[VR]at hv|-;obtain⟨g,hg,hsv,_⟩:=hv;obtain⟨hlim,xs,hxs,hh⟩:=hS.ob _ g _ hg ho
 rcases hh with⟨⟨a',h1⟩,_,_⟩|⟨b',cap2,cur,fr,hsv2,hgb,_⟩
 .rw[<-hsv]at h1;cases h1;omega
 .rw[<-hsv]at hsv2
  cases hsv2;exact⟨g,b,hg,hgb,rfl⟩
theorem yi(hR:Rel C E H a w)(o:Oper){t:TypeId}(ho:o.op=.alloc t)(hok:(B1 C.P E H t).ok):jz C o a w (B1 C.P E H t).v (B1 C.P E H t).E (B1 C.P E H t).H:=by
 unfold B1 at hok|-;split at hok
 rotate_left
 .exact hok.elim
 rename_i ti ht
 obtain⟨z,hz,hzc⟩:=Rt w ht;refine⟨_,_,.inl (by simp[execOp,ho,Instr.alloc,hz,newVar,newRow];exact⟨rfl,rfl⟩),?_⟩;split at hok
 .rename_i k n hka
  obtain⟨h1,h2,h3⟩:=hok;obtain⟨K,G,hX,hS,hE,hd,hnn,hkp⟩:=hR
  have hn:8<n:=by
   unfold ya at hka;split at hka
   .split at hka
    .rename_i hh
     cases hb:decide (8<_) <;> rw[hb]at hka <;> simp only[cond_true,cond_false]at hka <;> cases hka
     exact of_decide_eq_true hb
    .cases hka
   .cases hka
  have hsz:z.cells.size=n:=by rw[<-Array.length_toList,hzc,h2]
  unfold dJ at h3;refine dc (n:=n) (cap:=n) (T:=t) (sz:=1) (rows:=List.replicate n [.i k 0]) ?_ (by simp) (by omega);refine HM (w1:=w) hX hS hE hd hnn hkp (.inl rfl) (xs:=ti.zero) ?_ (by simp) (by unfold dJ;omega) (Free.zero _) (Nat.le_refl _) (by simp only[maxLen];omega) (by omega) (by rw[hzc];exact take_of_length_le (by omega))
  rw[<-h2];exact lg h1
 have:=Oh (T:=t) hR (cs:=z.cells.toList) (vs:=ti.zero.map cv) (fun K G _=>by rw[hzc];exact Dw hok)
 simpa using this
theorem ur(hR:Rel C E H a w)(o:Oper){s d:TypeId}{x:Operand}(ho:o.op=.convert s d x)(hx:opOk true E x)(hok:(B9 C.P E H s d (opnd E x)).ok) :
  jz C o a w (B9 C.P E H s d (opnd E x)).v (B9 C.P E H s d (opnd E x)).E (B9 C.P E H s d (opnd E x)).H:=by
 have hvx:∀K G,jJ K w.heap G a E->VR K w.heap G (a.eval x) (opnd E x):=fun K G hE=>zz hE rfl x hx
 unfold B9 at hok|-;split at hok
 rotate_left
 .exact hok.elim
 rename_i e esz eb ez l hks hkd hxx
 split at hok
 rotate_left
 .exact hok.elim
 rename_i hke
 obtain rfl:esz=1:=hok;obtain⟨ti1,ht1,hk1⟩:=zH hks (by simp);obtain⟨ti2,ht2,hk2⟩:=zH hkd (by simp);obtain⟨ti3,ht3,hk3⟩:=zH hke (by simp);obtain⟨K,G,hX,hS,hE,hd,hnn,hkp⟩:=hR;have hl:=hvx K G hE;rw[hxx]at hl;simp only[VR,DR]at hl;obtain⟨hax,hlim⟩:=hl;have hrun:=run_bytes_of_string (P:=C.P) w s d e ⟨l.toArray⟩ (Dd ht1 hk1) (lD ht2 hk2).1 (iU ht3 hk3)
 have hsz:(⟨l.toArray⟩:ByteArray).size=l.length:=by simp[ByteArray.size]
 rw[hsz]at hrun;have hge:=grownCap_ge w l.length 0 e;have hcm:=grownCap_le_maxLen w l.length 0 e (by simp only[maxLen];unfold dJ at hlim;omega)
 have hbs:(bytesRow ⟨l.toArray⟩ (grownCap w l.length 0 e)).size=grownCap w l.length 0 e:=by simp[bytesRow,ByteArray.size];omega
 refine⟨_,_,.inl (by obtain⟨dst,op,ty,pos,af,gd⟩:=o;cases ho;exact yK (by rw[hax];exact hrun)),?_⟩;refine HM (w1:=w.drew) hX hS hE hd hnn hkp (.inr rfl) (xs:=l.map fun b=>Value.int .u8 b.toNat) (DRss.bytes l) (uy l) hlim ?_ hge hcm (by rw[hbs];omega) ?_
 .right
  simp only;omega
 .simp only[bytesRow,Nat.mul_one,Array.toList_append,Array.toList_map]
  rw[take_append_of_le_length (by simp)];exact take_of_length_le (by simp)
theorem oB{fr:Nat×Nat}{n:Nat}(h:Free fr n):Free (if fr.1 == fr.2 then(n,n+1)else(min fr.1 n,max fr.2 (n+1))) n:=by
 by_cases e:fr.1=fr.2
 .simp[e,Free]
 .rcases h with h|h
  .exact absurd h e
  .have:(fr.1 == fr.2)=false:=by simpa using e
   rw[this];simp only[Bool.false_eq_true,if_false,Free];right;omega
theorem AX(hR:Rel C E H a w)(o:Oper){s d:TypeId}{x:Operand}{oo:Nat}(ho:o.op=.convert s d x)(hx:opOk true E x)(hox:opnd E x=.buf oo)(hok:(g9 C.P E H s d oo).ok) :
  jz C o a w (g9 C.P E H s d oo).v (g9 C.P E H s d oo).E (g9 C.P E H s d oo).H:=by
 obtain⟨K,G,hX,hS,hE,hd,hn,hkp⟩:=hR;have hvx:=zz hE rfl x hx;rw[hox]at hvx;unfold g9 at hok|-;split at hok
 rotate_left
 .exact hok.elim
 rename_i e1 s1 b1 z1 e esz eb ez T sz rows hks hkd hob
 split at hok
 rotate_left
 .exact hok.elim
 rename_i hke
 obtain⟨rfl,hpos⟩:=hok;obtain⟨ti2,ht2,hk2⟩:=zH hkd (by simp);obtain⟨ti3,ht3,hk3⟩:=zH hke (by simp);have hu2:=(lD ht2 hk2).1;have hu3:=iU ht3 hk3;have hvx':=hvx;simp only[VR]at hvx;obtain⟨g,hg,hax,ad,m,cp,hsv0⟩:=hvx;have hob':=zJ hob (by simp);obtain⟨hlim,xs,hxs,hh⟩:=hS.ob oo g _ hg hob'
 rcases hh with⟨_,h,_⟩|⟨b,cap,cur,fr,hsv,hgb,hb,hfr,h4,h5,h6,h7⟩
 .subst h;simp at hpos
 have hsh:w.shape? b=some (T,cur.size):=by simp[World.shape?,hb]
 have hb':(w.freeze ⟨b,cur.size,none⟩ 1).heap[b]?=some (.cells cur T (if fr.1 == fr.2 then(cur.size,cur.size+1)else(min fr.1 cur.size,max fr.2 (cur.size+1)))):=by
  obtain⟨f1,f2⟩:=fr;simp[World.freeze,Array.getElem?_modify,hb]
 have hfr':∀i,i≠b->(w.freeze ⟨b,cur.size,none⟩ 1).heap[i]?=w.heap[i]?:=by
  intro i hi;simp[World.freeze,Array.getElem?_modify,Ne.symm hi]
 have hsz:(w.freeze ⟨b,cur.size,none⟩ 1).heap.size=w.heap.size:=by simp[World.freeze]
 have hos:(w.freeze ⟨b,cur.size,none⟩ 1).os=w.os/\(w.freeze ⟨b,cur.size,none⟩ 1).tape=w.tape/\(w.freeze ⟨b,cur.size,none⟩ 1).output=w.output:=by simp[World.freeze]
 have hMn:Mn K K w.heap (w.freeze ⟨b,cur.size,none⟩ 1).heap:=⟨fun _ h=>h,fun i hi=>hfr' i fun e=>(hS.gb oo g b hg hgb).2 (e ▸ hi)⟩
 have hset:H.set oo (.buf T sz rows)=H:=by
  obtain⟨hl,he⟩:=List.getElem?_eq_some_iff.1 hob';rw[<-he];exact set_getElem_self hl
 have hS':=hS.modA (x:=.buf T sz rows) hg hgb hsz hfr' ⟨hlim,xs,DRss.mono hMn _ _ _ hxs,.inr ⟨b,cap,cur,_,hsv,hgb,hb',oB hfr,h4,h5,h6,h7⟩⟩;rw[hset]at hS'
 have hrun:(convert s s (a.eval x)).run C.P w=.ok (a.eval x) (w.freeze ⟨b,cur.size,none⟩ 1):=by
  rw[hax,hsv];simp[convert,run_underlying hu2,run_underlying hu3,markStringish,hsh]
 refine⟨a.eval x,w.freeze ⟨b,cur.size,none⟩ 1,.inl (by obtain⟨dst,op,ty,pos,af,gd⟩:=o;cases ho;exact yK hrun),K,G,hX.trans (Ext.modA C.kp hg hgb hos.1 hos.2.1 hos.2.2 hsz hfr'),hS',fun m=>VR.grow hMn (fun _ _ h=>h) _ _ (hE m),hd,hn,hkp,VR.grow hMn (fun _ _ h=>h) _ _ hvx'⟩
theorem xS(hR:Rel C E H a w)(o:Oper){s d:TypeId}{x:Operand}(ho:o.op=.convert s d x)(hx:opOk true E x)(hok:(B2 C.P E H s d (opnd E x)).ok) :
  jz C o a w (B2 C.P E H s d (opnd E x)).v (B2 C.P E H s d (opnd E x)).E (B2 C.P E H s d (opnd E x)).H:=by
 have h0:=fun hok=>ur (s:=s) (d:=d) hR o ho hx hok
 cases hox:opnd E x <;> simp only[hox,B2]at hok h0|- <;> first|exact h0 hok|exact AX hR o ho hx hox hok
theorem Bb(hR:Rel C E H a w)(o:Oper){t:TypeId}{x y:Operand}(ho:o.op=.makeSlice t x y)(hx:opOk true E x)(hy:opOk true E y)(hok:(hO C.P E H t (opnd E x) (opnd E y)).ok) :
  jz C o a w (hO C.P E H t (opnd E x) (opnd E y)).v (hO C.P E H t (opnd E x) (opnd E y)).E (hO C.P E H t (opnd E x) (opnd E y)).H:=by
 have hvx:∀K G,jJ K w.heap G a E->VR K w.heap G (a.eval x) (opnd E x):=fun K G hE=>zz hE rfl x hx
 have hvy:∀K G,jJ K w.heap G a E->VR K w.heap G (a.eval y) (opnd E y):=fun K G hE=>zz hE rfl y hy
 unfold hO at hok|-;split at hok
 rotate_left
 .exact hok.elim
 rename_i e esz eb ez hk
 split at hok
 rotate_left
 .exact hok.elim
 rename_i z kl n kc m hz hxx hyy
 obtain⟨hzk,hel,h0,hn0,hnm,hml,heb⟩:=hok;obtain⟨ti,ht,hk'⟩:=zH hk (by simp);obtain⟨hu,⟨i,hi1,hi2,hi3⟩,hez⟩:=lD ht hk';obtain⟨K,G,hX,hS,hE,hd,hnn,hkp⟩:=hR;have hl:=hvx K G hE;have hm:=hvy K G hE;rw[hxx]at hl;rw[hyy]at hm;simp only[VR,DR]at hl hm
 have hzi:∃zv,i.zero=some zv/\zv.cells.toList=ez:=by
  unfold y7 at hez;rw[hi1]at hez;simp at hez;exact hez
 obtain⟨zv,hzv,hzc⟩:=hzi;unfold dJ at hml
 have hbytes:(i.bytes:Int)*m<=281474976710656:=by
  rw[hi3];have h1:(eb:Int)*m<=512*m:=Int.mul_le_mul_of_nonneg_right (by omega) (by omega);omega
 have hrun:=run_make (P:=C.P) w t e i zv hu hi1 hzv kl kc n m hn0 hnm hbytes (by omega);rw[hi2]at hrun;refine⟨_,_,.inl (by obtain⟨dst,op,ty,pos,af,gd⟩:=o;cases ho;exact yK (by rw[hl.1,hm.1];exact hrun)),?_⟩;have hmade:=N4 (z:=zv.cells) (by rw[hzc];exact hel) h0 m.toNat
 have hlenrep:∀n:Nat,((List.replicate n zv.cells.toList).flatten).length=n*esz:=by
  intro n
  induction n with
  |zero=>simp
  |succ n ih=>rw[replicate_succ,flatten_cons,length_append,ih,hzc,hel,Nat.add_mul];omega
 refine HM (w1:=w) hX hS hE hd hnn hkp (.inl rfl) (xs:=(List.replicate n.toNat zv.cells.toList).flatten) ?_ (by simp) (by unfold dJ;omega) (Free.zero _) (by omega) (by simp only[maxLen];omega) (size_madeCells _ _) ?_
 .have hzd:DRs K w.heap ez z:=yG (Dw (G:=G) hzk) hz
  have hzl:=hzd.length;have:=DRss.replicate hzd n.toNat;rw[hzc]
  rwa [show z.length=esz by omega]at this
 .rw[hmade]
  have:m.toNat=n.toNat+(m.toNat-n.toNat):=by omega
  rw[this,<-replicate_append_replicate,flatten_append,take_append_of_le_length (by rw[hlenrep];exact Nat.le_refl _)];exact take_of_length_le (by rw[hlenrep];exact Nat.le_refl _)
theorem Qf{K:Nat->Prop}{h:Array Obj}{G:List Gh}:∀{parts:List (Nat×Va)} {ps:List (Nat×Value)} {i:Nat} {cs:Array Value} {vs:List Va},
  tK i parts=some vs->(ps.map (·.1)=parts.map (·.1))->(∀(j:Nat) (c:Value) (v:Va),(ps[j]?.map fun x=>x.2)=some c->(parts[j]?.map fun x=>x.2)=some v->VR K h G c v)->i+vs.length=cs.size ->
  ∃cs',Instr.fill (fun i=>some (i*1,1)) cs ps=some cs'/\∃xs,cs'.toList=cs.toList.take i++xs/\VRs K h G xs vs
 |[],ps,i,cs,vs,hf,hp,_,hl=>by
  simp only[tK]at hf;cases hf
  cases ps with
  |nil=>exact⟨cs,rfl,[],by rw[append_nil,take_of_length_le (by simp at hl;simp[hl])],by simp only[VRs]⟩
  |cons a b=>simp at hp
 |(j,v)::parts,ps,i,cs,vs,hf,hp,hv,hl=>by
  cases ps with
  |nil=>simp at hp
  |cons a ps =>
   obtain⟨j',c⟩:=a;simp only[map_cons,List.cons.injEq]at hp;obtain⟨rfl,hp⟩:=hp;simp only[tK]at hf;cases hcd:decide (j'=i)&&(v.isCell&&!qV v)
   .rw[hcd]at hf;cases hf
   rw[hcd,cond_true]at hf;simp only[Bool.and_eq_true,decide_eq_true_eq,Bool.not_eq_true']at hcd;obtain⟨rfl,hcell,hna⟩:=hcd;split at hf
   rotate_left
   .cases hf
   rename_i vs' hvs
   cases hf;simp only[length_cons]at hl;have h0:VR K h G c v:=hv 0 c v rfl rfl;have h1:c.oneCell'=true:=h0.one hcell (fun us e=>by subst e;cases hna)
   have hcc:c.cells=#[c]:=by cases c <;> first|rfl|cases h1
   obtain⟨cs',e1,xs,e2,e3⟩:=Qf (cs:=cs.setIfInBounds j' c) hvs hp (fun k c v hk hk'=>hv (k+1) c v (by simpa using hk) (by simpa using hk')) (by simp;omega);refine⟨cs',?_,c::xs,?_,?_⟩
   .simp only[Instr.fill,hcc]
    rw[if_neg (by simp;omega)]
    simpa using e1
   .rw[e2,Array.toList_setIfInBounds]
    have hj:j'<cs.toList.length:=by simp;omega
    rw[take_add_one,getElem?_set_self hj,take_set_of_le (Nat.le_refl _)];simp
   .simp only[VRs]
    exact⟨c,xs,rfl,h0,e3⟩
theorem BO(hR:Rel C E H a w)(o:Oper){t:TypeId}{n:Nat}{ps:Array (Nat×Operand)}(ho:o.op=.buildSlice t n ps)(hok:(hU C.P E H t n ps.toList).ok) :
  jz C o a w (hU C.P E H t n ps.toList).v (hU C.P E H t n ps.toList).E (hU C.P E H t n ps.toList).H:=by
 unfold hU at hok|-;split at hok
 rotate_left
 .exact hok.elim
 rename_i e esz eb ez hk
 split at hok
 rotate_left
 .exact hok.elim
 rename_i vs hvs
 obtain⟨hps,hel,hz1,h0,hsm,hln⟩:=hok;obtain⟨ti,ht,hk'⟩:=zH hk (by simp);obtain⟨hu,⟨i,hi1,hi2,hi3⟩,hez⟩:=lD ht hk';have hR0:=hR;obtain⟨K,G,hX,hS,hE,hd,hn,hkp⟩:=hR
 have hzv:∃zv,(zeroValue e).run C.P w=.ok zv w/\zv.cells.toList=ez:=by
  unfold y7 at hez;rw[hi1]at hez;simp at hez;obtain⟨zv,hz1,hz2⟩:=hez;exact⟨zv,by simp[zeroValue,typeInfo,hi1,hz1],hz2⟩
 obtain⟨zv,hzr,hzc⟩:=hzv
 have hlen:(madeCells zv.cells (n*esz)).size=n:=by simp[madeCells,hz1]
 have hfl:∀K' G',jJ K' w.heap G' a E->∃cs',Instr.fill (fun i=>some (i*esz,esz)) (madeCells zv.cells (n*esz)) (ps.map fun x=>(x.1,a.eval x.2)).toList=some cs'/\VRs K' w.heap G' cs'.toList vs:=by
  intro K' G' hE';obtain⟨hp1,hp2⟩:=Lg hE' rfl ps.toList hps;obtain⟨cs',e1,xs,e2,e3⟩:=Qf (cs:=madeCells zv.cells (n*esz)) (ps:=(ps.map fun x=>(x.1,a.eval x.2)).toList) hvs (by simpa using hp1) (by simpa using hp2) (by rw[hlen,hln,Nat.zero_add]);refine⟨cs',by subst hz1;exact e1,?_⟩;rw[e2,take_zero,nil_append];exact e3
 obtain⟨cs',hf,hvv⟩:=hfl K G hE;have hes:(sizeOf e).run C.P w=.ok esz w:=pY (by simp[jG,hi1,hi2])
 have hsm':¬ (n*esz > 2^24):=by omega
 have hrun:(Instr.buildSlice t n (ps.map fun x=>(x.1,a.eval x.2))).run C.P w=.ok (.slice (some ⟨w.heap.size,0,none⟩) n n) (w.alloc (.cells cs' e)):=by
  have hnz:∀z':Array Value,z'.toList=ez->(Array.range (n*esz)).map (fun x=>z'[x % z'.size]!)=madeCells z' (n*esz):=fun _ _=>rfl
  have hn0:¬ n*esz=0:=by rw[hz1];omega
  simp only[Instr.buildSlice,run_underlying hu,hes,Sem.run_bind,Result.andThen_ok,if_neg hsm',Sem.run_pure,if_neg hn0,hzr,hnz _ hzc,hf,newRow,run_newObj];rfl
 refine⟨_,_,.inl (by obtain⟨dst,op,ty,pos,af,gd⟩:=o;cases ho;exact yK hrun),?_⟩
 obtain⟨K',G',hX',hS',hE',hd',hn',hk',hv'⟩:=Oh (T:=e) hR0 (cs:=cs'.toList) (vs:=vs) (fun K' G' hE'=>by
  obtain⟨cs2,hf2,hv2⟩:=hfl K' G' hE';rw[hf]at hf2;cases hf2
  exact hv2)
 refine⟨K',G',hX',by simpa using hS',by simpa using hE',hd',hn',hk',?_⟩;simp only[VR]at hv'|-;obtain⟨g,b,h1,h2,h3⟩:=hv';refine⟨g,b,h1,h2,?_⟩;simp only[Value.pointer.injEq,Option.some.injEq,Addr.mk.injEq]at h3;rw[h3.1]
theorem Ft(hR:Rel C E H a w)(o:Oper){t:TypeId}{n:Nat}{ps:Array (Nat×Operand)}(ho:o.op=.buildSlice t n ps)(hok:(pc C.P E H t n ps.toList).ok) :
  jz C o a w (pc C.P E H t n ps.toList).v (pc C.P E H t n ps.toList).E (pc C.P E H t n ps.toList).H:=by
 unfold pc at hok|-;cases hpsl:A4 C.P t
 rotate_left
 .rw[hpsl,cond_true]at hok
  rw[cond_true];exact BO hR o ho hok
 rw[hpsl,cond_false]at hok;rw[cond_false];split at hok
 rotate_left
 .exact hok.elim
 rename_i e esz eb ez hk
 split at hok
 rotate_left
 .exact hok.elim
 rename_i z hz
 split at hok
 rotate_left
 .exact hok.elim
 rename_i rows hrows
 have hok':partsOk true E ps.toList/\uX ez/\ez.length=esz/\0<esz/\n*esz<=16777216/\n<=dJ:=by
  cases hb:wD C.P e n <;> simpa only[hb,cond_true,cond_false]using hok
 clear hok;obtain⟨hps,hzk,hel,h0,hsm,hlim⟩:=hok';obtain⟨ti,ht,hk'⟩:=zH hk (by simp);obtain⟨hu,⟨i,hi1,hi2,hi3⟩,hez⟩:=lD ht hk';obtain⟨K,G,hX,hS,hE,hd,hn,hkp⟩:=hR
 -- the zero
 have hzv:∃zv,(zeroValue e).run C.P w=.ok zv w/\zv.cells.toList=ez:=by
  unfold y7 at hez;rw[hi1]at hez;simp at hez;obtain⟨zv,hz1,hz2⟩:=hez;exact⟨zv,by simp[zeroValue,typeInfo,hi1,hz1],hz2⟩
 obtain⟨zv,hzr,hzc⟩:=hzv;have hzd:DRs K w.heap ez z:=yG (Dw (G:=G) hzk) hz;have hzl:=hzd.length
 have hrep:DRss K w.heap esz (madeCells zv.cells (n*esz)).toList (List.replicate n z):=by
  rw[N4 (by rw[hzc];exact hel) h0,hzc];have:=DRss.replicate hzd n
  rwa [show z.length=esz by omega]at this
 obtain⟨hp1,hp2⟩:=Lg hE rfl ps.toList hps;obtain⟨cs',hf,hrd,hrl⟩:=QJ (ps:=(ps.map fun x=>(x.1,a.eval x.2)).toList) hrows hrep (by simpa using hp1) (by simpa using hp2);have hes:(sizeOf e).run C.P w=.ok esz w:=pY (by simp[jG,hi1,hi2])
 have hsm':¬ (n*esz > 2^24):=by omega
 have hrun:(Instr.buildSlice t n (ps.map fun x=>(x.1,a.eval x.2))).run C.P w=.ok (.slice (some ⟨w.heap.size,0,none⟩) n n) (w.alloc (.cells cs' e)):=by
  have hnz:∀z':Array Value,z'.toList=ez->(Array.range (n*esz)).map (fun x=>z'[x % z'.size]!)=madeCells z' (n*esz):=fun _ _=>rfl
  by_cases hn0:n*esz=0
  .have hcs0:(Array.range (n*esz)).map (fun x=>(#[]:Array Value)[x % (#[]:Array Value).size]!)=madeCells zv.cells (n*esz):=by rw[hn0];apply Array.ext';simp[madeCells]
   simp only[Instr.buildSlice,run_underlying hu,hes,Sem.run_bind,Result.andThen_ok,if_neg hsm',Sem.run_pure,if_pos hn0,hcs0,hf,newRow,run_newObj];rfl
  .simp only[Instr.buildSlice,run_underlying hu,hes,Sem.run_bind,Result.andThen_ok,if_neg hsm',Sem.run_pure,if_neg hn0,hzr,hnz _ hzc,hf,newRow,run_newObj]
   rfl
 have hlen:rows.length=n:=by simpa using hrl
 refine⟨_,_,.inl (by obtain⟨dst,op,ty,pos,af,gd⟩:=o;cases ho;exact yK hrun),?_⟩;cases hb:wD C.P e n
 rotate_left
 .simp only[cond_true]
  have hcl:=hrd.length;simp only[Array.length_toList]at hcl;exact HM (w1:=w) hX hS hE hd hn hkp (.inl rfl) (xs:=cs'.toList) hrd hlen hlim (Free.zero _) (Nat.le_refl _) (by simp only[maxLen];unfold dJ at hlim;omega) (by rw[hcl,hlen]) (by rw[take_of_length_le];simp only[Array.length_toList];rw[hcl,hlen];exact Nat.le_refl _)
 simp only[cond_false];have hMn:Mn K (fun b=>K b∨b=w.heap.size) w.heap (w.alloc (.cells cs' e)).heap:=⟨fun _ h=>.inl h,fun b hb=>heap_alloc_old w _ (hS.kb b hb)⟩;refine⟨fun b=>K b∨b=w.heap.size,G,hX.trans (Ext.pushK C.kp _),hS.pushK _,fun m=>VR.grow hMn (fun _ _ h=>h) _ _ (hE m),hd,hn,hkp,?_⟩;simp only[VR,DR];refine⟨.inr ⟨w.heap.size,0,n,cs',e,(0,0),esz,cs'.toList,by rw[hlen],.inr rfl,heap_alloc_new w _,by omega,by omega,fun j v hj=>by rw[Nat.zero_add,<-Array.getElem?_toList];exact hj,DRss.mono hMn _ _ _ hrd⟩,some ⟨w.heap.size,0,none⟩,by rw[hlen]⟩
end
section
variable {C:Cx} {E:dz} {H:List Ob} {a:Act} {w:World}
theorem ER(hR:Rel C E H a w)(o:Oper){t:TypeId}(ho:o.op=.makeMap t none)(hok:(nX C.P E H t).ok):jz C o a w (nX C.P E H t).v (nX C.P E H t).E (nX C.P E H t).H:=by
 obtain⟨K,G,hX,hS,hE,hd,hn,hk⟩:=hR;unfold nX at hok|-;split at hok
 rotate_left
 .exact hok.elim
 rename_i kt et hkm
 have hM:=Mn.alloc hS.kb (.map #[] 0)
 have hG:∀(o:Nat) (g:Gh),G[o]?=some g->(G++[⟨some w.heap.size,undef⟩])[o]?=some g:=fun o g hg=>Mg.push G _ o g rfl hg
 have hrun:(Instr.makeMap t none).run C.P w=.ok (.map (some w.heap.size)) (w.alloc (.map #[] 0)):=rfl;refine⟨_,_,.inl (by obtain⟨dst,op,ty,pos,af,gd⟩:=o;cases ho;exact yK hrun),?_⟩;refine⟨K,G++[⟨some w.heap.size,undef⟩],hX.trans (Ext.push C.kp _ undef),hS.push (x:=.mp _ []) ?_,fun m=>VR.grow hM hG _ _ (hE m),hd,hn,fun o ho=>?_,?_⟩
 .exact⟨by simp,w.heap.size,#[],0,rfl,heap_alloc_new w _,by simp[MRs],MapKept.stamped_empty 0⟩
 .obtain⟨vs',hvs',hkt⟩:=hk o ho
  exact⟨vs',by rw[getElem?_append_left (List.getElem?_eq_some_iff.1 hvs').1];exact hvs',hkt⟩
 .simp only[VR]
  refine⟨⟨some w.heap.size,undef⟩,w.heap.size,?_,rfl,rfl⟩;rw[<-hS.len,getElem?_append_right (Nat.le_refl _)];simp
theorem Rl(w:World)(b:Nat)(o:Obj):∀i,i≠b->({ w with heap:=w.heap.setIfInBounds b o }:World).heap[i]?=w.heap[i]?:=fun i h=>by simp[Ne.symm h]
theorem Np{K:Nat->Prop}{G:List Gh}(hX:Ext C.kp C.K0 C.G0 C.w0 K G w)(hS:St K G H w)(hE:jJ K w.heap G a E)(hd:a.defers=[])(hn:a.tmps.size=C.n)(hk:fE C.kp H){oo b:Nat}{g:Gh}(hg:G[oo]?=some g)(hgb:g.blk=some b)
  {mes mes':Array MapEntry} {clock clock':Nat} {ag:Bool} {es':List (Dt×List Dt)} (hb:w.heap[b]?=some (.map mes clock)) (hlim:es'.length<=dJ) (hm:MRs K w.heap ag mes'.toList es') (hst:MapKept.Stamped mes' clock') :
  RelV C E (H.set oo (.mp ag es')) undef .top a { w with heap:=w.heap.setIfInBounds b (.map mes' clock') }:=by
 have hlt:b<w.heap.size:=(Array.getElem?_eq_some_iff.1 hb).1;have hfr:=Rl w b (.map mes' clock');have hMn:Mn K K w.heap (w.heap.setIfInBounds b (.map mes' clock')):=⟨fun _ h=>h,fun i hi=>hfr i fun e=>(hS.gb oo g b hg hgb).2 (e ▸ hi)⟩;refine⟨K,G,hX.trans (Ext.modA C.kp hg hgb rfl rfl rfl (by simp) hfr),hS.modA hg hgb (by simp) hfr ?_,fun m=>VR.grow hMn (fun _ _ h=>h) _ _ (hE m),hd,hn,fun i hi=>?_,by simp only[VR]⟩
 .exact⟨hlim,b,mes',clock',hgb,by simp[hlt],hm.mono hMn,hst⟩
 .by_cases e:i=oo
  .subst e
   have:i<H.length:=by rw[<-hS.len];exact(List.getElem?_eq_some_iff.1 hg).1
   exact⟨_,getElem?_set_self this,rfl⟩
  .obtain⟨vs',h,hkt⟩:=hk i hi
   exact⟨vs',by rw[getElem?_set_ne (Ne.symm e)];exact h,hkt⟩
theorem BV{K:Nat->Prop}{h:Array Obj}{G:List Gh}{c:Value}{v:Va}{ag:Bool}{row:List Dt}(hv:VR K h G c v)(hc:v.isCell=true)(ha:Ky v=ag)(hd:DRs K h c.cells.toList row)(hl:ag=false->row.length=1):jW K h ag c row:=by
 cases ag with
 |true =>
  cases v <;> first|(simp[Ky]at ha;done)|skip
  rename_i vs
  simp only[VR]at hv;obtain⟨cs,rfl,_⟩:=hv;exact⟨cs,rfl,by simpa [Value.cells]using hd⟩
 |false =>
  have hone:=VR.one hv hc (by rintro vs rfl;simp[Ky]at ha);have hcs:=kw hone;rw[hcs]at hd
  match row,hl rfl with
  |[d],_ =>
   simp only[DRs]at hd;obtain⟨_,_,h1,h2,_⟩:=hd;cases h1;exact⟨d,rfl,h2⟩
theorem wr(hR:Rel C E H a w)(o:Oper){t:TypeId}{m k x:Operand}(ho:o.op=.mapUpdate t m k x∨o.op=.insert t m k x)(hm:opOk true E m)(hk:opOk true E k)(hx:opOk true E x)(hok:(jU C.P E H t (opnd E m) (opnd E k) (opnd E x)).ok) :
  jz C o a w (jU C.P E H t (opnd E m) (opnd E k) (opnd E x)).v (jU C.P E H t (opnd E m) (opnd E k) (opnd E x)).E (jU C.P E H t (opnd E m) (opnd E k) (opnd E x)).H:=by
 obtain⟨K,G,hX,hS,hE,hd,hn,hkp⟩:=hR;have hvm:=zz hE rfl m hm;have hvk:=zz hE rfl k hk;have hvx:=zz hE rfl x hx;unfold jU at hok|-;split at hok
 rotate_left
 .exact hok.elim
 rename_i kt et oo d hkm hom hkv
 split at hok
 rotate_left
 .exact hok.elim
 rename_i ag es hob
 split at hok
 rotate_left
 .exact hok.elim
 rename_i row hrow
 obtain⟨h1,h2,h3,h4,h5,h6⟩:=hok;rw[hom]at hvm;have hvk:=KX hkv hvk;simp only[VR]at hvm;obtain⟨g,b,hg,hgb,ham⟩:=hvm;obtain⟨hlim,b',mes,clock,hb',hbm,hmr,hst⟩:=hS.ob oo g _ hg (zJ hob (by simp))
 obtain rfl:b'=b:=by rw[hgb]at hb';exact(Option.some.inj hb').symm
 obtain⟨ti,ht,hk'⟩:=zH hkm (by simp);have hu:=FK ht hk';obtain⟨hck,hkeep,hfind⟩:=Lb (P:=C.P) (w:=w) h2 hvk;have hcv:=yG (Gi hvx h3) hrow;have hval:=BV hvx h3 h4 hcv h5
 have eu:∀(mes':Array MapEntry) (clock':Nat),(Instr.mapUpdate t (a.eval m) (a.eval k) (a.eval x)).run C.P w=.ok () { w with heap:=w.heap.setIfInBounds b' (.map mes' clock') }->MRs K w.heap ag mes'.toList (iL es d row)->MapKept.Stamped mes' clock' ->
   jz C o a w .top E (H.set oo (.mp ag (iL es d row))):=by
  intro mes' clock' hr hmr' hst';refine⟨undef,_,.inr ⟨?_,rfl⟩,Np hX hS hE hd hn hkp hg hgb (clock':=clock') hbm h6 hmr' hst'⟩;obtain⟨dst,op,ty,pos,af,gd⟩:=o
  rcases ho with ho|ho <;> (cases ho;exact Nb hr)
 rcases hfind hmr h1 with⟨a1,a2,a3,_,a9⟩|⟨j,e,row',a1,a2,a3,a4,a5,a6,_⟩
 .refine eu (mes.push { key:=a.eval k,val:=a.eval x,born:=clock }) (clock+1) ?_ ?_ (MapKept.stamped_push hst a9)
  .rw[ham]
   simp[Instr.mapUpdate,run_underlying hu,MapKept.run_getObj_map hbm,hck,a1,MapKept.run_setObj_map _ hbm,Result.andThen]
  .rw[a3]
   simpa using MRs.append (e:={ key:=a.eval k,val:=a.eval x,born:=clock }) (p:=(d,row)) hvk hval hmr
 .have hj:mes[j]?=some e:=by simpa using a2
  refine eu (mes.modify j fun e=>{ e with key:=a.eval k,val:=a.eval x }) clock ?_ ?_ (MapKept.stamped_modify hst j _ (fun _ _=>rfl) (fun e' _ he'=>by rw[hj]at he';cases he';exact a3.symm))
  .rw[ham]
   simp[Instr.mapUpdate,run_underlying hu,MapKept.run_getObj_map hbm,hck,a1,hj,a3,hkeep,MapKept.run_setObj_map _ hbm,Result.andThen]
  .rw[a6]
   have hjl:=(Array.getElem?_eq_some_iff.1 hj).1
   have:(mes.modify j fun e=>{ e with key:=a.eval k,val:=a.eval x }).toList=mes.toList.set j { e with key:=a.eval k,val:=a.eval x }:=by
    apply ext_getElem?;intro i;rw[Array.getElem?_toList,Array.getElem?_modify]
    by_cases hij:j=i
    .subst hij
     rw[if_pos rfl,hj,getElem?_set_self (by simpa using hjl)];rfl
    .rw[if_neg hij,getElem?_set_ne hij,Array.getElem?_toList]
   rw[this];exact hmr.set (e:={ e with key:=a.eval k,val:=a.eval x }) (p:=(d,row)) hvk hval j
theorem Fm(hR:Rel C E H a w)(o:Oper){c:Call}{m k:Operand}{t u:TypeId}(ho:o.op=.call c)(h1':c.callee=.builtin .delete)(h2':c.args.toList=[m,k])(h3':c.argTypes.toList=[t,u])(hm:opOk true E m)(hk:opOk true E k)(hok:(oQ C.P E H t u (opnd E m) (opnd E k)).ok) :
  jz C o a w (oQ C.P E H t u (opnd E m) (opnd E k)).v (oQ C.P E H t u (opnd E m) (opnd E k)).E (oQ C.P E H t u (opnd E m) (opnd E k)).H:=by
 obtain⟨K,G,hX,hS,hE,hd,hn,hkp⟩:=hR;have hvm:=zz hE rfl m hm;have hvk:=zz hE rfl k hk;unfold oQ at hok|-;split at hok
 rotate_left
 .exact hok.elim
 rename_i kt et oo d hkm hom hkv
 split at hok
 rotate_left
 .rename_i ag es bs cl hob
  obtain⟨h1,h2⟩:=hok;rw[hom]at hvm;have hvk:=KX hkv hvk;simp only[VR]at hvm;obtain⟨g,b,hg,hgb,ham⟩:=hvm;obtain⟨hlim,b',mes,hb',hbm,hmr,hst,hborn⟩:=hS.ob oo g _ hg (zJ hob (by simp))
  obtain rfl:b'=b:=by rw[hgb]at hb';exact(Option.some.inj hb').symm
  obtain⟨ti,ht,hk'⟩:=zH hkm (by simp);have hu:=FK ht hk';obtain⟨hck,hkeep,hfind⟩:=Lb (P:=C.P) (w:=w) h2 hvk
  have eu:∀(mes':Array MapEntry),(Builtin.delete_ #[t,u] o.type #[a.eval m,a.eval k]).run C.P w=.ok (.tuple #[]) { w with heap:=w.heap.setIfInBounds b' (.map mes' cl) }->MRs K w.heap ag mes'.toList (iK es d)->(iK es d).length<=dJ->MapKept.Stamped mes' cl->mes'.toList.map (·.born)=iu es bs d ->
    jz C o a w .top E (H.set oo (.mpb ag (iK es d) (iu es bs d) cl)):=by
   intro mes' hr hmr' hl hst' hbo;have hrel:=Np hX hS hE hd hn hkp hg hgb (clock':=cl) hbm hl hmr' hst';refine⟨.tuple #[],{ w with heap:=w.heap.setIfInBounds b' (.map mes' cl) },.inl ?_,?_⟩
   .obtain⟨callee,args,argTypes⟩:=c
    obtain⟨dst,op,ty,pos,af,gd⟩:=o;cases ho;simp only at h1' h2' h3' hr;subst h1'
    have ha:args=#[m,k]:=by cases args;simp_all
    have hat:argTypes=#[t,u]:=by cases argTypes;simp_all
    subst ha;subst hat
    simp[execOp,resolve,invoke,builtin,hr]
   .have hlt:b'<w.heap.size:=(Array.getElem?_eq_some_iff.1 hbm).1
    have hfr:=Rl w b' (.map mes' cl);have hMn:Mn K K w.heap (w.heap.setIfInBounds b' (.map mes' cl)):=⟨fun _ h=>h,fun i hi=>hfr i fun e=>(hS.gb oo g b' hg hgb).2 (e ▸ hi)⟩;refine⟨K,G,hX.trans (Ext.modA C.kp hg hgb rfl rfl rfl (by simp) hfr),hS.modA hg hgb (by simp) hfr ?_,fun m=>VR.grow hMn (fun _ _ h=>h) _ _ (hE m),hd,hn,fun i hi=>?_,by simp only[VR]⟩
    .exact⟨hl,b',mes',hgb,by simp[hlt],hmr'.mono hMn,hst',hbo⟩
    .by_cases e:i=oo
     .subst e
      have:i<H.length:=by rw[<-hS.len];exact(List.getElem?_eq_some_iff.1 hg).1
      exact⟨_,getElem?_set_self this,rfl⟩
     .obtain⟨vs',h,hkt⟩:=hkp i hi
      exact⟨vs',by rw[getElem?_set_ne (Ne.symm e)];exact h,hkt⟩
  have hlen:es.length=bs.length:=by rw[<-hborn,length_map];exact hmr.length.symm
  rcases hfind hmr h1 with⟨a1,a2,a3,a4,a5⟩|⟨j,e,row',a1,a2,a3,a4,a5,a6,a7⟩
  .refine eu mes ?_ (by rw[a4];exact hmr) (by rw[a4];exact hlim) hst ?_
   .rw[ham]
    simp[Builtin.delete_,run_underlying hu,MapKept.run_getObj_map hbm,hck,a1,MapKept.run_setObj_map _ hbm,Result.andThen]
   .rw[hborn]
    have:∀(es:List (Dt×List Dt)) (bs:List Nat),(∀r,iL es d r=es++[(d,r)])->iu es bs d=bs:=by
     intro es
     induction es with
     |nil=>intro bs _;cases bs <;> rfl
     |cons p es ih =>
      intro bs hs
      cases bs with
      |nil=>rfl
      |cons b bs =>
       simp only[iL,iu]at hs|-
       cases hq:fi p.1 d with
       |true =>
        simp only[hq,cond_true]at hs;have:=congrArg List.length (hs []);simp at this
       |false =>
        simp only[hq,cond_false]at hs|-;rw[ih bs fun r=>by have:=hs r;simpa using this]
    exact(this es bs a3).symm
  .refine eu (mes.eraseIdxIfInBounds j) ?_ ?_ ?_ (MapKept.stamped_erase hst j) ?_
   .rw[ham]
    simp[Builtin.delete_,run_underlying hu,MapKept.run_getObj_map hbm,hck,a1,MapKept.run_setObj_map _ hbm,Result.andThen]
   .have hjl:j<mes.size:=by have:=(List.getElem?_eq_some_iff.1 a2).1;simpa using this
    rw[a7,show(mes.eraseIdxIfInBounds j).toList=mes.toList.eraseIdx j by unfold Array.eraseIdxIfInBounds;rw[dif_pos hjl,Array.toList_eraseIdx]];exact hmr.erase j
   .rw[a7]
    have:(es.eraseIdx j).length<=es.length:=by rw[length_eraseIdx];split <;> omega
    omega
   .have hjl:j<mes.size:=by have:=(List.getElem?_eq_some_iff.1 a2).1;simpa using this
    have hme:∀(l:List MapEntry) (j:Nat),(l.eraseIdx j).map (·.born)=(l.map (·.born)).eraseIdx j:=by
     intro l
     induction l with
     |nil=>intro j;simp
     |cons x l ih=>intro j;cases j <;> simp[ih]
    rw[show(mes.eraseIdxIfInBounds j).toList=mes.toList.eraseIdx j by unfold Array.eraseIdxIfInBounds;rw[dif_pos hjl,Array.toList_eraseIdx],hme,hborn];exact(sH hlen a6 (by rw[hlen,<-hborn,length_map];simpa using hjl)).symm
 .exact hok.elim
 rename_i ag es hob
 obtain⟨h1,h2⟩:=hok;rw[hom]at hvm;have hvk:=KX hkv hvk;simp only[VR]at hvm;obtain⟨g,b,hg,hgb,ham⟩:=hvm;obtain⟨hlim,b',mes,clock,hb',hbm,hmr,hst⟩:=hS.ob oo g _ hg (zJ hob (by simp))
 obtain rfl:b'=b:=by rw[hgb]at hb';exact(Option.some.inj hb').symm
 obtain⟨ti,ht,hk'⟩:=zH hkm (by simp);have hu:=FK ht hk';obtain⟨hck,hkeep,hfind⟩:=Lb (P:=C.P) (w:=w) h2 hvk
 have eu:∀(mes':Array MapEntry),(Builtin.delete_ #[t,u] o.type #[a.eval m,a.eval k]).run C.P w=.ok (.tuple #[]) { w with heap:=w.heap.setIfInBounds b' (.map mes' clock) }->MRs K w.heap ag mes'.toList (iK es d)->(iK es d).length<=dJ->MapKept.Stamped mes' clock ->
   jz C o a w .top E (H.set oo (.mp ag (iK es d))):=by
  intro mes' hr hmr' hl hst';have hrel:=Np hX hS hE hd hn hkp hg hgb (clock':=clock) hbm hl hmr' hst';refine⟨.tuple #[],{ w with heap:=w.heap.setIfInBounds b' (.map mes' clock) },.inl ?_,?_⟩
  .obtain⟨callee,args,argTypes⟩:=c
   obtain⟨dst,op,ty,pos,af,gd⟩:=o;cases ho;simp only at h1' h2' h3' hr;subst h1'
   have ha:args=#[m,k]:=by cases args;simp_all
   have hat:argTypes=#[t,u]:=by cases argTypes;simp_all
   subst ha;subst hat
   simp[execOp,resolve,invoke,builtin,hr]
  .obtain⟨K',G',r1,r2,r3,r4,r5,r6,_⟩:=hrel
   exact⟨K',G',r1,r2,r3,r4,r5,r6,by simp only[VR]⟩
 rcases hfind hmr h1 with⟨a1,a2,_,a4,_⟩|⟨j,e,row',a1,a2,a3,a4,a5,_,a7⟩
 .refine eu mes ?_ (by rw[a4];exact hmr) (by rw[a4];exact hlim) hst
  rw[ham];simp[Builtin.delete_,run_underlying hu,MapKept.run_getObj_map hbm,hck,a1,MapKept.run_setObj_map _ hbm,Result.andThen]
 .refine eu (mes.eraseIdxIfInBounds j) ?_ ?_ ?_ (MapKept.stamped_erase hst j)
  .rw[ham]
   simp[Builtin.delete_,run_underlying hu,MapKept.run_getObj_map hbm,hck,a1,MapKept.run_setObj_map _ hbm,Result.andThen]
  .have hjl:j<mes.size:=by have:=(List.getElem?_eq_some_iff.1 a2).1;simpa using this
   rw[a7,show(mes.eraseIdxIfInBounds j).toList=mes.toList.eraseIdx j by unfold Array.eraseIdxIfInBounds;rw[dif_pos hjl,Array.toList_eraseIdx]];exact hmr.erase j
  .rw[a7]
   have:(es.eraseIdx j).length<=es.length:=by rw[length_eraseIdx];split <;> omega
   omega
end
end Go.Vc
