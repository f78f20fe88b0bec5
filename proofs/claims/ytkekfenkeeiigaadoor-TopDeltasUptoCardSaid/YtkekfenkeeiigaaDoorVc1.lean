/- An abstract machine for the model: what it computes on, its operations, the walk of a body, and that all of it is true of the model (part 1). -/
import Derived.ChangeKeysEq
import Derived.LaidEqlPtr
import Derived.Laws.StructEq
import Derived.Lib.Builder
import Derived.Lib.ConvBytes
import Derived.Lib.UnsafeStr
import Derived.MapKept
import Derived.WalkKit
import Derived.WideKeyRuns
/- The abstract data and memory of the walks,and how they stand in the model's memory; all of it is kept where memory only grows. -/
namespace Go.Vc

inductive Dt where
 | b (x:Bool)
 | i (k:IntKind) (n:Int)
 | s (x:List UInt8)
 | l (rows:List (List Dt))
 | a (ds:List Dt)
 | r (v:Value)

inductive Va where
 | p (x:Dt)
 | nils
 | full (rows:List (List Dt))
 | rp (row:List Dt)
 | ptr (o off:Nat)
 | el (o sz i off:Nat)
 | buf (o:Nat)
 | mp (o:Nat)
 | np (o:Nat)
 | sd (o:Nat)
 | vw (o sz a n:Nat)
 | bufc (o cp:Nat)
 | nv (o i:Nat)
 | ne (o sz i j off:Nat)
 | cs (o n:Nat)
 | fn (f:FuncId) (caps:List Va)
 | agg (cs:List Va)
 | tup (vs:List Va)
 | nil
 | cnd (c:Bool) (v:Va)
 | raw (v:Value)
 | er (nil:Bool)
 | top

def Lim:Nat:=274877906944
theorem Lim_eq:Lim=274877906944:=rfl

def lo:IntKind→Int
 | .i8=>-128 | .i16=>-32768 | .i32=>-2147483648 | .i64=>-9223372036854775808 | _=>0
def hi:IntKind→Int
 | .i8=>127 | .i16=>32767 | .i32=>2147483647 | .i64=>9223372036854775807
 | .u8=>255 | .u16=>65535 | .u32=>4294967295 | .u64=>18446744073709551615
def Fits (k:IntKind) (n:Int):Prop:=lo k≤n∧n≤hi k

structure Gh where
 blk:Option Nat
 sv:Value
 inn:List Value
def vblk:Value→Option Nat
 | .slice (some ⟨b,_,_⟩) _ (_+1)=>some b
 | _=>none
def own (g:Gh) (b:Nat):Prop:=g.blk=some b ∨ ∃ v ∈ g.inn,vblk v=some b

mutual
def DR (K:Nat→Prop) (h:Array Obj):Value→Dt→Prop
 | c,.b x=>c=.bool x
 | c,.i k n=>c=.int k n∧Fits k n
 | c,.s x=>c=.string ⟨x.toArray⟩∧x.length≤Lim
 | c,.l rows=>((∃ a,c=.slice a 0 0)∧rows=[]) ∨
   ∃ b off cap cs T fr sz vs,c=.slice (some ⟨b,off,none⟩) rows.length cap∧K b∧h[b]?=some (.cells cs T fr) ∧
    rows.length≤cap∧rows.length≤Lim∧(∀ j v,vs[j]?=some v→cs[off+j]?=some v)∧DRss K h sz vs rows
 | _,.a _=>False
 | c,.r v=>c=v∧v.oneCell'=true
def DRs (K:Nat→Prop) (h:Array Obj):List Value→List Dt→Prop
 | vs,[]=>vs=[]
 | vs,d::ds=>∃ v vs',vs=v::vs'∧DR K h v d∧DRs K h vs' ds
def DRss (K:Nat→Prop) (h:Array Obj) (sz:Nat):List Value→List (List Dt)→Prop
 | vs,[]=>vs=[]
 | vs,r::rs=>∃ a b,vs=a++b∧r.length=sz∧DRs K h a r∧DRss K h sz b rs
end

def vwR (c:Value) (blk:Option Nat) (ad:Option Addr) (N cap sz a n:Nat):Prop :=
 a+n≤N∧∃ ad' cap',c=.slice ad' n cap'∧n≤cap'∧a+cap'≤cap∧(0 < cap'→∃ b,blk=some b∧ad=some ⟨b,0,none⟩∧ad'=some ⟨b,a * sz,none⟩)
mutual
def VR (K:Nat→Prop) (h:Array Obj) (G:List Gh):Value→Va→Prop
 | c,.p x=>DR K h c x
 | c,.nils=>c=.slice none 0 0
 | c,.full rows=>DR K h c (.l rows)∧∃ a,c=.slice a rows.length rows.length
 | c,.rp row=>∃ b off cs T fr vs,c=.pointer (some ⟨b,off,none⟩)∧K b∧h[b]?=some (.cells cs T fr) ∧
   (∀ j v,vs[j]?=some v→cs[off+j]?=some v)∧DRs K h vs row
 | c,.ptr o off=>∃ g b,G[o]?=some g∧g.blk=some b∧c=.pointer (some ⟨b,off,none⟩)
 | c,.cs o n=>∃ g b,G[o]?=some g∧g.blk=some b∧c=.slice (some ⟨b,0,none⟩) n n
 | c,.el o sz i off=>∃ g b n cap,G[o]?=some g∧g.blk=some b∧g.sv=.slice (some ⟨b,0,none⟩) n cap∧c=.pointer (some ⟨b,i * sz+off,none⟩)
 | c,.buf o=>∃ g,G[o]?=some g∧c=g.sv∧∃ a n cap,g.sv=.slice a n cap
 | c,.mp o=>∃ g b,G[o]?=some g∧g.blk=some b∧c=.map (some b)
 | c,.np o=>c=.pointer none ∨ ∃ g b,G[o]?=some g∧g.blk=some b∧c=.pointer (some ⟨b,0,none⟩)
 | c,.sd o=>∃ g a n cap,G[o]?=some g∧g.sv=.slice a n cap∧c=.pointer a
 | c,.bufc o cp=>∃ g a n cap,G[o]?=some g∧g.sv=.slice a n cap∧c=g.sv∧cap=cp
 | c,.nv o i=>∃ g a n cap,G[o]?=some g∧g.inn[i]?=some (.slice a n cap)∧c=.slice a n cap
 | c,.ne o sz i j off=>∃ g b n cap,G[o]?=some g∧g.inn[i]?=some (.slice (some ⟨b,0,none⟩) n (cap+1))∧c=.pointer (some ⟨b,j * sz+off,none⟩)
 | c,.vw o sz a n=>∃ g ad N cap,G[o]?=some g∧g.sv=.slice ad N cap∧vwR c g.blk ad N cap sz a n
 | c,.fn f caps=>∃ cs,c=.func (.func f) #[] cs.toArray∧VRs K h G cs caps
 | c,.agg vs=>∃ cs,c=.agg cs.toArray∧VRs K h G cs vs
 | c,.tup vs=>∃ cs,c=.tuple cs.toArray∧VRs K h G cs vs
 | c,.nil=>c=.pointer none
 | c,.cnd t v=>(t=true→VR K h G c v)∧(t=false→c=undef)
 | c,.raw v=>c=v
 | c,.er b=>(b=true∧c=.nilIface) ∨ (b=false∧∃ t v,c=.iface t v)
 | _,.top=>True
def VRs (K:Nat→Prop) (h:Array Obj) (G:List Gh):List Value→List Va→Prop
 | cs,[]=>cs=[]
 | cs,v::vs=>∃ c cs',cs=c::cs'∧VR K h G c v∧VRs K h G cs' vs
end

inductive Ob where
 | cells (T:TypeId) (vs:List Va)
 | buf (T:TypeId) (sz:Nat) (rows:List (List Dt))
 | fx (T:TypeId) (sz:Nat) (rows:List (List Dt))
 | sb (T:TypeId) (bs:List UInt8)
 | mp (ag:Bool) (es:List (Dt × List Dt))
 | mpb (ag:Bool) (es:List (Dt × List Dt)) (bs:List Nat) (cl:Nat)
 | it (o cl:Nat) (seen:List Nat)
 | nst (fx:Bool) (T:TypeId) (sz k p:Nat) (rows:List (List Dt)) (st:Option Nat)
 | inn (T:TypeId) (sz:Nat) (ins:List (List (List Dt)))
 | gone
 | lost
def Ob.kept:Ob→Bool
 | .cells _ _=>true
 | .mp _ _=>true
 | .mpb _ _ _ _=>true
 | .fx _ _ _=>true
 | .nst f _ _ _ _ _ _=>f
 | .lost=>true
 | _=>false
def KR (K:Nat→Prop) (h:Array Obj) (c:Value):Dt→Prop
 | .a ds=>∃ cs:List Value,c=.agg cs.toArray∧DRs K h cs ds
 | .b x=>DR K h c (.b x)
 | .i k x=>DR K h c (.i k x)
 | .s x=>DR K h c (.s x)
 | .l x=>DR K h c (.l x)
 | .r x=>DR K h c (.r x)
def MRs (K:Nat→Prop) (h:Array Obj) (ag:Bool):List MapEntry→List (Dt × List Dt)→Prop
 | [],[]=>True
 | e::es,p::ps=>KR K h e.key p.1∧(match ag with
   | true=>∃ cs:List Value,e.val=.agg cs.toArray∧DRs K h cs p.2
   | false=>∃ d,p.2=[d]∧DR K h e.val d)∧MRs K h ag es ps
 | _,_=>False

def Free (fr:Nat × Nat) (n:Nat):Prop:=fr.1=fr.2 ∨ n≤fr.1
theorem Free.out {fr:Nat × Nat} {n:Nat} (h:Free fr n):∀ i,i < n→¬ (fr.1≤i∧i < fr.2):=by
 intro i hi hh
 rcases h with h | h <;> omega

def FrPre (fr:Nat × Nat) (n:Nat):Prop:=fr.1=fr.2 ∨ (fr.1=0∧fr.2≤n)
def byteV (b:UInt8):Value:=.int .u8 b.toNat

def bufR (K:Nat→Prop) (h:Array Obj) (bo:Option Nat) (sv:Value) (T:TypeId) (sz:Nat) (rows:List (List Dt)):Prop :=
 rows.length≤Lim∧∃ xs,DRss K h sz xs rows ∧
   (((∃ a,sv=.slice a 0 0)∧rows=[]∧bo=none) ∨
    ∃ b cap cur fr,sv=.slice (some ⟨b,0,none⟩) rows.length cap∧bo=some b∧h[b]?=some (.cells cur T fr)∧Free fr cur.size ∧
     rows.length≤cap∧cap≤maxLen∧cur.size=cap * sz∧cur.toList.take (rows.length * sz)=xs)
def ovl (k:Nat):List (List Dt)→List Value→List (List Dt)
 | r::rows,v::vs=>r.set k (.r v)::ovl k rows vs
 | _,_=>[]
def StaR (st:Option Nat) (vs inn:List Value):Prop:=vs.length=inn.length∧(∀ j:Nat,st ≠ some j→vs[j]?=inn[j]?)∧∀ v ∈ inn,∃ a n c,v=.slice a n c

def ObR (K:Nat→Prop) (h:Array Obj) (G:List Gh) (g:Gh):Ob→Prop
 | .cells T vs=>∃ b cs,g.blk=some b∧h[b]?=some (.cells cs.toArray T (0,0))∧VRs K h G cs vs
 | .buf T sz rows=>bufR K h g.blk g.sv T sz rows
 | .fx T sz rows=>bufR K h g.blk g.sv T sz rows
 | .sb T bs=>bs.length≤Lim ∧
   ((g.sv=.slice none 0 0∧bs=[]∧g.blk=none) ∨
    ∃ b cap cur fr,g.sv=.slice (some ⟨b,0,none⟩) bs.length cap∧g.blk=some b∧h[b]?=some (.cells cur T fr)∧FrPre fr bs.length ∧
     bs.length≤cap∧0 < cap∧cap≤maxLen∧cur.size=cap∧cur.toList.take bs.length=bs.map byteV)
 | .mp ag es=>es.length≤Lim∧∃ b mes clock,g.blk=some b∧h[b]?=some (.map mes clock)∧MRs K h ag mes.toList es∧MapKept.Stamped mes clock
 | .mpb ag es bs cl=>es.length≤Lim∧∃ b mes,g.blk=some b∧h[b]?=some (.map mes cl)∧MRs K h ag mes.toList es∧MapKept.Stamped mes cl∧mes.toList.map (·.born)=bs
 | .it o cl seen=>∃ b bm gm,g.blk=some b∧G[o]?=some gm∧gm.blk=some bm∧h[b]?=some (.mapIter (some bm) cl seen.toArray cl)
 | .nst _ T sz k p rows st=>rows.length≤Lim∧k < sz∧∃ gp vs,G[p]?=some gp∧vs.length=rows.length∧StaR st vs gp.inn∧bufR K h g.blk g.sv T sz (ovl k rows vs)
 | .inn T sz ins=>g.blk=none∧g.inn.length=ins.length∧(∀ (j:Nat) (v:Value) (rows:List (List Dt)),g.inn[j]?=some v→ins[j]?=some rows→bufR K h (vblk v) v T sz rows) ∧
   ∀ (i j:Nat) (v u:Value) (b:Nat),g.inn[i]?=some v→g.inn[j]?=some u→vblk v=some b→vblk u=some b→i=j
 | .gone=>True
 | .lost=>True

structure Mn (K K':Nat→Prop) (h h':Array Obj):Prop where
 k:∀ b,K b→K' b
 h:∀ b,K b→h'[b]?=h[b]?
def Mg (f:Nat→Bool) (G G':List Gh):Prop:=∀ (o:Nat) (g:Gh),f o=true→G[o]?=some g→G'[o]?=some g
section
variable {K K':Nat→Prop} {h h':Array Obj}
mutual
theorem DR.mono (M:Mn K K' h h'):∀ (c:Value) (d:Dt),DR K h c d→DR K' h' c d
 | _,.b _,H=>by simpa [DR] using H
 | _,.i _ _,H=>by simpa [DR] using H
 | _,.s _,H=>by simpa [DR] using H
 | _,.l rows,H=>by
  unfold DR at *
  rcases H with H | ⟨b,off,cap,cs,T,fr,sz,vs,h1,h2,h3,h4,h5,h6,h7⟩
  ·exact .inl H
  ·exact .inr ⟨b,off,cap,cs,T,fr,sz,vs,h1,M.k b h2,(M.h b h2).trans h3,h4,h5,h6,DRss.mono M sz vs rows h7⟩
 | _,.a ds,H=>by simp [DR] at H
 | _,.r v,H=>by simpa [DR] using H
theorem DRs.mono (M:Mn K K' h h'):∀ (vs:List Value) (ds:List Dt),DRs K h vs ds→DRs K' h' vs ds
 | _,[],H=>by simpa [DRs] using H
 | _,d::ds,H=>by
  unfold DRs at *
  obtain ⟨v,vs',h1,h2,h3⟩:=H
  exact ⟨v,vs',h1,DR.mono M v d h2,DRs.mono M vs' ds h3⟩
theorem DRss.mono (M:Mn K K' h h') (sz:Nat):∀ (vs:List Value) (rs:List (List Dt)),DRss K h sz vs rs→DRss K' h' sz vs rs
 | _,[],H=>by simpa [DRss] using H
 | _,r::rs,H=>by
  unfold DRss at *
  obtain ⟨a,b,h1,h2,h3,h4⟩:=H
  exact ⟨a,b,h1,h2,DRs.mono M a r h3,DRss.mono M sz b rs h4⟩
end
end

section
variable {K K':Nat→Prop} {h h':Array Obj}
theorem KR.mono (M:Mn K K' h h') {c:Value}:∀ {d:Dt},KR K h c d→KR K' h' c d
 | .a ds,⟨cs,h1,h2⟩=>⟨cs,h1,DRs.mono M cs ds h2⟩
 | .b _,H=>DR.mono M _ _ H
 | .i _ _,H=>DR.mono M _ _ H
 | .s _,H=>DR.mono M _ _ H
 | .l _,H=>DR.mono M _ _ H
 | .r _,H=>DR.mono M _ _ H
theorem MRs.mono (M:Mn K K' h h') {ag:Bool}:∀ {mes:List MapEntry} {es:List (Dt × List Dt)},MRs K h ag mes es→MRs K' h' ag mes es
 | [],[],H=>H
 | e::mes,p::es,H=>by
  simp only [MRs] at *
  refine ⟨KR.mono M H.1,?_,MRs.mono M H.2.2⟩
  cases ag with
  | true=>obtain ⟨cs,h1,h2⟩:=H.2.1; exact ⟨cs,h1,DRs.mono M _ _ h2⟩
  | false=>obtain ⟨d,h1,h2⟩:=H.2.1; exact ⟨d,h1,DR.mono M _ _ h2⟩
 | [],_::_,H=>by simp [MRs] at H
 | _::_,[],H=>by simp [MRs] at H
end
-- every object that it names is of this kind
mutual
def Va.all (f:Nat→Bool):Va→Bool
 | .ptr o _ | .cs o _ | .el o _ _ _ | .buf o | .mp o | .np o | .sd o | .vw o _ _ _ | .bufc o _ | .nv o _ | .ne o _ _ _ _=>f o
 | .fn _ vs | .agg vs | .tup vs=>Va.alls f vs
 | .cnd _ v=>v.all f
 | _=>true
def Va.alls (f:Nat→Bool):List Va→Bool
 | []=>true
 | v::vs=>v.all f && Va.alls f vs
end
-- what names an object of another kind is forgotten
mutual
def Va.prune (f:Nat→Bool):Va→Va
 | .ptr o off=>if f o then .ptr o off else .top
 | .cs o off=>if f o then .cs o off else .top
 | .el o sz i off=>if f o then .el o sz i off else .top
 | .buf o=>if f o then .buf o else .top
 | .mp o=>if f o then .mp o else .top
 | .np o=>if f o then .np o else .top
 | .sd o=>if f o then .sd o else .top
 | .vw o sz a n=>if f o then .vw o sz a n else .top
 | .bufc o cp=>if f o then .bufc o cp else .top
 | .nv o i=>if f o then .nv o i else .top
 | .ne o sz i j off=>if f o then .ne o sz i j off else .top
 | .fn g vs=>.fn g (Va.prunes f vs)
 | .agg vs=>.agg (Va.prunes f vs)
 | .tup vs=>.tup (Va.prunes f vs)
 | .cnd c v=>if v.all f then .cnd c v else .top
 | v=>v
def Va.prunes (f:Nat→Bool):List Va→List Va
 | []=>[]
 | v::vs=>v.prune f::Va.prunes f vs
end

section
variable {K K':Nat→Prop} {h h':Array Obj} {f:Nat→Bool} {G G':List Gh}
mutual
theorem VR.prune (M:Mn K K' h h') (hG:Mg f G G'):∀ (c:Value) (v:Va),VR K h G c v→VR K' h' G' c (v.prune f)
 | c,.p x,H=>by simp only [VR,Va.prune] at *; exact DR.mono M c x H
 | c,.nils,H=>by simpa [VR,Va.prune] using H
 | c,.full rows,H=>by
  simp only [VR,Va.prune] at *
  exact ⟨DR.mono M c _ H.1,H.2⟩
 | c,.rp row,H=>by
  simp only [VR,Va.prune] at *
  obtain ⟨b,off,cs,T,fr,vs,h1,h2,h3,h4,h5⟩:=H
  exact ⟨b,off,cs,T,fr,vs,h1,M.k b h2,(M.h b h2).trans h3,h4,DRs.mono M vs row h5⟩
 | c,.ptr o off,H=>by
  simp only [Va.prune]
  split
  ·rename_i hf; simp only [VR] at *; obtain ⟨g,b,h1,h2⟩:=H; exact ⟨g,b,hG o g hf h1,h2⟩
  ·simp [VR]
 | c,.cs o off,H=>by
  simp only [Va.prune]
  split
  ·rename_i hf; simp only [VR] at *; obtain ⟨g,b,h1,h2⟩:=H; exact ⟨g,b,hG o g hf h1,h2⟩
  ·simp [VR]
 | c,.el o sz i off,H=>by
  simp only [Va.prune]
  split
  ·rename_i hf; simp only [VR] at *; obtain ⟨g,b,n,cap,h1,h2⟩:=H; exact ⟨g,b,n,cap,hG o g hf h1,h2⟩
  ·simp [VR]
 | c,.buf o,H=>by
  simp only [Va.prune]
  split
  ·rename_i hf; simp only [VR] at *; obtain ⟨g,h1,h2⟩:=H; exact ⟨g,hG o g hf h1,h2⟩
  ·simp [VR]
 | c,.mp o,H=>by
  simp only [Va.prune]
  split
  ·rename_i hf; simp only [VR] at *; obtain ⟨g,b,h1,h2⟩:=H; exact ⟨g,b,hG o g hf h1,h2⟩
  ·simp [VR]
 | c,.np o,H=>by
  simp only [Va.prune]
  split
  ·rename_i hf
   simp only [VR] at *
   rcases H with H | ⟨g,b,h1,h2⟩
   ·exact .inl H
   ·exact .inr ⟨g,b,hG o g hf h1,h2⟩
  ·simp [VR]
 | c,.sd o,H=>by
  simp only [Va.prune]
  split
  ·rename_i hf; simp only [VR] at *; obtain ⟨g,a,n,cap,h1,h2⟩:=H; exact ⟨g,a,n,cap,hG o g hf h1,h2⟩
  ·simp [VR]
 | c,.vw o _ _ _,H=>by
  simp only [Va.prune]
  split
  ·rename_i hf; simp only [VR] at *; obtain ⟨g,a,n,cap,h1,h2⟩:=H; exact ⟨g,a,n,cap,hG o g hf h1,h2⟩
  ·simp [VR]
 | c,.bufc o _,H=>by
  simp only [Va.prune]
  split
  ·rename_i hf; simp only [VR] at *; obtain ⟨g,a,n,cap,h1,h2⟩:=H; exact ⟨g,a,n,cap,hG o g hf h1,h2⟩
  ·simp [VR]
 | c,.nv o _,H=>by
  simp only [Va.prune]
  split
  ·rename_i hf; simp only [VR] at *; obtain ⟨g,a,n,cap,h1,h2⟩:=H; exact ⟨g,a,n,cap,hG o g hf h1,h2⟩
  ·simp [VR]
 | c,.ne o _ _ _ _,H=>by
  simp only [Va.prune]
  split
  ·rename_i hf; simp only [VR] at *; obtain ⟨g,b,n,cap,h1,h2⟩:=H; exact ⟨g,b,n,cap,hG o g hf h1,h2⟩
  ·simp [VR]
 | c,.fn g vs,H=>by
  simp only [VR,Va.prune] at *
  obtain ⟨cs,h1,h2⟩:=H
  exact ⟨cs,h1,VRs.prune M hG cs vs h2⟩
 | c,.agg vs,H=>by
  simp only [VR,Va.prune] at *
  obtain ⟨cs,h1,h2⟩:=H
  exact ⟨cs,h1,VRs.prune M hG cs vs h2⟩
 | c,.tup vs,H=>by
  simp only [VR,Va.prune] at *
  obtain ⟨cs,h1,h2⟩:=H
  exact ⟨cs,h1,VRs.prune M hG cs vs h2⟩
 | c,.nil,H=>by simpa [VR,Va.prune] using H
 | c,.cnd t v,H=>by
  simp only [Va.prune]
  split
  ·rename_i hf
   simp only [VR] at *
   exact ⟨fun e=>VR.keep M hG c v hf (H.1 e),H.2⟩
  ·simp [VR]
 | c,.raw v,H=>by simpa [VR,Va.prune] using H
 | c,.er v,H=>by simpa [VR,Va.prune] using H
 | c,.top,_=>by simp [VR,Va.prune]
theorem VRs.prune (M:Mn K K' h h') (hG:Mg f G G'):∀ (cs:List Value) (vs:List Va),VRs K h G cs vs→VRs K' h' G' cs (Va.prunes f vs)
 | cs,[],H=>by simpa [VRs,Va.prunes] using H
 | cs,v::vs,H=>by
  simp only [VRs,Va.prunes] at *
  obtain ⟨c,cs',h1,h2,h3⟩:=H
  exact ⟨c,cs',h1,VR.prune M hG c v h2,VRs.prune M hG cs' vs h3⟩
theorem VR.keep (M:Mn K K' h h') (hG:Mg f G G'):∀ (c:Value) (v:Va),v.all f=true→VR K h G c v→VR K' h' G' c v
 | c,.p x,_,H=>by simp only [VR] at *; exact DR.mono M c x H
 | c,.nils,_,H=>by simpa [VR] using H
 | c,.full rows,_,H=>by
  simp only [VR] at *
  exact ⟨DR.mono M c _ H.1,H.2⟩
 | c,.rp row,_,H=>by
  simp only [VR] at *
  obtain ⟨b,off,cs,T,fr,vs,h1,h2,h3,h4,h5⟩:=H
  exact ⟨b,off,cs,T,fr,vs,h1,M.k b h2,(M.h b h2).trans h3,h4,DRs.mono M vs row h5⟩
 | c,.ptr o off,ha,H=>by simp only [VR,Va.all] at *; obtain ⟨g,b,h1,h2⟩:=H; exact ⟨g,b,hG o g ha h1,h2⟩
 | c,.cs o off,ha,H=>by simp only [VR,Va.all] at *; obtain ⟨g,b,h1,h2⟩:=H; exact ⟨g,b,hG o g ha h1,h2⟩
 | c,.el o sz i off,ha,H=>by simp only [VR,Va.all] at *; obtain ⟨g,b,n,cap,h1,h2⟩:=H; exact ⟨g,b,n,cap,hG o g ha h1,h2⟩
 | c,.buf o,ha,H=>by simp only [VR,Va.all] at *; obtain ⟨g,h1,h2⟩:=H; exact ⟨g,hG o g ha h1,h2⟩
 | c,.mp o,ha,H=>by simp only [VR,Va.all] at *; obtain ⟨g,b,h1,h2⟩:=H; exact ⟨g,b,hG o g ha h1,h2⟩
 | c,.np o,ha,H=>by
  simp only [VR,Va.all] at *
  rcases H with H | ⟨g,b,h1,h2⟩
  ·exact .inl H
  ·exact .inr ⟨g,b,hG o g ha h1,h2⟩
 | c,.sd o,ha,H=>by simp only [VR,Va.all] at *; obtain ⟨g,a,n,cap,h1,h2⟩:=H; exact ⟨g,a,n,cap,hG o g ha h1,h2⟩
 | c,.vw o _ _ _,ha,H=>by simp only [VR,Va.all] at *; obtain ⟨g,a,n,cap,h1,h2⟩:=H; exact ⟨g,a,n,cap,hG o g ha h1,h2⟩
 | c,.bufc o _,ha,H=>by simp only [VR,Va.all] at *; obtain ⟨g,a,n,cap,h1,h2⟩:=H; exact ⟨g,a,n,cap,hG o g ha h1,h2⟩
 | c,.nv o _,ha,H=>by simp only [VR,Va.all] at *; obtain ⟨g,a,n,cap,h1,h2⟩:=H; exact ⟨g,a,n,cap,hG o g ha h1,h2⟩
 | c,.ne o _ _ _ _,ha,H=>by simp only [VR,Va.all] at *; obtain ⟨g,b,n,cap,h1,h2⟩:=H; exact ⟨g,b,n,cap,hG o g ha h1,h2⟩
 | c,.fn g vs,ha,H=>by
  simp only [VR,Va.all] at *
  obtain ⟨cs,h1,h2⟩:=H
  exact ⟨cs,h1,VRs.keep M hG cs vs ha h2⟩
 | c,.agg vs,ha,H=>by
  simp only [VR,Va.all] at *
  obtain ⟨cs,h1,h2⟩:=H
  exact ⟨cs,h1,VRs.keep M hG cs vs ha h2⟩
 | c,.tup vs,ha,H=>by
  simp only [VR,Va.all] at *
  obtain ⟨cs,h1,h2⟩:=H
  exact ⟨cs,h1,VRs.keep M hG cs vs ha h2⟩
 | c,.nil,_,H=>by simpa [VR] using H
 | c,.cnd t v,ha,H=>by
  simp only [VR,Va.all] at *
  exact ⟨fun e=>VR.keep M hG c v ha (H.1 e),H.2⟩
 | c,.raw v,_,H=>by simpa [VR] using H
 | c,.er v,_,H=>by simpa [VR] using H
 | c,.top,_,_=>by simp [VR]
theorem VRs.keep (M:Mn K K' h h') (hG:Mg f G G'):∀ (cs:List Value) (vs:List Va),Va.alls f vs=true→VRs K h G cs vs→VRs K' h' G' cs vs
 | cs,[],_,H=>by simpa [VRs] using H
 | cs,v::vs,ha,H=>by
  simp only [VRs,Va.alls,Bool.and_eq_true] at *
  obtain ⟨c,cs',h1,h2,h3⟩:=H
  exact ⟨c,cs',h1,VR.keep M hG c v ha.1 h2,VRs.keep M hG cs' vs ha.2 h3⟩
end
end

mutual
theorem Va.all_true:∀ v:Va,v.all (fun _=>true)=true
 | .p _ | .nils | .full _ | .rp _ | .ptr _ _ | .cs _ _ | .el _ _ _ _ | .buf _ | .mp _ | .np _ | .sd _ | .vw _ _ _ _ | .bufc _ _ | .nv _ _ | .ne _ _ _ _ _ | .nil | .raw _ | .er _ | .top=>rfl
 | .fn _ vs=>Va.alls_true vs
 | .agg vs=>Va.alls_true vs
 | .tup vs=>Va.alls_true vs
 | .cnd _ v=>Va.all_true v
theorem Va.alls_true:∀ vs:List Va,Va.alls (fun _=>true) vs=true
 | []=>rfl
 | v::vs=>by simp only [Va.alls,Va.all_true v,Va.alls_true vs,Bool.and_self]
end

section
variable {K K':Nat→Prop} {h h':Array Obj} {G G':List Gh}
theorem VR.grow (M:Mn K K' h h') (hG:∀ (o:Nat) (g:Gh),G[o]?=some g→G'[o]?=some g) (c:Value) (v:Va) (H:VR K h G c v):VR K' h' G' c v :=
 VR.keep (f:=fun _=>true) M (fun o g _=>hG o g) c v (Va.all_true v) H
theorem VRs.grow (M:Mn K K' h h') (hG:∀ (o:Nat) (g:Gh),G[o]?=some g→G'[o]?=some g) (cs:List Value) (vs:List Va) (H:VRs K h G cs vs):VRs K' h' G' cs vs :=
 VRs.keep (f:=fun _=>true) M (fun o g _=>hG o g) cs vs (Va.alls_true vs) H
end
end Go.Vc
/- Operations that leave memory alone: what they yield,and that the model's yield the same. -/
namespace Go.Vc

inductive Tk where
 | other | str | bool
 | int (k:IntKind)
 | ptr (e:TypeId)
 | slice (e:TypeId) (esz ebytes:Nat) (ezero:List Value)
 | arr (n:Nat) (e:TypeId) (esz:Nat) (eagg:Bool)
 | struct (fs:List (Nat × Nat × Bool))
 | map (k e:TypeId)

structure Ti where
 agg:Bool
 size:Nat
 zero:List Value
 kind:Tk

def aggP (P:Program) (t:TypeId):Bool:=match P.underlying t with
 | some (.struct _) | some (.array _ _)=>true
 | _=>false
def szP (P:Program) (t:TypeId):Option Nat:=(P.info? t).map (·.size)
def zeroP (P:Program) (t:TypeId):Option (List Value):=(P.info? t).bind fun i=>i.zero.map (·.cells.toList)
def fieldsP (P:Program):List Field→Option (List (Nat × Nat × Bool))
 | []=>some []
 | f::fs=>match szP P f.type,P.underlying f.type,fieldsP P fs with
  | some n,some _,some l=>some ((f.offset,n,aggP P f.type)::l)
  | _,_,_=>none
def tkP (P:Program):TypeDesc→Tk
 | .bool=>.bool
 | .int k=>.int k
 | .string=>.str
 | .pointer e=>.ptr e
 | .slice e=>match P.info? e,zeroP P e with
  | some i,some z=>.slice e i.size i.bytes z
  | _,_=>.other
 | .array n e=>match szP P e,P.underlying e with
  | some s,some _=>.arr n e s (aggP P e)
  | _,_=>.other
 | .struct fs=>match fieldsP P fs.toList with
  | some l=>.struct l
  | none=>.other
 | .map k e=>.map k e
 | _=>.other
def tiP (P:Program) (t:TypeId):Option Ti :=
 match P.underlying t,szP P t,zeroP P t with
 | some d,some n,some z=>some ⟨aggP P t,n,z,tkP P d⟩
 | _,_,_=>none

section
variable {P:Program} {t:TypeId} {r:Ti} (h:tiP P t=some r)
include h
theorem tiP_under:∃ d,P.underlying t=some d∧r.kind=tkP P d∧r.agg=aggP P t:=by
 unfold tiP at h
 split at h
 ·rename_i d n z h1 h2 h3; cases h; exact ⟨d,h1,rfl,rfl⟩
 ·cases h
theorem tiP_info:∃ i z,P.info? t=some i∧i.size=r.size∧i.zero=some z∧z.cells.toList=r.zero:=by
 unfold tiP at h
 split at h
 ·rename_i d n z h1 h2 h3
  cases h
  unfold szP at h2
  unfold zeroP at h3
  cases hi:P.info? t with
  | none=>simp [hi] at h2
  | some i =>
   simp [hi] at h2 h3
   obtain ⟨z',hz1,hz2⟩:=h3
   exact ⟨i,z',rfl,h2,hz1,hz2⟩
 ·cases h
end

section
variable {P:Program} {t:TypeId} {r:Ti} (w:World)
theorem run_isAgg (h:tiP P t=some r):(isAgg t).run P w=.ok r.agg w:=by
 obtain ⟨d,h1,_,h3⟩:=tiP_under h
 rw [h3]
 simp only [isAgg,underlying,aggP,Sem.run_bind,run_program,Result.andThen_ok,h1]
 cases d <;> rfl
theorem run_sizeOf (h:tiP P t=some r):(sizeOf t).run P w=.ok r.size w:=by
 obtain ⟨i,z,h1,h2,_,_⟩:=tiP_info h
 simp [sizeOf,typeInfo,h1,h2]
theorem run_zeroValue (h:tiP P t=some r):∃ z,(zeroValue t).run P w=.ok z w∧z.cells.toList=r.zero:=by
 obtain ⟨i,z,h1,h2,h3,h4⟩:=tiP_info h
 exact ⟨z,by simp [zeroValue,typeInfo,h1,h3],h4⟩
end

abbrev Env:=List (Nat × Va)
def eget:Env→Nat→Va
 | [],_=>.top
 | (k,v)::E,m=>if k=m then v else eget E m
def eput (E:Env):Option Nat→Va→Env
 | some d,v=>(d,v)::E
 | none,_=>E

def cv:Value→Va
 | .bool x=>.p (.b x)
 | .int k n=>.p (.i k n)
 | .string s=>.p (.s s.data.toList)
 | .slice none 0 0=>.nils
 | .pointer none=>.nil
 | v=>.raw v
def cvOk:Value→Prop
 | .int k n=>Fits k n
 | .string s=>s.data.toList.length≤Lim
 | _=>True

def rnd (E:Env):Operand→Va
 | .tmp t=>eget E t
 | .const v=>cv v
 | .func f=>.fn f []
 | .global g=>.raw (.pointer (some ⟨g,0,none⟩))
def rndOk:Operand→Prop
 | .const v=>cvOk v
 | _=>True
def strip:Va→Va
 | .cnd _ v=>v
 | v=>v
def condOf:Va→Bool
 | .cnd c _=>c
 | _=>true
def opnd (E:Env) (x:Operand):Va:=strip (rnd E x)
def opOk (g:Bool) (E:Env) (x:Operand):Prop:=rndOk x∧(g=true→condOf (rnd E x)=true)

def EnvR (K:Nat→Prop) (h:Array Obj) (G:List Gh) (a:Act) (E:Env):Prop:=∀ m,VR K h G (a.tmps.getD m undef) (eget E m)

section
variable {K:Nat→Prop} {h:Array Obj} {G:List Gh} {a:Act} {E:Env}
theorem cv_ok (v:Value) (hv:cvOk v):VR K h G v (cv v):=by
 unfold cv
 split <;> simp_all [VR,DR,cvOk]
theorem rnd_ok (hE:EnvR K h G a E) (x:Operand) (hx:rndOk x):VR K h G (a.eval x) (rnd E x):=by
 cases x with
 | tmp t=>exact hE t
 | const v=>exact cv_ok v hx
 | func f=>simp [rnd,Act.eval,VR,VRs]
 | global g=>simp [rnd,Act.eval,VR]
theorem strip_ok {c:Value} {v:Va} (hv:VR K h G c v) (hc:condOf v=true):VR K h G c (strip v):=by
 cases v <;> first | exact hv | (simp only [VR,condOf] at hv hc; exact hv.1 hc)
theorem opnd_ok (hE:EnvR K h G a E) {g:Bool} (hg:g=true) (x:Operand) (hx:opOk g E x):VR K h G (a.eval x) (opnd E x) :=
 strip_ok (rnd_ok hE x hx.1) (hx.2 hg)
end

section
variable {K:Nat→Prop} {h:Array Obj} {G:List Gh}
theorem DRs.length:∀ {vs:List Value} {ds:List Dt},DRs K h vs ds→vs.length=ds.length
 | vs,[],H=>by simp only [DRs] at H; subst H; rfl
 | vs,d::ds,H=>by
  simp only [DRs] at H
  obtain ⟨v,vs',rfl,_,h3⟩:=H
  simp [DRs.length h3]
theorem DRs.get:∀ {vs:List Value} {ds:List Dt},DRs K h vs ds→∀ (j:Nat) (d:Dt),ds[j]?=some d→∃ v,vs[j]?=some v∧DR K h v d
 | vs,[],H,j,d,hj=>by simp at hj
 | vs,e::ds,H,j,d,hj=>by
  simp only [DRs] at H
  obtain ⟨v,vs',rfl,h2,h3⟩:=H
  cases j with
  | zero=>simp at hj; subst hj; exact ⟨v,rfl,h2⟩
  | succ j=>simp at hj; simpa using DRs.get h3 j d hj
theorem DRs.take:∀ {vs:List Value} {ds:List Dt},DRs K h vs ds→∀ n,DRs K h (vs.take n) (ds.take n)
 | vs,[],H,n=>by simp only [DRs] at H; subst H; simp [DRs]
 | vs,d::ds,H,0=>by simp [DRs]
 | vs,d::ds,H,n+1=>by
  simp only [DRs] at H
  obtain ⟨v,vs',rfl,h2,h3⟩:=H
  simp only [List.take_succ_cons,DRs]
  exact ⟨v,_,rfl,h2,DRs.take h3 n⟩
theorem DRs.drop:∀ {vs:List Value} {ds:List Dt},DRs K h vs ds→∀ n,DRs K h (vs.drop n) (ds.drop n)
 | vs,[],H,n=>by simp only [DRs] at H; subst H; simp [DRs]
 | vs,d::ds,H,0=>by simpa using H
 | vs,d::ds,H,n+1=>by
  simp only [DRs] at H
  obtain ⟨v,vs',rfl,h2,h3⟩:=H
  simpa using DRs.drop h3 n
theorem DRs.append:∀ {vs us:List Value} {ds es:List Dt},DRs K h vs ds→DRs K h us es→DRs K h (vs++us) (ds++es)
 | vs,us,[],es,H,H'=>by simp only [DRs] at H; subst H; simpa using H'
 | vs,us,d::ds,es,H,H'=>by
  simp only [DRs] at H
  obtain ⟨v,vs',rfl,h2,h3⟩:=H
  simp only [List.cons_append,DRs]
  exact ⟨v,_,rfl,h2,DRs.append h3 H'⟩
theorem DRs.set:∀ {vs:List Value} {ds:List Dt} {v:Value} {d:Dt},DRs K h vs ds→DR K h v d→∀ j,DRs K h (vs.set j v) (ds.set j d)
 | vs,[],v,d,H,_,j=>by simp only [DRs] at H; subst H; simp [DRs]
 | vs,e::ds,v,d,H,H',0=>by
  simp only [DRs] at H
  obtain ⟨u,vs',rfl,h2,h3⟩:=H
  simp only [List.set_cons_zero,DRs]
  exact ⟨v,vs',rfl,H',h3⟩
 | vs,e::ds,v,d,H,H',j+1=>by
  simp only [DRs] at H
  obtain ⟨u,vs',rfl,h2,h3⟩:=H
  simp only [List.set_cons_succ,DRs]
  exact ⟨u,_,rfl,h2,DRs.set h3 H' j⟩
theorem DRs.vrs:∀ {vs:List Value} {ds:List Dt},DRs K h vs ds→VRs K h G vs (ds.map .p)
 | vs,[],H=>by simpa [DRs,VRs] using H
 | vs,d::ds,H=>by
  simp only [DRs] at H
  obtain ⟨v,vs',rfl,h2,h3⟩:=H
  simp only [List.map_cons,VRs,VR]
  exact ⟨v,vs',rfl,h2,DRs.vrs h3⟩
theorem DRss.length {sz:Nat}:∀ {vs:List Value} {rs:List (List Dt)},DRss K h sz vs rs→vs.length=rs.length * sz
 | vs,[],H=>by simp only [DRss] at H; subst H; simp
 | vs,r::rs,H=>by
  simp only [DRss] at H
  obtain ⟨a,b,rfl,h2,h3,h4⟩:=H
  simp [h3.length,DRss.length h4,h2,Nat.add_mul,Nat.add_comm]
theorem DRss.get {sz:Nat}:∀ {vs:List Value} {rs:List (List Dt)},DRss K h sz vs rs→∀ (i:Nat),i < rs.length→DRs K h ((vs.drop (i * sz)).take sz) (rs.getD i [])∧(rs.getD i []).length=sz
 | vs,[],H,i,hi=>by simp at hi
 | vs,r::rs,H,i,hi=>by
  simp only [DRss] at H
  obtain ⟨a,b,rfl,h2,h3,h4⟩:=H
  have hl:=h3.length
  cases i with
  | zero =>
   have:(a++b).take sz=a:=by rw [List.take_append_of_le_length (by omega)]; exact List.take_of_length_le (by omega)
   simp only [Nat.zero_mul,List.drop_zero,this,List.getD_cons_zero]
   exact ⟨h3,h2⟩
  | succ i =>
   have e:(a++b).drop ((i+1) * sz)=b.drop (i * sz):=by
    rw [List.drop_append]
    have h5:(i+1) * sz - a.length=i * sz:=by rw [Nat.add_mul]; omega
    rw [h5,List.drop_eq_nil_of_le (by rw [Nat.add_mul]; omega)]; simp
   rw [e]
   simpa using DRss.get h4 i (by simpa using hi)
theorem DRss.append {sz:Nat}:∀ {vs us:List Value} {rs qs:List (List Dt)},DRss K h sz vs rs→DRss K h sz us qs→DRss K h sz (vs++us) (rs++qs)
 | vs,us,[],qs,H,H'=>by simp only [DRss] at H; subst H; simpa using H'
 | vs,us,r::rs,qs,H,H'=>by
  simp only [DRss] at H
  obtain ⟨a,b,rfl,h2,h3,h4⟩:=H
  simp only [List.cons_append,DRss]
  exact ⟨a,b++us,by simp,h2,h3,DRss.append h4 H'⟩
theorem DRss.drop {sz:Nat}:∀ {vs:List Value} {rs:List (List Dt)},DRss K h sz vs rs→∀ n,DRss K h sz (vs.drop (n * sz)) (rs.drop n)
 | vs,[],H,n=>by simp only [DRss] at H; subst H; simp [DRss]
 | vs,r::rs,H,0=>by simpa using H
 | vs,r::rs,H,n+1=>by
  simp only [DRss] at H
  obtain ⟨a,b,rfl,h2,h3,h4⟩:=H
  have hl:=h3.length
  have e:(a++b).drop ((n+1) * sz)=b.drop (n * sz):=by
   rw [List.drop_append]
   have h5:(n+1) * sz - a.length=n * sz:=by rw [Nat.add_mul]; omega
   rw [h5,List.drop_eq_nil_of_le (by rw [Nat.add_mul]; omega)]; simp
  rw [e]
  simpa using DRss.drop h4 n
theorem DRss.take {sz:Nat}:∀ {vs:List Value} {rs:List (List Dt)},DRss K h sz vs rs→∀ n,DRss K h sz (vs.take (n * sz)) (rs.take n)
 | vs,[],H,n=>by simp only [DRss] at H; subst H; simp [DRss]
 | vs,r::rs,H,0=>by simp [DRss]
 | vs,r::rs,H,n+1=>by
  simp only [DRss] at H
  obtain ⟨a,b,rfl,h2,h3,h4⟩:=H
  have hl:=h3.length
  have e:(a++b).take ((n+1) * sz)=a++b.take (n * sz):=by
   rw [List.take_append]
   have h5:(n+1) * sz - a.length=n * sz:=by rw [Nat.add_mul]; omega
   rw [h5,List.take_of_length_le (by rw [Nat.add_mul]; omega)]
  rw [e]
  simp only [List.take_succ_cons,DRss]
  exact ⟨a,_,rfl,h2,h3,DRss.take h4 n⟩
theorem VRs.length:∀ {cs:List Value} {vs:List Va},VRs K h G cs vs→cs.length=vs.length
 | cs,[],H=>by simp only [VRs] at H; subst H; rfl
 | cs,v::vs,H=>by
  simp only [VRs] at H
  obtain ⟨c,cs',rfl,_,h3⟩:=H
  simp [VRs.length h3]
theorem VRs.get:∀ {cs:List Value} {vs:List Va},VRs K h G cs vs→∀ (j:Nat) (v:Va),vs[j]?=some v→∃ c,cs[j]?=some c∧VR K h G c v
 | cs,[],H,j,d,hj=>by simp at hj
 | cs,e::vs,H,j,d,hj=>by
  simp only [VRs] at H
  obtain ⟨c,cs',rfl,h2,h3⟩:=H
  cases j with
  | zero=>simp at hj; subst hj; exact ⟨c,rfl,h2⟩
  | succ j=>simp at hj; simpa using VRs.get h3 j d hj
theorem VRs.take:∀ {cs:List Value} {vs:List Va},VRs K h G cs vs→∀ n,VRs K h G (cs.take n) (vs.take n)
 | cs,[],H,n=>by simp only [VRs] at H; subst H; simp [VRs]
 | cs,d::vs,H,0=>by simp [VRs]
 | cs,d::vs,H,n+1=>by
  simp only [VRs] at H
  obtain ⟨v,vs',rfl,h2,h3⟩:=H
  simp only [List.take_succ_cons,VRs]
  exact ⟨v,_,rfl,h2,VRs.take h3 n⟩
theorem VRs.drop:∀ {cs:List Value} {vs:List Va},VRs K h G cs vs→∀ n,VRs K h G (cs.drop n) (vs.drop n)
 | cs,[],H,n=>by simp only [VRs] at H; subst H; simp [VRs]
 | cs,d::vs,H,0=>by simpa using H
 | cs,d::vs,H,n+1=>by
  simp only [VRs] at H
  obtain ⟨v,vs',rfl,h2,h3⟩:=H
  simpa using VRs.drop h3 n
theorem VRs.append:∀ {cs es:List Value} {vs us:List Va},VRs K h G cs vs→VRs K h G es us→VRs K h G (cs++es) (vs++us)
 | cs,es,[],us,H,H'=>by simp only [VRs] at H; subst H; simpa using H'
 | cs,es,d::vs,us,H,H'=>by
  simp only [VRs] at H
  obtain ⟨v,vs',rfl,h2,h3⟩:=H
  simp only [List.cons_append,VRs]
  exact ⟨v,_,rfl,h2,VRs.append h3 H'⟩
theorem VRs.set:∀ {cs:List Value} {vs:List Va} {c:Value} {v:Va},VRs K h G cs vs→VR K h G c v→∀ j,VRs K h G (cs.set j c) (vs.set j v)
 | cs,[],c,v,H,_,j=>by simp only [VRs] at H; subst H; simp [VRs]
 | cs,e::vs,c,v,H,H',0=>by
  simp only [VRs] at H
  obtain ⟨u,vs',rfl,h2,h3⟩:=H
  simp only [List.set_cons_zero,VRs]
  exact ⟨c,vs',rfl,H',h3⟩
 | cs,e::vs,c,v,H,H',j+1=>by
  simp only [VRs] at H
  obtain ⟨u,vs',rfl,h2,h3⟩:=H
  simp only [List.set_cons_succ,VRs]
  exact ⟨u,_,rfl,h2,VRs.set h3 H' j⟩
end
end Go.Vc
/- Operations that leave memory alone: numbers,strings,structs,addresses,loads. -/
set_option linter.unusedSectionVars false
namespace Go.Vc

class Tabs where
 tab:Nat→Option (IntKind × List Int)
 ifc:Nat→Bool
 nest:TypeId→Option (Nat × TypeId × Nat):=fun _=>none
def TabOk [Tabs] (K:Nat→Prop) (h:Array Obj):Prop:=(∀ b k l,Tabs.tab b=some (k,l)→K b∧(∃ T fr,h[b]?=some (.cells (l.map (Value.int k)).toArray T fr))∧∀ n ∈ l,Fits k n) ∧
 ∀ b,Tabs.ifc b=true→K b∧∃ ev T fr,h[b]?=some (.cells #[ev] T fr)∧(ev=.nilIface ∨ ∃ te pe,ev=.iface te pe)
theorem TabOk.mono [Tabs] {K K':Nat→Prop} {h h':Array Obj} (H:TabOk K h) (M:Mn K K' h h'):TabOk K' h':=⟨fun b k l e=>by
 obtain ⟨h1,⟨T,fr,h2⟩,h3⟩:=H.1 b k l e
 exact ⟨M.k b h1,⟨T,fr,by rw [M.h b h1]; exact h2⟩,h3⟩,fun b e=>by
 obtain ⟨h1,ev,T,fr,h2,h3⟩:=H.2 b e
 exact ⟨M.k b h1,ev,T,fr,by rw [M.h b h1]; exact h2,h3⟩⟩
variable [Tabs]
structure St (K:Nat→Prop) (G:List Gh) (H:List Ob) (w:World):Prop where
 len:G.length=H.length
 kb:∀ b,K b→b < w.heap.size
 gbo:∀ (o:Nat) (g:Gh) (b:Nat),G[o]?=some g→own g b→b < w.heap.size∧¬ K b
 ijo:∀ (o o':Nat) (g g':Gh) (b:Nat),G[o]?=some g→G[o']?=some g'→own g b→own g' b→o=o'
 ob:∀ (o:Nat) (g:Gh) (x:Ob),G[o]?=some g→H[o]?=some x→ObR K w.heap G g x
 tb:TabOk K w.heap

theorem St.gb {K:Nat→Prop} {G:List Gh} {H:List Ob} {w:World} (h:St K G H w) (o:Nat) (g:Gh) (b:Nat) (hg:G[o]?=some g) (hb:g.blk=some b):b < w.heap.size∧¬ K b:=h.gbo o g b hg (.inl hb)
theorem St.inj {K:Nat→Prop} {G:List Gh} {H:List Ob} {w:World} (h:St K G H w) (o o':Nat) (g g':Gh) (b:Nat) (hg:G[o]?=some g) (hg':G[o']?=some g') (hb:g.blk=some b) (hb':g'.blk=some b):o=o':=h.ijo o o' g g' b hg hg' (.inl hb) (.inl hb')
theorem St.ghost {K:Nat→Prop} {G:List Gh} {H:List Ob} {w:World} (h:St K G H w) {o:Nat} {x:Ob} (hx:H[o]?=some x):∃ g,G[o]?=some g∧ObR K w.heap G g x:=by
 have hl:o < G.length:=by rw [h.len]; exact (List.getElem?_eq_some_iff.1 hx).1
 exact ⟨G[o],List.getElem?_eq_getElem hl,h.ob o _ x (List.getElem?_eq_getElem hl) hx⟩

structure Pv where
 v:Va
 ok:Prop
def bad:Pv:=⟨.top,False⟩

theorem Fits.wrap (k:IntKind) (n:Int):Fits k (k.wrap n):=by
 cases k <;> simp only [Fits,lo,hi,IntKind.wrap,IntKind.bits,IntKind.signed] <;> (constructor <;> (simp; omega))
theorem Fits.zero_mem (k:IntKind):lo k≤0∧0≤hi k:=by cases k <;> simp [lo,hi]
theorem Fits.tmod {k:IntKind} {a:Int} (h:Fits k a) (b:Int):Fits k (a.tmod b):=by
 obtain ⟨h1,h2⟩:=h
 have hz:=Fits.zero_mem k
 have hn:=Int.natAbs_tmod a b
 have hm:=Nat.mod_le a.natAbs b.natAbs
 rcases Int.le_total 0 a with h0 | h0
 ·have:=Int.tmod_nonneg b h0
  constructor <;> omega
 ·have h3:=Int.tmod_nonneg b (a:=-a) (by omega)
  rw [Int.neg_tmod] at h3
  constructor <;> omega
theorem Fits.fdiv {k:IntKind} {a:Int} (h:Fits k a) (n:Nat):Fits k (a.fdiv (2 ^ n)):=by
 obtain ⟨h1,h2⟩:=h
 have hz:=Fits.zero_mem k
 have hp:(0:Int) < 2 ^ n:=by exact_mod_cast Nat.pow_pos (n:=n) (by omega:0 < 2)
 rw [Int.fdiv_eq_ediv_of_nonneg _ (by omega)]
 rcases Int.le_total 0 a with h0 | h0
 ·have:=Int.ediv_le_self (2 ^ n) h0
  have:=Int.ediv_nonneg h0 (Int.le_of_lt hp)
  constructor <;> omega
 ·have h3:a≤a / 2 ^ n:=by
   have h4:=Int.le_ediv_iff_mul_le (a:=a) (b:=a) hp
   have h5:a * 2 ^ n≤a:=by
    have h6:(1:Int)≤2 ^ n:=by omega
    have:=Int.mul_le_mul_of_nonpos_left h0 h6
    simpa using this
   exact h4.2 h5
  have h7:a / 2 ^ n≤0:=by
   have:=Int.ediv_le_ediv hp h0
   simpa using this
  constructor <;> omega

def bitsI (op:BinOp) (k:IntKind) (x y:Int):Int :=
 let a:=BitVec.ofInt k.bits x
 let b:=BitVec.ofInt k.bits y
 match op with
 | .and=>k.wrap (a &&& b).toNat
 | .or=>k.wrap (a ||| b).toNat
 | .xor=>k.wrap (a ^^^ b).toNat
 | _=>k.wrap (a &&& ~~~b).toNat
theorem Fits.bits (op:BinOp) (k:IntKind) (x y:Int):Fits k (bitsI op k x y):=by
 unfold bitsI; split <;> exact Fits.wrap _ _

def shI (k:IntKind) (y:Int):Nat:=min y.toNat k.bits
def binI (op:BinOp) (k:IntKind) (a:Int) (k':IntKind) (b:Int):Pv:=match op with
 | .shl=>⟨.p (.i k (k.wrap (a * 2 ^ shI k b))),0≤b⟩
 | .shr=>⟨.p (.i k (a.fdiv (2 ^ shI k b))),0≤b⟩
 | .add=>⟨.p (.i k (k.wrap (a+b))),k=k'⟩
 | .sub=>⟨.p (.i k (k.wrap (a - b))),k=k'⟩
 | .mul=>⟨.p (.i k (k.wrap (a * b))),k=k'⟩
 | .quo=>⟨.p (.i k (k.wrap (a.tdiv b))),k=k'∧¬ b=0⟩
 | .rem=>⟨.p (.i k (a.tmod b)),k=k'∧¬ b=0⟩
 | .and=>⟨.p (.i k (bitsI .and k a b)),k=k'⟩
 | .or=>⟨.p (.i k (bitsI .or k a b)),k=k'⟩
 | .xor=>⟨.p (.i k (bitsI .xor k a b)),k=k'⟩
 | .andNot=>⟨.p (.i k (bitsI .andNot k a b)),k=k'⟩
 | .eql=>⟨.p (.b (decide (a=b))),k=k'⟩
 | .neq=>⟨.p (.b (!decide (a=b))),k=k'⟩
 | .lss=>⟨.p (.b (decide (a < b))),k=k'⟩
 | .leq=>⟨.p (.b (decide (a≤b))),k=k'⟩
 | .gtr=>⟨.p (.b (decide (b < a))),k=k'⟩
 | .geq=>⟨.p (.b (decide (b≤a))),k=k'⟩

def strLt (a b:List UInt8):Bool:=Op.bytesLess a b
def binS (op:BinOp) (a b:List UInt8):Pv:=match op with
 | .add=>⟨.p (.s (a++b)),(a++b).length≤Lim⟩
 | .eql=>⟨.p (.b (decide (a=b))),True⟩
 | .neq=>⟨.p (.b (!decide (a=b))),True⟩
 | .lss=>⟨.p (.b (strLt a b)),True⟩
 | .leq=>⟨.p (.b (strLt a b || decide (a=b))),True⟩
 | .gtr=>⟨.p (.b (!(strLt a b || decide (a=b)))),True⟩
 | .geq=>⟨.p (.b (!strLt a b)),True⟩
 | _=>bad

section
variable {K:Nat→Prop} {G:List Gh} {H:List Ob} {w:World} {P:Program}

theorem beq_dec {α:Type} [BEq α] [LawfulBEq α] [DecidableEq α] (a b:α):(a == b)=decide (a=b):=by by_cases h:a=b <;> simp [h]
theorem VR_i {h:Array Obj} {k:IntKind} {n:Int} (hn:Fits k n):VR K h G (.int k n) (.p (.i k n)):=by simpa only [VR,DR,true_and] using hn
theorem VR_b {h:Array Obj} {x y:Bool} (e:x=y):VR K h G (.bool x) (.p (.b y)):=by subst e; simp only [VR,DR]
theorem VR_s {h:Array Obj} {x:List UInt8} (hn:x.length≤Lim):VR K h G (.string ⟨x.toArray⟩) (.p (.s x)):=by simpa only [VR,DR,true_and] using hn
theorem eqGuard_plain (op:BinOp) (t:TypeId) (x y:Operand) (a b:Value) (h1:∀ c,a ≠ .agg c) (h2:a ≠ .nilIface):(eqGuard op t x y a b).run P w=.ok () w:=by
 unfold eqGuard
 cases op <;> first | rfl | (cases a <;> first | rfl | exact absurd rfl (h1 _) | exact absurd rfl h2)

theorem binI_ok {op:BinOp} {k k':IntKind} {a b:Int} (t:TypeId) (ha:Fits k a) (hok:(binI op k a k' b).ok) :
  ∃ c,(binOp op t (.int k a) (.int k' b)).run P w=.ok c w∧VR K w.heap G c (binI op k a k' b).v:=by
 cases op
 case shl =>
  simp only [binI] at hok ⊢
  exact ⟨_,by simp only [binOp,Op.shift,if_neg (Int.not_lt.2 hok)]; rfl,VR_i (Fits.wrap _ _)⟩
 case shr =>
  simp only [binI] at hok ⊢
  exact ⟨_,by simp only [binOp,Op.shift,if_neg (Int.not_lt.2 hok)]; rfl,VR_i (Fits.fdiv ha _)⟩
 case quo =>
  simp only [binI] at hok ⊢
  obtain ⟨rfl,h0⟩:=hok
  exact ⟨_,by simp only [binOp,Op.intDiv,ne_eq,not_true_eq_false,if_false,if_neg h0]; rfl,VR_i (Fits.wrap _ _)⟩
 case rem =>
  simp only [binI] at hok ⊢
  obtain ⟨rfl,h0⟩:=hok
  exact ⟨_,by simp only [binOp,Op.intDiv,ne_eq,not_true_eq_false,if_false,if_neg h0]; rfl,VR_i (Fits.tmod ha _)⟩
 case and | or | xor | andNot =>
  simp only [binI] at hok ⊢
  subst hok
  exact ⟨_,by simp only [binOp,Op.intBits,ne_eq,not_true_eq_false,if_false]; rfl,VR_i (Fits.bits _ _ _ _)⟩
 case add | sub | mul =>
  simp only [binI] at hok ⊢
  subst hok
  exact ⟨_,by simp only [binOp,Op.intArith,ne_eq,not_true_eq_false,if_false]; rfl,VR_i (Fits.wrap _ _)⟩
 all_goals
  simp only [binI] at hok ⊢
  subst hok
  exact ⟨_,by simp only [binOp,Op.intCmp,ne_eq,not_true_eq_false,if_false]; rfl,VR_b (by simp [bne,beq_dec])⟩
theorem binS_ok {op:BinOp} {a b:List UInt8} (t:TypeId) (hok:(binS op a b).ok) :
  ∃ c,(binOp op t (.string ⟨a.toArray⟩) (.string ⟨b.toArray⟩)).run P w=.ok c w∧VR K w.heap G c (binS op a b).v:=by
 cases op <;> simp only [binS] at hok ⊢ <;> try (exact hok.elim)
 case add =>
  have h63:¬ (((⟨a.toArray⟩:ByteArray).size+(⟨b.toArray⟩:ByteArray).size:Nat):Int) > IntKind.i64.max:=by
   simp only [ByteArray.size,List.size_toArray]
   have:IntKind.i64.max=9223372036854775807:=by decide
   rw [this]
   simp only [List.length_append,Lim] at hok
   omega
  have e:(⟨a.toArray⟩++⟨b.toArray⟩:ByteArray)=⟨(a++b).toArray⟩:=by apply ByteArray.ext; simp
  exact ⟨_,by simp only [binOp,Op.stringOp,if_neg h63,e]; rfl,VR_s hok⟩
 all_goals
  exact ⟨_,by simp only [binOp,Op.stringOp,ByteArray.toList_mk]; rfl,VR_b (by simp [strLt,beq_dec])⟩
end
end Go.Vc
/- Operations that leave memory alone,one by one: what each yields,and that the model's yields the same. -/
set_option linter.unusedSectionVars false
namespace Go.Vc
variable [Tabs]

def obAt:List Ob→Nat→Ob
 | [],_=>.gone
 | x::_,0=>x
 | _::l,n+1=>obAt l n
theorem obAt_some:∀ {H:List Ob} {o:Nat} {x:Ob},obAt H o=x→x ≠ .gone→H[o]?=some x
 | [],_,_,h,hx=>by simp [obAt] at h; exact absurd h.symm hx
 | x::l,0,y,h,_=>by simp [obAt] at h; simp [h]
 | x::l,n+1,y,h,hx=>by simp only [obAt] at h; simpa using obAt_some h hx

def bufAt (H:List Ob) (o:Nat):Option (TypeId × Nat × List (List Dt) × Bool):=match obAt H o with
 | .buf T sz rows=>some (T,sz,rows,false)
 | .fx T sz rows=>some (T,sz,rows,true)
 | _=>none
def mkB (f:Bool) (T:TypeId) (sz:Nat) (rows:List (List Dt)):Ob:=bif f then .fx T sz rows else .buf T sz rows
theorem bufAt_some {H:List Ob} {o:Nat} {T:TypeId} {sz:Nat} {rows:List (List Dt)} {f:Bool} (h:bufAt H o=some (T,sz,rows,f)):H[o]?=some (mkB f T sz rows):=by
 unfold bufAt at h
 split at h
 ·rename_i hx; cases h; exact obAt_some hx (by simp [mkB])
 ·rename_i hx; cases h; exact obAt_some hx (by simp [mkB])
 ·cases h
theorem mkB_buf {K:Nat→Prop} {h:Array Obj} {G:List Gh} {g:Gh} {f:Bool} {T:TypeId} {sz:Nat} {rows:List (List Dt)}:ObR K h G g (mkB f T sz rows)=ObR K h G g (.buf T sz rows):=by cases f <;> rfl
theorem St.bufOb {K:Nat→Prop} {G:List Gh} {H:List Ob} {w:World} (hS:St K G H w) {o:Nat} {T:TypeId} {sz:Nat} {rows:List (List Dt)} {f:Bool} {g:Gh} (h:bufAt H o=some (T,sz,rows,f)) (hg:G[o]?=some g):ObR K w.heap G g (.buf T sz rows):=by
 rw [← mkB_buf (f:=f)]; exact hS.ob o g _ hg (bufAt_some h)
def hdD (l:List Dt) (j:Nat):Va:=match l.drop j with
 | d::_=>.p d
 | []=>.top
def atV (l:List Va) (j:Nat):Va:=match l.drop j with
 | d::_=>d
 | []=>.top
theorem drop_head {α:Type}:∀ {l:List α} {j:Nat} {d:α} {r:List α},l.drop j=d::r→l[j]?=some d
 | [],_,_,_,h=>by simp at h
 | x::l,0,d,r,h=>by simp at h; simp [h.1]
 | x::l,j+1,d,r,h=>by simp at h; simpa using drop_head h

def loadV (ti:Ti) (H:List Ob):Va→Pv
 | .rp row=>bif ti.agg then ⟨.agg ((row.take ti.size).map .p),ti.size≤row.length⟩ else ⟨hdD row 0,0 < row.length⟩
 | .ptr o off=>match obAt H o with
  | .cells _ vs=>bif ti.agg then ⟨.agg ((vs.drop off).take ti.size),off+ti.size≤vs.length⟩ else ⟨atV vs off,off < vs.length⟩
  | _=>bad
 | .el o sz i off=>match bufAt H o with
  | some (_,sz',rows,_)=>bif ti.agg then ⟨.agg ((((rows.getD i []).drop off).take ti.size).map .p),sz=sz'∧i < rows.length∧off+ti.size≤sz⟩
   else ⟨hdD (rows.getD i []) off,sz=sz'∧i < rows.length∧off < sz⟩
  | none=>match obAt H o with
   | .nst _ _ sz' k p rows st=>bif ti.agg then ⟨.agg (((((rows.getD i []).map .p).set k (.nv p i)).drop off).take ti.size),sz=sz'∧i < rows.length∧off+ti.size≤sz∧st=none⟩
    else bif off == k then ⟨.nv p i,sz=sz'∧i < rows.length∧st=none⟩ else ⟨hdD (rows.getD i []) off,sz=sz'∧i < rows.length∧off < sz⟩
   | _=>bad
 | .ne p sz i j off=>match obAt H p with
  | .inn _ sz' ins=>bif ti.agg then ⟨.agg (((((ins.getD i []).getD j []).drop off).take ti.size).map .p),sz=sz'∧j < (ins.getD i []).length∧off+ti.size≤sz⟩
   else ⟨hdD ((ins.getD i []).getD j []) off,sz=sz'∧j < (ins.getD i []).length∧off < sz⟩
  | _=>bad
 | _=>bad

section
variable {K:Nat→Prop} {G:List Gh} {H:List Ob} {w:World} {P:Program}

theorem addr_add (b off n:Nat):(⟨b,off,none⟩:Addr).add n=⟨b,off+n,none⟩:=by
 unfold Addr.add; split
 ·rename_i h; subst h; rfl
 ·rfl

theorem run_loadVar_cells {t:TypeId} {ti:Ti} (ht:tiP P t=some ti) {b off:Nat} {cs:Array Value} {T:TypeId} {fr:Nat × Nat} (hb:w.heap[b]?=some (.cells cs T fr))
  {vs:List Value} (hv:∀ j v,vs[j]?=some v→cs[off+j]?=some v) :
  (ti.agg=true→ti.size≤vs.length→(loadVar t ⟨b,off,none⟩).run P w=.ok (.agg (vs.take ti.size).toArray) w) ∧
  (ti.agg=false→∀ v,vs[0]?=some v→(loadVar t ⟨b,off,none⟩).run P w=.ok v w):=by
 constructor
 ·intro ha hs
  have hl:(vs.take ti.size).length=ti.size:=by simp; omega
  have h1:=run_loadCells_list (P:=P) w ⟨b,off,none⟩ (vs.take ti.size) (fun j v hj=>by
   rw [addr_add,cell_of_row w b (off+j) cs T fr hb]
   exact hv j v (by rw [List.getElem?_take] at hj; split at hj <;> simp_all))
  rw [hl] at h1
  simp only [loadVar,Sem.run_bind,run_isAgg w ht,Result.andThen_ok,ha,if_true,run_sizeOf w ht,h1,Sem.run_pure]
 ·intro ha v h0
  have hc:w.cell? ⟨b,off,none⟩=some v:=by rw [cell_of_row w b off cs T fr hb]; simpa using hv 0 v h0
  simp [loadVar,run_isAgg w ht,ha,run_load,hc]

theorem el_load {t:TypeId} {ti:Ti} (ht:tiP P t=some ti) {bo:Option Nat} {sv:Value} {T:TypeId} {sz i off b:Nat} {rows:List (List Dt)} (hbuf:bufR K w.heap bo sv T sz rows) (hgb:bo=some b) (hi:i < rows.length) :
  (ti.agg=true→off+ti.size≤sz→∃ cs:List Value,(Instr.loadAt t (.pointer (some ⟨b,i * sz+off,none⟩))).run P w=.ok (.agg cs.toArray) w∧DRs K w.heap cs (((rows.getD i []).drop off).take ti.size)) ∧
  (ti.agg=false→off < sz→∃ c d,(Instr.loadAt t (.pointer (some ⟨b,i * sz+off,none⟩))).run P w=.ok c w∧(rows.getD i [])[off]?=some d∧DR K w.heap c d):=by
 obtain ⟨hlim,xs,hxs,hh⟩:=hbuf
 rcases hh with ⟨h1,_,h3⟩ | ⟨b',cap',cur,fr,h1,h2,hb,hfr,h4,h5,h6,h7⟩
 ·rw [hgb] at h3; cases h3
 obtain rfl:b'=b:=by rw [hgb] at h2; exact (Option.some.inj h2).symm
 have hxl:=hxs.length
 obtain ⟨hd,hrl⟩:=hxs.get i hi
 have hvd:∀ j v,(((xs.drop (i * sz)).take sz).drop off)[j]?=some v→cur[i * sz+off+j]?=some v:=fun j v hj=>by
  rw [List.getElem?_drop,List.getElem?_take] at hj
  split at hj
  ·rw [List.getElem?_drop,← h7,List.getElem?_take] at hj
   split at hj
   ·rw [← Array.getElem?_toList,show i * sz+off+j=i * sz+(off+j) by omega]; exact hj
   ·cases hj
  ·cases hj
 obtain ⟨h1',h2'⟩:=run_loadVar_cells (P:=P) ht hb hvd
 have hdl:=hd.length
 constructor
 ·intro ha hoff
  exact ⟨_,by simp only [Instr.loadAt,Instr.sureAddr,Sem.run_bind,Sem.run_pure,Result.andThen_ok]; exact h1' ha (by rw [List.length_drop,hdl]; omega),(hd.drop _).take _⟩
 ·intro ha hoff'
  have hoff:off < (rows.getD i []).length:=by omega
  have hj:(rows.getD i [])[off]?=some (rows.getD i [])[off]:=List.getElem?_eq_getElem hoff
  obtain ⟨c,hc1,hc2⟩:=hd.get off _ hj
  exact ⟨c,_,by simp only [Instr.loadAt,Instr.sureAddr,Sem.run_bind,Sem.run_pure,Result.andThen_ok]; exact h2' ha c (by rw [List.getElem?_drop]; simpa using hc1),hj,hc2⟩
theorem hdD_get {l:List Dt} {j:Nat} {d:Dt} (h:l[j]?=some d):hdD l j=.p d:=by
 have hj:=(List.getElem?_eq_some_iff.1 h).1
 unfold hdD
 rw [List.drop_eq_getElem_cons hj]
 rw [List.getElem?_eq_getElem hj] at h
 cases h; rfl
theorem ovl_length {k:Nat}:∀ {rows:List (List Dt)} {vs:List Value},vs.length=rows.length→(ovl k rows vs).length=rows.length
 | [],[],_=>rfl
 | r::rows,v::vs,h=>by simp only [ovl,List.length_cons,ovl_length (by simpa using h)]
 | [],_::_,h=>by simp at h
 | _::_,[],h=>by simp at h
theorem hov' {k:Nat}:∀ {rows:List (List Dt)} {vs:List Value} {i:Nat},vs.length=rows.length→i < rows.length→(ovl k rows vs)[i]?=some ((rows.getD i []).set k (.r (vs.getD i undef)))
 | [],_,_,_,h=>by simp at h
 | r::rows,v::vs,0,_,_=>by simp [ovl]
 | r::rows,v::vs,i+1,h,hi=>by simpa [ovl] using hov' (k:=k) (rows:=rows) (vs:=vs) (by simpa using h) (by simpa using hi)
 | _::_,[],_,h,_=>by simp at h
theorem ovl_get {k:Nat} {rows:List (List Dt)} {vs:List Value} (hl:vs.length=rows.length):∀ i,i < rows.length→(ovl k rows vs).getD i []=(rows.getD i []).set k (.r (vs.getD i undef)):=fun i hi=>by
 rw [List.getD_eq_getElem?_getD,hov' hl hi]; rfl
theorem set_vrs {v:Value} {x:Va} (hx:∀ c,c=v→VR K w.heap G c x):∀ {r:List Dt} {k:Nat} (off n:Nat) {cs:List Value},DRs K w.heap cs (((r.set k (.r v)).drop off).take n)→VRs K w.heap G cs ((((r.map Va.p).set k x).drop off).take n)
 | [],_,_,_,_,h=>by simpa [DRs,VRs] using h
 | _::_,_,0,0,_,h=>by simpa [DRs,VRs] using h
 | d::r,0,0,n+1,cs,h=>by
  simp only [List.set_cons_zero,List.drop_zero,List.take_succ_cons,List.map_cons,DRs,VRs,DR] at h ⊢
  obtain ⟨c,cs',rfl,h1,h2⟩:=h
  refine ⟨c,cs',rfl,hx c h1.1,?_⟩
  rw [← List.map_take]
  exact DRs.vrs h2
 | d::r,k+1,0,n+1,cs,h=>by
  simp only [List.set_cons_succ,List.drop_zero,List.take_succ_cons,List.map_cons,DRs,VRs] at h ⊢
  obtain ⟨c,cs',rfl,h1,h2⟩:=h
  refine ⟨c,cs',rfl,by simpa only [VR] using h1,?_⟩
  have:=set_vrs hx (r:=r) (k:=k) 0 n (cs:=cs') (by simpa using h2)
  simpa using this
 | d::r,0,off+1,n,cs,h=>by
  simp only [List.set_cons_zero,List.drop_succ_cons,List.map_cons] at h ⊢
  rw [← List.map_drop,← List.map_take]
  exact DRs.vrs h
 | d::r,k+1,off+1,n,cs,h=>by
  simp only [List.set_cons_succ,List.drop_succ_cons,List.map_cons] at h ⊢
  exact set_vrs hx off n h

theorem loadV_ok {t:TypeId} {ti:Ti} (ht:tiP P t=some ti) (hS:St K G H w) {c:Value} {v:Va} (hc:VR K w.heap G c v) (hok:(loadV ti H v).ok) :
  ∃ c',(Instr.loadAt t c).run P w=.ok c' w∧VR K w.heap G c' (loadV ti H v).v:=by
 cases v <;> simp only [loadV] at hok ⊢ <;> try (exact hok.elim)
 case rp row =>
  simp only [VR] at hc
  obtain ⟨b,off,cs,T,fr,vs,rfl,hK,hb,hv,hd⟩:=hc
  obtain ⟨h1,h2⟩:=run_loadVar_cells (P:=P) ht hb hv
  cases ha:ti.agg <;> simp only [ha,cond_true,cond_false] at hok ⊢
  ·cases row with
   | nil=>simp at hok
   | cons d row =>
    simp only [DRs] at hd
    obtain ⟨v,vs',rfl,hd1,_⟩:=hd
    exact ⟨v,by simp [Instr.loadAt,Instr.sureAddr,h2 ha v rfl],by simpa [hdD,VR] using hd1⟩
  ·refine ⟨_,by simp only [Instr.loadAt,Instr.sureAddr,Sem.run_bind,Sem.run_pure,Result.andThen_ok]; exact h1 ha (by rw [hd.length]; exact hok),?_⟩
   simp only [VR]
   exact ⟨_,rfl,(hd.take _).vrs⟩
 case ptr o off =>
  split at hok
  rotate_left
  ·exact hok.elim
  rename_i hx
  rename_i vs
  simp only [VR] at hc
  obtain ⟨g,b,hg,hgb,rfl⟩:=hc
  have hob:=hS.ob o g _ hg (obAt_some hx (by simp))
  obtain ⟨b',cs,hb',hb,hvs⟩:=hob
  obtain rfl:b'=b:=by rw [hgb] at hb'; exact (Option.some.inj hb').symm
  have hvd:∀ j v,(cs.drop off)[j]?=some v→cs.toArray[off+j]?=some v:=fun j v hj=>by rw [List.getElem?_drop] at hj; simpa using hj
  obtain ⟨h1,h2⟩:=run_loadVar_cells (P:=P) ht hb hvd
  have hl:=hvs.length
  cases ha:ti.agg <;> simp only [ha,cond_true,cond_false] at hok ⊢
  ·have hj:vs[off]?=some vs[off]:=List.getElem?_eq_getElem hok
   obtain ⟨c,hc1,hc2⟩:=hvs.get off _ hj
   refine ⟨c,by simp only [Instr.loadAt,Instr.sureAddr,Sem.run_bind,Sem.run_pure,Result.andThen_ok]; exact h2 ha c (by rw [List.getElem?_drop]; simpa using hc1),?_⟩
   have:vs.drop off=vs[off]::vs.drop (off+1):=List.drop_eq_getElem_cons hok
   unfold atV; rw [this]; exact hc2
  ·refine ⟨_,by simp only [Instr.loadAt,Instr.sureAddr,Sem.run_bind,Sem.run_pure,Result.andThen_ok]; exact h1 ha (by simp; omega),?_⟩
   simp only [VR]
   exact ⟨_,rfl,(hvs.drop _).take _⟩
 case el o sz i off =>
  simp only [VR] at hc
  obtain ⟨g,b,n,cap,hg,hgb,hsv,rfl⟩:=hc
  split at hok
  ·rename_i T sz' rows fx hx
   have hsz:sz=sz'∧i < rows.length:=by cases ha:ti.agg <;> simp only [ha,cond_true,cond_false] at hok <;> exact ⟨hok.1,hok.2.1⟩
   obtain ⟨rfl,hi⟩:=hsz
   obtain ⟨h1,h2⟩:=el_load (P:=P) (off:=off) ht (hS.bufOb hx hg) hgb hi
   cases ha:ti.agg <;> simp only [ha,cond_true,cond_false] at hok ⊢
   ·obtain ⟨c,d,e1,e2,e3⟩:=h2 ha hok.2.2
    refine ⟨c,e1,?_⟩
    rw [hdD_get e2]; simpa only [VR] using e3
   ·obtain ⟨cs,e1,e2⟩:=h1 ha hok.2.2
    refine ⟨_,e1,?_⟩
    simp only [VR]
    exact ⟨cs,rfl,e2.vrs⟩
  ·split at hok
   rotate_left
   ·exact hok.elim
   rename_i f T sz' k p rows st hx
   obtain ⟨h0,hk,gp,vs,hgp,hvl,hst,hbuf⟩:=hS.ob o g _ hg (obAt_some hx (by simp))
   have hov:=ovl_get (k:=k) hvl
   have hol:=ovl_length (k:=k) hvl
   cases ha:ti.agg <;> simp only [ha,cond_true,cond_false] at hok ⊢
   ·cases hkk:(off == k) <;> simp only [hkk,cond_true,cond_false] at hok ⊢
    ·obtain ⟨rfl,hi,hoff⟩:=hok
     obtain ⟨_,h2⟩:=el_load (P:=P) (off:=off) ht hbuf hgb (by rw [hol]; exact hi)
     obtain ⟨c,d,e1,e2,e3⟩:=h2 ha hoff
     refine ⟨c,e1,?_⟩
     rw [hov i hi,List.getElem?_set_ne (fun e=>by simp [e] at hkk)] at e2
     rw [hdD_get e2]; simpa only [VR] using e3
    ·obtain ⟨rfl,hi,rfl⟩:=hok
     obtain rfl:off=k:=by simpa using hkk
     obtain ⟨_,h2⟩:=el_load (P:=P) (off:=off) ht hbuf hgb (by rw [hol]; exact hi)
     obtain ⟨c,d,e1,e2,e3⟩:=h2 ha hk
     have hvi:vs[i]?=some (vs.getD i undef):=by rw [List.getD_eq_getElem?_getD,List.getElem?_eq_getElem (by omega)]; rfl
     rw [hov i hi] at e2
     have hd:d=.r (vs.getD i undef):=by
      rw [List.getElem?_set_self (by
       have:=(List.getElem?_eq_some_iff.1 e2).1
       simpa using this)] at e2
      exact (Option.some.inj e2).symm
     subst hd
     simp only [DR] at e3
     have hgi:gp.inn[i]?=some (vs.getD i undef):=by rw [← hst.2.1 i (by simp)]; exact hvi
     obtain ⟨a,m,cp,hv⟩:=hst.2.2 _ (List.mem_of_getElem? hgi)
     refine ⟨c,e1,?_⟩
     simp only [VR]
     exact ⟨gp,a,m,cp,hgp,by rw [hgi,hv],by rw [e3.1,hv]⟩
   ·obtain ⟨rfl,hi,hoff,rfl⟩:=hok
    obtain ⟨h1,_⟩:=el_load (P:=P) (off:=off) ht hbuf hgb (by rw [hol]; exact hi)
    obtain ⟨cs,e1,e2⟩:=h1 ha hoff
    refine ⟨_,e1,?_⟩
    have hvi:vs[i]?=some (vs.getD i undef):=by rw [List.getD_eq_getElem?_getD,List.getElem?_eq_getElem (by omega)]; rfl
    have hgi:gp.inn[i]?=some (vs.getD i undef):=by rw [← hst.2.1 i (by simp)]; exact hvi
    obtain ⟨a,m,cp,hv⟩:=hst.2.2 _ (List.mem_of_getElem? hgi)
    rw [hov i hi] at e2
    simp only [VR]
    refine ⟨cs,rfl,set_vrs (fun c hc=>?_) off ti.size e2⟩
    simp only [VR]
    exact ⟨gp,a,m,cp,hgp,by rw [hgi,hv],by rw [hc,hv]⟩
 case ne p sz i j off =>
  simp only [VR] at hc
  obtain ⟨g,b,n,cap,hg,hgi,rfl⟩:=hc
  split at hok
  rotate_left
  ·exact hok.elim
  rename_i T sz' ins hx
  obtain ⟨hb0,hl,hin,_⟩:=hS.ob p g _ hg (obAt_some hx (by simp))
  have hil:=(List.getElem?_eq_some_iff.1 hgi).1
  have hins:ins[i]?=some (ins.getD i []):=by rw [List.getElem?_eq_getElem (by omega),List.getD_eq_getElem?_getD,List.getElem?_eq_getElem (by omega)]; rfl
  have hbuf:=hin i _ _ hgi hins
  have hsz:sz=sz'∧j < (ins.getD i []).length:=by cases ha:ti.agg <;> simp only [ha,cond_true,cond_false] at hok <;> exact ⟨hok.1,hok.2.1⟩
  obtain ⟨rfl,hj⟩:=hsz
  obtain ⟨h1,h2⟩:=el_load (P:=P) (off:=off) ht hbuf rfl hj
  cases ha:ti.agg <;> simp only [ha,cond_true,cond_false] at hok ⊢
  ·obtain ⟨c,d,e1,e2,e3⟩:=h2 ha hok.2.2
   refine ⟨c,e1,?_⟩
   rw [hdD_get e2]; simpa only [VR] using e3
  ·obtain ⟨cs,e1,e2⟩:=h1 ha hok.2.2
   refine ⟨_,e1,?_⟩
   simp only [VR]
   exact ⟨cs,rfl,e2.vrs⟩
end
end Go.Vc
/- Structs are compared cell by cell. -/
set_option linter.unusedSectionVars false
namespace Go.Vc
variable [Tabs]

inductive Kd where
 | b | s | i (k:IntKind)
mutual
def eqKs (P:Program):Nat→TypeId→Option (List Kd)
 | 0,_=>none
 | d+1,t=>match P.underlying t with
  | some .bool=>if szP P t=some 1 then some [.b] else none
  | some (.int k)=>if szP P t=some 1 then some [.i k] else none
  | some .string=>if szP P t=some 1 then some [.s] else none
  | some (.struct fs)=>if P.stoodInHeld t then none else match eqFs P d 0 fs.toList with
   | some l=>if szP P t=some l.length then some l else none
   | none=>none
  | _=>none
termination_by structural d=>d
def eqFs (P:Program):Nat→Nat→List Field→Option (List Kd)
 | _,_,[]=>some []
 | 0,_,_=>none
 | d+1,off,f::fs=>if f.name= "_" ∨ f.offset ≠ off then none else match eqKs P d f.type with
  | some l=>match eqFs P d (off+l.length) fs with
   | some l'=>some (l++l')
   | none=>none
  | none=>none
termination_by structural d=>d
end
def eqArr (P:Program) (t:TypeId):Option (List Kd):=match P.underlying t with
 | some (.array n e)=>match P.underlying e with
  | some (.int k)=>if szP P e=some 1∧P.cellsOf e=1 then some (List.replicate n (.i k)) else none
  | _=>none
 | _=>none
def eqTyP (P:Program) (t:TypeId):Option (List Kd):=if P.eqGuardType P.depth t then none else match eqArr P t with
 | some l=>some l
 | none=>eqKs P 60 t

def hasKs:List Kd→List Dt→Prop
 | [],[]=>True
 | .b::ks,.b _::ds=>hasKs ks ds
 | .s::ks,.s _::ds=>hasKs ks ds
 | .i k::ks,.i k' _::ds=>k=k'∧hasKs ks ds
 | _,_=>False
def eqRow:List Dt→List Dt→Bool
 | [],[]=>true
 | .b x::ds,.b y::es=>decide (x=y) && eqRow ds es
 | .s x::ds,.s y::es=>decide (x=y) && eqRow ds es
 | .i _ x::ds,.i _ y::es=>decide (x=y) && eqRow ds es
 | _,_=>false

theorem hasKs_length:∀ {ks:List Kd} {ds:List Dt},hasKs ks ds→ds.length=ks.length
 | [],[],_=>rfl
 | .b::ks,.b _::ds,h=>by simp only [hasKs] at h; simp [hasKs_length h]
 | .s::ks,.s _::ds,h=>by simp only [hasKs] at h; simp [hasKs_length h]
 | .i k::ks,.i k' _::ds,h=>by simp only [hasKs] at h; simp [hasKs_length h.2]
 | [],_::_,h=>by simp [hasKs] at h
 | .b::_,[],h=>by simp [hasKs] at h
 | .s::_,[],h=>by simp [hasKs] at h
 | .i _::_,[],h=>by simp [hasKs] at h
 | .b::_,.s _::_,h=>by simp [hasKs] at h
 | .b::_,.i _ _::_,h=>by simp [hasKs] at h
 | .b::_,.l _::_,h=>by simp [hasKs] at h
 | .b::_,.a _::_,h=>by simp [hasKs] at h
 | .s::_,.b _::_,h=>by simp [hasKs] at h
 | .s::_,.i _ _::_,h=>by simp [hasKs] at h
 | .s::_,.l _::_,h=>by simp [hasKs] at h
 | .s::_,.a _::_,h=>by simp [hasKs] at h
 | .i _::_,.b _::_,h=>by simp [hasKs] at h
 | .i _::_,.s _::_,h=>by simp [hasKs] at h
 | .i _::_,.l _::_,h=>by simp [hasKs] at h
 | .i _::_,.a _::_,h=>by simp [hasKs] at h
theorem hasKs_append:∀ {ks ks':List Kd} {ds:List Dt},hasKs (ks++ks') ds→hasKs ks (ds.take ks.length)∧hasKs ks' (ds.drop ks.length)
 | [],ks',ds,h=>by simpa [hasKs] using h
 | .b::ks,ks',.b x::ds,h=>by
  simp only [List.cons_append,hasKs] at h
  simpa [hasKs] using hasKs_append h
 | .s::ks,ks',.s x::ds,h=>by
  simp only [List.cons_append,hasKs] at h
  simpa [hasKs] using hasKs_append h
 | .i k::ks,ks',.i k' x::ds,h=>by
  simp only [List.cons_append,hasKs] at h
  obtain ⟨h1,h2⟩:=h
  have:=hasKs_append h2
  simp only [List.length_cons,List.take_succ_cons,List.drop_succ_cons,hasKs]
  exact ⟨⟨h1,this.1⟩,this.2⟩
 | .b::_,_,[],h=>by simp [hasKs] at h
 | .s::_,_,[],h=>by simp [hasKs] at h
 | .i _::_,_,[],h=>by simp [hasKs] at h
 | .b::_,_,.s _::_,h=>by simp [hasKs] at h
 | .b::_,_,.i _ _::_,h=>by simp [hasKs] at h
 | .b::_,_,.l _::_,h=>by simp [hasKs] at h
 | .b::_,_,.a _::_,h=>by simp [hasKs] at h
 | .s::_,_,.b _::_,h=>by simp [hasKs] at h
 | .s::_,_,.i _ _::_,h=>by simp [hasKs] at h
 | .s::_,_,.l _::_,h=>by simp [hasKs] at h
 | .s::_,_,.a _::_,h=>by simp [hasKs] at h
 | .i _::_,_,.b _::_,h=>by simp [hasKs] at h
 | .i _::_,_,.s _::_,h=>by simp [hasKs] at h
 | .i _::_,_,.l _::_,h=>by simp [hasKs] at h
 | .i _::_,_,.a _::_,h=>by simp [hasKs] at h
theorem eqRow_split:∀ {ks:List Kd} {ds es:List Dt} (ds' es':List Dt),hasKs ks ds→hasKs ks es→eqRow (ds++ds') (es++es')=(eqRow ds es && eqRow ds' es')
 | [],[],[],_,_,_,_=>by simp [eqRow]
 | .b::ks,.b x::ds,.b y::es,ds',es',h,h'=>by
  simp only [hasKs] at h h'
  simp [eqRow,eqRow_split ds' es' h h',Bool.and_assoc]
 | .s::ks,.s x::ds,.s y::es,ds',es',h,h'=>by
  simp only [hasKs] at h h'
  simp [eqRow,eqRow_split ds' es' h h',Bool.and_assoc]
 | .i k::ks,.i k1 x::ds,.i k2 y::es,ds',es',h,h'=>by
  simp only [hasKs] at h h'
  simp [eqRow,eqRow_split ds' es' h.2 h'.2,Bool.and_assoc]
 | [],_::_,_,_,_,h,_=>by simp [hasKs] at h
 | [],[],_::_,_,_,_,h=>by simp [hasKs] at h
 | .b::_,[],_,_,_,h,_=>by simp [hasKs] at h
 | .s::_,[],_,_,_,h,_=>by simp [hasKs] at h
 | .i _::_,[],_,_,_,h,_=>by simp [hasKs] at h
 | .b::_,.s _::_,_,_,_,h,_=>by simp [hasKs] at h
 | .b::_,.i _ _::_,_,_,_,h,_=>by simp [hasKs] at h
 | .b::_,.l _::_,_,_,_,h,_=>by simp [hasKs] at h
 | .b::_,.a _::_,_,_,_,h,_=>by simp [hasKs] at h
 | .s::_,.b _::_,_,_,_,h,_=>by simp [hasKs] at h
 | .s::_,.i _ _::_,_,_,_,h,_=>by simp [hasKs] at h
 | .s::_,.l _::_,_,_,_,h,_=>by simp [hasKs] at h
 | .s::_,.a _::_,_,_,_,h,_=>by simp [hasKs] at h
 | .i _::_,.b _::_,_,_,_,h,_=>by simp [hasKs] at h
 | .i _::_,.s _::_,_,_,_,h,_=>by simp [hasKs] at h
 | .i _::_,.l _::_,_,_,_,h,_=>by simp [hasKs] at h
 | .i _::_,.a _::_,_,_,_,h,_=>by simp [hasKs] at h
 | .b::_,.b _::_,[],_,_,_,h=>by simp [hasKs] at h
 | .s::_,.s _::_,[],_,_,_,h=>by simp [hasKs] at h
 | .i _::_,.i _ _::_,[],_,_,_,h=>by simp [hasKs] at h
 | .b::_,.b _::_,.s _::_,_,_,_,h=>by simp [hasKs] at h
 | .b::_,.b _::_,.i _ _::_,_,_,_,h=>by simp [hasKs] at h
 | .b::_,.b _::_,.l _::_,_,_,_,h=>by simp [hasKs] at h
 | .b::_,.b _::_,.a _::_,_,_,_,h=>by simp [hasKs] at h
 | .s::_,.s _::_,.b _::_,_,_,_,h=>by simp [hasKs] at h
 | .s::_,.s _::_,.i _ _::_,_,_,_,h=>by simp [hasKs] at h
 | .s::_,.s _::_,.l _::_,_,_,_,h=>by simp [hasKs] at h
 | .s::_,.s _::_,.a _::_,_,_,_,h=>by simp [hasKs] at h
 | .i _::_,.i _ _::_,.b _::_,_,_,_,h=>by simp [hasKs] at h
 | .i _::_,.i _ _::_,.s _::_,_,_,_,h=>by simp [hasKs] at h
 | .i _::_,.i _ _::_,.l _::_,_,_,_,h=>by simp [hasKs] at h
 | .i _::_,.i _ _::_,.a _::_,_,_,_,h=>by simp [hasKs] at h

def valOf (P:Program) (t:TypeId) (xs:List Value):Value:=if aggP P t then .agg xs.toArray else xs.getD 0 undef

section
variable {K:Nat→Prop} {h:Array Obj} {P:Program} (w:World)
theorem run_part {t:TypeId} {n:Nat} (hn:szP P t=some n) {d:TypeDesc} (hd:P.underlying t=some d) (xs:List Value) (off:Nat) (hl:off+n≤xs.length) (h1:aggP P t=false→n=1) :
  (part t xs.toArray off).run P w=.ok (valOf P t ((xs.drop off).take n)) w:=by
 unfold szP at hn
 cases hi:P.info? t with
 | none=>simp [hi] at hn
 | some i =>
  simp [hi] at hn
  have hag:(isAgg t).run P w=.ok (aggP P t) w:=by
   simp only [isAgg,underlying,aggP,Sem.run_bind,run_program,Result.andThen_ok,hd]
   cases d <;> rfl
  unfold part valOf
  simp only [Sem.run_bind,hag,Result.andThen_ok]
  cases ha:aggP P t
  ·have h1':=h1 ha
   subst h1'
   have hj:off < xs.length:=by omega
   simp [List.getElem?_eq_getElem hj,List.getD,List.getElem?_drop]
  ·simp only [if_true,sizeOf,typeInfo,Sem.run_bind,run_program,Result.andThen_ok,hi,Sem.run_pure,hn]
   simp
mutual
theorem run_eqKs:∀ (d:Nat) {t:TypeId} {ks:List Kd} (e:Nat) {xs ys:List Value} {ds es:List Dt},eqKs P d t=some ks→DRs K h xs ds→DRs K h ys es→hasKs ks ds→hasKs ks es →
  (Op.equalIn (d+e) t (valOf P t xs) (valOf P t ys)).run P w=.ok (eqRow ds es) w
 | 0,t,ks,e,xs,ys,ds,es,hk,_,_,_,_=>by simp [eqKs] at hk
 | d+1,t,ks,e,xs,ys,ds,es,hk,hx,hy,h1,h2=>by
  rw [show d+1+e=(d+e)+1 by omega]
  unfold eqKs at hk
  split at hk
  ·rename_i hu
   split at hk
   rotate_left
   ·cases hk
   cases hk
   match ds,es,h1,h2 with
   | [.b x],[.b y],_,_ =>
    simp only [DRs,DR] at hx hy
    obtain ⟨_,_,rfl,rfl,rfl⟩:=hx
    obtain ⟨_,_,rfl,rfl,rfl⟩:=hy
    simp [valOf,aggP,hu,run_equalIn_bool' _ _ _ _ _ hu,eqRow,beq_dec]
  ·rename_i k hu
   split at hk
   rotate_left
   ·cases hk
   cases hk
   match ds,es,h1,h2 with
   | [.i k1 x],[.i k2 y],h1,h2 =>
    simp only [hasKs] at h1 h2
    obtain ⟨rfl,_⟩:=h1
    obtain ⟨rfl,_⟩:=h2
    simp only [DRs,DR] at hx hy
    obtain ⟨_,_,rfl,⟨rfl,_⟩,rfl⟩:=hx
    obtain ⟨_,_,rfl,⟨rfl,_⟩,rfl⟩:=hy
    simp [valOf,aggP,hu,run_equalIn_int _ _ _ _ _ _ _ hu,eqRow,beq_dec]
  ·rename_i hu
   split at hk
   rotate_left
   ·cases hk
   cases hk
   match ds,es,h1,h2 with
   | [.s x],[.s y],_,_ =>
    simp only [DRs,DR] at hx hy
    obtain ⟨_,_,rfl,⟨rfl,_⟩,rfl⟩:=hx
    obtain ⟨_,_,rfl,⟨rfl,_⟩,rfl⟩:=hy
    simp [valOf,aggP,hu,run_equalIn_string _ _ _ _ _ hu,eqRow,beq_dec]
  ·rename_i fs hu
   have hag:aggP P t=true:=by simp [aggP,hu]
   have hfo:P.fieldsOf t=fs:=by simp [Program.fieldsOf,hu]
   split at hk
   ·cases hk
   rename_i hp
   split at hk
   ·rename_i l hl
    split at hk
    ·cases hk
     simp only [valOf,hag,if_true]
     rw [run_equalIn_struct w (d+e) t _ _ (by rw [hfo]; exact hu) (by simpa using hp),hfo]
     have:=run_eqFs d e (xs:=xs) (ys:=ys) 0 (Nat.zero_le _) (Nat.zero_le _) hl (by simpa using hx) (by simpa using hy) h1 h2
     simpa using this
    ·cases hk
   ·cases hk
  ·cases hk
theorem run_eqFs:∀ (d:Nat) (e:Nat) {fs:List Field} {ks:List Kd} {xs ys:List Value} {ds es:List Dt} (off:Nat),off≤xs.length→off≤ys.length→eqFs P d off fs=some ks→DRs K h (xs.drop off) ds→DRs K h (ys.drop off) es→hasKs ks ds→hasKs ks es →
  (Op.eqFields (d+e) xs.toArray ys.toArray fs).run P w=.ok (eqRow ds es) w
 | d,e,[],ks,xs,ys,ds,es,off,_,_,hk,_,_,h1,h2=>by
  cases d <;> (simp only [eqFs] at hk; cases hk)
  all_goals
   match ds,es,h1,h2 with
   | [],[],_,_=>simp [Op.eqFields,eqRow]
 | 0,e,f::fs,ks,xs,ys,ds,es,off,_,_,hk,_,_,_,_=>by simp [eqFs] at hk
 | d+1,e,f::fs,ks,xs,ys,ds,es,off,ox,oy,hk,hx,hy,h1,h2=>by
  unfold eqFs at hk
  split at hk
  ·cases hk
  rename_i hn
  have hname:¬ f.name= "_":=fun e=>hn (.inl e)
  have hoff:f.offset=off:=Decidable.byContradiction fun e=>hn (.inr e)
  split at hk
  ·rename_i l hl
   split at hk
   ·rename_i l' hl'
    cases hk
    obtain ⟨h1a,h1b⟩:=hasKs_append h1
    obtain ⟨h2a,h2b⟩:=hasKs_append h2
    have lx:=hasKs_length h1
    have ly:=hasKs_length h2
    have lx':=hx.length
    have ly':=hy.length
    simp only [List.length_drop,List.length_append] at lx ly lx' ly'
    obtain ⟨hsz,hone,du,hdu⟩:=eqKs_info d hl
    have hpx:=run_part (P:=P) w hsz hdu xs off (by omega) hone
    have hpy:=run_part (P:=P) w hsz hdu ys off (by omega) hone
    have hq:=run_eqKs d (t:=f.type) (e+1) hl (hx.take l.length) (hy.take l.length) h1a h2a
    have hr:=run_eqFs d (e+1) (xs:=xs) (ys:=ys) (off+l.length) (by omega) (by omega) hl' (by simpa [List.drop_drop] using hx.drop l.length) (by simpa [List.drop_drop] using hy.drop l.length) h1b h2b
    have hrow:eqRow ds es=(eqRow (ds.take l.length) (es.take l.length) && eqRow (ds.drop l.length) (es.drop l.length)):=by
     rw [← eqRow_split _ _ h1a h2a,List.take_append_drop,List.take_append_drop]
    rw [hrow]
    rw [show d+1+e=d+(e+1) by omega]
    simp only [Op.eqFields,hname,ne_eq,not_false_eq_true,if_true,hoff,Sem.run_bind,hpx,hpy,hq,Result.andThen_ok]
    cases hb:eqRow (ds.take l.length) (es.take l.length)
    ·simp
    ·simpa using hr
   ·cases hk
  ·cases hk
theorem eqKs_info:∀ (d:Nat) {t:TypeId} {ks:List Kd},eqKs P d t=some ks→szP P t=some ks.length∧(aggP P t=false→ks.length=1)∧∃ u,P.underlying t=some u
 | 0,t,ks,hk=>by simp [eqKs] at hk
 | d+1,t,ks,hk=>by
  unfold eqKs at hk
  split at hk
  ·rename_i hu
   split at hk
   ·rename_i hs; cases hk; exact ⟨hs,fun _=>rfl,_,hu⟩
   ·cases hk
  ·rename_i hu
   split at hk
   ·rename_i hs; cases hk; exact ⟨hs,fun _=>rfl,_,hu⟩
   ·cases hk
  ·rename_i hu
   split at hk
   ·rename_i hs; cases hk; exact ⟨hs,fun _=>rfl,_,hu⟩
   ·cases hk
  ·rename_i fs hu
   split at hk
   ·cases hk
   split at hk
   ·rename_i l hl
    split at hk
    ·rename_i hs; cases hk; exact ⟨hs,fun h=>by simp [aggP,hu] at h,_,hu⟩
    ·cases hk
   ·cases hk
  ·cases hk
end

theorem run_itemsI {e:TypeId} {k:IntKind} (hu:P.underlying e=some (.int k)) (hn:szP P e=some 1) (d:Nat) (xs ys:List Value):∀ (m off:Nat) (ds es:List Dt),DRs K h (xs.drop off) ds→DRs K h (ys.drop off) es→hasKs (List.replicate m (.i k)) ds→hasKs (List.replicate m (.i k)) es →
  (Op.eqItems (d+1) e 1 xs.toArray ys.toArray (List.range' off m)).run P w=.ok (eqRow ds es) w
 | 0,off,ds,es,_,_,h1,h2=>by
  match ds,es,h1,h2 with
  | [],[],_,_=>simp [Op.eqItems,eqRow]
 | m+1,off,ds,es,hx,hy,h1,h2=>by
  rw [List.replicate_succ] at h1 h2
  match ds,es,h1,h2 with
  | .i k1 x::ds,.i k2 y::es,h1,h2 =>
   simp only [hasKs] at h1 h2
   obtain ⟨rfl,h1⟩:=h1
   obtain ⟨rfl,h2⟩:=h2
   have lx:=hx.length
   have ly:=hy.length
   simp only [List.length_drop,List.length_cons] at lx ly
   have hag:aggP P e=false:=by simp [aggP,hu]
   have px:=run_part (P:=P) w hn hu xs off (by omega) fun _=>rfl
   have py:=run_part (P:=P) w hn hu ys off (by omega) fun _=>rfl
   have hx1:=hx.take 1
   have hy1:=hy.take 1
   simp only [List.take_succ_cons,List.take_zero,DRs,DR] at hx1 hy1
   obtain ⟨_,_,ex,⟨rfl,_⟩,rfl⟩:=hx1
   obtain ⟨_,_,ey,⟨rfl,_⟩,rfl⟩:=hy1
   have hr:=run_itemsI hu hn d xs ys m (off+1) ds es (by simpa [List.drop_drop] using hx.drop 1) (by simpa [List.drop_drop] using hy.drop 1) h1 h2
   rw [List.range'_succ]
   simp only [valOf,hag,ex,ey,Bool.false_eq_true,if_false,List.getD_cons_zero] at px py
   simp only [Op.eqItems,Nat.mul_one,Sem.run_bind,px,py,Result.andThen_ok,run_equalIn_int _ _ _ _ _ _ _ hu]
   by_cases e:x=y
   ·subst e; simpa [eqRow] using hr
   ·simp [eqRow,e]
theorem run_eqTyP {t:TypeId} {ks:List Kd} (hk:eqTyP P t=some ks) (ha:aggP P t=true) {xs ys:List Value} {ds es:List Dt} (hx:DRs K h xs ds) (hy:DRs K h ys es) (h1:hasKs ks ds) (h2:hasKs ks es) (x y:Operand) :
  (do eqGuard .eql t x y (.agg xs.toArray) (.agg ys.toArray); binOp .eql t (.agg xs.toArray) (.agg ys.toArray):Sem Value).run P w=.ok (.bool (eqRow ds es)) w ∧
  (do eqGuard .neq t x y (.agg xs.toArray) (.agg ys.toArray); binOp .neq t (.agg xs.toArray) (.agg ys.toArray):Sem Value).run P w=.ok (.bool (!eqRow ds es)) w:=by
 unfold eqTyP at hk
 split at hk
 ·cases hk
 rename_i hg
 have hg':P.eqGuardType P.depth t=false:=by simpa using hg
 have hq:(Op.equalIn (60+9940) t (.agg xs.toArray) (.agg ys.toArray)).run P w=.ok (eqRow ds es) w:=by
  split at hk
  ·rename_i l hl
   cases hk
   unfold eqArr at hl
   split at hl
   rotate_left
   ·cases hl
   rename_i n e hu
   split at hl
   rotate_left
   ·cases hl
   rename_i k hk
   split at hl
   rotate_left
   ·cases hl
   rename_i hs
   cases hl
   obtain ⟨i,hi,_⟩:=Option.map_eq_some_iff.1 hs.1
   rw [show 60+9940=9999+1 from rfl,run_equalIn_array w 9999 _ _ hu hi,hs.2,List.range_eq_range']
   exact run_itemsI w hk hs.1 9998 xs ys n 0 ds es hx hy h1 h2
  ·have hq:=run_eqKs (P:=P) w 60 (t:=t) 9940 hk hx hy h1 h2
   simpa only [valOf,ha,if_true] using hq
 constructor
 ·simp only [Sem.run_bind,run_eqGuard_agg _ _ _ _ _ _ _ hg',Result.andThen_ok,run_eql_struct]
  rw [show (10000:Nat)=60+9940 from rfl,hq]; rfl
 ·simp only [Sem.run_bind,run_eqGuard_agg _ _ _ _ _ _ _ hg',Result.andThen_ok,run_neq_struct]
  rw [show (10000:Nat)=60+9940 from rfl,hq]; rfl
end
end Go.Vc
/- Operations that leave memory alone: indexes,fields,cuts,conversions,lengths. -/
set_option linter.unusedSectionVars false
namespace Go.Vc
variable [Tabs]

def zr:List Value→List Dt
 | .bool x::l=>.b x::zr l
 | .int k n::l=>.i k n::zr l
 | .string s::l=>.s s.data.toList::zr l
 | .slice none 0 0::l=>.l []::zr l
 | _=>[]
def idxAddrV (ti:Ti) (H:List Ob) (x i:Va):Pv:=match i with
 | .p (.i _ n)=>match ti.kind,x with
  | .slice _ esz _ ez,.p (.l rows)=>⟨.rp (rows.getD n.toNat (zr ez)),(rows.getD n.toNat (zr ez)).length=esz∧0≤n∧n < rows.length⟩
  | .slice _ esz _ ez,.full rows=>⟨.rp (rows.getD n.toNat (zr ez)),(rows.getD n.toNat (zr ez)).length=esz∧0≤n∧n < rows.length⟩
  | .slice _ esz _ _,.buf o=>match bufAt H o with
   | some (_,sz,rows,_)=>⟨.el o sz n.toNat 0,sz=esz∧0≤n∧n < rows.length⟩
   | none=>match obAt H o with
    | .nst _ _ sz _ _ rows _=>⟨.el o sz n.toNat 0,sz=esz∧0≤n∧n < rows.length⟩
    | _=>bad
  | .slice _ esz _ _,.nv p j=>match obAt H p with
   | .inn _ sz ins=>⟨.ne p sz j n.toNat 0,sz=esz∧0≤n∧n < (ins.getD j []).length⟩
   | _=>bad
  | .slice _ esz _ _,.vw o sz a m=>match bufAt H o with
   | some (_,sz',_,_)=>⟨.el o sz (a+n.toNat) 0,sz=esz∧sz=sz'∧0≤n∧n < m⟩
   | none=>bad
  | .slice _ esz _ _,.cs o m=>⟨.ptr o n.toNat,esz=1∧0≤n∧n < m⟩
  | .arr len _ esz _,.ptr o off=>match obAt H o with
   | .buf _ sz rows=>⟨.el o sz n.toNat 0,sz=esz∧off=0∧len=rows.length∧0≤n∧n < len⟩
   | _=>⟨.ptr o (off+n.toNat * esz),0≤n∧n < len⟩
  | .arr len _ esz _,.rp row=>⟨.rp (row.drop (n.toNat * esz)),0≤n∧n < len⟩
  | .arr len _ esz _,.raw (.pointer (some ⟨b,0,none⟩))=>match Tabs.tab b with
   | some (k,l)=>⟨.rp [.i k (l.getD n.toNat 0)],esz=1∧l.length=len∧0≤n∧n < len⟩
   | none=>bad
  | _,_=>bad
 | _=>bad
def fieldAddrV (ti:Ti) (f:Nat) (x:Va):Pv:=match ti.kind with
 | .struct fs=>match fs[f]? with
  | some (fo,fsz,_)=>match x with
   | .ptr o off=>⟨.ptr o (off+fo),0 < fsz⟩
   | .rp row=>⟨.rp (row.drop fo),0 < fsz⟩
   | .el o sz i off=>⟨.el o sz i (off+fo),0 < fsz⟩
   | .ne o sz i j off=>⟨.ne o sz i j (off+fo),0 < fsz⟩
   | _=>bad
  | none=>bad
 | _=>bad
def fieldV (ti:Ti) (f:Nat) (x:Va):Pv:=match ti.kind,x with
 | .struct fs,.agg cs=>match fs[f]? with
  | some (fo,fsz,ag)=>bif ag then ⟨.agg ((cs.drop fo).take fsz),True⟩ else ⟨atV cs fo,fo < cs.length⟩
  | none=>bad
 | _,_=>bad
def indexV (ti:Ti) (x i:Va):Pv:=match ti.kind,x,i with
 | .str,.p (.s s),.p (.i _ n)=>⟨.p (.i .u8 (s.getD n.toNat 0).toNat),0≤n∧n < s.length⟩
 | .arr len _ esz ag,.agg cs,.p (.i _ n)=>bif ag then ⟨.agg ((cs.drop (n.toNat * esz)).take esz),0≤n∧n < len⟩ else ⟨atV cs (n.toNat * esz),0≤n∧n < len∧n.toNat * esz < cs.length⟩
 | _,_,_=>bad
def extractV (x:Va) (i:Nat):Pv:=match x with
 | .tup vs=>⟨atV vs i,i < vs.length⟩
 | _=>bad

theorem atV_get {l:List Va} {j:Nat} (h:j < l.length):l[j]?=some (atV l j):=by
 unfold atV
 rw [List.drop_eq_getElem_cons h]
 exact List.getElem?_eq_getElem h

theorem fieldsP_get {P:Program}:∀ {fs:List Field} {l:List (Nat × Nat × Bool)},fieldsP P fs=some l→∀ {f:Nat} {x:Nat × Nat × Bool},l[f]?=some x→∃ fd,fs[f]?=some fd∧fd.offset=x.1∧szP P fd.type=some x.2.1∧aggP P fd.type=x.2.2∧∃ d,P.underlying fd.type=some d
 | [],l,h,f,x,hx=>by simp only [fieldsP] at h; cases h; simp at hx
 | fd::fs,l,h,f,x,hx=>by
  simp only [fieldsP] at h
  split at h
  ·rename_i n d l' h1 h3 h2
   cases h
   cases f with
   | zero=>simp at hx; subst hx; exact ⟨fd,rfl,rfl,h1,rfl,_,h3⟩
   | succ f=>simp at hx; simpa using fieldsP_get h2 hx
  ·cases h

section
variable {K:Nat→Prop} {G:List Gh} {H:List Ob} {w:World} {P:Program}

theorem tk_struct {t:TypeId} {ti:Ti} (ht:tiP P t=some ti) {fs:List (Nat × Nat × Bool)} (hk:ti.kind=.struct fs):∃ fields,P.underlying t=some (.struct fields)∧fieldsP P fields.toList=some fs:=by
 obtain ⟨d,h1,h2,h3⟩:=tiP_under ht
 rw [hk] at h2
 cases d <;> simp only [tkP] at h2 <;> try (cases h2)
 case slice e=>split at h2 <;> cases h2
 case array n e=>split at h2 <;> cases h2
 case struct fields =>
  split at h2
  ·cases h2; exact ⟨fields,h1,by assumption⟩
  ·cases h2
theorem tk_slice {t:TypeId} {ti:Ti} (ht:tiP P t=some ti) {e esz eb:Nat} {ez:List Value} (hk:ti.kind=.slice e esz eb ez):P.underlying t=some (.slice e)∧(∃ i,P.info? e=some i∧i.size=esz∧i.bytes=eb)∧zeroP P e=some ez:=by
 obtain ⟨d,h1,h2,h3⟩:=tiP_under ht
 rw [hk] at h2
 cases d <;> simp only [tkP] at h2 <;> try (cases h2)
 case array n e=>split at h2 <;> cases h2
 case struct fields=>split at h2 <;> cases h2
 case slice e' =>
  split at h2
  ·cases h2; exact ⟨h1,⟨_,by assumption,rfl,rfl⟩,by assumption⟩
  ·cases h2
theorem tk_arr {t:TypeId} {ti:Ti} (ht:tiP P t=some ti) {n e esz:Nat} {ag:Bool} (hk:ti.kind=.arr n e esz ag):P.underlying t=some (.array n e)∧szP P e=some esz∧aggP P e=ag∧∃ d,P.underlying e=some d:=by
 obtain ⟨d,h1,h2,h3⟩:=tiP_under ht
 rw [hk] at h2
 cases d <;> simp only [tkP] at h2 <;> try (cases h2)
 case slice e=>split at h2 <;> cases h2
 case struct fields=>split at h2 <;> cases h2
 case array n' e' =>
  split at h2
  ·cases h2; exact ⟨h1,by assumption,rfl,_,by assumption⟩
  ·cases h2
theorem tk_str {t:TypeId} {ti:Ti} (ht:tiP P t=some ti) (hk:ti.kind=.str):P.underlying t=some .string:=by
 obtain ⟨d,h1,h2,h3⟩:=tiP_under ht
 rw [hk] at h2
 cases d <;> simp only [tkP] at h2 <;> try (cases h2)
 case slice e=>split at h2 <;> cases h2
 case array n e=>split at h2 <;> cases h2
 case struct fields=>split at h2 <;> cases h2
 case string=>exact h1
theorem tk_int {t:TypeId} {ti:Ti} {k:IntKind} (ht:tiP P t=some ti) (hk:ti.kind=.int k):P.underlying t=some (.int k):=by
 obtain ⟨d,h1,h2,h3⟩:=tiP_under ht
 rw [hk] at h2
 cases d <;> simp only [tkP] at h2 <;> try (cases h2)
 case slice e=>split at h2 <;> cases h2
 case array n e=>split at h2 <;> cases h2
 case struct fields=>split at h2 <;> cases h2
 case int=>exact h1

theorem run_sizeOf' {t:TypeId} {n:Nat} (h:szP P t=some n):(sizeOf t).run P w=.ok n w:=by
 unfold szP at h
 cases hi:P.info? t with
 | none=>simp [hi] at h
 | some i=>simp [hi] at h; simp [sizeOf,typeInfo,hi,h]

theorem rp_drop {h:Array Obj} {b off:Nat} {cs:Array Value} {T:TypeId} {fr:Nat × Nat} {vs:List Value} {row:List Dt} (hK:K b) (hb:h[b]?=some (.cells cs T fr)) (hv:∀ j v,vs[j]?=some v→cs[off+j]?=some v) (hd:DRs K h vs row) (n:Nat) :
  VR K h G (.pointer (some ⟨b,off+n,none⟩)) (.rp (row.drop n)):=by
 simp only [VR]
 exact ⟨b,off+n,cs,T,fr,vs.drop n,rfl,hK,hb,fun j v hj=>by rw [List.getElem?_drop] at hj; rw [Nat.add_assoc]; exact hv _ v hj,hd.drop n⟩

theorem l_row {h:Array Obj} {c:Value} {rows:List (List Dt)} (hc:DR K h c (.l rows)) {i:Nat} (hi:i < rows.length) (z:List Dt) :
  ∃ b off cap,c=.slice (some ⟨b,off,none⟩) rows.length cap∧VR K h G (.pointer (some ⟨b,off+i * (rows.getD i z).length,none⟩)) (.rp (rows.getD i z)):=by
 simp only [DR] at hc
 rcases hc with ⟨_,rfl⟩ | ⟨b,off,cap,cs,T,fr,sz,vs,rfl,hK,hb,_,_,hv,hd⟩
 ·simp at hi
 obtain ⟨h1,h2⟩:=hd.get i hi
 rw [show rows.getD i []=rows.getD i z by simp [List.getD_eq_getElem?_getD,hi]] at h1 h2
 refine ⟨b,off,cap,rfl,?_⟩
 simp only [VR]
 rw [h2]
 refine ⟨b,off+i * sz,cs,T,fr,_,rfl,hK,hb,fun j v hj=>?_,h1⟩
 rw [List.getElem?_take] at hj
 split at hj
 ·rw [List.getElem?_drop] at hj; rw [Nat.add_assoc]; exact hv _ v hj
 ·cases hj

theorem idxAddrV_ok {t:TypeId} {ti:Ti} (ht:tiP P t=some ti) (hS:St K G H w) {c ci:Value} {x i:Va} (hc:VR K w.heap G c x) (hi:VR K w.heap G ci i) (hok:(idxAddrV ti H x i).ok) :
  ∃ c',(Instr.indexAt t c ci).run P w=.ok c' w∧VR K w.heap G c' (idxAddrV ti H x i).v:=by
 unfold idxAddrV at hok ⊢
 split at hok
 rotate_left
 ·exact hok.elim
 rename_i k n
 simp only [VR,DR] at hi
 obtain ⟨rfl,_⟩:=hi
 have slice_run:∀ {e esz eb:Nat} {ez:List Value},ti.kind=.slice e esz eb ez→∀ {b off m cap:Nat},0≤n→n < m→(Instr.indexAt t (.slice (some ⟨b,off,none⟩) m cap) (.int k n)).run P w=.ok (.pointer (some ⟨b,off+n.toNat * esz,none⟩)) w:=by
  intro e esz eb ez hk b off m cap h0 h1
  obtain ⟨hu,⟨i,hi1,hi2,_⟩,_⟩:=tk_slice ht hk
  have hs:(sizeOf e).run P w=.ok esz w:=run_sizeOf' (by simp [szP,hi1,hi2])
  simp [Instr.indexAt,asIntOf,run_underlying hu,h0,h1,hs,addr_add]
 split at hok
 ·rename_i hk
  obtain ⟨he,h0,h1⟩:=hok
  simp only [VR] at hc
  obtain ⟨b,off,cap,rfl,hr⟩:=l_row (G:=G) hc (i:=n.toNat) (by omega) (zr _)
  rw [he] at hr
  exact ⟨_,slice_run hk h0 (by exact h1),hr⟩
 ·rename_i hk
  obtain ⟨he,h0,h1⟩:=hok
  simp only [VR] at hc
  obtain ⟨b,off,cap,rfl,hr⟩:=l_row (G:=G) hc.1 (i:=n.toNat) (by omega) (zr _)
  rw [he] at hr
  exact ⟨_,slice_run hk h0 (by exact h1),hr⟩
 ·rename_i hk
  simp only [VR] at hc
  obtain ⟨g,hg,rfl,_⟩:=hc
  split at hok
  ·rename_i o T sz rows fx hx
   obtain ⟨rfl,h0,h1⟩:=hok
   obtain ⟨hlim,xs,hxs,hh⟩:=hS.bufOb hx hg
   rcases hh with ⟨_,rfl,_⟩ | ⟨b,cap,cur,fr,hsv,hgb,hb,hfr,h4,h5,h6,h7⟩
   ·simp at h1; omega
   refine ⟨_,by rw [hsv]; exact slice_run hk h0 h1,?_⟩
   simp only [VR]
   exact ⟨g,b,_,_,hg,hgb,hsv,by simp⟩
  ·split at hok
   rotate_left
   ·exact hok.elim
   rename_i f T sz k p rows st hx
   obtain ⟨rfl,h0,h1⟩:=hok
   obtain ⟨_,_,gp,vs,_,hvl,_,hlim,xs,hxs,hh⟩:=hS.ob _ g _ hg (obAt_some hx (by simp))
   have hol:=ovl_length (k:=k) hvl
   rcases hh with ⟨_,h0',_⟩ | ⟨b,cap,cur,fr,hsv,hgb,hb,hfr,h4,h5,h6,h7⟩
   ·rw [h0'] at hol; simp at hol; omega
   refine ⟨_,by rw [hsv]; exact slice_run hk h0 (by rw [hol]; exact h1),?_⟩
   simp only [VR]
   exact ⟨g,b,_,_,hg,hgb,hsv,by simp⟩
 ·rename_i hk
  simp only [VR] at hc
  obtain ⟨g,a,m,cap,hg,hgi,rfl⟩:=hc
  split at hok
  rotate_left
  ·exact hok.elim
  rename_i p j _ T sz ins hx
  obtain ⟨rfl,h0,h1⟩:=hok
  obtain ⟨hb0,hl,hin,_⟩:=hS.ob p g _ hg (obAt_some hx (by simp))
  have hil:=(List.getElem?_eq_some_iff.1 hgi).1
  have hins:ins[j]?=some (ins.getD j []):=by rw [List.getElem?_eq_getElem (by omega),List.getD_eq_getElem?_getD,List.getElem?_eq_getElem (by omega)]; rfl
  obtain ⟨hlim,xs,hxs,hh⟩:=hin j _ _ hgi hins
  rcases hh with ⟨_,h0',_⟩ | ⟨b,cap',cur,fr,hsv,hgb,hb,hfr,h4,h5,h6,h7⟩
  ·rw [h0'] at h1; simp at h1; omega
  cases hsv
  cases cap with
  | zero=>omega
  | succ cap =>
   refine ⟨_,slice_run hk h0 h1,?_⟩
   simp only [VR]
   exact ⟨g,b,_,_,hg,hgi,by simp⟩
 ·rename_i hk
  split at hok
  rotate_left
  ·exact hok.elim
  rename_i o sz a m T sz' rows fx hx
  obtain ⟨rfl,rfl,h0,h1⟩:=hok
  simp only [VR] at hc
  obtain ⟨g,ad,N,cap,hg,hsv,haN,ad',cap',rfl,hnc,_,hpos⟩:=hc
  obtain ⟨b,hgb,rfl,rfl⟩:=hpos (by omega)
  refine ⟨_,slice_run hk h0 h1,?_⟩
  simp only [VR]
  exact ⟨g,b,_,_,hg,hgb,hsv,by rw [Nat.add_mul,Nat.add_zero]⟩
 ·rename_i hk
  obtain ⟨rfl,h0,h1⟩:=hok
  simp only [VR] at hc
  obtain ⟨g,b,hg,hgb,rfl⟩:=hc
  refine ⟨_,slice_run hk h0 h1,?_⟩
  simp only [VR]
  exact ⟨g,b,hg,hgb,by rw [Nat.zero_add,Nat.mul_one]⟩
 ·rename_i hk
  simp only [VR] at hc
  obtain ⟨g,b,hg,hgb,rfl⟩:=hc
  obtain ⟨hu,hs,_⟩:=tk_arr ht hk
  split at hok
  ·rename_i T sz rows hx
   obtain ⟨rfl,rfl,hl,h0,h1⟩:=hok
   obtain ⟨hlim,xs,hxs,hh⟩:=hS.ob _ g _ hg (obAt_some hx (by simp))
   rcases hh with ⟨_,_,hn⟩ | ⟨b',cap,cur,fr,hsv,hgb',_⟩
   ·rw [hgb] at hn; cases hn
   obtain rfl:b'=b:=by rw [hgb] at hgb'; exact (Option.some.inj hgb').symm
   refine ⟨_,by simp only [Instr.indexAt,Instr.sureAddr,asIntOf,run_underlying hu,h0,h1,run_sizeOf' hs,addr_add,Sem.run_bind,Sem.run_pure,Result.andThen_ok,true_and,if_true]; rfl,?_⟩
   simp only [VR]
   exact ⟨g,b',_,_,hg,hgb,hsv,by rw [Nat.zero_add,Nat.add_zero]⟩
  ·obtain ⟨h0,h1⟩:=hok
   refine ⟨_,by simp only [Instr.indexAt,Instr.sureAddr,asIntOf,run_underlying hu,h0,h1,run_sizeOf' hs,addr_add,Sem.run_bind,Sem.run_pure,Result.andThen_ok,true_and,if_true]; rfl,?_⟩
   simp only [VR]
   exact ⟨g,b,hg,hgb,rfl⟩
 ·rename_i hk
  simp only [VR] at hc
  obtain ⟨b,off,cs,T,fr,vs,rfl,hK,hb,hv,hd⟩:=hc
  obtain ⟨hu,hs,_⟩:=tk_arr ht hk
  obtain ⟨h0,h1⟩:=hok
  exact ⟨_,by simp only [Instr.indexAt,Instr.sureAddr,asIntOf,run_underlying hu,h0,h1,run_sizeOf' hs,addr_add,Sem.run_bind,Sem.run_pure,Result.andThen_ok,true_and,if_true],rp_drop hK hb hv hd _⟩
 ·rename_i hk
  split at hok
  rotate_left
  ·exact hok.elim
  rename_i kk l ht0
  obtain ⟨he,hlen,h0,h1⟩:=hok
  subst he
  simp only [VR] at hc
  subst hc
  obtain ⟨hu,hs,_⟩:=tk_arr ht hk
  obtain ⟨hK,⟨T,fr,hb⟩,hfit⟩:=hS.tb.1 _ _ _ ht0
  have hn:n.toNat < l.length:=by omega
  refine ⟨_,by simp only [Instr.indexAt,Instr.sureAddr,asIntOf,run_underlying hu,h0,h1,run_sizeOf' hs,addr_add,Sem.run_bind,Sem.run_pure,Result.andThen_ok,true_and,if_true]; rfl,?_⟩
  simp only [VR]
  refine ⟨_,_,_,T,fr,[.int kk (l.getD n.toNat 0)],rfl,hK,hb,fun j v hj=>?_,?_⟩
  ·cases j with
   | succ j=>simp at hj
   | zero =>
    simp at hj
    subst hj
    simp [List.getElem?_eq_getElem hn]
  ·simp only [DRs,DR]
   refine ⟨_,[],rfl,⟨rfl,hfit _ ?_⟩,rfl⟩
   simp [List.getElem?_eq_getElem hn]
 ·exact hok.elim

theorem fieldAddrV_ok {t:TypeId} {ti:Ti} (ht:tiP P t=some ti) {f:Nat} {c:Value} {x:Va} (hc:VR K w.heap G c x) (hok:(fieldAddrV ti f x).ok) :
  ∃ c',(Instr.fieldAt t c f).run P w=.ok c' w∧VR K w.heap G c' (fieldAddrV ti f x).v:=by
 unfold fieldAddrV at hok ⊢
 split at hok
 rotate_left
 ·exact hok.elim
 rename_i fs hk
 split at hok
 rotate_left
 ·exact hok.elim
 rename_i fo fsz ag hf
 obtain ⟨fields,hu,hfs⟩:=tk_struct ht hk
 obtain ⟨fd,hfd,ho,hsz,_⟩:=fieldsP_get hfs hf
 simp only at ho hsz
 have hfd':fields[f]?=some fd:=by simpa using hfd
 have run:∀ (b off:Nat),0 < fsz→(Instr.fieldAt t (.pointer (some ⟨b,off,none⟩)) f).run P w=.ok (.pointer (some ⟨b,off+fo,none⟩)) w:=by
  intro b off h0
  have:¬ fsz=0:=by omega
  simp [Instr.fieldAt,Instr.sureAddr,run_underlying hu,hfd',fieldPlace,run_sizeOf' hsz,this,addr_add,ho]
 split at hok
 ·simp only [VR] at hc
  obtain ⟨g,b,hg,hgb,rfl⟩:=hc
  exact ⟨_,run _ _ hok,by simp only [VR]; exact ⟨g,b,hg,hgb,rfl⟩⟩
 ·simp only [VR] at hc
  obtain ⟨b,off,cs,T,fr,vs,rfl,hK,hb,hv,hd⟩:=hc
  exact ⟨_,run _ _ hok,rp_drop hK hb hv hd _⟩
 ·simp only [VR] at hc
  obtain ⟨g,b,n,cap,hg,hgb,hsv,rfl⟩:=hc
  exact ⟨_,run _ _ hok,by simp only [VR]; exact ⟨g,b,n,cap,hg,hgb,hsv,by rw [Nat.add_assoc]⟩⟩
 ·simp only [VR] at hc
  obtain ⟨g,b,n,cap,hg,hgi,rfl⟩:=hc
  exact ⟨_,run _ _ hok,by simp only [VR]; exact ⟨g,b,n,cap,hg,hgi,by rw [Nat.add_assoc]⟩⟩
 ·exact hok.elim

theorem run_part' {t:TypeId} {n:Nat} (hn:szP P t=some n) {d:TypeDesc} (hd:P.underlying t=some d) (cs:List Value) (off:Nat) :
  (aggP P t=true→(part t cs.toArray off).run P w=.ok (.agg ((cs.drop off).take n).toArray) w)∧(aggP P t=false→∀ c,cs[off]?=some c→(part t cs.toArray off).run P w=.ok c w):=by
 have hag:(isAgg t).run P w=.ok (aggP P t) w:=by
  simp only [isAgg,underlying,aggP,Sem.run_bind,run_program,Result.andThen_ok,hd]
  cases d <;> rfl
 constructor
 ·intro ha
  simp only [part,Sem.run_bind,hag,ha,Result.andThen_ok,if_true,run_sizeOf' hn]
  simp
 ·intro ha c hc
  simp [part,hag,ha,hc]

theorem fieldV_ok {t:TypeId} {ti:Ti} (ht:tiP P t=some ti) {f:Nat} {c:Value} {x:Va} (hc:VR K w.heap G c x) (hok:(fieldV ti f x).ok) :
  ∃ c',(Instr.field t c f).run P w=.ok c' w∧VR K w.heap G c' (fieldV ti f x).v:=by
 unfold fieldV at hok ⊢
 split at hok
 rotate_left
 ·exact hok.elim
 rename_i fs cs hk
 split at hok
 rotate_left
 ·exact hok.elim
 rename_i fo fsz ag hf
 obtain ⟨fields,hu,hfs⟩:=tk_struct ht hk
 obtain ⟨fd,hfd,ho,hsz,hag,d,hd⟩:=fieldsP_get hfs hf
 simp only at ho hsz hag
 have hfd':fields[f]?=some fd:=by simpa using hfd
 simp only [VR] at hc
 obtain ⟨vs,rfl,hvs⟩:=hc
 obtain ⟨h1,h2⟩:=run_part' (w:=w) hsz hd vs fo
 have run:∀ r,(part fd.type vs.toArray fo).run P w=.ok r w→(Instr.field t (.agg vs.toArray) f).run P w=.ok r w:=by
  intro r hr
  simp only [Instr.field,run_underlying hu,hfd',asAgg,Sem.run_bind,Sem.run_pure,Result.andThen_ok,ho,hr]
 cases ag <;> simp only [cond_true,cond_false] at hok ⊢
 ·obtain ⟨c,hc1,hc2⟩:=hvs.get fo _ (atV_get hok)
  exact ⟨c,run _ (h2 hag c hc1),hc2⟩
 ·refine ⟨_,run _ (h1 hag),?_⟩
  simp only [VR]
  exact ⟨_,rfl,(hvs.drop _).take _⟩

theorem indexV_ok {t:TypeId} {ti:Ti} (ht:tiP P t=some ti) {c ci:Value} {x i:Va} (hc:VR K w.heap G c x) (hi:VR K w.heap G ci i) (hok:(indexV ti x i).ok) :
  ∃ c',(Instr.index t c ci).run P w=.ok c' w∧VR K w.heap G c' (indexV ti x i).v:=by
 unfold indexV at hok ⊢
 split at hok
 ·rename_i s k n hk
  simp only [VR,DR] at hi hc
  obtain ⟨rfl,_⟩:=hi
  obtain ⟨rfl,_⟩:=hc
  obtain ⟨h0,h1⟩:=hok
  have hu:=tk_str ht hk
  have hn:n.toNat < s.length:=by omega
  have hsz:(⟨s.toArray⟩:ByteArray).size=s.length:=by simp [ByteArray.size]
  rw [run_index_string w t _ k n hu,dif_pos ⟨h0,by rw [hsz]; exact h1⟩]
  refine ⟨_,rfl,?_⟩
  have e:((⟨s.toArray⟩:ByteArray)[n.toNat]'(by rw [hsz]; exact hn))=s.getD n.toNat 0:=by
   show s.toArray[n.toNat]=_
   simp [List.getElem?_eq_getElem hn]
  rw [e]
  refine VR_i ⟨by simp [lo],?_⟩
  have:=(s.getD n.toNat 0).toNat_lt
  simp only [hi]
  omega
 ·rename_i len e esz ag cs k n hk
  simp only [VR,DR] at hi hc
  obtain ⟨rfl,_⟩:=hi
  obtain ⟨vs,rfl,hvs⟩:=hc
  obtain ⟨hu,hs,hag,d,hd⟩:=tk_arr ht hk
  obtain ⟨h1,h2⟩:=run_part' (w:=w) hs hd vs (n.toNat * esz)
  cases ag <;> simp only [cond_true,cond_false] at hok ⊢
  ·obtain ⟨h0,hn,hl⟩:=hok
   obtain ⟨c,hc1,hc2⟩:=hvs.get _ _ (atV_get hl)
   exact ⟨c,by simp only [Instr.index,asIntOf,run_underlying hu,h0,hn,run_sizeOf' hs,Sem.run_bind,Sem.run_pure,Result.andThen_ok,true_and,if_true]; exact h2 hag c hc1,hc2⟩
  ·obtain ⟨h0,hn⟩:=hok
   refine ⟨_,by simp only [Instr.index,asIntOf,run_underlying hu,h0,hn,run_sizeOf' hs,Sem.run_bind,Sem.run_pure,Result.andThen_ok,true_and,if_true]; exact h1 hag,?_⟩
   simp only [VR]
   exact ⟨_,rfl,(hvs.drop _).take _⟩
 ·exact hok.elim

theorem extractV_ok {i:Nat} {c:Value} {x:Va} (hc:VR K w.heap G c x) (hok:(extractV x i).ok) :
  ∃ c',(Instr.extract c i).run P w=.ok c' w∧VR K w.heap G c' (extractV x i).v:=by
 unfold extractV at hok ⊢
 split at hok
 ·simp only [VR] at hc
  obtain ⟨vs,rfl,hvs⟩:=hc
  obtain ⟨c,hc1,hc2⟩:=hvs.get i _ (atV_get hok)
  exact ⟨c,by simp [Instr.extract,hc1],hc2⟩
 ·exact hok.elim
end
end Go.Vc
/- Operations that leave memory alone: cuts,conversions,lengths,literals of structs; and all of them under one name. -/
set_option linter.unusedSectionVars false
namespace Go.Vc
variable [Tabs]

def cutS {α:Type} (x:List α):Option Nat→Option Nat→List α
 | none,none=>x
 | some a,none=>x.drop a
 | none,some b=>x.take b
 | some a,some b=>(x.drop a).take (b - a)
def placeI:Option Va→Option Nat
 | some (.p (.i _ n))=>some n.toNat
 | _=>none
def bndOk (m:Nat):Option Va→Prop
 | none=>True
 | some (.p (.i _ n))=>0≤n∧n≤m
 | some _=>False
def leOk:Option Va→Option Va→Prop
 | some (.p (.i _ a)),some (.p (.i _ b))=>a≤b
 | _,_=>True
def sliceV (x:Va) (l h m:Option Va):Pv:=match m with
 | none=>match x with
  | .p (.s s)=>⟨.p (.s (cutS s (placeI l) (placeI h))),bndOk s.length l∧bndOk s.length h∧leOk l h⟩
  | .p (.l rows)=>⟨.p (.l (cutS rows (placeI l) (placeI h))),bndOk rows.length l∧bndOk rows.length h∧leOk l h⟩
  | .full rows=>⟨.p (.l (cutS rows (placeI l) (placeI h))),bndOk rows.length l∧bndOk rows.length h∧leOk l h⟩
  | .nils=>⟨.nils,bndOk 0 l∧bndOk 0 h⟩
  | _=>bad
 | some (.p (.i _ c))=>match x,h with
  | .p (.l rows),some (.p (.i _ b))=>⟨.full (cutS rows (placeI l) (some b.toNat)),b=c∧bndOk rows.length l∧0≤b∧b≤rows.length∧leOk l h⟩
  | _,_=>bad
 | _=>bad

section
variable {K:Nat→Prop} {G:List Gh} {H:List Ob} {w:World} {P:Program}

def BR (K:Nat→Prop) (h:Array Obj) (G:List Gh) (c:Option Value) (x:Option Va):Prop:=match c,x with
 | none,none=>True
 | some c,some x=>VR K h G c x
 | _,_=>False
theorem BR_num {h:Array Obj} {c:Option Value} {x:Option Va} (hb:BR K h G c x) {m:Nat} (hx:bndOk m x) :
  (c=none∧x=none) ∨ ∃ k n,c=some (.int k n)∧x=some (.p (.i k n))∧0≤n∧n≤m:=by
 cases x with
 | none=>cases c <;> simp_all [BR]
 | some x =>
  cases c with
  | none=>simp [BR] at hb
  | some c =>
   unfold bndOk at hx
   split at hx
   ·rename_i h; cases h
   ·rename_i k n h
    cases h
    simp only [BR,VR,DR] at hb
    exact .inr ⟨k,n,by rw [hb.1],rfl,hx.1,hx.2⟩
   ·exact hx.elim

theorem run_sliceBounds (isS:Bool) (len cap:Nat) (hlc:len≤cap) {cl ch:Option Value} {l h:Option Va} {hp:Array Obj} (hl:BR K hp G cl l) (hh:BR K hp G ch h) (h1:bndOk len l) (h2:bndOk len h) (h3:leOk l h) :
  ∃ a b,(Instr.sliceBounds isS len cap cl ch none).run P w=.ok (a,b,cap) w∧a≤b∧b≤len∧a=(placeI l).getD 0∧b=(placeI h).getD len:=by
 rcases BR_num hl h1 with ⟨rfl,rfl⟩ | ⟨kl,nl,rfl,rfl,hl0,hl1⟩ <;> rcases BR_num hh h2 with ⟨rfl,rfl⟩ | ⟨kh,nh,rfl,rfl,hh0,hh1⟩
 ·exact ⟨0,len,by simp [Instr.sliceBounds],by omega,by omega,rfl,rfl⟩
 ·exact ⟨0,nh.toNat,by simp [Instr.sliceBounds,run_sliceBound _ _ _ _ _ hh0 (show nh≤(cap:Int) by omega)],by omega,by omega,rfl,rfl⟩
 ·exact ⟨nl.toNat,len,by simp [Instr.sliceBounds,run_sliceBound _ _ _ _ _ hl0 (show nl≤(len:Int) by omega)],by omega,by omega,rfl,rfl⟩
 ·simp only [leOk] at h3
  exact ⟨nl.toNat,nh.toNat,by simp [Instr.sliceBounds,run_sliceBound _ _ _ _ _ hh0 (show nh≤(cap:Int) by omega),run_sliceBound _ _ _ _ _ hl0 (show nl≤(nh.toNat:Int) by omega)],by omega,by omega,rfl,rfl⟩

theorem cutS_eq {α:Type} (x:List α) (l h:Option Nat) (ha:l.getD 0≤h.getD x.length) (hb:h.getD x.length≤x.length):cutS x l h=(x.drop (l.getD 0)).take (h.getD x.length - l.getD 0):=by
 cases l <;> cases h <;> simp [cutS]
 rw [List.take_of_length_le (by simp)]
theorem cutS_length {α:Type} (x:List α) (l h:Option Nat) (ha:l.getD 0≤h.getD x.length) (hb:h.getD x.length≤x.length):(cutS x l h).length=h.getD x.length - l.getD 0:=by
 rw [cutS_eq x l h ha hb]; simp; omega

def szOk (n:Nat) (rows:List (List Dt)):Prop:=∀ r ∈ rows,r.length=n
theorem DRss.sz {hp:Array Obj} {n sz:Nat} {vs:List Value}:∀ {rows:List (List Dt)},DRss K hp sz vs rows→szOk n rows→rows ≠ []→sz=n
 | [],_,_,h=>absurd rfl h
 | r::rs,hd,hs,_=>by
  simp only [DRss] at hd
  obtain ⟨_,_,_,h2,_⟩:=hd
  have:=hs r (by simp)
  omega
theorem l_cut {hp:Array Obj} {b off esz:Nat} {rows:List (List Dt)} (hc:∃ cs T fr sz vs,K b∧hp[b]?=some (.cells cs T fr)∧rows.length≤Lim∧(∀ j v,vs[j]?=some v→cs[off+j]?=some v)∧DRss K hp sz vs rows) (hsz:szOk esz rows) (l h:Option Nat) (ha:l.getD 0≤h.getD rows.length) (hb:h.getD rows.length≤rows.length) (m:Nat) (hm:h.getD rows.length≤m) :
  DR K hp (.slice (some (if m=l.getD 0 then ⟨b,off,none⟩ else (⟨b,off,none⟩:Addr).add (l.getD 0 * esz))) (h.getD rows.length - l.getD 0) (m - l.getD 0)) (.l (cutS rows l h)):=by
 simp only [DR]
 obtain ⟨cs,T,fr,sz,vs,hK,hbl,hlim,hv,hd⟩:=hc
 have hlen:=cutS_length rows l h ha hb
 have hdd:DRss K hp sz ((vs.drop (l.getD 0 * sz)).take ((h.getD rows.length - l.getD 0) * sz)) (cutS rows l h):=by
  rw [cutS_eq rows l h ha hb]
  exact (hd.drop _).take _
 rw [← hlen]
 by_cases hz:m=l.getD 0
 ·have h0:(cutS rows l h).length=0:=by omega
  have h0':cutS rows l h=[]:=List.length_eq_zero_iff.1 h0
  rw [if_pos hz,h0']
  exact .inr ⟨b,off,m - l.getD 0,cs,T,fr,sz,[],rfl,hK,hbl,by simp,by simp,by simp,by simp [DRss]⟩
 ·rw [if_neg hz,addr_add]
  refine .inr ⟨b,off+l.getD 0 * esz,m - l.getD 0,cs,T,fr,sz,_,rfl,hK,hbl,by omega,by omega,fun j v hj=>?_,hdd⟩
  rw [List.getElem?_take] at hj
  split at hj
  ·rw [List.getElem?_drop] at hj
   have:=hv _ v hj
   have hne:rows ≠ []:=by
    rintro rfl
    have:=hd
    simp only [DRss] at this
    subst this
    simp at hj
   rw [← hd.sz hsz hne,Nat.add_assoc]
   exact this
  ·cases hj

theorem sliceV_ok {t:TypeId} {ti:Ti} (ht:tiP P t=some ti) {c:Value} {cl ch cm:Option Value} {x:Va} {l h m:Option Va} (hc:VR K w.heap G c x) (hl:BR K w.heap G cl l) (hh:BR K w.heap G ch h) (hm:BR K w.heap G cm m)
  (hk:ti.kind=.str∧(∃ s,x=.p (.s s)) ∨ (∃ e esz eb ez,ti.kind=.slice e esz eb ez∧((∃ rows,x=.p (.l rows)∧szOk esz rows) ∨ (∃ rows,x=.full rows∧szOk esz rows) ∨ x=.nils)))
  (hok:(sliceV x l h m).ok) :
  ∃ c',(Instr.sliceAt t c cl ch cm).run P w=.ok c' w∧VR K w.heap G c' (sliceV x l h m).v:=by
 rcases hk with ⟨hk,s,rfl⟩ | ⟨e,esz,eb,ez,hk,hx⟩
 ·have hu:=tk_str ht hk
  cases m with
  | some m=>unfold sliceV at hok; cases m <;> first | exact hok.elim | (rename_i d; cases d <;> exact hok.elim)
  | none =>
   cases cm with
   | some cm=>simp [BR] at hm
   | none =>
    simp only [sliceV] at hok ⊢
    obtain ⟨h1,h2,h3⟩:=hok
    simp only [VR,DR] at hc
    obtain ⟨rfl,hlim⟩:=hc
    have hsz:(⟨s.toArray⟩:ByteArray).size=s.length:=by simp [ByteArray.size]
    obtain ⟨a,b,hr,hab,hbl,rfl,rfl⟩:=run_sliceBounds (P:=P) (w:=w) false s.length s.length (Nat.le_refl _) hl hh h1 h2 h3
    refine ⟨_,by simp only [Instr.sliceAt,Instr.slice,run_underlying hu,Sem.run_bind,Result.andThen_ok,Option.isSome_none,Bool.false_eq_true,if_false,Sem.run_pure,hsz,hr]; rfl,?_⟩
    have e:(⟨s.toArray⟩:ByteArray).extract ((placeI l).getD 0) ((placeI h).getD s.length)=⟨(cutS s (placeI l) (placeI h)).toArray⟩:=by
     rw [cutS_eq s _ _ hab hbl]
     apply ByteArray.ext
     rw [ByteArray.data_extract]
     simp
    rw [e]
    refine VR_s ?_
    rw [cutS_length s _ _ hab hbl]; omega
 ·obtain ⟨hu,⟨i,hi1,hi2,hi3⟩,_⟩:=tk_slice ht hk
  have hes:(sizeOf e).run P w=.ok esz w:=run_sizeOf' (by simp [szP,hi1,hi2])
  cases m with
  | none =>
   cases cm with
   | some cm=>simp [BR] at hm
   | none =>
    -- a slice of pure data,not nil or nil
    have main:∀ (rows:List (List Dt)),szOk esz rows→DR K w.heap c (.l rows)→bndOk rows.length l∧bndOk rows.length h∧leOk l h →
      ∃ c',(Instr.sliceAt t c cl ch none).run P w=.ok c' w∧DR K w.heap c' (.l (cutS rows (placeI l) (placeI h))):=by
     intro rows hsz hd ⟨h1,h2,h3⟩
     have hd':=hd
     simp only [DR] at hd'
     rcases hd' with ⟨⟨a0,rfl⟩,rfl⟩ | ⟨b,off,cap,cs,T,fr,sz,vs,rfl,hK,hbl,hle,hlim,hv,hdd⟩
     ·obtain ⟨a,b,hr,hab,hbl,ha',hb'⟩:=run_sliceBounds (P:=P) (w:=w) true 0 0 (Nat.le_refl _) hl hh h1 h2 h3
      have hb0:b=0:=by omega
      have ha0:a=0:=by omega
      subst hb0; subst ha0
      refine ⟨.slice a0 0 0,by cases a0 <;> simp only [Instr.sliceAt,Instr.slice,run_underlying hu,Sem.run_bind,Result.andThen_ok,hr,hes,Sem.run_pure,if_true,Nat.sub_self],?_⟩
      simp only [DR]
      left
      refine ⟨⟨a0,rfl⟩,?_⟩
      have:=cutS_length ([]:List (List Dt)) (placeI l) (placeI h) (by rw [← ha']; omega) (by simp only [List.length_nil]; rw [← hb']; omega)
      exact List.length_eq_zero_iff.1 (by rw [this]; simp only [List.length_nil]; rw [← hb',Nat.zero_sub])
     ·obtain ⟨a,b',hr,hab,hbl',rfl,rfl⟩:=run_sliceBounds (P:=P) (w:=w) true rows.length cap hle hl hh h1 h2 h3
      refine ⟨_,by simp only [Instr.sliceAt,Instr.slice,run_underlying hu,Sem.run_bind,Result.andThen_ok,hr,hes,Sem.run_pure]; rfl,?_⟩
      have:=l_cut ⟨cs,T,fr,sz,vs,hK,hbl,hlim,hv,hdd⟩ hsz (placeI l) (placeI h) hab hbl' cap (by omega)
      split <;> rename_i hz <;> simpa [hz] using this
    rcases hx with ⟨rows,rfl,hsz⟩ | ⟨rows,rfl,hsz⟩ | rfl
    ·simp only [sliceV] at hok ⊢
     simp only [VR] at hc ⊢
     exact main rows hsz hc hok
    ·simp only [sliceV] at hok ⊢
     simp only [VR] at hc ⊢
     exact main rows hsz hc.1 hok
    ·simp only [sliceV] at hok ⊢
     simp only [VR] at hc
     subst hc
     obtain ⟨h1,h2⟩:=hok
     have h3:leOk l h:=by
      rcases BR_num hl h1 with ⟨_,rfl⟩ | ⟨kl,nl,_,rfl,hl0,hl1⟩
      ·simp [leOk]
      ·rcases BR_num hh h2 with ⟨_,rfl⟩ | ⟨kh,nh,_,rfl,hh0,hh1⟩
       ·simp [leOk]
       ·simp only [leOk]; omega
     obtain ⟨a,b,hr,hab,hbl,ha',hb'⟩:=run_sliceBounds (P:=P) (w:=w) true 0 0 (Nat.le_refl _) hl hh h1 h2 h3
     have hb0:b=0:=by omega
     have ha0:a=0:=by omega
     subst hb0; subst ha0
     exact ⟨.slice none 0 0,by simp only [Instr.sliceAt,Instr.slice,run_underlying hu,Sem.run_bind,Result.andThen_ok,hr,hes,Sem.run_pure,if_true,Nat.sub_self],by simp only [VR]⟩
  | some m =>
   unfold sliceV at hok ⊢
   split at hok
   ·rename_i hh; cases hh
   ·rename_i km c0 heq
    cases heq
    split at hok
    rotate_left
    ·exact hok.elim
    rename_i rows kh b0
    obtain ⟨rfl,h1,hb0,hb1,h3⟩:=hok
    have hsz:szOk esz rows:=by
     rcases hx with ⟨rows',he,hsz⟩ | ⟨_,he,_⟩ | he
     ·cases he; exact hsz
     ·cases he
     ·cases he
    cases ch with
    | none=>simp [BR] at hh
    | some ch =>
     cases cm with
     | none=>simp [BR] at hm
     | some cm =>
      simp only [BR,VR,DR] at hh hm
      obtain ⟨rfl,_⟩:=hh
      obtain ⟨rfl,_⟩:=hm
      simp only [VR] at hc
      have hd':=hc
      simp only [DR] at hd'
      have hlb:∃ a,a=(placeI l).getD 0∧a≤b0.toNat∧(match cl with | some v=>Instr.sliceBound v b0.toNat .slice3C | none=>pure 0:Sem Nat).run P w=.ok a w:=by
       rcases BR_num hl h1 with ⟨rfl,rfl⟩ | ⟨kl,nl,rfl,rfl,hl0,hl1⟩
       ·exact ⟨0,rfl,by omega,rfl⟩
       ·simp only [leOk] at h3
        exact ⟨nl.toNat,rfl,by omega,run_sliceBound _ _ _ _ _ hl0 (by omega)⟩
      obtain ⟨a,ha,hab,hla⟩:=hlb
      have hcap:∀ (base:Option Addr) (cap:Nat),rows.length≤cap→(Instr.sliceBounds true rows.length cap cl (some (.int kh b0)) (some (.int km b0))).run P w=.ok (a,b0.toNat,b0.toNat) w:=by
       intro base cap hle
       have e1:=run_sliceBound (P:=P) (w:=w) km b0 cap .slice3Acap hb0 (show b0≤(cap:Int) by omega)
       have e2:=run_sliceBound (P:=P) (w:=w) kh b0 b0.toNat .slice3B hb0 (show b0≤(b0.toNat:Int) by omega)
       clear hx hk hi1 hi2 hi3 hes hd' hc
       unfold Instr.sliceBounds
       cases cl with
       | none =>
        simp only [Sem.run_pure] at hla
        cases hla
        simp only [Sem.run_bind,if_true,e1,Result.andThen_ok,e2,Sem.run_pure]
       | some v =>
        simp only [Option.isSome_some,if_true,Sem.run_bind,e1,Result.andThen_ok,e2,Sem.run_pure]
        simp only at hla
        rw [hla]; rfl
      rcases hd' with ⟨⟨a0,rfl⟩,rfl⟩ | ⟨b,off,cap,cs,T,fr,sz,vs,rfl,hK,hbl,hle,hlim,hv,hdd⟩
      ·have hb00:b0.toNat=0:=by simp at hb1; omega
       have ha0:a=0:=by omega
       have hr:=hcap none 0 (by simp)
       simp only [List.length_nil] at hr
       refine ⟨.slice a0 0 0,by cases a0 <;> simp only [Instr.sliceAt,Instr.slice,run_underlying hu,Sem.run_bind,Result.andThen_ok,hr,hes,Sem.run_pure,hb00,ha0,if_true,Nat.sub_self],?_⟩
       have hc0:cutS ([]:List (List Dt)) (placeI l) (some b0.toNat)=[]:=by
        apply List.length_eq_zero_iff.1
        rw [cutS_length _ _ _ (by simp only [Option.getD_some]; omega) (by simp only [Option.getD_some]; simp; omega)]
        simp only [Option.getD_some]; omega
       rw [hc0]
       simp only [VR,DR]
       exact ⟨.inl ⟨⟨a0,rfl⟩,trivial⟩,a0,rfl⟩
      ·have hr:=hcap (some ⟨b,off,none⟩) cap hle
       have hlc:=l_cut ⟨cs,T,fr,sz,vs,hK,hbl,hlim,hv,hdd⟩ hsz (placeI l) (some b0.toNat) (by simp only [Option.getD_some]; omega) (by simp only [Option.getD_some]; omega) b0.toNat (by simp)
       have hlen:=cutS_length rows (placeI l) (some b0.toNat) (by simp only [Option.getD_some]; omega) (by simp only [Option.getD_some]; omega)
       simp only [Option.getD_some,← ha] at hlc hlen
       refine ⟨_,by simp only [Instr.sliceAt,Instr.slice,run_underlying hu,Sem.run_bind,Result.andThen_ok,hr,hes,Sem.run_pure]; rfl,?_⟩
       simp only [VR]
       refine ⟨?_,⟨if b0.toNat=a then some ⟨b,off,none⟩ else some ((⟨b,off,none⟩:Addr).add (a * esz)),?_⟩⟩
       ·split <;> rename_i hz <;> simpa [hz] using hlc
       ·rw [hlen]; rfl
   ·exact hok.elim

def viewOf (ti:Ti) (H:List Ob):Va→Option (Nat × Nat × Nat × Nat × Prop)
 | .buf o=>match ti.kind,bufAt H o with
  | .slice _ esz _ _,some (_,sz,rows,_)=>some (o,sz,0,rows.length,sz=esz)
  | _,_=>none
 | .vw o sz a n=>match ti.kind with
  | .slice _ esz _ _=>some (o,sz,a,n,sz=esz)
  | _=>none
 | .ptr o 0=>match ti.kind,obAt H o with
  | .arr len _ esz _,.buf _ sz rows=>some (o,sz,0,len,sz=esz∧rows.length=len)
  | _,_=>none
 | _=>none
def viewV (r:Nat × Nat × Nat × Nat × Prop) (l h m:Option Va):Pv:=match m with
 | none=>⟨.vw r.1 r.2.1 (r.2.2.1+(placeI l).getD 0) ((placeI h).getD r.2.2.2.1 - (placeI l).getD 0),r.2.2.2.2∧bndOk r.2.2.2.1 l∧bndOk r.2.2.2.1 h∧leOk l h⟩
 | some _=>bad
theorem vw_cut {g:Gh} {ad:Option Addr} {N sz a n l h:Nat} {ad':Option Addr} {m cap:Nat} (h1:a+n≤N) (hc:a+m≤cap) (h3:0 < m→∃ b,g.blk=some b∧ad=some ⟨b,0,none⟩∧ad'=some ⟨b,a * sz,none⟩) (hl:l≤h) (hh:h≤n) (hm:n≤m) :
  vwR (.slice (if m=l then ad' else ad'.map (·.add (l * sz))) (h - l) (m - l)) g.blk ad N cap sz (a+l) (h - l):=by
 refine ⟨by omega,_,_,rfl,by omega,by omega,fun hp=>?_⟩
 obtain ⟨b,e1,e2,e3⟩:=h3 (by omega)
 refine ⟨b,e1,e2,?_⟩
 rw [if_neg (by omega),e3,Option.map_some,addr_add,Nat.add_mul]
theorem viewV_ok {t:TypeId} {ti:Ti} (ht:tiP P t=some ti) (hS:St K G H w) {c:Value} {cl ch cm:Option Value} {x:Va} {l h m:Option Va} (hc:VR K w.heap G c x) (hl:BR K w.heap G cl l) (hh:BR K w.heap G ch h) (hm:BR K w.heap G cm m)
  {r:Nat × Nat × Nat × Nat × Prop} (hr:viewOf ti H x=some r) (hok:(viewV r l h m).ok) :
  ∃ c',(Instr.sliceAt t c cl ch cm).run P w=.ok c' w∧VR K w.heap G c' (viewV r l h m).v:=by
 cases m with
 | some m=>exact hok.elim
 | none =>
  cases cm with
  | some cm=>simp [BR] at hm
  | none =>
   -- a cut of a slice
   have main:∀ {o sz a n:Nat} {e esz eb:Nat} {ez:List Value},ti.kind=.slice e esz eb ez→sz=esz→bndOk n l→bndOk n h→leOk l h→VR K w.heap G c (.vw o sz a n) →
     ∃ c',(Instr.sliceAt t c cl ch none).run P w=.ok c' w∧VR K w.heap G c' (.vw o sz (a+(placeI l).getD 0) ((placeI h).getD n - (placeI l).getD 0)):=by
    intro o sz a n e esz eb ez hk he h1 h2 h3 hv
    subst he
    obtain ⟨hu,⟨i,hi1,hi2,hi3⟩,_⟩:=tk_slice ht hk
    have hes:(sizeOf e).run P w=.ok sz w:=run_sizeOf' (by simp [szP,hi1,hi2])
    simp only [VR] at hv
    obtain ⟨g,ad,N,cap,hg,hsv,haN,ad',cap',rfl,hnc,hcc,hpos⟩:=hv
    obtain ⟨x,y,hr,hab,hbl,rfl,rfl⟩:=run_sliceBounds (P:=P) (w:=w) true n cap' hnc hl hh h1 h2 h3
    refine ⟨.slice (if cap'=(placeI l).getD 0 then ad' else ad'.map (·.add ((placeI l).getD 0 * sz))) ((placeI h).getD n - (placeI l).getD 0) (cap' - (placeI l).getD 0),by simp only [Instr.sliceAt,Instr.slice,run_underlying hu,Sem.run_bind,Result.andThen_ok,hr,hes,Sem.run_pure],?_⟩
    simp only [VR]
    exact ⟨g,ad,N,cap,hg,hsv,vw_cut haN hcc hpos hab hbl hnc⟩
   unfold viewOf at hr
   split at hr
   ·split at hr
    rotate_left
    ·cases hr
    rename_i o e esz eb ez T sz rows fx hk hx
    cases hr
    obtain ⟨h0,h1,h2,h3⟩:=hok
    refine main hk h0 h1 h2 h3 ?_
    simp only [VR] at hc ⊢
    obtain ⟨g,hg,rfl,_⟩:=hc
    obtain ⟨hlim,xs,hxs,hh'⟩:=hS.bufOb hx hg
    rcases hh' with ⟨⟨a,hs0⟩,rfl,_⟩ | ⟨b,cap,cur,fr,hsv,hgb,hb,hfr,h4,h5,h6,h7⟩
    ·exact ⟨g,a,0,0,hg,hs0,by simp,a,0,hs0,by simp,by simp,by simp⟩
    ·exact ⟨g,_,_,cap,hg,hsv,by simp,_,cap,hsv,h4,by simp,fun _=>⟨b,hgb,rfl,by simp⟩⟩
   ·split at hr
    rotate_left
    ·cases hr
    rename_i o sz a n e esz eb ez hk
    cases hr
    obtain ⟨h0,h1,h2,h3⟩:=hok
    exact main hk h0 h1 h2 h3 hc
   ·split at hr
    rotate_left
    ·cases hr
    rename_i o len e esz ag T sz rows hk hx
    cases hr
    obtain ⟨⟨h0,hlen⟩,h1,h2,h3⟩:=hok
    simp only at h0 h1 h2
    subst h0
    subst hlen
    obtain ⟨hu,hs,_⟩:=tk_arr ht hk
    simp only [VR] at hc
    obtain ⟨g,b,hg,hgb,rfl⟩:=hc
    obtain ⟨hlim,xs,hxs,hh'⟩:=hS.ob _ g _ hg (obAt_some hx (by simp))
    rcases hh' with ⟨_,_,hn⟩ | ⟨b',cap,cur,fr,hsv,hgb',_,_,hcap',_⟩
    ·rw [hgb] at hn; cases hn
    obtain rfl:b'=b:=by rw [hgb] at hgb'; exact (Option.some.inj hgb').symm
    obtain ⟨x,y,hr,hab,hbl,rfl,rfl⟩:=run_sliceBounds (P:=P) (w:=w) false rows.length rows.length (Nat.le_refl _) hl hh h1 h2 h3
    refine ⟨.slice (if rows.length=(placeI l).getD 0 then (some ⟨b',0,none⟩:Option Addr) else (some ⟨b',0,none⟩:Option Addr).map (·.add ((placeI l).getD 0 * sz))) ((placeI h).getD rows.length - (placeI l).getD 0) (rows.length - (placeI l).getD 0),?_,?_⟩
    ·simp only [Instr.sliceAt,Instr.sureAddr,run_underlying hu,Sem.run_bind,Result.andThen_ok,hr,run_sizeOf' hs,Sem.run_pure]
     split <;> rfl
    ·simp only [viewV,VR]
     exact ⟨g,_,_,cap,hg,hsv,vw_cut (by simp) (by simpa using hcap') (fun _=>⟨b',hgb,rfl,by simp⟩) hab hbl (Nat.le_refl _)⟩
   ·cases hr
end
end Go.Vc
/- Operations that leave memory alone: conversions,lengths,literals of structs; and all of them under one name. -/
set_option linter.unusedSectionVars false
namespace Go.Vc
variable [Tabs]

def bR (l:List UInt8):List (List Dt):=l.map fun b=>[.i .u8 b.toNat]
def unB:List (List Dt)→List UInt8
 | []=>[]
 | [.i _ n]::rs=>UInt8.ofNat n.toNat::unB rs
 | _::rs=>unB rs
def allB:List (List Dt)→Prop
 | []=>True
 | [.i k _]::rs=>k=.u8∧allB rs
 | _::_=>False
theorem unB_bR:∀ l:List UInt8,unB (bR l)=l
 | []=>rfl
 | b::l=>by
  show UInt8.ofNat ((b.toNat:Int).toNat)::unB (bR l)=b::l
  rw [unB_bR l]; simp
theorem allB_bR:∀ l:List UInt8,allB (bR l)
 | []=>trivial
 | _::l=>⟨rfl,allB_bR l⟩
theorem bR_append (a b:List UInt8):bR (a++b)=bR a++bR b:=by simp [bR]
theorem bR_length (a:List UInt8):(bR a).length=a.length:=by simp [bR]

def rowsB (H:List Ob) (o:Nat):Option (List (List Dt)):=match obAt H o with
 | .sb _ bs=>some (bR bs)
 | _=>(bufAt H o).map fun p=>p.2.2.1
def rowsOf (H:List Ob):Va→Option (List (List Dt))
 | .p (.l rows)=>some rows
 | .full rows=>some rows
 | .nils=>some []
 | .buf o=>rowsB H o
 | .bufc o _=>rowsB H o
 | .vw o sz a n=>match bufAt H o with
  | some (_,sz',rows,_)=>if sz=sz' then some ((rows.drop a).take n) else none
  | none=>none
 | .nv p i=>match obAt H p with
  | .inn _ _ ins=>some (ins.getD i [])
  | _=>none
 | _=>none
def lenN (H:List Ob):Va→Option Nat
 | .buf o=>match obAt H o with
  | .nst _ _ _ _ _ rows _=>some rows.length
  | _=>none
 | _=>none

def unV (op:UnOp):Va→Pv
 | .p (.b x)=>match op with
  | .not=>⟨.p (.b (!x)),True⟩
  | _=>bad
 | .p (.i k n)=>match op with
  | .neg=>⟨.p (.i k (k.wrap (0 - n))),True⟩
  | .xor=>⟨.p (.i k (bitsI .xor k (if k.signed then -1 else k.max) n)),True⟩
  | _=>bad
 | _=>bad
def kindP (P:Program) (t:TypeId):Tk:=match tiP P t with
 | some ti=>ti.kind
 | none=>.other
def convV (P:Program) (src dst:TypeId) (H:List Ob) (x:Va):Pv:=match kindP P dst with
 | .int k'=>match x with
  | .p (.i _ n)=>⟨.p (.i k' (k'.wrap n)),True⟩
  | _=>bad
 | .str=>match x with
  | .p (.s s)=>⟨.p (.s s),True⟩
  | x=>match rowsOf H x,kindP P src with
   | some rows,.slice e _ _ _=>match kindP P e with
    | .int .u8=>⟨.p (.s (unB rows)),allB rows⟩
    | _=>bad
   | _,_=>bad
 | _=>bad
def lenV (P:Program) (t:TypeId) (H:List Ob) (x:Va):Pv:=match kindP P t with
 | .str=>match x with
  | .p (.s s)=>⟨.p (.i .i64 s.length),True⟩
  | _=>bad
 | .arr n _ _ _=>⟨.p (.i .i64 n),n≤Lim⟩
 | .slice _ _ _ _=>match rowsOf H x with
  | some rows=>⟨.p (.i .i64 rows.length),True⟩
  | none=>match x with
   | .cs _ n=>⟨.p (.i .i64 n),n≤Lim⟩
   | x=>match lenN H x with
    | some n=>⟨.p (.i .i64 n),True⟩
    | none=>bad
 | .map _ _=>match x with
  | .mp o=>match obAt H o with
   | .mp _ es=>⟨.p (.i .i64 es.length),True⟩
   | _=>bad
  | _=>bad
 | _=>bad

def cvP (P:Program) (src dst T:TypeId) (n:Nat):Bool:=match P.underlying src,P.underlying dst with
 | some (.pointer t),some .unsafePointer=>match P.info? t with
  | some j=>decide (j.size ≠ 0) && decide (0 < n)
  | none=>false
 | some .unsafePointer,some (.pointer u)=>(P.info? u).isSome && liesAt P P.depth T (n / P.cellsOf T) 0 u 1
 | _,_=>false
def convQ (P:Program) (src dst:TypeId) (H:List Ob) (x:Va):Pv:=match x with
 | .ptr o 0=>match obAt H o with
  | .cells T vs=>⟨.ptr o 0,cvP P src dst T vs.length=true⟩
  | _=>bad
 | x=>convV P src dst H x
theorem Fits_len {n:Nat} (h:n≤Lim):Fits .i64 n:=by
 simp only [Fits,lo,hi]
 unfold Lim at h
 omega

section
variable {K:Nat→Prop} {G:List Gh} {H:List Ob} {w:World} {P:Program}

theorem kindP_some {t:TypeId} {k:Tk} (h:kindP P t=k) (hk:k ≠ .other):∃ ti,tiP P t=some ti∧ti.kind=k:=by
 unfold kindP at h
 split at h
 ·exact ⟨_,by assumption,h⟩
 ·exact absurd h.symm hk

theorem unV_ok {op:UnOp} {c:Value} {x:Va} (hc:VR K w.heap G c x) (hok:(unV op x).ok):∃ c',(Op.unary op c).run P w=.ok c' w∧VR K w.heap G c' (unV op x).v:=by
 unfold unV at hok ⊢
 split at hok
 ·simp only [VR,DR] at hc
  subst hc
  cases op <;> first | exact hok.elim | exact ⟨_,rfl,VR_b rfl⟩
 ·simp only [VR,DR] at hc
  obtain ⟨rfl,_⟩:=hc
  cases op <;> first | exact hok.elim | exact ⟨_,rfl,VR_i (Fits.wrap _ _)⟩ | exact ⟨_,rfl,VR_i (Fits.bits _ _ _ _)⟩
 ·exact hok.elim

theorem DRss.bytes {h:Array Obj} (l:List UInt8):DRss K h 1 (l.map fun b=>Value.int .u8 b.toNat) (bR l):=by
 induction l with
 | nil=>simp [bR,DRss]
 | cons b l ih =>
  simp only [bR,List.map_cons,DRss]
  refine ⟨[.int .u8 b.toNat],_,rfl,rfl,?_,ih⟩
  simp only [DRs,DR]
  refine ⟨_,[],rfl,⟨rfl,by simp [lo],?_⟩,rfl⟩
  have:=b.toNat_lt
  simp only [hi]; omega
theorem rowsB_ok (hS:St K G H w) {c:Value} {o:Nat} (hc:VR K w.heap G c (.buf o)) {rows:List (List Dt)} (hx:rowsB H o=some rows) :
  rows.length≤Lim∧((∃ a cap,c=.slice a 0 cap∧rows=[]) ∨ ∃ b off cap cs T fr sz vs,c=.slice (some ⟨b,off,none⟩) rows.length cap∧w.heap[b]?=some (.cells cs T fr) ∧
   (∀ j v,vs[j]?=some v→cs[off+j]?=some v)∧DRss K w.heap sz vs rows):=by
 unfold rowsB at hx
 split at hx
 ·rename_i o T bs ho
  cases hx
  simp only [VR] at hc
  obtain ⟨g,hg,rfl,_⟩:=hc
  obtain ⟨hlim,hh⟩:=hS.ob _ g _ hg (obAt_some ho (by simp))
  have hbl:(bR bs).length=bs.length:=by simp [bR]
  rcases hh with ⟨h1,rfl,_⟩ | ⟨b,cap,cur,fr,hsv,hgb,hb,hfr,h4,h5,h6,h7,h8⟩
  ·exact ⟨by simp [bR],.inl ⟨none,0,h1,rfl⟩⟩
  ·refine ⟨by rw [hbl]; exact hlim,.inr ⟨b,0,cap,cur,T,_,1,bs.map byteV,by rw [hbl]; exact hsv,hb,fun j v hj=>?_,DRss.bytes bs⟩⟩
   rw [← h8,List.getElem?_take] at hj
   split at hj
   ·rw [Nat.zero_add,← Array.getElem?_toList]; exact hj
   ·cases hj
 obtain ⟨⟨T,sz,rows',fx⟩,ho,hx⟩:=Option.map_eq_some_iff.1 hx
 cases hx
 simp only [VR] at hc
 obtain ⟨g,hg,rfl,_⟩:=hc
 obtain ⟨hlim,xs,hxs,hh⟩:=hS.bufOb ho hg
 rcases hh with ⟨⟨a,h1⟩,rfl,_⟩ | ⟨b,cap,cur,fr,hsv,hgb,hb,hfr,h4,h5,h6,h7⟩
 ·exact ⟨by simp,.inl ⟨a,0,h1,rfl⟩⟩
 ·refine ⟨hlim,.inr ⟨b,0,cap,cur,T,_,sz,xs,hsv,hb,fun j v hj=>?_,hxs⟩⟩
  rw [← h7,List.getElem?_take] at hj
  split at hj
  ·rw [Nat.zero_add,← Array.getElem?_toList]; exact hj
  ·cases hj
theorem rowsOf_ok (hS:St K G H w) {c:Value} {x:Va} (hc:VR K w.heap G c x) {rows:List (List Dt)} (hx:rowsOf H x=some rows) :
  rows.length≤Lim∧((∃ a cap,c=.slice a 0 cap∧rows=[]) ∨ ∃ b off cap cs T fr sz vs,c=.slice (some ⟨b,off,none⟩) rows.length cap∧w.heap[b]?=some (.cells cs T fr) ∧
   (∀ j v,vs[j]?=some v→cs[off+j]?=some v)∧DRss K w.heap sz vs rows):=by
 unfold rowsOf at hx
 split at hx
 ·rename_i rows'
  cases hx
  simp only [VR,DR] at hc
  rcases hc with ⟨⟨a,rfl⟩,rfl⟩ | ⟨b,off,cap,cs,T,fr,sz,vs,rfl,hK,hb,hle,hlim,hv,hd⟩
  ·exact ⟨by simp,.inl ⟨a,0,rfl,rfl⟩⟩
  ·exact ⟨hlim,.inr ⟨b,off,cap,cs,T,fr,sz,vs,rfl,hb,hv,hd⟩⟩
 ·rename_i rows'
  cases hx
  simp only [VR,DR] at hc
  rcases hc.1 with ⟨⟨a,rfl⟩,rfl⟩ | ⟨b,off,cap,cs,T,fr,sz,vs,rfl,hK,hb,hle,hlim,hv,hd⟩
  ·exact ⟨by simp,.inl ⟨a,0,rfl,rfl⟩⟩
  ·exact ⟨hlim,.inr ⟨b,off,cap,cs,T,fr,sz,vs,rfl,hb,hv,hd⟩⟩
 ·cases hx
  simp only [VR] at hc
  exact ⟨by simp,.inl ⟨none,0,hc,rfl⟩⟩
 ·exact rowsB_ok hS hc hx
 ·refine rowsB_ok hS ?_ hx
  simp only [VR] at hc ⊢
  obtain ⟨g,a,n,cap,h1,h2,h3,_⟩:=hc
  exact ⟨g,h1,h3,a,n,cap,h2⟩
 ·rename_i o sz a n
  split at hx
  rotate_left
  ·cases hx
  rename_i T sz' rows' fx ho
  split at hx
  rotate_left
  ·cases hx
  rename_i hsz
  subst hsz
  cases hx
  simp only [VR] at hc
  obtain ⟨g,ad,N,cap,hg,hsv,haN,ad',cap',rfl,hnc,_,hpos⟩:=hc
  obtain ⟨hlim,xs,hxs,hh⟩:=hS.bufOb ho hg
  rcases Nat.eq_zero_or_pos n with rfl | hn
  ·exact ⟨by simp,.inl ⟨ad',cap',rfl,by simp⟩⟩
  obtain ⟨b0,hgb0,rfl,rfl⟩:=hpos (by omega)
  rcases hh with ⟨⟨a',h1⟩,rfl,_⟩ | ⟨b,cap2,cur,fr,hsv2,hgb,hb,hfr,h4,h5,h6,h7⟩
  ·rw [hsv] at h1; cases h1; omega
  rw [hsv] at hsv2
  cases hsv2
  have hl:((rows'.drop a).take n).length=n:=by simp; omega
  refine ⟨by omega,.inr ⟨_,a * sz,cap',cur,T,_,sz,(xs.drop (a * sz)).take (n * sz),by rw [hl],hb,fun j v hj=>?_,(hxs.drop _).take _⟩⟩
  rw [List.getElem?_take] at hj
  split at hj
  ·rw [List.getElem?_drop,← h7,List.getElem?_take] at hj
   split at hj
   ·rw [← Array.getElem?_toList]; exact hj
   ·cases hj
  ·cases hj
 ·split at hx
  rotate_left
  ·cases hx
  rename_i p i _ T sz ins ho
  cases hx
  simp only [VR] at hc
  obtain ⟨g,a,m,cap,hg,hgi,rfl⟩:=hc
  obtain ⟨hb0,hl,hin,_⟩:=hS.ob p g _ hg (obAt_some ho (by simp))
  have hil:=(List.getElem?_eq_some_iff.1 hgi).1
  have hins:ins[i]?=some (ins.getD i []):=by rw [List.getElem?_eq_getElem (by omega),List.getD_eq_getElem?_getD,List.getElem?_eq_getElem (by omega)]; rfl
  obtain ⟨hlim,xs,hxs,hh⟩:=hin i _ _ hgi hins
  rcases hh with ⟨⟨a',h1⟩,h0',_⟩ | ⟨b,cap',cur,fr,hsv,hgb,hb,hfr,h4,h5,h6,h7⟩
  ·exact ⟨hlim,.inl ⟨a',0,h1,h0'⟩⟩
  ·refine ⟨hlim,.inr ⟨b,0,cap',cur,T,_,sz,xs,hsv,hb,fun j v hj=>?_,hxs⟩⟩
   rw [← h7,List.getElem?_take] at hj
   split at hj
   ·rw [Nat.zero_add,← Array.getElem?_toList]; exact hj
   ·cases hj
 ·cases hx

theorem mrs_length {h:Array Obj} {ag:Bool}:∀ {mes:List MapEntry} {es:List (Dt × List Dt)},MRs K h ag mes es→mes.length=es.length
 | [],[],_=>rfl
 | _::mes,_::es,H=>by simp only [MRs] at H; simp [mrs_length H.2.2]
 | [],_::_,H=>by simp [MRs] at H
 | _::_,[],H=>by simp [MRs] at H
theorem tk_map {t:TypeId} {ti:Ti} (ht:tiP P t=some ti) {k e:TypeId} (hk:ti.kind=.map k e):P.underlying t=some (.map k e):=by
 obtain ⟨d,h1,h2,h3⟩:=tiP_under ht
 rw [hk] at h2
 cases d <;> simp only [tkP] at h2 <;> try (cases h2)
 case slice e=>split at h2 <;> cases h2
 case array n e=>split at h2 <;> cases h2
 case struct fields=>split at h2 <;> cases h2
 case map=>exact h1
theorem lenN_ok (hS:St K G H w) {c:Value} {x:Va} (hc:VR K w.heap G c x) {n:Nat} (hn:lenN H x=some n):∃ a cap,c=.slice a n cap∧n≤Lim:=by
 unfold lenN at hn
 split at hn
 rotate_left
 ·cases hn
 split at hn
 rotate_left
 ·cases hn
 rename_i f T sz k p rows st ho
 cases hn
 simp only [VR] at hc
 obtain ⟨g,hg,rfl,_⟩:=hc
 obtain ⟨h0,_,gp,vs,_,hvl,_,hlim,xs,hxs,hh⟩:=hS.ob _ g _ hg (obAt_some ho (by simp))
 have hol:=ovl_length (k:=k) hvl
 rcases hh with ⟨⟨a,h1⟩,h0',_⟩ | ⟨b,cap,cur,fr,hsv,_⟩
 ·rw [h0'] at hol; simp at hol
  exact ⟨a,0,by rw [h1,← hol],h0⟩
 ·exact ⟨_,_,by rw [hsv,hol],h0⟩
theorem lenV_ok {t:TypeId} (hS:St K G H w) {c:Value} {x:Va} (hc:VR K w.heap G c x) (hok:(lenV P t H x).ok) (ts:Array TypeId) (hts:ts[0]?=some t) (ty:TypeId) :
  ∃ c',(Builtin.len_ ts ty #[c]).run P w=.ok c' w∧VR K w.heap G c' (lenV P t H x).v:=by
 unfold lenV at hok ⊢
 split at hok
 ·rename_i hk
  obtain ⟨ti,ht,hk'⟩:=kindP_some hk (by simp)
  split at hok
  rotate_left
  ·exact hok.elim
  simp only [VR,DR] at hc
  obtain ⟨rfl,hl⟩:=hc
  refine ⟨_,by simp only [Builtin.len_,hts,List.getElem?_toArray,List.getElem?_cons_zero,run_underlying (tk_str ht hk'),Sem.run_bind,Sem.run_pure,Result.andThen_ok]; rfl,?_⟩
  simp only [goInt,ByteArray.size,List.size_toArray]
  exact VR_i (Fits_len hl)
 ·rename_i n e s a hk
  obtain ⟨ti,ht,hk'⟩:=kindP_some hk (by simp)
  refine ⟨_,by simp only [Builtin.len_,hts,List.getElem?_toArray,List.getElem?_cons_zero,run_underlying (tk_arr ht hk').1,Sem.run_bind,Sem.run_pure,Result.andThen_ok]; rfl,?_⟩
  exact VR_i (Fits_len hok)
 ·rename_i e s b z hk
  obtain ⟨ti,ht,hk'⟩:=kindP_some hk (by simp)
  split at hok
  rotate_left
  ·split at hok
   ·simp only [VR] at hc
    obtain ⟨g,b,hg,hgb,rfl⟩:=hc
    exact ⟨_,by simp only [Builtin.len_,hts,List.getElem?_toArray,List.getElem?_cons_zero,run_underlying (tk_slice ht hk').1,Sem.run_bind,Sem.run_pure,Result.andThen_ok]; rfl,VR_i (Fits_len hok)⟩
   ·split at hok
    rotate_left
    ·exact hok.elim
    rename_i n hn
    obtain ⟨a,cap,rfl,hlim⟩:=lenN_ok hS hc hn
    exact ⟨_,by simp only [Builtin.len_,hts,List.getElem?_toArray,List.getElem?_cons_zero,run_underlying (tk_slice ht hk').1,Sem.run_bind,Sem.run_pure,Result.andThen_ok]; rfl,VR_i (Fits_len hlim)⟩
  rename_i rows hr
  obtain ⟨hlim,hh⟩:=rowsOf_ok hS hc hr
  refine ⟨goInt rows.length,?_,VR_i (Fits_len hlim)⟩
  rcases hh with ⟨a,cap,rfl,rfl⟩ | ⟨b,off,cap,cs,T,fr,sz,vs,rfl,_⟩
  ·simp only [Builtin.len_,hts,List.getElem?_toArray,List.getElem?_cons_zero,run_underlying (tk_slice ht hk').1,Sem.run_bind,Sem.run_pure,Result.andThen_ok]; rfl
  ·simp only [Builtin.len_,hts,List.getElem?_toArray,List.getElem?_cons_zero,run_underlying (tk_slice ht hk').1,Sem.run_bind,Sem.run_pure,Result.andThen_ok]
 ·rename_i kt et hk
  obtain ⟨ti,ht,hk'⟩:=kindP_some hk (by simp)
  split at hok
  rotate_left
  ·exact hok.elim
  rename_i o
  split at hok
  rotate_left
  ·exact hok.elim
  rename_i ag es ho
  simp only [VR] at hc
  obtain ⟨g,b,hg,hgb,rfl⟩:=hc
  obtain ⟨hlim,b',mes,clock,hgb',hb,hrs,_⟩:=hS.ob _ g _ hg (obAt_some ho (by simp))
  obtain rfl:b'=b:=by rw [hgb] at hgb'; exact (Option.some.inj hgb').symm
  have hl:mes.size=es.length:=by rw [← Array.length_toList]; exact mrs_length hrs
  refine ⟨goInt mes.size,by simp only [Builtin.len_,hts,List.getElem?_toArray,List.getElem?_cons_zero,run_underlying (tk_map ht hk'),Sem.run_bind,Sem.run_pure,Result.andThen_ok,run_getObj_map w b' mes clock hb],?_⟩
  rw [hl]
  exact VR_i (Fits_len hlim)
 ·exact hok.elim

theorem bytes_rows {h:Array Obj}:∀ {sz:Nat} {rows:List (List Dt)} {vs:List Value},DRss K h sz vs rows→allB rows→∃ ns:List Int,vs=ns.map (Value.int .u8)∧(ns.map fun n=>UInt8.ofNat n.toNat)=unB rows∧ns.length=rows.length
 | _,[],vs,hd,_=>by simp only [DRss] at hd; subst hd; exact ⟨[],rfl,rfl,rfl⟩
 | _,[.i k n]::rs,vs,hd,ha=>by
  simp only [DRss,DRs,DR] at hd
  obtain ⟨a,b,rfl,_,⟨v,vs',rfl,⟨rfl,_⟩,rfl⟩,h4⟩:=hd
  simp only [allB] at ha
  obtain ⟨rfl,ha⟩:=ha
  obtain ⟨ns,rfl,h2,h3⟩:=bytes_rows h4 ha
  exact ⟨n::ns,by simp,by simp [unB,h2],by simp [h3]⟩
 | _,[]::_,_,_,ha=>by simp [allB] at ha
 | _,[.b _]::_,_,_,ha=>by simp [allB] at ha
 | _,[.s _]::_,_,_,ha=>by simp [allB] at ha
 | _,[.l _]::_,_,_,ha=>by simp [allB] at ha
 | _,[.a _]::_,_,_,ha=>by simp [allB] at ha
 | _,(_::_::_)::_,_,_,ha=>by simp [allB] at ha

theorem convV_ok {src dst:TypeId} (hS:St K G H w) {c:Value} {x:Va} (hc:VR K w.heap G c x) (hsrc:∃ d,P.underlying src=some d) (hok:(convV P src dst H x).ok) :
  ∃ c',(convert src dst c).run P w=.ok c' w∧VR K w.heap G c' (convV P src dst H x).v:=by
 obtain ⟨dsrc,hsrc⟩:=hsrc
 unfold convV at hok ⊢
 split at hok
 ·rename_i k' hk
  obtain ⟨ti,ht,hk'⟩:=kindP_some hk (by simp)
  have hu:=tk_int ht hk'
  split at hok
  rotate_left
  ·exact hok.elim
  simp only [VR,DR] at hc
  obtain ⟨rfl,_⟩:=hc
  exact ⟨_,by simp [convert,run_underlying hsrc,run_underlying hu,Conv.intToInt],VR_i (Fits.wrap _ _)⟩
 ·rename_i hk
  obtain ⟨ti,ht,hk'⟩:=kindP_some hk (by simp)
  have hu:=tk_str ht hk'
  split at hok
  ·simp only [VR,DR] at hc
   obtain ⟨rfl,hl⟩:=hc
   exact ⟨_,by simp [convert,run_underlying hsrc,run_underlying hu],VR_s hl⟩
  ·split at hok
   rotate_left
   ·exact hok.elim
   rename_i rows e es eb ez hr hks
   split at hok
   rotate_left
   ·exact hok.elim
   rename_i hke
   have hall:allB rows:=hok
   obtain ⟨ti2,ht2,hk2⟩:=kindP_some hks (by simp)
   obtain ⟨ti3,ht3,hk3⟩:=kindP_some hke (by simp)
   have hu2:=(tk_slice ht2 hk2).1
   have hu3:=tk_int ht3 hk3
   obtain ⟨hlim,hh⟩:=rowsOf_ok hS hc hr
   rcases hh with ⟨a,cap,rfl,rfl⟩ | ⟨b,off,cap,cs,T,fr,sz,vs,rfl,hb,hv,hd⟩
   ·exact ⟨.string ByteArray.empty,by
     rw [run_convert_bytes_string w src dst e _ _ _ hu2 hu3 hu]
     cases a <;> simp [Conv.bytesToString,loadCells,loadCellsFrom],VR_s (x:=[]) (by simp)⟩
   ·obtain ⟨ns,rfl,h2,h3⟩:=bytes_rows hd hall
    refine ⟨_,run_convert_bytes_arg w src e hu2 hu3 b off _ cap ns h3 (fun i hi=>?_) dst hu,?_⟩
    ·rw [cell_of_row w b (off+i) cs T fr hb]
     refine hv i _ ?_
     have:i < ns.length:=by omega
     simp [List.getElem?_eq_getElem this,List.getD]
    ·rw [strOfNums,h2]
     refine VR_s ?_
     rw [← h2]; simp only [List.length_map]; omega
 ·exact hok.elim
theorem convQ_ok {src dst:TypeId} (hS:St K G H w) {c:Value} {x:Va} (hc:VR K w.heap G c x) (hsrc:∃ d,P.underlying src=some d) (hok:(convQ P src dst H x).ok) :
  ∃ c',(convert src dst c).run P w=.ok c' w∧VR K w.heap G c' (convQ P src dst H x).v:=by
 unfold convQ at hok ⊢
 split at hok
 ·rename_i o
  split at hok
  rotate_left
  ·exact hok.elim
  rename_i T vs hob
  have hok':cvP P src dst T vs.length=true:=hok
  have hc':=hc
  simp only [VR] at hc
  obtain ⟨g,b,hg,hgb,rfl⟩:=hc
  obtain ⟨b',cs,hb',hb,hvs⟩:=hS.ob o g _ hg (obAt_some hob (by simp))
  obtain rfl:b'=b:=by rw [hgb] at hb'; exact (Option.some.inj hb').symm
  have hl:=hvs.length
  have hsh:w.shape? b'=some (T,vs.length):=by simp [World.shape?,hb,hl]
  refine ⟨_,?_,hc'⟩
  unfold cvP at hok'
  split at hok'
  ·rename_i t h1 h2
   split at hok'
   ·rename_i j hj
    simp only [Bool.and_eq_true,decide_eq_true_eq] at hok'
    exact Lib.run_to_unsafe w ⟨b',0,none⟩ h1 h2 hj hok'.1 hsh hok'.2
   ·cases hok'
  ·rename_i u h1 h2
   simp only [Bool.and_eq_true] at hok'
   obtain ⟨j,hj⟩:=Option.isSome_iff_exists.1 hok'.1
   exact Lib.run_from_unsafe w ⟨b',0,none⟩ h1 h2 hj hsh hok'.2
  ·cases hok'
 ·exact convV_ok hS hc hsrc hok
end
end Go.Vc
/- All operations that leave memory alone,under one name. -/
set_option linter.unusedSectionVars false
namespace Go.Vc
variable [Tabs]

def cellsV:Va→List Va
 | .agg cs=>cs
 | v=>[v]
def Va.isCell:Va→Bool
 | .tup _ | .top | .cnd _ _ | .p (.a _)=>false
 | .raw v=>v.oneCell'
 | _=>true
def setR:List Va→Nat→List Va→List Va
 | l,0,xs=>xs++l.drop xs.length
 | x::l,n+1,xs=>x::setR l n xs
 | [],_+1,_=>[]
def fillV (pl:Nat→Option (Nat × Nat)):List Va→List (Nat × Va)→Option (List Va)
 | cells,[]=>some cells
 | cells,(i,v)::rest=>match pl i with
  | none=>none
  | some (off,size)=>if v.isCell=true∧(cellsV v).length=size∧off+(cellsV v).length≤cells.length then fillV pl (setR cells off (cellsV v)) rest else none
def placeS (fs:List (Nat × Nat × Bool)) (i:Nat):Option (Nat × Nat):=match fs[i]? with
 | some (a,b,_)=>some (a,b)
 | none=>none
def zerosOk:List Value→Prop
 | []=>True
 | z::zs=>cvOk z∧zerosOk zs
def buildV (ti:Ti) (parts:List (Nat × Va)):Pv:=match ti.kind with
 | .struct fs=>match fillV (placeS fs) (ti.zero.map cv) parts with
  | some cs=>⟨.agg cs,zerosOk ti.zero⟩
  | none=>bad
 | .arr _ _ esz _=>match fillV (fun i=>some (i * esz,esz)) (ti.zero.map cv) parts with
  | some cs=>⟨.agg cs,zerosOk ti.zero⟩
  | none=>bad
 | _=>bad

def setRv:List Value→Nat→List Value→List Value
 | l,0,xs=>xs++l.drop xs.length
 | x::l,n+1,xs=>x::setRv l n xs
 | [],_+1,_=>[]

section
variable {K:Nat→Prop} {h:Array Obj} {G:List Gh} {P:Program} (w:World)
theorem one_cells {c:Value} (h:c.oneCell'=true):c.cells.toList=[c]:=by
 cases c <;> first | rfl | simp [Value.oneCell'] at h
theorem cellsV_ok {c:Value} {v:Va} (hc:VR K h G c v) (hv:v.isCell=true):VRs K h G c.cells.toList (cellsV v):=by
 have one:c.oneCell'=true→cellsV v=[v]→VRs K h G c.cells.toList (cellsV v):=fun h1 h2=>by
  rw [one_cells h1,h2]; exact ⟨c,[],rfl,hc,rfl⟩
 cases v with
 | p x =>
  refine one ?_ rfl
  cases x with
  | l rows=>simp only [VR,DR] at hc; rcases hc with ⟨⟨_,rfl⟩,_⟩ | ⟨_,_,_,_,_,_,_,_,rfl,_⟩ <;> rfl
  | b x=>simp only [VR,DR] at hc; subst hc; rfl
  | i k n=>simp only [VR,DR] at hc; obtain ⟨rfl,_⟩:=hc; rfl
  | s x=>simp only [VR,DR] at hc; obtain ⟨rfl,_⟩:=hc; rfl
  | a ds=>simp [Va.isCell] at hv
  | r x=>simp only [VR,DR] at hc; obtain ⟨rfl,h⟩:=hc; exact h
 | nils=>refine one ?_ rfl; simp only [VR] at hc; subst hc; rfl
 | full rows=>refine one ?_ rfl; simp only [VR] at hc; obtain ⟨_,a,rfl⟩:=hc; rfl
 | rp row=>refine one ?_ rfl; simp only [VR] at hc; obtain ⟨_,_,_,_,_,_,rfl,_⟩:=hc; rfl
 | ptr o off=>refine one ?_ rfl; simp only [VR] at hc; obtain ⟨_,_,_,_,rfl⟩:=hc; rfl
 | cs o off=>refine one ?_ rfl; simp only [VR] at hc; obtain ⟨_,_,_,_,rfl⟩:=hc; rfl
 | el o sz i off=>refine one ?_ rfl; simp only [VR] at hc; obtain ⟨_,_,_,_,_,_,_,rfl⟩:=hc; rfl
 | buf o=>refine one ?_ rfl; simp only [VR] at hc; obtain ⟨_,_,rfl,_,_,_,e⟩:=hc; rw [e]; rfl
 | mp o=>refine one ?_ rfl; simp only [VR] at hc; obtain ⟨_,_,_,_,rfl⟩:=hc; rfl
 | np o=>refine one ?_ rfl; simp only [VR] at hc; rcases hc with rfl | ⟨_,_,_,_,rfl⟩ <;> rfl
 | sd o=>refine one ?_ rfl; simp only [VR] at hc; obtain ⟨_,_,_,_,_,_,rfl⟩:=hc; rfl
 | vw o sz a n=>refine one ?_ rfl; simp only [VR] at hc; obtain ⟨_,_,_,_,_,_,_,_,_,rfl,_⟩:=hc; rfl
 | bufc o cp=>refine one ?_ rfl; simp only [VR] at hc; obtain ⟨_,_,_,_,_,e,rfl,_⟩:=hc; rw [e]; rfl
 | nv o i=>refine one ?_ rfl; simp only [VR] at hc; obtain ⟨_,_,_,_,_,_,rfl⟩:=hc; rfl
 | ne o sz i j off=>refine one ?_ rfl; simp only [VR] at hc; obtain ⟨_,_,_,_,_,_,rfl⟩:=hc; rfl
 | fn f vs=>refine one ?_ rfl; simp only [VR] at hc; obtain ⟨_,rfl,_⟩:=hc; rfl
 | agg cs=>simp only [VR] at hc; obtain ⟨cs',rfl,hcs⟩:=hc; simpa [cellsV,Value.cells] using hcs
 | tup vs=>simp [Va.isCell] at hv
 | nil=>refine one ?_ rfl; simp only [VR] at hc; subst hc; rfl
 | cnd x y=>simp [Va.isCell] at hv
 | raw x=>refine one ?_ rfl; simp only [VR] at hc; subst hc; simpa [Va.isCell] using hv
 | er b=>refine one ?_ rfl; simp only [VR] at hc; rcases hc with ⟨_,rfl⟩ | ⟨_,_,_,rfl⟩ <;> rfl
 | top=>simp [Va.isCell] at hv

theorem setRv_length:∀ (l:List Value) (n:Nat) (xs:List Value),n+xs.length≤l.length→(setRv l n xs).length=l.length
 | l,0,xs,h=>by simp [setRv]; omega
 | x::l,n+1,xs,h=>by simp only [setRv,List.length_cons] at *; rw [setRv_length l n xs (by omega)]
 | [],n+1,xs,h=>by simp at h
theorem setR_length:∀ (l:List Va) (n:Nat) (xs:List Va),n+xs.length≤l.length→(setR l n xs).length=l.length
 | l,0,xs,h=>by simp [setR]; omega
 | x::l,n+1,xs,h=>by simp only [setR,List.length_cons] at *; rw [setR_length l n xs (by omega)]
 | [],n+1,xs,h=>by simp at h
theorem VRs.setR:∀ {cs:List Value} {vs:List Va},VRs K h G cs vs→∀ (n:Nat) {es:List Value} {us:List Va},VRs K h G es us→n+us.length≤vs.length→VRs K h G (setRv cs n es) (Vc.setR vs n us)
 | cs,vs,H,0,es,us,H',_=>by
  simp only [setRv,Vc.setR]
  rw [H'.length]
  exact H'.append (H.drop _)
 | cs,v::vs,H,n+1,es,us,H',hl=>by
  simp only [VRs] at H
  obtain ⟨c,cs',rfl,h2,h3⟩:=H
  simp only [setRv,Vc.setR,VRs]
  exact ⟨c,_,rfl,h2,VRs.setR h3 n H' (by simp at hl; omega)⟩
 | cs,[],H,n+1,es,us,H',hl=>by simp at hl
theorem foldl_set (off:Nat):∀ (xs:List Value) (k:Nat) (cs:Array Value),off+k+xs.length≤cs.size →
  ((xs.zipIdx k).foldl (fun cs (c,j)=>cs.setIfInBounds (off+j) c) cs).toList=setRv cs.toList (off+k) xs
 | [],k,cs,hl=>by
  simp only [List.zipIdx_nil,List.foldl_nil]
  have:∀ (l:List Value) (n:Nat),n≤l.length→setRv l n []=l:=by
   intro l n
   induction n generalizing l with
   | zero=>intro _; simp [setRv]
   | succ n ih=>intro hn; cases l with
    | nil=>simp at hn
    | cons x l=>simp only [setRv]; rw [ih l (by simpa using hn)]
  exact (this cs.toList _ (by simpa using hl)).symm
 | x::xs,k,cs,hl=>by
  simp only [List.zipIdx_cons,List.foldl_cons]
  rw [foldl_set off xs (k+1) _ (by simp at hl ⊢; omega)]
  have key:∀ (l:List Value) (n:Nat),n+(x::xs).length≤l.length→setRv (l.set n x) (n+1) xs=setRv l n (x::xs):=by
   intro l n
   induction n generalizing l with
   | zero=>intro hn; cases l with
    | nil=>simp at hn
    | cons y l=>simp [setRv]
   | succ n ih=>intro hn; cases l with
    | nil=>simp at hn
    | cons y l=>simp only [List.set_cons_succ,setRv]; rw [ih l (by simp at hn ⊢; omega)]
  simp only [Array.toList_setIfInBounds]
  rw [← key cs.toList (off+k) (by simp at hl ⊢; omega)]
  rfl

theorem fill_ok {pl:Nat→Option (Nat × Nat)}:∀ {parts:List (Nat × Va)} {ps:List (Nat × Value)} {cells:List Va} {cs:Array Value} {r:List Va},
  fillV pl cells parts=some r→VRs K h G cs.toList cells→(ps.map (·.1)=parts.map (·.1))→(∀ (j:Nat) (c:Value) (v:Va),(ps[j]?.map fun x=>x.2)=some c→(parts[j]?.map fun x=>x.2)=some v→VR K h G c v) →
  ∃ cs',Instr.fill pl cs ps=some cs'∧VRs K h G cs'.toList r
 | [],ps,cells,cs,r,hf,hc,hp,_=>by
  simp only [fillV] at hf
  cases hf
  cases ps with
  | nil=>exact ⟨cs,rfl,hc⟩
  | cons a b=>simp at hp
 | (i,v)::parts,ps,cells,cs,r,hf,hc,hp,hv=>by
  cases ps with
  | nil=>simp at hp
  | cons a ps =>
   obtain ⟨i',c⟩:=a
   simp only [List.map_cons,List.cons.injEq] at hp
   obtain ⟨rfl,hp⟩:=hp
   simp only [fillV] at hf
   split at hf
   ·cases hf
   rename_i off size hpl
   split at hf
   rotate_left
   ·cases hf
   rename_i hcond
   obtain ⟨hcell,hsz,hl⟩:=hcond
   have hcv:=cellsV_ok (hv 0 c v rfl rfl) hcell
   have hcl:=hcv.length
   have hcsl:=hc.length
   simp only [Array.length_toList] at hcl hcsl
   have hnext:VRs K h G (c.cells.zipIdx.foldl (fun cs (c,j)=>cs.setIfInBounds (off+j) c) cs).toList (setR cells off (cellsV v)):=by
    have h1:=foldl_set off c.cells.toList 0 cs (by simp; omega)
    rw [← Array.foldl_toList,Array.toList_zipIdx,h1]
    exact hc.setR off hcv hl
   obtain ⟨cs',h1,h2⟩:=fill_ok hf hnext hp (fun j c v hj hj'=>hv (j+1) c v (by simpa using hj) (by simpa using hj'))
   refine ⟨cs',?_,h2⟩
   simp only [Instr.fill,hpl]
   rw [if_neg (by simp; omega)]
   exact h1
end
end Go.Vc
/- All operations that leave memory alone,under one name. -/
set_option linter.unusedSectionVars false
namespace Go.Vc
variable [Tabs]

section
variable {K:Nat→Prop} {h:Array Obj} {G:List Gh} {P:Program} (w:World)
theorem run_mapM_list {α β:Type} (f:α→Sem β) (g:α→β):∀ (l:List α),(∀ x ∈ l,(f x).run P w=.ok (g x) w)→(l.mapM f).run P w=.ok (l.map g) w
 | [],_=>by simp
 | x::l,hx=>by
  rw [List.mapM_cons]
  simp only [Sem.run_bind,hx x (by simp),Result.andThen_ok,run_mapM_list f g l (fun y hy=>hx y (by simp [hy])),Sem.run_pure,List.map_cons]
def placeF (P:Program) (f:Field):Nat × Nat:=(f.offset,(szP P f.type).getD 0)
theorem fieldsP_places:∀ {fs:List Field} {l:List (Nat × Nat × Bool)},fieldsP P fs=some l→(∀ f ∈ fs,(do pure (f.offset,← sizeOf f.type):Sem (Nat × Nat)).run P w=.ok (placeF P f) w)∧∀ i:Nat,(fs.map (placeF P))[i]?=placeS l i
 | [],l,hf=>by simp only [fieldsP] at hf; cases hf; exact ⟨by simp,by simp [placeS]⟩
 | f::fs,l,hf=>by
  simp only [fieldsP] at hf
  split at hf
  ·rename_i n d l' h1 h2 h3
   cases hf
   obtain ⟨hg1,hg2⟩:=fieldsP_places h3
   refine ⟨fun f' hf'=>?_,fun i=>?_⟩
   ·rcases List.mem_cons.1 hf' with rfl | hm
    ·simp [run_sizeOf' h1,h1,placeF]
    ·exact hg1 f' hm
   ·cases i with
    | zero=>simp [placeS,h1,placeF]
    | succ i =>
     have h4:=hg2 i
     simp only [List.map_cons,List.getElem?_cons_succ,h4,placeS]
  ·cases hf
theorem zeros_ok:∀ {zs:List Value},zerosOk zs→VRs K h G zs (zs.map cv)
 | [],_=>by simp [VRs]
 | z::zs,hz=>by
  simp only [zerosOk] at hz
  simp only [List.map_cons,VRs]
  exact ⟨z,zs,rfl,cv_ok z hz.1,zeros_ok hz.2⟩

theorem buildV_ok {t:TypeId} {ti:Ti} (ht:tiP P t=some ti) {ps:Array (Nat × Value)} {parts:List (Nat × Va)} (hp:ps.toList.map (·.1)=parts.map (·.1))
  (hv:∀ (j:Nat) (c:Value) (v:Va),(ps.toList[j]?.map fun x=>x.2)=some c→(parts[j]?.map fun x=>x.2)=some v→VR K h G c v) (hok:(buildV ti parts).ok) :
  ∃ c',(Instr.build t ps).run P w=.ok c' w∧VR K h G c' (buildV ti parts).v:=by
 obtain ⟨z,hz,hzc⟩:=run_zeroValue w ht
 unfold buildV at hok ⊢
 split at hok
 ·rename_i fs hk
  obtain ⟨fields,hu,hfs⟩:=tk_struct ht hk
  split at hok
  rotate_left
  ·exact hok.elim
  rename_i cs hf
  obtain ⟨hg1,hg2⟩:=fieldsP_places w hfs
  have hm:=run_mapM_list (P:=P) w (fun f:Field=>(do pure (f.offset,← sizeOf f.type):Sem (Nat × Nat))) (placeF P) fields.toList hg1
  obtain ⟨cs',h1,h2⟩:=fill_ok hf (by rw [hzc]; exact zeros_ok hok) hp hv
  have hpl:(fun i:Nat=>(fields.toList.map (placeF P)).toArray[i]?)=placeS fs:=by
   funext i
   rw [← hg2 i,List.getElem?_toArray]
  have hm':(fields.mapM fun f=>(do pure (f.offset,← sizeOf f.type):Sem (Nat × Nat))).run P w=.ok (fields.toList.map (placeF P)).toArray w:=by
   rw [Array.mapM_eq_mapM_toList]
   simp only [Sem.run_map,hm,Result.andThen_ok]
  refine ⟨.agg cs',?_,?_⟩
  ·simp only [Instr.build,Sem.run_bind,hz,Result.andThen_ok,run_underlying hu,hm',hpl,h1,Sem.run_pure]
  ·simp only [VR]; exact ⟨cs'.toList,by simp,h2⟩
 ·rename_i n e esz ag hk
  obtain ⟨hu,hs,_⟩:=tk_arr ht hk
  split at hok
  rotate_left
  ·exact hok.elim
  rename_i cs hf
  obtain ⟨cs',h1,h2⟩:=fill_ok hf (by rw [hzc]; exact zeros_ok hok) hp hv
  refine ⟨.agg cs',?_,?_⟩
  ·simp only [Instr.build,Sem.run_bind,hz,Result.andThen_ok,run_underlying hu,run_sizeOf' hs,h1,Sem.run_pure]
  ·simp only [VR]; exact ⟨cs'.toList,by simp,h2⟩
 ·exact hok.elim
end
end Go.Vc
/- Maps: what is looked up in them,put in and taken out. -/
set_option linter.unusedSectionVars false
namespace Go.Vc
variable [Tabs]

def keq:Dt→Dt→Bool
 | .b a,.b b=>decide (a=b)
 | .i _ a,.i _ b=>decide (a=b)
 | .s a,.s b=>decide (a=b)
 | .a x,.a y=>eqRow y x
 | _,_=>false
def mlook:List (Dt × List Dt)→Dt→Option (List Dt)
 | [],_=>none
 | p::es,d=>bif keq p.1 d then some p.2 else mlook es d
def mset:List (Dt × List Dt)→Dt→List Dt→List (Dt × List Dt)
 | [],d,r=>[(d,r)]
 | p::es,d,r=>bif keq p.1 d then (d,r)::es else p::mset es d r
def mdel:List (Dt × List Dt)→Dt→List (Dt × List Dt)
 | [],_=>[]
 | p::es,d=>bif keq p.1 d then es else p::mdel es d
def bdel:List (Dt × List Dt)→List Nat→Dt→List Nat
 | p::es,b::bs,d=>bif keq p.1 d then bs else b::bdel es bs d
 | _,bs,_=>bs
theorem bdel_at {d:Dt}:∀ {es:List (Dt × List Dt)} {bs:List Nat} {j:Nat},es.length=bs.length→(∀ r,mset es d r=es.set j (d,r))→j < es.length→bdel es bs d=bs.eraseIdx j
 | [],_,_,_,_,h=>by simp at h
 | _::_,[],_,h,_,_=>by simp at h
 | p::es,b::bs,j,hl,hs,hj=>by
  have no:∀ q:Dt × List Dt,(∀ r,(d,r)=q)→False:=fun q h=>by
   have h1:=(h []).trans (h [Dt.b true]).symm
   simp at h1
  simp only [mset,bdel] at *
  cases hq:keq p.1 d with
  | true =>
   simp only [hq,cond_true] at hs ⊢
   cases j with
   | zero=>rfl
   | succ j=>exact (no p fun r=>by have:=hs r; simp at this; exact this.1).elim
  | false =>
   simp only [hq,cond_false] at hs ⊢
   cases j with
   | zero=>exact (no p fun r=>by have:=hs r; simp at this; exact this.1.symm).elim
   | succ j =>
    rw [bdel_at (by simpa using hl) (fun r=>by have:=hs r; simpa using this) (by simpa using hj)]
    rfl
inductive Kk where
 | tk (k:Tk)
 | ks (l:List Kd)
def kkP (P:Program) (kt:TypeId):Kk:=match P.underlying kt with
 | some (.struct _)=>match eqKs P 60 kt with
  | some l=>.ks l
  | none=>.tk .other
 | some (.array _ _)=>match eqArr P kt with
  | some l=>.ks l
  | none=>.tk .other
 | _=>.tk (kindP P kt)
def keyOk:Kk→Dt→Prop
 | .tk .str,.s _=>True
 | .tk .bool,.b _=>True
 | .tk (.int k),.i k' _=>k=k'
 | .ks l,.a ds=>hasKs l ds
 | _,_=>False
def mkeys (k:Kk):List (Dt × List Dt)→Prop
 | []=>True
 | p::es=>keyOk k p.1∧mkeys k es
def kds:List Va→Option (List Dt)
 | []=>some []
 | .p d::l=>match kds l with
  | some ds=>some (d::ds)
  | none=>none
 | _::_=>none
def keyV:Va→Option Dt
 | .p d=>some d
 | .agg vs=>match kds vs with
  | some ds=>some (.a ds)
  | none=>none
 | _=>none
def mlookD (es:List (Dt × List Dt)) (d:Dt) (z:List Dt):List Dt:=(mlook es d).getD z
def zrOk:List Value→Prop
 | []=>True
 | .bool _::l=>zrOk l
 | .int k n::l=>Fits k n∧zrOk l
 | .string s::l=>s.data.toList.length≤Lim∧zrOk l
 | .slice none 0 0::l=>zrOk l
 | _=>False
def rowV (ag:Bool) (row:List Dt):Va:=bif ag then .agg (row.map .p) else hdD row 0
def zfP (P:Program) (t:TypeId):Bool:=match (P.info? t).bind (·.zero) with
 | some (.agg _)=>true
 | _=>false
def lookV (P:Program) (t:TypeId) (H:List Ob) (cok:Bool) (x k:Va):Pv:=match kindP P t,x,keyV k with
 | .map kt et,.mp o,some d=>match obAt H o,tiP P et with
  | .mp ag es,some te=>⟨bif cok then .tup [rowV ag (mlookD es d (zr te.zero)),.p (.b (mlook es d).isSome)] else rowV ag (mlookD es d (zr te.zero)),
    mkeys (kkP P kt) es∧keyOk (kkP P kt) d∧zfP P et=ag∧zrOk te.zero∧(ag=false→te.zero.length=1)⟩
  | _,_=>bad
 | _,_,_=>bad

section
variable {K:Nat→Prop} {G:List Gh} {H:List Ob} {w:World} {P:Program}
theorem zr_ok {h:Array Obj}:∀ {l:List Value},zrOk l→DRs K h l (zr l)
 | [],_=>by simp [zr,DRs]
 | .bool x::l,hz=>by
  simp only [zrOk] at hz
  simp only [zr,DRs,DR]
  exact ⟨_,_,rfl,rfl,zr_ok hz⟩
 | .int k n::l,hz=>by
  simp only [zrOk] at hz
  simp only [zr,DRs,DR]
  exact ⟨_,_,rfl,⟨rfl,hz.1⟩,zr_ok hz.2⟩
 | .string s::l,hz=>by
  simp only [zrOk] at hz
  simp only [zr,DRs,DR]
  exact ⟨_,_,rfl,⟨by simp,hz.1⟩,zr_ok hz.2⟩
 | .slice none 0 0::l,hz=>by
  simp only [zrOk] at hz
  simp only [zr,DRs,DR]
  exact ⟨_,_,rfl,.inl ⟨⟨none,rfl⟩,trivial⟩,zr_ok hz⟩
theorem tk_boolM {t:TypeId} {ti:Ti} (ht:tiP P t=some ti) (hk:ti.kind=.bool):P.underlying t=some .bool:=by
 obtain ⟨d,h1,h2,h3⟩:=tiP_under ht
 rw [hk] at h2
 cases d <;> simp only [tkP] at h2 <;> try (cases h2)
 case slice e=>split at h2 <;> cases h2
 case array n e=>split at h2 <;> cases h2
 case struct fields=>split at h2 <;> cases h2
 case bool=>exact h1
theorem keyDesc {kt:TypeId} {d:Dt} {h:Array Obj} {c:Value} {kk:Kk} (hkk0:kk=.tk (kindP P kt)) (hk:keyOk kk d) (hc:KR K h c d):∃ td,P.underlying kt=some td∧MapKept.IsKey td c:=by
 subst hkk0
 cases hkk:kindP P kt <;> rw [hkk] at hk <;> cases d <;> simp only [keyOk] at hk
 ·obtain ⟨ti,ht,hk'⟩:=kindP_some hkk (by simp)
  simp only [KR,DR] at hc
  obtain ⟨rfl,_⟩:=hc
  exact ⟨_,tk_str ht hk',by simp [MapKept.IsKey]⟩
 ·obtain ⟨ti,ht,hk'⟩:=kindP_some hkk (by simp)
  simp only [KR,DR] at hc
  subst hc
  exact ⟨_,tk_boolM ht hk',by simp [MapKept.IsKey]⟩
 ·obtain ⟨ti,ht,hk'⟩:=kindP_some hkk (by simp)
  simp only [KR,DR] at hc
  obtain ⟨rfl,_⟩:=hc
  exact ⟨_,tk_int ht hk',by simp [MapKept.IsKey,hk]⟩
theorem sameNow_keq {k:Tk} {h:Array Obj} {c e:Value} {d p:Dt} {td:TypeDesc} (hd:keyOk (.tk k) d) (hp:keyOk (.tk k) p) (hc:KR K h c d) (he:KR K h e p) (htd:MapKept.IsKey td c):Instr.sameNow td c e=some (keq p d)∧(keq p d=true→e=c)∧(keq p d=false→e ≠ c):=by
 cases k <;> cases d <;> simp only [keyOk] at hd <;> cases p <;> simp only [keyOk] at hp
 ·rename_i a b
  simp only [KR,DR] at hc he
  obtain ⟨rfl,_⟩:=hc
  obtain ⟨rfl,_⟩:=he
  have e:((⟨a.toArray⟩:ByteArray) == ⟨b.toArray⟩)=decide (b=a):=by
   by_cases hab:b=a
   ·subst hab; simp [MapKept.bytes_beq]
   ·have:¬ ((⟨a.toArray⟩:ByteArray)=⟨b.toArray⟩):=fun h=>hab (by injection h with h; simpa using h.symm)
    rw [decide_eq_false hab]
    cases hx:((⟨a.toArray⟩:ByteArray) == ⟨b.toArray⟩)
    ·rfl
    ·exact absurd ((MapKept.bytes_beq _ _).1 hx) this
  refine ⟨?_,fun h=>?_,fun h=>?_⟩
  ·cases td <;> simp_all [MapKept.IsKey,Instr.sameNow,keq]
  ·simp only [keq,decide_eq_true_eq] at h; rw [h]
  ·simp only [keq,decide_eq_false_iff_not] at h; intro e; injection e with e; injection e with e; exact h (by simpa using e)
 ·rename_i a b
  simp only [KR,DR] at hc he
  subst hc; subst he
  refine ⟨?_,fun h=>?_,fun h=>?_⟩
  ·cases td <;> simp_all [MapKept.IsKey,Instr.sameNow,keq]
   cases a <;> cases b <;> rfl
  ·simp only [keq,decide_eq_true_eq] at h; rw [h]
  ·simp only [keq,decide_eq_false_iff_not] at h; intro e; injection e with e; exact h e
 ·rename_i k1 a k2 b
  simp only [KR,DR] at hc he
  obtain ⟨rfl,_⟩:=hc
  obtain ⟨rfl,_⟩:=he
  subst hd; subst hp
  refine ⟨?_,fun h=>?_,fun h=>?_⟩
  ·cases td <;> simp_all [MapKept.IsKey,Instr.sameNow,keq]
   by_cases hab:b=a
   ·simp [hab]
   ·simp [hab,Ne.symm hab]
  ·simp only [keq,decide_eq_true_eq] at h; rw [h]
  ·simp only [keq,decide_eq_false_iff_not] at h; intro e; injection e with _ e; exact h e
def mval (K:Nat→Prop) (h:Array Obj) (ag:Bool) (v:Value) (row:List Dt):Prop:=match ag with
 | true=>∃ cs:List Value,v=.agg cs.toArray∧DRs K h cs row
 | false=>∃ d,row=[d]∧DR K h v d
theorem find_now {k:Tk} {h:Array Obj} {ag:Bool} {c:Value} {d:Dt} {td:TypeDesc} (hd:keyOk (.tk k) d) (hc:KR K h c d) (htd:MapKept.IsKey td c):∀ {mes:List MapEntry} {es:List (Dt × List Dt)} (i:Nat),MRs K h ag mes es→mkeys (.tk k) es →
  (Instr.findNow td c mes i=some none∧mlook es d=none∧(∀ r,mset es d r=es++[(d,r)])∧mdel es d=es∧∀ x ∈ mes,x.key ≠ c) ∨
  ∃ j e row,Instr.findNow td c mes i=some (some (i+j,e.val))∧mes[j]?=some e∧e.key=c∧mlook es d=some row∧mval K h ag e.val row∧(∀ r,mset es d r=es.set j (d,r))∧mdel es d=es.eraseIdx j
 | [],[],i,_,_=>.inl ⟨rfl,rfl,fun _=>rfl,rfl,by simp⟩
 | e::mes,p::es,i,hm,hk=>by
  simp only [MRs] at hm
  simp only [mkeys] at hk
  obtain ⟨h1,h2,h3⟩:=sameNow_keq hd hk.1 hc hm.1 htd
  cases hq:keq p.1 d with
  | true =>
   rw [hq] at h1
   exact .inr ⟨0,e,p.2,by simp [Instr.findNow,h1],rfl,h2 hq,by simp [mlook,hq],hm.2.1,fun r=>by simp [mset,hq],by simp [mdel,hq]⟩
  | false =>
   rw [hq] at h1
   rcases find_now hd hc htd (i+1) hm.2.2 hk.2 with ⟨a1,a2,a3,a4,a8⟩ | ⟨j,e',row,a1,a2,a3,a4,a5,a6,a7⟩
   ·exact .inl ⟨by simp [Instr.findNow,h1,a1],by simp [mlook,hq,a2],fun r=>by simp [mset,hq,a3],by simp [mdel,hq,a4],fun x hx=>by rcases List.mem_cons.1 hx with rfl | hx; exact h3 hq; exact a8 x hx⟩
   ·exact .inr ⟨j+1,e',row,by simp [Instr.findNow,h1,a1]; omega,by simpa using a2,a3,by simp [mlook,hq,a4],a5,fun r=>by simp [mset,hq,a6],by simp [mdel,hq,a7]⟩
 | [],_::_,_,hm,_=>by simp [MRs] at hm
 | _::_,[],_,hm,_=>by simp [MRs] at hm
mutual
theorem run_chkKs:∀ (d:Nat) {t:TypeId} {ks:List Kd} (e:Nat) {h:Array Obj} {xs:List Value} {ds:List Dt} (em:Bool),eqKs P d t=some ks→DRs K h xs ds→hasKs ks ds →
  (Instr.checkKey em (d+e) t (valOf P t xs)).run P w=.ok () w
 | 0,t,ks,e,h,xs,ds,em,hk,_,_=>by simp [eqKs] at hk
 | d+1,t,ks,e,h,xs,ds,em,hk,hx,h1=>by
  rw [show d+1+e=(d+e)+1 by omega]
  unfold eqKs at hk
  split at hk
  ·rename_i hu
   split at hk
   rotate_left
   ·cases hk
   cases hk
   match ds,h1 with
   | [.b x],_ =>
    simp only [DRs,DR] at hx
    obtain ⟨_,_,rfl,rfl,rfl⟩:=hx
    simp [valOf,aggP,hu,Instr.checkKey,run_underlying hu]
  ·rename_i k hu
   split at hk
   rotate_left
   ·cases hk
   cases hk
   match ds,h1 with
   | [.i k1 x],h1 =>
    simp only [DRs,DR] at hx
    obtain ⟨_,_,rfl,⟨rfl,_⟩,rfl⟩:=hx
    simp [valOf,aggP,hu,Instr.checkKey,run_underlying hu]
  ·rename_i hu
   split at hk
   rotate_left
   ·cases hk
   cases hk
   match ds,h1 with
   | [.s x],_ =>
    simp only [DRs,DR] at hx
    obtain ⟨_,_,rfl,⟨rfl,_⟩,rfl⟩:=hx
    simp [valOf,aggP,hu,Instr.checkKey,run_underlying hu]
  ·rename_i fs hu
   have hag:aggP P t=true:=by simp [aggP,hu]
   split at hk
   ·cases hk
   split at hk
   ·rename_i l hl
    split at hk
    ·cases hk
     simp only [valOf,hag,if_true]
     rw [Instr.checkKey]
     simp only [Sem.run_bind,run_underlying hu,Result.andThen_ok]
     rw [← Array.forIn_toList]
     have hfs:=run_chkFs d e (xs:=xs) 0 em (Nat.zero_le _) hl (by simpa using hx) h1
     rw [hfs]
     simp
    ·cases hk
   ·cases hk
  ·cases hk
theorem run_chkFs:∀ (d:Nat) (e:Nat) {fs:List Field} {ks:List Kd} {h:Array Obj} {xs:List Value} {ds:List Dt} (off:Nat) (em:Bool),off≤xs.length→eqFs P d off fs=some ks→DRs K h (xs.drop off) ds→hasKs ks ds →
  (forIn fs PUnit.unit fun f _=>do
   if f.name ≠ "_" then do
    Instr.checkKey em (d+e) f.type (← part f.type xs.toArray f.offset)
    pure (ForInStep.yield PUnit.unit)
   else do
    pure PUnit.unit
    pure (ForInStep.yield PUnit.unit):Sem PUnit).run P w=.ok () w
 | d,e,[],ks,h,xs,ds,off,em,_,_,_,_=>by simp
 | 0,e,f::fs,ks,h,xs,ds,off,em,_,hk,_,_=>by simp [eqFs] at hk
 | d+1,e,f::fs,ks,h,xs,ds,off,em,ox,hk,hx,h1=>by
  unfold eqFs at hk
  split at hk
  ·cases hk
  rename_i hn
  have hname:¬ f.name= "_":=fun e=>hn (.inl e)
  have hoff:f.offset=off:=Decidable.byContradiction fun e=>hn (.inr e)
  split at hk
  ·rename_i l hl
   split at hk
   ·rename_i l' hl'
    cases hk
    obtain ⟨h1a,h1b⟩:=hasKs_append h1
    have lx:=hasKs_length h1
    have lx':=hx.length
    simp only [List.length_drop,List.length_append] at lx lx'
    obtain ⟨hsz,hone,du,hdu⟩:=eqKs_info (K:=K) (h:=h) w d hl
    have hpx:=run_part (P:=P) w hsz hdu xs off (by omega) hone
    have hq:=run_chkKs d (t:=f.type) (e+1) em hl (hx.take l.length) h1a
    have hr:=run_chkFs d (e+1) (xs:=xs) (off+l.length) em (by omega) hl' (by simpa [List.drop_drop] using hx.drop l.length) h1b
    rw [show d+1+e=d+(e+1) by omega]
    simp only [List.forIn_cons,Sem.run_bind,hname,ne_eq,not_false_eq_true,if_true,hoff,Result.andThen_ok,hpx,hq,Sem.run_pure]
    exact hr
   ·cases hk
  ·cases hk
end
theorem eqRow_eq {h:Array Obj}:∀ {ks:List Kd} {xs ys:List Value} {ds es:List Dt},hasKs ks ds→hasKs ks es→DRs K h xs ds→DRs K h ys es→(eqRow ds es=true→ys=xs)∧(eqRow ds es=false→ys ≠ xs)
 | [],xs,ys,[],[],_,_,hx,hy=>by
  simp only [DRs] at hx hy
  subst hx; subst hy
  exact ⟨fun _=>rfl,fun e=>by simp [eqRow] at e⟩
 | .b::ks,xs,ys,.b x::ds,.b y::es,h1,h2,hx,hy=>by
  simp only [DRs,DR] at hx hy
  simp only [hasKs] at h1 h2
  obtain ⟨_,xs',rfl,rfl,hx⟩:=hx
  obtain ⟨_,ys',rfl,rfl,hy⟩:=hy
  obtain ⟨i1,i2⟩:=eqRow_eq h1 h2 hx hy
  simp only [eqRow,Bool.and_eq_true,decide_eq_true_eq,Bool.and_eq_false_iff,decide_eq_false_iff_not]
  refine ⟨fun e=>by rw [i1 e.2,e.1],fun e he=>?_⟩
  simp only [List.cons.injEq,Value.bool.injEq] at he
  rcases e with e | e
  ·exact e he.1.symm
  ·exact i2 e he.2
 | .s::ks,xs,ys,.s x::ds,.s y::es,h1,h2,hx,hy=>by
  simp only [DRs,DR] at hx hy
  simp only [hasKs] at h1 h2
  obtain ⟨_,xs',rfl,⟨rfl,_⟩,hx⟩:=hx
  obtain ⟨_,ys',rfl,⟨rfl,_⟩,hy⟩:=hy
  obtain ⟨i1,i2⟩:=eqRow_eq h1 h2 hx hy
  simp only [eqRow,Bool.and_eq_true,decide_eq_true_eq,Bool.and_eq_false_iff,decide_eq_false_iff_not]
  refine ⟨fun e=>by rw [i1 e.2,e.1],fun e he=>?_⟩
  simp only [List.cons.injEq,Value.string.injEq] at he
  rcases e with e | e
  ·exact e (by have:=he.1; injection this with this; simpa using this.symm)
  ·exact i2 e he.2
 | .i k::ks,xs,ys,.i k1 x::ds,.i k2 y::es,h1,h2,hx,hy=>by
  simp only [DRs,DR] at hx hy
  simp only [hasKs] at h1 h2
  obtain ⟨rfl,h1⟩:=h1
  obtain ⟨rfl,h2⟩:=h2
  obtain ⟨_,xs',rfl,⟨rfl,_⟩,hx⟩:=hx
  obtain ⟨_,ys',rfl,⟨rfl,_⟩,hy⟩:=hy
  obtain ⟨i1,i2⟩:=eqRow_eq h1 h2 hx hy
  simp only [eqRow,Bool.and_eq_true,decide_eq_true_eq,Bool.and_eq_false_iff,decide_eq_false_iff_not]
  refine ⟨fun e=>by rw [i1 e.2,e.1],fun e he=>?_⟩
  simp only [List.cons.injEq,Value.int.injEq,true_and] at he
  rcases e with e | e
  ·exact e he.1.symm
  ·exact i2 e he.2
 | [],_,_,_::_,_,h1,_,_,_=>by simp [hasKs] at h1
 | [],_,_,[],_::_,_,h2,_,_=>by simp [hasKs] at h2
 | k::_,_,_,[],_,h1,_,_,_=>by cases k <;> simp [hasKs] at h1
 | k::_,_,_,d::_,[],_,h2,_,_=>by cases k <;> simp [hasKs] at h2
 | .b::_,_,_,.s _::_,_::_,h1,_,_,_ | .b::_,_,_,.i _ _::_,_::_,h1,_,_,_ | .b::_,_,_,.l _::_,_::_,h1,_,_,_ | .b::_,_,_,.a _::_,_::_,h1,_,_,_=>by simp [hasKs] at h1
 | .s::_,_,_,.b _::_,_::_,h1,_,_,_ | .s::_,_,_,.i _ _::_,_::_,h1,_,_,_ | .s::_,_,_,.l _::_,_::_,h1,_,_,_ | .s::_,_,_,.a _::_,_::_,h1,_,_,_=>by simp [hasKs] at h1
 | .i _::_,_,_,.b _::_,_::_,h1,_,_,_ | .i _::_,_,_,.s _::_,_::_,h1,_,_,_ | .i _::_,_,_,.l _::_,_::_,h1,_,_,_ | .i _::_,_,_,.a _::_,_::_,h1,_,_,_=>by simp [hasKs] at h1
 | .b::_,_,_,.b _::_,.s _::_,_,h2,_,_ | .b::_,_,_,.b _::_,.i _ _::_,_,h2,_,_ | .b::_,_,_,.b _::_,.l _::_,_,h2,_,_ | .b::_,_,_,.b _::_,.a _::_,_,h2,_,_=>by simp [hasKs] at h2
 | .s::_,_,_,.s _::_,.b _::_,_,h2,_,_ | .s::_,_,_,.s _::_,.i _ _::_,_,h2,_,_ | .s::_,_,_,.s _::_,.l _::_,_,h2,_,_ | .s::_,_,_,.s _::_,.a _::_,_,h2,_,_=>by simp [hasKs] at h2
 | .i _::_,_,_,.i _ _::_,.b _::_,_,h2,_,_ | .i _::_,_,_,.i _ _::_,.s _::_,_,h2,_,_ | .i _::_,_,_,.i _ _::_,.l _::_,_,h2,_,_ | .i _::_,_,_,.i _ _::_,.a _::_,_,h2,_,_=>by simp [hasKs] at h2
theorem same_flat {h:Array Obj}:∀ {ks:List Kd} {xs:List Value} {ds:List Dt} (n:Nat),hasKs ks ds→DRs K h xs ds→((xs.zip xs).all fun (x,y)=>Instr.sameBits n x y)=true
 | [],xs,[],n,_,hx=>by simp only [DRs] at hx; subst hx; rfl
 | .b::ks,xs,.b x::ds,n,h1,hx=>by
  simp only [DRs,DR] at hx
  simp only [hasKs] at h1
  obtain ⟨_,xs',rfl,rfl,hx⟩:=hx
  have:=same_flat n h1 hx
  simp only [List.zip_cons_cons,List.all_cons,this,Bool.and_true]
  cases n <;> simp [Instr.sameBits]
 | .s::ks,xs,.s x::ds,n,h1,hx=>by
  simp only [DRs,DR] at hx
  simp only [hasKs] at h1
  obtain ⟨_,xs',rfl,⟨rfl,_⟩,hx⟩:=hx
  have:=same_flat n h1 hx
  simp only [List.zip_cons_cons,List.all_cons,this,Bool.and_true]
  cases n <;> simp [Instr.sameBits,MapKept.bytes_beq]
 | .i k::ks,xs,.i k1 x::ds,n,h1,hx=>by
  simp only [DRs,DR] at hx
  simp only [hasKs] at h1
  obtain ⟨_,xs',rfl,⟨rfl,_⟩,hx⟩:=hx
  have:=same_flat n h1.2 hx
  simp only [List.zip_cons_cons,List.all_cons,this,Bool.and_true]
  cases n <;> simp [Instr.sameBits]
 | [],_,_::_,_,h1,_=>by simp [hasKs] at h1
 | k::_,_,[],_,h1,_=>by cases k <;> simp [hasKs] at h1
 | .b::_,_,.s _::_,_,h1,_ | .b::_,_,.i _ _::_,_,h1,_ | .b::_,_,.l _::_,_,h1,_ | .b::_,_,.a _::_,_,h1,_=>by simp [hasKs] at h1
 | .s::_,_,.b _::_,_,h1,_ | .s::_,_,.i _ _::_,_,h1,_ | .s::_,_,.l _::_,_,h1,_ | .s::_,_,.a _::_,_,h1,_=>by simp [hasKs] at h1
 | .i _::_,_,.b _::_,_,h1,_ | .i _::_,_,.s _::_,_,h1,_ | .i _::_,_,.l _::_,_,h1,_ | .i _::_,_,.a _::_,_,h1,_=>by simp [hasKs] at h1
theorem eqArr_info {t:TypeId} {ks:List Kd} (h:eqArr P t=some ks):∃ n e k i,P.underlying t=some (.array n e)∧P.underlying e=some (.int k)∧szP P e=some 1∧P.info? e=some i∧P.cellsOf e=1∧ks=List.replicate n (.i k):=by
 unfold eqArr at h
 split at h
 rotate_left
 ·cases h
 rename_i n e hu
 split at h
 rotate_left
 ·cases h
 rename_i k hk
 split at h
 rotate_left
 ·cases h
 rename_i hs
 cases h
 obtain ⟨i,hi,_⟩:=Option.map_eq_some_iff.1 hs.1
 exact ⟨n,e,k,i,hu,hk,hs.1,hi,hs.2,rfl⟩
theorem run_eqArr {t:TypeId} {ks:List Kd} (hk:eqArr P t=some ks) {h:Array Obj} {xs ys:List Value} {ds es:List Dt} (hx:DRs K h xs ds) (hy:DRs K h ys es) (h1:hasKs ks ds) (h2:hasKs ks es) :
  (Op.equalIn (60+9940) t (.agg xs.toArray) (.agg ys.toArray)).run P w=.ok (eqRow ds es) w:=by
 obtain ⟨n,e,k,i,hu,he,hs,hi,hc,rfl⟩:=eqArr_info hk
 rw [show 60+9940=9999+1 from rfl,run_equalIn_array w 9999 _ _ hu hi,hc,List.range_eq_range']
 exact run_itemsI w he hs 9998 xs ys n 0 ds es hx hy h1 h2
theorem run_chkArr {t:TypeId} {ks:List Kd} (hk:eqArr P t=some ks) {h:Array Obj} {xs:List Value} {ds:List Dt} (em:Bool) (hx:DRs K h xs ds) (h1:hasKs ks ds) :
  (Instr.checkKey em 10000 t (.agg xs.toArray)).run P w=.ok () w:=by
 obtain ⟨n,e,k,i,hu,he,hs,hi,hc,rfl⟩:=eqArr_info hk
 rw [show (10000:Nat)=9999+1 from rfl,Instr.checkKey]
 simp only [Sem.run_bind,run_underlying hu,Result.andThen_ok]
 simp only [Std.Legacy.Range.forIn_eq_forIn_range',Std.Legacy.Range.size,Nat.sub_zero,Nat.add_one_sub_one,Nat.div_one]
 have go:∀ (m off:Nat) (ds:List Dt),DRs K h (xs.drop off) ds→hasKs (List.replicate m (.i k)) ds →
   (forIn (List.range' off m) PUnit.unit fun i _=>do
    Instr.checkKey em 9999 e (← part e xs.toArray (i * (← sizeOf e)))
    pure (ForInStep.yield PUnit.unit):Sem PUnit).run P w=.ok () w:=by
  intro m
  induction m with
  | zero=>intro off ds _ _; simp
  | succ m ih =>
   intro off ds hx h1
   rw [List.replicate_succ] at h1
   match ds,h1 with
   | .i k1 x::ds,h1 =>
    simp only [hasKs] at h1
    obtain ⟨rfl,h1⟩:=h1
    have lx:=hx.length
    simp only [List.length_drop,List.length_cons] at lx
    have hag:aggP P e=false:=by simp [aggP,he]
    have px:=run_part (P:=P) w hs he xs off (by omega) fun _=>rfl
    have hx1:=hx.take 1
    simp only [List.take_succ_cons,List.take_zero,DRs,DR] at hx1
    obtain ⟨_,_,ex,⟨rfl,_⟩,rfl⟩:=hx1
    simp only [valOf,hag,ex,Bool.false_eq_true,if_false,List.getD_cons_zero] at px
    have hr:=ih (off+1) ds (by simpa [List.drop_drop] using hx.drop 1) h1
    have hc2:(Instr.checkKey em 9999 e (.int k x)).run P w=.ok () w:=by
     exact MapKept.run_checkKey (k:=.int k x) he (by simp [MapKept.IsKey]) em 9998
    rw [List.range'_succ]
    simp only [List.forIn_cons,Sem.run_bind,Go.run_sizeOf w hi,hc,Nat.mul_one,Result.andThen_ok,px,hc2,Sem.run_pure]
    exact hr
 have:=go n 0 ds (by simpa using hx) h1
 first | exact this | (rw [this]; rfl) | (rw [this]; simp)
theorem kkP_tk {kt:TypeId} {k:Tk} (h:kkP P kt=.tk k):k=kindP P kt ∨ k=.other:=by
 unfold kkP at h
 split at h
 ·split at h
  ·cases h
  ·cases h; exact .inr rfl
 ·split at h
  ·cases h
  ·cases h; exact .inr rfl
 ·cases h; exact .inl rfl
theorem kkP_ks {kt:TypeId} {l:List Kd} (h:kkP P kt=.ks l):(eqKs P 60 kt=some l∧∃ fs,P.underlying kt=some (.struct fs)) ∨ (eqArr P kt=some l∧∃ n e,P.underlying kt=some (.array n e)):=by
 unfold kkP at h
 split at h
 ·rename_i fs hu
  split at h
  ·rename_i l' hl; cases h; exact .inl ⟨hl,fs,hu⟩
  ·cases h
 ·rename_i n e hu
  split at h
  ·rename_i l' hl; cases h; exact .inr ⟨hl,n,e,hu⟩
  ·cases h
 ·cases h
theorem findAsk_ok {kt:TypeId} {l:List Kd} (hk60:∀ {xs ys:List Value} {ds es:List Dt},DRs K w.heap xs ds→DRs K w.heap ys es→hasKs l ds→hasKs l es→(Op.equalIn (60+9940) kt (.agg xs.toArray) (.agg ys.toArray)).run P w=.ok (eqRow ds es) w) {ag:Bool} {xs:List Value} {ds:List Dt} (hd:hasKs l ds) (hc:DRs K w.heap xs ds):∀ {mes:List MapEntry} {es:List (Dt × List Dt)} (i:Nat),MRs K w.heap ag mes es→mkeys (.ks l) es →
  ((Instr.findAsking kt (.agg xs.toArray) mes i).run P w=.ok none w∧mlook es (.a ds)=none∧(∀ r,mset es (.a ds) r=es++[(.a ds,r)])∧mdel es (.a ds)=es∧∀ x ∈ mes,x.key ≠ .agg xs.toArray) ∨
  ∃ j e row,(Instr.findAsking kt (.agg xs.toArray) mes i).run P w=.ok (some (i+j,e.val)) w∧mes[j]?=some e∧e.key=.agg xs.toArray∧mlook es (.a ds)=some row∧mval K w.heap ag e.val row∧(∀ r,mset es (.a ds) r=es.set j (.a ds,r))∧mdel es (.a ds)=es.eraseIdx j
 | [],[],i,_,_=>.inl ⟨by simp [Instr.findAsking],rfl,fun _=>rfl,rfl,by simp⟩
 | e::mes,p::es,i,hm,hk=>by
  simp only [MRs] at hm
  simp only [mkeys] at hk
  obtain ⟨pk,pr⟩:=p
  cases pk <;> simp only [keyOk] at hk <;> try exact hk.1.elim
  rename_i ps
  have hpk:=hm.1
  simp only [KR] at hpk
  obtain ⟨ys,hey,hps⟩:=hpk
  have hq:=hk60 hc hps hd hk.1
  have hq':(Op.equal kt (.agg xs.toArray) e.key).run P w=.ok (eqRow ds ps) w:=by rw [hey]; exact hq
  obtain ⟨r1,r2⟩:=eqRow_eq hd hk.1 hc hps
  cases hr:eqRow ds ps with
  | true =>
   rw [hr] at hq'
   refine .inr ⟨0,e,pr,by simp [Instr.findAsking,hq'],rfl,by rw [hey,r1 hr],by simp [mlook,keq,hr],hm.2.1,fun r=>by simp [mset,keq,hr],by simp [mdel,keq,hr]⟩
  | false =>
   rw [hr] at hq'
   have hne:e.key ≠ .agg xs.toArray:=by
    rw [hey]
    intro h
    injection h with h
    exact r2 hr (by simpa using h)
   rcases findAsk_ok hk60 hd hc (i+1) hm.2.2 hk.2 with ⟨a1,a2,a3,a4,a8⟩ | ⟨j,e',row,a1,a2,a3,a4,a5,a6,a7⟩
   ·exact .inl ⟨by simp [Instr.findAsking,hq',a1],by simp [mlook,keq,hr,a2],fun r=>by simp [mset,keq,hr,a3],by simp [mdel,keq,hr,a4],fun x hx=>by rcases List.mem_cons.1 hx with rfl | hx; exact hne; exact a8 x hx⟩
   ·exact .inr ⟨j+1,e',row,by simp [Instr.findAsking,hq',a1]; omega,by simpa using a2,a3,by simp [mlook,keq,hr,a4],a5,fun r=>by simp [mset,keq,hr,a6],by simp [mdel,keq,hr,a7]⟩
 | [],_::_,_,hm,_=>by simp [MRs] at hm
 | _::_,[],_,hm,_=>by simp [MRs] at hm
theorem key_runs {kt:TypeId} {d:Dt} {c:Value} (hk:keyOk (kkP P kt) d) (hc:KR K w.heap c d) :
  (∀ em,(Instr.checkKey em 10000 kt c).run P w=.ok () w)∧(Instr.keyThatStays c c).run P w=.ok c w ∧
  ∀ {ag:Bool} {mes:List MapEntry} {es:List (Dt × List Dt)},MRs K w.heap ag mes es→mkeys (kkP P kt) es →
   ((Instr.findKey kt c mes).run P w=.ok none w∧mlook es d=none∧(∀ r,mset es d r=es++[(d,r)])∧mdel es d=es∧∀ x ∈ mes,x.key ≠ c) ∨
   ∃ j e row,(Instr.findKey kt c mes).run P w=.ok (some (j,e.val)) w∧mes[j]?=some e∧e.key=c∧mlook es d=some row∧mval K w.heap ag e.val row∧(∀ r,mset es d r=es.set j (d,r))∧mdel es d=es.eraseIdx j:=by
 cases hkk:kkP P kt with
 | tk k =>
  rw [hkk] at hk
  have hkt:k=kindP P kt:=by
   rcases kkP_tk hkk with h | h
   ·exact h
   ·subst h; cases d <;> exact hk.elim
  subst hkt
  obtain ⟨td,htd,hik⟩:=keyDesc rfl hk hc
  refine ⟨fun em=>MapKept.run_checkKey htd hik em 9999,MapKept.run_keyThatStays hik,fun hm hmk=>?_⟩
  rcases find_now hk hc hik 0 hm hmk with ⟨a1,a2⟩ | ⟨j,e,row,a1,a2⟩
  ·exact .inl ⟨MapKept.run_findKey htd a1,a2⟩
  ·rw [Nat.zero_add] at a1
   exact .inr ⟨j,e,row,MapKept.run_findKey htd a1,a2⟩
 | ks l =>
  rw [hkk] at hk
  have ha:aggP P kt=true:=by
   rcases kkP_ks hkk with ⟨_,fs,hu⟩ | ⟨_,n,e,hu⟩ <;> simp [aggP,hu]
  have heq:∀ {xs ys:List Value} {ds es:List Dt},DRs K w.heap xs ds→DRs K w.heap ys es→hasKs l ds→hasKs l es→(Op.equalIn (60+9940) kt (.agg xs.toArray) (.agg ys.toArray)).run P w=.ok (eqRow ds es) w:=fun hx hy h1 h2=>by
   rcases kkP_ks hkk with ⟨hl,_⟩ | ⟨hl,_⟩
   ·have hq:=run_eqKs (P:=P) w 60 (t:=kt) 9940 hl hx hy h1 h2
    simpa only [valOf,ha,if_true] using hq
   ·exact run_eqArr hl hx hy h1 h2
  cases d <;> simp only [keyOk] at hk
  rename_i ds
  simp only [KR] at hc
  obtain ⟨xs,rfl,hc⟩:=hc
  refine ⟨fun em=>?_,?_,fun hm hmk=>?_⟩
  ·rcases kkP_ks hkk with ⟨hl,_⟩ | ⟨hl,_⟩
   ·have:=run_chkKs (P:=P) (w:=w) 60 (t:=kt) 9940 em hl hc hk
    simp only [valOf,ha,if_true] at this
    exact this
   ·exact run_chkArr hl em hc hk
  ·have hsb:Instr.sameBits 10000 (.agg xs.toArray) (.agg xs.toArray)=true:=by
    have:=same_flat 9999 hk hc
    rw [show (10000:Nat)=9999+1 from rfl]
    simp only [Instr.sameBits,beq_self_eq_true,Bool.true_and]
    simpa using this
   simp [Instr.keyThatStays,hsb]
  ·have hw:=run_findKey_eq (P:=P) w (k:=kt) (by rcases kkP_ks hkk with ⟨_,fs,hu⟩ | ⟨_,n,e,hu⟩ <;> simp [hu]) (.agg xs.toArray)
   rcases findAsk_ok heq hk hc 0 hm hmk with ⟨a1,a2⟩ | ⟨j,e,row,a1,a2⟩
   ·exact .inl ⟨by rw [hw]; exact a1,a2⟩
   ·rw [Nat.zero_add] at a1
    exact .inr ⟨j,e,row,by rw [hw]; exact a1,a2⟩
theorem kds_ok:∀ {vs:List Va} {ds:List Dt} {cs:List Value},kds vs=some ds→VRs K w.heap G cs vs→DRs K w.heap cs ds
 | [],ds,cs,h,hv=>by simp only [kds] at h; cases h; simpa only [VRs,DRs] using hv
 | v::vs,ds,cs,h,hv=>by
  cases v with
  | p d =>
   simp only [kds] at h
   split at h
   ·rename_i ds' hd
    cases h
    simp only [VRs,VR] at hv
    obtain ⟨c,cs',rfl,h1,h2⟩:=hv
    simp only [DRs]
    exact ⟨c,cs',rfl,h1,kds_ok hd h2⟩
   ·cases h
  | _=>simp [kds] at h
theorem keyV_ok {v:Va} {d:Dt} {c:Value} (h:keyV v=some d) (hv:VR K w.heap G c v):KR K w.heap c d:=by
 unfold keyV at h
 split at h
 ·cases h
  simp only [VR] at hv
  cases d <;> first | exact hv | (simp only [DR] at hv)
 ·split at h
  ·rename_i ds hd
   cases h
   simp only [VR] at hv
   obtain ⟨cs,rfl,hv⟩:=hv
   simp only [KR]
   exact ⟨cs,rfl,kds_ok hd hv⟩
  ·cases h
 ·cases h
theorem MRs.length {h:Array Obj} {ag:Bool}:∀ {mes:List MapEntry} {es:List (Dt × List Dt)},MRs K h ag mes es→mes.length=es.length
 | [],[],_=>rfl
 | _::_,_::_,hm=>by simp only [MRs] at hm; simp [MRs.length hm.2.2]
 | [],_::_,hm=>by simp [MRs] at hm
 | _::_,[],hm=>by simp [MRs] at hm
theorem MRs.append {h:Array Obj} {ag:Bool} {e:MapEntry} {p:Dt × List Dt} (he:KR K h e.key p.1) (hv:mval K h ag e.val p.2):∀ {mes:List MapEntry} {es:List (Dt × List Dt)},MRs K h ag mes es→MRs K h ag (mes++[e]) (es++[p])
 | [],[],_=>by simp only [List.nil_append,MRs]; exact ⟨he,hv,trivial⟩
 | x::mes,y::es,hm=>by simp only [MRs,List.cons_append] at *; exact ⟨hm.1,hm.2.1,MRs.append he hv hm.2.2⟩
 | [],_::_,hm=>by simp [MRs] at hm
 | _::_,[],hm=>by simp [MRs] at hm
theorem MRs.set {h:Array Obj} {ag:Bool} {e:MapEntry} {p:Dt × List Dt} (he:KR K h e.key p.1) (hv:mval K h ag e.val p.2):∀ {mes:List MapEntry} {es:List (Dt × List Dt)} (j:Nat),MRs K h ag mes es→MRs K h ag (mes.set j e) (es.set j p)
 | [],[],_,_=>by simp [MRs]
 | x::mes,y::es,0,hm=>by simp only [MRs,List.set_cons_zero] at *; exact ⟨he,hv,hm.2.2⟩
 | x::mes,y::es,j+1,hm=>by simp only [MRs,List.set_cons_succ] at *; exact ⟨hm.1,hm.2.1,MRs.set he hv j hm.2.2⟩
 | [],_::_,_,hm=>by simp [MRs] at hm
 | _::_,[],_,hm=>by simp [MRs] at hm
theorem MRs.erase {h:Array Obj} {ag:Bool}:∀ {mes:List MapEntry} {es:List (Dt × List Dt)} (j:Nat),MRs K h ag mes es→MRs K h ag (mes.eraseIdx j) (es.eraseIdx j)
 | [],[],_,_=>by simp [MRs]
 | x::mes,y::es,0,hm=>by simp only [MRs,List.eraseIdx_zero,List.tail_cons] at *; exact hm.2.2
 | x::mes,y::es,j+1,hm=>by simp only [MRs,List.eraseIdx_cons_succ] at *; exact ⟨hm.1,hm.2.1,MRs.erase j hm.2.2⟩
 | [],_::_,_,hm=>by simp [MRs] at hm
 | _::_,[],_,hm=>by simp [MRs] at hm
theorem rowV_ok {h:Array Obj} {ag:Bool} {v:Value} {row:List Dt} (hv:mval K h ag v row):VR K h G v (rowV ag row):=by
 cases ag with
 | true =>
  obtain ⟨cs,rfl,h2⟩:=hv
  simp only [rowV,cond_true,VR]
  exact ⟨cs,rfl,h2.vrs⟩
 | false =>
  obtain ⟨d,rfl,h2⟩:=hv
  simpa only [rowV,cond_false,hdD,List.drop_zero,VR] using h2
theorem lookV_ok {t:TypeId} {cok:Bool} (hS:St K G H w) {c ck:Value} {x k:Va} (hc:VR K w.heap G c x) (hk:VR K w.heap G ck k) (hok:(lookV P t H cok x k).ok) :
  ∃ c',(Instr.lookup t c ck cok).run P w=.ok c' w∧VR K w.heap G c' (lookV P t H cok x k).v:=by
 unfold lookV at hok ⊢
 split at hok
 rotate_left
 ·exact hok.elim
 rename_i kt et o d hkm hkv
 split at hok
 rotate_left
 ·exact hok.elim
 rename_i ag es te ho hte
 obtain ⟨h1,h2,h3,h4,h5⟩:=hok
 obtain ⟨ti,ht,hk'⟩:=kindP_some hkm (by simp)
 have hu:=tk_map ht hk'
 have hk:=keyV_ok hkv hk
 simp only [VR] at hc
 obtain ⟨g,b,hg,hgb,rfl⟩:=hc
 obtain ⟨hlim,b',mes,clock,hb',hbm,hm,_⟩:=hS.ob o g _ hg (obAt_some ho (by simp))
 obtain rfl:b'=b:=by rw [hgb] at hb'; exact (Option.some.inj hb').symm
 obtain ⟨hck,_,hfind⟩:=key_runs (P:=P) (w:=w) h2 hk
 have fin:∀ (v:Value) (row:List Dt) (ok:Bool),mval K w.heap ag v row→(Instr.lookup t (.map (some b')) ck cok).run P w=.ok (if cok then .tuple #[v,.bool ok] else v) w→mlookD es d (zr te.zero)=row→(mlook es d).isSome=ok →
   ∃ c',(Instr.lookup t (.map (some b')) ck cok).run P w=.ok c' w∧VR K w.heap G c' (bif cok then .tup [rowV ag (mlookD es d (zr te.zero)),.p (.b (mlook es d).isSome)] else rowV ag (mlookD es d (zr te.zero))):=by
  intro v row ok hv hr e1 e2
  refine ⟨_,hr,?_⟩
  rw [e1,e2]
  have:=rowV_ok (G:=G) hv
  cases cok with
  | false=>simpa using this
  | true =>
   simp only [if_true,cond_true,VR]
   refine ⟨[v,.bool ok],rfl,?_⟩
   simp only [VRs,VR,DR]
   exact ⟨_,_,rfl,this,_,_,rfl,rfl,rfl⟩
 rcases hfind hm h1 with ⟨a1,a2,_,_,_⟩ | ⟨j,e,row,a1,a2,a3,a4,a5,_,_⟩
 ·obtain ⟨i,z,hi1,hi2,hi3,hz2⟩:=tiP_info hte
  have hz1:(zeroValue et).run P w=.ok z w:=by simp [zeroValue,typeInfo,hi1,hi3]
  have hzf:zfP P et=(match z with | .agg _=>true | _=>false):=by simp only [zfP,hi1,Option.bind_some,hi3]; cases z <;> rfl
  refine fin z (zr te.zero) false ?_ ?_ (by simp [mlookD,a2]) (by simp [a2])
  ·have hzr:=zr_ok (K:=K) (h:=w.heap) h4
   rw [← hz2] at hzr
   cases ag with
   | true =>
    rw [h3] at hzf
    cases z <;> first | cases hzf | skip
    rename_i cs
    exact ⟨cs.toList,by simp,by rw [← hz2]; exact hzr⟩
   | false =>
    rw [h3] at hzf
    have hzs:z.cells.toList=[z]:=by cases z <;> first | rfl | cases hzf
    rw [hzs] at hzr
    have hrl:=hzr.length
    rw [← hz2,hzs]
    match hzz:zr [z],hrl with
    | [d0],_ =>
     rw [hzz] at hzr
     simp only [DRs] at hzr
     obtain ⟨_,_,h6,h7,_⟩:=hzr
     cases h6
     exact ⟨d0,rfl,h7⟩
  ·simp only [Instr.lookup,Sem.run_bind,run_underlying hu,Result.andThen_ok,MapKept.run_getObj_map hbm,Sem.run_pure,hck,a1,hz1]
   first
    | done
    | (cases cok <;> simp)
 ·refine fin e.val row true a5 ?_ (by simp [mlookD,a4]) (by simp [a4])
  simp only [Instr.lookup,Sem.run_bind,run_underlying hu,Result.andThen_ok,MapKept.run_getObj_map hbm,Sem.run_pure,hck,a1]
  first
   | done
   | (cases cok <;> simp)
end
end Go.Vc
/- All operations that leave memory alone,under one name: the model's yield what the abstract ones yield. -/
set_option linter.unusedSectionVars false
namespace Go.Vc
variable [Tabs]

def pures:List Va→Option (List Dt)
 | []=>some []
 | .p d::l=>match pures l with
  | some ds=>some (d::ds)
  | none=>none
 | _::_=>none
def eqOp (op:BinOp) (b:Bool) (ok:Prop):Pv:=match op with
 | .eql=>⟨.p (.b b),ok⟩
 | .neq=>⟨.p (.b (!b)),ok⟩
 | _=>bad
def binV (P:Program) (op:BinOp) (t:TypeId) (x y:Va):Pv:=match x with
 | .p (.i k a)=>match y with
  | .p (.i k' b)=>binI op k a k' b
  | _=>bad
 | .p (.s a)=>match y with
  | .p (.s b)=>binS op a b
  | _=>bad
 | .p (.b a)=>match y with
  | .p (.b b)=>match kindP P t with
   | .bool=>eqOp op (decide (a=b)) True
   | _=>bad
  | _=>bad
 | .agg xs=>match y with
  | .agg ys=>match eqTyP P t,pures xs,pures ys with
   | some ks,some ds,some es=>eqOp op (eqRow ds es) (aggP P t=true∧hasKs ks ds∧hasKs ks es)
   | _,_,_=>bad
  | _=>bad
 | .nil=>match y with
  | .nil=>match kindP P t with
   | .ptr _=>eqOp op true True
   | _=>bad
  | _=>bad
 | .ptr o a=>match y with
  | .nil=>match kindP P t with
   | .ptr _=>eqOp op false True
   | _=>bad
  | .ptr o' a'=>match kindP P t with
   | .ptr e=>eqOp op true (o=o'∧a=a'∧(P.info? e).isSome=true)
   | _=>bad
  | _=>bad
 | _=>bad
def nilV:Va→Pv
 | .ptr o off=>⟨.ptr o off,True⟩
 | .rp row=>⟨.rp row,True⟩
 | .el o sz i off=>⟨.el o sz i off,True⟩
 | .fn f caps=>⟨.fn f caps,True⟩
 | _=>bad
def cutKind (ti:Ti) (x:Va):Prop:=match ti.kind,x with
 | .str,.p (.s _)=>True
 | .slice _ esz _ _,.p (.l rows)=>szOk esz rows
 | .slice _ esz _ _,.full rows=>szOk esz rows
 | .slice _ _ _ _,.nils=>True
 | _,_=>False
def oOk (g:Bool) (E:Env):Option Operand→Prop
 | none=>True
 | some x=>opOk g E x
def allOk (g:Bool) (E:Env):List Operand→Prop
 | []=>True
 | x::xs=>opOk g E x∧allOk g E xs
def partsOk (g:Bool) (E:Env):List (Nat × Operand)→Prop
 | []=>True
 | x::xs=>opOk g E x.2∧partsOk g E xs
def partsV (E:Env):List (Nat × Operand)→List (Nat × Va)
 | []=>[]
 | x::xs=>(x.1,opnd E x.2)::partsV E xs
def opnds (E:Env):List Operand→List Va
 | []=>[]
 | x::xs=>opnd E x::opnds E xs
def also (c:Prop) (r:Pv):Pv:=⟨r.v,c∧r.ok⟩
def isB:Va→Option Bool
 | .p (.b x)=>some x
 | _=>none
def pickW (t:Bool) (a b:Va):Va:=match a,b with
 | .p (.b x),.p (.b y)=>.p (.b (bif t then x else y))
 | x,y=>bif t then x else y
theorem pickW_t (a b:Va):pickW true a b=a:=by
 unfold pickW
 split <;> rfl
theorem pickW_f (a b:Va):pickW false a b=b:=by
 unfold pickW
 split <;> rfl
theorem pickW_d (t:Bool) (a b:Va):pickW t a b=match a,b with
 | .p (.b x),.p (.b y)=>.p (.b (bif t then x else y))
 | x,y=>bif t then x else y:=rfl
def pickV (g:Bool) (c a b:Va):Pv:=match c with
 | .p (.b t)=>⟨pickW t (strip a) (strip b),g=true→(t=true→condOf a=true)∧(t=false→condOf b=true)⟩
 | _=>bad
def mmV (mn:Bool) (x y:Va):Pv:=match x,y with
 | .p (.i k a),.p (.i k' b)=>⟨.p (.i k (bif mn then min a b else max a b)),k=k'⟩
 | _,_=>bad
def mm3 (x y z:Va):Pv:=match x,y,z with
 | .p (.i k a),.p (.i k' b),.p (.i k'' c)=>⟨.p (.i k (min (min a b) c)),k=k'∧k=k''⟩
 | _,_,_=>bad
def capV (P:Program) (t:TypeId) (x:Va):Pv:=match kindP P t,x with
 | .slice _ _ _ _,.bufc _ cp=>⟨.p (.i .i64 cp),(cp:Int)≤9223372036854775807⟩
 | _,_=>bad
def erN (x y:Va) (o:Operand):Option Bool:=match x,y,o with
 | .raw .nilIface,.raw .nilIface,.const _=>some true
 | .er b,.raw .nilIface,.const _=>some b
 | _,_,_=>none
theorem erN_ok {K:Nat→Prop} {h:Array Obj} {G:List Gh} {x y:Va} {o:Operand} {b:Bool} {cx cy:Value} (e:erN x y o=some b) (hx:VR K h G cx x) (hy:VR K h G cy y) :
  (∃ v,o=.const v)∧cy=.nilIface∧((b=true∧cx=.nilIface) ∨ (b=false∧∃ t v,cx=.iface t v)):=by
 unfold erN at e
 split at e
 ·cases e
  simp only [VR] at hx hy
  exact ⟨⟨_,rfl⟩,hy,.inl ⟨rfl,hx⟩⟩
 ·cases e
  simp only [VR] at hx hy
  exact ⟨⟨_,rfl⟩,hy,hx⟩
 ·cases e
def ifP (P:Program) (t:TypeId):Bool:=match P.underlying t with
 | some (.interface _)=>true
 | _=>false

def pureV (P:Program) (g:Bool) (E:Env) (H:List Ob):Op→Pv
 | .move x=>⟨opnd E x,opOk g E x⟩
 | .assign x=>⟨opnd E x,opOk g E x⟩
 | .pick c a b=>also (opOk g E c∧rndOk a∧rndOk b) (pickV g (opnd E c) (rnd E a) (rnd E b))
 | .build t ps=>match tiP P t with
  | some ti=>also (partsOk g E ps.toList) (buildV ti (partsV E ps.toList))
  | none=>bad
 | .load t x=>match tiP P t with
  | some ti=>also (opOk g E x) (loadV ti H (opnd E x))
  | none=>bad
 | .nilCheck x=>also (opOk g E x) (nilV (opnd E x))
 | .binOp op t x y _=>also (opOk g E x∧opOk g E y) (match erN (opnd E x) (opnd E y) y with
  | some b=>eqOp op b (ifP P t=true)
  | none=>binV P op t (opnd E x) (opnd E y))
 | .unOp op _ x=>also (opOk g E x) (unV op (opnd E x))
 | .convert s d x=>match tiP P s with
  | some _=>also (opOk g E x) (convQ P s d H (opnd E x))
  | none=>bad
 | .makeFunc fn first caps=>match fn,first.toList with
  | .func f,[]=>⟨.fn f (opnds E caps.toList),allOk g E caps.toList⟩
  | _,_=>bad
 | .slice t x l h m=>match tiP P t with
  | some ti=>match viewOf ti H (opnd E x) with
   | some r=>also (opOk g E x∧oOk g E l∧oOk g E h∧oOk g E m) (viewV r (l.map (opnd E)) (h.map (opnd E)) (m.map (opnd E)))
   | none=>also (opOk g E x∧oOk g E l∧oOk g E h∧oOk g E m∧cutKind ti (opnd E x)) (sliceV (opnd E x) (l.map (opnd E)) (h.map (opnd E)) (m.map (opnd E)))
  | none=>bad
 | .fieldAddr t x f=>match tiP P t with
  | some ti=>also (opOk g E x) (fieldAddrV ti f (opnd E x))
  | none=>bad
 | .field t x f=>match tiP P t with
  | some ti=>also (opOk g E x) (fieldV ti f (opnd E x))
  | none=>bad
 | .indexAddr t x i=>match tiP P t with
  | some ti=>also (opOk g E x∧opOk g E i) (idxAddrV ti H (opnd E x) (opnd E i))
  | none=>bad
 | .index t x i=>match tiP P t with
  | some ti=>also (opOk g E x∧opOk g E i) (indexV ti (opnd E x) (opnd E i))
  | none=>bad
 | .extract x i=>also (opOk g E x) (extractV (opnd E x) i)
 | .lookup t x k cok=>also (opOk g E x∧opOk g E k) (lookV P t H cok (opnd E x) (opnd E k))
 | .call c=>match c.callee,c.args.toList,c.argTypes.toList with
  | .builtin .len,[x],t::_=>also (opOk g E x) (lenV P t H (opnd E x))
  | .builtin .cap,[x],t::_=>also (opOk g E x) (capV P t (opnd E x))
  | .builtin .min,[x,y],_=>also (opOk g E x∧opOk g E y) (mmV true (opnd E x) (opnd E y))
  | .builtin .min,[x,y,z],_=>also (opOk g E x∧opOk g E y∧opOk g E z) (mm3 (opnd E x) (opnd E y) (opnd E z))
  | .builtin .max,[x,y],_=>also (opOk g E x∧opOk g E y) (mmV false (opnd E x) (opnd E y))
  | _,_,_=>bad
 | _=>bad

section
variable {K:Nat→Prop} {G:List Gh} {H:List Ob} {w:World} {P:Program} {E:Env} {a:Act} {g:Bool}

theorem pures_ok {h:Array Obj}:∀ {cs:List Value} {vs:List Va} {ds:List Dt},VRs K h G cs vs→pures vs=some ds→DRs K h cs ds
 | cs,[],ds,H,hp=>by simp only [pures] at hp; cases hp; simpa [VRs,DRs] using H
 | cs,.p d::vs,ds,H,hp=>by
  simp only [pures] at hp
  split at hp
  ·rename_i ds' hd
   cases hp
   simp only [VRs,VR] at H
   obtain ⟨c,cs',rfl,h2,h3⟩:=H
   simp only [DRs]
   exact ⟨c,cs',rfl,h2,pures_ok h3 hd⟩
  ·cases hp
 | cs,.nils::_,_,_,hp=>by simp [pures] at hp
 | cs,.full _::_,_,_,hp=>by simp [pures] at hp
 | cs,.rp _::_,_,_,hp=>by simp [pures] at hp
 | cs,.ptr _ _::_,_,_,hp=>by simp [pures] at hp
 | cs,.cs _ _::_,_,_,hp=>by simp [pures] at hp
 | cs,.el _ _ _ _::_,_,_,hp=>by simp [pures] at hp
 | cs,.buf _::_,_,_,hp=>by simp [pures] at hp
 | cs,.mp _::_,_,_,hp=>by simp [pures] at hp
 | cs,.np _::_,_,_,hp=>by simp [pures] at hp
 | cs,.sd _::_,_,_,hp=>by simp [pures] at hp
 | cs,.vw _ _ _ _::_,_,_,hp=>by simp [pures] at hp
 | cs,.bufc _ _::_,_,_,hp=>by simp [pures] at hp
 | cs,.fn _ _::_,_,_,hp=>by simp [pures] at hp
 | cs,.agg _::_,_,_,hp=>by simp [pures] at hp
 | cs,.tup _::_,_,_,hp=>by simp [pures] at hp
 | cs,.nil::_,_,_,hp=>by simp [pures] at hp
 | cs,.cnd _ _::_,_,_,hp=>by simp [pures] at hp
 | cs,.raw _::_,_,_,hp=>by simp [pures] at hp
 | cs,.er _::_,_,_,hp=>by simp [pures] at hp
 | cs,.top::_,_,_,hp=>by simp [pures] at hp

theorem tk_bool {t:TypeId} {ti:Ti} (ht:tiP P t=some ti) (hk:ti.kind=.bool):P.underlying t=some .bool:=by
 obtain ⟨d,h1,h2,h3⟩:=tiP_under ht
 rw [hk] at h2
 cases d <;> simp only [tkP] at h2 <;> try (cases h2)
 case slice e=>split at h2 <;> cases h2
 case array n e=>split at h2 <;> cases h2
 case struct fields=>split at h2 <;> cases h2
 case bool=>exact h1
theorem tk_ptr {t:TypeId} {ti:Ti} {e:TypeId} (ht:tiP P t=some ti) (hk:ti.kind=.ptr e):P.underlying t=some (.pointer e):=by
 obtain ⟨d,h1,h2,h3⟩:=tiP_under ht
 rw [hk] at h2
 cases d <;> simp only [tkP] at h2 <;> try (cases h2)
 case slice e=>split at h2 <;> cases h2
 case array n e=>split at h2 <;> cases h2
 case struct fields=>split at h2 <;> cases h2
 case pointer=>exact h1

theorem binV_ok {op:BinOp} {t:TypeId} {c d:Value} {x y:Va} (hc:VR K w.heap G c x) (hd:VR K w.heap G d y) (hok:(binV P op t x y).ok) (ox oy:Operand) :
  ∃ c',(do eqGuard op t ox oy c d; binOp op t c d:Sem Value).run P w=.ok c' w∧VR K w.heap G c' (binV P op t x y).v:=by
 unfold binV at hok ⊢
 split at hok
 ·split at hok
  rotate_left
  ·exact hok.elim
  simp only [VR,DR] at hc hd
  obtain ⟨rfl,ha⟩:=hc
  obtain ⟨rfl,_⟩:=hd
  obtain ⟨c',h1,h2⟩:=binI_ok (K:=K) (G:=G) (w:=w) (P:=P) t ha hok
  exact ⟨c',by rw [eqGuard_at_int]; simpa using h1,h2⟩
 ·split at hok
  rotate_left
  ·exact hok.elim
  simp only [VR,DR] at hc hd
  obtain ⟨rfl,ha⟩:=hc
  obtain ⟨rfl,_⟩:=hd
  obtain ⟨c',h1,h2⟩:=binS_ok (K:=K) (G:=G) (w:=w) (P:=P) t hok
  exact ⟨c',by rw [eqGuard_at_string]; simpa using h1,h2⟩
 ·split at hok
  rotate_left
  ·exact hok.elim
  split at hok
  rotate_left
  ·exact hok.elim
  rename_i hk
  obtain ⟨ti,ht,hk'⟩:=kindP_some hk (by simp)
  have hu:=tk_bool ht hk'
  simp only [VR,DR] at hc hd
  subst hc; subst hd
  cases op <;> try (exact hok.elim)
  ·exact ⟨_,by rw [eqGuard_at_bool]; simpa using run_eql_bool w t _ _ hu,VR_b (beq_dec _ _)⟩
  ·exact ⟨_,by rw [eqGuard_at_bool]; simpa using run_neq_bool w t _ _ hu,VR_b (by rw [beq_dec])⟩
 ·split at hok
  rotate_left
  ·exact hok.elim
  split at hok
  rotate_left
  ·exact hok.elim
  rename_i ks ds es hks hds hes
  simp only [VR] at hc hd
  obtain ⟨cs,rfl,hcs⟩:=hc
  obtain ⟨cs',rfl,hcs'⟩:=hd
  have hds':=pures_ok hcs hds
  have hes':=pures_ok hcs' hes
  cases op <;> try (exact hok.elim)
  ·obtain ⟨ha,hk1,hk2⟩:=hok
   exact ⟨_,(run_eqTyP w hks ha hds' hes' hk1 hk2 ox oy).1,VR_b rfl⟩
  ·obtain ⟨ha,hk1,hk2⟩:=hok
   exact ⟨_,(run_eqTyP w hks ha hds' hes' hk1 hk2 ox oy).2,VR_b rfl⟩
 ·split at hok
  rotate_left
  ·exact hok.elim
  split at hok
  rotate_left
  ·exact hok.elim
  rename_i e hk
  obtain ⟨ti,ht,hk'⟩:=kindP_some hk (by simp)
  have hu:=tk_ptr ht hk'
  have hu':P.underlying t=some (.pointer (P.pointee t)):=by simp [Program.pointee,hu]
  simp only [VR] at hc hd
  subst hc; subst hd
  cases op <;> try (exact hok.elim)
  ·exact ⟨_,by rw [eqGuard_at_pointer]; simpa using run_eql_pointer_nil w t none hu',VR_b rfl⟩
  ·exact ⟨_,by rw [eqGuard_at_pointer]; simpa using run_neq_pointer_nil w t none hu',VR_b rfl⟩
 ·split at hok
  rotate_left
  ·split at hok
   rotate_left
   ·exact hok.elim
   rename_i o' a' e hk
   obtain ⟨ti,ht,hk'⟩:=kindP_some hk (by simp)
   have hu:=tk_ptr ht hk'
   simp only [VR] at hc hd
   obtain ⟨g,b,hg,hgb,rfl⟩:=hc
   obtain ⟨g',b',hg',hgb',rfl⟩:=hd
   cases op <;> try (exact hok.elim)
   ·obtain ⟨rfl,rfl,hi⟩:=hok
    obtain ⟨j,hj⟩:=Option.isSome_iff_exists.1 hi
    obtain rfl:g=g':=Option.some.inj (hg.symm.trans hg')
    obtain rfl:b=b':=Option.some.inj (hgb.symm.trans hgb')
    exact ⟨_,by rw [eqGuard_at_pointer]; simpa using run_eql_ptr_same w _ hu hj,VR_b rfl⟩
   ·obtain ⟨rfl,rfl,hi⟩:=hok
    obtain ⟨j,hj⟩:=Option.isSome_iff_exists.1 hi
    obtain rfl:g=g':=Option.some.inj (hg.symm.trans hg')
    obtain rfl:b=b':=Option.some.inj (hgb.symm.trans hgb')
    exact ⟨_,by rw [eqGuard_at_pointer]; simpa using Lib.run_neq_ptr_same w _ hu hj,VR_b rfl⟩
  ·exact hok.elim
  split at hok
  rotate_left
  ·exact hok.elim
  rename_i e hk
  obtain ⟨ti,ht,hk'⟩:=kindP_some hk (by simp)
  have hu:=tk_ptr ht hk'
  have hu':P.underlying t=some (.pointer (P.pointee t)):=by simp [Program.pointee,hu]
  simp only [VR] at hc hd
  obtain ⟨_,b,_,_,rfl⟩:=hc
  subst hd
  cases op <;> try (exact hok.elim)
  ·exact ⟨_,by rw [eqGuard_at_pointer]; simpa using run_eql_pointer_nil w t (some _) hu',VR_b rfl⟩
  ·exact ⟨_,by rw [eqGuard_at_pointer]; simpa using run_neq_pointer_nil w t (some _) hu',VR_b rfl⟩
 ·exact hok.elim

theorem parts_ok (hE:EnvR K w.heap G a E) (hg:g=true):∀ (l:List (Nat × Operand)),partsOk g E l →
  (l.map fun x=>(x.1,a.eval x.2)).map (·.1)=(partsV E l).map (·.1) ∧
  ∀ (j:Nat) (c:Value) (v:Va),(((l.map fun x=>(x.1,a.eval x.2))[j]?).map fun x=>x.2)=some c→((partsV E l)[j]?.map fun x=>x.2)=some v→VR K w.heap G c v
 | [],_=>⟨rfl,by simp [partsV]⟩
 | x::l,h=>by
  simp only [partsOk] at h
  obtain ⟨h1,h2⟩:=parts_ok hE hg l h.2
  refine ⟨by simp only [List.map_cons,partsV,h1],fun j c v hc hv=>?_⟩
  cases j with
  | zero =>
   simp only [List.map_cons,partsV,List.getElem?_cons_zero,Option.map_some,Option.some.injEq] at hc hv
   subst hc; subst hv
   exact opnd_ok hE hg _ h.1
  | succ j=>exact h2 j c v (by simpa using hc) (by simpa [partsV] using hv)
theorem opnds_ok (hE:EnvR K w.heap G a E) (hg:g=true):∀ (l:List Operand),allOk g E l→VRs K w.heap G (l.map a.eval) (opnds E l)
 | [],_=>by simp [VRs,opnds]
 | x::l,h=>by
  simp only [allOk] at h
  simp only [List.map_cons,opnds,VRs]
  exact ⟨_,_,rfl,opnd_ok hE hg x h.1,opnds_ok hE hg l h.2⟩
theorem oOk_BR (hE:EnvR K w.heap G a E) (hg:g=true) (x:Option Operand) (h:oOk g E x):BR K w.heap G (x.map a.eval) (x.map (opnd E)):=by
 cases x with
 | none=>trivial
 | some x=>exact opnd_ok hE hg x h


theorem pure_ok (hS:St K G H w) (hE:EnvR K w.heap G a E) (hg:g=true) (o:Oper) (hok:(pureV P g E H o.op).ok) :
  ∃ c,(execOp a.eval o).run P w=.ok (.value c) w∧VR K w.heap G c (pureV P g E H o.op).v:=by
 obtain ⟨dst,op,ty,pos,after,guard⟩:=o
 have val:∀ (s:Sem Value) (c:Value),s.run P w=.ok c w→(do pure (.value (← s)):Sem Next).run P w=.ok (.value c) w:=by
  intro s c h; simp [h]
 cases op <;> simp only [pureV] at hok ⊢ <;> try (exact hok.elim)
 case move x=>exact ⟨_,rfl,opnd_ok hE hg x hok⟩
 case assign x=>exact ⟨_,rfl,opnd_ok hE hg x hok⟩
 case pick c x y =>
  obtain ⟨⟨h1,h2,h3⟩,hp⟩:=hok
  have hc:=opnd_ok hE hg c h1
  have hx:=rnd_ok hE x h2
  have hy:=rnd_ok hE y h3
  simp only [also]
  unfold pickV at hp ⊢
  split at hp
  rotate_left
  ·exact hp.elim
  rename_i t ht
  rw [ht] at hc
  simp only [VR,DR] at hc
  have hp':=hp hg
  simp only [execOp,hc,asBool]
  cases t
  ·exact ⟨_,by simp; rfl,by simpa [pickW_f] using strip_ok hy (hp'.2 rfl)⟩
  ·exact ⟨_,by simp; rfl,by simpa [pickW_t] using strip_ok hx (hp'.1 rfl)⟩
 case build t ps =>
  split at hok
  rotate_left
  ·exact hok.elim
  rename_i ti ht
  obtain ⟨h1,h2⟩:=hok
  obtain ⟨hp1,hp2⟩:=parts_ok hE hg ps.toList h1
  obtain ⟨c,hr,hv⟩:=buildV_ok (P:=P) w ht (ps:=ps.map fun x=>(x.1,a.eval x.2)) (parts:=partsV E ps.toList) (by simpa using hp1) (by simpa using hp2) h2
  exact ⟨c,val _ _ hr,hv⟩
 case load t x =>
  split at hok
  rotate_left
  ·exact hok.elim
  rename_i ti ht
  obtain ⟨c,hr,hv⟩:=loadV_ok (P:=P) ht hS (opnd_ok hE hg x hok.1) hok.2
  exact ⟨c,val _ _ hr,hv⟩
 case nilCheck x =>
  obtain ⟨h1,h2⟩:=hok
  have hx:=opnd_ok hE hg x h1
  simp only [also,execOp]
  generalize opnd E x=v at hx h2 ⊢
  generalize a.eval x=c at hx ⊢
  cases v <;> simp only [nilV] at h2 ⊢ <;> try (exact h2.elim)
  ·have:=hx; simp only [VR] at this; obtain ⟨_,_,_,_,_,_,rfl,_⟩:=this; exact ⟨_,rfl,hx⟩
  ·have:=hx; simp only [VR] at this; obtain ⟨_,_,_,_,rfl⟩:=this; exact ⟨_,rfl,hx⟩
  ·have:=hx; simp only [VR] at this; obtain ⟨_,_,_,_,_,_,_,rfl⟩:=this; exact ⟨_,rfl,hx⟩
  ·have:=hx; simp only [VR] at this; obtain ⟨_,rfl,_⟩:=this; exact ⟨_,rfl,hx⟩
 case binOp op t x y yt =>
  obtain ⟨⟨h1,h2⟩,h3⟩:=hok
  cases hnn:erN (opnd E x) (opnd E y) y with
  | some b =>
   simp only [hnn] at h3
   simp only [also]
   have hx:=opnd_ok hE hg x h1
   have hy:=opnd_ok hE hg _ h2
   obtain ⟨⟨co,rfl⟩,hcy,hcx⟩:=erN_ok hnn hx hy
   have hi:P.underlying t=some (.interface (P.methodsAt t)):=by
    cases op <;> first | exact h3.elim | skip
    all_goals
     have h4:ifP P t=true:=h3
     unfold ifP at h4
     split at h4
     ·rename_i ms hu
      simp [Program.methodsAt,hu]
     ·cases h4
   rcases hcx with ⟨rfl,hcx⟩ | ⟨rfl,tv,vv,hcx⟩
   ·cases op <;> first | exact h3.elim | skip
    ·refine ⟨_,val _ _ (by rw [hcx,hcy,eqGuard_nil_constR]; simpa using run_eql_nil_nil w t hi),VR_b rfl⟩
    ·refine ⟨_,val _ _ (by rw [hcx,hcy,eqGuard_nil_constR]; simpa using run_neq_nil_nil w t hi),VR_b rfl⟩
   ·cases op <;> first | exact h3.elim | skip
    ·refine ⟨_,val _ _ (by rw [hcx,hcy]; simpa [eqGuard] using run_eql_held_nil w t tv vv hi),VR_b rfl⟩
    ·refine ⟨_,val _ _ (by rw [hcx,hcy]; simpa [eqGuard] using run_neq_held_nil w t tv vv hi),VR_b rfl⟩
  | none =>
  simp only [hnn] at h3
  simp only [also]
  obtain ⟨c,hr,hv⟩:=binV_ok (P:=P) (opnd_ok hE hg x h1) (opnd_ok hE hg y h2) h3 x y
  exact ⟨c,val _ _ hr,hv⟩
 case unOp op t x =>
  obtain ⟨c,hr,hv⟩:=unV_ok (P:=P) (opnd_ok hE hg x hok.1) hok.2
  exact ⟨c,val _ _ hr,hv⟩
 case convert src dst x =>
  split at hok
  rotate_left
  ·exact hok.elim
  rename_i ti ht
  obtain ⟨d,hd,_⟩:=tiP_under ht
  obtain ⟨c,hr,hv⟩:=convQ_ok (P:=P) (dst:=dst) hS (opnd_ok hE hg x hok.1) ⟨d,hd⟩ hok.2
  exact ⟨c,val _ _ hr,hv⟩
 case makeFunc fn first caps =>
  split at hok
  rotate_left
  ·exact hok.elim
  rename_i f hfirst
  have hf0:first=#[]:=by cases first; simp_all
  subst hf0
  refine ⟨.func (.func f) #[] (caps.toList.map a.eval).toArray,?_,?_⟩
  ·have h1:caps.map a.eval=(caps.toList.map a.eval).toArray:=by cases caps; simp
   have h2:(#[]:Array Operand).map a.eval=#[]:=by simp
   simp only [execOp,Instr.makeFunc,h1,h2]
   simp
  ·simp only [VR]
   exact ⟨_,rfl,opnds_ok hE hg caps.toList hok⟩
 case slice t x l h m =>
  split at hok
  rotate_left
  ·exact hok.elim
  rename_i ti ht
  split at hok
  ·rename_i r hr
   obtain ⟨⟨h1,h2,h3,h4⟩,h6⟩:=hok
   obtain ⟨c,hr,hv⟩:=viewV_ok (P:=P) ht hS (opnd_ok hE hg x h1) (oOk_BR hE hg l h2) (oOk_BR hE hg h h3) (oOk_BR hE hg m h4) hr h6
   exact ⟨c,val _ _ hr,hv⟩
  obtain ⟨⟨h1,h2,h3,h4,h5⟩,h6⟩:=hok
  obtain ⟨c,hr,hv⟩:=sliceV_ok (P:=P) ht (opnd_ok hE hg x h1) (oOk_BR hE hg l h2) (oOk_BR hE hg h h3) (oOk_BR hE hg m h4) (by
   unfold cutKind at h5
   split at h5
   ·rename_i s hk hx; exact .inl ⟨hk,s,hx⟩
   ·rename_i e esz eb ez rows hk hx; exact .inr ⟨e,esz,eb,ez,hk,.inl ⟨rows,hx,h5⟩⟩
   ·rename_i e esz eb ez rows hk hx; exact .inr ⟨e,esz,eb,ez,hk,.inr (.inl ⟨rows,hx,h5⟩)⟩
   ·rename_i e esz eb ez hk hx; exact .inr ⟨e,esz,eb,ez,hk,.inr (.inr hx)⟩
   ·exact h5.elim) h6
  exact ⟨c,val _ _ hr,hv⟩
 case fieldAddr t x f =>
  split at hok
  rotate_left
  ·exact hok.elim
  rename_i ti ht
  obtain ⟨c,hr,hv⟩:=fieldAddrV_ok (P:=P) (w:=w) ht (opnd_ok hE hg x hok.1) hok.2
  exact ⟨c,val _ _ hr,hv⟩
 case field t x f =>
  split at hok
  rotate_left
  ·exact hok.elim
  rename_i ti ht
  obtain ⟨c,hr,hv⟩:=fieldV_ok (P:=P) (w:=w) ht (opnd_ok hE hg x hok.1) hok.2
  exact ⟨c,val _ _ hr,hv⟩
 case indexAddr t x i =>
  split at hok
  rotate_left
  ·exact hok.elim
  rename_i ti ht
  obtain ⟨c,hr,hv⟩:=idxAddrV_ok (P:=P) ht hS (opnd_ok hE hg x hok.1.1) (opnd_ok hE hg i hok.1.2) hok.2
  exact ⟨c,val _ _ hr,hv⟩
 case index t x i =>
  split at hok
  rotate_left
  ·exact hok.elim
  rename_i ti ht
  obtain ⟨c,hr,hv⟩:=indexV_ok (P:=P) (w:=w) ht (opnd_ok hE hg x hok.1.1) (opnd_ok hE hg i hok.1.2) hok.2
  exact ⟨c,val _ _ hr,hv⟩
 case extract x i =>
  obtain ⟨c,hr,hv⟩:=extractV_ok (P:=P) (w:=w) (i:=i) (opnd_ok hE hg x hok.1) hok.2
  exact ⟨c,val _ _ hr,hv⟩
 case lookup t x k cok =>
  obtain ⟨c,hr,hv⟩:=lookV_ok (P:=P) hS (opnd_ok hE hg x hok.1.1) (opnd_ok hE hg k hok.1.2) hok.2
  exact ⟨c,val _ _ hr,hv⟩
 case call c =>
  obtain ⟨callee,args,argTypes⟩:=c
  simp only at hok ⊢
  split at hok
  ·rename_i x t ts h1 h2
   have ha:args=#[x]:=by cases args; simp_all
   subst ha
   obtain ⟨c,hr,hv⟩:=lenV_ok (P:=P) hS (opnd_ok hE hg x hok.1) hok.2 argTypes (by rw [← Array.getElem?_toList,h2]; rfl) ty
   exact ⟨c,by simp [execOp,resolve,invoke,builtin,hr],hv⟩
  ·rename_i x t ts h1 h2
   have ha:args=#[x]:=by cases args; simp_all
   subst ha
   obtain ⟨h1,h3⟩:=hok
   have hx:=opnd_ok hE hg x h1
   simp only [also]
   unfold capV at h3 ⊢
   split at h3
   rotate_left
   ·exact h3.elim
   rename_i e esz eb ez o cp hk he
   obtain ⟨ti,ht,hk'⟩:=kindP_some hk (by simp)
   rw [he] at hx
   simp only [VR] at hx
   obtain ⟨g,a0,n0,cap,_,hsv,hc,rfl⟩:=hx
   have hts:argTypes[0]?=some t:=by rw [← Array.getElem?_toList,h2]; rfl
   refine ⟨goInt cap,?_,VR_i (by simp only [Fits,lo,hi]; omega)⟩
   rw [hsv] at hc
   simp [execOp,resolve,invoke,builtin,hc,Builtin.cap_,hts,run_underlying (tk_slice ht hk').1]
  ·rename_i tl x y h1
   have ha:args=#[x,y]:=by cases args; simp_all
   subst ha
   obtain ⟨⟨h1,h2⟩,h3⟩:=hok
   have hx:=opnd_ok hE hg x h1
   have hy:=opnd_ok hE hg y h2
   simp only [also]
   unfold mmV at h3 ⊢
   split at h3
   rotate_left
   ·exact h3.elim
   rename_i k u k' v e1 e2
   rw [e1] at hx; rw [e2] at hy
   simp only [VR,DR] at hx hy
   have hk:k=k':=h3
   subst hk
   refine ⟨.int k (min u v),?_,?_⟩
   ·have:(if v < u then v else u)=min u v:=by rw [Int.min_def]; split <;> split <;> omega
    simp [execOp,resolve,invoke,builtin,hx.1,hy.1,run_min_int2,this]
   ·simp only [cond_true]
    exact VR_i (by rw [Int.min_def]; split; exact hx.2; exact hy.2)
  ·rename_i tl x y z h1
   have ha:args=#[x,y,z]:=by cases args; simp_all
   subst ha
   obtain ⟨⟨h1,h2,h4⟩,h3⟩:=hok
   have hx:=opnd_ok hE hg x h1
   have hy:=opnd_ok hE hg y h2
   have hz:=opnd_ok hE hg z h4
   simp only [also]
   unfold mm3 at h3 ⊢
   split at h3
   rotate_left
   ·exact h3.elim
   rename_i k u k' v k'' t e1 e2 e3
   rw [e1] at hx; rw [e2] at hy; rw [e3] at hz
   simp only [VR,DR] at hx hy hz
   obtain ⟨hk,hk'⟩:=h3
   subst hk; subst hk'
   refine ⟨.int k (min (min u v) t),?_,?_⟩
   ·have e1:(if v < u then v else u)=min u v:=by rw [Int.min_def]; split <;> split <;> omega
    have e2:(if t < min u v then t else min u v)=min (min u v) t:=by rw [Int.min_def (min u v) t]; split <;> split <;> omega
    simp [execOp,resolve,invoke,builtin,hx.1,hy.1,hz.1,Builtin.min_,Builtin.min2,e1,e2]
   ·refine VR_i ?_
    have h1:=hx.2; have h2:=hy.2; have h3:=hz.2
    unfold Fits at *
    omega
  ·rename_i tl x y h1
   have ha:args=#[x,y]:=by cases args; simp_all
   subst ha
   obtain ⟨⟨h1,h2⟩,h3⟩:=hok
   have hx:=opnd_ok hE hg x h1
   have hy:=opnd_ok hE hg y h2
   simp only [also]
   unfold mmV at h3 ⊢
   split at h3
   rotate_left
   ·exact h3.elim
   rename_i k u k' v e1 e2
   rw [e1] at hx; rw [e2] at hy
   simp only [VR,DR] at hx hy
   have hk:k=k':=h3
   subst hk
   refine ⟨.int k (max u v),?_,?_⟩
   ·have:(if u < v then v else u)=max u v:=by rw [Int.max_def]; split <;> split <;> omega
    simp [execOp,resolve,invoke,builtin,hx.1,hy.1,run_max_int2,this]
   ·simp only [cond_false]
    exact VR_i (by rw [Int.max_def]; split; exact hy.2; exact hx.2)
  ·exact hok.elim
end
end Go.Vc
/- Operations that make memory or write it: what they make of the objects. -/
set_option linter.unusedSectionVars false
namespace Go.Vc
variable [Tabs]

structure Ext (kp:Nat→Bool) (K0:Nat→Prop) (G0:List Gh) (w0:World) (K:Nat→Prop) (G:List Gh) (w:World):Prop where
 os:w.os=w0.os
 tape:w.tape=w0.tape
 output:w.output=w0.output
 size:w0.heap.size≤w.heap.size
 k:∀ b,K0 b→K b
 knew:∀ b,K b→K0 b ∨ (∃ (o0:Nat) (g0:Gh),G0[o0]?=some g0∧own g0 b) ∨ w0.heap.size≤b
 glen:G0.length≤G.length
 gown:∀ (o:Nat) (g:Gh) (b:Nat),G[o]?=some g→own g b→(∃ (o0:Nat) (g0:Gh),G0[o0]?=some g0∧own g0 b) ∨ w0.heap.size≤b
 gsame:∀ (o:Nat) (g0:Gh),kp o=true→G0[o]?=some g0→G[o]?=some g0
 frame:∀ b,b < w0.heap.size→(∀ (o:Nat) (g0:Gh),G0[o]?=some g0→¬ own g0 b)→w.heap[b]?=w0.heap[b]?

theorem Ext.refl (kp:Nat→Bool) (K:Nat→Prop) (G:List Gh) (w:World):Ext kp K G w K G w where
 os:=rfl
 tape:=rfl
 output:=rfl
 size:=Nat.le_refl _
 k:=fun _ h=>h
 knew:=fun _ h=>.inl h
 glen:=Nat.le_refl _
 gown:=fun o g _ h hb=>.inl ⟨o,g,h,hb⟩
 gsame:=fun _ _ _ h=>h
 frame:=fun _ _ _=>rfl
theorem Ext.trans {kp:Nat→Bool} {K0 K1 K2:Nat→Prop} {G0 G1 G2:List Gh} {w0 w1 w2:World} (h:Ext kp K0 G0 w0 K1 G1 w1) (k:Ext kp K1 G1 w1 K2 G2 w2):Ext kp K0 G0 w0 K2 G2 w2 where
 os:=k.os.trans h.os
 tape:=k.tape.trans h.tape
 output:=k.output.trans h.output
 size:=Nat.le_trans h.size k.size
 k:=fun b hb=>k.k b (h.k b hb)
 knew:=fun b hb=>by
  rcases k.knew b hb with h1 | ⟨o1,g1,h1,h2⟩ | h1
  ·exact h.knew b h1
  ·exact .inr (h.gown o1 g1 b h1 h2)
  ·exact .inr (.inr (Nat.le_trans h.size h1))
 glen:=Nat.le_trans h.glen k.glen
 gown:=fun o g b hg hb=>by
  rcases k.gown o g b hg hb with ⟨o1,g1,h1,h2⟩ | h1
  ·exact h.gown o1 g1 b h1 h2
  ·exact .inr (Nat.le_trans h.size h1)
 gsame:=fun o g0 ho h0=>k.gsame o g0 ho (h.gsame o g0 ho h0)
 frame:=fun b hb hn=>by
  rw [k.frame b (Nat.lt_of_lt_of_le hb h.size) fun o g1 h1 e=>?_]
  ·exact h.frame b hb hn
  ·rcases h.gown o g1 b h1 e with ⟨o0,g0,h2,h3⟩ | h2
   ·exact hn o0 g0 h2 h3
   ·omega
theorem Ext.cut {kp:Nat→Bool} {K0 K:Nat→Prop} {G0 G:List Gh} {w0 w:World} (h:Ext kp K0 G0 w0 K G w) {n:Nat} (hn:G0.length≤n):Ext kp K0 G0 w0 K (G.take n) w :=
 { h with
  glen:=by rw [List.length_take]; have:=h.glen; omega
  gown:=fun o g b hg hb=>by
   rw [List.getElem?_take] at hg
   split at hg
   ·exact h.gown o g b hg hb
   ·cases hg
  gsame:=fun o g0 ho h0=>by
   have:=(List.getElem?_eq_some_iff.1 h0).1
   rw [List.getElem?_take,if_pos (by omega)]
   exact h.gsame o g0 ho h0 }

structure Cx where
 P:Program
 kp:Nat→Bool
 K0:Nat→Prop
 G0:List Gh
 w0:World
 n:Nat

def kpOk (kp:Nat→Bool) (H:List Ob):Prop:=∀ o,kp o=true→∃ x,H[o]?=some x∧x.kept=true

def Rel (C:Cx) (E:Env) (H:List Ob) (a:Act) (w:World):Prop :=
 ∃ K G,Ext C.kp C.K0 C.G0 C.w0 K G w∧St K G H w∧EnvR K w.heap G a E∧a.defers=[]∧a.tmps.size=C.n∧kpOk C.kp H
def RelV (C:Cx) (E:Env) (H:List Ob) (c:Value) (v:Va) (a:Act) (w:World):Prop :=
 ∃ K G,Ext C.kp C.K0 C.G0 C.w0 K G w∧St K G H w∧EnvR K w.heap G a E∧a.defers=[]∧a.tmps.size=C.n∧kpOk C.kp H∧VR K w.heap G c v

theorem RelV.put {C:Cx} {E:Env} {H:List Ob} {c:Value} {v:Va} {a:Act} {w:World} (h:RelV C E H c v a w) (dst:Option Tmp) (hd:∀ d,dst=some d→d < C.n):Rel C (eput E dst v) H (a.put dst c) w:=by
 obtain ⟨K,G,h1,h2,h3,h4,h5,h6,h7⟩:=h
 refine ⟨K,G,h1,h2,?_,?_,?_,h6⟩
 ·cases dst with
  | none=>exact h3
  | some d =>
   intro m
   simp only [Act.put,eput,eget]
   have hdn:=hd d rfl
   split
   ·rename_i e
    subst e
    rw [show (a.tmps.setIfInBounds d c).getD d undef=c by simp [Array.getD,h5,hdn]]
    exact h7
   ·rename_i e
    rw [show (a.tmps.setIfInBounds d c).getD m undef=a.tmps.getD m undef by simp only [Array.getD_eq_getD_getElem?]; rw [Array.getElem?_setIfInBounds_ne e]]
    exact h3 m
 ·cases dst <;> exact h4
 ·cases dst <;> simp [Act.put,h5]

section
variable {K:Nat→Prop} {G:List Gh} {H:List Ob} {w:World}

def Ob.all (f:Nat→Bool):Ob→Bool
 | .cells _ vs=>Va.alls f vs
 | .it o _ _=>f o
 | .nst _ _ _ _ p _ _=>f p
 | _=>true
theorem Ob.all_true (x:Ob):x.all (fun _=>true)=true:=by cases x <;> first | rfl | exact Va.alls_true _
theorem bufR.keep {K K':Nat→Prop} {h h':Array Obj} (M:Mn K K' h h') {bo:Option Nat} {sv:Value} (hb:∀ b,bo=some b→h'[b]?=h[b]?) {T:TypeId} {sz:Nat} {rows:List (List Dt)} (H:bufR K h bo sv T sz rows):bufR K' h' bo sv T sz rows:=by
 obtain ⟨h1,xs,h2,h3⟩:=H
 refine ⟨h1,xs,DRss.mono M sz xs rows h2,?_⟩
 rcases h3 with h3 | ⟨b,cap,cur,fr,e1,e2,e3,e4⟩
 ·exact .inl h3
 ·exact .inr ⟨b,cap,cur,fr,e1,e2,(hb b e2).trans e3,e4⟩
theorem ObR.keep {K':Nat→Prop} {h h':Array Obj} {G G':List Gh} {f:Nat→Bool} (M:Mn K K' h h') (hG:Mg f G G') {g:Gh} (ho:∀ b,own g b→h'[b]?=h[b]?) {x:Ob}
  (hx:x.all f=true) (H:ObR K h G g x):ObR K' h' G' g x:=by
 have hb:∀ b,g.blk=some b→h'[b]?=h[b]?:=fun b h=>ho b (.inl h)
 cases x with
 | cells T vs =>
  obtain ⟨b,cs,h1,h2,h3⟩:=H
  exact ⟨b,cs,h1,(hb b h1).trans h2,VRs.keep M hG cs vs hx h3⟩
 | buf T sz rows=>exact bufR.keep M hb H
 | fx T sz rows=>exact bufR.keep M hb H
 | sb T bs =>
  obtain ⟨h1,h3⟩:=H
  refine ⟨h1,?_⟩
  rcases h3 with h3 | ⟨b,cap,cur,fr,e1,e2,e3,e4⟩
  ·exact .inl h3
  ·exact .inr ⟨b,cap,cur,fr,e1,e2,(hb b e2).trans e3,e4⟩
 | mp ag es =>
  obtain ⟨h0,b,mes,clock,h1,h2,h3⟩:=H
  exact ⟨h0,b,mes,clock,h1,(hb b h1).trans h2,h3.1.mono M,h3.2⟩
 | mpb ag es bs cl =>
  obtain ⟨h0,b,mes,h1,h2,h3⟩:=H
  exact ⟨h0,b,mes,h1,(hb b h1).trans h2,h3.1.mono M,h3.2⟩
 | it o cl seen =>
  obtain ⟨b,bm,gm,h1,h2,h3,h4⟩:=H
  exact ⟨b,bm,gm,h1,hG o gm hx h2,h3,(hb b h1).trans h4⟩
 | nst f T sz k p rows st =>
  obtain ⟨h0,h1,gp,vs,h2,h3,h4,h5⟩:=H
  exact ⟨h0,h1,gp,vs,hG p gp hx h2,h3,h4,bufR.keep M hb h5⟩
 | inn T sz ins =>
  obtain ⟨h1,h2,h3,h4⟩:=H
  refine ⟨h1,h2,fun j v rows hv hr=>bufR.keep M (fun b hb=>ho b (.inr ⟨v,?_,hb⟩)) (h3 j v rows hv hr),h4⟩
  exact List.mem_of_getElem? hv
 | gone=>exact H
 | lost=>exact H
def Ob.prune (f:Nat→Bool):Ob→Ob
 | .cells T vs=>.cells T (Va.prunes f vs)
 | .it o cl seen=>if f o then .it o cl seen else .gone
 | .nst g T sz k p rows st=>if f p then .nst g T sz k p rows st else bif g then .lost else .gone
 | x=>x
theorem ObR.prune {K':Nat→Prop} {h h':Array Obj} {G G':List Gh} {f:Nat→Bool} (M:Mn K K' h h') (hG:Mg f G G') {g:Gh} (hb:∀ b,own g b→h'[b]?=h[b]?) {x:Ob}
  (H:ObR K h G g x):ObR K' h' G' g (x.prune f):=by
 cases x with
 | cells T vs =>
  obtain ⟨b,cs,h1,h2,h3⟩:=H
  exact ⟨b,cs,h1,(hb b (.inl h1)).trans h2,VRs.prune M hG cs vs h3⟩
 | buf T sz rows=>exact ObR.keep M hG hb rfl H
 | fx T sz rows=>exact ObR.keep M hG hb rfl H
 | sb T bs=>exact ObR.keep M hG hb rfl H
 | mp ag es=>exact ObR.keep M hG hb rfl H
 | mpb ag es bs cl=>exact ObR.keep M hG hb rfl H
 | it o cl seen =>
  simp only [Ob.prune]
  split
  ·rename_i hf; exact ObR.keep M hG hb hf H
  ·trivial
 | nst g T sz k p rows st =>
  simp only [Ob.prune]
  split
  ·rename_i hf; exact ObR.keep M hG hb hf H
  ·cases g <;> trivial
 | inn T sz ins=>exact ObR.keep M hG hb rfl H
 | gone=>exact H
 | lost=>exact H
theorem Ob.prune_kept {f:Nat→Bool} {x:Ob} (h:x.kept=true):(x.prune f).kept=true:=by
 cases x <;> first | rfl | exact h | skip
 case it=>cases h
 case nst g T sz k p rows st =>
  simp only [Ob.prune]
  split
  ·exact h
  ·simp only [Ob.kept] at h; subst h; rfl

theorem Mg.push (G:List Gh) (g:Gh):Mg (fun _=>true) G (G++[g]):=fun o g' _ h=>by
 rw [List.getElem?_append_left (List.getElem?_eq_some_iff.1 h).1]; exact h
theorem Mg.refl (f:Nat→Bool) (G:List Gh):Mg f G G:=fun _ _ _ h=>h

theorem own_one {x b:Nat} {sv:Value} (h:own ⟨some x,sv,[]⟩ b):b=x:=by
 rcases h with h | ⟨v,hv,_⟩
 ·cases h; rfl
 ·cases hv
theorem own_none {b:Nat} {sv:Value} (h:own ⟨none,sv,[]⟩ b):False:=by
 rcases h with h | ⟨v,hv,_⟩
 ·cases h
 ·cases hv
theorem St.push (hS:St K G H w) {o:Obj} {x:Ob} {sv:Value} (hx:ObR K (w.alloc o).heap (G++[⟨some w.heap.size,sv,[]⟩]) ⟨some w.heap.size,sv,[]⟩ x):St K (G++[⟨some w.heap.size,sv,[]⟩]) (H++[x]) (w.alloc o):=by
 have hM:Mn K K w.heap (w.alloc o).heap:=⟨fun _ h=>h,fun b hb=>heap_alloc_old w o (hS.kb b hb)⟩
 have old:∀ {i:Nat} {g:Gh},(G++[⟨some w.heap.size,sv,[]⟩])[i]?=some g→(G[i]?=some g) ∨ (i=G.length∧g=⟨some w.heap.size,sv,[]⟩):=by
  intro i g hg
  rcases Nat.lt_or_ge i G.length with h | h
  ·rw [List.getElem?_append_left h] at hg; exact .inl hg
  ·rw [List.getElem?_append_right h] at hg
   have:i - G.length=0:=by
    rcases Nat.lt_or_ge (i - G.length) 1 with h' | h'
    ·omega
    ·rw [List.getElem?_eq_none (by simpa using h')] at hg; cases hg
   rw [this] at hg
   simp at hg
   exact .inr ⟨by omega,hg.symm⟩
 constructor
 ·simp [hS.len]
 ·intro b hb; rw [World.size_alloc]; exact Nat.lt_succ_of_lt (hS.kb b hb)
 ·intro i g b hg hb
  rcases old hg with h | ⟨_,rfl⟩
  ·have:=hS.gbo i g b h hb
   exact ⟨by rw [World.size_alloc]; omega,this.2⟩
  ·obtain rfl:=own_one hb
   exact ⟨by rw [World.size_alloc]; omega,fun hk=>Nat.lt_irrefl _ (hS.kb _ hk)⟩
 ·intro i j g g' b hg hg' hb hb'
  rcases old hg with h | ⟨e,rfl⟩ <;> rcases old hg' with h' | ⟨e',rfl⟩
  ·exact hS.ijo i j g g' b h h' hb hb'
  ·obtain rfl:=own_one hb'; have:=(hS.gbo i g _ h hb).1; omega
  ·obtain rfl:=own_one hb; have:=(hS.gbo j g' _ h' hb').1; omega
  ·omega
 ·intro i g y hg hy
  rcases old hg with h | ⟨e,rfl⟩
  ·have hl:=(List.getElem?_eq_some_iff.1 h).1
   rw [hS.len] at hl
   rw [List.getElem?_append_left hl] at hy
   exact ObR.keep hM (Mg.push G _) (fun b hb=>heap_alloc_old w o (hS.gbo i g b h hb).1) (Ob.all_true _) (hS.ob i g y h hy)
  ·subst e
   rw [hS.len,List.getElem?_append_right (Nat.le_refl _)] at hy
   simp at hy
   subst hy
   exact hx
 ·exact hS.tb.mono hM
theorem Ext.push (kp:Nat→Bool) (o:Obj) (sv:Value):Ext kp K G w K (G++[⟨some w.heap.size,sv,[]⟩]) (w.alloc o) where
 os:=rfl
 tape:=rfl
 output:=rfl
 size:=by rw [World.size_alloc]; omega
 k:=fun _ h=>h
 knew:=fun _ h=>.inl h
 glen:=by simp
 gown:=fun i g b hg hb=>by
  rcases Nat.lt_or_ge i G.length with hi | hi
  ·rw [List.getElem?_append_left hi] at hg
   exact .inl ⟨i,g,hg,hb⟩
  ·rw [List.getElem?_append_right hi] at hg
   have:i - G.length=0:=by
    rcases Nat.lt_or_ge (i - G.length) 1 with h' | h'
    ·omega
    ·rw [List.getElem?_eq_none (by simpa using h')] at hg; cases hg
   rw [this] at hg
   simp at hg
   subst hg
   obtain rfl:=own_one hb
   exact .inr (Nat.le_refl _)
 gsame:=fun i g0 _ h0=>by rw [List.getElem?_append_left (List.getElem?_eq_some_iff.1 h0).1]; exact h0
 frame:=fun b hb _=>heap_alloc_old w o hb
theorem St.pushK (hS:St K G H w) (o:Obj):St (fun b=>K b ∨ b=w.heap.size) G H (w.alloc o) where
 len:=hS.len
 kb:=fun b hb=>by rw [World.size_alloc]; rcases hb with h | h; exact Nat.lt_succ_of_lt (hS.kb b h); omega
 gbo:=fun i g b hg hb=>by
  have:=hS.gbo i g b hg hb
  exact ⟨by rw [World.size_alloc]; omega,fun h=>h.elim this.2 fun e=>by omega⟩
 ijo:=hS.ijo
 tb:=hS.tb.mono ⟨fun _ h=>.inl h,fun b hb=>heap_alloc_old w o (hS.kb b hb)⟩
 ob:=fun i g y hg hy=>ObR.keep (K:=K) ⟨fun _ h=>.inl h,fun b hb=>heap_alloc_old w o (hS.kb b hb)⟩ (Mg.refl (fun _=>true) G) (fun b hb=>heap_alloc_old w o (hS.gbo i g b hg hb).1) (Ob.all_true _) (hS.ob i g y hg hy)
theorem Ext.pushK (kp:Nat→Bool) (o:Obj):Ext kp K G w (fun b=>K b ∨ b=w.heap.size) G (w.alloc o) where
 os:=rfl
 tape:=rfl
 output:=rfl
 size:=by rw [World.size_alloc]; omega
 k:=fun _ h=>.inl h
 knew:=fun b h=>h.elim .inl fun e=>.inr (.inr (by omega))
 glen:=Nat.le_refl _
 gown:=fun i g b hg hb=>.inl ⟨i,g,hg,hb⟩
 gsame:=fun _ _ _ h=>h
 frame:=fun b hb _=>heap_alloc_old w o hb
end
end Go.Vc
/- Operations that make memory or write it. -/
set_option linter.unusedSectionVars false
namespace Go.Vc
variable [Tabs]

section
variable {K:Nat→Prop} {G:List Gh} {H:List Ob} {w:World} {P:Program}

theorem St.modO (hS:St K G H w) {o:Nat} {g:Gh} {b:Nat} (hg:G[o]?=some g) (hb:own g b) {w':World} (hsz:w'.heap.size=w.heap.size) (hfr:∀ i,i ≠ b→w'.heap[i]?=w.heap[i]?) {x:Ob} (hx:ObR K w'.heap G g x) :
  St K G (H.set o x) w':=by
 have hM:Mn K K w.heap w'.heap:=⟨fun _ h=>h,fun i hi=>hfr i fun e=>(hS.gbo o g b hg hb).2 (e ▸ hi)⟩
 refine ⟨by simp [hS.len],fun i hi=>by rw [hsz]; exact hS.kb i hi,fun i g b hg hb=>by rw [hsz]; exact hS.gbo i g b hg hb,hS.ijo,fun i g' y hg' hy=>?_,hS.tb.mono hM⟩
 by_cases e:i=o
 ·subst e
  rw [hg] at hg'; cases hg'
  have hl:=(List.getElem?_eq_some_iff.1 hg).1
  rw [hS.len] at hl
  rw [List.getElem?_set_self hl] at hy
  cases hy
  exact hx
 ·rw [List.getElem?_set_ne (Ne.symm e)] at hy
  exact ObR.keep hM (Mg.refl (fun _=>true) G) (fun b' hb'=>hfr b' fun e'=>e (hS.ijo i o g' g b' hg' hg hb' (by rw [e']; exact hb))) (Ob.all_true _) (hS.ob i g' y hg' hy)
theorem St.modA (hS:St K G H w) {o:Nat} {g:Gh} {b:Nat} (hg:G[o]?=some g) (hb:g.blk=some b) {w':World} (hsz:w'.heap.size=w.heap.size) (hfr:∀ i,i ≠ b→w'.heap[i]?=w.heap[i]?) {x:Ob} (hx:ObR K w'.heap G g x) :
  St K G (H.set o x) w':=hS.modO hg (.inl hb) hsz hfr hx
theorem Ext.modO (kp:Nat→Bool) {o:Nat} {g:Gh} {b:Nat} (hg:G[o]?=some g) (hb:own g b) {w':World} (hos:w'.os=w.os) (ht:w'.tape=w.tape) (ho:w'.output=w.output) (hsz:w'.heap.size=w.heap.size) (hfr:∀ i,i ≠ b→w'.heap[i]?=w.heap[i]?) :
  Ext kp K G w K G w' where
 os:=hos
 tape:=ht
 output:=ho
 size:=by omega
 k:=fun _ h=>h
 knew:=fun _ h=>.inl h
 glen:=Nat.le_refl _
 gown:=fun i g _ hg hb=>.inl ⟨i,g,hg,hb⟩
 gsame:=fun _ _ _ h=>h
 frame:=fun i _ hn=>hfr i fun e=>hn o g hg (by rw [e]; exact hb)
theorem Ext.modA (kp:Nat→Bool) {o:Nat} {g:Gh} {b:Nat} (hg:G[o]?=some g) (hb:g.blk=some b) {w':World} (hos:w'.os=w.os) (ht:w'.tape=w.tape) (ho:w'.output=w.output) (hsz:w'.heap.size=w.heap.size) (hfr:∀ i,i ≠ b→w'.heap[i]?=w.heap[i]?) :
  Ext kp K G w K G w':=Ext.modO kp hg (.inl hb) hos ht ho hsz hfr

theorem St.modB (hS:St K G H w) {o:Nat} {g g1:Gh} (hg:G[o]?=some g) {w':World} (hsz:w.heap.size≤w'.heap.size) (hfr:∀ i,i < w.heap.size→¬ own g i→w'.heap[i]?=w.heap[i]?)
  (h1:∀ b,own g1 b→b < w'.heap.size∧(own g b ∨ w.heap.size≤b)) {x:Ob} (hx:ObR K w'.heap (G.set o g1) g1 x) :
  St K (G.set o g1) ((H.map (Ob.prune (· != o))).set o x) w':=by
 have hl:=(List.getElem?_eq_some_iff.1 hg).1
 have hM:Mn K K w.heap w'.heap:=⟨fun _ h=>h,fun i hi=>hfr i (hS.kb i hi) fun e=>(hS.gbo o g i hg e).2 hi⟩
 have hMg:Mg (· != o) G (G.set o g1):=fun i g' hi hg'=>by rw [List.getElem?_set_ne (by simpa using Ne.symm (by simpa using hi))]; exact hg'
 have cases2:∀ {i:Nat} {g':Gh},(G.set o g1)[i]?=some g'→(i=o∧g'=g1) ∨ (i ≠ o∧G[i]?=some g'):=by
  intro i g' h
  by_cases e:i=o
  ·subst e; rw [List.getElem?_set_self hl] at h; cases h; exact .inl ⟨rfl,rfl⟩
  ·rw [List.getElem?_set_ne (Ne.symm e)] at h; exact .inr ⟨e,h⟩
 refine ⟨by simp [hS.len],fun i hi=>Nat.lt_of_lt_of_le (hS.kb i hi) hsz,fun i g' b hg' hb=>?_,fun i j g' g'' b hg' hg'' hb hb'=>?_,fun i g' y hg' hy=>?_,hS.tb.mono hM⟩
 ·rcases cases2 hg' with ⟨rfl,rfl⟩ | ⟨e,h⟩
  ·refine ⟨(h1 b hb).1,fun hk=>?_⟩
   rcases (h1 b hb).2 with h2 | h2
   ·exact (hS.gbo _ g b hg h2).2 hk
   ·have:=hS.kb b hk; omega
  ·have:=hS.gbo i g' b h hb
   exact ⟨by omega,this.2⟩
 ·rcases cases2 hg' with ⟨rfl,rfl⟩ | ⟨e,h⟩ <;> rcases cases2 hg'' with ⟨rfl,rfl⟩ | ⟨e',h'⟩
  ·rfl
  ·rcases (h1 b hb).2 with h2 | h2
   ·exact hS.ijo _ j g g'' b hg h' h2 hb'
   ·have:=(hS.gbo j g'' b h' hb').1; omega
  ·rcases (h1 b hb').2 with h2 | h2
   ·exact hS.ijo i _ g' g b h hg hb h2
   ·have:=(hS.gbo i g' b h hb).1; omega
  ·exact hS.ijo i j g' g'' b h h' hb hb'
 ·rcases cases2 hg' with ⟨rfl,rfl⟩ | ⟨e,h⟩
  ·rw [List.getElem?_set_self (by simp [← hS.len,hl])] at hy
   cases hy
   exact hx
  ·rw [List.getElem?_set_ne (Ne.symm e),List.getElem?_map] at hy
   cases hyy:H[i]? with
   | none=>rw [hyy] at hy; simp at hy
   | some y0 =>
    rw [hyy] at hy
    simp at hy
    subst hy
    exact ObR.prune hM hMg (fun b' hb'=>hfr b' (hS.gbo i g' b' h hb').1 fun e'=>e (hS.ijo i o g' g b' h hg hb' e')) (hS.ob i g' y0 h hyy)
theorem Ext.modB {kp:Nat→Bool} {o:Nat} {g g1:Gh} (hg:G[o]?=some g) (hkp:kp o=false) {w':World} (hos:w'.os=w.os) (ht:w'.tape=w.tape) (ho:w'.output=w.output) (hsz:w.heap.size≤w'.heap.size) (hfr:∀ i,i < w.heap.size→¬ own g i→w'.heap[i]?=w.heap[i]?)
  (h1:∀ b,own g1 b→own g b ∨ w.heap.size≤b):Ext kp K G w K (G.set o g1) w' where
 os:=hos
 tape:=ht
 output:=ho
 size:=hsz
 k:=fun _ h=>h
 knew:=fun _ h=>.inl h
 glen:=by simp
 gown:=fun i g' b hg' hb=>by
  by_cases e:i=o
  ·subst e
   rw [List.getElem?_set_self (List.getElem?_eq_some_iff.1 hg).1] at hg'
   cases hg'
   exact (h1 b hb).imp (fun h=>⟨i,g,hg,h⟩) id
  ·rw [List.getElem?_set_ne (Ne.symm e)] at hg'; exact .inl ⟨i,g',hg',hb⟩
 gsame:=fun i g0 hi h0=>by
  rw [List.getElem?_set_ne (fun e=>by rw [← e,hkp] at hi; cases hi)]; exact h0
 frame:=fun i hi hn=>hfr i hi (hn o g hg)

theorem run_storeCells_from (g o:Nat) (t:TypeId) (fr:Nat × Nat):∀ (vs:List Value) (i:Nat) (cur:Array Value) (w:World),w.heap[g]?=some (.cells cur t fr)→(∀ j,o+i≤j→j < cur.size→¬ (fr.1≤j∧j < fr.2))→o+i+vs.length≤cur.size→(∀ v ∈ vs,v.oneCell'=true) →
  (storeCells ⟨g,o,none⟩ vs i).run P w=.ok () (w.setRow g (setRv cur.toList (o+i) vs).toArray)
 | [],i,cur,w,hg,_,hl,_=>by
  have e:∀ (l:List Value) (n:Nat),n≤l.length→setRv l n []=l:=by
   intro l n
   induction n generalizing l with
   | zero=>intro _; simp [setRv]
   | succ n ih=>intro hn; cases l with
    | nil=>simp at hn
    | cons x l=>simp only [setRv]; rw [ih l (by simpa using hn)]
  simp only [storeCells]
  rw [e cur.toList _ (by simpa using hl),Array.toArray_toList,setRow_self w g cur t fr hg]
  rfl
 | v::rest,i,cur,w,hg,hf,hl,h1=>by
  have hi:o+i < cur.size:=by simp at hl; omega
  have hcell:w.cell? ⟨g,o+i,none⟩=some cur[o+i]:=by simp [World.cell?,hg,hi]
  have hfro:w.frozen? ⟨g,o+i,none⟩=false:=by
   have:=hf (o+i) (Nat.le_refl _) hi
   obtain ⟨f1,f2⟩:=fr
   simp only [World.frozen?,hg] at this ⊢
   simpa using this
  have hst:(store ((⟨g,o,none⟩:Addr).add i) v).run P w=.ok () (w.setRow g (cur.setIfInBounds (o+i) v)):=by
   rw [addr_add,run_store P w _ v _ (h1 v (by simp)),hcell]
   simp [hfro,setCell_eq_setRow w g (o+i) cur t fr v hg]
  have hg':=setRow_heap w g cur (cur.setIfInBounds (o+i) v) t fr hg
  have ih:=run_storeCells_from g o t fr rest (i+1) (cur.setIfInBounds (o+i) v) (w.setRow g (cur.setIfInBounds (o+i) v)) hg' (fun j h1 h2=>hf j (by omega) (by simpa using h2)) (by simp at hl ⊢; omega) (fun u hu=>h1 u (by simp [hu]))
  have key:∀ (l:List Value) (n:Nat),n+(v::rest).length≤l.length→setRv (l.set n v) (n+1) rest=setRv l n (v::rest):=by
   intro l n
   induction n generalizing l with
   | zero=>intro hn; cases l with
    | nil=>simp at hn
    | cons y l=>simp [setRv]
   | succ n ih=>intro hn; cases l with
    | nil=>simp at hn
    | cons y l=>simp only [List.set_cons_succ,setRv]; rw [ih l (by simp at hn ⊢; omega)]
  simp only [storeCells,Sem.run_bind,hst,Result.andThen_ok,ih]
  rw [setRow_setRow,Array.toList_setIfInBounds,show o+(i+1)=(o+i)+1 by omega,key cur.toList (o+i) (by simp at hl ⊢; omega)]

theorem run_storeCells_free (g o:Nat) (t:TypeId) (fr:Nat × Nat) (vs:List Value) (i:Nat) (cur:Array Value) (w:World) (hg:w.heap[g]?=some (.cells cur t fr)) (hf:Free fr cur.size) (hl:o+i+vs.length≤cur.size) (h1:∀ v ∈ vs,v.oneCell'=true) :
  (storeCells ⟨g,o,none⟩ vs i).run P w=.ok () (w.setRow g (setRv cur.toList (o+i) vs).toArray):=run_storeCells_from g o t fr vs i cur w hg (fun j _ hj=>hf.out j hj) hl h1

theorem VR.one {h:Array Obj} {c:Value} {v:Va} (hc:VR K h G c v) (hv:v.isCell=true) (ha:∀ vs,v ≠ .agg vs):c.oneCell'=true:=by
 cases v with
 | p x =>
  cases x with
  | l rows=>simp only [VR,DR] at hc; rcases hc with ⟨⟨_,rfl⟩,_⟩ | ⟨_,_,_,_,_,_,_,_,rfl,_⟩ <;> rfl
  | b x=>simp only [VR,DR] at hc; subst hc; rfl
  | i k n=>simp only [VR,DR] at hc; obtain ⟨rfl,_⟩:=hc; rfl
  | s x=>simp only [VR,DR] at hc; obtain ⟨rfl,_⟩:=hc; rfl
  | a ds=>simp [Va.isCell] at hv
  | r x=>simp only [VR,DR] at hc; obtain ⟨rfl,h⟩:=hc; exact h
 | nils=>simp only [VR] at hc; subst hc; rfl
 | full rows=>simp only [VR] at hc; obtain ⟨_,a,rfl⟩:=hc; rfl
 | rp row=>simp only [VR] at hc; obtain ⟨_,_,_,_,_,_,rfl,_⟩:=hc; rfl
 | ptr o off=>simp only [VR] at hc; obtain ⟨_,_,_,_,rfl⟩:=hc; rfl
 | cs o off=>simp only [VR] at hc; obtain ⟨_,_,_,_,rfl⟩:=hc; rfl
 | el o sz i off=>simp only [VR] at hc; obtain ⟨_,_,_,_,_,_,_,rfl⟩:=hc; rfl
 | buf o=>simp only [VR] at hc; obtain ⟨_,_,rfl,_,_,_,e⟩:=hc; rw [e]; rfl
 | mp o=>simp only [VR] at hc; obtain ⟨_,_,_,_,rfl⟩:=hc; rfl
 | np o=>simp only [VR] at hc; rcases hc with rfl | ⟨_,_,_,_,rfl⟩ <;> rfl
 | sd o=>simp only [VR] at hc; obtain ⟨_,_,_,_,_,_,rfl⟩:=hc; rfl
 | vw o sz a n=>simp only [VR] at hc; obtain ⟨_,_,_,_,_,_,_,_,_,rfl,_⟩:=hc; rfl
 | bufc o cp=>simp only [VR] at hc; obtain ⟨_,_,_,_,_,e,rfl,_⟩:=hc; rw [e]; rfl
 | nv o i=>simp only [VR] at hc; obtain ⟨_,_,_,_,_,_,rfl⟩:=hc; rfl
 | ne o sz i j off=>simp only [VR] at hc; obtain ⟨_,_,_,_,_,_,rfl⟩:=hc; rfl
 | fn f vs=>simp only [VR] at hc; obtain ⟨_,rfl,_⟩:=hc; rfl
 | agg cs=>exact absurd rfl (ha cs)
 | tup vs=>simp [Va.isCell] at hv
 | nil=>simp only [VR] at hc; subst hc; rfl
 | cnd x y=>simp [Va.isCell] at hv
 | raw x=>simp only [VR] at hc; subst hc; simpa [Va.isCell] using hv
 | er b=>simp only [VR] at hc; rcases hc with ⟨_,rfl⟩ | ⟨_,_,_,rfl⟩ <;> rfl
 | top=>simp [Va.isCell] at hv
def allOne:List Va→Prop
 | []=>True
 | .agg _::_=>False
 | v::vs=>v.isCell=true∧allOne vs
theorem allOne_ok {h:Array Obj}:∀ {cs:List Value} {vs:List Va},VRs K h G cs vs→allOne vs→∀ c ∈ cs,c.oneCell'=true
 | cs,[],H,_=>by simp only [VRs] at H; subst H; simp
 | cs,v::vs,H,ha=>by
  simp only [VRs] at H
  obtain ⟨c,cs',rfl,h2,h3⟩:=H
  have hv:v.isCell=true∧(∀ l,v ≠ .agg l)∧allOne vs:=by
   cases v <;> simp only [allOne] at ha <;> first | exact ⟨ha.1,by simp,ha.2⟩ | exact ha.elim
  intro c' hc'
  rcases List.mem_cons.1 hc' with rfl | hm
  ·exact h2.one hv.1 hv.2.1
  ·exact allOne_ok h3 hv.2.2 c' hm
end
end Go.Vc
/- The built-in append,and the objects that it makes. -/
set_option linter.unusedSectionVars false
namespace Go.Vc
variable [Tabs]

section
variable {P:Program} (w:World)
structure Src (P:Program) (w:World) (size:Nat) (x:Value) (m:Nat) (news:List Value):Prop where
 len:∀ w',(Builtin.lenOf x).run P w'=.ok m w'
 cells:∀ w',w'.heap=w.heap→(Builtin.firstCells size m x).run P w'=.ok news.toArray w'
 size:news.length=m * size

theorem run_app_grow {t u ty e:TypeId} {i:TypeInfo} {z:Value} (ht:P.underlying t=some (.slice e)) {d:TypeDesc} (hu:P.underlying u=some d) (hd:(∃ k,d=.slice k) ∨ d=.string) (hi:P.info? e=some i) (hz:i.zero=some z)
  {base:Option Addr} {sLen sCap m:Nat} {x:Value} {olds news:List Value} (ho:Src P w i.size (.slice base sLen sCap) sLen olds) (hx:Src P w i.size x m news)
  (hg:sCap < sLen+m) (h63:sLen+m≤9223372036854775807) (hfit:Builtin.nextslicecap (sLen+m) sCap * i.bytes≤281474976710656) :
  (Builtin.append_ #[t,u] ty #[.slice base sLen sCap,x]).run P w =
   .ok (.slice (some ⟨w.heap.size,0,none⟩) (sLen+m) (grownCap w (sLen+m) sCap e))
    (w.drew.alloc (.cells (olds.toArray++news.toArray++Builtin.zeroCells z.cells (grownCap w (sLen+m) sCap e - (sLen+m))) e)):=by
 have hn:¬ (sLen+m≤sCap):=by omega
 have h63':¬ (9223372036854775807 < ((sLen:Int)+(m:Int))):=by omega
 have h48':¬ (281474976710656 < Builtin.nextslicecap (sLen+m) sCap * i.bytes):=by omega
 have hf:=hx.cells w.drew rfl
 have hfo:=ho.cells w.drew rfl
 rcases hd with ⟨k,rfl⟩ | rfl
 all_goals
  simp [Builtin.append_,run_underlying ht,run_underlying hu,sizeOf,typeInfo,zeroValue,hi,hz,hx.len,hn,h63',h48',Question.forced,hf,hfo,newRow,grownCap]
  congr 2
  apply Array.ext'
  simp [List.append_assoc]

theorem run_app_room {t u ty e:TypeId} {i:TypeInfo} (ht:P.underlying t=some (.slice e)) {d:TypeDesc} (hu:P.underlying u=some d) (hd:(∃ k,d=.slice k) ∨ d=.string) (hi:P.info? e=some i)
  {g sLen sCap m:Nat} {x:Value} {cur:Array Value} {fr:Nat × Nat} {news:List Value} (hgc:w.heap[g]?=some (.cells cur e fr)) (hfr:∀ j,sLen * i.size≤j→j < cur.size→¬ (fr.1≤j∧j < fr.2)) (hx:Src P w i.size x m news) (h1:∀ u ∈ news,u.oneCell'=true)
  (hroom:sLen+m≤sCap) (hfit:sLen * i.size+news.length≤cur.size) :
  (Builtin.append_ #[t,u] ty #[.slice (some ⟨g,0,none⟩) sLen sCap,x]).run P w=.ok (.slice (some ⟨g,0,none⟩) (sLen+m) sCap) (w.setRow g (setRv cur.toList (sLen * i.size) news).toArray):=by
 have hf:=hx.cells w rfl
 have hst:=run_storeCells_from (P:=P) g (sLen * i.size) e fr news 0 cur w hgc (by simpa using hfr) (by simpa using hfit) h1
 simp only [Nat.add_zero] at hst
 rcases hd with ⟨k,rfl⟩ | rfl
 all_goals
  simp [Builtin.append_,run_underlying ht,run_underlying hu,sizeOf,typeInfo,hi,hx.len,hroom,hf,addr_add,hst]
theorem run_app_none {t u ty e:TypeId} {i:TypeInfo} (ht:P.underlying t=some (.slice e)) {d:TypeDesc} (hu:P.underlying u=some d) (hd:(∃ k,d=.slice k) ∨ d=.string) (hi:P.info? e=some i)
  {x:Value} {news:List Value} (hx:Src P w i.size x 0 news) (a:Option Addr) :
  (Builtin.append_ #[t,u] ty #[.slice a 0 0,x]).run P w=.ok (.slice a 0 0) w:=by
 have hf:=hx.cells w rfl
 have hn:news=[]:=by have:=hx.size; simpa using this
 subst hn
 rcases hd with ⟨k,rfl⟩ | rfl
 all_goals
  cases a <;> simp [Builtin.append_,run_underlying ht,run_underlying hu,sizeOf,typeInfo,hi,hx.len,hf,storeCells]
end

theorem setRv_eq:∀ (l:List Value) (n:Nat) (xs:List Value),n+xs.length≤l.length→setRv l n xs=l.take n++xs++l.drop (n+xs.length)
 | l,0,xs,_=>by simp [setRv]
 | x::l,n+1,xs,h=>by
  simp only [setRv]
  rw [setRv_eq l n xs (by simp at h; omega)]
  simp [Nat.add_right_comm]
 | [],n+1,xs,h=>by simp at h

section
variable {K:Nat→Prop} {G:List Gh} {H:List Ob} {w:World} {P:Program}

theorem app_row (hKs:∀ b,K b→b < w.heap.size) {T:TypeId} {sz:Nat} {rows:List (List Dt)} {bo:Option Nat} {sv0:Value} (hbb:∀ b,bo=some b→b < w.heap.size∧¬ K b) (ho:bufR K w.heap bo sv0 T sz rows)
  {t u ty:TypeId} {i:TypeInfo} {z:Value} (ht:P.underlying t=some (.slice T)) {d:TypeDesc} (hu:P.underlying u=some d) (hd:(∃ k,d=.slice k) ∨ d=.string) (hi:P.info? T=some i) (hsz:i.size=sz) (hz:i.zero=some z) (hzs:z.cells.size=sz)
  {x:Value} {m:Nat} {news:List Value} (hx:Src P w i.size x m news) (h1:∀ u ∈ news,u.oneCell'=true) {rows':List (List Dt)} (hr:DRss K w.heap sz news rows') (hm:rows'.length=m) (hlim:(rows++rows').length≤Lim) (hby:(rows++rows').length * i.bytes≤140737488355328) :
  ∃ sv w' bn,(Builtin.append_ #[t,u] ty #[sv0,x]).run P w=.ok sv w'∧(∃ a n c,sv=.slice a n c)∧w'.os=w.os∧w'.tape=w.tape∧w'.output=w.output∧w.heap.size≤w'.heap.size ∧
   (∀ i,i < w.heap.size→bo ≠ some i→w'.heap[i]?=w.heap[i]?)∧(∀ b,bn=some b→b < w'.heap.size∧(bo=some b ∨ w.heap.size≤b))∧bufR K w'.heap bn sv T sz (rows++rows'):=by
 subst hsz
 subst hm
 have hl63:rows.length+rows'.length≤9223372036854775807:=by simp only [List.length_append,Lim] at hlim; omega
 have hlm:rows.length+rows'.length≤maxLen:=by simp only [maxLen]; omega
 obtain ⟨hlr,xs,hxs,hh⟩:=ho
 have hxl:=hxs.length
 have hnl:=hx.size
 have hK:∀ b,K b→b < w.heap.size:=hKs
 -- where it grows
 have grown:∀ (base:Option Addr) (cap:Nat),sv0=.slice base rows.length cap→Src P w i.size sv0 rows.length xs→cap < rows.length+rows'.length →
   ∃ sv w' bn,(Builtin.append_ #[t,u] ty #[sv0,x]).run P w=.ok sv w'∧(∃ a n c,sv=.slice a n c)∧w'.os=w.os∧w'.tape=w.tape∧w'.output=w.output∧w.heap.size≤w'.heap.size ∧
    (∀ i,i < w.heap.size→bo ≠ some i→w'.heap[i]?=w.heap[i]?)∧(∀ b,bn=some b→b < w'.heap.size∧(bo=some b ∨ w.heap.size≤b))∧bufR K w'.heap bn sv T i.size (rows++rows'):=by
  intro base cap hsv hsrc hlt
  have hfit:=growslice_fits (bytes:=i.bytes) hlt (by simpa using hby)
  rw [hsv] at hsrc
  have hrun:=run_app_grow (P:=P) w (ty:=ty) ht hu hd hi hz hsrc hx hlt hl63 hfit
  have hge:=grownCap_ge w (rows.length+rows'.length) cap T
  have hcm:=grownCap_le_maxLen w (rows.length+rows'.length) cap T hlm
  refine ⟨_,w.drew.alloc (.cells (xs.toArray++news.toArray++Builtin.zeroCells z.cells (grownCap w (rows.length+rows'.length) cap T - (rows.length+rows'.length))) T),some w.heap.size,by rw [hsv]; exact hrun,⟨_,_,_,rfl⟩,rfl,rfl,rfl,by simp,fun k hk _=>heap_alloc_old w.drew _ hk,fun b hb=>?_,?_⟩
  ·cases hb; exact ⟨by simp,.inr (Nat.le_refl _)⟩
  ·refine ⟨hlim,xs++news,?_,.inr ⟨w.heap.size,_,_,(0,0),by rw [List.length_append],rfl,heap_alloc_new w.drew _,?_,by rw [List.length_append]; exact hge,hcm,?_,?_⟩⟩
   ·exact DRss.mono ⟨fun _ h=>h,fun b hb=>heap_alloc_old w.drew _ (hK b hb)⟩ _ _ _ (hxs.append hr)
   ·exact .inl rfl
   ·simp only [Array.size_append,List.size_toArray,size_zeroCells,hzs,hxl,hnl,← Nat.add_mul]
    congr 1
    omega
   ·simp only [Array.toList_append,List.append_assoc]
    rw [← List.append_assoc]
    have:(xs++news).length=(rows++rows').length * i.size:=by rw [List.length_append,List.length_append,hxl,hnl,Nat.add_mul]
    rw [← this]
    exact List.take_left
 rcases hh with ⟨hsv,hr0,hgb⟩ | ⟨b,cap,cur,fr,hsv,hgb,hb,hfr,hle,hcap,hcs,htake⟩
 ·obtain ⟨ad,hsv⟩:=hsv
  subst hr0
  have hx0:xs=[]:=by simpa [DRss] using hxs
  subst hx0
  rcases Nat.eq_zero_or_pos rows'.length with h0 | hp
  ·have hr0:rows'=[]:=List.length_eq_zero_iff.1 h0
   subst hr0
   refine ⟨.slice ad 0 0,w,bo,by rw [hsv]; exact run_app_none (P:=P) w ht hu hd hi hx ad,⟨_,_,_,rfl⟩,rfl,rfl,rfl,Nat.le_refl _,fun _ _ _=>rfl,fun b hb=>⟨(hbb b hb).1,.inl hb⟩,?_⟩
   exact ⟨by simp,[],by simp [DRss],.inl ⟨⟨ad,rfl⟩,rfl,hgb⟩⟩
  ·have hsrc:Src P w i.size sv0 0 []:=by
    rw [hsv]
    exact ⟨fun _=>rfl,fun _ _=>by cases ad <;> simp [Builtin.firstCells,loadCells,loadCellsFrom],by simp⟩
   exact grown ad 0 (by simpa using hsv) (by simpa using hsrc) (by simpa using hp)
 ·by_cases hroom:rows.length+rows'.length≤cap
  ·have hfit:rows.length * i.size+news.length≤cur.size:=by rw [hnl,hcs,← Nat.add_mul]; exact Nat.mul_le_mul_right _ hroom
   have hrun:=run_app_room (P:=P) w (ty:=ty) ht hu hd hi hb (fun j _ hj=>hfr.out j hj) hx h1 hroom hfit
   refine ⟨_,w.setRow b (setRv cur.toList (rows.length * i.size) news).toArray,some b,by rw [hsv]; exact hrun,⟨_,_,_,rfl⟩,rfl,rfl,rfl,by simp,fun k _ hk=>setRow_other w b k _ (fun e=>hk (by rw [hgb,e])),fun b' hb'=>?_,?_⟩
   ·cases hb'
    exact ⟨by rw [setRow_size]; exact (hbb _ hgb).1,.inl hgb⟩
   ·have hcl:(setRv cur.toList (rows.length * i.size) news).length=cur.size:=by rw [setRv_length _ _ _ (by simpa using hfit)]; simp
    refine ⟨hlim,xs++news,?_,.inr ⟨b,cap,_,fr,by rw [List.length_append],rfl,setRow_heap w b cur _ T fr hb,?_,by rw [List.length_append]; exact hroom,hcap,?_,?_⟩⟩
    ·exact DRss.mono ⟨fun _ h=>h,fun b' hb'=>setRow_other w b b' _ (fun e=>(hbb b hgb).2 (e ▸ hb'))⟩ _ _ _ (hxs.append hr)
    ·simp only [List.size_toArray,hcl]; exact hfr
    ·simp only [List.size_toArray,hcl]; exact hcs
    ·simp only
     have hl2:(cur.toList.take (rows.length * i.size)++news).length=(rows++rows').length * i.size:=by
      rw [htake,List.length_append,List.length_append,hxl,hnl,Nat.add_mul]
     rw [setRv_eq _ _ _ (by simpa using hfit),← hl2,List.take_left,htake]
  ·refine grown (some ⟨b,0,none⟩) cap hsv ?_ (by omega)
   rw [hsv]
   refine ⟨fun _=>rfl,fun w' hw'=>?_,hxl⟩
   refine run_firstCells_some (P:=P) w' i.size rows.length _ _ _ xs hxl (fun j v hj=>?_)
   rw [addr_add,cell_of_row w' b (0+j) cur T fr (by rw [hw']; exact hb),Nat.zero_add]
   rw [← htake,List.getElem?_take] at hj
   split at hj
   ·rw [← Array.getElem?_toList]; exact hj
   ·cases hj
theorem app_ok (hS:St K G H w) {o:Nat} {T:TypeId} {sz:Nat} {rows:List (List Dt)} {g:Gh} (hg:G[o]?=some g) (ho:ObR K w.heap G g (.buf T sz rows))
  {t u ty:TypeId} {i:TypeInfo} {z:Value} (ht:P.underlying t=some (.slice T)) {d:TypeDesc} (hu:P.underlying u=some d) (hd:(∃ k,d=.slice k) ∨ d=.string) (hi:P.info? T=some i) (hsz:i.size=sz) (hz:i.zero=some z) (hzs:z.cells.size=sz)
  {x:Value} {m:Nat} {news:List Value} (hx:Src P w i.size x m news) (h1:∀ u ∈ news,u.oneCell'=true) {rows':List (List Dt)} (hr:DRss K w.heap sz news rows') (hm:rows'.length=m) (hlim:(rows++rows').length≤Lim) (hby:(rows++rows').length * i.bytes≤140737488355328) :
  ∃ sv w' g1,(Builtin.append_ #[t,u] ty #[g.sv,x]).run P w=.ok sv w'∧g1.sv=sv∧(∃ a n c,sv=.slice a n c)∧w'.os=w.os∧w'.tape=w.tape∧w'.output=w.output∧w.heap.size≤w'.heap.size ∧
   (∀ i,i < w.heap.size→¬ own g i→w'.heap[i]?=w.heap[i]?)∧(∀ b,own g1 b→b < w'.heap.size∧(own g b ∨ w.heap.size≤b))∧ObR K w'.heap (G.set o g1) g1 (.buf T sz (rows++rows')):=by
 obtain ⟨sv,w',bn,e1,e2,e3,e4,e5,e6,e7,e8,e9⟩:=app_row (P:=P) (w:=w) hS.kb (fun b hb=>hS.gb o g b hg hb) ho (t:=t) (u:=u) (ty:=ty) ht hu hd hi hsz hz hzs hx h1 hr hm hlim hby
 exact ⟨sv,w',⟨bn,sv,[]⟩,e1,rfl,e2,e3,e4,e5,e6,fun i hi h=>e7 i hi fun e=>h (.inl e),fun b hb=>(by
  rcases hb with hb | ⟨_,hb,_⟩
  ·exact ⟨(e8 b hb).1,(e8 b hb).2.imp .inl id⟩
  ·cases hb),e9⟩

theorem app_sb_ok (hS:St K G H w) {o:Nat} {T:TypeId} {bs:List UInt8} {g:Gh} (hg:G[o]?=some g) (ho:ObR K w.heap G g (.sb T bs))
  {t u ty:TypeId} {i:TypeInfo} {z:Value} (ht:P.underlying t=some (.slice T)) {d:TypeDesc} (hu:P.underlying u=some d) (hd:(∃ k,d=.slice k) ∨ d=.string) (hi:P.info? T=some i) (hsz:i.size=1) (hz:i.zero=some z) (hzs:z.cells.size=1)
  {x:Value} {bs':List UInt8} (hx:Src P w i.size x bs'.length (bs'.map byteV)) (hlim:(bs++bs').length≤Lim) (hby:(bs++bs').length * i.bytes≤140737488355328) :
  ∃ sv w' g1,(Builtin.append_ #[t,u] ty #[g.sv,x]).run P w=.ok sv w'∧g1.sv=sv∧(∃ a n c,sv=.slice a n c)∧w'.os=w.os∧w'.tape=w.tape∧w'.output=w.output∧w.heap.size≤w'.heap.size ∧
   (∀ i,i < w.heap.size→¬ own g i→w'.heap[i]?=w.heap[i]?)∧(∀ b,own g1 b→b < w'.heap.size∧(own g b ∨ w.heap.size≤b))∧ObR K w'.heap (G.set o g1) g1 (.sb T (bs++bs')):=by
 have hl63:bs.length+bs'.length≤9223372036854775807:=by simp only [List.length_append,Lim] at hlim; omega
 have hlm:bs.length+bs'.length≤maxLen:=by simp only [maxLen]; omega
 have h1:∀ u ∈ bs'.map byteV,u.oneCell'=true:=by
  intro u hu
  obtain ⟨y,_,rfl⟩:=List.mem_map.1 hu
  rfl
 obtain ⟨hlr,hh⟩:=ho
 -- where it grows
 have grown:∀ (base:Option Addr) (cap:Nat),g.sv=.slice base bs.length cap→Src P w i.size g.sv bs.length (bs.map byteV)→cap < bs.length+bs'.length →
   ∃ sv w' g1,(Builtin.append_ #[t,u] ty #[g.sv,x]).run P w=.ok sv w'∧g1.sv=sv∧(∃ a n c,sv=.slice a n c)∧w'.os=w.os∧w'.tape=w.tape∧w'.output=w.output∧w.heap.size≤w'.heap.size ∧
    (∀ i,i < w.heap.size→¬ own g i→w'.heap[i]?=w.heap[i]?)∧(∀ b,own g1 b→b < w'.heap.size∧(own g b ∨ w.heap.size≤b))∧ObR K w'.heap (G.set o g1) g1 (.sb T (bs++bs')):=by
  intro base cap hsv hsrc hlt
  have hfit:=growslice_fits (bytes:=i.bytes) hlt (by simpa using hby)
  rw [hsv] at hsrc
  have hrun:=run_app_grow (P:=P) w (ty:=ty) ht hu hd hi hz hsrc hx hlt hl63 hfit
  have hge:=grownCap_ge w (bs.length+bs'.length) cap T
  have hcm:=grownCap_le_maxLen w (bs.length+bs'.length) cap T hlm
  refine ⟨_,w.drew.alloc (.cells ((bs.map byteV).toArray++(bs'.map byteV).toArray++Builtin.zeroCells z.cells (grownCap w (bs.length+bs'.length) cap T - (bs.length+bs'.length))) T),⟨some w.heap.size,.slice (some ⟨w.heap.size,0,none⟩) (bs.length+bs'.length) (grownCap w (bs.length+bs'.length) cap T),[]⟩,by rw [hsv]; exact hrun,rfl,⟨_,_,_,rfl⟩,rfl,rfl,rfl,by simp,fun k hk _=>heap_alloc_old w.drew _ hk,fun b hb=>?_,?_⟩
  ·obtain rfl:=own_one hb; exact ⟨by simp,.inr (Nat.le_refl _)⟩
  ·refine ⟨hlim,.inr ⟨w.heap.size,_,_,(0,0),by rw [List.length_append],rfl,heap_alloc_new w.drew _,.inl rfl,by rw [List.length_append]; exact hge,by omega,hcm,?_,?_⟩⟩
   ·simp only [Array.size_append,List.size_toArray,size_zeroCells,hzs,List.length_map]
    omega
   ·simp only [Array.toList_append,List.append_assoc]
    rw [← List.append_assoc,List.map_append]
    exact List.take_left' (by simp)
 rcases hh with ⟨hsv,hr0,hgb⟩ | ⟨b,cap,cur,fr,hsv,hgb,hb,hfr,hle,hc0,hcap,hcs,htake⟩
 ·subst hr0
  rcases Nat.eq_zero_or_pos bs'.length with h0 | hp
  ·have hr0:bs'=[]:=List.length_eq_zero_iff.1 h0
   subst hr0
   refine ⟨.slice none 0 0,w,g,by rw [hsv]; exact run_app_none (P:=P) w ht hu hd hi hx none,hsv,⟨_,_,_,rfl⟩,rfl,rfl,rfl,Nat.le_refl _,fun _ _ _=>rfl,fun b hb=>⟨(hS.gbo o g b hg hb).1,.inl hb⟩,?_⟩
   exact ⟨by simp,.inl ⟨hsv,rfl,hgb⟩⟩
  ·have hsrc:Src P w i.size g.sv 0 []:=by
    rw [hsv]
    exact ⟨fun _=>rfl,fun _ _=>by simp [Builtin.firstCells],by simp⟩
   exact grown none 0 (by simpa using hsv) (by simpa using hsrc) (by simpa using hp)
 ·by_cases hroom:bs.length+bs'.length≤cap
  ·have hfit:bs.length * i.size+(bs'.map byteV).length≤cur.size:=by rw [hsz,hcs]; simpa using hroom
   have hfr':∀ j,bs.length * i.size≤j→j < cur.size→¬ (fr.1≤j∧j < fr.2):=by
    intro j hj _ ⟨h1,h2⟩
    rw [hsz] at hj
    rcases hfr with h | ⟨h,h'⟩ <;> omega
   have hrun:=run_app_room (P:=P) w (ty:=ty) ht hu hd hi hb hfr' hx h1 hroom hfit
   refine ⟨_,w.setRow b (setRv cur.toList (bs.length * i.size) (bs'.map byteV)).toArray,⟨some b,.slice (some ⟨b,0,none⟩) (bs.length+bs'.length) cap,[]⟩,by rw [hsv]; exact hrun,rfl,⟨_,_,_,rfl⟩,rfl,rfl,rfl,by simp,fun k _ hk=>setRow_other w b k _ (fun e=>hk (.inl (by rw [hgb,e]))),fun b' hb'=>?_,?_⟩
   ·obtain rfl:=own_one hb'
    exact ⟨by rw [setRow_size]; exact (hS.gb o g _ hg hgb).1,.inl (.inl hgb)⟩
   ·have hcl:(setRv cur.toList (bs.length * i.size) (bs'.map byteV)).length=cur.size:=by rw [setRv_length _ _ _ (by simpa using hfit)]; simp
    refine ⟨hlim,.inr ⟨b,cap,_,fr,by rw [List.length_append],rfl,setRow_heap w b cur _ T fr hb,?_,by rw [List.length_append]; exact hroom,hc0,hcap,?_,?_⟩⟩
    ·rcases hfr with h | ⟨h,h'⟩
     ·exact .inl h
     ·exact .inr ⟨h,by rw [List.length_append]; omega⟩
    ·simp only [List.size_toArray,hcl]; exact hcs
    ·simp only
     have hl2:(cur.toList.take (bs.length * i.size)++bs'.map byteV).length=(bs++bs').length:=by
      rw [hsz,Nat.mul_one,htake]; simp
     rw [setRv_eq _ _ _ (by simpa using hfit),← hl2,List.take_left,hsz,Nat.mul_one,htake,List.map_append]
  ·refine grown (some ⟨b,0,none⟩) cap hsv ?_ (by omega)
   rw [hsv]
   refine ⟨fun _=>rfl,fun w' hw'=>?_,by rw [hsz]; simp⟩
   refine run_firstCells_some (P:=P) w' i.size bs.length _ _ _ (bs.map byteV) (by rw [hsz]; simp) (fun j v hj=>?_)
   rw [addr_add,cell_of_row w' b (0+j) cur T fr (by rw [hw']; exact hb),Nat.zero_add]
   rw [← htake,List.getElem?_take] at hj
   split at hj
   ·rw [← Array.getElem?_toList]; exact hj
   ·cases hj
end
end Go.Vc
/- Operations that make memory or write it,under one name. -/
set_option linter.unusedSectionVars false
namespace Go.Vc
variable [Tabs]

structure Ev where
 v:Va
 E:Env
 H:List Ob
 ok:Prop
def badE:Ev:=⟨.top,[],[],False⟩

def pruneE (f:Nat→Bool):Env→Env
 | []=>[]
 | (k,v)::E=>(k,v.prune f)::pruneE f E
def pruneH (f:Nat→Bool):List Ob→List Ob
 | []=>[]
 | x::H=>x.prune f::pruneH f H
theorem pruneH_map (f:Nat→Bool):∀ H:List Ob,pruneH f H=H.map (Ob.prune f)
 | []=>rfl
 | x::H=>by simp [pruneH,pruneH_map f H]
theorem get_pruneE (f:Nat→Bool):∀ (E:Env) (m:Nat),eget (pruneE f E) m=(eget E m).prune f
 | [],m=>by simp [pruneE,eget,Va.prune]
 | (k,v)::E,m=>by
  simp only [pruneE,eget]
  split
  ·rfl
  ·exact get_pruneE f E m

def dts:List Va→Option (List Dt)
 | []=>some []
 | .p d::l=>match dts l with
  | some ds=>some (d::ds)
  | none=>none
 | .nils::l=>match dts l with
  | some ds=>some (.l []::ds)
  | none=>none
 | .full rows::l=>match dts l with
  | some ds=>some (.l rows::ds)
  | none=>none
 | _::_=>none
def setRd:List Dt→Nat→List Dt→List Dt
 | l,0,xs=>xs++l.drop xs.length
 | x::l,n+1,xs=>x::setRd l n xs
 | [],_+1,_=>[]
def fillRows (esz:Nat):List (List Dt)→List (Nat × Va)→Option (List (List Dt))
 | rows,[]=>some rows
 | rows,(i,v)::rest=>match dts (cellsV v) with
  | some ds=>if v.isCell=true∧ds.length=esz∧i < rows.length then fillRows esz (rows.set i ds) rest else none
  | none=>none

def allZ (k:IntKind):List Value→Bool
 | []=>true
 | .int k' n::l=>decide (k'=k) && decide (n=0) && allZ k l
 | _::_=>false
def arrOf (P:Program) (ti:Ti):Option (IntKind × Nat):=match ti.kind with
 | .arr n e _ false=>match kindP P e with
  | .int k=>bif decide (8 < n) then some (k,n) else none
  | _=>none
 | _=>none
def allocV (P:Program) (E:Env) (H:List Ob) (t:TypeId):Ev:=match tiP P t with
 | some ti=>match arrOf P ti with
  | some (k,n)=>⟨.ptr H.length 0,E,H++[.buf t 1 (List.replicate n [.i k 0])],allZ k ti.zero=true∧ti.zero.length=n∧n≤Lim⟩
  | none=>⟨.ptr H.length 0,E,H++[.cells t (ti.zero.map cv)],zerosOk ti.zero⟩
 | none=>badE
def boxV (E:Env) (H:List Ob) (t:TypeId) (x:Operand):Ev:=⟨.ptr H.length 0,E,H++[.cells t (cellsV (opnd E x))],opOk true E x∧(opnd E x).isCell=true⟩
def ownB (P:Program) (e:TypeId) (n:Nat):Bool:=match kindP P e with
 | .int .u8=>decide (3 < n)
 | _=>false
def isAggV:Va→Bool
 | .agg _=>true
 | _=>false
def ordV:Nat→List (Nat × Va)→Option (List Va)
 | _,[]=>some []
 | i,(j,v)::r=>bif decide (j=i) && (v.isCell && !isAggV v) then (match ordV (i+1) r with
  | some vs=>some (v::vs)
  | none=>none) else none
def ptrP (P:Program) (t:TypeId):Bool:=match kindP P t with
 | .ptr _=>true
 | _=>false
def bsl0V (P:Program) (E:Env) (H:List Ob) (t:TypeId) (n:Nat) (ps:List (Nat × Operand)):Ev:=match kindP P t with
 | .slice e esz _ ez=>match ordV 0 (partsV E ps) with
  | some vs=>⟨.cs H.length n,E,H++[.cells e vs],partsOk true E ps∧ez.length=esz∧esz=1∧0 < n∧n * esz≤16777216∧vs.length=n⟩
  | none=>badE
 | _=>badE
def pslP (P:Program) (t:TypeId):Bool:=match kindP P t with
 | .slice e _ _ _=>ptrP P e
 | _=>false
def bslV (P:Program) (E:Env) (H:List Ob) (t:TypeId) (n:Nat) (ps:List (Nat × Operand)):Ev:=bif pslP P t then bsl0V P E H t n ps else match kindP P t with
 | .slice e esz _ ez=>match dts (ez.map cv) with
  | some z=>match fillRows esz (List.replicate n z) (partsV E ps) with
   | some rows=>bif ownB P e n then ⟨.buf H.length,E,H++[.buf e esz rows],partsOk true E ps∧zerosOk ez∧ez.length=esz∧0 < esz∧n * esz≤16777216∧n≤Lim⟩ else ⟨.full rows,E,H,partsOk true E ps∧zerosOk ez∧ez.length=esz∧0 < esz∧n * esz≤16777216∧n≤Lim⟩
   | none=>badE
  | none=>badE
 | _=>badE
def rowPut (sz:Nat) (row:List Dt) (off:Nat) (ds:List Dt):List Dt:=bif off == 0 && ds.length == sz then ds else setRd row off ds
theorem setRd_full:∀ {row ds:List Dt},ds.length=row.length→setRd row 0 ds=ds
 | [],[],_=>by simp [setRd]
 | x::row,d::ds,h=>by
  have:=setRd_full (row:=row) (ds:=ds) (by simpa using h)
  simp [setRd] at this ⊢
  first | exact this | simp_all
 | [],_::_,h=>by simp at h
 | _::_,[],h=>by simp at h
theorem rowPut_eq {sz:Nat} {row ds:List Dt} {off:Nat} (h:row.length=sz):rowPut sz row off ds=setRd row off ds:=by
 unfold rowPut
 cases hc:(off == 0 && ds.length == sz)
 ·rfl
 ·simp only [Bool.and_eq_true,beq_iff_eq] at hc
  obtain ⟨rfl,h2⟩:=hc
  rw [setRd_full (by omega)]; rfl
def storeV (P:Program) (E:Env) (H:List Ob) (t:TypeId) (x y:Va):Ev:=match tiP P t with
 | some ti=>match x with
  | .ptr o off=>match obAt H o with
   | .cells T vs=>⟨.top,E,H.set o (.cells T (setR vs off (cellsV y))),y.isCell=true∧allOne (cellsV y)∧(cellsV y).length=ti.size∧off+(cellsV y).length≤vs.length⟩
   | _=>badE
  | .el o sz i off=>match bufAt H o with
   | some (T,sz',rows,fx)=>match dts (cellsV y) with
    | some ds=>⟨.top,E,H.set o (mkB fx T sz' (rows.set i (rowPut sz (rows.getD i []) off ds))),y.isCell=true∧allOne (cellsV y)∧ds.length=ti.size∧sz=sz'∧i < rows.length∧off+ds.length≤sz⟩
    | none=>badE
   | none=>badE
  | _=>badE
 | none=>badE
def sameV (P:Program) (E:Env) (H:List Ob) (s d:TypeId) (o:Nat):Ev:=match kindP P s,kindP P d,obAt H o with
 | .slice _ _ _ _,.slice e _ _ _,.buf _ _ rows=>match kindP P e with
  | .int .u8=>⟨.buf o,E,H,s=d∧0 < rows.length⟩
  | _=>badE
 | _,_,_=>badE
def bytesV0 (P:Program) (E:Env) (H:List Ob) (s d:TypeId) (x:Va):Ev:=match kindP P s,kindP P d,x with
 | .str,.slice e esz _ _,.p (.s l)=>match kindP P e with
  | .int .u8=>⟨.buf H.length,E,H++[.buf e 1 (bR l)],esz=1⟩
  | _=>badE
 | _,_,_=>badE
def bytesV (P:Program) (E:Env) (H:List Ob) (s d:TypeId) (x:Va):Ev:=match x with
 | .buf o=>sameV P E H s d o
 | x=>bytesV0 P E H s d x
def makeV (P:Program) (E:Env) (H:List Ob) (t:TypeId) (l c:Va):Ev:=match kindP P t with
 | .slice e esz eb ez=>match dts (ez.map cv),l,c with
  | some z,.p (.i _ n),.p (.i _ m)=>⟨.buf H.length,E,H++[.buf e esz (List.replicate n.toNat z)],zerosOk ez∧ez.length=esz∧0 < esz∧0≤n∧n≤m∧m≤Lim∧eb≤512⟩
  | _,_,_=>badE
 | _=>badE
def srcRows (H:List Ob):Va→Option (List (List Dt))
 | .p (.s l)=>some (bR l)
 | x=>rowsOf H x
def srcOk (P:Program) (u:TypeId) (esz:Nat) (e:TypeId) (x:Va) (rows:List (List Dt)):Prop:=match x with
 | .p (.s _)=>kindP P u=.str∧esz=1∧kindP P e=.int .u8
 | _=>szOk esz rows∧match kindP P u with
  | .slice _ _ _ _=>True
  | _=>False
def fullOk:List (List Dt)→Nat→Prop
 | [],_=>True
 | _::_,n=>0 < n
def fullV:Va→Bool
 | .full _=>true
 | _=>false
def datB (P:Program) (e:TypeId) (x:Va):Bool:=match kindP P e with
 | .int .i64=>fullV x
 | _=>false
def appV (P:Program) (kp:Nat→Bool) (E:Env) (H:List Ob) (t u:TypeId) (dst x:Va):Ev:=match kindP P t with
 | .slice e esz eb ez=>match srcRows H x with
  | some rows'=>match dst with
   | .buf o=>match obAt H o with
    | .buf T sz rows=>⟨.buf o,pruneE (· != o) E,(pruneH (· != o) H).set o (.buf T sz (rows++rows')),kp o=false∧T=e∧sz=esz∧ez.length=esz∧eb≤512∧(rows++rows').length≤Lim∧srcOk P u esz e x rows'⟩
    | .sb T bs=>⟨.buf o,pruneE (· != o) E,(pruneH (· != o) H).set o (.sb T (bs++unB rows')),kp o=false∧T=e∧esz=1∧ez.length=1∧eb≤512∧(bs++unB rows').length≤Lim∧allB rows'∧srcOk P u 1 e x rows'⟩
    | _=>badE
   | .nils=>⟨.buf H.length,E,H++[.buf e esz rows'],kp H.length=false∧ez.length=esz∧eb≤512∧rows'.length≤Lim∧srcOk P u esz e x rows'⟩
   | .full rows=>match datB P e x with
    | true=>⟨.p (.l (rows++rows')),E,H,ez.length=esz∧eb≤512∧(rows++rows').length≤Lim∧szOk esz rows∧fullOk rows rows'.length∧srcOk P u esz e x rows'⟩
    | false=>⟨.buf H.length,E,H++[.buf e esz (rows++rows')],kp H.length=false∧ez.length=esz∧eb≤512∧(rows++rows').length≤Lim∧szOk esz rows∧fullOk rows rows'.length∧srcOk P u esz e x rows'⟩
   | _=>badE
  | none=>badE
 | _=>badE

def agV:Va→Bool
 | .agg _=>true
 | _=>false
def mkmV (P:Program) (E:Env) (H:List Ob) (t:TypeId):Ev:=match kindP P t with
 | .map _ et=>⟨.mp H.length,E,H++[.mp (zfP P et) []],True⟩
 | _=>badE
def putV (P:Program) (E:Env) (H:List Ob) (t:TypeId) (m k v:Va):Ev:=match kindP P t,m,keyV k with
 | .map kt _,.mp o,some d=>match obAt H o with
  | .mp ag es=>match dts (cellsV v) with
   | some row=>⟨.top,E,H.set o (.mp ag (mset es d row)),mkeys (kkP P kt) es∧keyOk (kkP P kt) d∧v.isCell=true∧agV v=ag∧(ag=false→row.length=1)∧(mset es d row).length≤Lim⟩
   | none=>badE
  | _=>badE
 | _,_,_=>badE
def delV (P:Program) (E:Env) (H:List Ob) (t _u:TypeId) (m k:Va):Ev:=match kindP P t,m,keyV k with
 | .map kt _,.mp o,some d=>match obAt H o with
  | .mp ag es=>⟨.top,E,H.set o (.mp ag (mdel es d)),mkeys (kkP P kt) es∧keyOk (kkP P kt) d⟩
  | .mpb ag es bs cl=>⟨.top,E,H.set o (.mpb ag (mdel es d) (bdel es bs d) cl),mkeys (kkP P kt) es∧keyOk (kkP P kt) d⟩
  | _=>badE
 | _,_,_=>badE
def sdV (H:List Ob):Va→Pv
 | .buf o=>match obAt H o with
  | .sb _ _=>⟨.sd o,True⟩
  | _=>bad
 | _=>bad
def sbP (P:Program) (t T:TypeId):Bool:=match P.underlying t with
 | some (.pointer e)=>decide (e=T) && decide (P.cellsOf T=1)
 | _=>false
def usV (P:Program) (H:List Ob) (t:TypeId):Va→Va→Pv
 | .sd o,.p (.i k n)=>match obAt H o with
  | .sb T bs=>⟨.p (.s bs),sbP P t T=true∧k=.i64∧n=bs.length⟩
  | _=>bad
 | _,_=>bad
def effV0 (P:Program) (kp:Nat→Bool) (E:Env) (H:List Ob):Op→Ev
 | .alloc t=>allocV P E H t
 | .box t x=>boxV E H t x
 | .buildSlice t n ps=>bslV P E H t n ps.toList
 | .store t x y=>let r:=storeV P E H t (opnd E x) (opnd E y); ⟨r.v,r.E,r.H,opOk true E x∧opOk true E y∧r.ok⟩
 | .convert s d x=>let r:=bytesV P E H s d (opnd E x); ⟨r.v,r.E,r.H,opOk true E x∧r.ok⟩
 | .makeSlice t l c=>let r:=makeV P E H t (opnd E l) (opnd E c); ⟨r.v,r.E,r.H,opOk true E l∧opOk true E c∧r.ok⟩
 | .call c=>match c.callee,c.args.toList,c.argTypes.toList with
  | .builtin .append,[x,y],[t,u]=>let r:=appV P kp E H t u (opnd E x) (opnd E y); ⟨r.v,r.E,r.H,opOk true E x∧opOk true E y∧r.ok⟩
  | .builtin .unsafeSliceData,[x],_=>let r:=sdV H (opnd E x); ⟨r.v,E,H,opOk true E x∧r.ok⟩
  | .builtin .unsafeString,[x,y],[t,_]=>let r:=usV P H t (opnd E x) (opnd E y); ⟨r.v,E,H,opOk true E x∧opOk true E y∧r.ok⟩
  | .builtin .delete,[x,y],[t,u]=>let r:=delV P E H t u (opnd E x) (opnd E y); ⟨r.v,r.E,r.H,opOk true E x∧opOk true E y∧r.ok⟩
  | _,_,_=>badE
 | .makeMap t r=>match r with
  | none=>mkmV P E H t
  | some _=>badE
 | .mapUpdate t m k x=>let r:=putV P E H t (opnd E m) (opnd E k) (opnd E x); ⟨r.v,r.E,r.H,opOk true E m∧opOk true E k∧opOk true E x∧r.ok⟩
 | .insert t m k x=>let r:=putV P E H t (opnd E m) (opnd E k) (opnd E x); ⟨r.v,r.E,r.H,opOk true E m∧opOk true E k∧opOk true E x∧r.ok⟩
 | _=>badE

section
variable {K:Nat→Prop} {h:Array Obj} {G:List Gh}
theorem dts_ok:∀ {cs:List Value} {vs:List Va} {ds:List Dt},VRs K h G cs vs→dts vs=some ds→DRs K h cs ds
 | cs,[],ds,H,hp=>by simp only [dts] at hp; cases hp; simpa [VRs,DRs] using H
 | cs,.p d::vs,ds,H,hp=>by
  simp only [dts] at hp
  split at hp
  ·rename_i ds' hd
   cases hp
   simp only [VRs,VR] at H
   obtain ⟨c,cs',rfl,h2,h3⟩:=H
   simp only [DRs]
   exact ⟨c,cs',rfl,h2,dts_ok h3 hd⟩
  ·cases hp
 | cs,.nils::vs,ds,H,hp=>by
  simp only [dts] at hp
  split at hp
  ·rename_i ds' hd
   cases hp
   simp only [VRs,VR] at H
   obtain ⟨c,cs',rfl,h2,h3⟩:=H
   simp only [DRs,DR]
   exact ⟨c,cs',rfl,.inl ⟨⟨none,h2⟩,trivial⟩,dts_ok h3 hd⟩
  ·cases hp
 | cs,.full rows::vs,ds,H,hp=>by
  simp only [dts] at hp
  split at hp
  ·rename_i ds' hd
   cases hp
   simp only [VRs,VR] at H
   obtain ⟨c,cs',rfl,h2,h3⟩:=H
   simp only [DRs]
   exact ⟨c,cs',rfl,h2.1,dts_ok h3 hd⟩
  ·cases hp
 | cs,.rp _::_,_,_,hp=>by simp [dts] at hp
 | cs,.ptr _ _::_,_,_,hp=>by simp [dts] at hp
 | cs,.cs _ _::_,_,_,hp=>by simp [dts] at hp
 | cs,.el _ _ _ _::_,_,_,hp=>by simp [dts] at hp
 | cs,.buf _::_,_,_,hp=>by simp [dts] at hp
 | cs,.mp _::_,_,_,hp=>by simp [dts] at hp
 | cs,.np _::_,_,_,hp=>by simp [dts] at hp
 | cs,.sd _::_,_,_,hp=>by simp [dts] at hp
 | cs,.vw _ _ _ _::_,_,_,hp=>by simp [dts] at hp
 | cs,.bufc _ _::_,_,_,hp=>by simp [dts] at hp
 | cs,.fn _ _::_,_,_,hp=>by simp [dts] at hp
 | cs,.agg _::_,_,_,hp=>by simp [dts] at hp
 | cs,.tup _::_,_,_,hp=>by simp [dts] at hp
 | cs,.nil::_,_,_,hp=>by simp [dts] at hp
 | cs,.cnd _ _::_,_,_,hp=>by simp [dts] at hp
 | cs,.raw _::_,_,_,hp=>by simp [dts] at hp
 | cs,.er _::_,_,_,hp=>by simp [dts] at hp
 | cs,.top::_,_,_,hp=>by simp [dts] at hp
theorem DR.one {c:Value} {d:Dt} (hc:DR K h c d):c.oneCell'=true:=VR.one (G:=[]) (v:=.p d) (by simpa only [VR] using hc) (by cases d <;> first | rfl | (simp [DR] at hc)) (by simp)
theorem DRs.ones:∀ {cs:List Value} {ds:List Dt},DRs K h cs ds→∀ c ∈ cs,c.oneCell'=true
 | cs,[],H=>by simp only [DRs] at H; subst H; simp
 | cs,d::ds,H=>by
  simp only [DRs] at H
  obtain ⟨v,vs',rfl,h2,h3⟩:=H
  intro c hc
  rcases List.mem_cons.1 hc with rfl | hm
  ·exact h2.one
  ·exact h3.ones c hm
theorem DRss.ones {sz:Nat}:∀ {cs:List Value} {rs:List (List Dt)},DRss K h sz cs rs→∀ c ∈ cs,c.oneCell'=true
 | cs,[],H=>by simp only [DRss] at H; subst H; simp
 | cs,r::rs,H=>by
  simp only [DRss] at H
  obtain ⟨a,b,rfl,_,h3,h4⟩:=H
  intro c hc
  rcases List.mem_append.1 hc with hm | hm
  ·exact h3.ones c hm
  ·exact h4.ones c hm
theorem DRs.setR:∀ {cs:List Value} {ds:List Dt},DRs K h cs ds→∀ (n:Nat) {es:List Value} {us:List Dt},DRs K h es us→n+us.length≤ds.length→DRs K h (setRv cs n es) (setRd ds n us)
 | cs,ds,H,0,es,us,H',_=>by
  simp only [setRv,setRd]
  rw [H'.length]
  exact H'.append (H.drop _)
 | cs,d::ds,H,n+1,es,us,H',hl=>by
  simp only [DRs] at H
  obtain ⟨c,cs',rfl,h2,h3⟩:=H
  simp only [setRv,setRd,DRs]
  exact ⟨c,_,rfl,h2,DRs.setR h3 n H' (by simp at hl; omega)⟩
 | cs,[],H,n+1,es,us,H',hl=>by simp at hl
theorem DRss_len {K:Nat→Prop} {h:Array Obj} {sz:Nat}:∀ {xs:List Value} {rs:List (List Dt)},DRss K h sz xs rs→∀ x ∈ rs,x.length=sz
 | _,[],_,x,hx=>by cases hx
 | _,r::rs,hd,x,hx=>by
  simp only [DRss] at hd
  obtain ⟨_,_,_,h1,_,h3⟩:=hd
  rcases List.mem_cons.1 hx with rfl | hx
  ·exact h1
  ·exact DRss_len h3 x hx
theorem setRd_length:∀ (l:List Dt) (n:Nat) (xs:List Dt),n+xs.length≤l.length→(setRd l n xs).length=l.length
 | l,0,xs,h=>by simp [setRd]; omega
 | x::l,n+1,xs,h=>by simp only [setRd,List.length_cons] at *; rw [setRd_length l n xs (by omega)]
 | [],n+1,xs,h=>by simp at h
theorem DRss.set {sz:Nat}:∀ {cs:List Value} {rs:List (List Dt)},DRss K h sz cs rs→∀ (i off:Nat) {es:List Value} {us:List Dt},DRs K h es us→i < rs.length→off+us.length≤sz →
  DRss K h sz (setRv cs (i * sz+off) es) (rs.set i (setRd (rs.getD i []) off us))
 | cs,[],H,i,off,es,us,_,hi,_=>by simp at hi
 | cs,r::rs,H,0,off,es,us,H',hi,hl=>by
  simp only [DRss] at H
  obtain ⟨a,b,rfl,h2,h3,h4⟩:=H
  have hal:=h3.length
  have hel:=H'.length
  simp only [Nat.zero_mul,Nat.zero_add,List.set_cons_zero,List.getD_cons_zero,DRss]
  refine ⟨setRv a off es,b,?_,?_,h3.setR off H' (by omega),h4⟩
  ·rw [setRv_eq _ _ _ (by simp; omega),setRv_eq _ _ _ (by omega),List.take_append_of_le_length (by omega),List.drop_append_of_le_length (by omega)]
   simp
  ·rw [setRd_length _ _ _ (by omega),h2]
 | cs,r::rs,H,i+1,off,es,us,H',hi,hl=>by
  simp only [DRss] at H
  obtain ⟨a,b,rfl,h2,h3,h4⟩:=H
  have hal:=h3.length
  have hel:=H'.length
  have ih:=DRss.set h4 i off H' (by simpa using hi) hl
  have hbl:=h4.length
  have hile:i * sz+off+es.length≤b.length:=by
   rw [hbl,hel]
   have:(i+1) * sz≤rs.length * sz:=Nat.mul_le_mul_right _ (by simp at hi; omega)
   rw [Nat.add_mul] at this
   omega
  simp only [List.set_cons_succ,List.getD_cons_succ,DRss]
  refine ⟨a,_,?_,h2,h3,ih⟩
  have e:(i+1) * sz+off=a.length+(i * sz+off):=by rw [Nat.add_mul]; omega
  rw [e,setRv_eq _ _ _ (by simp; omega),setRv_eq _ _ _ hile]
  rw [List.take_append,List.take_of_length_le (by omega),show a.length+(i * sz+off) - a.length=i * sz+off by omega]
  rw [List.drop_append,List.drop_eq_nil_of_le (by omega),show a.length+(i * sz+off)+es.length - a.length=i * sz+off+es.length by omega]
  simp
theorem DRss.replicate {z:List Dt} {zs:List Value} (hz:DRs K h zs z):∀ n:Nat,DRss K h z.length (List.replicate n zs).flatten (List.replicate n z)
 | 0=>by simp [DRss]
 | n+1=>by
  simp only [List.replicate_succ,DRss,List.flatten_cons]
  exact ⟨zs,_,rfl,trivial,hz,DRss.replicate hz n⟩
end
end Go.Vc
/- Operations that make memory or write it: the model's do what the abstract ones do. -/
set_option linter.unusedSectionVars false
namespace Go.Vc
variable [Tabs]

def Comes1 (C:Cx) (o:Oper) (a:Act) (w:World) (v:Va) (E:Env) (H:List Ob):Prop :=
 ∃ c w',((execOp a.eval o).run C.P w=.ok (.value c) w' ∨ ((execOp a.eval o).run C.P w=.ok .skip w'∧c=undef))∧RelV C E H c v a w'

theorem val_run {P:Program} {s:Sem Value} {c:Value} {w w':World} (h:s.run P w=.ok c w'):(do pure (.value (← s)):Sem Next).run P w=.ok (.value c) w':=by simp [h]
theorem unit_run {P:Program} {s:Sem Unit} {w w':World} (h:s.run P w=.ok () w'):(do s; pure .skip:Sem Next).run P w=.ok .skip w':=by simp [h]
theorem Mn.alloc {K:Nat→Prop} {w:World} (hK:∀ b,K b→b < w.heap.size) (o:Obj):Mn K K w.heap (w.alloc o).heap:=⟨fun _ h=>h,fun b hb=>heap_alloc_old w o (hK b hb)⟩
theorem Free.zero (n:Nat):Free (0,0) n:=.inl rfl

section
variable {C:Cx} {E:Env} {H:List Ob} {a:Act} {w:World}

theorem push_cells (hR:Rel C E H a w) {cs:List Value} {vs:List Va} {T:TypeId} (hv:∀ K G,EnvR K w.heap G a E→VRs K w.heap G cs vs) :
  RelV C E (H++[.cells T vs]) (.pointer (some ⟨w.heap.size,0,none⟩)) (.ptr H.length 0) a (w.alloc (.cells cs.toArray T)):=by
 obtain ⟨K,G,hX,hS,hE,hd,hn,hk⟩:=hR
 have hvs:=hv K G hE
 have hM:=Mn.alloc hS.kb (.cells cs.toArray T)
 have hG:∀ (o:Nat) (g:Gh),G[o]?=some g→(G++[⟨some w.heap.size,undef,[]⟩])[o]?=some g:=fun o g hg=>Mg.push G _ o g rfl hg
 refine ⟨K,G++[⟨some w.heap.size,undef,[]⟩],hX.trans (Ext.push C.kp _ undef),hS.push (x:=.cells T vs) ?_,fun m=>VR.grow hM hG _ _ (hE m),hd,hn,fun o ho=>?_,?_⟩
 ·exact ⟨w.heap.size,cs,rfl,heap_alloc_new w _,VRs.grow hM hG _ _ hvs⟩
 ·obtain ⟨vs',hvs',hkt⟩:=hk o ho
  exact ⟨vs',by rw [List.getElem?_append_left (List.getElem?_eq_some_iff.1 hvs').1]; exact hvs',hkt⟩
 ·simp only [VR]
  refine ⟨⟨some w.heap.size,undef,[]⟩,w.heap.size,?_,rfl,rfl⟩
  rw [← hS.len,List.getElem?_append_right (Nat.le_refl _)]
  simp

theorem box_ok (hR:Rel C E H a w) (o:Oper) {t:TypeId} {x:Operand} (ho:o.op=.box t x) (hok:(boxV E H t x).ok):Comes1 C o a w (boxV E H t x).v (boxV E H t x).E (boxV E H t x).H:=by
 obtain ⟨h1,h2⟩:=hok
 refine ⟨_,_,.inl (by simp [execOp,ho,Instr.box,newVar,newRow]; exact ⟨rfl,rfl⟩),?_⟩
 have:=push_cells (T:=t) hR (cs:=(a.eval x).cells.toList) (vs:=cellsV (opnd E x)) (fun K G hE=>cellsV_ok (opnd_ok hE rfl x h1) h2)
 simpa [boxV] using this

theorem flat_rep_get {zs:List Value} {sz:Nat} (hz:zs.length=sz):∀ (n j:Nat),j < n * sz→(List.replicate n zs).flatten[j]?=zs[j % sz]?
 | 0,j,h=>by simp at h
 | n+1,j,h=>by
  simp only [List.replicate_succ,List.flatten_cons]
  rcases Nat.lt_or_ge j sz with h1 | h1
  ·rw [List.getElem?_append_left (by omega),Nat.mod_eq_of_lt h1]
  ·rw [List.getElem?_append_right (by omega),hz,flat_rep_get hz n (j - sz) (by rw [Nat.add_mul] at h; omega),← Nat.mod_eq_sub_mod h1]
theorem made_flat {z:Array Value} {sz:Nat} (hz:z.toList.length=sz) (h0:0 < sz) (n:Nat):(madeCells z (n * sz)).toList=(List.replicate n z.toList).flatten:=by
 apply List.ext_getElem?
 intro j
 rcases Nat.lt_or_ge j (n * sz) with h | h
 ·rw [flat_rep_get hz n j h]
  have hm:j % sz < z.size:=by have:=Nat.mod_lt j h0; simp at hz; omega
  have hzs:z.size=sz:=by simpa using hz
  simp only [madeCells,Array.toList_map,Array.toList_range,List.getElem?_map,List.getElem?_range h,Option.map_some,hzs,Array.getElem?_toList]
  rw [Array.getElem?_eq_getElem hm,getElem!_pos z _ hm]
 ·rw [List.getElem?_eq_none (by simp [madeCells,h]),List.getElem?_eq_none]
  have:∀ n:Nat,((List.replicate n z.toList).flatten).length=n * sz:=by
   intro n
   induction n with
   | zero=>simp
   | succ n ih=>rw [List.replicate_succ,List.flatten_cons,List.length_append,ih,hz,Nat.add_mul]; omega
  rw [this]; exact h

theorem fillRows_ok {K:Nat→Prop} {h:Array Obj} {G:List Gh} {esz:Nat}:∀ {parts:List (Nat × Va)} {ps:List (Nat × Value)} {rows:List (List Dt)} {cs:Array Value} {r:List (List Dt)},
  fillRows esz rows parts=some r→DRss K h esz cs.toList rows→(ps.map (·.1)=parts.map (·.1))→(∀ (j:Nat) (c:Value) (v:Va),(ps[j]?.map fun x=>x.2)=some c→(parts[j]?.map fun x=>x.2)=some v→VR K h G c v) →
  ∃ cs',Instr.fill (fun i=>some (i * esz,esz)) cs ps=some cs'∧DRss K h esz cs'.toList r∧r.length=rows.length
 | [],ps,rows,cs,r,hf,hc,hp,_=>by
  simp only [fillRows] at hf
  cases hf
  cases ps with
  | nil=>exact ⟨cs,rfl,hc,rfl⟩
  | cons a b=>simp at hp
 | (i,v)::parts,ps,rows,cs,r,hf,hc,hp,hv=>by
  cases ps with
  | nil=>simp at hp
  | cons a ps =>
   obtain ⟨i',c⟩:=a
   simp only [List.map_cons,List.cons.injEq] at hp
   obtain ⟨rfl,hp⟩:=hp
   simp only [fillRows] at hf
   split at hf
   rotate_left
   ·cases hf
   rename_i ds hds
   split at hf
   rotate_left
   ·cases hf
   rename_i hcond
   obtain ⟨hcell,hlen,hi⟩:=hcond
   have hcv:=cellsV_ok (hv 0 c v rfl rfl) hcell
   have hdd:=dts_ok hcv hds
   have hcl:=hdd.length
   have hrl:=hc.length
   simp only [Array.length_toList] at hcl hrl
   obtain ⟨_,hrow⟩:=hc.get i' hi
   have hfit:i' * esz+c.cells.size≤cs.size:=by
    rw [hrl,hcl,hlen]
    have:(i'+1) * esz≤rows.length * esz:=Nat.mul_le_mul_right _ hi
    rw [Nat.add_mul] at this
    omega
   have hset:=hc.set i' 0 hdd hi (by omega)
   have he:setRd (rows.getD i' []) 0 ds=ds:=by simp only [setRd]; rw [List.drop_eq_nil_of_le (by omega)]; simp
   rw [he,Nat.add_zero] at hset
   have hnext:DRss K h esz (c.cells.zipIdx.foldl (fun cs (c,j)=>cs.setIfInBounds (i' * esz+j) c) cs).toList (rows.set i' ds):=by
    have h1:=foldl_set (i' * esz) c.cells.toList 0 cs (by simp; omega)
    rw [← Array.foldl_toList,Array.toList_zipIdx,h1]
    exact hset
   obtain ⟨cs',h1,h2,h3⟩:=fillRows_ok hf hnext hp (fun j c v hj hj'=>hv (j+1) c v (by simpa using hj) (by simpa using hj'))
   refine ⟨cs',?_,h2,by simpa using h3⟩
   simp only [Instr.fill]
   rw [if_neg (by simp; omega)]
   exact h1
end
end Go.Vc
