/- Plain lemmas on the models: the law's model answers true (second part). -/
import Derived.Test.YtggigadnagoglafGreatDoorTrPl
set_option linter.unusedSimpArgs false
set_option linter.unusedVariables false
set_option linter.unusedSectionVars false
open List
namespace Go.Md
open Go.Vc
theorem wu{L:List ae}{i:Nat}(hi:i<L.length)(hL:L.length<=5000):decide (0<(i:Int))=true->0<=IntKind.i64.wrap ((i:Int)-1)/\IntKind.i64.wrap ((i:Int)-1)<(L.length:Int):=by
 intro h;have h:=of_decide_eq_true h;rw[r7 i (by omega) (by omega)];omega
theorem wv{L:List ae}{i:Nat}(hi:i<L.length)(hL:L.length<=5000)(h:decide (0<(i:Int))=true):(IntKind.i64.wrap ((i:Int)-1)).toNat=i-1:=by
 have h:=of_decide_eq_true h;rw[r7 i (by omega) (by omega)];rfl
theorem F9(k:am)(hs:∀h∈k.r,FH h):rX k=some (pO k):=by
 unfold rX pO
 by_cases hn:5000<(k.r.length:Int)
 .rw[decide_eq_true hn];rfl
 rw[decide_eq_false hn];simp only[cond_false,ft]
 have hn':k.r.length<=5000:=by omega
 refine(jz (uf k.r) k.r (fun i h nx kk hi hh=>?_) k.r 0 rfl).trans ?_
 .rw[rx h (hs h hh),zg,zo (wu hi hn')]
  unfold uf
  by_cases h1:mN h=0
  .simp only[h1,decide_true,Bool.not_true,cond_false]
   cases h0:decide (0<(i:Int))
   .rfl
   .rw[JP,wv hi hn' h0]
    change call (vm (k.r.getD (i-1) hz) h) _=_
    rw[FJ,zg,Bool.true_and]
    cases decide (0<=wA (k.r.getD (i-1) hz) h) <;> rfl
  .simp only[decide_eq_false h1,Bool.not_false,cond_true]
 .cases decide (ou (uf k.r) 0 k.r=0)
  .rfl
  simp only[Bool.not_true,cond_false];refine jA (fun t p=>al.mk (t+1) p) (fun t p t' p'=>?_) (fun i h m nx kk hm=>?_) k.r 0 [] [] (fun _ _=>rfl) (by simpa using hn')
  .rw[al.mk.injEq]
   constructor
   .rintro⟨a,b⟩;exact⟨by omega,b⟩
   .rintro⟨a,b⟩;exact⟨by omega,b⟩
  .simp only[iv,zg,BQ,lg]
   rw[zo (by have:=xE m (al.mk (eW h.e+1) h.a) h;split at this <;> omega)];unfold eA cf sN hz;generalize zu m (al.mk (eW h.e+1) h.a)=q
   cases q <;> rfl
def Ls(k:am)(owner:dX):List ae:=k.r.filter fun h=>decide (h.t=owner)
structure Lw where
 f:dX->Option aa
 s:dX->Option ab
 v:dX->Option ah
def gv(M:aj):Lw:=⟨ic M.i,tx M.n,tw M.m⟩
def hP{A:Type}(g:dX->Option A)(k:dX)(x:Option A):dX->Option A:=fun j=>if k=j then x else g j
def fZ(c:ai)(L:Lw):Lw :=
 bif decide (c.e=1)then⟨hP L.f c.g.a (some c.g),L.s,L.v⟩else
 bif decide (c.e=2)then⟨hP L.f c.g.a none,L.s,L.v⟩else
 bif decide (c.e=3)then⟨L.f,hP L.s c.j.k (some c.j),L.v⟩else
 bif decide (c.e=4)then⟨L.f,hP L.s c.j.k none,L.v⟩else
 bif decide (c.e=5)then⟨L.f,L.s,hP L.v c.h.o (some c.h)⟩else⟨L.f,L.s,hP L.v c.h.o none⟩
theorem Bv{a b:Lw}(h1:∀k,a.f k=b.f k)(h2:∀k,a.s k=b.s k)(h3:∀k,a.v k=b.v k):a=b:=by
 cases a;cases b
 simp only at h1 h2 h3;rw[funext h1,funext h2,funext h3]
theorem wK{M:aj}{c:ai}(hM:Good M)(h0:(gC c M).1=0):gv (gC c M).2=fZ c (gv M):=by
 by_cases he:kQ c=0
 .unfold gC fZ at *
  rw[decide_eq_true he,Bool.not_true,cond_false]at *
  rcases HB he with e|e|e|e|e|e
  all_goals simp only[e,FP,cond_true,cond_false]at h0|-
  .revert h0
   cases M.i.any (u5 c.g.a)with
   |true=>intro h0;cases h0
   |false =>
    simp only[cond_false]
    cases !(ic M.i c.g.a).isSome&&decide (2000<=(M.i.length:Int))with
    |true=>intro h0;cases h0
    |false=>exact fun _=>Bv (fun k=>Bu hM.g2 _ k) (fun _=>rfl) fun _=>rfl
  .revert h0
   cases !(ic M.i c.g.a).isSome with
   |true=>intro h0;cases h0
   |false=>exact fun _=>Bv (fun k=>Bp hM.g2 _ k) (fun _=>rfl) fun _=>rfl
  .revert h0
   cases !(tx M.n c.j.k).isSome&&decide (2000<=(M.n.length:Int))with
   |true=>intro h0;cases h0
   |false=>exact fun _=>Bv (fun _=>rfl) (fun k=>Bu hM.s2 _ k) fun _=>rfl
  .revert h0
   cases !(tx M.n c.j.k).isSome with
   |true=>intro h0;cases h0
   |false=>exact fun _=>Bv (fun _=>rfl) (fun k=>Bp hM.s2 _ k) fun _=>rfl
  .revert h0
   cases !(tw M.m c.h.o).isSome&&decide (100<=(M.m.length:Int))with
   |true=>intro h0;cases h0
   |false=>exact fun _=>Bv (fun _=>rfl) (fun _=>rfl) fun k=>Bu hM.v2 _ k
  .revert h0
   cases !(tw M.m c.h.o).isSome with
   |true=>intro h0;cases h0
   |false=>exact fun _=>Bv (fun _=>rfl) (fun _=>rfl) fun k=>Bp hM.v2 _ k
 .unfold gC at h0
  rw[decide_eq_false he]at h0;exact absurd h0 he
def qd(l:List ai)(L:Lw):Lw:=l.foldl (fun L c=>fZ c L) L
theorem l7:∀{l:List ai} {M:aj},Good M->(gM l M).2=0->gv (gM l M).1=qd l (gv M)
 |[],_,_,_=>rfl
 |c::l,M,hM,h=>by
  unfold gM at h|-
  by_cases h0:(gC c M).1=0
  .rw[decide_eq_true h0,Bool.not_true,cond_false]at h|-
   rw[l7 (H4 hM c) h,wK hM h0];rfl
  .rw[decide_eq_false h0]at h
   exact absurd h h0
abbrev M1:=List (dX×aa)
abbrev M2:=List (dX×Int)
abbrev M3:=List (dX×ab)
abbrev M5:=List (dX×ah)
def AQ(z:Int)(d:dX)(m:M2):Option M2 :=
 eA (zu m d) fun q=>dZ ((ec m d (IntKind.i64.wrap ((q.getD 0)+z))).length<=274877906944) <| some (ec m d (IntKind.i64.wrap ((q.getD 0)+z)))
def mM(z:Int)(p:dX)(m:M2):Option M2 :=
 forL p 0 (fun i c m nx k =>
  bif decide ((c.toNat:Int)=47)then
   dZ (0<=(i:Int)/\(i:Int)<=(p.length:Int)) <|
   call (AQ z (List.take i p) m) fun r=>nx r
  else nx m) m (fun m=>some m)
structure Bd(n:Nat)(m:M2):Prop where
 l:m.length<=n
 b:∀d,-(n:Int)<=(zu m d).getD 0/\(zu m d).getD 0<=n
theorem AP{z:Int}(hz:-1<=z/\z<=1){d:dX}{m:M2}{n:Nat}(h:Bd n m)(hn:n<=68719476736):∃m',AQ z d m=some m'/\Bd (n+1) m':=by
 have hb:=h.b d;have hl:=h.l;have hw:IntKind.i64.wrap (((zu m d).getD 0)+z)=(zu m d).getD 0+z:=qf (by omega) (by omega)
 have hle:(ec m d ((zu m d).getD 0+z)).length<=n+1:=by rw[xE];split <;> omega
 refine⟨ec m d ((zu m d).getD 0+z),?_,hle,fun k=>?_⟩
 .unfold AQ eA;dsimp only
  rw[hw,zo (by omega)]
 .rw[lf]
  split
  .simp only[Option.getD_some];omega
  .have:=h.b k;omega
theorem kN{z:Int}(hz:-1<=z/\z<=1){p:dX}{m:M2}{n:Nat}(h:Bd n m)(hn:n+p.length<=68719476736):Ends (mM z p m) (Bd (n+p.length)):=by
 unfold mM;refine oO (fun i r m=>i+r.length=p.length/\Bd (n+i) m) (fun i m hi=>⟨m,rfl,?_⟩) (fun i c r m nx hi hnx=>?_) p 0 m ⟨by simp,h⟩
 .obtain⟨h1,h2⟩:=hi
  simp only[length_nil,Nat.add_zero]at h1
  rw[<-h1];exact h2
 .obtain⟨h1,h2⟩:=hi
  simp only[length_cons]at h1
  cases decide ((c.toNat:Int)=47)with
  |false=>exact hnx _ ⟨by omega,by have:=h2.l;omega,fun d=>by have:=h2.b d;omega⟩
  |true =>
   rw[cond_true,zo ⟨by omega,by omega⟩];obtain⟨m',e,hb⟩:=AP hz h2 (d:=List.take i p) (by omega);rw[e,zg];exact hnx _ ⟨by omega,hb⟩
def Cv(c:ai)(m1:M1)(m2:M2)(m3:M3)(m4:M5)(o:List ai):Option (M1×M2×M3×M5×List ai) :=
 dZ ((o++[c]).length<=274877906944) <|
 bif decide (c.e=1)then
  eA (zu m1 c.g.a) fun q =>
  bif !q.isSome then
   call (mM 1 c.g.a m2) fun r =>
   dZ ((ec m1 c.g.a c.g).length<=274877906944) <|
   some (ec m1 c.g.a c.g,r,m3,m4,o++[c])
  else
  dZ ((ec m1 c.g.a c.g).length<=274877906944) <|
  some (ec m1 c.g.a c.g,m2,m3,m4,o++[c])
 else
 bif decide (c.e=2)then
  call (mM (-1) c.g.a m2) fun r =>
  some (fe m1 c.g.a,r,m3,m4,o++[c])
 else
 bif decide (c.e=3)then
  dZ ((ec m3 c.j.k c.j).length<=274877906944) <|
  some (m1,m2,ec m3 c.j.k c.j,m4,o++[c])
 else
 bif decide (c.e=4)then
  some (m1,m2,fe m3 c.j.k,m4,o++[c])
 else
 bif decide (c.e=5)then
  dZ ((ec m4 c.h.o c.h).length<=274877906944) <|
  some (m1,m2,m3,ec m4 c.h.o c.h,o++[c])
 else
 some (m1,m2,m3,fe m4 c.h.o,o++[c])
structure Sc(n:Nat)(m1:M1)(m2:M2)(m3:M3)(m4:M5)(L:Lw):Prop where
 l1:∀k,zu m1 k=L.f k
 l3:∀k,zu m3 k=L.s k
 l4:∀k,zu m4 k=L.v k
 n1:(m1.map (·.1)).Nodup
 n3:(m3.map (·.1)).Nodup
 n4:(m4.map (·.1)).Nodup
 z1:m1.length<=n
 z2:Bd n m2
 z3:m3.length<=n
 z4:m4.length<=n
theorem Bd.le{n n':Nat}{m:M2}(h:Bd n m)(hn:n<=n'):Bd n' m:=⟨by have:=h.l;omega,fun d=>by have:=h.b d;omega⟩
theorem k6{K V:Type}[DecidableEq K](m:List (K×V))(k:K):(fe m k).length<=m.length:=by have:=mb m k;omega
theorem vI{K V:Type}[DecidableEq K](m:List (K×V))(k:K)(v:V):(ec m k v).length<=m.length+1:=by rw[xE];split <;> omega
theorem Fl{n:Nat}{m1:M1}{m2:M2}{m3:M3}{m4:M5}{L:Lw}(h:Sc n m1 m2 m3 m4 L)(hn:n<=34359738368)(c:ai)(hp:c.g.a.length<=300)(o:List ai)(ho:o.length<=34359738368) :
  ∃a b d e,Cv c m1 m2 m3 m4 o=some (a,b,d,e,o++[c])/\Sc (n+301) a b d e (fZ c L):=by
 have hz1:=h.z1;have hz3:=h.z3;have hz4:=h.z4;unfold Cv fZ;rw[zo (by simp;omega)]
 cases hk1:decide (c.e=1)with
 |true =>
  simp only[cond_true,eA];have ha:=vI m1 c.g.a c.g
  have hs:∀m2',Bd (n+301) m2'->Sc (n+301) (ec m1 c.g.a c.g) m2' m3 m4 ⟨hP L.f c.g.a (some c.g),L.s,L.v⟩:=fun m2' hb =>
   ⟨fun k=>by rw[lf];simp only[hP,h.l1],h.l3,h.l4,yJ h.n1 _ _,h.n3,h.n4,by omega,hb,by omega,by omega⟩
  cases (zu m1 c.g.a).isSome with
  |true =>
   rw[Bool.not_true,cond_false,zo (by omega)];exact⟨_,_,_,_,rfl,hs _ (h.z2.le (by omega))⟩
  |false =>
   rw[Bool.not_false,cond_true];obtain⟨r,e,hb⟩:=kN (z:=1) (by omega) (p:=c.g.a) h.z2 (by omega);rw[e,zg,zo (by omega)];exact⟨_,_,_,_,rfl,hs _ (hb.le (by omega))⟩
 |false =>
  rw[cond_false,cond_false]
  cases hk2:decide (c.e=2)with
  |true =>
   simp only[cond_true];obtain⟨r,e,hb⟩:=kN (z:=-1) (by omega) (p:=c.g.a) h.z2 (by omega);rw[e,zg];have ha:=k6 m1 c.g.a;exact⟨_,_,_,_,rfl,fun k=>by rw[vP h.n1];simp only[hP,h.l1],h.l3,h.l4,yI h.n1 _,h.n3,h.n4,by omega,hb.le (by omega),by omega,by omega⟩
  |false =>
   rw[cond_false,cond_false]
   cases hk3:decide (c.e=3)with
   |true =>
    simp only[cond_true];have ha:=vI m3 c.j.k c.j;rw[zo (by omega)];exact⟨_,_,_,_,rfl,h.l1,fun k=>by rw[lf];simp only[hP,h.l3],h.l4,h.n1,yJ h.n3 _ _,h.n4,by omega,h.z2.le (by omega),by omega,by omega⟩
   |false =>
    rw[cond_false,cond_false]
    cases hk4:decide (c.e=4)with
    |true =>
     simp only[cond_true];have ha:=k6 m3 c.j.k;exact⟨_,_,_,_,rfl,h.l1,fun k=>by rw[vP h.n3];simp only[hP,h.l3],h.l4,h.n1,yI h.n3 _,h.n4,by omega,h.z2.le (by omega),by omega,by omega⟩
    |false =>
     rw[cond_false,cond_false]
     cases hk5:decide (c.e=5)with
     |true =>
      simp only[cond_true];have ha:=vI m4 c.h.o c.h;rw[zo (by omega)];exact⟨_,_,_,_,rfl,h.l1,h.l3,fun k=>by rw[lf];simp only[hP,h.l4],h.n1,h.n3,yJ h.n4 _ _,by omega,h.z2.le (by omega),by omega,by omega⟩
     |false =>
      simp only[cond_false];have ha:=k6 m4 c.h.o;exact⟨_,_,_,_,rfl,h.l1,h.l3,fun k=>by rw[vP h.n4];simp only[hP,h.l4],h.n1,h.n3,yI h.n4 _,by omega,h.z2.le (by omega),by omega,by omega⟩
theorem Fk(p:dX)(m1:M1)(m2:M2)(m3:M3)(m4:M5):Gv p m1 m2 m3 m4=mM 1 p m2:=rfl
theorem Im{M:aj}(h:Good M):∃m1 m2 m3 m4,rI M=some (m1,m2,m3,m4)/\Sc 400000 m1 m2 m3 m4 (gv M):=by
 have hc2:=h.c2;have hc3:=h.c3;have hc4:=h.c4
 suffices hs:Ends (rI M) fun z=>Sc 400000 z.1 z.2.1 z.2.2.1 z.2.2.2 (gv M)by
  obtain⟨⟨a,b,c,d⟩,e,h1⟩:=hs;exact⟨a,b,c,d,e,h1⟩
 unfold rI;simp only[ft];refine oO (fun i r s=>∃a,M.i=a++r/\a.length=i/\s.1=gj (·.a) id a/\Bd (200*i) s.2) (fun i s hi=>?_) (fun i f r s nx hi hnx=>?_) M.i 0 ([],[]) ⟨[],rfl,rfl,rfl,by simp,fun d=>by simp[zu]⟩
 .obtain⟨a,e,hl,h1,h2⟩:=hi
  rw[append_nil]at e;subst e;obtain⟨m1,m2⟩:=s;simp only at h1 h2|-;subst h1;refine⟨(gj (·.a) id M.i,m2,gj (·.k) id M.n,gj (·.o) id M.m),?_,?_⟩
  .refine(ku (key:=fun x:ab=>x.k) (w:=id) (fun _ _ _ _ _=>rfl) h.s2 (by omega)).trans ?_
   exact ku (key:=fun x:ah=>x.o) (w:=id) (fun _ _ _ _ _=>rfl) h.v2 (by omega)
  .have q {A:Type} (o:Option A):o.map id=o:=by cases o <;> rfl
   exact⟨fun k=>by rw[yC,q];rfl,fun k=>by rw[yC,q];rfl,fun k=>by rw[yC,q];rfl,BT h.g2,BT h.s2,BT h.v2,by simp[gj];omega,h2.le (by omega),by simp[gj];omega,by simp[gj];omega⟩
 .obtain⟨a,e,hl,h1,h2⟩:=hi
  have hlen:=congrArg List.length e;simp only[length_append,length_cons]at hlen;obtain⟨m1,m2⟩:=s;simp only at h1 h2|-;subst h1
  have hx:f.a∉(gj (fun x:aa=>x.a) id a).map (·.1):=by
   rw[Hs];intro hm;obtain⟨y,hy,hyx⟩:=mem_map.1 hm;have h1:=h.g2;unfold eU at h1;rw[e,pairwise_append]at h1;exact xq (h1.2.2 y hy f (mem_cons_self ..)) hyx
  have hap:ec (gj (fun x:aa=>x.a) id a) f.a f=gj (fun x:aa=>x.a) id (a++[f]):=by
   rw[m9 _ _ _ hx];simp[gj]
  have hf:f∈M.i:=by rw[e];simp
  have hp:=vi (BP (h.g1 f hf)).1;rw[hap,zo (by simp[gj];omega),Fk];obtain⟨m',e',hb⟩:=kN (z:=1) (by omega) (p:=f.a) h2 (by omega);rw[e',zg];exact hnx _ ⟨a++[f],by rw[e];simp,by simp[hl],rfl,hb.le (by omega)⟩
def Ah(f:aa):dX:=bif f.w then qp f.u else hQ f.u
def EC(s:ab):dX:=hQ s.Value
def Cn(s:ah):dX:=bif s.B then iZ (([97]:dX)++s.a)else hQ s.a
theorem H9(f:aa)(h:Sm f.u):vl f=some (Ah f):=by
 unfold vl Ah;rw[zo (yB 114 h),zo (yB 45 h),yM,yM]
 cases f.w <;> rfl
theorem HU(s:ab)(h:Sm s.Value):vW s=some (EC s):=by
 unfold vW EC;rw[zo (yB 45 h),yM];rfl
theorem HV(s:ah)(h:Sm s.a):vV s=some (Cn s):=by
 unfold vV Cn;rw[zo (yB 97 h),zo (yB 45 h),yM,yM]
 cases s.B <;> rfl
structure Sz(L:Lw):Prop where
 f:∀k x,L.f k=some x->Sm x.u/\x.a=k
 s:∀k x,L.s k=some x->Sm x.Value/\x.k=k
 v:∀k x,L.v k=some x->Sm x.a/\x.o=k
theorem Sz.good{M:aj}(h:Good M):Sz (gv M) where
 f k x hx:=by
  obtain⟨h1,h2⟩:=jX hx;have:=(BP (h.g1 x h1)).2;exact⟨by unfold Sm;omega,h2⟩
 s k x hx:=by
  obtain⟨h1,h2⟩:=jX hx;have:=Kj (HC (h.s1 x h1)).2;exact⟨by unfold Sm;omega,h2⟩
 v k x hx:=by
  obtain⟨h1,h2⟩:=jX hx;have:=vi (HP (h.v1 x h1)).2;exact⟨by unfold Sm;omega,h2⟩
def fG(L:Lw)(p:al):Option dX:=bif decide (p.C=2)then(L.s p.y).map EC else bif decide (p.C=3)then(L.v p.y).map Cn else(L.f p.y).map Ah
noncomputable def wc(p:al)(m1:M1)(m3:M3)(m4:M5):Option (dX×Bool) :=
 bif decide (p.C=2)then
  eA (zu m3 p.y) fun q=>call (vW (q.getD (ab.mk [] []))) fun r=>some (r,q.isSome)
 else
 bif decide (p.C=3)then
  eA (zu m4 p.y) fun q=>call (vV (q.getD (ah.mk [] [] false false))) fun r=>some (r,q.isSome)
 else
 eA (zu m1 p.y) fun q=>call (vl (q.getD (aa.mk [] [] false))) fun r=>some (r,q.isSome)
theorem oV{n:Nat}{m1:M1}{m2:M2}{m3:M3}{m4:M5}{L:Lw}(h:Sc n m1 m2 m3 m4 L)(hz:Sz L)(p:al):wc p m1 m3 m4=some ((fG L p).getD (hQ []),(fG L p).isSome):=by
 have z:Sm ([]:dX):=Nat.zero_le _;unfold wc fG;simp only[eA,h.l1,h.l3,h.l4]
 cases decide (p.C=2)with
 |true =>
  simp only[cond_true]
  cases e:L.s p.y with
  |none=>simp only[Option.getD_none,Option.map_none];rw[HU _ z];rfl
  |some x=>simp only[Option.getD_some,Option.map_some];rw[HU _ (hz.s _ _ e).1];rfl
 |false =>
  simp only[cond_false]
  cases decide (p.C=3)with
  |true =>
   simp only[cond_true]
   cases e:L.v p.y with
   |none=>simp only[Option.getD_none,Option.map_none];rw[HV _ z];rfl
   |some x=>simp only[Option.getD_some,Option.map_some];rw[HV _ (hz.v _ _ e).1];rfl
  |false =>
   simp only[cond_false]
   cases e:L.f p.y with
   |none=>simp only[Option.getD_none,Option.map_none];rw[H9 _ z];rfl
   |some x=>simp only[Option.getD_some,Option.map_some];rw[H9 _ (hz.f _ _ e).1];rfl
def fB(h:ae):al:=⟨eW h.e+1,h.a⟩
def gP(L:Lw)(h:ae):Int:=match fG L (fB h)with
 |none=>3
 |some s=>bif decide (s=h.x)then 1 else 2
noncomputable def sG(h:ae)(m1:M1)(m3:M3)(m4:M5):Option Int :=
 call (zG h) fun p=>call (wc p m1 m3 m4) fun r=>bif !r.2 then some 3 else bif decide (r.1=h.x)then some 1 else some 2
theorem je{n:Nat}{m1:M1}{m2:M2}{m3:M3}{m4:M5}{L:Lw}(h:Sc n m1 m2 m3 m4 L)(hz:Sz L)(x:ae):sG x m1 m3 m4=some (gP L x):=by
 unfold sG gP;rw[iv,zg,oV h hz,zg]
 show(bif !(fG L (fB x)).isSome then some 3 else bif decide ((fG L (fB x)).getD (hQ [])=x.x)then some 1 else some 2)=_
 cases fG L (fB x)with
 |none=>rfl
 |some s=>simp only[Option.isSome_some,Option.getD_some,Bool.not_true,cond_false];cases decide (s=x.x) <;> rfl
def lZ(x:ak):dX:=bif decide (x.e=5)then x.j.k else bif decide (x.e=6)then x.h.o else x.g.a
def eJ(x:ak):al:=⟨eW x.e+1,lZ x⟩
def sK(x:ak):dX:=bif decide (x.e=5)then EC x.j else bif decide (x.e=6)then Cn x.h else Ah x.g
def fj(o:dX)(x:ak):ae:=⟨o,x.e,lZ x,sK x,bif decide (x.e=3)then x.g.u else []⟩
structure JI(x:ak):Prop where
 d:Sm x.g.u
 s:Sm x.j.Value
 v:Sm x.h.a
theorem xG(x:ak):nG x=some (eJ x):=by
 unfold nG eJ lZ eW
 cases decide (x.e=5) <;> cases decide (x.e=6) <;> rfl
theorem j5(x:ak)(h:JI x):yH x=some (sK x):=by
 unfold yH sK;rw[HU _ h.s,HV _ h.v,H9 _ h.d]
 cases decide (x.e=5) <;> cases decide (x.e=6) <;> rfl
theorem tK(o:dX)(x:ak)(h:JI x):yL o x=some (fj o x):=by
 unfold yL fj;rw[xG,j5 x h];simp only[zg,eJ]
 cases decide (x.e=3) <;> rfl
theorem o8(o:dX)(x:ak):fB (fj o x)=eJ x:=rfl
def ff(L:Lw)(x:ak):ak:=⟨x.e,x.g,x.j,⟨x.h.o,x.h.a,x.h.B,decide (x.e=6)&&((L.v x.h.o).getD qe).A⟩⟩
noncomputable def ws(x:ak)(m1:M1)(m2:M2)(m3:M3)(m4:M5)(o:List ai):Option (M1×M2×M3×M5×List ai) :=
 eA (zu m4 x.h.o) fun q =>
 call (xT (ak.mk x.e x.g x.j (ah.mk x.h.o x.h.a x.h.B ((decide (x.e=6))&&((q.getD (ah.mk [] [] false false)).A))))) fun r =>
 call (Cv r m1 m2 m3 m4 o) fun r=>some (r.1,r.2.1,r.2.2.1,r.2.2.2.1,r.2.2.2.2)
theorem uw(x:ak)(h:x.g.a.length<=300):(ei x).g.a.length<=300:=by
 unfold ei
 cases decide (x.e=5) <;> cases decide (x.e=6) <;> first|exact h|exact Nat.zero_le _
theorem Ak(L:Lw)(x:ak):fG (fZ (ei (ff L x)) L) (eJ x)=some (sK x):=by
 unfold ei fG eJ lZ sK eW fZ ff
 cases h5:decide (x.e=5)with
 |true=>simp[hP]
 |false =>
  cases h6:decide (x.e=6)with
  |true=>simp[hP,Cn]
  |false=>simp[hP]
theorem Hx(L:Lw)(x:ak)(p:al)(h:p≠eJ x)(ht:1<=p.C/\p.C<=3):fG (fZ (ei (ff L x)) L) p=fG L p:=by
 obtain⟨t,q⟩:=p;simp only at ht;unfold ei fG fZ ff;unfold eJ lZ eW at h
 cases h5:decide (x.e=5)with
 |true =>
  rw[h5]at h;simp only[cond_true]at h|-
  cases h2:decide (t=2)with
  |true =>
   have e:=of_decide_eq_true h2;subst e
   have:¬ x.j.k=q:=fun e=>h (by rw[e];rfl)
   simp[hP,this]
  |false=>simp
 |false =>
  rw[h5]at h;simp only[cond_false]at h|-
  cases h6:decide (x.e=6)with
  |true =>
   rw[h6]at h;simp only[cond_true]at h|-
   cases h2:decide (t=2)with
   |true=>simp
   |false =>
    cases h3:decide (t=3)with
    |true =>
     have e:=of_decide_eq_true h3;subst e
     have:¬ x.h.o=q:=fun e=>h (by rw[e];rfl)
     simp[hP,this]
    |false=>simp
  |false =>
   rw[h6]at h;simp only[cond_false]at h|-
   cases h2:decide (t=2)with
   |true=>simp
   |false =>
    cases h3:decide (t=3)with
    |true=>simp
    |false =>
     have e:t=1:=by
      have a:=of_decide_eq_false h2;have b:=of_decide_eq_false h3;omega
     subst e
     have:¬ x.g.a=q:=fun e=>h (by rw[e];rfl)
     simp[hP,this]
section
variable {A:Type}
def tS(pr:A->Option Bool)(s:List A):Option Int :=
 jp (S:=Unit) (fun _=>some (-1)) fun k12 =>
 forL s 0 (fun i h _ nx _=>call (pr h) fun r=>bif r then some (i:Int)else nx ()) () (fun _=>k12 ())
def Cp(p:A->Bool)(l:List A):Int:=match l.findIdx? p with|some i=>(i:Int)|none=>-1
theorem tR{pr:A->Option Bool}{p:A->Bool}(l:List A)(h:∀x∈l,pr x=some (p x)):tS pr l=some (Cp p l):=by
 unfold tS jp
 have:∀(b:List A) (i:Nat),(∀x∈b,pr x=some (p x))->forL b i (fun i h _ nx _=>call (pr h) fun r=>bif r then some (i:Int)else nx ()) () (fun _=>some (-1))=some (match b.findIdx? p with|some j=>((i+j:Nat):Int)|none=>-1):=by
  intro b
  induction b with
  |nil=>intro i _;rfl
  |cons x b ih =>
   intro i hb;unfold forL
   show call (pr x) _=_
   rw[hb x (by simp),zg,findIdx?_cons]
   cases p x with
   |true=>rfl
   |false =>
    rw[cond_false];refine(ih (i+1) fun y hy=>hb y (by simp[hy])).trans ?_
    cases b.findIdx? p with
    |none=>rfl
    |some j =>
     show some (((i+1+j:Nat):Int))=some (((i+(j+1):Nat):Int))
     rw[show i+1+j=i+(j+1)by omega]
 refine(this l 0 h).trans ?_;unfold Cp
 cases l.findIdx? p <;> simp
def tT(d:A)(pr:A->Option Bool)(o0:List A)(t:Int)(nx k36:Int->Option Int):Option Int :=
 bif decide (t<((List.take o0.length o0).length:Int))then
  dZ (0<=t/\t<(o0.length:Int)) <|
  call (pr (o0.getD (t.toNat:Nat) d)) fun r=>bif r then some t else nx (IntKind.i64.wrap (t+1))
 else k36 t
def pJ(d:A)(pr:A->Option Bool)(o0:List A):Option Int :=
 jp (S:=Unit) (fun _=>some (-1)) fun k31=>loopN ia (tT d pr o0) 0 (fun _=>k31 ())
theorem mF{d:A}{pr:A->Option Bool}{p:A->Bool}(l:List A)(hl:l.length<=1073741824)(h:∀x∈l,pr x=some (p x)):pJ d pr l=some (Cp p l):=by
 obtain⟨N,hN⟩:∃N,ia=N:=⟨_,rfl⟩;have hN2:1099511627776<=N:=hN ▸ xz;unfold pJ;rw[hN];clear hN;simp only[ft];have key:=Gb (f:=tT d pr l) (k:=fun _=>some (-1)) (fun t=>0<=t/\t<=l.length) (fun t=>((l.length:Int)-t).toNat) (fun t=>some (match (l.drop t.toNat).findIdx? p with|some j=>t+(j:Int)|none=>-1)) (fun t nx hi hnx=>?_) N 0 ⟨by omega,by omega⟩ (by omega)
 .rw[key]
  unfold Cp;simp only[Int.toNat_zero,drop_zero]
  cases l.findIdx? p <;> simp
 .obtain⟨h1,h2⟩:=hi
  obtain⟨i,rfl⟩:=Int.eq_ofNat_of_zero_le h1;unfold tT;rw[take_length];simp only[Int.toNat_natCast]
  by_cases hj:i<l.length
  .rw[decide_eq_true (by omega),cond_true,zo (by omega)]
   have hoj:l.getD i d=l[i]:=by rw[getD_eq_getElem?_getD,getElem?_eq_getElem hj];rfl
   rw[hoj,h _ (getElem_mem hj),zg,drop_eq_getElem_cons hj,findIdx?_cons];cases p l[i]with
   |true=>simp
   |false =>
    rw[cond_false,jU i (by omega),hnx _ ⟨by omega,by omega⟩ (by omega)];simp only[Int.toNat_natCast,Bool.false_eq_true,if_false]
    cases (l.drop (i+1)).findIdx? p with
    |none=>rfl
    |some j=>simp only[Option.map_some];congr 1;omega
  .rw[decide_eq_false (by omega),cond_false,drop_eq_nil_of_le (by omega)]
   rfl
def A1(d:A)(pr:A->Option Bool)(n:Nat)(s:Int×Int×List A)(nx k99:Int×Int×List A->Option (List A)):Option (List A) :=
 match s with
 |(i,j,o) =>
  bif decide (j<((List.take n o).length:Int))then
   dZ (0<=j/\j<(n:Int)) <|
   dZ (j.toNat<o.length) <|
   call (pr (o.getD (j.toNat:Nat) d)) fun r =>
   bif !r then
    dZ (0<=i/\i<(n:Int)) <|
    dZ (i.toNat<o.length) <|
    nx (IntKind.i64.wrap (i+1),IntKind.i64.wrap (j+1),List.set o (i.toNat:Nat) (o.getD (j.toNat:Nat) d))
   else
   nx (i,IntKind.i64.wrap (j+1),o)
  else
  k99 (i,j,o)
def w6(d:A)(n:Nat)(s:Int×List A):Option (List A) :=
 match s with
 |(i,o) =>
  dZ (0<=i/\i<=(n:Int)) <|
  dZ (0<=i/\i<=(n:Int)) <|
  some (List.take i.toNat (List.take i.toNat o++List.replicate (n-i.toNat) d++List.drop (i.toNat+(n-i.toNat)) o))
def w7(d:A)(pr:A->Option Bool)(ix:Option Int)(o0:List A):Option (List A) :=
 call ix fun r =>
 bif decide (r=(-1))then some (List.take o0.length o0)
 else
 jp (w6 d o0.length) fun k81 =>
 loopN ia (A1 d pr o0.length) (r,IntKind.i64.wrap (r+1),o0) (fun s=>match s with
  |(i,j,o)=>k81 (i,o))
theorem lA(l:List A)(i:Nat)(x:A)(h:i<l.length):(l.set i x).take (i+1)=l.take i++[x]:=FW l i x h
theorem pR{d:A}{pr:A->Option Bool}{p:A->Bool}(l:List A)(hl:l.length<=1073741824)(h:∀x∈l,pr x=some (p x)):w7 d pr (some (Cp p l)) l=some (l.filter fun x=>!p x):=by
 obtain⟨N,hN⟩:∃N,ia=N:=⟨_,rfl⟩;have hN2:1099511627776<=N:=hN ▸ xz;unfold w7;rw[hN,zg];clear hN;unfold Cp
 cases hf:l.findIdx? p with
 |none =>
  rw[findIdx?_eq_none_iff]at hf;simp only[decide_true,cond_true];rw[take_length,filter_eq_self.2 (fun x hx=>by rw[hf x hx];rfl)]
 |some k =>
  obtain⟨hk,hp,hb⟩:=findIdx?_eq_some_iff_getElem.1 hf;have:decide ((k:Int)=-1)=false:=decide_eq_false (by omega);simp only[this,cond_false,ft];rw[jU k (by omega)];generalize hK:(fun s:Int×Int×List A=>match s with|(i,j,o)=>w6 d l.length (i,o))=K
  have hK':∀i j o,K (i,j,o)=w6 d l.length (i,o):=fun i j o=>by rw[<-hK]
  suffices hs:Ends (loopN N (A1 d pr l.length) ((k:Int),((k+1:Nat):Int),l) K) (fun z=>z=l.filter fun x=>!p x)by
   obtain⟨z,e,rfl⟩:=hs;exact e
  refine F4 (fun(s:Int×Int×List A)=>∃i j:Nat,s.1=i/\s.2.1=j/\i<j/\j<=l.length/\s.2.2.length=l.length/\s.2.2.take i=(l.take j).filter (fun x=>!p x)/\s.2.2.drop j=l.drop j) (fun(s:Int×Int×List A)=>((l.length:Int)-s.2.1).toNat) (fun s nx hi hnx=>?_) N _ ⟨k,k+1,rfl,rfl,by omega,by omega,rfl,?_,rfl⟩ (by simp only;omega)
  .obtain⟨i,j,h1,h2,h3,h4,h5,h6,h7⟩:=hi
   obtain⟨si,sj,o⟩:=s;simp only at h1 h2 h5 h6 h7 hnx
   subst h1;subst h2
   unfold A1;simp only;rw[take_of_length_le (by omega),h5]
   by_cases hj:j<l.length
   .rw[decide_eq_true (by omega),cond_true,zo (by omega),zo (by omega)]
    have hoj:o.getD ((j:Int).toNat) d=l[j]:=by
     rw[Int.toNat_natCast,getD_eq_getElem?_getD]
     have:(o.drop j)[0]?=(l.drop j)[0]?:=by rw[h7]
     rw[getElem?_drop,getElem?_drop,Nat.add_zero]at this
     rw[this,getElem?_eq_getElem hj];rfl
    rw[hoj,h _ (getElem_mem hj),zg]
    have ht:(l.take (j+1)).filter (fun x=>!p x)=(l.take j).filter (fun x=>!p x)++if (!p l[j])=true then [l[j]]else []:=by
     rw[take_add_one,getElem?_eq_getElem hj,filter_append];simp only[Option.toList_some,filter_cons,filter_nil]
    cases hq:p l[j]with
    |true =>
     simp only[Bool.not_true,cond_false];rw[jU j (by omega)];refine hnx _ ⟨i,j+1,rfl,rfl,by omega,by omega,h5,?_,?_⟩ ?_
     .simp only;rw[ht,hq,h6];simp
     .simp only;rw[<-drop_drop,<-drop_drop,h7]
     .simp only;omega
    |false =>
     simp only[Bool.not_false,cond_true];rw[zo (by omega),zo (by omega),jU i (by omega),jU j (by omega),Int.toNat_natCast];refine hnx _ ⟨i+1,j+1,rfl,rfl,by omega,by omega,by simp[h5],?_,?_⟩ ?_
     .simp only;rw[lA _ _ _ (by omega),ht,hq,h6];simp
     .simp only
      rw[drop_set,if_pos (by omega),<-drop_drop,<-drop_drop,h7]
     .simp only;omega
   .obtain rfl:j=l.length:=by omega
    rw[decide_eq_false (by omega),cond_false,hK'];unfold w6;simp only;rw[zo (by omega),zo (by omega)];refine⟨_,rfl,?_⟩;rw[Int.toNat_natCast,append_assoc,take_append_of_le_length (by rw[length_take];omega),take_take,Nat.min_self,h6,take_length]
  .simp only
   rw[take_add_one,getElem?_eq_getElem hk,filter_append];simp only[Option.toList_some,filter_cons,hp,Bool.not_true,Bool.false_eq_true,if_false,filter_nil,append_nil];refine(filter_eq_self.2 fun x hx=>?_).symm;obtain⟨j,hj,rfl⟩:=getElem_of_mem hx;rw[length_take]at hj;rw[getElem_take];have:=hb j (by omega);simp at this;simp[this]
end
theorem Gc{α β:Type}(f:α->β):∀{l:List α},(l.map f).Nodup->∀x∈l,∀y∈l,f x=f y->x=y
 |[],_,x,hx,_,_,_=>by cases hx
 |z::l,hn,x,hx,y,hy,e=>by
  rw[map_cons,nodup_cons]at hn
  rcases mem_cons.1 hx with h1|h1
  .rcases mem_cons.1 hy with h2|h2
   .rw[h1,h2]
   .exact absurd (mem_map.2 ⟨y,h2,by rw[<-e,h1]⟩) hn.1
  .rcases mem_cons.1 hy with h2|h2
   .exact absurd (mem_map.2 ⟨x,h1,by rw[e,h2]⟩) hn.1
   .exact Gc f hn.2 x h1 y h2 e
def qK:List ae->List (al×ae)->List (al×ae)
 |[],m=>m
 |h::l,m=>qK l (ec m (fB h) h)
theorem oq(l:List ae)(hn:l.length<=1073741824):yQ l=some (qK l []):=by
 unfold yQ;rw[ft]
 have:∀(b:List ae) (i:Nat) (m:List (al×ae)),m.length+b.length<=1073741824->forL b i (fun i_76 h_78 (m0_69:List (al×ae)) nx_75 (k_74:List (al×ae)->Option (List (al×ae))) =>
   call (zG h_78) fun r_79 =>
   dZ ((ec m0_69 r_79 h_78).length<=274877906944) <|
   nx_75 (ec m0_69 r_79 h_78)) m (fun m0_69=>some m0_69)=some (qK b m):=by
  intro b
  induction b with
  |nil=>intro i m _;rfl
  |cons h b ih =>
   intro i m hm;unfold forL;simp only[length_cons]at hm;have ha:(ec m (⟨eW h.e+1,h.a⟩:al) h).length<=m.length+1:=vI m _ h
   show call (zG h) _=_
   rw[iv,zg,zo (by omega)];exact ih (i+1) _ (by omega)
 exact this l 0 [] (by simpa using hn)
theorem mv:∀(l:List ae) (m:List (al×ae)),(l.map fB).Nodup->∀p,zu (qK l m) p=match l.find? fun h=>decide (fB h=p)with|some h=>some h|none=>zu m p
 |[],m,_,p=>rfl
 |h::l,m,hn,p=>by
  simp only[map_cons,nodup_cons]at hn;unfold qK;rw[mv l _ hn.2 p,find?_cons,lf]
  by_cases e:fB h=p
  .subst e
   have:l.find? (fun x=>decide (fB x=fB h))=none:=by
    rw[find?_eq_none];intro x hx he;exact hn.1 (mem_map.2 ⟨x,hx,of_decide_eq_true he⟩)
   rw[this];simp
  .rw[decide_eq_false e,if_neg e]
theorem AU{l:List ae}(hn:(l.map fB).Nodup){h:ae}(hh:h∈l):zu (qK l []) (fB h)=some h:=by
 rw[mv l [] hn]
 cases e:l.find? fun x=>decide (fB x=fB h)with
 |none =>
  rw[find?_eq_none]at e;exact absurd (decide_eq_true rfl) (e h hh)
 |some x =>
  have h1:=find?_some e;have h2:=mem_of_find?_eq_some e;have:x=h:=Gc fB hn x h2 h hh (of_decide_eq_true h1);rw[this]
abbrev leH(x y:ae):Prop:=¬ iR y.t y.e y.a x.t x.e x.a<0
theorem leH_le{x y:ae}:leH x y↔iR x.t x.e x.a y.t y.e y.a<=0:=by
 unfold leH;have:=yD x.t x.e x.a y.t y.e y.a;omega
theorem sU(k:Int):rk k=eW k+1:=by
 unfold rk eW
 by_cases h1:k=5
 .simp[h1]
 .by_cases h2:k=6 <;> simp[h1,h2]
theorem tB{l:List ae}(hn:(l.map fun h=>(h.t,fB h)).Nodup){x y:ae}(hx:x∈l)(hy:y∈l)(h1:leH x y)(h2:leH y x):x=y:=by
 have e1:=leH_le.1 h1;have e2:=leH_le.1 h2;have e3:=yD x.t x.e x.a y.t y.e y.a;obtain⟨q1,q2,q3⟩:=jG (show iR x.t x.e x.a y.t y.e y.a=0 by omega);rw[sU,sU]at q2
 have hk:(fun h:ae=>(h.t,fB h)) x=(fun h:ae=>(h.t,fB h)) y:=by
  simp only[fB];rw[q1,q3,q2]
 exact Gc (fun h:ae=>(h.t,fB h)) hn x hx y hy hk
def j8(l:List ae):List ae:=l.mergeSort fun x y=>decide (leH x y)
theorem vN(l:List ae):(j8 l).Perm l:=mergeSort_perm l _
theorem lK(l:List ae):(j8 l).Pairwise leH:=by
 have:=pairwise_mergeSort (le:=fun x y:ae=>decide (leH x y)) (fun a b c h1 h2=>by
  have e1:=leH_le.1 (of_decide_eq_true h1);have e2:=leH_le.1 (of_decide_eq_true h2)
  exact decide_eq_true (leH_le.2 (H7 e1 e2))) (fun a b=>by
  have e3:=yD a.t a.e a.a b.t b.e b.a;rw[Bool.or_eq_true]
  rcases Int.le_total (iR a.t a.e a.a b.t b.e b.a) 0 with h|h
  .exact .inl (decide_eq_true (leH_le.2 h))
  .exact .inr (decide_eq_true (leH_le.2 (by omega)))) l
 exact List.Pairwise.imp (fun h=>of_decide_eq_true h) this
theorem wh{l:List ae}(hn:(l.map fun h=>(h.t,fB h)).Nodup):DY l=some (j8 l):=by
 unfold DY
 refine Gq ⟨j8 l,vN l,lK l⟩ fun l' ⟨h1,h2⟩=>congrArg some ?_
 refine List.Perm.eq_of_pairwise (le:=leH) (fun a b ha hb h3 h4=>?_) h2 (lK l) (h1.trans (vN l).symm);exact tB hn (h1.mem_iff.1 ha) ((vN l).mem_iff.1 hb) h3 h4
structure OkI(x:ak):Prop where
 k:1<=x.e/\x.e<=6
 c:kQ (ei x)=0
 p:x.g.a.length<=200
 d:x.g.u.length<=65536
 s:x.j.Value.length<=1000
 v:x.h.a.length<=200
theorem wV{x:ak}(h:u7 x=0):OkI x:=by
 unfold u7 at h
 cases h1:(decide (x.e<1)||decide (6<x.e))with
 |true=>rw[h1]at h;cases h
 |false =>
  rw[h1,cond_false]at h;simp only[Bool.or_eq_false_iff,decide_eq_false_iff_not]at h1
  by_cases h2:ny (ei x)=0
  .rw[decide_eq_true h2,Bool.not_true,cond_false]at h
   cases h3:(!rJ (vq x) (ei x)||x.h.A)with
   |true=>rw[h3]at h;cases h
   |false =>
    simp only[Bool.or_eq_false_iff,Bool.not_eq_false']at h3
    have hk:(vq x).e=(ei x).e:=by unfold vq ei;cases decide (x.e=5) <;> cases decide (x.e=6) <;> rfl
    have he:=tX hk h3.1
    have hc:kQ (ei x)=0:=by rw[kP];exact h2
    have q:∀{a b:ai},a=b->a.g=b.g/\a.j=b.j/\a.h=b.h:=fun e=>by rw[e];exact⟨rfl,rfl,rfl⟩
    obtain⟨e1,e2,e3⟩:=q he;have w1:(vq x).g=x.g:=rfl;have w2:(vq x).j=x.j:=rfl;have w3:(vq x).h=x.h:=rfl;rw[w1]at e1;rw[w2]at e2;rw[w3]at e3;unfold ei at e1 e2 e3
    have key:x.g.a.length<=200/\x.g.u.length<=65536/\x.j.Value.length<=1000/\x.h.a.length<=200:=by
     cases h5:decide (x.e=5)with
     |true =>
      rw[h5]at e1 e3;simp only[cond_true]at e1 e3;have:=pQ hc (by unfold ei;rw[h5];rfl)
      have h6:fu x.j=0:=by unfold ei at this;rw[h5]at this;exact this
      have:=Kj (HC h6).2;rw[e1,e3];exact⟨by simp[lp],by simp[lp],this,by simp[qe]⟩
     |false =>
      rw[h5]at e1 e2 e3;simp only[cond_false]at e1 e2 e3
      cases h6:decide (x.e=6)with
      |true =>
       rw[h6]at e1 e2;simp only[cond_true]at e1 e2;have:=pP hc (by unfold ei;rw[h5,h6];rfl)
       have h7:gk x.h=0:=by unfold ei at this;rw[h5,h6]at this;exact this
       have:=vi (HP h7).2;rw[e1,e2];exact⟨by simp[lp],by simp[lp],by simp[rz],this⟩
      |false =>
       rw[h6]at e2 e3;simp only[cond_false]at e2 e3;have:=kO hc (by unfold ei;rw[h5,h6];rfl)
       have h7:k8 x.g=0:=by unfold ei at this;rw[h5,h6]at this;exact this
       obtain⟨a,b⟩:=BP h7;rw[e2,e3];exact⟨vi a,b,by simp[rz],by simp[qe]⟩
    exact⟨by omega,hc,key.1,key.2.1,key.2.2.1,key.2.2.2⟩
  .rw[decide_eq_false h2]at h
   exact absurd h h2
theorem OkI.sz{x:ak}(h:OkI x):JI x:=by
 have h1:=h.d;have h2:=h.s;have h3:=h.v;exact⟨by unfold Sm;omega,by unfold Sm;omega,by unfold Sm;omega⟩
theorem jE(p d:dX)(h:d.length<274877906944):B5 p d=some (eR p d):=by
 unfold B5 GL G3 eR
 have hl:(d++[47]).length=d.length+1:=by simp
 rw[zo (by rw[hl];omega),zo (by intro h;simp only[decide_eq_true_eq]at h;omega)];simp only[zg,hl]
 congr 1
 by_cases hp:d.length+1<=p.length
 .rw[decide_eq_true (by omega:((d.length+1:Nat):Int)<=(p.length:Int)),Bool.true_and]
 .rw[decide_eq_false (by omega),Bool.false_and,eq_comm,decide_eq_false_iff_not]
  intro e;have:=congrArg List.length e;simp only[length_take,hl]at this;omega
def nV:dX:=[115,116,97,103,101]
def mO(x:ak):Bool:=decide (eW x.e=0)&&(decide (lZ x=nV)||eR (lZ x) nV)
theorem qZ(x:ak):yK x=some (bif mO x then 17 else 0):=by
 unfold yK mO;rw[xG,zg];simp only[eJ];rw[jE _ _ (by decide),lg];have e:decide (eW x.e+1=1)=decide (eW x.e=0):=decide_eq_decide.2 (by omega)
 show(bif decide (eW x.e+1=1)&&(decide (lZ x=nV)||bif decide (eW x.e+1=1)&&!decide (lZ x=nV)then eR (lZ x) nV else false)then some 17 else some 0)=_
 rw[e]
 cases decide (eW x.e=0) <;> cases decide (lZ x=nV) <;> cases eR (lZ x) nV <;> rfl
def qI:List (al×Bool)->List ak->Int
 |_,[]=>0
 |m,x::l=>bif !decide (u7 x=0)then u7 x else bif (zu m (eJ x)).getD false then 6 else bif mO x then 17 else qI (ec m (eJ x) true) l
theorem mo:∀{l:List ak} {m:List (al×Bool)},qI m l=0->(∀x∈l,u7 x=0/\(zu m (eJ x)).getD false=false)/\(l.map eJ).Nodup
 |[],m,_=>⟨fun x hx=>(by cases hx),(by simp)⟩
 |x::l,m,h=>by
  unfold qI at h
  by_cases h0:u7 x=0
  .rw[decide_eq_true h0,Bool.not_true,cond_false]at h
   cases h1:(zu m (eJ x)).getD false with
   |true=>rw[h1]at h;cases h
   |false =>
    rw[h1,cond_false]at h
    cases h2:mO x with
    |true=>rw[h2]at h;cases h
    |false =>
     rw[h2,cond_false]at h;obtain⟨a,b⟩:=mo h;refine⟨fun y hy=>?_,?_⟩
     .rcases mem_cons.1 hy with hy|hy
      .rw[hy];exact⟨h0,h1⟩
      .obtain⟨a1,a2⟩:=a y hy
       refine⟨a1,?_⟩;rw[lf]at a2;split at a2
       .cases a2
       .exact a2
     .rw[map_cons,nodup_cons]
      refine⟨fun hm=>?_,b⟩;obtain⟨y,hy,e⟩:=mem_map.1 hm;have:=(a y hy).2;rw[lf,if_pos e.symm]at this;cases this
  .rw[decide_eq_false h0]at h
   exact absurd h h0
theorem HK(l:List ae)(h:l.length<=274877906944):zT l=some l:=by
 unfold zT
 refine Gq ⟨false,by simp⟩ fun b hb=>?_
 cases b with
 |true=>rw[hb rfl];rfl
 |false=>rw[cond_false,zo (by simpa using h)];rfl
theorem Fa(l:List ae)(o:dX):zW l o=pJ (ae.mk [] 0 [] [] []) (fun h=>xY h o) l:=rfl
theorem A0(l:List ae)(o:dX):GU l o=w7 (ae.mk [] 0 [] [] []) (fun h=>xY h o) (zW l o) l:=rfl
def iy(k:am)(o:dX):List ae:=k.r.filter fun h=>!decide (h.t=o)
theorem mr(l:List ae)(hn:l.length<=1073741824):B6 l=some (qK l []):=by
 unfold B6;rw[ft];refine mA l.length (fun i (m:List (al×ae))=>m.length<=i/\qK l []=qK (l.drop i) m) (fun i m=>some (qK l [])) (fun m hi=>?_) (fun i m nx hi hm hnx=>?_) l.length 0 [] (by simp) ⟨by simp,rfl⟩
 .rw[hi.2,drop_length];rfl
 .obtain⟨h1,h2⟩:=hm
  have e:l.getD i (ae.mk [] 0 [] [] [])=l[i]:=by rw[getD_eq_getElem?_getD,getElem?_eq_getElem hi];rfl
  have ha:=vI m (⟨eW l[i].e+1,l[i].a⟩:al) l[i];rw[e,iv,zg,zo (by omega)];refine hnx _ ⟨by omega,?_⟩;rw[h2,drop_eq_getElem_cons hi];rfl
theorem jo(k:am)(o:dX)(hn:k.r.length<=1073741824):BX k o=some (k.r,o,iy k o,qK (iy k o) []):=by
 have hf:(iy k o).length<=k.r.length:=length_filter_le _ _;unfold BX;rw[HK _ (by omega),zg,A0,Fa,mF (pr:=fun h=>xY h o) (p:=fun h=>decide (h.t=o)) _ hn (fun _ _=>rfl),pR (pr:=fun h=>xY h o) _ hn (fun _ _=>rfl),zg]
 show call (B6 (iy k o)) _=_
 rw[mr _ (by omega)];rfl
theorem Fm(l:List ae)(o:dX):GV l o=w7 (ae.mk [] 0 [] [] []) (fun h=>x5 h o) (zV l o) l:=rfl
theorem mj(k:am)(o:dX)(l:List ae)(hn:k.r.length<=1073741824)(hl:l.length<=1073741824)(hd:((iy k o++l).map fun h=>(h.t,fB h)).Nodup):Dz k o l=some ⟨j8 (iy k o++l)⟩:=by
 have hf:(iy k o).length<=k.r.length:=length_filter_le _ _;unfold Dz;rw[HK _ (by omega),zg,Fm,show zV k.r o=pJ (ae.mk [] 0 [] [] []) (fun h=>x5 h o) k.r from rfl,mF (pr:=fun h=>x5 h o) (p:=fun h=>decide (h.t=o)) _ hn (fun _ _=>rfl),pR (pr:=fun h=>x5 h o) _ hn (fun _ _=>rfl),zg]
 show dZ ((iy k o++l).length<=274877906944) _=_
 rw[zo (by rw[length_append];omega)]
 show call (DY (iy k o++l)) _=_
 rw[wh hd];rfl
theorem LR(o:dX)(l:List ak)(hl:l.length<=1073741824)(hs:∀x∈l,rq x):DQ ⟨[]⟩ o l=some (qI [] l):=by
 unfold DQ;rw[jo ⟨[]⟩ o (by simp),zg,ft]
 have:∀(b:List ak) (i:Nat) (m:List (al×Bool)),m.length+b.length<=1073741824->(∀x∈b,rq x)->forL b i (fun i_78 i_80 (m1_63:List (al×Bool)) nx_77 (k_76:List (al×Bool)->Option Int) =>
  call (xP i_80) fun r_81 =>
  bif !decide (r_81=0)then
   some r_81
  else
  call (nG i_80) fun r_82 =>
  eA (zu m1_63 r_82) fun q_83 =>
  bif (q_83.getD false)then
   some 6
  else
  dZ ((ec m1_63 r_82 true).length<=274877906944) <|
  eA (zu (qK (iy ⟨[]⟩ o) []) r_82) fun q_87 =>
  callG q_87.isSome (yL o i_80) (ae.mk [] 0 [] [] []) fun r_89 =>
  callG q_87.isSome (BQ (q_87.getD (ae.mk [] 0 [] [] [])) r_89) false fun r_90 =>
  bif (q_87.isSome&&(!r_90))then
   some 11
  else
  call (yK i_80) fun r_91 =>
  bif !decide (r_91=0)then
   some r_91
  else
  nx_77 (ec m1_63 r_82 true)) m (fun _=>some 0)=some (qI m b):=by
  intro b
  induction b with
  |nil=>intro i m _ _;rfl
  |cons x b ih =>
   intro i m hm hb;simp only[length_cons]at hm;unfold forL qI
   show call (xP x) _=_
   rw[jS x (hb x (by simp)),zg]
   by_cases h0:u7 x=0
   .rw[decide_eq_true h0,Bool.not_true,cond_false,cond_false,xG,zg]
    simp only[eA]
    cases (zu m (eJ x)).getD false with
    |true=>rfl
    |false =>
     have ha:=vI m (eJ x) true;rw[cond_false,cond_false,zo (by omega)]
     show(call (yK x) _)=_
     rw[qZ,zg]
     cases mO x with
     |true=>rfl
     |false =>
      exact ih (i+1) _ (by omega) fun y hy=>hb y (by simp[hy])
   .rw[decide_eq_false h0];rfl
 exact this l 0 [] (by simpa using hl) hs
theorem wD(l:List ak)(m1:M1)(m2:M2)(m3:M3)(m4:M5):∃b,zI l m1 m2 m3 m4 []=some b:=by
 have e:GS l m1 m2 m3 m4 []=tS (fun x=>yR x m1 m2 m3 m4 []) l:=rfl
 have h:∀x,∃b,yR x m1 m2 m3 m4 []=some b:=fun x=>by
  unfold yR GD
  cases ((!decide (x.e=1))&&(!decide (x.e=2)))with
  |true=>exact⟨false,rfl⟩
  |false =>
   simp only[cond_false,eA];rw[show GX [] x=some false from rfl,lg];exact⟨_,rfl⟩
 unfold zI;rw[e,tR (p:=fun x=>((yR x m1 m2 m3 m4 []).getD false)) l (fun x _=>by obtain⟨b,hb⟩:=h x;rw[hb];rfl)];exact⟨_,rfl⟩
theorem Gd{α:Type}(l:List α)(hl:l.length<=137438953472):(qa (fun b_5:Bool=>b_5=true->l=[]) fun b_5 =>
 bif b_5 then
  some []
 else
 dZ (([]++l).length<=274877906944) <|
 some ([]++l))=some l:=by
 refine Gq ⟨false,fun h=>by cases h⟩ fun b hb=>?_
 cases b with
 |false=>rw[cond_false,zo (by simp;omega)];rfl
 |true=>rw[hb rfl];rfl
def yT:dX:=[115,116,97,103,101]
def i4(p:dX):Bool:=eR p yT
def oE(M:aj):aj:=⟨M.q,M.i.filter (fun f=>!i4 f.a),M.n,M.m⟩
theorem mw{M:aj}(h:Good M)(q:aa->Bool):Good ⟨M.q,M.i.filter q,M.n,M.m⟩ :=
 { h with
  c2:=Nat.le_trans (length_filter_le _ _) h.c2
  g1:=fun x hx=>h.g1 x (mem_filter.1 hx).1
  g2:=h.g2.filter _
  g3:=fun x hx y hy=>h.g3 x (mem_filter.1 hx).1 y (mem_filter.1 hy).1 }
theorem ot{M:aj}(h:Good M):Good (oE M):=mw h _
theorem oh(p:dX):DB p=some (i4 p):=by
 unfold DB;rw[jE _ _ (by simp),zg];rfl
theorem jI(f:aa):xV f=some (i4 f.a):=by unfold xV;rw[oh,zg]
theorem pH(l:List aa)(i:Nat)(h:i<l.length):l.getD i (aa.mk [] [] false)=l[i]:=by
 rw[getD_eq_getElem?_getD,getElem?_eq_getElem h];rfl
theorem tQ(l:List aa)(hl:l.length<=100000):∃n:Int,zX l=some n /\
  ((n=-1/\∀f∈l,i4 f.a=false)∨∃j:Nat,n=j/\∃h:j<l.length,i4 (l[j]).a=true/\∀f∈l.take j,i4 f.a=false):=by
 unfold zX;obtain⟨N,hN⟩:∃N,ia=N:=⟨_,rfl⟩;have hF:1099511627776<=N:=hN ▸ xz;rw[hN];simp only[ft,take_length]
 have key:∀(m i:Nat),m+i=l.length->(∀f∈l.take i,i4 f.a=false)->∀N,m<N->∃n:Int,
   loopN N (fun t8_31 nx_36 k_35 =>
  bif decide (t8_31<(l.length:Int))then
   dZ (0<=t8_31/\t8_31<(l.length:Int)) <|
   call (xV (aa.mk ((l.getD (t8_31.toNat:Nat) (aa.mk [] [] false)).a) ((l.getD (t8_31.toNat:Nat) (aa.mk [] [] false)).u) ((l.getD (t8_31.toNat:Nat) (aa.mk [] [] false)).w))) fun r_38 =>
   bif r_38 then
    some t8_31
   else
   nx_36 (IntKind.i64.wrap (t8_31+1))
  else
  k_35 t8_31) (i:Int) (fun t8_31=>some (-1))=some n /\
  ((n=-1/\∀f∈l,i4 f.a=false)∨∃j:Nat,n=j/\∃h:j<l.length,i4 (l[j]).a=true/\∀f∈l.take j,i4 f.a=false):=by
  intro m
  induction m with
  |zero =>
   intro i hi hp N hN;obtain⟨N,rfl⟩:∃M,N=M+1:=⟨N-1,by omega⟩;unfold loopN;dsimp only;rw[decide_eq_false (by omega),cond_false];refine⟨-1,rfl,.inl ⟨rfl,?_⟩⟩;rw[show i=l.length by omega,take_length]at hp;exact hp
  |succ m ih =>
   intro i hi hp N hN;obtain⟨N,rfl⟩:∃M,N=M+1:=⟨N-1,by omega⟩
   have hil:i<l.length:=by omega
   unfold loopN;dsimp only;rw[decide_eq_true (by omega),cond_true,zo (by omega),Int.toNat_natCast,pH l i hil,jI,zg];cases hs:i4 (l[i]).a
   .rw[cond_false,jU i (by omega)]
    refine ih (i+1) (by omega) (fun f hf=>?_) N (by omega);rw[take_succ_eq_append_getElem hil]at hf
    rcases mem_append.1 hf with hf|hf
    .exact hp f hf
    .rw[mem_singleton.1 hf];exact hs
   .rw[cond_true]
    exact⟨i,rfl,.inr ⟨i,rfl,hil,hs,hp⟩⟩
 exact key l.length 0 rfl (by simp) N (by omega)
theorem Ko{l:List aa}(h:∀f∈l,i4 f.a=false):l.filter (fun f=>!i4 f.a)=l:=by
 rw[filter_eq_self];intro f hf
 rw[h f hf];rfl
theorem AZ(l:List aa)(hl:l.length<=100000):∃z,zU l=some z/\List.take z.2.1 (List.drop z.1 z.2.2)=l.filter fun f=>!i4 f.a:=by
 obtain⟨n,e,h⟩:=tQ l hl;unfold zU;rw[e,zg]
 rcases h with⟨rfl,h⟩|⟨j,rfl,hj,hs,hp⟩
 .rw[decide_eq_true rfl,cond_true]
  refine⟨_,rfl,?_⟩;simp only[drop_zero,take_length];exact(Ko h).symm
 .rw[decide_eq_false (by omega),cond_false,jU j (by omega)]
  obtain⟨N,hN⟩:∃N,ia=N:=⟨_,rfl⟩;have hF:1099511627776<=N:=hN ▸ xz;rw[hN];simp only[ft]
  have key:∀(m i j:Nat) (o:List aa),m+j=l.length->i<j->o.length=l.length->o.take i=(l.take j).filter (fun f=>!i4 f.a)->o.drop j=l.drop j->∀N,m<N->∃z:Nat×Nat×List aa,
    loopN N (fun s nx_99 k_98 =>
  match s with
  |(i_89,j_90,o0_91) =>
   bif decide (j_90<((List.take l.length o0_91).length:Int))then
    dZ (0<=j_90/\j_90<(l.length:Int)) <|
    dZ (j_90.toNat<o0_91.length) <|
    call (xV (aa.mk ((o0_91.getD (j_90.toNat:Nat) (aa.mk [] [] false)).a) ((o0_91.getD (j_90.toNat:Nat) (aa.mk [] [] false)).u) ((o0_91.getD (j_90.toNat:Nat) (aa.mk [] [] false)).w))) fun r_103 =>
    bif !r_103 then
     dZ (0<=i_89/\i_89<(l.length:Int)) <|
     dZ (i_89.toNat<o0_91.length) <|
     nx_99 (IntKind.i64.wrap (i_89+1),IntKind.i64.wrap (j_90+1),List.set o0_91 (i_89.toNat:Nat) (aa.mk ((o0_91.getD (j_90.toNat:Nat) (aa.mk [] [] false)).a) ((o0_91.getD (j_90.toNat:Nat) (aa.mk [] [] false)).u) ((o0_91.getD (j_90.toNat:Nat) (aa.mk [] [] false)).w)))
    else
    nx_99 (i_89,IntKind.i64.wrap (j_90+1),o0_91)
   else
   k_98 (i_89,j_90,o0_91)) ((i:Int),(j:Int),o) (fun s=>match s with
  |(i_78,j_90,o0_79) =>
   dZ (0<=i_78/\i_78<=(l.length:Int)) <|
   dZ (0<=i_78/\i_78<=(l.length:Int)) <|
   some (0,i_78.toNat,List.take i_78.toNat o0_79++List.replicate (l.length-i_78.toNat) (aa.mk [] [] false)++List.drop (i_78.toNat+(l.length-i_78.toNat)) o0_79))=some z/\List.take z.2.1 (List.drop z.1 z.2.2)=l.filter fun f=>!i4 f.a:=by
   intro m
   induction m with
   |zero =>
    intro i j o hm hij ho ht hd N hN;obtain⟨N,rfl⟩:∃M,N=M+1:=⟨N-1,by omega⟩;unfold loopN;dsimp only;rw[decide_eq_false (by rw[length_take];omega),cond_false,zo (by omega),zo (by omega)];refine⟨_,rfl,?_⟩;simp only[Int.toNat_natCast,drop_zero];rw[append_assoc,take_append_of_le_length (by rw[length_take];omega),take_take,Nat.min_self,ht,show j=l.length by omega,take_length]
   |succ m ih =>
    intro i j o hm hij ho ht hd N hN;obtain⟨N,rfl⟩:∃M,N=M+1:=⟨N-1,by omega⟩
    have hjl:j<l.length:=by omega
    have hjo:j<o.length:=by omega
    have hoj:o[j]=l[j]:=by
     have h1:=drop_eq_getElem_cons hjo;have h2:=drop_eq_getElem_cons hjl;rw[hd,h2]at h1;exact(List.cons.inj h1).1.symm
    have hd':o.drop (j+1)=l.drop (j+1):=by
     have:=congrArg List.tail hd
     simpa using this
    unfold loopN;dsimp only;rw[decide_eq_true (by rw[length_take];omega),cond_true,zo (by omega),zo (by omega),Int.toNat_natCast,pH o j hjo,jI,zg,hoj]
    have htk:(l.take (j+1)).filter (fun f=>!i4 f.a)=(l.take j).filter (fun f=>!i4 f.a)++(if i4 (l[j]).a then []else [l[j]]):=by
     rw[take_succ_eq_append_getElem hjl,filter_append]
     congr 1
     rw[filter_cons,filter_nil]
     cases i4 (l[j]).a <;> rfl
    rw[jU j (by omega)];cases hs:i4 (l[j]).a
    .rw[Bool.not_false,cond_true,zo (by omega),zo (by omega),Int.toNat_natCast,jU i (by omega)]
     refine ih (i+1) (j+1) _ (by omega) (by omega) (by rw[length_set];exact ho) ?_ ?_ N (by omega)
     .rw[htk,hs,<-ht,FW o i _ (by omega)];rfl
     .rw[drop_set_of_lt (by omega)];exact hd'
    .rw[Bool.not_true,cond_false]
     refine ih i (j+1) o (by omega) (by omega) ho ?_ hd' N (by omega)
     rw[htk,hs,ht];simp
  refine key (l.length-(j+1)) j (j+1) l (by omega) (by omega) rfl ?_ rfl N (by omega);rw[take_succ_eq_append_getElem hj,filter_append,Ko hp,filter_cons,hs];simp
theorem ra{M:aj}(h:Good M):Dw M=some (M.q,M.i,M.n,M.m,M.q,M.i,M.n,M.m):=by
 have a1:=h.c1;have a2:=h.c2;have a3:=h.c3;have a4:=h.c4;unfold Dw;rw[show zB M.q=some M.q from Gd M.q (by omega),show GR M.i=some M.i from Gd M.i (by omega),show zB M.n=some M.n from Gd M.n (by omega),show GW M.m=some M.m from Gd M.m (by omega)];rfl
theorem uv{M:aj}(h:Good M):Dd M=some (oE M):=by
 have a2:=h.c2;obtain⟨z,e,hz⟩:=AZ M.i (by omega);unfold Dd;rw[ra h,zg,e,zg,hz];rfl
theorem u2{M:aj}(hM:Good M):Dc M=some (oE M,0):=by
 unfold Dc;rw[DF M hM.fit,zg,(BE M).2 hM,decide_eq_true rfl,Bool.not_true,cond_false,uv hM,zg]
theorem Sc.le{n n':Nat}{m1:M1}{m2:M2}{m3:M3}{m4:M5}{L:Lw}(h:Sc n m1 m2 m3 m4 L)(hn:n<=n'):Sc n' m1 m2 m3 m4 L :=
 ⟨h.l1,h.l3,h.l4,h.n1,h.n3,h.n4,Nat.le_trans h.z1 hn,h.z2.le hn,Nat.le_trans h.z3 hn,Nat.le_trans h.z4 hn⟩
structure FF(c:ai):Prop where
 sm:rL c
 p:c.g.a.length<=300
 d:Sm c.g.u
 s:Sm c.j.Value
theorem Hk{A:Type}{g:dX->Option A}{k j:dX}{x:Option A}{y:A}(h:hP g k x j=some y):(k=j/\x=some y)∨g j=some y:=by
 unfold hP at h;split at h
 .exact .inl ⟨by assumption,h⟩
 .exact .inr h
theorem wL{c:ai}(hc:FF c){L:Lw}(h:Sz L):Sz (fZ c L):=by
 unfold fZ
 have f1:∀{x:Option aa},(∀y,x=some y->y=c.g)->∀k y,hP L.f c.g.a x k=some y->Sm y.u/\y.a=k:=fun hx k y hy=>by
  rcases Hk hy with⟨e,h1⟩|h1
  .rw[hx y h1];exact⟨hc.d,e⟩
  .exact h.f k y h1
 have f2:∀{x:Option ab},(∀y,x=some y->y=c.j)->∀k y,hP L.s c.j.k x k=some y->Sm y.Value/\y.k=k:=fun hx k y hy=>by
  rcases Hk hy with⟨e,h1⟩|h1
  .rw[hx y h1];exact⟨hc.s,e⟩
  .exact h.s k y h1
 have f3:∀{x:Option ah},(∀y,x=some y->y=c.h)->∀k y,hP L.v c.h.o x k=some y->Sm y.a/\y.o=k:=fun hx k y hy=>by
  rcases Hk hy with⟨e,h1⟩|h1
  .rw[hx y h1];exact⟨hc.sm.vp,e⟩
  .exact h.v k y h1
 have g {A:Type} {a:A}:∀y,some a=some y->y=a:=fun y e=>(Option.some.inj e).symm
 have g' {A:Type} {a:A}:∀y,(none:Option A)=some y->y=a:=fun y e=>by cases e
 cases decide (c.e=1)
 .cases decide (c.e=2)
  .cases decide (c.e=3)
   .cases decide (c.e=4)
    .cases decide (c.e=5)
     .exact⟨h.f,h.s,f3 g'⟩
     .exact⟨h.f,h.s,f3 g⟩
    .exact⟨h.f,f2 g',h.v⟩
   .exact⟨h.f,f2 g,h.v⟩
  .exact⟨f1 g',h.s,h.v⟩
 .exact⟨f1 g,h.s,h.v⟩
theorem Ag{x:ak}(h:OkI x)(hx:rq x)(b:Bool):FF (ei ⟨x.e,x.g,x.j,⟨x.h.o,x.h.a,x.h.B,b⟩⟩):=by
 have z:Sm ([]:dX):=Nat.zero_le _;have hp:=h.p
 refine⟨sJ ⟨hx.fp,hx.sp,hx.vp⟩,uw _ (by simp only;omega),?_,?_⟩ <;> unfold ei <;> cases decide (x.e=5) <;> cases decide (x.e=6) <;> first|exact h.sz.d|exact h.sz.s|exact z
structure Mid(n:Nat)(m1:M1)(m2:M2)(m3:M3)(m4:M5)(o:List ai)(nt:List ao)(L:Lw):Prop where
 sc:Sc n m1 m2 m3 m4 L
 sz:Sz L
 on:o.length<=n
 nn:nt.length<=n
 oc:∀c∈o,FF c
theorem Oc(c:ai)(m1:M1)(m2:M2)(m3:M3)(m4:M5)(o:List ai)(nt:List ao):xZ c m1 m2 m3 m4 o nt=Cv c m1 m2 m3 m4 o:=rfl
theorem EG(x:ak)(m1:M1)(m2:M2)(m3:M3)(m4:M5)(o:List ai)(nt:List ao):vT x m1 m2 m3 m4 o nt=ws x m1 m2 m3 m4 o:=rfl
theorem Ji(p:al)(m1:M1)(m2:M2)(m3:M3)(m4:M5)(o:List ai)(nt:List ao):DV p m1 m2 m3 m4 o nt=wc p m1 m3 m4:=rfl
section
variable {n:Nat} {m1:M1} {m2:M2} {m3:M3} {m4:M5} {o:List ai} {nt:List ao} {L:Lw}
theorem Mid.le(h:Mid n m1 m2 m3 m4 o nt L){n':Nat}(hn:n<=n'):Mid n' m1 m2 m3 m4 o nt L:=⟨h.sc.le hn,h.sz,Nat.le_trans h.on hn,Nat.le_trans h.nn hn,h.oc⟩
theorem Mid.do(h:Mid n m1 m2 m3 m4 o nt L)(hn:n<=34359738368){c:ai}(hc:FF c):∃a b d e,Cv c m1 m2 m3 m4 o=some (a,b,d,e,o++[c])/\Mid (n+301) a b d e (o++[c]) nt (fZ c L):=by
 obtain⟨a,b,d,e,h1,h2⟩:=Fl h.sc hn c hc.p o (Nat.le_trans h.on hn);have ho:=h.on;have hn':=h.nn
 exact⟨a,b,d,e,h1,h2,wL hc h.sz,by rw[length_append,length_singleton];omega,by omega,fun x hx=>by
  rcases mem_append.1 hx with hx|hx
  .exact h.oc x hx
  .rw[mem_singleton.1 hx];exact hc⟩
theorem Mid.put(h:Mid n m1 m2 m3 m4 o nt L)(hn:n<=34359738368){x:ak}(hx:OkI x)(hs:rq x):∃a b d e,ws x m1 m2 m3 m4 o=some (a,b,d,e,o++[ei (ff L x)])/\Mid (n+301) a b d e (o++[ei (ff L x)]) nt (fZ (ei (ff L x)) L):=by
 obtain⟨a,b,d,e,h1,h2⟩:=h.do hn (c:=ei (ff L x)) (Ag hx hs _);refine⟨a,b,d,e,?_,h2⟩;unfold ws;simp only[eA,h.sc.l4,JZ,zg]
 show call (Cv (ei (ff L x)) m1 m2 m3 m4 o) _=_
 rw[h1];rfl
theorem Mid.note(h:Mid n m1 m2 m3 m4 o nt L)(hn:n<=34359738368)(k:Int)(p:dX):vU k p m1 m2 m3 m4 o nt=some (nt++[⟨k,p⟩])/\Mid (n+301) m1 m2 m3 m4 o (nt++[⟨k,p⟩]) L:=by
 have hn':=h.nn;have h':=h.le (n':=n+301) (by omega);refine⟨?_,h'.sc,h'.sz,h'.on,by rw[length_append,length_singleton];omega,h'.oc⟩;unfold vU;rw[zo (by rw[length_append,length_singleton];omega)]
end
def Go1(n:Nat)(m:Option (M1×M2×M3×M5×List ai×List ao)):Prop:=∃a b d e o nt L,m=some (a,b,d,e,o,nt)/\Mid n a b d e o nt L
theorem Go1.of{n:Nat}{a:M1}{b:M2}{d:M3}{e:M5}{o:List ai}{nt:List ao}{L:Lw}(h:Mid n a b d e o nt L):Go1 n (some (a,b,d,e,o,nt)):=⟨a,b,d,e,o,nt,L,rfl,h⟩
section
variable {n:Nat} {m1:M1} {m2:M2} {m3:M3} {m4:M5} {o:List ai} {nt:List ao} {L:Lw}
theorem v7(h:Mid n m1 m2 m3 m4 o nt L)(hn:n<=34359000000){x:ak}(hx:OkI x)(hs:rq x)(w:ae)(tk:List (al×Bool)):Go1 (n+602) (DS x w false m1 m2 m3 m4 o nt tk):=by
 have hp:=hx.p;unfold DS;simp only[eA]
 cases (zu m1 x.g.a).isSome with
 |false =>
  rw[Bool.not_false,cond_true,EG];obtain⟨a,b,d,e,h1,h2⟩:=h.put (by omega) hx hs;rw[h1,zg,cond_false];exact Go1.of (h2.le (by omega))
 |true =>
  rw[Bool.not_true,cond_false]
  cases ((decide ((((zu m1 x.g.a).getD (aa.mk [] [] false)).a)=x.g.a))&&((decide ((((zu m1 x.g.a).getD (aa.mk [] [] false)).u)=x.g.u))&&(decide ((((zu m1 x.g.a).getD (aa.mk [] [] false)).w)=x.g.w))))with
  |true=>exact Go1.of (h.le (by omega))
  |false =>
   simp only[cond_false,J4,Bool.false_and,ft]
   suffices hb:∃a b d e o' L',DL x.g m1 m2 m3 m4 o nt tk=some (a,b,d,e,o')/\Mid (n+301) a b d e o' nt L' by
    obtain⟨a,b,d,e,o',L',h1,h2⟩:=hb;rw[h1,zg];obtain⟨h3,h4⟩:=h2.note (by omega) 4 ((zu m1 x.g.a).getD (aa.mk [] [] false)).a;rw[h3,zg];exact Go1.of (h4.le (by omega))
   have hl:(x.g.a++([46,110,101,119]:dX)).length<=204:=by rw[length_append];simp;omega
   unfold DL;rw[zo (by omega)];simp only[eA];rw[yO _ (by have:=hl;omega),zg];generalize (((fE (x.g.a++([46,110,101,119]:dX))&&!(zu m1 (x.g.a++([46,110,101,119]:dX))).isSome)&&decide ((zu m2 (x.g.a++([46,110,101,119]:dX))).getD 0=0))&&!(zu tk (al.mk 1 (x.g.a++([46,110,101,119]:dX)))).getD false)=q
   cases q with
   |false=>exact⟨_,_,_,_,_,L,rfl,h.le (by omega)⟩
   |true =>
    rw[cond_true,Oc];have z:Sm ([]:dX):=Nat.zero_le _;obtain⟨a,b,d,e,h1,h2⟩:=h.do (by omega) (c:=ai.mk 1 (aa.mk (x.g.a++([46,110,101,119]:dX)) x.g.u x.g.w) (ab.mk [] []) (ah.mk [] [] false false)) ⟨⟨by unfold Sm;simp only;omega,z,z⟩,by simp only;omega,hx.sz.d,z⟩;rw[h1,zg];exact⟨_,_,_,_,_,_,rfl,h2⟩
theorem uC(h:Mid n m1 m2 m3 m4 o nt L)(hn:n<=34359000000){x:ak}(hx:OkI x)(hs:rq x)(w:ae)(tk:List (al×Bool)):Go1 (n+602) (DT x w false m1 m2 m3 m4 o nt tk):=by
 unfold DT;rw[xG,zg,Ji,oV h.sc h.sz,zg,j5 x hx.sz,lg]
 have hput:Go1 (n+602) (call (vT x m1 m2 m3 m4 o nt) fun r=>some (r.1,r.2.1,r.2.2.1,r.2.2.2.1,r.2.2.2.2,nt)):=by
  rw[EG];obtain⟨a,b,d,e,h1,h2⟩:=h.put (by omega) hx hs;rw[h1,zg];exact Go1.of (h2.le (by omega))
 have hid:Go1 (n+602) (some (m1,m2,m3,m4,o,nt)):=Go1.of (h.le (by omega));simp only
 cases decide (x.e=3)with
 |true =>
  rw[cond_true];obtain⟨a,b,d,e,o',nt',L',h1,h2⟩:=v7 h hn hx hs w tk;rw[h1,zg];exact Go1.of h2
 |false =>
  rw[cond_false]
  cases decide (x.e=4)with
  |true =>
   rw[cond_true]
   cases (fG L (eJ x)).isSome with
   |false=>exact hput
   |true=>exact hid
  |false =>
   rw[cond_false]
   cases decide (x.e=5)with
   |true =>
    rw[cond_true];simp only[Bool.false_and,Bool.or_false]
    cases ((fG L (eJ x)).isSome&&decide ((fG L (eJ x)).getD (hQ [])=(bif (fG L (eJ x)).isSome then sK x else [])))with
    |true=>exact hid
    |false =>
     rw[cond_false]
     cases (fG L (eJ x)).isSome with
     |false=>exact hput
     |true =>
      rw[Bool.not_true,cond_false];obtain⟨h3,h4⟩:=h.note (by omega) 5 (eJ x).y;rw[h3,zg];exact Go1.of (h4.le (by omega))
   |false =>
    rw[cond_false];simp only[Bool.false_and,cond_false,ft]
    cases ((fG L (eJ x)).isSome&&decide ((fG L (eJ x)).getD (hQ [])=(bif (fG L (eJ x)).isSome then sK x else [])))with
    |true=>exact hid
    |false=>exact hput
end
structure xA(M:aj)(o:dX)(l:List ak)(r:aq):Prop where
 nm:g8 o=true
 it:∀x∈l,OkI x
 e0:∀x∈l,u7 x=0
 nd:(l.map eJ).Nodup
 ln:l.length<=5000
 kp:r.D=⟨j8 (l.map (fj o))⟩
 ek:pO r.D=0
 cs:∀c∈r.E,FF c
 cl:r.E.length<=10000000
 ap:(gM r.E M).2=0
theorem pF{o:dX}{x:ak}(h:OkI x)(hs:rq x)(hn:∀y:dX,y=lZ x->Sm y):FH (fj o x):=by
 refine⟨hn _ rfl,?_⟩;unfold fj;cases decide (x.e=3)
 .exact Nat.zero_le _
 .exact h.sz.d
theorem pm{m:Option (aq×Int)}{P:aq×Int->Prop}(h:Ends m P):∃r e,m=some (r,e)/\P (r,e):=by
 obtain⟨⟨r,e⟩,h1,h2⟩:=h;exact⟨r,e,h1,h2⟩
theorem u3{M:aj}(hM:Good M)(o:dX)(l:List ak)(how:au)(hl:l.length<=16384)(hs:∀x∈l,rq x)(hv:∀x∈l,Sm x.h.o) :
  ∃r e,Dk M ⟨[]⟩ o l how=some (r,e)/\(e=0->xA M o l r):=by
 have ew:∀{e:Int},¬ e=0->∃r e',(some ((aq.mk [] (am.mk []) []),e):Option (aq×Int))=some (r,e')/\(e'=0->xA M o l r):=fun {e} h=>⟨_,e,rfl,fun h'=>absurd h' h⟩
 have hk0:rX ⟨[]⟩=some 0:=by rw[F9 _ (by simp)];rfl
 obtain⟨m1,m2,m3,m4,hsc,hSc⟩:=Im hM;obtain⟨bl,hbl⟩:=wD l m1 m2 m3 m4
 have hboth:vh M ⟨[]⟩=some 0:=by
  unfold vh
  rw[DF M hM.fit,(BE M).2 hM,zg,hk0];rfl
 have hbf:DI M ⟨[]⟩ o l how=some (bif !g8 o then 5 else bif decide (5000<(l.length:Int))then 4 else bif !decide (qI [] l=0)then qI [] l else bif !how.F&&bl then 11 else 0):=by
  unfold DI;rw[hboth,zg]
  show(call (oP o) _)=_
  rw[xW,zg]
  cases g8 o with
  |false=>rfl
  |true =>
   simp only[Bool.not_true,cond_false]
   cases decide (5000<(l.length:Int))with
   |true=>rfl
   |false =>
    simp only[cond_false];rw[LR o l (by omega) hs,zg]
    by_cases h0:qI [] l=0
    .rw[h0]
     show(call (rI M) _)=some (bif !how.F&&bl then(11:Int)else 0)
     rw[hsc,zg]
     show callG (!how.F) (zI l m1 m2 m3 m4 []) false _=_
     rw[hbl,lg]
     cases how.F <;> cases bl <;> rfl
    .rw[decide_eq_false h0];rfl
 unfold Dk;rw[hbf,zg]
 by_cases hz:(bif !g8 o then 5 else bif decide (5000<(l.length:Int))then 4 else bif !decide (qI [] l=0)then qI [] l else bif !how.F&&bl then 11 else 0:Int)=0
 case neg=>rw[decide_eq_false hz];exact ew hz
 rw[hz]
 have hnm:g8 o=true:=by
  cases h:g8 o with
  |true=>rfl
  |false=>rw[h]at hz;cases hz
 rw[hnm,Bool.not_true,cond_false]at hz
 have hln:l.length<=5000:=by
  cases h:decide (5000<(l.length:Int))with
  |true=>rw[h]at hz;cases hz
  |false=>have:=of_decide_eq_false h;omega
 rw[decide_eq_false (by omega),cond_false]at hz
 have hit:qI [] l=0:=by
  by_cases h:qI [] l=0
  .exact h
  .rw[decide_eq_false h,Bool.not_false,cond_true]at hz;exact absurd hz h
 obtain⟨hi1,hnd⟩:=mo hit
 have hok:∀x∈l,OkI x:=fun x hx=>wV (hi1 x hx).1
 show ∃r e,(call (rI M) _)=some (r,e)/\(e=0->xA M o l r)
 rw[hsc,zg]
 show ∃r e,(call (rV ⟨[]⟩ o) _)=some (r,e)/\(e=0->xA M o l r)
 rw[show rV ⟨[]⟩ o=some []from rfl,zg,show yQ []=some []from rfl,zg,jo ⟨[]⟩ o (by simp),zg];simp only[ft];refine pm (P:=fun z=>z.2=0->xA M o l z.1) ?_;refine oO (fun i r s=>s.1.length<=i/\s.2.length<=i/\i+r.length=l.length) (fun i s hi=>?_) (fun i x r s nx hi hnx=>?_) l 0 ([],[]) ⟨by simp,by simp,by simp⟩
 .obtain⟨mk,mt⟩:=s
  simp only;refine oO (fun(i:Nat) (r:List ae) (s:M1×M2×M3×M5×List ai×List ao)=>r=[]/\s=(m1,m2,m3,m4,[],[])) (fun i s hi=>?_) (fun i x r s nx hi hnx=>absurd hi.1 (by simp)) [] 0 _ ⟨rfl,rfl⟩;obtain⟨-,rfl⟩:=hi;simp only;have hmid:Mid 400000 m1 m2 m3 m4 [] [] (gv M):=⟨hSc,Sz.good hM,by simp,by simp,by simp⟩;refine oO (fun(i:Nat) (r:List ak) (s:M1×M2×M3×M5×List ai×List ao×List ae)=>∃a L,l=a++r/\a.length=i/\Mid (400000+602*i) s.1 s.2.1 s.2.2.1 s.2.2.2.1 s.2.2.2.2.1 s.2.2.2.2.2.1 L/\s.2.2.2.2.2.2=a.map (fj o)) (fun i s hi=>?_) (fun i x r s nx hi hnx=>?_) l 0 (m1,m2,m3,m4,[],[],[]) ⟨[],gv M,rfl,rfl,hmid,rfl⟩
  .obtain⟨a,L,e,hl',hm,hh⟩:=hi
   rw[append_nil]at e;subst e;obtain⟨a1,a2,a3,a4,oc,nt,hd⟩:=s;simp only at hm hh|-;subst hh
   have hdn:((iy ⟨[]⟩ o++l.map (fj o)).map fun h=>(h.t,fB h)).Nodup:=by
    show((l.map (fj o)).map fun h=>(h.t,fB h)).Nodup
    rw[map_map]
    have:(fun h:ae=>(h.t,fB h))∘fj o=fun x=>(o,eJ x):=rfl
    rw[this]
    have h2:(l.map eJ).map (fun p=>(o,p))=l.map fun x=>(o,eJ x):=by rw[map_map];rfl
    rw[<-h2];exact pairwise_map.2 (List.Pairwise.imp (fun hne e=>hne (Prod.mk.inj e).2) hnd)
   rw[mj ⟨[]⟩ o _ (by simp) (by rw[length_map];omega) hdn,zg]
   show Ends (call (DM M ⟨j8 (l.map (fj o))⟩ a1 a2 a3 a4 oc nt) _) _
   have hsm:∀h∈(⟨j8 (l.map (fj o))⟩:am).r,FH h:=fun h hh=>by
    obtain⟨x,hx,rfl⟩:=mem_map.1 ((vN _).mem_iff.1 hh)
    refine pF (hok x hx) (hs x hx) fun y hy=>?_
    rw[hy];unfold lZ;cases decide (x.e=5)
    .cases decide (x.e=6)
     .exact(hs x hx).fp
     .exact hv x hx
    .exact(hs x hx).sp
   have hoc:=hm.on;unfold DM;rw[BN hM oc (fun c hc=>(hm.oc c hc).sm) (by omega),zg]
   by_cases ha:(gM oc M).2=0
   .rw[ha]
    show Ends (call (call (rX _) _) _) _
    rw[F9 _ hsm,zg]
    by_cases hk:pO ⟨j8 (l.map (fj o))⟩=0
    .rw[hk]
     exact⟨_,rfl,fun _=>⟨hnm,hok,fun x hx=>(hi1 x hx).1,hnd,hln,rfl,hk,hm.oc,by simp only;omega,ha⟩⟩
    .rw[decide_eq_false hk]
     exact⟨_,rfl,fun h=>absurd h hk⟩
   .rw[decide_eq_false ha]
    exact⟨_,rfl,fun h=>absurd h ha⟩
  .obtain⟨a,L,e,hl',hm,hh⟩:=hi
   have hlen:=congrArg List.length e;simp only[length_append,length_cons]at hlen;obtain⟨a1,a2,a3,a4,oc,nt,hd⟩:=s;simp only at hm hh|-;subst hh
   have hx:x∈l:=by rw[e];simp
   rw[xG,zg]
   show Ends (eA (zu [] (eJ x)) _) _
   simp only[eA,zu,Option.isSome_none,Bool.false_and];obtain⟨b1,b2,b3,b4,oc',nt',L',h1,h2⟩:=uC hm (by omega) (hok x hx) (hs x hx) ((none:Option ae).getD (ae.mk [] 0 [] [] [])) mt;rw[h1,zg,tK o x (hok x hx).sz,zg,zo (by rw[length_append,length_map,length_singleton];omega)];exact hnx _ ⟨a++[x],L',by rw[e];simp,by simp[hl'],h2.le (by omega),by simp⟩
 .obtain⟨h1,h2,h3⟩:=hi
  obtain⟨mk,mt⟩:=s;simp only[length_cons]at h1 h2 h3|-;have q1:=vI mk (eJ x) (0:Int);have q2:=vI mt (eJ x) true;have q3:=vI mk (eJ x) x.e;rw[xG,zg,zg,zo (by omega),zo (by omega)];exact hnx _ ⟨by simp only;omega,by simp only;omega,by omega⟩
theorem jd(k:am)(o:dX)(hn:k.r.length<=1073741824):rV k o=some (Ls k o):=by
 unfold rV;rw[ft]
 have:∀(b:List ae) (i:Nat) (m:List ae),m.length+b.length<=1073741824->forL b i (fun i_27 h_29 (o1_22:List ae) nx_26 (k_25:List ae->Option (List ae)) =>
  bif decide (h_29.t=o)then
   dZ ((o1_22++[h_29]).length<=274877906944) <|
   nx_26 (o1_22++[h_29])
  else
  nx_26 o1_22) m (fun o1_22=>some o1_22)=some (m++b.filter fun h=>decide (h.t=o)):=by
  intro b
  induction b with
  |nil=>intro i m _;simp[forL]
  |cons x b ih =>
   intro i m hm;simp only[length_cons]at hm;unfold forL;rw[filter_cons]
   show(bif decide (x.t=o)then dZ ((m++[x]).length<=274877906944) _ else _)=_
   cases decide (x.t=o)with
   |true =>
    rw[cond_true,zo (by rw[length_append,length_singleton];omega)];refine(ih (i+1) _ (by rw[length_append,length_singleton];omega)).trans ?_;simp
   |false=>exact ih (i+1) m (by omega)
 exact this k.r 0 [] (by simpa using hn)
def yw(k:Int):Bool:=(decide (k=1)||decide (k=2))||decide (k=6)
theorem lw(k:Int):BS k=some (yw k):=rfl
theorem su(k:Int):1<=eW k+1/\eW k+1<=3:=by have:=nN k;omega
def il(L:Lw)(o:dX)(x:ak):Bool:=decide (gP L (fj o x)=3)||(yw x.e&&decide (gP L (fj o x)=2))
def fV(o:dX):Lw->List ak->List ai
 |_,[]=>[]
 |L,x::l=>bif il L o x then ei (ff L x)::fV o (fZ (ei (ff L x)) L) l else fV o L l
theorem nX{L L':Lw}{h:ae}(e:fG L (fB h)=fG L' (fB h)):gP L h=gP L' h:=by unfold gP;rw[e]
theorem FV(o:dX)(p:al)(hp:1<=p.C/\p.C<=3):∀(l:List ak) (L:Lw),(∀y∈l,p≠eJ y)->fG (qd (fV o L l) L) p=fG L p
 |[],L,_=>rfl
 |x::l,L,h=>by
  unfold fV
  cases il L o x with
  |true =>
   show fG (qd (fV o (fZ (ei (ff L x)) L) l) (fZ (ei (ff L x)) L)) p=_
   rw[FV o p hp l _ fun y hy=>h y (by simp[hy]),Hx L x p (h x (by simp)) hp]
  |false=>exact FV o p hp l _ fun y hy=>h y (by simp[hy])
theorem n8(o:dX):∀(l:List ak) (L:Lw),(l.map eJ).Nodup->∀x∈l,fG (qd (fV o L l) L) (eJ x)=bif il L o x then some (sK x)else fG L (eJ x)
 |[],L,_,x,hx=>by cases hx
 |y::l,L,hn,x,hx=>by
  rw[map_cons,nodup_cons]at hn
  have hb:∀z,1<=(eJ z).C/\(eJ z).C<=3:=fun z=>su z.e
  rcases mem_cons.1 hx with hx|hx
  .rw[hx]
   have hne:∀z∈l,eJ y≠eJ z:=fun z hz e=>hn.1 (mem_map.2 ⟨z,hz,e.symm⟩)
   unfold fV
   cases il L o y with
   |true =>
    show fG (qd (fV o (fZ (ei (ff L y)) L) l) (fZ (ei (ff L y)) L)) _=_
    rw[FV o _ (hb y) l _ hne,Ak];rfl
   |false=>exact FV o _ (hb y) l _ hne
  .have hne:eJ x≠eJ y:=fun e=>hn.1 (mem_map.2 ⟨x,hx,e⟩)
   unfold fV
   cases il L o y with
   |true =>
    show fG (qd (fV o (fZ (ei (ff L y)) L) l) (fZ (ei (ff L y)) L)) _=_
    have e:=Hx L y (eJ x) hne (hb x);rw[n8 o l _ hn.2 x hx,e]
    have:il (fZ (ei (ff L y)) L) o x=il L o x:=by
     unfold il;rw[nX (show fG (fZ (ei (ff L y)) L) (fB (fj o x))=fG L (fB (fj o x))from e)]
    rw[this]
   |false=>exact n8 o l _ hn.2 x hx
theorem qC(L:Lw)(x:ak)(p:dX)(h:(⟨1,p⟩:al)≠eJ x):(fZ (ei (ff L x)) L).f p=L.f p:=by
 unfold ei fZ ff;unfold eJ lZ eW at h
 cases h5:decide (x.e=5)with
 |true=>simp
 |false =>
  rw[h5]at h
  cases h6:decide (x.e=6)with
  |true=>simp
  |false =>
   rw[h6]at h
   have:¬ x.g.a=p:=fun e=>h (by rw[<-e];rfl)
   simp[hP,this]
theorem HQ(o:dX)(p:dX):∀(l:List ak) (L:Lw),(∀y∈l,(⟨1,p⟩:al)=eJ y->il L o y=false)->(l.map eJ).Nodup->(qd (fV o L l) L).f p=L.f p
 |[],L,_,_=>rfl
 |x::l,L,h,hn=>by
  rw[map_cons,nodup_cons]at hn;unfold fV
  cases hx:il L o x with
  |true =>
   have hne:(⟨1,p⟩:al)≠eJ x:=fun e=>by rw[h x (by simp) e]at hx;cases hx
   show(qd (fV o (fZ (ei (ff L x)) L) l) (fZ (ei (ff L x)) L)).f p=_
   rw[HQ o p l _ (fun y hy e=>?_) hn.2,qC L x p hne];have e2:=Hx L x (eJ y) (fun e'=>hne (e.trans e')) (su y.e)
   have:il (fZ (ei (ff L x)) L) o y=il L o y:=by
    unfold il;rw[nX (show fG (fZ (ei (ff L x)) L) (fB (fj o y))=fG L (fB (fj o y))from e2)]
   rw[this];exact h y (by simp[hy]) e
  |false=>exact HQ o p l _ (fun y hy e=>h y (by simp[hy]) e) hn.2
theorem wr(M:aj){x:ak}(hx:OkI x)(L:Lw):(gC (ei (ff L x)) M).1=0∨(gC (ei (ff L x)) M).1=11∨(gC (ei (ff L x)) M).1=4:=by
 have he:kQ (ei (ff L x))=0:=by
  have h:=hx.c;rw[kP]at h|-;rw[<-h];unfold ei ff ny gk fu k8
  cases decide (x.e=5) <;> cases decide (x.e=6) <;> rfl
 have hk:(ei (ff L x)).e=1∨(ei (ff L x)).e=3∨(ei (ff L x)).e=5:=by
  unfold ei
  cases decide ((ff L x).e=5) <;> cases decide ((ff L x).e=6) <;> simp
 unfold gC;rw[decide_eq_true he,Bool.not_true,cond_false]
 rcases hk with e|e|e
 all_goals simp only[e,FP,cond_true,cond_false]
 .cases M.i.any (u5 (ei (ff L x)).g.a)with
  |true=>exact .inr (.inl rfl)
  |false =>
   rw[cond_false]
   cases !(ic M.i (ei (ff L x)).g.a).isSome&&decide (2000<=(M.i.length:Int))with
   |true=>exact .inr (.inr rfl)
   |false=>exact .inl rfl
 .cases !(tx M.n (ei (ff L x)).j.k).isSome&&decide (2000<=(M.n.length:Int))with
  |true=>exact .inr (.inr rfl)
  |false=>exact .inl rfl
 .cases !(tw M.m (ei (ff L x)).h.o).isSome&&decide (100<=(M.m.length:Int))with
  |true=>exact .inr (.inr rfl)
  |false=>exact .inl rfl
theorem nW(c:ai)(l:List ai)(M:aj):(gM (c::l) M).2=bif !decide ((gC c M).1=0)then(gC c M).1 else(gM l (gC c M).2).2:=by
 show(bif !decide ((gC c M).1=0)then(th,(gC c M).1)else gM l (gC c M).2).2=_
 cases decide ((gC c M).1=0) <;> rfl
theorem kj(o:dX):∀(l:List ak) (L:Lw) (M:aj),(∀x∈l,OkI x)->(gM (fV o L l) M).2=0∨(gM (fV o L l) M).2=11∨(gM (fV o L l) M).2=4
 |[],L,M,_=>.inl rfl
 |x::l,L,M,h=>by
  unfold fV
  cases il L o x with
  |true =>
   rw[cond_true,nW]
   rcases wr M (h x (by simp)) L with e|e|e
   .rw[e]
    exact kj o l _ _ fun y hy=>h y (by simp[hy])
   .rw[e];exact .inr (.inl rfl)
   .rw[e];exact .inr (.inr rfl)
  |false=>exact kj o l _ _ fun y hy=>h y (by simp[hy])
section
variable {M:aj} {o:dX} {l:List ak} {r:aq} (hB:xA M o l r) (hs:∀x∈l,rq x) (hv:∀x∈l,Sm x.h.o)
include hB hs hv
theorem pC:∀h∈r.D.r,FH h:=fun h hh=>by
 rw[hB.kp]at hh;obtain⟨x,hx,rfl⟩:=mem_map.1 ((vN _).mem_iff.1 hh)
 refine pF (hB.it x hx) (hs x hx) fun y hy=>?_
 rw[hy];unfold lZ;cases decide (x.e=5)
 .cases decide (x.e=6)
  .exact(hs x hx).fp
  .exact hv x hx
 .exact(hs x hx).sp
omit hs hv in
theorem Ho{h:ae}:h∈r.D.r↔∃x∈l,fj o x=h:=by
 rw[hB.kp];simp only;rw[(vN _).mem_iff,mem_map]
omit hs hv in
theorem Hm:r.D.r.length<=5000:=by
 rw[hB.kp];simp only;rw[(vN _).length_eq,length_map];exact hB.ln
omit hs hv in
theorem pA:Ls r.D o=r.D.r:=filter_eq_self.2 fun h hh=>by
 obtain⟨x,_,rfl⟩:=(Ho hB).1 hh;exact decide_eq_true rfl
omit hs hv in
theorem wU:(r.D.r.map fB).Nodup:=by
 rw[hB.kp];simp only;rw[((vN (l.map (fj o))).map fB).nodup_iff,map_map];exact hB.nd
omit hs hv in
theorem r8{x:ak}(hx:x∈l):zu (qK r.D.r []) (eJ x)=some (fj o x):=AU (wU hB) ((Ho hB).2 ⟨x,hx,rfl⟩)
theorem pY{N:aj}(hN:Good N):vh N r.D=some 0:=by
 unfold vh;rw[DF N hN.fit,(BE N).2 hN,zg]
 show(call (rX r.D) _)=_
 rw[F9 _ (pC hB hs hv),hB.ek];rfl
theorem wz{N:aj}(hN:Good N)(h0:l≠[]):CZ N r.D o=some 0:=by
 unfold CZ;have hl:=Hm hB;rw[pY hB hs hv hN,zg]
 show(call (oP o) _)=_
 rw[xW,hB.nm,zg]
 show(call (rV r.D o) _)=_
 rw[jd _ _ (by omega),zg,pA hB]
 have:¬ ((r.D.r.length:Int)=0):=by
  rw[hB.kp];simp only;rw[(vN _).length_eq,length_map]
  cases l with
  |nil=>exact absurd rfl h0
  |cons x l=>simp only[length_cons];omega
 rw[decide_eq_false this];rfl
theorem rt{N:aj}(hN:Good N)(h0:l≠[]):∃f e,Da N r.D o l=some (f,e)/\((e=0/\f.E=fV o (gv N) l/\(gM f.E N).2=0/\(∀c∈f.E,rL c)/\f.E.length<=10000000)∨e=11∨e=4):=by
 obtain⟨m1,m2,m3,m4,hsc,hSc⟩:=Im hN;have hl:=Hm hB;have hln:=hB.ln;unfold Da;rw[wz hB hs hv hN h0,zg]
 show ∃f e,(call (rV r.D o) _)=some (f,e)/\_
 rw[jd _ _ (by omega),zg,pA hB,oq _ (by omega),zg];simp only[ft];refine pm (P:=fun z=>(z.2=0/\z.1.E=fV o (gv N) l/\(gM z.1.E N).2=0/\(∀c∈z.1.E,rL c)/\z.1.E.length<=10000000)∨z.2=11∨z.2=4) ?_;refine oO (fun i r s=>∀x∈r,x∈l) (fun i s hi=>?_) (fun i x rs s nx hi hnx=>?_) l 0 () (fun x hx=>hx)
 .rw[hsc,zg]
  simp only;have hmid:Mid 400000 m1 m2 m3 m4 [] [] (gv N):=⟨hSc,Sz.good hN,by simp,by simp,by simp⟩;refine oO (fun(i:Nat) (rs:List ak) (s:M1×M2×M3×M5×List ai)=>∃a L,l=a++rs/\a.length=i/\Mid (400000+602*i) s.1 s.2.1 s.2.2.1 s.2.2.2.1 s.2.2.2.2 [] L/\s.2.2.2.2++fV o L rs=fV o (gv N) l) (fun i s hi=>?_) (fun i x rs s nx hi hnx=>?_) l 0 (m1,m2,m3,m4,[]) ⟨[],gv N,rfl,rfl,hmid,rfl⟩
  .obtain⟨a,L,e,hl',hm,hh⟩:=hi
   rw[append_nil]at e;subst e;obtain⟨a1,a2,a3,a4,oc⟩:=s;simp only[fV,append_nil]at hm hh|-;subst hh;have hcl:GQ r.D.r=some r.D.r:=HK _ (by omega);rw[hcl,zg];have hoc:=hm.on;unfold GN;rw[BN hN _ (fun c hc=>(hm.oc c hc).sm) (by omega),zg]
   rcases kj o l (gv N) N hB.it with e|e|e
   .rw[e]
    show Ends (call (call (rX r.D) _) _) _
    rw[F9 _ (pC hB hs hv),hB.ek];exact⟨_,rfl,.inl ⟨rfl,rfl,e,fun c hc=>(hm.oc c hc).sm,by simp only;omega⟩⟩
   .rw[e];exact⟨_,rfl,.inr (.inl rfl)⟩
   .rw[e];exact⟨_,rfl,.inr (.inr rfl)⟩
  .obtain⟨a,L,e,hl',hm,hh⟩:=hi
   have hlen:=congrArg List.length e;simp only[length_append,length_cons]at hlen;obtain⟨a1,a2,a3,a4,oc⟩:=s;simp only at hm hh|-
   have hx:x∈l:=by rw[e];simp
   have hst:GH (fj o x) a1 a2 a3 a4 oc=some (gP L (fj o x)):=je hm.sc hm.sz _;rw[xG,zg];simp only[eA,r8 hB hx,Option.getD_some];rw[hst,zg,lw,lg]
   have hnb:(decide (gP L (fj o x)=3)||((bif !decide (gP L (fj o x)=3)then yw x.e else false)&&decide (gP L (fj o x)=2)))=il L o x:=by
    unfold il
    cases decide (gP L (fj o x)=3) <;> rfl
   rw[hnb];rw[show fV o L (x::rs)=(bif il L o x then ei (ff L x)::fV o (fZ (ei (ff L x)) L) rs else fV o L rs)from rfl]at hh
   cases hq:il L o x with
   |true =>
    rw[hq,cond_true]at hh;rw[cond_true];obtain⟨b1,b2,b3,b4,h1,h2⟩:=hm.put (by omega) (hB.it x hx) (hs x hx)
    show Ends (call (ws x a1 a2 a3 a4 oc) _) _
    rw[h1,zg];exact hnx _ ⟨a++[x],_,by rw[e];simp,by simp[hl'],h2.le (by omega),by rw[<-hh];simp⟩
   |false =>
    rw[hq,cond_false]at hh;exact hnx _ ⟨a++[x],L,by rw[e];simp,by simp[hl'],hm.le (by omega),hh⟩
 .have hx:=hi x (by simp)
  have ho:=hB.e0 x hx;rw[jS x (hs x hx),ho,zg]
  show Ends (call (nG x) _) _
  rw[xG,zg];simp only[eA,r8 hB hx,Option.isSome_some,Option.getD_some];rw[j5 x (hB.it x hx).sz,zg];rw[show decide ((fj o x).e=x.e)=true from decide_eq_true rfl,show decide ((fj o x).x=sK x)=true from decide_eq_true rfl]
  exact hnx () fun y hy=>hi y (by simp[hy])
end
def badA(L:Lw)(h:ae):Bool:=(yw h.e&&!decide (gP L h=1))||(decide (h.e=3)&&decide (gP L h=3))
def yi(L:Lw)(l:List ae):List ar:=(l.filter (badA L)).map fun h=>⟨h.t,h.a,h.e,gP L h⟩
theorem u4{N:aj}(hN:Good N)(k:am)(hk:vh N k=some 0)(hn:k.r.length<=1073741824):Dj N k=some (yi (gv N) k.r,0):=by
 obtain⟨m1,m2,m3,m4,hsc,hSc⟩:=Im hN
 have hst:∀h,Ck h m1 m2 m3 m4=some (gP (gv N) h):=fun h=>je hSc (Sz.good hN) h
 unfold Dj;rw[hk,zg]
 show(call (rI N) _)=_
 rw[hsc,zg,ft];simp only
 have:∀(b:List ae) (i:Nat) (m:List ar),m.length+b.length<=1073741824->forL b i (fun i_39 h_41 (o8_32:List ar) nx_38 (k_37:List ar->Option (List ar×Int)) =>
  call (Ck h_41 m1 m2 m3 m4) fun r_42 =>
  call (BS h_41.e) fun r_43 =>
  bif ((r_43&&(!decide (r_42=1)))||((decide (h_41.e=3))&&(decide (r_42=3))))then
   dZ ((o8_32++[(ar.mk h_41.t h_41.a h_41.e r_42)]).length<=274877906944) <|
   nx_38 (o8_32++[(ar.mk h_41.t h_41.a h_41.e r_42)])
  else
  nx_38 o8_32) m (fun o8_32=>some (o8_32,0))=some (m++yi (gv N) b,0):=by
  intro b
  induction b with
  |nil=>intro i m _;simp[forL,yi]
  |cons x b ih =>
   intro i m hm;simp only[length_cons]at hm;unfold forL
   show call (Ck x m1 m2 m3 m4) _=_
   rw[hst,zg,lw,zg]
   have ea:yi (gv N) (x::b)=(if badA (gv N) x=true then [⟨x.t,x.a,x.e,gP (gv N) x⟩]else [])++yi (gv N) b:=by
    unfold yi;rw[filter_cons]
    split <;> simp
   rw[ea]
   show(bif badA (gv N) x then _ else _)=_
   cases badA (gv N) x with
   |true =>
    rw[cond_true,zo (by rw[length_append,length_singleton];omega)];refine(ih (i+1) _ (by rw[length_append,length_singleton];omega)).trans ?_;simp
   |false =>
    refine(ih (i+1) m (by omega)).trans ?_;simp
 exact this k.r 0 [] (by simpa using hn)
theorem Am(L:Lw)(h:ae):gP L h=1∨gP L h=2∨gP L h=3:=by
 unfold gP
 cases fG L (fB h)with
 |none=>exact .inr (.inr rfl)
 |some s =>
  show(bif decide (s=h.x)then(1:Int)else 2)=1∨(bif decide (s=h.x)then(1:Int)else 2)=2∨_
  cases decide (s=h.x)
  .exact .inr (.inl rfl)
  .exact .inl rfl
theorem wq(o:dX){l:List ak}{L:Lw}(hn:(l.map eJ).Nodup){x:ak}(hx:x∈l):badA (qd (fV o L l) L) (fj o x)=false:=by
 have e:=n8 o l L hn x hx
 have key:gP (qd (fV o L l) L) (fj o x)=bif il L o x then 1 else gP L (fj o x):=by
  cases hb:il L o x with
  |true =>
   rw[hb,cond_true]at e;unfold gP;rw[o8,e]
   show(bif decide (sK x=sK x)then(1:Int)else 2)=1
   rw[decide_eq_true rfl];rfl
  |false =>
   rw[hb,cond_false]at e;exact nX e
 unfold badA;rw[key]
 cases hb:il L o x with
 |true=>simp[fj]
 |false =>
  rw[cond_false];unfold il at hb;rw[Bool.or_eq_false_iff]at hb
  rcases Am L (fj o x)with h|h|h
  .rw[h];simp
  .rw[h]at hb|-
   have:=hb.2;simp only[decide_true,Bool.and_true]at this
   show((yw x.e&&_)||_)=false
   rw[this];simp
  .rw[h]at hb;exact absurd hb.1 (by decide)
theorem qB{M:aj}{o:dX}{l:List ak}{r:aq}(hB:xA M o l r)(L:Lw):yi (qd (fV o L l) L) r.D.r=[]:=by
 unfold yi;rw[map_eq_nil_iff,filter_eq_nil_iff];intro h hh;obtain⟨x,hx,rfl⟩:=(Ho hB).1 hh;rw[wq o hB.nd hx];exact Bool.false_ne_true
theorem sW{M:aj}{o:dX}{l:List ak}{r:aq}(hB:xA M o l r)(L:Lw){x:ak}(hx:x∈l)(hk:x.e=3∨x.e=4){f:aa}(hf:L.f x.g.a=some f):(qd (fV o L l) L).f x.g.a=some f:=by
 rw[HQ o x.g.a l L (fun y hy he=>?_) hB.nd]
 .exact hf
 .have hp:(⟨1,x.g.a⟩:al)=eJ x:=by
   unfold eJ lZ
   rcases hk with h|h <;> rw[h] <;> rfl
  have hyx:y=x:=Gc eJ hB.nd y hy x hx (by rw[<-he,hp]);subst hyx;unfold il
  have hst:¬ gP L (fj o y)=3:=by
   unfold gP;rw[o8,<-hp]
   show ¬ (match (bif decide ((1:Int)=2)then(L.s y.g.a).map EC else bif decide ((1:Int)=3)then(L.v y.g.a).map Cn else(L.f y.g.a).map Ah)with|none=>(3:Int)|some s=>bif decide (s=(fj o y).x)then 1 else 2)=3
   rw[hf]
   show ¬ (bif decide (Ah f=(fj o y).x)then(1:Int)else 2)=3
   cases decide (Ah f=(fj o y).x) <;> decide
  rw[decide_eq_false hst]
  have hw:yw y.e=false:=by
   unfold yw
   rcases hk with h|h <;> rw[h] <;> rfl
  rw[hw];rfl
abbrev Mq:=List ab×List aa×List ab×List ah
def nI(s:Mq):aj:=⟨s.1,s.2.1,s.2.2.1,s.2.2.2⟩
theorem qM:Good (nI ([],[],[],[])):=(BE _).1 (by decide +kernel)
theorem Al{s:Mq}(h:Good (nI s))(c:ai)(hc:rL c):Ends (yP c s.1 s.2.1 s.2.2.1 s.2.2.2) (fun s'=>Good (nI s')):=by
 unfold yP;rw[show(aj.mk s.1 s.2.1 s.2.2.1 s.2.2.2)=nI s from rfl,BN h [c] (by simpa using hc) (by simp),zg];cases h0:decide ((gM [c] (nI s)).2=0)
 .exact⟨_,rfl,h⟩
 .exact⟨_,rfl,(Gg h [c] (of_decide_eq_true h0)).1⟩
theorem Bw(n k:Int)(h:0<=n)(hk:0<=k):0<=min n k/\min n k<=n:=by omega
theorem Bt:Sm ([]:dX):=Nat.zero_le _
theorem oa{m:aj}(hm:FI m):Ends (C6 m) Good:=by
 unfold C6;simp only[ft];rw[zo (Bw _ _ (by omega) (by omega))];refine oO (fun _ r s=>(∀x∈r,Sm x.a)/\Good (nI s)) (fun i s hi=>?_) (fun i x rs s nx hi hnx=>?_) _ 0 _ ⟨fun x hx=>hm.fp x (mem_of_mem_take hx),qM⟩
 .obtain⟨a,b,c,d⟩:=s
  simp only;rw[zo (Bw _ _ (by omega) (by omega))];refine oO (fun _ r s=>(∀x∈r,Sm x.k)/\Good (nI s)) (fun i s hi=>?_) (fun i x rs s nx hi hnx=>?_) _ 0 _ ⟨fun x hx=>hm.sp x (mem_of_mem_take hx),hi.2⟩
  .obtain⟨a,b,c,d⟩:=s
   simp only;rw[zo (Bw _ _ (by omega) (by omega))];refine oO (fun _ r s=>(∀x∈r,Sm x.a)/\Good (nI s)) (fun i s hi=>?_) (fun i x rs s nx hi hnx=>?_) _ 0 _ ⟨fun x hx=>hm.vp x (mem_of_mem_take hx),hi.2⟩
   .obtain⟨a,b,c,d⟩:=s
    simp only;rw[show(aj.mk a b c d)=nI (a,b,c,d)from rfl,u2 hi.2,zg];exact⟨_,rfl,ot hi.2⟩
   .obtain⟨a,b,c,d⟩:=s
    refine Ends.call (Al hi.2 _ ⟨Bt,Bt,hi.1 x (by simp)⟩) fun s' hs'=>hnx s' ⟨fun y hy=>hi.1 y (by simp[hy]),hs'⟩
  .obtain⟨a,b,c,d⟩:=s
   refine Ends.call (Al hi.2 _ ⟨Bt,hi.1 x (by simp),Bt⟩) fun s' hs'=>hnx s' ⟨fun y hy=>hi.1 y (by simp[hy]),hs'⟩
 .obtain⟨a,b,c,d⟩:=s
  simp only;rw[zo (Bw _ _ (by omega) (by omega))]
  refine Ends.call (Al hi.2 _ ⟨hi.1 x (by simp),Bt,Bt⟩) fun s' hs'=>hnx s' ⟨fun y hy=>hi.1 y (by simp[hy]),hs'⟩
theorem qj:C1=some true:=by
 unfold C1;rw[xW];decide +kernel
theorem AA(m:aj)(o:dX)(items:List ak)(l:List ai)(hm:FI m)(hi:∀x∈items,rq x/\Sm x.h.o)(hl:∀c∈l,rL c):Dv m o items l=some true:=by
 suffices h:Ends (Dv m o items l) (fun b=>b=true)by
  obtain⟨b,h,rfl⟩:=h;exact h
 unfold Dv;obtain⟨NN,hNN⟩:∃N,ia=N:=⟨_,rfl⟩;have hge:1099511627776<=NN:=hNN ▸ xz;rw[hNN];clear hNN;rw[qj,zg,Bool.not_true,cond_false]
 refine Ends.call (oa hm) fun M hM=>?_
 rw[zo (Bw _ _ (by omega) (by omega))]
 have hI:∀x∈List.take ((min (items.length:Int) 20).toNat) items,x∈items:=fun x hx=>mem_of_mem_take hx
 have hn:(List.take ((min (items.length:Int) 20).toNat) items).length<=20:=by rw[length_take];omega
 generalize List.take ((min (items.length:Int) 20).toNat) items=I at hI hn|-
 have hs:∀x∈I,rq x:=fun x hx=>(hi x (hI x hx)).1
 have hv:∀x∈I,Sm x.h.o:=fun x hx=>(hi x (hI x hx)).2
 obtain⟨r,e,hr,hB⟩:=u3 hM o I ⟨false,false⟩ (by omega) hs hv;rw[hr,zg];simp only[eA]
 by_cases h0:e=0/\I≠[]
 .obtain⟨rfl,hne⟩:=h0
  have hB:=hB rfl
  have hl0:¬ ((I.length:Int)=0):=by
   cases I with
   |nil=>exact absurd rfl hne
   |cons x l=>simp only[length_cons];omega
  rw[decide_eq_true rfl,decide_eq_false hl0];simp only[Bool.not_true,Bool.or_false,cond_false];have hcl:=hB.cl;rw[BN hM r.E (fun c hc=>(hB.cs c hc).sm) (by omega),zg,hB.ap,decide_eq_true rfl,Bool.not_true,cond_false,ft,zo (Bw _ _ (by omega) (by omega))];refine oO (fun _ r s=>(∀c∈r,rL c)/\Good (nI s)) (fun i s hi=>?_) (fun i x rs s nx hi hnx=>?_) _ 0 _ ⟨fun c hc=>hl c (mem_of_mem_take hc),(Gg hM _ hB.ap).1⟩
  .obtain⟨a,b,c,d⟩:=s
   have hN:Good (nI (a,b,c,d)):=hi.2;simp only;rw[show(aj.mk a b c d)=nI (a,b,c,d)from rfl];generalize nI (a,b,c,d)=N at hN|-;obtain⟨f,e,hf,hE⟩:=rt hB hs hv hN hne;rw[hf,zg]
   rcases hE with⟨rfl,hc,hst,hsm,hfl⟩|rfl|rfl
   .simp only[decide_true,Bool.not_true,cond_false]
    rw[BN hN f.E hsm (by omega),zg,hst,decide_eq_true rfl,Bool.not_true,cond_false];have hK:=(Gg hN _ hst).1;have hlw:gv (gM f.E N).1=qd (fV o (gv N) I) (gv N):=(l7 hN hst).trans (by rw[hc]);generalize (gM f.E N).1=K at hK hlw|-;have hkl:=Hm hB;rw[u4 hK _ (pY hB hs hv hK) (by omega),zg,hlw,qB hB];simp only[ft,eA,length_nil];rw[show((!decide True)||decide ((0:Int)<((0:Nat):Int)))=false from by decide,cond_false];refine F4 (fun t:Int=>0<=t/\t<=(I.length:Int)) (fun t=>((I.length:Int)-t).toNat) (fun t nx ht hnx=>?_) NN 0 ⟨by omega,by omega⟩ (by omega);obtain⟨j,rfl⟩:=Int.eq_ofNat_of_zero_le ht.1
    by_cases hj:j<I.length
    .rw[decide_eq_true (by omega),cond_true,om hj]
     have hx:I[j]∈I:=getElem_mem hj;generalize I[j]=x at hx|-;have hw:IntKind.i64.wrap ((j:Int)+1)=((j+1:Nat):Int):=qf (by omega) (by omega)
     have go:Ends (nx (IntKind.i64.wrap ((j:Int)+1))) (fun b=>b=true):=by
      rw[hw];exact hnx _ ⟨by omega,by omega⟩ (by omega)
     by_cases hk:x.e=3∨x.e=4
     .rw[show((!decide (x.e=3))&&(!decide (x.e=4)))=false from by rcases hk with h|h <;> rw[h] <;> rfl,cond_false]
      rw[jT hN _ (hs x hx).fp,zg,jT hK _ (hs x hx).fp,zg];unfold Bf;cases fE x.g.a
      .exact go
      .cases hq:ic N.i x.g.a with
       |none=>exact go
       |some g =>
        have hg:ic K.i x.g.a=some g:=by
         have:=sW hB (gv N) hx hk (f:=g) hq;rw[<-hlw]at this;exact this
        rw[hg];simp only[Bool.not_true,cond_false,decide_true,Bool.and_self,Bool.or_self,Bool.and_false];exact go
     .rw[show((!decide (x.e=3))&&(!decide (x.e=4)))=true from by
       rw[decide_eq_false (fun h=>hk (.inl h)),decide_eq_false (fun h=>hk (.inr h))];rfl,cond_true]
      exact go
    .rw[decide_eq_false (by omega),cond_false]
     exact⟨_,rfl,rfl⟩
   .exact⟨_,rfl,rfl⟩
   .exact⟨_,rfl,rfl⟩
  .obtain⟨a,b,c,d⟩:=s
   have hN:Good (nI (a,b,c,d)):=hi.2;have hx:=hi.1 x (by simp);simp only;rw[show(aj.mk a b c d)=nI (a,b,c,d)from rfl,BN hN [x] (by simpa using hx) (by simp),zg];cases h0:decide ((gM [x] (nI (a,b,c,d))).2=0)
   .exact hnx _ ⟨fun y hy=>hi.1 y (by simp[hy]),hN⟩
   .exact hnx _ ⟨fun y hy=>hi.1 y (by simp[hy]),(Gg hN [x] (of_decide_eq_true h0)).1⟩
 .have:((!decide (e=0))||decide ((I.length:Int)=0))=true:=by
   by_cases h:e=0
   .rw[show I=[]from Classical.byContradiction fun h'=>h0 ⟨h,h'⟩];simp
   .rw[decide_eq_false h];rfl
  rw[this];exact⟨_,rfl,rfl⟩
end Go.Md
