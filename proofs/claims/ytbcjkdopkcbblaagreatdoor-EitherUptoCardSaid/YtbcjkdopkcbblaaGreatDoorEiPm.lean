/- Plain lemmas on the models: the law's model answers true (second part). -/
import Derived.Test.YtbcjkdopkcbblaaGreatDoorEiPl
set_option linter.unusedSimpArgs false
set_option linter.unusedVariables false
set_option linter.unusedSectionVars false
open List
namespace Go.Md
open Go.Vc
theorem Oo{M:ah}(h:Good M):∃m1 m2 m3 m4,DU M=some (m1,m2,m3,m4,M.y)/\Bn 400000 m1 m2 m3 m4 M:=by
 have hc1:=h.c1;have hc2:=h.c2;have hc3:=h.c3;have hc4:=h.c4;unfold DU;rw[NM _ (by omega),ze];simp only[dH]
 suffices hs:Ends (forL M.h 0 (fun i_198 f_200 (s:List (dy×ab)×List (dy×Int)) nx_197 (k_196:List (dy×ab)×List (dy×Int)->Option (List (dy×ab)×List (dy×Int)×List (dy×aa)×List (dy×ai)×List aa)) =>
   match s with
   |(m1_192,m2_193) =>
    call (AG f_200 M.y m1_192 m2_193 [] []) fun r_201 =>
    nx_197 (r_201.1,r_201.2)) ([],[]) (fun s=>match s with
   |(m1_117,m2_118) =>
    forL M.r 0 (fun i_183 s_185 m3_177 nx_182 k_181 =>
     dA ((dF m3_177 s_185.k s_185).length<=274877906944) <|
     nx_182 (dF m3_177 s_185.k s_185)) [] fun m3_136 =>
    forL M.o 0 (fun i_167 s_169 m4_161 nx_166 k_165 =>
     dA ((dF m4_161 s_169.w s_169).length<=274877906944) <|
     nx_166 (dF m4_161 s_169.w s_169)) [] fun m4_154 =>
    some (m1_117,m2_118,m3_136,m4_154,M.y))) fun z=>z=(z.1,z.2.1,z.2.2.1,z.2.2.2.1,M.y)/\Bn 400000 z.1 z.2.1 z.2.2.1 z.2.2.2.1 M by
  obtain⟨z,e,h1,h2⟩:=hs;exact⟨_,_,_,_,e.trans (congrArg some h1),h2⟩
 refine Dl (fun i r s=>∃a,M.h=a++r/\a.length=i/\Bn (200*i) s.1 s.2 [] [] ⟨M.y,a,[],[]⟩) (fun i s hi=>?_) (fun i f r s nx hi hnx=>?_) M.h 0 ([],[]) ⟨[],rfl,rfl,?_⟩
 .obtain⟨a,e,hl,hb⟩:=hi
  rw[append_nil]at e;subst e;obtain⟨m1,m2⟩:=s;simp only;refine⟨(m1,m2,ky (·.k) id M.r,ky (·.w) id M.o,M.y),?_,rfl,?_⟩
  .refine(iZ (key:=fun x:aa=>x.k) (w:=id) (fun _ _ _ _ _=>rfl) h.s2 (by omega)).trans ?_
   exact iZ (key:=fun x:ai=>x.w) (w:=id) (fun _ _ _ _ _=>rfl) h.v2 (by omega)
  .refine { hb with n3:=Ge h.s2,n4:=Ge h.v2,k3:=fun k v hv=>?_,k4:=fun k v hv=>?_,e3:=Hs h.s2 fun _ _=>rfl,e4:=Hs h.v2 fun _ _=>rfl,l2:=Nat.le_trans hb.l2 (by omega) }
   .simp only at hv
    rw[F4]at hv;obtain⟨x,hx,rfl⟩:=Option.map_eq_some_iff.1 hv;exact(jE hx).2
   .simp only at hv
    rw[F4]at hv;obtain⟨x,hx,rfl⟩:=Option.map_eq_some_iff.1 hv;exact(jE hx).2
 .obtain⟨a,e,hl,hb⟩:=hi
  have hlen:=congrArg List.length e;simp only[length_append,length_cons]at hlen
  have hsub:∀x∈a,x∈M.h:=fun x hx=>by rw[e];exact mem_append_left _ hx
  have hsrt:dU (·.a) (a++f::r):=e ▸ h.g2;have hsa:dU (·.a) a:=(pairwise_append.1 hsrt).1;have hM':Good ⟨M.y,a,[],[]⟩:=⟨hc1,by simp only;omega,by simp,by simp,h.f1,h.f2,fun x hx=>h.g1 x (hsub x hx),hsa,fun x hx y hy=>h.g3 x (hsub x hx) y (hsub y hy),by simp,by simp[dU],by simp,by simp[dU]⟩
  have hf:f∈M.h:=by rw[e];simp
  obtain⟨p,c,ep,hp⟩:=yx hb hM' (by omega) f (qb (rx (h.g1 f hf)).1) M.y;obtain⟨m1,m2⟩:=s;simp only at ep|-;rw[ep,ze]
  have hins:fz (·.a) f a=a++[f]:=by
   unfold fz
   have h1:∀x∈a,x.a<f.a:=fun x hx=>(pairwise_append.1 hsrt).2.2 x hx f (mem_cons_self ..)
   rw[filter_eq_self.2 (fun x hx=>by simpa using h1 x hx),filter_eq_nil_iff.2 (fun x hx=>by simpa using yR (h1 x hx))]
  refine hnx _ ⟨a++[f],by rw[e];simp,by simp[hl],?_⟩;have hp':=hp;rw[hins]at hp';exact hp'.le (by omega)
 .exact { n1:=by simp,n3:=by simp,n4:=by simp,k1:=fun k v hv=>(by cases hv),k3:=fun k v hv=>(by cases hv),k4:=fun k v hv=>(by cases hv),e1:=by simp[im,jv,sortS],e3:=by simp[im,jv,sortS],e4:=by simp[im,jv,sortS],l2:=by simp,cnt:=fun d=>rfl }
theorem yc{M:ah}(hM:Good M)(l:List ae)(hl:∀c∈l,gZ c)(hn:l.length<=134217728):H0 M l=some (z6 l M):=by
 obtain⟨m1,m2,m3,m4,e,hw⟩:=Oo hM;unfold H0;rw[e,ze];simp only[dH]
 have:∀(l:List ae) (i b:Nat) (m1:List (dy×ab)) (m2:List (dy×Int)) (m3:List (dy×aa)) (m4:List (dy×ai)) (N:ah),(∀c∈l,gZ c)->b+200*l.length<=137438953472->Good N->N.y=M.y->Bn b m1 m2 m3 m4 N ->
   forL l i (fun i_38 c_40 s nx_37 k_36 =>
    match s with
    |(m3_30,m4_31,m5_32,m6_33) =>
     call (D3 c_40 M.y m3_30 m4_31 m5_32 m6_33) fun r_41 =>
     bif !decide (r_41.1=0)then
      some ((ah.mk [] [] [] []),r_41.1)
     else
     nx_37 (r_41.2.1,r_41.2.2.1,r_41.2.2.2.1,r_41.2.2.2.2)) (m1,m2,m3,m4) (fun s=>match s with
    |(m3_30,m4_31,m5_32,m6_33) =>
     call (CE M.y m3_30 m4_31 m5_32 m6_33) fun r_25 =>
     some (r_25,(0:Int)))=some (z6 l N):=by
  intro l
  induction l with
  |nil =>
   intro i b m1 m2 m3 m4 N _ _ hN hF hw;unfold forL;simp only
   rw[<-hF,NJ hw hN,ze];rfl
  |cons c l ih =>
   intro i b m1 m2 m3 m4 N hc hb hN hF hw;simp only[length_cons]at hb;unfold forL;simp only;obtain⟨a1,a2,a3,a4,e,hw'⟩:=KI hw hN (by omega) c (hc c (mem_cons_self ..)) M.y;rw[e,ze];simp only[z6];rw[ih _ _ _ _ _ _ _ (fun x hx=>hc x (mem_cons_of_mem _ hx)) (by omega) (mT hN c) ((yU c N).trans hF) hw'];exact iA _ _ _
 exact this l 0 400000 m1 m2 m3 m4 M hl (by omega) hM rfl hw
theorem LW{M:ah}(hM:Good M)(l:List ae)(hl:∀c∈l,gZ c)(hn:l.length<=134217728):Ax M l=some (z6 l M):=by
 unfold Ax
 rw[OK M hM.fit,ze,(DB M).2 hM,yc hM l hl hn,ze];rfl
theorem LS{M:ah}(hM:Good M):∀(l:List ae),(z6 l M).2=0->Good (z6 l M).1/\(z6 l M).1.y=M.y:=by
 intro l
 induction l generalizing M with
 |nil=>intro _;exact⟨hM,rfl⟩
 |cons c l ih =>
  intro h;unfold z6 at h|-
  cases hd:decide ((zY c M).1=0)with
  |false =>
   rw[hd]at h;simp only[Bool.not_false,cond_true]at h
   rw[h]at hd;cases hd
  |true =>
   rw[hd]at h;simp only[Bool.not_true,cond_false]at h|-;have:=ih (mT hM c) h;exact⟨this.1,this.2.trans (yU c M)⟩
section
variable {A:Type} {key:A->dy}
def mq(eqb:A->A->Bool)(o:Option A)(y:A):Bool:=match o with|some x=>eqb x y|none=>false
def vd(key:A->dy)(a b:List A):List A:=a.filter fun x=>!(lk key b (key x)).isSome
def vf(key:A->dy)(eqb:A->A->Bool)(a b:List A):List A:=b.filter fun y=>!mq eqb (lk key a (key y)) y
theorem Ml{p:A->Bool}{l:List A}{i:Nat}(h:i<l.length):(l.take (i+1)).filter p=(l.take i).filter p++bif p l[i]then [l[i]]else []:=by
 rw[take_succ_eq_append_getElem h,filter_append]
 cases hp:p l[i] <;> simp[hp]
theorem Ru{l:List A}{x:A}(h:x∈l)(i:Nat):x∈l.take i∨x∈l.drop i:=by
 rw[<-take_append_drop i l]at h;exact mem_append.1 h
theorem NP{Z:Type}{a b:List A}(ha:dU key a)(hb:dU key b)(hla:a.length<=1073741824)(hlb:b.length<=1073741824){eqb:A->A->Bool}{f:Int×Int×List A×List A->(Int×Int×List A×List A->Option Z)->(Int×Int×List A×List A->Option Z)->Option Z}{K:Int×Int×List A×List A->Option Z}
  (hA:∀(i k:Nat) (o0 o1:List A) nx (hi:i<a.length),k<=b.length->(∀h:k<b.length,key a[i]<key b[k])->o0.length<=i->f ((i:Int),(k:Int),o0,o1) nx K=nx (((i+1:Nat):Int),(k:Int),o0++[a[i]],o1))
  (hB:∀(i k:Nat) (o0 o1:List A) nx (hk:k<b.length),i<=a.length->(∀h:i<a.length,key b[k]<key a[i])->o1.length<=k->f ((i:Int),(k:Int),o0,o1) nx K=nx ((i:Int),((k+1:Nat):Int),o0,o1++[b[k]]))
  (hE:∀(i k:Nat) (o0 o1:List A) nx (hi:i<a.length) (hk:k<b.length),key a[i]=key b[k]->o1.length<=k->f ((i:Int),(k:Int),o0,o1) nx K=nx (((i+1:Nat):Int),((k+1:Nat):Int),o0,bif eqb a[i] b[k]then o1 else o1++[b[k]]))
  (hZ:∀(o0 o1:List A) nx,f ((a.length:Int),(b.length:Int),o0,o1) nx K=K ((a.length:Int),(b.length:Int),o0,o1)) :
  loopN eV f (0,0,[],[]) K=K ((a.length:Int),(b.length:Int),vd key a b,vf key eqb a b):=by
 obtain⟨N,hN⟩:∃N,eV=N:=⟨_,rfl⟩;have hN2:1099511627776<=N:=hN ▸ rt;rw[hN]
 have hget:∀(l:List A) (hl:dU key l) (p q:Nat) (hp:p<q) (hq:q<l.length),key l[p]<key l[q]:=fun l hl p q hp hq=>pairwise_iff_getElem.1 hl p q (by omega) hq hp
 refine(Cg (S:=Int×Int×List A×List A) (fun st=>∃i k:Nat,st=((i:Int),(k:Int),(a.take i).filter (fun x=>!(lk key b (key x)).isSome),(b.take k).filter (fun y=>!mq eqb (lk key a (key y)) y))/\i<=a.length/\k<=b.length /\
   (∀x∈a.take i,∀y∈b.drop k,key x<key y)/\(∀y∈b.take k,∀x∈a.drop i,key y<key x)) (fun st=>(a.length-st.1.toNat)+(b.length-st.2.1.toNat))
   (fun _=>K ((a.length:Int),(b.length:Int),vd key a b,vf key eqb a b)) ?_ N _ ⟨0,0,rfl,by omega,by omega,by simp,by simp⟩ (by simp only;omega))
 rintro st nx ⟨i,k,rfl,hi,hk,c1,c2⟩ hnx;simp only at hnx
 have l0:((a.take i).filter (fun x=>!(lk key b (key x)).isSome)).length<=i:=by
  have:=length_filter_le (fun x=>!(lk key b (key x)).isSome) (a.take i)
  rw[length_take]at this;omega
 have l1:((b.take k).filter (fun y=>!mq eqb (lk key a (key y)) y)).length<=k:=by
  have:=length_filter_le (fun y=>!mq eqb (lk key a (key y)) y) (b.take k)
  rw[length_take]at this;omega
 have memD:∀(l:List A) (p q:Nat) (hq:q<l.length),p<=q->l[q]∈l.drop p:=fun l p q hq hp=>by
  rw[mem_drop_iff_getElem];exact⟨q-p,by omega,by congr 1;omega⟩
 have stepA:∀(hia:i<a.length),(∀h:k<b.length,key a[i]<key b[k])->f ((i:Int),(k:Int),(a.take i).filter (fun x=>!(lk key b (key x)).isSome),(b.take k).filter (fun y=>!mq eqb (lk key a (key y)) y)) nx K=K ((a.length:Int),(b.length:Int),vd key a b,vf key eqb a b):=by
  intro hia hlt
  have hdrop:∀y∈b.drop k,key a[i]<key y:=fun y hy=>by
   obtain⟨j,hj,rfl⟩:=mem_drop_iff_getElem.1 hy
   by_cases h0:j=0
   .subst h0;exact hlt (by omega)
   .exact Ch (hlt (by omega)) (hget b hb k (k+j) (by omega) (by omega))
  have hno:lk key b (key a[i])=none:=lk_none.2 fun y hy e=>by
   rcases Ru hy k with hy|hy
   .exact ro (c2 y hy a[i] (memD a i i hia (Nat.le_refl _))) e
   .exact ro (hdrop y hy) e.symm
  rw[hA i k _ _ nx hia hk hlt l0];refine hnx _ ⟨i+1,k,?_,by omega,hk,fun x hx y hy=>?_,fun y hy x hx=>c2 y hy x (mem_of_mem_drop (i:=1) (by rwa [drop_drop]))⟩ (by simp only;omega)
  .rw[Ml hia,hno];rfl
  .rw[take_succ_eq_append_getElem hia]at hx
   rcases mem_append.1 hx with hx|hx
   .exact c1 x hx y hy
   .simp at hx;subst hx;exact hdrop y hy
 have stepB:∀(hkb:k<b.length),(∀h:i<a.length,key b[k]<key a[i])->f ((i:Int),(k:Int),(a.take i).filter (fun x=>!(lk key b (key x)).isSome),(b.take k).filter (fun y=>!mq eqb (lk key a (key y)) y)) nx K=K ((a.length:Int),(b.length:Int),vd key a b,vf key eqb a b):=by
  intro hkb hlt
  have hdrop:∀x∈a.drop i,key b[k]<key x:=fun x hx=>by
   obtain⟨j,hj,rfl⟩:=mem_drop_iff_getElem.1 hx
   by_cases h0:j=0
   .subst h0;exact hlt (by omega)
   .exact Ch (hlt (by omega)) (hget a ha i (i+j) (by omega) (by omega))
  have hno:lk key a (key b[k])=none:=lk_none.2 fun x hx e=>by
   rcases Ru hx i with hx|hx
   .exact ro (c1 x hx b[k] (memD b k k hkb (Nat.le_refl _))) e
   .exact ro (hdrop x hx) e.symm
  rw[hB i k _ _ nx hkb hi hlt l1];refine hnx _ ⟨i,k+1,?_,hi,by omega,fun x hx y hy=>c1 x hx y (mem_of_mem_drop (i:=1) (by rwa [drop_drop])),fun y hy x hx=>?_⟩ (by simp only;omega)
  .rw[Ml hkb,hno];rfl
  .rw[take_succ_eq_append_getElem hkb]at hy
   rcases mem_append.1 hy with hy|hy
   .exact c2 y hy x hx
   .simp at hy;subst hy;exact hdrop x hx
 by_cases hia:i<a.length
 .by_cases hkb:k<b.length
  .rcases B6 (key a[i]) (key b[k])with h|h|h
   .exact stepA hia fun _=>h
   .have e1:lk key b (key a[i])=some b[k]:=by rw[h];exact vk hb (getElem_mem hkb)
    have e2:lk key a (key b[k])=some a[i]:=by rw[<-h];exact vk ha (getElem_mem hia)
    rw[hE i k _ _ nx hia hkb h l1];refine hnx _ ⟨i+1,k+1,?_,by omega,by omega,fun x hx y hy=>?_,fun y hy x hx=>?_⟩ (by simp only;omega)
    .rw[Ml hia,Ml hkb,e1,e2,show mq eqb (some a[i]) b[k]=eqb a[i] b[k]from rfl]
     simp only[Option.isSome_some,Bool.not_true,cond_false,append_nil]
     cases eqb a[i] b[k] <;> simp
    .have hy':y∈b.drop k:=mem_of_mem_drop (i:=1) (by rwa [drop_drop])
     rw[take_succ_eq_append_getElem hia]at hx
     rcases mem_append.1 hx with hx|hx
     .exact c1 x hx y hy'
     .simp at hx;subst hx
      obtain⟨j,hj,rfl⟩:=mem_drop_iff_getElem.1 hy;rw[h];exact hget b hb k (k+1+j) (by omega) (by omega)
    .have hx':x∈a.drop i:=mem_of_mem_drop (i:=1) (by rwa [drop_drop])
     rw[take_succ_eq_append_getElem hkb]at hy
     rcases mem_append.1 hy with hy|hy
     .exact c2 y hy x hx'
     .simp at hy;subst hy
      obtain⟨j,hj,rfl⟩:=mem_drop_iff_getElem.1 hx;rw[<-h];exact hget a ha i (i+1+j) (by omega) (by omega)
   .exact stepB hkb fun _=>h
  .exact stepA hia fun h=>absurd h hkb
 .by_cases hkb:k<b.length
  .exact stepB hkb fun h=>absurd h hia
  .obtain rfl:i=a.length:=by omega
   obtain rfl:k=b.length:=by omega
   rw[hZ,take_length,take_length];rfl
end
def dZ(k:dy):ae:=⟨2,⟨k,[],false⟩,eI,eC⟩
def yA(k:dy):ae:=⟨4,eE,⟨k,[]⟩,eC⟩
def yz(k:dy):ae:=⟨6,eE,eI,⟨k,[],false,false⟩⟩
def uO(a b:ah):List ae :=
 (vd (·.a) a.h b.h).map (fun f=>dZ f.a)++(vd (·.k) a.r b.r).map (fun s=>yA s.k)++(vd (·.w) a.o b.o).map (fun s=>yz s.w) ++
  (vf (·.a) iQ a.h b.h).map eW++(vf (·.k) iM a.r b.r).map j3++(vf (·.w) jM a.o b.o).map j4
section
variable {A C:Type}
theorem Dg{Z:Type}{g:A->C}{f:Nat->A->List C->(List C->Option Z)->(List C->Option Z)->Option Z}{k:List C->Option Z}(hf:∀i x o nx q,f i x o nx q=dA ((o++[g x]).length<=274877906944) (nx (o++[g x]))) :
  ∀(l:List A) (i:Nat) (o:List C),o.length+l.length<=274877906944->forL l i f o k=k (o++l.map g)
 |[],i,o,_=>by simp[forL]
 |x::l,i,o,h=>by
  simp only[length_cons]at h;unfold forL;rw[hf,zg (by simp only[length_append,length_cons,length_nil];omega),Dg hf l (i+1) _ (by simp only[length_append,length_cons,length_nil];omega)];simp
theorem F3(key:A->dy)(a b:List A):(vd key a b).length<=a.length:=length_filter_le _ _
theorem F0(key:A->dy)(e:A->A->Bool)(a b:List A):(vf key e a b).length<=b.length:=length_filter_le _ _
end
theorem wS(i:Nat)(h:i<1073741824):IntKind.i64.wrap ((i:Int)+1)=((i+1:Nat):Int):=fN i (by omega)
theorem EB(a b:List ab)(ha:dU (·.a) a)(hb:dU (·.a) b)(hla:a.length<=1073741824)(hlb:b.length<=1073741824):I5 a b=some (vd (·.a) a b,vf (·.a) iQ a b):=by
 unfold I5;rw[dH];refine(NP (key:=fun x:ab=>x.a) (eqb:=iQ) ha hb hla hlb (fun i k o0 o1 nx hi hk hlt hl=>?_) (fun i k o0 o1 nx hk hi hlt hl=>?_) (fun i k o0 o1 nx hi hk he hl=>?_) (fun o0 o1 nx=>?_)).trans rfl
 .have h1:(decide ((i:Int)<(a.length:Int))||decide ((k:Int)<(b.length:Int)))=true:=by simp;omega
  simp only[h1,cond_true,dH]
  by_cases hkb:k<b.length
  .rw[decide_eq_false (by omega),cond_false,decide_eq_false (by omega),cond_false]
   simp only[ft hi,ft hkb,DM,ze,Ai,Dj,decide_eq_true (hlt hkb),cond_true,wS i (by omega)];rw[zg (by simp only[length_append,length_cons,length_nil];omega)]
  .rw[decide_eq_true (by omega),cond_true]
   simp only[ft hi,show decide ((-1:Int)<0)=true from rfl,cond_true,wS i (by omega)];rw[zg (by simp only[length_append,length_cons,length_nil];omega)]
 .have h1:(decide ((i:Int)<(a.length:Int))||decide ((k:Int)<(b.length:Int)))=true:=by simp;omega
  simp only[h1,cond_true,dH];rw[decide_eq_false (by omega),cond_false]
  by_cases hia:i<a.length
  .rw[decide_eq_false (by omega),cond_false]
   simp only[ft hia,ft hk,DM,ze,Ai,Dj,decide_eq_false (yR (hlt hia)),decide_eq_true ((mB _ _).2 (hlt hia)),cond_true,cond_false,wS k (by omega)];rw[zg (by simp only[length_append,length_cons,length_nil];omega)]
  .rw[decide_eq_true (by omega),cond_true]
   simp only[ft hk,show decide ((1:Int)<0)=false from rfl,show decide ((0:Int)<1)=true from rfl,cond_true,cond_false,wS k (by omega)];rw[zg (by simp only[length_append,length_cons,length_nil];omega)]
 .have h1:(decide ((i:Int)<(a.length:Int))||decide ((k:Int)<(b.length:Int)))=true:=by simp;omega
  simp only[h1,cond_true,dH];rw[decide_eq_false (by omega),cond_false,decide_eq_false (by omega),cond_false];have hz:iJ a[i].a b[k].a=0:=(Ga _ _).2.2 he;simp only[ft hi,ft hk,DM,ze,Ai,hz,Int.lt_irrefl,decide_false,cond_false,wS i (by omega),wS k (by omega)];rw[zg (by simp only[length_append,length_cons,length_nil];omega)];unfold iQ
  cases (decide (a[i].a=b[k].a)&&(decide (a[i].B=b[k].B)&&decide (a[i].C=b[k].C))) <;> rfl
 .simp
theorem EA(a b:List aa)(ha:dU (·.k) a)(hb:dU (·.k) b)(hla:a.length<=1073741824)(hlb:b.length<=1073741824):Jd a b=some (vd (·.k) a b,vf (·.k) iM a b):=by
 unfold Jd;rw[dH];refine(NP (key:=fun x:aa=>x.k) (eqb:=iM) ha hb hla hlb (fun i k o0 o1 nx hi hk hlt hl=>?_) (fun i k o0 o1 nx hk hi hlt hl=>?_) (fun i k o0 o1 nx hi hk he hl=>?_) (fun o0 o1 nx=>?_)).trans rfl
 .have h1:(decide ((i:Int)<(a.length:Int))||decide ((k:Int)<(b.length:Int)))=true:=by simp;omega
  simp only[h1,cond_true,dH]
  by_cases hkb:k<b.length
  .rw[decide_eq_false (by omega),cond_false,decide_eq_false (by omega),cond_false]
   simp only[ft hi,ft hkb,s9,ze,Ai,Dj,decide_eq_true (hlt hkb),cond_true,wS i (by omega)];rw[zg (by simp only[length_append,length_cons,length_nil];omega)]
  .rw[decide_eq_true (by omega),cond_true]
   simp only[ft hi,show decide ((-1:Int)<0)=true from rfl,cond_true,wS i (by omega)];rw[zg (by simp only[length_append,length_cons,length_nil];omega)]
 .have h1:(decide ((i:Int)<(a.length:Int))||decide ((k:Int)<(b.length:Int)))=true:=by simp;omega
  simp only[h1,cond_true,dH];rw[decide_eq_false (by omega),cond_false]
  by_cases hia:i<a.length
  .rw[decide_eq_false (by omega),cond_false]
   simp only[ft hia,ft hk,s9,ze,Ai,Dj,decide_eq_false (yR (hlt hia)),decide_eq_true ((mB _ _).2 (hlt hia)),cond_true,cond_false,wS k (by omega)];rw[zg (by simp only[length_append,length_cons,length_nil];omega)]
  .rw[decide_eq_true (by omega),cond_true]
   simp only[ft hk,show decide ((1:Int)<0)=false from rfl,show decide ((0:Int)<1)=true from rfl,cond_true,cond_false,wS k (by omega)];rw[zg (by simp only[length_append,length_cons,length_nil];omega)]
 .have h1:(decide ((i:Int)<(a.length:Int))||decide ((k:Int)<(b.length:Int)))=true:=by simp;omega
  simp only[h1,cond_true,dH];rw[decide_eq_false (by omega),cond_false,decide_eq_false (by omega),cond_false];have hz:iJ a[i].k b[k].k=0:=(Ga _ _).2.2 he;simp only[ft hi,ft hk,s9,ze,Ai,hz,Int.lt_irrefl,decide_false,cond_false,wS i (by omega),wS k (by omega)];rw[zg (by simp only[length_append,length_cons,length_nil];omega)];unfold iM
  cases (decide (a[i].k=b[k].k)&&decide (a[i].Value=b[k].Value)) <;> rfl
 .simp
theorem Ez(a b:List ai)(ha:dU (·.w) a)(hb:dU (·.w) b)(hla:a.length<=1073741824)(hlb:b.length<=1073741824):Jc a b=some (vd (·.w) a b,vf (·.w) jM a b):=by
 unfold Jc;rw[dH];refine(NP (key:=fun x:ai=>x.w) (eqb:=jM) ha hb hla hlb (fun i k o0 o1 nx hi hk hlt hl=>?_) (fun i k o0 o1 nx hk hi hlt hl=>?_) (fun i k o0 o1 nx hi hk he hl=>?_) (fun o0 o1 nx=>?_)).trans rfl
 .have h1:(decide ((i:Int)<(a.length:Int))||decide ((k:Int)<(b.length:Int)))=true:=by simp;omega
  simp only[h1,cond_true,dH]
  by_cases hkb:k<b.length
  .rw[decide_eq_false (by omega),cond_false,decide_eq_false (by omega),cond_false]
   simp only[ft hi,ft hkb,yV,ze,Ai,Dj,decide_eq_true (hlt hkb),cond_true,wS i (by omega)];rw[zg (by simp only[length_append,length_cons,length_nil];omega)]
  .rw[decide_eq_true (by omega),cond_true]
   simp only[ft hi,show decide ((-1:Int)<0)=true from rfl,cond_true,wS i (by omega)];rw[zg (by simp only[length_append,length_cons,length_nil];omega)]
 .have h1:(decide ((i:Int)<(a.length:Int))||decide ((k:Int)<(b.length:Int)))=true:=by simp;omega
  simp only[h1,cond_true,dH];rw[decide_eq_false (by omega),cond_false]
  by_cases hia:i<a.length
  .rw[decide_eq_false (by omega),cond_false]
   simp only[ft hia,ft hk,yV,ze,Ai,Dj,decide_eq_false (yR (hlt hia)),decide_eq_true ((mB _ _).2 (hlt hia)),cond_true,cond_false,wS k (by omega)];rw[zg (by simp only[length_append,length_cons,length_nil];omega)]
  .rw[decide_eq_true (by omega),cond_true]
   simp only[ft hk,show decide ((1:Int)<0)=false from rfl,show decide ((0:Int)<1)=true from rfl,cond_true,cond_false,wS k (by omega)];rw[zg (by simp only[length_append,length_cons,length_nil];omega)]
 .have h1:(decide ((i:Int)<(a.length:Int))||decide ((k:Int)<(b.length:Int)))=true:=by simp;omega
  simp only[h1,cond_true,dH];rw[decide_eq_false (by omega),cond_false,decide_eq_false (by omega),cond_false];have hz:iJ a[i].w b[k].w=0:=(Ga _ _).2.2 he;simp only[ft hi,ft hk,yV,ze,Ai,hz,Int.lt_irrefl,decide_false,cond_false,wS i (by omega),wS k (by omega)];rw[zg (by simp only[length_append,length_cons,length_nil];omega)];unfold jM
  cases (decide (a[i].w=b[k].w)&&(decide (a[i].a=b[k].a)&&(decide (a[i].D=b[k].D)&&decide (a[i].E=b[k].E)))) <;> rfl
 .simp
theorem uH{a b:ah}(ha:Good a)(hb:Good b):HT a b=some (uO a b):=by
 have a2:=ha.c2;have a3:=ha.c3;have a4:=ha.c4;have b2:=hb.c2;have b3:=hb.c3;have b4:=hb.c4;have g1:=F3 (·.a) a.h b.h;have g2:=F3 (·.k) a.r b.r;have g3:=F3 (·.w) a.o b.o;have c1:=F0 (·.a) iQ a.h b.h;have c2:=F0 (·.k) iM a.r b.r;have c3:=F0 (·.w) jM a.o b.o;unfold HT;rw[EB _ _ ha.g2 hb.g2 (by omega) (by omega),EA _ _ ha.s2 hb.s2 (by omega) (by omega),Ez _ _ ha.v2 hb.v2 (by omega) (by omega)];simp only[ze,dH];refine(Dg (g:=fun f:ab=>dZ f.a) (fun _ _ _ _ _=>rfl) _ _ _ (by simp only[length_nil,length_append,length_map];omega)).trans ?_;refine(Dg (g:=fun f:aa=>yA f.k) (fun _ _ _ _ _=>rfl) _ _ _ (by simp only[length_nil,length_append,length_map];omega)).trans ?_;refine(Dg (g:=fun f:ai=>yz f.w) (fun _ _ _ _ _=>rfl) _ _ _ (by simp only[length_nil,length_append,length_map];omega)).trans ?_;refine(Dg (g:=eW) (fun _ _ _ _ _=>rfl) _ _ _ (by simp only[length_nil,length_append,length_map];omega)).trans ?_;refine(Dg (g:=j3) (fun _ _ _ _ _=>rfl) _ _ _ (by simp only[length_nil,length_append,length_map];omega)).trans ?_;refine(Dg (g:=j4) (fun _ _ _ _ _=>rfl) _ _ _ (by simp only[length_nil,length_append,length_map];omega)).trans ?_
 rw[nil_append];rfl
section
variable {V A:Type} {key:A->dy}
theorem vI{g:dy->V->A}{d:V}{m:List (dy×V)}(hk:∀k v,zG m k=some v->key (g k v)=k):(im g d m).map key=jv m:=by
 unfold im;rw[map_map]
 conv=>rhs;rw[<-map_id (jv m)]
 refine map_congr_left fun k hkm=>?_
 obtain⟨v,hv⟩:=Option.isSome_iff_exists.1 (mem_keysM.1 hkm);simp only[Function.comp_apply,hv,Option.getD_some,id];exact hk _ _ hv
end
def gE(s:ai):ai:=⟨s.w,s.a,s.D,s.D⟩
theorem lb{Z:Type}(l:List ai)(hl:l.length<=1000)(k:List ai->Option Z){N:Nat}(hN:1001<=N) :
  loopN N (fun(s:Int×List ai) nx_29 k_28 =>
  match s with
  |(t9_23,o7_24) =>
   bif decide (t9_23<(l.length:Int))then
    dA (0<=t9_23/\t9_23<(o7_24.length:Int)) <|
    dA (0<=t9_23/\t9_23<(o7_24.length:Int)) <|
    nx_29 (IntKind.i64.wrap (t9_23+1),List.set o7_24 t9_23.toNat (ai.mk ((o7_24.getD t9_23.toNat (ai.mk [] [] false false)).w) ((o7_24.getD t9_23.toNat (ai.mk [] [] false false)).a) ((o7_24.getD t9_23.toNat (ai.mk [] [] false false)).D) ((o7_24.getD t9_23.toNat (ai.mk [] [] false false)).D)))
   else
   k_28 (t9_23,o7_24)) (0,l) (fun s=>match s with
  |(t9_23,o7_24)=>k o7_24)=k (l.map gE):=by
 refine Cg (fun s=>∃i:Nat,s.1=(i:Int)/\i<=l.length/\s.2=(l.take i).map gE++l.drop i) (fun s=>l.length-s.1.toNat) (fun _=>k (l.map gE)) ?_ N _ ⟨0,rfl,by omega,by simp⟩ (by simp only;omega);rintro⟨t,o⟩ nx ⟨i,h1,hi,h2⟩ hnx;obtain rfl:t=i:=h1;obtain rfl:o=_:=h2;dsimp only
 by_cases h:i<l.length
 .have hlen:((l.take i).map gE++l.drop i).length=l.length:=by simp;omega
  rw[decide_eq_true (by omega),cond_true,hlen,zg (by omega),zg (by omega),fN i (by omega),Int.toNat_natCast]
  have hg:((l.take i).map gE++l.drop i).getD i (ai.mk [] [] false false)=l[i]:=by
   rw[getD_eq_getElem?_getD,getElem?_append_right (by simp;omega)];simp[h,Nat.min_eq_left (Nat.le_of_lt h)]
  refine hnx _ ⟨i+1,rfl,by omega,?_⟩ (by simp only[Int.toNat_natCast];omega);rw[hg,set_append_right _ _ (by simp;omega)]
  have e:i-((l.take i).map gE).length=0:=by simp;omega
  rw[e,drop_eq_getElem_cons h,take_succ_eq_append_getElem h,map_append,append_assoc];rfl
 .obtain rfl:i=l.length:=by omega
  rw[decide_eq_false (by omega),cond_false,take_length,drop_length,append_nil]
def rm(m:ah):ah:=⟨m.y,m.h,m.r,m.o.map gE⟩
theorem yS{α:Type}(l:List α)(hl:l.length<=137438953472):(ve (fun b_5:Bool=>b_5=true->l=[]) fun b_5 =>
 bif b_5 then
  some []
 else
 dA (([]++l).length<=274877906944) <|
 some ([]++l))=some l:=by
 refine Oq ⟨false,fun h=>by cases h⟩ fun b hb=>?_
 cases b with
 |false=>rw[cond_false,zg (by simp;omega)];rfl
 |true=>rw[hb rfl];rfl
theorem FH{M:ah}(h:Good M):HS M=some (rm M):=by
 have a1:=h.c1;have a2:=h.c2;have a3:=h.c3;have a4:=h.c4;obtain⟨N,hN⟩:∃N,eV=N:=⟨_,rfl⟩;have hF:1099511627776<=N:=hN ▸ rt
 have hc:CC M=some (M.y,M.h,M.r,M.o,M.y,M.h,M.r,M.o):=by
  unfold CC;rw[show zp M.y=some M.y from yS M.y (by omega),show Ja M.h=some M.h from yS M.h (by omega),show zp M.r=some M.r from yS M.r (by omega),show zu M.o=some M.o from yS M.o (by omega)];rfl
 unfold HS;rw[hN,hc,ze,dH];exact lb M.o (by omega) (fun o=>some (ah.mk M.y M.h M.r o)) (by omega)
theorem yp{M:ah}(h:Good M):FJ M=some (rm M):=by
 have a4:=h.c4;obtain⟨N,hN⟩:∃N,eV=N:=⟨_,rfl⟩;have hF:1099511627776<=N:=hN ▸ rt;unfold FJ;rw[hN,show zu M.o=some M.o from yS M.o (by omega),ze,dH];exact lb M.o (by omega) (fun o=>some (ah.mk M.y M.h M.r o)) (by omega)
theorem Cf{M:ah}(h:Good M):Good (rm M):=by
 refine { h with c4:=by show(M.o.map gE).length<=100;rw[length_map];exact h.c4,v1:=fun x hx=>?_,v2:=?_ }
 .obtain⟨y,hy,rfl⟩:=mem_map.1 hx
  exact h.v1 y hy
 .show dU (fun x:ai=>x.w) (M.o.map gE)
  unfold dU;rw[pairwise_map];exact h.v2
def lu(f:ab):ab:=⟨f.a,List.take ((IntKind.i64.wrap (Int.tdiv (f.B.length:Int) 2)).toNat) f.B,f.C⟩
theorem ow{n:Nat}(h:n<=65536):IntKind.i64.wrap (Int.tdiv (n:Int) 2)=((n / 2:Nat):Int):=by
 have e:Int.tdiv (n:Int) 2=((n / 2:Nat):Int):=rfl;rw[e,gS (by omega) (by omega)]
theorem Qc{f:ab}(h:gc f=0):gc (lu f)=0:=by
 obtain⟨h1,h2⟩:=rx h;unfold gc lu;simp only[h1,length_take,Bool.not_true,cond_false]
 rw[decide_eq_false (by omega)];rfl
theorem oz{M:ah}(h:Good M)(f:ab)(he:gc f=0)(ha:M.h.any (fb f.a)=false)(hb:(!(dC M.h f.a).isSome&&decide (2000<=(M.h.length:Int)))=false) :
  Good ⟨M.y,fz (·.a) f M.h,M.r,M.o⟩:=by
 have hc2:=h.c2
 have hcl:∀x∈M.h,dX x.a f.a=false/\dX f.a x.a=false:=fun x hx=>by
  have:=any_eq_false.1 ha x hx
  simpa [fb]using this
 refine { h with c2:=?_,g1:=?_,g2:=yJ h.g2 _,g3:=?_ }
 .show(fz (fun x:ab=>x.a) f M.h).length<=2000
  rw[Dm h.g2];simp only[Bool.and_eq_false_iff,Bool.not_eq_false',decide_eq_false_iff_not]at hb
  rcases hb with hb|hb
  .rw[if_pos hb];omega
  .split <;> omega
 .intro x hx
  rcases mem_ins.1 hx with e|⟨hx,_⟩
  .rw[e];exact he
  .exact h.g1 x hx
 .intro x hx y hy
  rcases mem_ins.1 hx with e|⟨hx,_⟩ <;> rcases mem_ins.1 hy with e'|⟨hy,_⟩
  .rw[e,e'];exact k7 _
  .rw[e];exact(hcl y hy).2
  .rw[e'];exact(hcl x hx).1
  .exact h.g3 x hx y hy
theorem NW{M:ah}{c:ae}(hk:c.u=1)(hs:(zY c M).1=0):gc c.i=0/\M.h.any (fb c.i.a)=false/\(!(dC M.h c.i.a).isSome&&decide (2000<=(M.h.length:Int)))=false:=by
 unfold zY at hs
 by_cases he:eCh c=0
 .rw[decide_eq_true he]at hs
  simp only[hk,lz,decide_true,Bool.not_true,cond_true,cond_false]at hs;refine⟨KP he hk,?_,?_⟩
  .cases ha:M.h.any (fb c.i.a)
   .rfl
   .rw[ha]at hs;cases hs
  .cases ha:M.h.any (fb c.i.a)
   .rw[ha]at hs
    cases hb:!(dC M.h c.i.a).isSome&&decide (2000<=(M.h.length:Int))
    .rfl
    .rw[hb]at hs;cases hs
   .rw[ha]at hs;cases hs
 .rw[decide_eq_false he]at hs
  exact absurd hs he
section
variable {b:Nat} {m1:List (dy×ab)} {m2:List (dy×Int)} {m3:List (dy×aa)} {m4:List (dy×ai)} {M:ah}
theorem B0(h:Bn b m1 m2 m3 m4 M)(hM:Good M)(c:ae)(he:eCh c=0)(o0:List aa):D6 c o0 m1 m2 m3 m4=some (zY c M).1:=by
 have h1:=h.l1;have h3:=h.l3;have h4:=h.l4;have hc2:=hM.c2;have hc3:=hM.c3;have hc4:=hM.c4;unfold D6 Hc G6 G5 zY;rw[decide_eq_true he,Bool.not_true,cond_false];simp only[dH,fj,h.look1,h.look3,h.look4,h1,h3,h4,PW h hM,ze];have hlF:IntKind.i64.wrap ((M.h.length:Int)+1)=((M.h.length+1:Nat):Int):=fN _ (by omega);have hlS:IntKind.i64.wrap ((M.r.length:Int)+1)=((M.r.length+1:Nat):Int):=fN _ (by omega);have hlV:IntKind.i64.wrap ((M.o.length:Int)+1)=((M.o.length+1:Nat):Int):=fN _ (by omega);have hdF:decide ((2000:Int)<((M.h.length+1:Nat):Int))=decide (2000<=(M.h.length:Int)):=decide_eq_decide.2 (by omega);have hdS:decide ((2000:Int)<((M.r.length+1:Nat):Int))=decide (2000<=(M.r.length:Int)):=decide_eq_decide.2 (by omega);have hdV:decide ((100:Int)<((M.o.length+1:Nat):Int))=decide (100<=(M.o.length:Int)):=decide_eq_decide.2 (by omega);have CT:decide ((1:Int)<0)=false:=rfl
 rcases Dx he with e|e|e|e|e|e
 all_goals simp only[e,lz,decide_true,cond_true,cond_false,hlF,hlS,hlV,hdF,hdS,hdV,CT]
 .cases M.h.any (fb c.i.a)
  .cases (dC M.h c.i.a).isSome
   .cases decide (2000<=(M.h.length:Int)) <;> rfl
   .rfl
  .rfl
 .cases (dC M.h c.i.a).isSome <;> rfl
 .cases (gB M.r c.z.k).isSome
  .cases decide (2000<=(M.r.length:Int)) <;> rfl
  .rfl
 .cases (gB M.r c.z.k).isSome <;> rfl
 .cases (fD M.o c.q.w).isSome
  .cases decide (100<=(M.o.length:Int)) <;> rfl
  .rfl
 .cases (fD M.o c.q.w).isSome <;> rfl
end
structure Dk where
 M:ah
 off:Bool
 cut:Bool
 after:Int
 torn:Bool
 writes:Int
def eh(c:ae)(d:Dk):Int×Dk :=
 bif d.off then(12,d)else
 bif !decide ((zY c d.M).1=0)then((zY c d.M).1,d)else
 bif d.cut&&decide (d.after=0)then
  (bif d.torn&&decide (c.u=1)then(18,⟨⟨d.M.y,fz (·.a) (lu c.i) d.M.h,d.M.r,d.M.o⟩,true,false,d.after,d.torn,IntKind.i64.wrap (d.writes+1)⟩)
   else(18,⟨d.M,true,false,d.after,d.torn,d.writes⟩))else
 (0,⟨(zY c d.M).2,d.off,d.cut,bif d.cut then IntKind.i64.wrap (d.after-1)else d.after,d.torn,IntKind.i64.wrap (d.writes+1)⟩)
def xI(after:Int)(torn:Bool)(d:Dk):Int×Dk :=
 bif decide (after<0)||decide (1000000<after)then(3,d)else bif d.off then(12,d)else(0,⟨d.M,d.off,true,after,torn,d.writes⟩)
def ML(d:Dk):Int×Dk:=bif !d.off then(12,d)else(0,⟨rm d.M,false,false,d.after,d.torn,d.writes⟩)
structure Pd(b:Nat)(m1:List (dy×ab))(m2:List (dy×Int))(m3:List (dy×aa))(m4:List (dy×ai))(fs:List aa)(off cut:Bool)(after:Int)(torn:Bool)(writes:Int)(d:Dk):Prop where
 good:Good d.M
 bn:Bn b m1 m2 m3 m4 d.M
 fs:fs=d.M.y
 off:off=d.off
 cut:cut=d.cut
 after:d.cut=true->after=d.after
 torn:d.cut=true->torn=d.torn
 writes:writes=d.writes
theorem tD{c:ae}{M:ah}(h:(zY c M).1≠0):(zY c M).2=M:=by
 unfold zY at h|-
 by_cases he:eCh c=0
 .rw[decide_eq_true he]at h|-
  simp only[Bool.not_true,cond_false]at h|-
  rcases Dx he with e|e|e|e|e|e
  all_goals simp only[e,lz,decide_true,cond_true,cond_false]at h|-
  .cases ha:M.h.any (fb c.i.a)
   .rw[ha]at h
    cases hb:!(dC M.h c.i.a).isSome&&decide (2000<=(M.h.length:Int))
    .rw[hb]at h;exact absurd rfl h
    .rfl
   .rfl
  .cases hb:!(dC M.h c.i.a).isSome
   .rw[hb]at h;exact absurd rfl h
   .rfl
  .cases hb:!(gB M.r c.z.k).isSome&&decide (2000<=(M.r.length:Int))
   .rw[hb]at h;exact absurd rfl h
   .rfl
  .cases hb:!(gB M.r c.z.k).isSome
   .rw[hb]at h;exact absurd rfl h
   .rfl
  .cases hb:!(fD M.o c.q.w).isSome&&decide (100<=(M.o.length:Int))
   .rw[hb]at h;exact absurd rfl h
   .rfl
  .cases hb:!(fD M.o c.q.w).isSome
   .rw[hb]at h;exact absurd rfl h
   .rfl
 .rw[decide_eq_false he];rfl
theorem NU{c:ae}{M:ah}(h:eCh c≠0):zY c M=(eCh c,M):=by
 unfold zY
 rw[decide_eq_false h];rfl
section
variable {b:Nat} {m1:List (dy×ab)} {m2:List (dy×Int)} {m3:List (dy×aa)} {m4:List (dy×ai)} {fs:List aa} {off cut torn:Bool} {after writes:Int} {d:Dk}
theorem KF(h:Pd b m1 m2 m3 m4 fs off cut after torn writes d)(hb:b<=137438953472)(c:ae)(hc:gZ c) :
  ∃r,GQ c off cut after torn writes fs m1 m2 m3 m4=some r/\r.1=(eh c d).1 /\
   Pd (b+200) r.2.2.2.2.2.1 r.2.2.2.2.2.2.1 r.2.2.2.2.2.2.2.1 r.2.2.2.2.2.2.2.2 fs r.2.1 r.2.2.1 r.2.2.2.2.1 torn r.2.2.2.1 (eh c d).2:=by
 have hle:=h.bn.le (Nat.le_add_right b 200);have h0:Pd (b+200) m1 m2 m3 m4 fs off cut after torn writes d:={ h with bn:=hle };obtain⟨hg,hbn,hfs,hoff,hcut,haft,htorn,hw⟩:=h
 subst hfs;subst hoff;subst hcut;subst hw
 unfold GQ eh
 cases hof:d.off with
 |true=>exact⟨_,rfl,rfl,by rw[hof]at h0;exact h0⟩
 |false =>
  rw[hof]at h0;simp only[cond_false]
  by_cases hca:d.cut=true/\d.after=0
  .obtain⟨hc1,hc2⟩:=hca
   have ea:=haft hc1;have et:=htorn hc1
   subst ea;subst et
   rw[hc1,hc2,decide_eq_true rfl,Bool.and_self,cond_true,cond_true];rw[hc1,hc2]at h0;unfold Mj;rw[OC c hc,ze]
   by_cases he:eCh c=0
   .rw[decide_eq_true he,Bool.not_true,cond_false,B0 hbn hg c he,ze]
    by_cases hs:(zY c d.M).1=0
    .rw[decide_eq_true hs,Bool.not_true,cond_false,cond_false]
     cases ht:d.torn&&decide (c.u=1)with
     |false =>
      rw[cond_false,cond_false];exact⟨_,rfl,rfl,hg,hle,rfl,rfl,rfl,fun e=>(by cases e),fun e=>(by cases e),rfl⟩
     |true =>
      rw[cond_true,cond_true];simp only[Bool.and_eq_true,decide_eq_true_eq]at ht;obtain⟨p1,p2,p3⟩:=NW ht.2 hs;have pl:=(rx p1).2;obtain⟨a,c',ep,hp⟩:=yx hbn hg hb (lu c.i) (qb (rx p1).1) d.M.y;rw[zg (by decide),zg (by rw[ow pl];omega)];have ep':AG (ab.mk c.i.a (List.take ((IntKind.i64.wrap (Int.tdiv (c.i.B.length:Int) 2)).toNat) c.i.B) c.i.C) d.M.y m1 m2 m3 m4=some (a,c'):=ep;rw[ep',ze,ze];exact⟨_,rfl,rfl,oz hg (lu c.i) (Qc p1) p2 p3,hp,rfl,rfl,rfl,fun e=>(by cases e),fun e=>(by cases e),rfl⟩
    .rw[decide_eq_false hs,Bool.not_false,cond_true,cond_true,ze]
     exact⟨_,rfl,rfl,h0⟩
   .rw[decide_eq_false he,Bool.not_false,cond_true,ze,NU he,decide_eq_false he,Bool.not_false,cond_true]
    exact⟨_,rfl,rfl,h0⟩
  .have hif:(d.cut&&decide (after=0))=false:=by
    cases hq:d.cut with
    |false=>rfl
    |true =>
     rw[haft hq,Bool.true_and]
     exact decide_eq_false fun e=>hca ⟨hq,e⟩
   have hif2:(d.cut&&decide (d.after=0))=false:=by
    cases hq:d.cut with
    |false=>rfl
    |true =>
     rw[Bool.true_and]
     exact decide_eq_false fun e=>hca ⟨hq,e⟩
   rw[hif,hif2,cond_false,cond_false];obtain⟨a1,a2,a3,a4,e,hw'⟩:=KI hbn hg hb c hc d.M.y;rw[e,ze]
   by_cases hs:(zY c d.M).1=0
   .rw[decide_eq_true hs,Bool.not_true,cond_false,cond_false]
    cases hq:d.cut with
    |true =>
     rw[cond_true,cond_true];exact⟨_,rfl,rfl,mT hg c,hw',(yU c d.M).symm,rfl,rfl,fun _=>by rw[haft hq],fun _=>htorn hq,rfl⟩
    |false =>
     rw[cond_false,cond_false];exact⟨_,rfl,rfl,mT hg c,hw',(yU c d.M).symm,rfl,rfl,fun e=>(by cases e),fun e=>(by cases e),rfl⟩
   .rw[decide_eq_false hs,Bool.not_false,cond_true,cond_true]
    rw[tD hs]at hw';exact⟨_,rfl,rfl,hg,hw',rfl,hof.symm,rfl,haft,htorn,rfl⟩
theorem KG(h:Pd b m1 m2 m3 m4 fs off cut after torn writes d)(a:Int)(t:Bool) :
  ∃r,II a t off cut after torn writes fs m1 m2 m3 m4=some r/\r.1=(xI a t d).1/\Pd b m1 m2 m3 m4 fs off r.2.1 r.2.2.1 r.2.2.2 writes (xI a t d).2:=by
 have h0:=h;obtain⟨hg,hbn,hfs,hoff,hcut,haft,htorn,hw⟩:=h;unfold II xI
 cases decide (a<0)||decide (1000000<a)with
 |true=>exact⟨_,rfl,rfl,h0⟩
 |false =>
  rw[cond_false,cond_false,hoff]
  cases hof:d.off with
  |true=>rw[hoff,hof]at h0;exact⟨_,rfl,rfl,h0⟩
  |false=>exact⟨_,rfl,rfl,hg,hbn,hfs,rfl,rfl,fun _=>rfl,fun _=>rfl,hw⟩
theorem HQ(h:Pd b m1 m2 m3 m4 fs off cut after torn writes d):CH off cut after torn writes fs m1 m2 m3 m4=some (bif d.off then(FM,12)else(d.M,0)):=by
 unfold CH;rw[h.off,h.fs,NJ h.bn h.good,ze];exact iA _ _ _
end
section
variable {m1:List (dy×ab)} {m2:List (dy×dy)} {m3:List (dy×ai)} {fs:List aa} {off armed torn:Bool} {after writes:Int} {d:Dk}
end
theorem Pd.le{b b':Nat}{m1:List (dy×ab)}{m2:List (dy×Int)}{m3:List (dy×aa)}{m4:List (dy×ai)}{fs:List aa}{off cut torn:Bool}{after writes:Int}{d:Dk}
  (h:Pd b m1 m2 m3 m4 fs off cut after torn writes d) (hb:b<=b'):Pd b' m1 m2 m3 m4 fs off cut after torn writes d:={ h with bn:=h.bn.le hb }
theorem Bk{S Z:Type}{F:S->Option Z}{m:(S->Option Z)->Option Z}{v:Z}(hF:∀s,F s=some v)(hm:∀k,(∀s,k s=some v)->m k=some v):jp F m=some v:=hm F hF
theorem Fb{S Z:Type}{F:S->Option Z}{m:(S->Option Z)->Option Z}{v:Z}(J:S->Prop)(hF:∀s,J s->F s=some v)(hm:∀k,(∀s,J s->k s=some v)->m k=some v):jp F m=some v:=hm F hF
def JR(M:ah):Dk:=⟨M,false,false,0,false,0⟩
theorem KE{M:ah}(hg:Good M):∃m1 m2 m3 m4,Ir M=some (0,M.y,M.h,M.r,M.o,m1,m2,m3,m4,M.y,false,false,0,false,0)/\Pd 400000 m1 m2 m3 m4 M.y false false 0 false 0 (JR M):=by
 obtain⟨m1,m2,m3,m4,e,h⟩:=Oo hg;unfold Ir;rw[OK M hg.fit,ze,(DB M).2 hg,decide_eq_true rfl,Bool.not_true,cond_false,e,ze];exact⟨_,_,_,_,rfl,hg,h,rfl,rfl,rfl,fun _=>rfl,fun _=>rfl,rfl⟩
theorem sB{k:dy}(h:eH k=true):eCh (dZ k)=0:=by
 unfold eCh;have h1:uR (dZ k)=true:=rfl
 have h2:ju (dZ k)=0:=by show(bif !eH k then(5:Int)else 0)=0;rw[h];rfl
 have h3:iH (dZ k) (mO (dZ k))=true:=by
  show iH (dZ k) ⟨2,⟨k,[],false⟩,eI,eC⟩=true
  simp[iH,iQ,iM,jM,dZ,eI,eC]
 rw[h1,h2,h3];rfl
theorem Bz{k:dy}(h:eH k=true):eCh (yA k)=0:=by
 unfold eCh;have h1:uR (yA k)=true:=rfl
 have h2:ju (yA k)=0:=by show(bif !eH k then(5:Int)else 0)=0;rw[h];rfl
 have h3:iH (yA k) (mO (yA k))=true:=by
  show iH (yA k) ⟨4,eE,⟨k,[]⟩,eC⟩=true
  simp[iH,iQ,iM,jM,yA,eE,eC]
 rw[h1,h2,h3];rfl
theorem BD{k:dy}(h:eS k=true):eCh (yz k)=0:=by
 unfold eCh;have h1:uR (yz k)=true:=rfl
 have h2:ju (yz k)=0:=by show(bif !eS k then(5:Int)else 0)=0;rw[h];rfl
 have h3:iH (yz k) (mO (yz k))=true:=by
  show iH (yz k) ⟨6,eE,eI,⟨k,[],false,false⟩⟩=true
  simp[iH,iQ,iM,jM,yz,eE,eI]
 rw[h1,h2,h3];rfl
theorem oM{f:ab}(h:gc f=0):eCh (eW f)=0:=by
 unfold eCh;have h1:uR (eW f)=true:=rfl;have h2:ju (eW f)=0:=h
 have h3:iH (eW f) (mO (eW f))=true:=by
  show iH (eW f) ⟨1,f,eI,eC⟩=true
  simp[iH,iQ,iM,jM,eW,eI,eC]
 rw[h1,h2,h3];rfl
theorem xx{f:aa}(h:js f=0):eCh (j3 f)=0:=by
 unfold eCh;have h1:uR (j3 f)=true:=rfl;have h2:ju (j3 f)=0:=h
 have h3:iH (j3 f) (mO (j3 f))=true:=by
  show iH (j3 f) ⟨3,eE,f,eC⟩=true
  simp[iH,iQ,iM,jM,j3,eE,eC]
 rw[h1,h2,h3];rfl
theorem xw{f:ai}(h:jL f=0):eCh (j4 f)=0:=by
 unfold eCh;have h1:uR (j4 f)=true:=rfl;have h2:ju (j4 f)=0:=h
 have h3:iH (j4 f) (mO (j4 f))=true:=by
  show iH (j4 f) ⟨5,eE,eI,f⟩=true
  simp[iH,iQ,iM,jM,j4,eE,eI]
 rw[h1,h2,h3];rfl
section
variable {M:ah} {l:List ae}
end
section
variable {A:Type} {key:A->dy}
end
section
variable {l:List ae}
end
theorem uI{M:ah}(hM:Good M)(l:List ae)(hl:∀c∈l,gZ c)(hn:l.length<=134217728):HZ M l=some (bif !decide ((z6 l M).2=0)then([],(z6 l M).2)else(uO (z6 l M).1 M,0)):=by
 unfold HZ;rw[LW hM l hl hn,ze]
 by_cases h:(z6 l M).2=0
 .rw[decide_eq_true h]
  simp only[Bool.not_true,cond_false];rw[uH (LS hM l h).1 hM,ze]
 .rw[decide_eq_false h];rfl
theorem MM{A Z:Type}(x:A)(k:A->Option Z):fj x k=k x:=rfl
def fc:dy:=[115,116,97,103,101]
def wJrn:dy:=[115,116,97,103,101,47,106,111,117,114,110,97,108]
def wDone:dy:=[115,116,97,103,101,47,100,111,110,101]
def rn:dy:=[115,116,97,103,101,47,98,97,99,107]
def stg(p:dy):Bool:=dX p fc
theorem OP(p:dy):Gg p=some (stg p):=by
 unfold Gg;exact(congrArg (fun x=>Vc.call x fun r_2=>some r_2) (Na p fc (by decide))).trans rfl
def g8(M:ah):ah:=⟨M.y,M.h.filter (fun f=>!stg f.a),M.r,M.o⟩
theorem QL{M:ah}(h:Good M)(q:ab->Bool):Good ⟨M.y,M.h.filter q,M.r,M.o⟩ :=
 { h with
  c2:=Nat.le_trans (length_filter_le _ _) h.c2
  g1:=fun x hx=>h.g1 x (mem_filter.1 hx).1
  g2:=h.g2.filter _
  g3:=fun x hx y hy=>h.g3 x (mem_filter.1 hx).1 y (mem_filter.1 hy).1 }
theorem Co{M:ah}(h:Good M):Good (g8 M):=QL h _
theorem Wr.keys1{m1:List (dy×ab)}{m2:List (dy×dy)}{m3:List (dy×ai)}{M:ah}(h:Wr m1 m2 m3 M):jv m1=M.h.map (·.a):=by
 rw[<-h.e1];exact(vI (key:=fun x:ab=>x.a) h.k1).symm
theorem Wr.mem_key{m1:List (dy×ab)}{m2:List (dy×dy)}{m3:List (dy×ai)}{M:ah}(h:Wr m1 m2 m3 M){f:ab}(hf:f∈M.h):f.a∈m1.map (·.1):=by
 rw[mem_keys,<-mem_keysM,h.keys1];exact mem_map_of_mem hf
theorem PZ{M:ah}(hM:Good M):FY M=some (g8 M):=by
 obtain⟨m1,m2,m3,e,hw⟩:=On hM;unfold FY;rw[e,ze];simp only[dH];rw[zg hw.n1];refine KZ (fun r s=>(r.map (·.1)).Nodup/\Wr s m2 m3 ⟨M.y,M.h.filter (fun f=>!stg f.a||decide (f.a∈r.map (·.1))),M.r,M.o⟩) (fun s hs=>?_) (fun r s nx x j hs hx hnx=>?_) _ _ _ rfl ⟨hw.n1,?_⟩
 .have h2:=hs.2
  simp only[map_nil,not_mem_nil,decide_false,Bool.or_false]at h2;rw[show CG M.y s m2 m3=some (g8 M)from Qm (M:=g8 M) h2 (Co hM),ze]
 .obtain⟨hn,hs⟩:=hs
  have hp:=(L8 hx).map (fun p:dy×ab=>p.1);rw[map_cons]at hp;have hn':=hp.nodup_iff.1 hn;rw[nodup_cons]at hn';rw[OP,ze]
  cases hst:stg x.1 with
  |true =>
   rw[cond_true];refine hnx _ ⟨hn'.2,?_⟩;have:=hs.del1 x.1;unfold fW at this;rw[filter_filter]at this
   have hf:(M.h.filter fun a=>(!decide (a.a=x.1))&&(!stg a.a||decide (a.a∈r.map (·.1))))=M.h.filter fun f=>!stg f.a||decide (f.a∈(r.eraseIdx j).map (·.1)):=by
    refine filter_congr fun f _=>?_
    by_cases h:f.a=x.1
    .rw[decide_eq_true h,h,hst]
     simp only[Bool.not_true,Bool.false_and,Bool.false_or];exact(decide_eq_false hn'.1).symm
    .rw[decide_eq_false h,Bool.not_false,Bool.true_and]
     congr 1
     refine decide_eq_decide.2 ?_;rw[hp.mem_iff,mem_cons];exact⟨fun q=>q.resolve_left h,.inr⟩
   simp only[hf]at this;exact this
  |false =>
   rw[cond_false];refine hnx _ ⟨hn'.2,?_⟩
   have hf:(M.h.filter fun f=>!stg f.a||decide (f.a∈r.map (·.1)))=M.h.filter fun f=>!stg f.a||decide (f.a∈(r.eraseIdx j).map (·.1)):=by
    refine filter_congr fun f _=>?_
    by_cases h:f.a=x.1
    .rw[h,hst];rfl
    .congr 1
     refine decide_eq_decide.2 ?_;rw[hp.mem_iff,mem_cons];exact⟨fun q=>q.resolve_left h,.inr⟩
   rw[hf]at hs;exact hs
 .have hf:(M.h.filter fun f=>!stg f.a||decide (f.a∈m1.map (·.1)))=M.h:=by
   rw[filter_eq_self];intro f hf;rw[decide_eq_true (hw.mem_key hf),Bool.or_true]
  rw[hf];exact hw
structure jI(c:ae):Prop where
 sm:gZ c
 n:Sm c.q.w
def zbh(c:ae):dy :=
 bif decide (c.u=1)||decide (c.u=2)then [102,105,108,101,32]++c.i.a else
 bif decide (c.u=3)||decide (c.u=4)then [115,101,116,116,105,110,103,32]++c.z.k else [115,101,114,118,105,99,101,32]++c.q.w
theorem rl(c:ae)(h:jI c):B8 c=some (zbh c):=by
 have h1:=h.sm.fp;have h2:=h.sm.sp;have h3:=h.n;unfold Sm at h1 h2 h3;unfold B8 zbh;simp only[dH];rw[zg (by simp;omega),zg (by simp;omega),zg (by simp;omega)]
 cases decide (c.u=1) <;> cases decide (c.u=2) <;> cases decide (c.u=3) <;> cases decide (c.u=4) <;> rfl
def jB(c:ae):Bool:=(decide (c.u=1)||decide (c.u=2))&&(decide (c.i.a=fc)||stg c.i.a)
def gG(M:ah)(l:List ae):Int :=
 bif (dC M.h fc).isSome then 11 else bif !l.all (fun c=>!jB c)then 17 else
 bif !decide ((z6 l (g8 M)).2=0)then(z6 l (g8 M)).2 else bif decide ((l.length:Int)=0)then 9 else
 bif decide (l.map zbh).Nodup then 0 else 6
theorem Qy{Z:Type}(k:Option Z)(z:Z):∀(l:List ae) (i:Nat) (m:List (dy×Bool)),(∀c∈l,jI c)->m.length+l.length<=274877906944->(m.map (·.1)).Nodup->(∀p∈m,p.2=true) ->
  forL l i (fun i_67 c_69 m2_57 nx_66 k_65 =>
   call (B8 c_69) fun r_70 =>
   fj (zG m2_57 r_70) fun q_71 =>
   bif (q_71.getD false)then
    some z
   else
   call (B8 c_69) fun r_73 =>
   dA ((dF m2_57 r_73 true).length<=274877906944) <|
   nx_66 (dF m2_57 r_73 true)) m (fun m2_57=>k)=bif decide (m.map (·.1)++l.map zbh).Nodup then k else some z
 |[],i,m,_,_,hn,_=>by
  unfold forL
  rw[map_nil,append_nil,decide_eq_true hn];rfl
 |c::l,i,m,hl,hlen,hn,ht=>by
  unfold forL;have hc:=rl c (hl c (mem_cons_self ..));have hla:=Am m (zbh c) true;simp only[length_cons]at hlen;dsimp only;rw[hc,ze,ze,MM]
  cases ha:zG m (zbh c)with
  |some b =>
   have hb:=ht _ (Lx ha);simp only at hb;rw[hb];simp only[Option.getD_some,cond_true]
   rw[decide_eq_false];· rfl
   intro hd;have:=(nodup_append.1 hd).2.2 (zbh c) (mem_keys.2 (by rw[ha];rfl)) (zbh c) (by simp);exact this rfl
  |none =>
   rw[ha]at hla;simp only[Option.getD_none,cond_false];rw[zg (by rw[hla];simp;omega),Qy k z l _ _ (fun x hx=>hl x (mem_cons_of_mem _ hx)) (by rw[hla];simp;omega) (Az hn _ _) ?_]
   .rw[HW,ha]
    simp
   .intro p hp
    rw[pp _ _ _ (alook_none.1 ha)]at hp
    rcases mem_append.1 hp with hp|hp
    .exact ht p hp
    .rw[mem_singleton]at hp;rw[hp]
theorem ra(a b c d:Bool):((a||b)&&(c||bif (a||b)&&!c then d else false))=((a||b)&&(c||d)):=by
 cases a <;> cases b <;> cases c <;> rfl
theorem pF{M:ah}(hM:Good M)(l:List ae)(hl:∀c∈l,jI c)(hn:l.length<=134217728):GP M l=some (gG M l):=by
 obtain⟨m1,m2,m3,e,hw⟩:=On hM;unfold GP gG;rw[PY M hM.fit,ze,(DB M).2 hM,decide_eq_true rfl,Bool.not_true,cond_false,e,ze,MM];rw[show zG m1 ([115,116,97,103,101]:dy)=dC M.h fc from hw.look1 _];cases (dC M.h fc).isSome
 .simp only[cond_false,dH]
  rw[sY (fun c=>!jB c) (z:=(17:Int)) fun i c nx k=>?_]
  .cases hd:l.all fun c=>!jB c
   .rfl
   .simp only[cond_true,Bool.not_true,cond_false]
    have hg:=Co hM;rw[PZ hM,ze,PX _ hg.fit l (fun c hc=>(hl c hc).sm),ze];unfold mH;rw[(DB _).2 hg,decide_eq_true rfl,Bool.not_true,cond_false];cases hs:decide ((z6 l (g8 M)).2=0)
    .rfl
    .simp only[Bool.not_true,cond_false]
     cases h0:decide ((l.length:Int)=0)
     .simp only[cond_false]
      rw[Qy _ _ l 0 [] hl (by simp;omega) (by simp) (by simp)];simp only[map_nil,nil_append];exact iA _ _ _
     .rfl
  .rw[OP,iT]
   unfold jB;rw[show(decide (c.i.a=([115,116,97,103,101]:dy)))=decide (c.i.a=fc)from rfl,ra,vc]
 .rfl
def uW(M:ah)(l:List ae):List ae :=
 (l.take 12).foldl (fun o c=>bif decide (gG M (o++[c])=0)then o++[c]else o) []
theorem OE(M:ah)(hM:Good M):∀(r:List ae) (i:Nat) (o:List ae),(∀c∈r,jI c)->(∀c∈o,jI c)->o.length+r.length<=1000 ->
  forL r i (fun i_46 c_48 o1_38 nx_45 k_44 =>
  call (zW o1_38) fun r_49 =>
  dA ((r_49++[c_48]).length<=274877906944) <|
  call (GP M (r_49++[c_48])) fun r_51 =>
  bif decide (r_51=0)then
   dA ((o1_38++[c_48]).length<=274877906944) <|
   nx_45 (o1_38++[c_48])
  else
  nx_45 o1_38) o (fun o1_38=>some o1_38)=some (r.foldl (fun o c=>bif decide (gG M (o++[c])=0)then o++[c]else o) o)
 |[],_,_,_,_,_=>rfl
 |c::r,i,o,hr,ho,hn=>by
  unfold forL;simp only[length_cons]at hn
  have ho':∀x∈o++[c],jI x:=fun x hx=>by
   rcases mem_append.1 hx with hx|hx
   .exact ho x hx
   .rw[mem_singleton.1 hx];exact hr c (mem_cons_self ..)
  dsimp only;rw[show zW o=some o from yS o (by omega),ze,zg (by simp;omega),pF hM _ ho' (by simp;omega),ze,foldl_cons]
  have hr':∀x∈r,jI x:=fun x hx=>hr x (mem_cons_of_mem _ hx)
  cases decide (gG M (o++[c])=0)
  .simp only[cond_false]
   exact OE M hM r (i+1) o hr' ho (by omega)
  .simp only[cond_true]
   rw[zg (by simp;omega)];exact OE M hM r (i+1) (o++[c]) hr' ho' (by simp;omega)
theorem tf{M:ah}(hM:Good M)(l:List ae)(hl:∀c∈l,jI c)(hn:l.length<=134217728):Ib M l false=some (uW M l):=by
 unfold Ib uW;simp only[cond_false,dH]
 have hmin:(min (l.length:Int) 12).toNat=min l.length 12:=by omega
 rw[zg (by omega),hmin]
 have ht:l.take (min l.length 12)=l.take 12:=by rw[<-take_take,take_of_length_le (by simp;omega)]
 rw[ht];exact OE M hM (l.take 12) 0 [] (fun c hc=>hl c (mem_of_mem_take hc)) (by simp) (by simp;omega)
theorem Qb(M:ah):∀(r o:List ae),∀c∈r.foldl (fun o c=>bif decide (gG M (o++[c])=0)then o++[c]else o) o,c∈o∨c∈r
 |[],o,c,h=>.inl h
 |x::r,o,c,h=>by
  rw[foldl_cons]at h
  rcases Qb M r _ c h with h|h
  .cases hd:decide (gG M (o++[x])=0) <;> rw[hd]at h
   .exact .inl h
   .rcases mem_append.1 h with h|h
    .exact .inl h
    .rw[mem_singleton.1 h];exact .inr (mem_cons_self ..)
  .exact .inr (mem_cons_of_mem _ h)
theorem LV{M:ah}{l:List ae}:∀c∈uW M l,c∈l:=fun c h=>by
 rcases Qb M _ _ c h with h|h
 .cases h
 .exact mem_of_mem_take h
theorem Qa(M:ah):∀(r o:List ae),(r.foldl (fun o c=>bif decide (gG M (o++[c])=0)then o++[c]else o) o).length<=o.length+r.length
 |[],o=>Nat.le_refl _
 |x::r,o=>by
  rw[foldl_cons];have:=Qa M r (bif decide (gG M (o++[x])=0)then o++[x]else o)
  have h2:(bif decide (gG M (o++[x])=0)then o++[x]else o).length<=o.length+1:=by
   cases decide (gG M (o++[x])=0) <;> simp
  simp only[length_cons];omega
theorem j6(M:ah)(l:List ae):(uW M l).length<=12:=by
 have:=Qa M (l.take 12) [];simp only[length_take,length_nil]at this;unfold uW;omega
noncomputable def pU(s:dy):aj×Int:=(AH s).getD (ZJ,8)
theorem rO(s:dy)(hs:s.length<=4194304):AH s=some (pU s):=by
 obtain⟨L,t,_,_,_,_,h5⟩:=LN s hs;unfold pU;rw[h5];rfl
noncomputable def gN(M:ah):aj×Int:=match dC M.h wJrn with
 |none=>(ZJ,0)
 |some f=>bif !decide ((pU f.B).2=0)then(ZJ,1)else((pU f.B).1,2)
theorem kU{M:ah}(hM:Good M){f:ab}(hf:f∈M.h):f.B.length<=65536:=(rx (hM.g1 f hf)).2
theorem sc(p:dy)(l:List ab):∀(r:List ab) (i:Nat),l.drop i=r ->
  (forL r i (fun i_37 f_39 s nx_36 k_35 =>
  call (GX f_39 p) fun r_40 =>
  bif r_40 then
   some (i_37:Int)
  else
  nx_36 ()) () (fun _=>some (-1))=some (-1)/\dC r p=none) ∨
  ∃j:Nat,∃h:j<l.length,forL r i (fun i_37 f_39 s nx_36 k_35 =>
  call (GX f_39 p) fun r_40 =>
  bif r_40 then
   some (i_37:Int)
  else
  nx_36 ()) () (fun _=>some (-1))=some (j:Int)/\dC r p=some l[j]
 |[],i,_=>.inl ⟨rfl,rfl⟩
 |f::r,i,hd=>by
  have hi:i<l.length:=by
   rcases Nat.lt_or_ge i l.length with h|h
   .exact h
   .rw[drop_eq_nil_of_le h]at hd;cases hd
  have hx:=drop_eq_getElem_cons hi;rw[hd]at hx;obtain⟨h1,h2⟩:=List.cons.inj hx;unfold forL;dsimp only;unfold GX;rw[ze]
  by_cases hp:f.a=p
  .refine .inr ⟨i,hi,?_,?_⟩
   .rw[decide_eq_true hp];rfl
   .show List.find? _ (f::r)=_
    rw[find?_cons_of_pos (by simpa using hp),h1]
  .rw[decide_eq_false hp,cond_false]
   have hf:dC (f::r) p=dC r p:=by
    show List.find? _ (f::r)=List.find? _ r
    rw[find?_cons_of_neg (by simpa using hp)]
   rw[hf];exact sc p l r (i+1) h2.symm
theorem kV(M:ah)(p:dy):DT M p=some (match dC M.h p with|none=>(eE,false)|some f=>(f,true)):=by
 unfold DT ME;simp only[dH]
 rcases sc p M.h M.h 0 rfl with⟨h1,h2⟩|⟨j,hj,h1,h2⟩
 .rw[h1,h2,ze];rfl
 .rw[h1,h2,ze,decide_eq_false (by omega),cond_false,ft hj]
theorem rY{M:ah}(hM:Good M):Gp M=some (gN M):=by
 unfold Gp gN;rw[show DT M ([115,116,97,103,101,47,106,111,117,114,110,97,108]:dy)=_ from kV M wJrn,ze]
 cases h:dC M.h wJrn with
 |none=>rfl
 |some f =>
  have hd:=kU hM (jE h).1;simp only[Bool.not_true,cond_false];rw[rO f.B (by omega),ze];exact iA _ _ _
def fe(last:dy)(M:ah):List ae :=
 ((M.h.map (·.a)).filter (fun k=>!decide (k=last)&&stg k)).map dZ++bif decide (last∈M.h.map (·.a))then [dZ last]else []
theorem nY{a b:ah}{c:ae}(h:c∈uO a b) :
  (∃f∈a.h,c=dZ f.a)∨(∃s∈a.r,c=yA s.k)∨(∃s∈a.o,c=yz s.w)∨(∃f∈b.h,c=eW f)∨(∃s∈b.r,c=j3 s)∨(∃s∈b.o,c=j4 s):=by
 unfold uO at h;simp only[mem_append,mem_map]at h
 rcases h with((((⟨f,hf,rfl⟩|⟨f,hf,rfl⟩)|⟨f,hf,rfl⟩)|⟨f,hf,rfl⟩)|⟨f,hf,rfl⟩)|⟨f,hf,rfl⟩
 .exact .inl ⟨f,(mem_filter.1 hf).1,rfl⟩
 .exact .inr (.inl ⟨f,(mem_filter.1 hf).1,rfl⟩)
 .exact .inr (.inr (.inl ⟨f,(mem_filter.1 hf).1,rfl⟩))
 .exact .inr (.inr (.inr (.inl ⟨f,(mem_filter.1 hf).1,rfl⟩)))
 .exact .inr (.inr (.inr (.inr (.inl ⟨f,(mem_filter.1 hf).1,rfl⟩))))
 .exact .inr (.inr (.inr (.inr (.inr ⟨f,(mem_filter.1 hf).1,rfl⟩))))
theorem sC{a b:ah}(ha:Good a)(hb:Good b){c:ae}(h:c∈uO a b):eCh c=0:=by
 rcases nY h with⟨f,hf,rfl⟩|⟨f,hf,rfl⟩|⟨f,hf,rfl⟩|⟨f,hf,rfl⟩|⟨f,hf,rfl⟩|⟨f,hf,rfl⟩
 .exact sB (rx (ha.g1 f hf)).1
 .exact Bz (Lr (ha.s1 f hf)).1
 .exact BD (LB (ha.v1 f hf)).1
 .exact oM (hb.g1 f hf)
 .exact xx (hb.s1 f hf)
 .exact xw (hb.v1 f hf)
structure Brf(c:ae):Prop where
 fp:c.i.a.length<=1000
 fd:c.i.B.length<=65536
 sk:c.z.k.length<=1000
 sv:c.z.Value.length<=1000
 vn:c.q.w.length<=1000
 vp:c.q.a.length<=1000
theorem Brf.x{c:ae}(h:Brf c):jI c:=⟨⟨by have:=h.fp;unfold Sm;omega,by have:=h.sk;unfold Sm;omega,by have:=h.vp;unfold Sm;omega⟩,by have:=h.vn;unfold Sm;omega⟩
theorem Brf.d{c:ae}(h:Brf c):BW c:=⟨by have:=h.fd;omega,by have:=h.sv;omega⟩
theorem Ho{k:dy}(h:k.length<=1000):Brf (dZ k):=⟨h,Nat.zero_le _,Nat.zero_le _,Nat.zero_le _,Nat.zero_le _,Nat.zero_le _⟩
theorem mE{f:ab}(h:f.a.length<=1000)(h':f.B.length<=65536):Brf (eW f):=⟨h,h',Nat.zero_le _,Nat.zero_le _,Nat.zero_le _,Nat.zero_le _⟩
theorem MW{a b:ah}(ha:Good a)(hb:Good b){c:ae}(h:c∈uO a b):Brf c:=by
 have z:=Nat.zero_le
 rcases nY h with⟨f,hf,rfl⟩|⟨f,hf,rfl⟩|⟨f,hf,rfl⟩|⟨f,hf,rfl⟩|⟨f,hf,rfl⟩|⟨f,hf,rfl⟩
 .have:=qb (rx (ha.g1 f hf)).1
  exact Ho (by omega)
 .have:=qb (Lr (ha.s1 f hf)).1
  exact⟨z _,z _,by show f.k.length<=1000;omega,z _,z _,z _⟩
 .have:=Qp (LB (ha.v1 f hf)).1
  exact⟨z _,z _,z _,z _,by show f.w.length<=1000;omega,z _⟩
 .have:=rx (hb.g1 f hf)
  have h1:=qb this.1;exact mE (by omega) this.2
 .have:=Lr (hb.s1 f hf)
  have h1:=qb this.1;have h2:=na this.2;exact⟨z _,z _,by show f.k.length<=1000;omega,by show f.Value.length<=1000;omega,z _,z _⟩
 .have:=LB (hb.v1 f hf)
  have h1:=Qp this.1;have h2:=qb this.2;exact⟨z _,z _,z _,z _,by show f.w.length<=1000;omega,by show f.a.length<=1000;omega⟩
theorem oN{a b:ah}(ha:Good a)(hb:Good b):(uO a b).length<=10000:=by
 have a2:=ha.c2;have a3:=ha.c3;have a4:=ha.c4;have b2:=hb.c2;have b3:=hb.c3;have b4:=hb.c4;have h1:=F3 (·.a) a.h b.h;have h2:=F3 (·.k) a.r b.r;have h3:=F3 (·.w) a.o b.o;have h4:=F0 (·.a) iQ a.h b.h;have h5:=F0 (·.k) iM a.r b.r;have h6:=F0 (·.w) jM a.o b.o;unfold uO;simp only[length_append,length_map];omega
theorem wW{c:ae}(h:Brf c):(iN c).length+1<=300000:=by
 have q1:=LO c.i.B;have q2:=LO c.z.Value;have b1:=FZ c.q.D;have b2:=FZ c.q.E;obtain⟨h1,h2,h3,h4,h5,h6⟩:=h;unfold iN jf qx qt;cases decide (c.u=1)
 .cases decide (c.u=2)
  .cases decide (c.u=3)
   .cases decide (c.u=4)
    .cases decide (c.u=5)
     .simp only[cond_false,length_append,length_cons,length_nil];omega
     .simp only[cond_false,cond_true,length_append,length_cons,length_nil,b1,b2];omega
    .simp only[cond_false,cond_true,length_append,length_cons,length_nil];omega
   .simp only[cond_false,cond_true,length_append,length_cons,length_nil];omega
  .simp only[cond_false,cond_true,length_append,length_cons,length_nil];omega
 .cases c.i.C <;> (simp only[cond_false,cond_true,length_append,length_cons,length_nil];omega)
theorem kr:∀l:List ae,(∀c∈l,Brf c)->(gg l).length<=300000*l.length
 |[],_=>by simp[gg]
 |c::l,h=>by
  have h1:=wW (h c (mem_cons_self ..))
  have h2:=kr l fun d hd=>h d (mem_cons_of_mem _ hd)
  rw[Gy];simp only[length_append,length_cons,length_nil];omega
structure uC(l:List ae):Prop where
 c:∀c∈l,gZ c
 d:∀c∈l,BW c
 p:(gg l).length<=8589934592
 n:l.length<=4194304
theorem xz{a b:ah}(ha:Good a)(hb:Good b):uC (uO a b):=by
 have h1:=oN ha hb
 have h2:=kr (uO a b) fun c hc=>MW ha hb hc
 exact⟨fun c hc=>(MW ha hb hc).x.sm,fun c hc=>(MW ha hb hc).d,by omega,by omega⟩
theorem kv(w:dy)(l:List ae)(hw:w.length<=10)(h:uC l):(pO w l).length<=9000000000:=by
 have h1:=h.p;have h2:=Oe h.n;unfold pO;simp only[length_append,length_cons];omega
theorem Od:∀(l:List ae) {M:ah},Good M->(z6 l M).2=0->Good (z6 l M).1
 |[],M,h,_=>h
 |c::l,M,h,hs=>by
  unfold z6 at hs|-
  by_cases h0:(zY c M).1=0
  .rw[decide_eq_true h0]at hs|-
   exact Od l (mT h c) hs
  .rw[decide_eq_false h0]at hs
   exact absurd hs h0
theorem QS{M:ah}{l:List ae}(h:gG M l=0):(z6 l (g8 M)).2=0:=by
 unfold gG at h;cases h1:(dC M.h fc).isSome
 .rw[h1,cond_false]at h
  cases h2:!l.all (fun c=>!jB c)
  .rw[h2,cond_false]at h
   cases h3:decide ((z6 l (g8 M)).2=0)
   .rw[h3]at h
    exact h
   .exact of_decide_eq_true h3
  .rw[h2]at h;cases h
 .rw[h1]at h;cases h
def iq(M:ah)(id:dy)(l:List ae)(t:dy):List ae :=
 (fe wJrn M++[eW ⟨wJrn,t,false⟩])++l++[eW ⟨wDone,id,false⟩,dZ wJrn,dZ wDone]
def fR(M:ah)(l:List ae):List ae:=uO (z6 l (g8 M)).1 (g8 M)
noncomputable def lA(M:ah)(id:dy)(l:List ae):List ae×Int :=
 bif !decide (gG M l=0)then([],gG M l)else bif !eS id then([],5)else
 bif ((dC M.h wDone).isSome||(dC M.h rn).isSome)||decide ((gN M).2=2)then([],12)else
 bif !decide ((pJ ⟨id,l,fR M l⟩).2=0)then([],(pJ ⟨id,l,fR M l⟩).2)else
 bif !decide ((z6 (iq M id l (pJ ⟨id,l,fR M l⟩).1) M).2=0)then([],(z6 (iq M id l (pJ ⟨id,l,fR M l⟩).1) M).2)else(iq M id l (pJ ⟨id,l,fR M l⟩).1,0)
theorem NL{M:ah}(hM:Good M)(last:dy):(fe last M).length<=2001:=by
 have h2:=hM.c2;have hfl:=length_filter_le (fun k=>!decide (k=last)&&stg k) (M.h.map (·.a));rw[length_map]at hfl;unfold fe
 cases decide (last∈M.h.map (·.a)) <;> (simp only[cond_true,cond_false,length_append,length_map,length_singleton,length_nil];omega)
theorem nO{M:ah}(hM:Good M){k:dy}(h:k∈M.h.map (·.a)):k.length<=1000:=by
 obtain⟨f,hf,rfl⟩:=mem_map.1 h;have:=qb (rx (hM.g1 f hf)).1;omega
theorem k0{M:ah}(hM:Good M)(last:dy):∀c∈fe last M,Brf c:=fun c hc=>by
 unfold fe at hc
 rcases mem_append.1 hc with hc|hc
 .obtain⟨k,hk,rfl⟩:=mem_map.1 hc
  exact Ho (nO hM (mem_filter.1 hk).1)
 .cases hd:decide (last∈M.h.map (·.a)) <;> rw[hd]at hc
  .cases hc
  .rw[mem_singleton.1 hc]
   exact Ho (nO hM (of_decide_eq_true hd))
theorem wA{j:aj}(h:(pJ j).2=0):(pJ j).1.length<=65536:=by
 obtain⟨ok,e⟩:=CK h;rw[e];exact ok.len
theorem rP{M:ah}(hM:Good M){id:dy}(hid:id.length<=40){l:List ae}(hl:∀c∈l,jI c){t:dy}(ht:t.length<=65536):∀c∈iq M id l t,jI c:=fun c hc=>by
 unfold iq at hc;simp only[mem_append,mem_cons,not_mem_nil,or_false]at hc
 rcases hc with((hc|rfl)|hc)|rfl|rfl|rfl
 .exact(k0 hM _ c hc).x
 .exact(mE (f:=⟨wJrn,t,false⟩) (show wJrn.length<=1000 by decide) ht).x
 .exact hl c hc
 .exact(mE (f:=⟨wDone,id,false⟩) (show wDone.length<=1000 by decide) (by show id.length<=65536;omega)).x
 .exact(Ho (by decide)).x
 .exact(Ho (by decide)).x
theorem qe{M:ah}(hM:Good M)(id:dy)(l:List ae)(hl:∀c∈l,jI c):∀c∈(lA M id l).1,jI c:=fun c hc=>by
 unfold lA at hc;cases h0:!decide (gG M l=0)
 .rw[h0,cond_false]at hc
  cases hid:eS id
  .rw[hid]at hc;cases hc
  rw[hid]at hc;simp only[Bool.not_true,cond_false]at hc
  cases h1:((dC M.h wDone).isSome||(dC M.h rn).isSome)||decide ((gN M).2=2)
  .rw[h1,cond_false]at hc
   by_cases hp:(pJ ⟨id,l,fR M l⟩).2=0
   .rw[decide_eq_true hp,Bool.not_true,cond_false]at hc
    cases h2:!decide ((z6 (iq M id l (pJ ⟨id,l,fR M l⟩).1) M).2=0)
    .rw[h2,cond_false]at hc
     exact rP hM (Le hid) hl (wA hp) c hc
    .rw[h2]at hc;cases hc
   .rw[decide_eq_false hp]at hc;cases hc
  .rw[h1]at hc;cases hc
 .rw[h0]at hc;cases hc
def dO:List ae->Dk->Int×Dk
 |[],d=>(0,d)
 |c::l,d=>bif !decide ((eh c d).1=0)then eh c d else dO l (eh c d).2
noncomputable def zkT(id:dy)(l:List ae)(d:Dk):Int×Dk :=
 bif d.off then(12,d)else bif !decide ((lA d.M id l).2=0)then((lA d.M id l).2,d)else dO (lA d.M id l).1 d
section
variable {m1:List (dy×ab)} {m2:List (dy×dy)} {m3:List (dy×ai)} {fs:List aa} {off armed torn:Bool} {after writes:Int} {d:Dk}
end
theorem LL(p:dy):AE p=some (stg p):=OP p
theorem Hk{α:Type}{g:α->Option Bool}(q:α->Bool)(hg:∀x,g x=some (q x)):∀(l:List α) (i:Nat),
  ∃n:Int,forL l i (fun i f s nx k=>call (g f) fun r=>bif r then some (i:Int)else nx ()) () (fun _=>some (-1))=some n/\decide (0<=n)=l.any q
 |[],i=>⟨-1,rfl,rfl⟩
 |x::l,i=>by
  unfold forL;dsimp only;rw[hg,ze,any_cons];cases q x
  .rw[cond_false,Bool.false_or]
   exact Hk q hg l (i+1)
  .exact⟨i,rfl,by rw[Bool.true_or];exact decide_eq_true (by omega)⟩
theorem ye(l:List ab)(p:dy):l.any (fun f=>decide (f.a=p))=(dC l p).isSome:=by
 induction l with
 |nil=>rfl
 |cons x l ih =>
  rw[any_cons]
  show _=(List.find? _ (x::l)).isSome
  by_cases h:x.a=p
  .rw[find?_cons_of_pos (by simpa using h),decide_eq_true h];rfl
  .rw[find?_cons_of_neg (by simpa using h),decide_eq_false h,Bool.false_or];exact ih
theorem um(l:List ab):zQ l=some (dC l fc).isSome:=by
 unfold zQ MD;simp only[dH];obtain⟨n,h1,h2⟩:=Hk (g:=Ms) (fun f:ab=>decide (f.a=fc)) (fun _=>rfl) l 0;rw[h1,ze,h2,ye]
def yF(M:ah):Bool:=M.h.any fun f=>stg f.a
theorem k6(f:ab):Cu f=some (stg f.a):=by unfold Cu;rw[LL,ze]
theorem sj(l:List ab)(i:Nat)(h:i<l.length):l.getD i (ab.mk [] [] false)=l[i]:=by
 rw[getD_eq_getElem?_getD,getElem?_eq_getElem h];rfl
theorem xl(l:List ab)(hl:l.length<=100000):∃n:Int,z7 l=some n /\
  ((n=-1/\∀f∈l,stg f.a=false)∨∃j:Nat,n=j/\∃h:j<l.length,stg (l[j]).a=true/\∀f∈l.take j,stg f.a=false):=by
 unfold z7;obtain⟨N,hN⟩:∃N,eV=N:=⟨_,rfl⟩;have hF:1099511627776<=N:=hN ▸ rt;rw[hN];simp only[dH,take_length]
 have key:∀(m i:Nat),m+i=l.length->(∀f∈l.take i,stg f.a=false)->∀N,m<N->∃n:Int,
   loopN N (fun t8_31 nx_36 k_35 =>
  bif decide (t8_31<(l.length:Int))then
   dA (0<=t8_31/\t8_31<(l.length:Int)) <|
   call (Cu (ab.mk ((l.getD (t8_31.toNat:Nat) (ab.mk [] [] false)).a) ((l.getD (t8_31.toNat:Nat) (ab.mk [] [] false)).B) ((l.getD (t8_31.toNat:Nat) (ab.mk [] [] false)).C))) fun r_38 =>
   bif r_38 then
    some t8_31
   else
   nx_36 (IntKind.i64.wrap (t8_31+1))
  else
  k_35 t8_31) (i:Int) (fun t8_31=>some (-1))=some n /\
  ((n=-1/\∀f∈l,stg f.a=false)∨∃j:Nat,n=j/\∃h:j<l.length,stg (l[j]).a=true/\∀f∈l.take j,stg f.a=false):=by
  intro m
  induction m with
  |zero =>
   intro i hi hp N hN;obtain⟨N,rfl⟩:∃M,N=M+1:=⟨N-1,by omega⟩;unfold loopN;dsimp only;rw[decide_eq_false (by omega),cond_false];refine⟨-1,rfl,.inl ⟨rfl,?_⟩⟩;rw[show i=l.length by omega,take_length]at hp;exact hp
  |succ m ih =>
   intro i hi hp N hN;obtain⟨N,rfl⟩:∃M,N=M+1:=⟨N-1,by omega⟩
   have hil:i<l.length:=by omega
   unfold loopN;dsimp only;rw[decide_eq_true (by omega),cond_true,zg (by omega),Int.toNat_natCast,sj l i hil,k6,ze];cases hs:stg (l[i]).a
   .rw[cond_false,fN i (by omega)]
    refine ih (i+1) (by omega) (fun f hf=>?_) N (by omega);rw[take_succ_eq_append_getElem hil]at hf
    rcases mem_append.1 hf with hf|hf
    .exact hp f hf
    .rw[mem_singleton.1 hf];exact hs
   .rw[cond_true]
    exact⟨i,rfl,.inr ⟨i,rfl,hil,hs,hp⟩⟩
 exact key l.length 0 rfl (by simp) N (by omega)
theorem QK{l:List ab}(h:∀f∈l,stg f.a=false):l.filter (fun f=>!stg f.a)=l:=by
 rw[filter_eq_self];intro f hf
 rw[h f hf];rfl
theorem Fo(l:List ab)(hl:l.length<=100000):∃z,zV l=some z/\List.take z.2.1 (List.drop z.1 z.2.2)=l.filter fun f=>!stg f.a:=by
 obtain⟨n,e,h⟩:=xl l hl;unfold zV;rw[e,ze]
 rcases h with⟨rfl,h⟩|⟨j,rfl,hj,hs,hp⟩
 .rw[decide_eq_true rfl,cond_true]
  refine⟨_,rfl,?_⟩;simp only[drop_zero,take_length];exact(QK h).symm
 .rw[decide_eq_false (by omega),cond_false,fN j (by omega)]
  obtain⟨N,hN⟩:∃N,eV=N:=⟨_,rfl⟩;have hF:1099511627776<=N:=hN ▸ rt;rw[hN];simp only[dH]
  have key:∀(m i j:Nat) (o:List ab),m+j=l.length->i<j->o.length=l.length->o.take i=(l.take j).filter (fun f=>!stg f.a)->o.drop j=l.drop j->∀N,m<N->∃z:Nat×Nat×List ab,
    loopN N (fun s nx_99 k_98 =>
  match s with
  |(i_89,j_90,o0_91) =>
   bif decide (j_90<((List.take l.length o0_91).length:Int))then
    dA (0<=j_90/\j_90<(l.length:Int)) <|
    dA (j_90.toNat<o0_91.length) <|
    call (Cu (ab.mk ((o0_91.getD (j_90.toNat:Nat) (ab.mk [] [] false)).a) ((o0_91.getD (j_90.toNat:Nat) (ab.mk [] [] false)).B) ((o0_91.getD (j_90.toNat:Nat) (ab.mk [] [] false)).C))) fun r_103 =>
    bif !r_103 then
     dA (0<=i_89/\i_89<(l.length:Int)) <|
     dA (i_89.toNat<o0_91.length) <|
     nx_99 (IntKind.i64.wrap (i_89+1),IntKind.i64.wrap (j_90+1),List.set o0_91 (i_89.toNat:Nat) (ab.mk ((o0_91.getD (j_90.toNat:Nat) (ab.mk [] [] false)).a) ((o0_91.getD (j_90.toNat:Nat) (ab.mk [] [] false)).B) ((o0_91.getD (j_90.toNat:Nat) (ab.mk [] [] false)).C)))
    else
    nx_99 (i_89,IntKind.i64.wrap (j_90+1),o0_91)
   else
   k_98 (i_89,j_90,o0_91)) ((i:Int),(j:Int),o) (fun s=>match s with
  |(i_78,j_90,o0_79) =>
   dA (0<=i_78/\i_78<=(l.length:Int)) <|
   dA (0<=i_78/\i_78<=(l.length:Int)) <|
   some (0,i_78.toNat,List.take i_78.toNat o0_79++List.replicate (l.length-i_78.toNat) (ab.mk [] [] false)++List.drop (i_78.toNat+(l.length-i_78.toNat)) o0_79))=some z/\List.take z.2.1 (List.drop z.1 z.2.2)=l.filter fun f=>!stg f.a:=by
   intro m
   induction m with
   |zero =>
    intro i j o hm hij ho ht hd N hN;obtain⟨N,rfl⟩:∃M,N=M+1:=⟨N-1,by omega⟩;unfold loopN;dsimp only;rw[decide_eq_false (by rw[length_take];omega),cond_false,zg (by omega),zg (by omega)];refine⟨_,rfl,?_⟩;simp only[Int.toNat_natCast,drop_zero];rw[append_assoc,take_append_of_le_length (by rw[length_take];omega),take_take,Nat.min_self,ht,show j=l.length by omega,take_length]
   |succ m ih =>
    intro i j o hm hij ho ht hd N hN;obtain⟨N,rfl⟩:∃M,N=M+1:=⟨N-1,by omega⟩
    have hjl:j<l.length:=by omega
    have hjo:j<o.length:=by omega
    have hoj:o[j]=l[j]:=by
     have h1:=drop_eq_getElem_cons hjo;have h2:=drop_eq_getElem_cons hjl;rw[hd,h2]at h1;exact(List.cons.inj h1).1.symm
    have hd':o.drop (j+1)=l.drop (j+1):=by
     have:=congrArg List.tail hd
     simpa using this
    unfold loopN;dsimp only;rw[decide_eq_true (by rw[length_take];omega),cond_true,zg (by omega),zg (by omega),Int.toNat_natCast,sj o j hjo,k6,ze,hoj]
    have htk:(l.take (j+1)).filter (fun f=>!stg f.a)=(l.take j).filter (fun f=>!stg f.a)++(if stg (l[j]).a then []else [l[j]]):=by
     rw[take_succ_eq_append_getElem hjl,filter_append]
     congr 1
     rw[filter_cons,filter_nil]
     cases stg (l[j]).a <;> rfl
    rw[fN j (by omega)];cases hs:stg (l[j]).a
    .rw[Bool.not_false,cond_true,zg (by omega),zg (by omega),Int.toNat_natCast,fN i (by omega)]
     refine ih (i+1) (j+1) _ (by omega) (by omega) (by rw[length_set];exact ho) ?_ ?_ N (by omega)
     .rw[htk,hs,<-ht,HN o i _ (by omega)];rfl
     .rw[drop_set_of_lt (by omega)];exact hd'
    .rw[Bool.not_true,cond_false]
     refine ih i (j+1) o (by omega) (by omega) ho ?_ hd' N (by omega)
     rw[htk,hs,ht];simp
  refine key (l.length-(j+1)) j (j+1) l (by omega) (by omega) rfl ?_ rfl N (by omega);rw[take_succ_eq_append_getElem hj,filter_append,QK hp,filter_cons,hs];simp
theorem un{M:ah}(h:Good M):CC M=some (M.y,M.h,M.r,M.o,M.y,M.h,M.r,M.o):=by
 have a1:=h.c1;have a2:=h.c2;have a3:=h.c3;have a4:=h.c4;unfold CC;rw[show zp M.y=some M.y from yS M.y (by omega),show Ja M.h=some M.h from yS M.h (by omega),show zp M.r=some M.r from yS M.r (by omega),show zu M.o=some M.o from yS M.o (by omega)];rfl
theorem oY{M:ah}(h:Good M):Gr M=some (g8 M):=by
 have a2:=h.c2;obtain⟨z,e,hz⟩:=Fo M.h (by omega);unfold Gr;rw[un h,ze,e,ze,hz];rfl
def jD(c:ae):am:=bif decide (c.u=1)||decide (c.u=2)then⟨1,c.i.a⟩else bif decide (c.u=3)||decide (c.u=4)then⟨2,c.z.k⟩else⟨3,c.q.w⟩
theorem Qx(c:ae):AF c=some (jD c):=by
 unfold AF jD;simp only[dH]
 cases decide (c.u=1) <;> cases decide (c.u=2) <;> cases decide (c.u=3) <;> cases decide (c.u=4) <;> rfl
def m6(p:am):dy:=(bif decide (p.kind=1)then [102,105,108,101,32]else bif decide (p.kind=2)then [115,101,116,116,105,110,103,32]else [115,101,114,118,105,99,101,32])++p.name
theorem Lh(c:ae):zbh c=m6 (jD c):=by
 unfold zbh jD m6
 cases decide (c.u=1)||decide (c.u=2)
 .cases decide (c.u=3)||decide (c.u=4) <;> rfl
 .rfl
theorem QX(c:ae):(jD c).kind=1∨(jD c).kind=2∨(jD c).kind=3:=by
 unfold jD
 cases decide (c.u=1)||decide (c.u=2)
 .cases decide (c.u=3)||decide (c.u=4)
  .exact .inr (.inr rfl)
  .exact .inr (.inl rfl)
 .exact .inl rfl
theorem tc{p q:am}(hp:p.kind=1∨p.kind=2∨p.kind=3)(hq:q.kind=1∨q.kind=2∨q.kind=3)(h:m6 p=m6 q):p=q:=by
 obtain⟨k,a⟩:=p;obtain⟨k',b⟩:=q;unfold m6 at h;simp only at hp hq h
 rcases hp with rfl|rfl|rfl <;> rcases hq with rfl|rfl|rfl <;> simp at h <;> first|(rw[h])|skip
theorem lV(l:List ae):decide (l.map jD).Nodup=decide (l.map zbh).Nodup:=by
 refine decide_eq_decide.2 ?_;unfold List.Nodup;rw[pairwise_map,pairwise_map];refine⟨fun h=>h.imp fun {a b} h e=>?_,fun h=>h.imp fun {a b} h e=>?_⟩
 .rw[Lh,Lh]at e
  exact h (tc (QX a) (QX b) e)
 .exact h (by rw[Lh,Lh,e])
theorem nZ{K V:Type}[DecidableEq K]:∀(m:List (K×V)) (k:K) (v:V) (p:K×V),p∈dF m k v->p=(k,v)∨p∈m
 |[],k,v,p,h=>by
  unfold dF at h;exact .inl (mem_singleton.1 h)
 |q::m,k,v,p,h=>by
  by_cases e:q.1=k
  .rw[sK e]at h
   rcases mem_cons.1 h with h|h
   .exact .inl h
   .exact .inr (mem_cons_of_mem _ h)
  .rw[sJ e]at h
   rcases mem_cons.1 h with h|h
   .exact .inr (by rw[h];exact mem_cons_self ..)
   .exact(nZ m k v p h).imp id (mem_cons_of_mem _)
theorem QY{Z:Type}(k:Option Z)(z:Z):∀(l:List ae) (i:Nat) (m:List (am×Bool)),m.length+l.length<=274877906944->(m.map (·.1)).Nodup->(∀p∈m,p.2=true) ->
  forL l i (fun i_67 c_69 m2_57 nx_66 k_65 =>
   call (AF c_69) fun r_70 =>
   fj (zG m2_57 r_70) fun q_71 =>
   bif (q_71.getD false)then
    some z
   else
   call (AF c_69) fun r_73 =>
   dA ((dF m2_57 r_73 true).length<=274877906944) <|
   nx_66 (dF m2_57 r_73 true)) m (fun m2_57=>k)=bif decide (m.map (·.1)++l.map jD).Nodup then k else some z
 |[],i,m,_,hn,_=>by
  unfold forL
  rw[map_nil,append_nil,decide_eq_true hn];rfl
 |c::l,i,m,hlen,hn,ht=>by
  unfold forL;have hla:=Am m (jD c) true;simp only[length_cons]at hlen;dsimp only;rw[Qx,ze,ze,MM]
  cases ha:zG m (jD c)with
  |some b =>
   have hb:=ht _ (Lx ha);simp only at hb;rw[hb];simp only[Option.getD_some,cond_true]
   rw[decide_eq_false];· rfl
   intro hd;have:=(nodup_append.1 hd).2.2 (jD c) (mem_keys.2 (by rw[ha];rfl)) (jD c) (by simp);exact this rfl
  |none =>
   rw[ha]at hla;simp only[Option.getD_none,cond_false];rw[zg (by rw[hla];simp;omega),QY k z l _ _ (by rw[hla];simp;omega) (Az hn _ _) ?_]
   .rw[HW,ha]
    simp
   .intro p hp
    rcases nZ _ _ _ _ hp with hp|hp
    .rw[hp]
    .exact ht p hp
theorem xB(c:ae):(decide ((jD c).kind=1)&&(decide ((jD c).name=fc)||(bif decide ((jD c).kind=1)&&!decide ((jD c).name=fc)then stg (jD c).name else false)))=jB c:=by
 unfold jD jB
 cases decide (c.u=1)||decide (c.u=2)
 .cases decide (c.u=3)||decide (c.u=4) <;> rfl
 .simp only[cond_true,decide_true,Bool.true_and]
  cases decide (c.i.a=fc) <;> rfl
theorem SV{M:ah}(hM:Good M)(l:List ae)(hl:∀c∈l,jI c)(hn:l.length<=134217728):IX M l=some (gG M l):=by
 unfold IX gG;rw[OK M hM.fit,ze,(DB M).2 hM,decide_eq_true rfl,Bool.not_true,cond_false,um,ze];cases (dC M.h fc).isSome
 .simp only[cond_false,dH]
  rw[sY (fun c=>!jB c) (z:=(17:Int)) fun i c nx k=>?_]
  .cases hd:l.all fun c=>!jB c
   .rfl
   .simp only[cond_true,Bool.not_true,cond_false]
    have hg:=Co hM;rw[oY hM,ze,LW hg l (fun c hc=>(hl c hc).sm) hn,ze];cases hs:decide ((z6 l (g8 M)).2=0)
    .rfl
    .simp only[Bool.not_true,cond_false]
     cases h0:decide ((l.length:Int)=0)
     .simp only[cond_false]
      rw[QY _ _ l 0 [] (by simp;omega) (by simp) (by simp)];simp only[map_nil,nil_append];rw[lV];exact iA _ _ _
     .rfl
  .rw[Qx,ze,LL,iT]
   rw[show decide ((jD c).name=([115,116,97,103,101]:dy))=decide ((jD c).name=fc)from rfl,xB,vc]
 .rfl
theorem pM(l:List ae)(h:uC l)(he:eD l=0):CJ l=some (Er (gg l)):=by
 rw[mM l h.d (by have:=h.p;omega),Q5 l h.c,ze,he,decide_eq_true rfl];rfl
theorem wv(j:aj):(gg j.A).length<=(fh j).length/\(gg j.G).length<=(fh j).length:=by
 unfold fh nv gu pO;simp only[length_append,length_cons];omega
theorem wB{j:aj}(hn:eS j.F=true)(he:eJ j=0)(h:65536<(fh j).length):pJ j=([],4):=by
 unfold pJ;rw[hn,he,decide_eq_true rfl,decide_eq_true (show(65536:Int)<((fh j).length:Int)by omega)];rfl
theorem uF(j:aj)(h1:uC j.A)(h2:uC j.G)(e1:eD j.A=0)(e2:eD j.G=0):GZ j=some (pJ j):=by
 have he:eJ j=0:=by unfold eJ;rw[e1];exact e2
 have hge:=wv j;unfold GZ;rw[DZ,ze];cases hn:eS j.F
 .unfold pJ;rw[hn];rfl
 have hl:=Le hn;have g1:=kv ic _ (by decide) h1;have g2:=kv fZ _ (by decide) h2;have i1:=Oe h1.n;have i2:=Oe h2.n;have p1:=h1.p;have p2:=h2.p;simp only[Bool.not_true,cond_false];rw[zg (by simp;omega),zg (by simp;omega)]
 have big:∀l:List ae,uC l->eD l=0->decide (4194304<((gg l).length:Int))=true->CJ l=some ([],4):=fun l h e b=>by
  rw[pM l h e];unfold Er;rw[b];rfl
 have small:∀l:List ae,uC l->eD l=0->decide (4194304<((gg l).length:Int))=false->CJ l=some (gg l,0):=fun l h e b=>by
  rw[pM l h e];unfold Er;rw[b];rfl
 cases b1:decide (4194304<((gg j.A).length:Int))
 .cases b2:decide (4194304<((gg j.G).length:Int))
  .simp only[dH,forL,small _ h1 e1 b1,small _ h2 e2 b2,ze]
   simp only[decide_true,Bool.not_true,cond_false];rw[zg (by simp),NF _ h1.n,ze,zg (by simp;omega),zg (by simp;omega),zg (by simp;omega),zg (by simp;omega)];rw[zg (by simp),NF _ h2.n,ze,zg (by simp;omega),zg (by simp;omega),zg (by simp;omega),zg (by simp;omega)]
   have hb:((([106,111,117,114,110,97,108,32]:dy)++j.F)++([10]:dy))++(((([99,104,97,110,103,101,115]++[32])++Go.Lib.itoa (j.A.length:Int))++[10])++gg j.A)++(((([111,108,100]++[32])++Go.Lib.itoa (j.G.length:Int))++[10])++gg j.G)=gu j:=by
    simp[gu,pO,wJou,ic,fZ]
   have hbl:(gu j).length<=40000000000:=by
    unfold gu;simp only[length_append,length_cons,show wJou.length=7 from rfl];omega
   have hs:=Il (gu j)
   have hp:gu j++((([115,117,109,32]:dy)++fY (gu j))++([10]:dy))=fh j:=by
    simp[fh,nv,ie]
   unfold pJ;rw[hn,he,decide_eq_true (rfl:(0:Int)=0),Bool.not_true,cond_false,cond_false];rw[<-hb]at hp hs hbl;rw[Rk,ze,zg (by simp only[length_append];rw[Il];simp),zg (by simp only[length_append];rw[Il];simp),zg (by simp only[length_append]at hbl|-;rw[Il];simp only[length_cons,length_nil]at hbl|-;omega)];exact(iA _ _ _).trans (congrArg (fun t:dy=>some (bif decide (65536<((t.length:Nat):Int))then(([]:dy),(4:Int))else(t,0))) hp)
  .have:=of_decide_eq_true b2
   rw[wB hn he (by omega)];simp only[dH,forL,small _ h1 e1 b1,big _ h2 e2 b2,ze];simp only[decide_true,Bool.not_true,cond_false];rw[zg (by simp),NF _ h1.n,ze,zg (by simp;omega),zg (by simp;omega),zg (by simp;omega),zg (by simp;omega)];rfl
 .have:=of_decide_eq_true b1
  rw[wB hn he (by omega)];simp only[dH,forL,big _ h1 e1 b1,ze];rfl
theorem C7(M:ah)(p:dy):pX M p=some (dC M.h p).isSome:=by
 unfold pX;rw[kV,ze]
 cases dC M.h p <;> rfl
theorem mb(l:List ab)(p:dy):decide (p∈l.map (·.a))=(dC l p).isSome:=by
 rw[<-ye,Bool.eq_iff_iff,decide_eq_true_eq,any_eq_true,mem_map];simp only[decide_eq_true_eq]
theorem Lj{Z:Type}(last:dy)(K:List ae->Option Z):∀(l:List ab) (i:Nat) (o:List ae),o.length+l.length<=100000 ->
  forL l i (fun i_83 f_85 o1_76 nx_82 k_81 =>
  call (AE f_85.a) fun r_86 =>
  bif (r_86&&(!decide (f_85.a=last)))then
   call (ry f_85.a) fun r_87 =>
   dA ((o1_76++[r_87]).length<=274877906944) <|
   nx_82 (o1_76++[r_87])
  else
  nx_82 o1_76) o K=K (o++((l.map (·.a)).filter fun k=>!decide (k=last)&&stg k).map dZ)
 |[],i,o,_=>by unfold forL;simp
 |f::l,i,o,hn=>by
  unfold forL;simp only[length_cons]at hn;dsimp only;rw[LL,ze,map_cons,filter_cons,Bool.and_comm];cases !decide (f.a=last)&&stg f.a
  .rw[cond_false,Lj last K l (i+1) o (by omega)]
   rfl
  .rw[cond_true,show ry f.a=some (dZ f.a)from rfl,ze,zg (by simp;omega),Lj last K l (i+1) _ (by simp;omega)]
   simp
theorem nG{M:ah}(hM:Good M)(last:dy):G3 M last=some (M.y,M.h,M.r,M.o,fe last M):=by
 have h2:=hM.c2;unfold G3 fe;simp only[dH];rw[Lj last _ M.h 0 [] (by simp;omega),C7,ze,mb,nil_append];have hfl:=length_filter_le (fun k=>!decide (k=last)&&stg k) (M.h.map (·.a));rw[length_map]at hfl;cases (dC M.h last).isSome
 .simp
 .rw[cond_true,show ry last=some (dZ last)from rfl,ze,zg (by simp only[length_append,length_map,length_singleton];omega)]
  rfl
theorem LG:∀(l:List ae) (M:ah),(z6 l M).2=0->eD l=0
 |[],_,_=>rfl
 |c::l,M,h=>by
  unfold z6 at h
  by_cases h0:(zY c M).1=0
  .rw[decide_eq_true h0]at h
   have he:eCh c=0:=by
    apply Classical.byContradiction;intro hc;rw[NU hc]at h0;exact hc h0
   have:=LG l _ h;unfold eD
   rw[he,this];rfl
  .rw[decide_eq_false h0]at h
   exact absurd h h0
theorem mw:∀{l:List ae},(∀c∈l,eCh c=0)->eD l=0
 |[],_=>rfl
 |c::l,h=>by
  unfold eD
  rw[h c (mem_cons_self ..),mw fun d hd=>h d (mem_cons_of_mem _ hd)];rfl
theorem KK{M:ah}(hM:Good M)(id:dy)(l:List ae)(hl:∀c∈l,jI c)(hw:uC l):Gn M id l=some (lA M id l):=by
 have hn:=hw.n;have hcl:=NL hM wJrn;unfold Gn lA;rw[SV hM l hl (by omega),ze]
 by_cases h0:gG M l=0
 .rw[decide_eq_true h0,Bool.not_true,cond_false,cond_false,DZ,ze]
  cases hid:eS id
  .rfl
  have hidl:=Le hid;have hs:=QS h0;have hgc:=Co hM;have hg:=Od l hgc hs;simp only[Bool.not_true,cond_false];rw[rY hM,ze,show pX M ([115,116,97,103,101,47,100,111,110,101]:dy)=some (dC M.h wDone).isSome from C7 M wDone,iT,show pX M ([115,116,97,103,101,47,98,97,99,107]:dy)=some (dC M.h rn).isSome from C7 M rn,iT]
  have hb:∀a b c:Bool,((a||(bif !a then b else false))||(bif !(a||(bif !a then b else false))then c else false))=((b||c)||a):=by decide
  rw[hb]
  cases ((dC M.h wDone).isSome||(dC M.h rn).isSome)||decide ((gN M).2=2)
  .simp only[cond_false]
   rw[oY hM,ze,uI hgc l (fun c hc=>(hl c hc).sm) (by omega),hs,decide_eq_true rfl,Bool.not_true,cond_false,ze,decide_eq_true rfl,Bool.not_true,cond_false];rw[show GZ ⟨id,l,uO (z6 l (g8 M)).1 (g8 M)⟩=some (pJ ⟨id,l,fR M l⟩)from uF ⟨id,l,fR M l⟩ hw (xz hg hgc) (LG l _ hs) (mw fun c hc=>sC hg hgc hc),ze]
   by_cases hp:(pJ ⟨id,l,fR M l⟩).2=0
   .have hpl:=wA hp
    rw[decide_eq_true hp,Bool.not_true,cond_false,cond_false];rw[show G3 M ([115,116,97,103,101,47,106,111,117,114,110,97,108]:dy)=_ from nG hM wJrn,ze];rw[show DH ([115,116,97,103,101,47,106,111,117,114,110,97,108]:dy) (pJ ⟨id,l,fR M l⟩).1=some (eW ⟨wJrn,(pJ ⟨id,l,fR M l⟩).1,false⟩)from rfl,ze];dsimp only;rw[zg (by simp only[length_append,length_singleton];omega),zg (by simp only[length_append,length_singleton];omega)]
    rw[show DH ([115,116,97,103,101,47,100,111,110,101]:dy) id=some (eW ⟨wDone,id,false⟩)from rfl,ze,show ry ([115,116,97,103,101,47,106,111,117,114,110,97,108]:dy)=some (dZ wJrn)from rfl,ze,
     show ry ([115,116,97,103,101,47,100,111,110,101]:dy)=some (dZ wDone)from rfl,ze]
    rw[zg (by simp only[length_append,length_singleton,length_cons,length_nil];omega)]
    rw[show Ax M (((fe wJrn M++[eW ⟨wJrn,(pJ ⟨id,l,fR M l⟩).1,false⟩])++l)++[eW ⟨wDone,id,false⟩,dZ wJrn,dZ wDone])=some (z6 (iq M id l (pJ ⟨id,l,fR M l⟩).1) M)from
     LW hM _ (fun c hc=>(rP hM hidl hl hpl c hc).sm) (by simp only[length_append,length_singleton,length_cons,length_nil];omega),ze]
    exact iA _ _ _
   .rw[decide_eq_false hp];rfl
  .rfl
 .rw[decide_eq_false h0];rfl
theorem qw(M:ah)(l:List ae)(hl:∀c∈l,jI c)(hw:∀c∈l,(iN c).length<=300000000/\BW c):uC (uW M l):=by
 have h12:=j6 M l
 have hp:∀(L:List ae),(∀c∈L,(iN c).length<=300000000)->(gg L).length<=300000001*L.length:=by
  intro L
  induction L with
  |nil=>intro _;simp[gg]
  |cons c L ih =>
   intro h;have h1:=h c (mem_cons_self ..)
   have h2:=ih fun d hd=>h d (mem_cons_of_mem _ hd)
   rw[Gy];simp only[length_append,length_cons,length_nil];omega
 have:=hp (uW M l) fun c hc=>(hw c (LV c hc)).1
 exact⟨fun c hc=>(hl c (LV c hc)).sm,fun c hc=>(hw c (LV c hc)).2,by omega,by omega⟩
structure Lw where
 f:dy->Option ab
 s:dy->Option aa
 v:dy->Option ai
def dK(M:ah):Lw:=⟨dC M.h,gB M.r,fD M.o⟩
def eK{A:Type}(g:dy->Option A)(k:dy)(x:Option A):dy->Option A:=fun j=>if k=j then x else g j
def dP(c:ae)(L:Lw):Lw :=
 bif decide (c.u=1)then⟨eK L.f c.i.a (some c.i),L.s,L.v⟩else
 bif decide (c.u=2)then⟨eK L.f c.i.a none,L.s,L.v⟩else
 bif decide (c.u=3)then⟨L.f,eK L.s c.z.k (some c.z),L.v⟩else
 bif decide (c.u=4)then⟨L.f,eK L.s c.z.k none,L.v⟩else
 bif decide (c.u=5)then⟨L.f,L.s,eK L.v c.q.w (some c.q)⟩else⟨L.f,L.s,eK L.v c.q.w none⟩
theorem ij{a b:Lw}(h1:∀k,a.f k=b.f k)(h2:∀k,a.s k=b.s k)(h3:∀k,a.v k=b.v k):a=b:=by
 cases a;cases b
 simp only at h1 h2 h3;rw[funext h1,funext h2,funext h3]
theorem yL{M:ah}{c:ae}(hM:Good M)(h0:(zY c M).1=0):dK (zY c M).2=dP c (dK M):=by
 by_cases he:eCh c=0
 .unfold zY dP at *
  rw[decide_eq_true he,Bool.not_true,cond_false]at *
  rcases Dx he with e|e|e|e|e|e
  all_goals simp only[e,lz,cond_true,cond_false]at h0|-
  .revert h0
   cases M.h.any (fb c.i.a)with
   |true=>intro h0;cases h0
   |false =>
    simp only[cond_false]
    cases !(dC M.h c.i.a).isSome&&decide (2000<=(M.h.length:Int))with
    |true=>intro h0;cases h0
    |false=>exact fun _=>ij (fun k=>C9 hM.g2 _ k) (fun _=>rfl) fun _=>rfl
  .revert h0
   cases !(dC M.h c.i.a).isSome with
   |true=>intro h0;cases h0
   |false=>exact fun _=>ij (fun k=>C8 hM.g2 _ k) (fun _=>rfl) fun _=>rfl
  .revert h0
   cases !(gB M.r c.z.k).isSome&&decide (2000<=(M.r.length:Int))with
   |true=>intro h0;cases h0
   |false=>exact fun _=>ij (fun _=>rfl) (fun k=>C9 hM.s2 _ k) fun _=>rfl
  .revert h0
   cases !(gB M.r c.z.k).isSome with
   |true=>intro h0;cases h0
   |false=>exact fun _=>ij (fun _=>rfl) (fun k=>C8 hM.s2 _ k) fun _=>rfl
  .revert h0
   cases !(fD M.o c.q.w).isSome&&decide (100<=(M.o.length:Int))with
   |true=>intro h0;cases h0
   |false=>exact fun _=>ij (fun _=>rfl) (fun _=>rfl) fun k=>C9 hM.v2 _ k
  .revert h0
   cases !(fD M.o c.q.w).isSome with
   |true=>intro h0;cases h0
   |false=>exact fun _=>ij (fun _=>rfl) (fun _=>rfl) fun k=>C8 hM.v2 _ k
 .unfold zY at h0
  rw[decide_eq_false he]at h0;exact absurd h0 he
def jw(l:List ae)(L:Lw):Lw:=l.foldl (fun L c=>dP c L) L
theorem Nn:∀{l:List ae} {M:ah},Good M->(z6 l M).2=0->dK (z6 l M).1=jw l (dK M)
 |[],_,_,_=>rfl
 |c::l,M,hM,h=>by
  unfold z6 at h|-
  by_cases h0:(zY c M).1=0
  .rw[decide_eq_true h0,Bool.not_true,cond_false]at h|-
   rw[Nn (mT hM c) h,yL hM h0];rfl
  .rw[decide_eq_false h0]at h
   exact absurd h h0
theorem Bd{M M':ah}(h:Good M)(h':Good M')(hf:M.y=M'.y)(he:dK M=dK M'):M=M':=by
 have e1:M.h=M'.h:=Dn h.g2 h'.g2 fun k=>congrFun (congrArg Lw.f he) k
 have e2:M.r=M'.r:=Dn h.s2 h'.s2 fun k=>congrFun (congrArg Lw.s he) k
 have e3:M.o=M'.o:=Dn h.v2 h'.v2 fun k=>congrFun (congrArg Lw.v he) k
 cases M;cases M'
 simp only at hf e1 e2 e3;rw[hf,e1,e2,e3]
section
variable {A:Type}
theorem rq(g:dy->Option A)(k:dy)(x:Option A):eK g k x k=x:=if_pos rfl
theorem uT(g:dy->Option A){k j:dy}(x:Option A)(h:k≠j):eK g k x j=g j:=if_neg h
theorem Nc(g:dy->Option A){j k:dy}(h:j≠k)(x y:Option A):eK (eK g j x) k y=eK (eK g k y) j x:=by
 funext i
 unfold eK
 by_cases h1:k=i
 .have h2:j≠i:=fun e=>h (e.trans h1.symm)
  simp only[if_pos h1,if_neg h2]
 .simp only[if_neg h1]
theorem rA(g:dy->Option A)(k:dy)(x y:Option A):eK (eK g k x) k y=eK g k y:=by
 funext i
 unfold eK
 split <;> rfl
end
theorem Gd(c:ae) :
  (∃x,(decide (c.u=1)||decide (c.u=2))=true/\zbh c=[102,105,108,101,32]++c.i.a/\∀L,dP c L=⟨eK L.f c.i.a x,L.s,L.v⟩) ∨
  (∃x,zbh c=[115,101,116,116,105,110,103,32]++c.z.k/\∀L,dP c L=⟨L.f,eK L.s c.z.k x,L.v⟩) ∨
  (∃x,zbh c=[115,101,114,118,105,99,101,32]++c.q.w/\∀L,dP c L=⟨L.f,L.s,eK L.v c.q.w x⟩):=by
 unfold zbh dP
 cases decide (c.u=1)with
 |true=>exact .inl ⟨_,rfl,rfl,fun _=>rfl⟩
 |false =>
  cases decide (c.u=2)with
  |true=>exact .inl ⟨_,rfl,rfl,fun _=>rfl⟩
  |false =>
   cases decide (c.u=3)with
   |true=>exact .inr (.inl ⟨_,rfl,fun _=>rfl⟩)
   |false =>
    cases decide (c.u=4)with
    |true=>exact .inr (.inl ⟨_,rfl,fun _=>rfl⟩)
    |false=>cases decide (c.u=5)with
     |true=>exact .inr (.inr ⟨_,rfl,fun _=>rfl⟩)
     |false=>exact .inr (.inr ⟨_,rfl,fun _=>rfl⟩)
theorem kF{c d:ae}(h:zbh c≠zbh d)(L:Lw):dP c (dP d L)=dP d (dP c L):=by
 rcases Gd c with⟨x,_,e,hx⟩|⟨x,e,hx⟩|⟨x,e,hx⟩ <;> rcases Gd d with⟨y,_,e',hy⟩|⟨y,e',hy⟩|⟨y,e',hy⟩ <;> simp only[hx,hy]
 .rw[Nc _ fun q=>h (by rw[e,e',q])]
 .rw[Nc _ fun q=>h (by rw[e,e',q])]
 .rw[Nc _ fun q=>h (by rw[e,e',q])]
theorem kE(c:ae)(L:Lw):dP c (dP c L)=dP c L:=by
 rcases Gd c with⟨x,_,_,hx⟩|⟨x,_,hx⟩|⟨x,_,hx⟩ <;> simp only[hx,rA]
theorem kH(a b:List ae)(L:Lw):jw (a++b) L=jw b (jw a L):=foldl_append
theorem Ql{c:ae}:∀(l:List ae),(∀d∈l,zbh c≠zbh d)->∀(L:Lw),dP c (jw l L)=jw l (dP c L)
 |[],_,_=>rfl
 |d::l,h,L=>by
  show dP c (jw l (dP d L))=jw l (dP d (dP c L))
  rw[Ql l (fun x hx=>h x (mem_cons_of_mem _ hx)),kF (h d (mem_cons_self ..))]
theorem n7{l:List ae}(hn:(l.map zbh).Nodup){c:ae}(hc:c∈l)(L:Lw):dP c (jw l L)=jw l L:=by
 obtain⟨a,b,rfl⟩:=append_of_mem hc;rw[map_append,map_cons]at hn;have hn2:=(nodup_cons.1 (nodup_append.1 hn).2.1).1;rw[kH]
 show dP c (jw b (dP c (jw a L)))=jw b (dP c (jw a L))
 rw[Ql b (fun d hd e=>hn2 (by rw[e];exact mem_map_of_mem hd)),kE]
def eT(L:Lw):Lw:=⟨L.f,L.s,fun k=>(L.v k).map gE⟩
theorem r7(l:List ai)(k:dy):fD (l.map gE) k=(fD l k).map gE:=by
 show(l.map gE).find? _=(l.find? _).map gE
 rw[find?_map];rfl
theorem KU(M:ah):dK (rm M)=eT (dK M):=ij (fun _=>rfl) (fun _=>rfl) fun k=>r7 M.o k
theorem wP(L:Lw):eT (eT L)=eT L:=ij (fun _=>rfl) (fun _=>rfl) fun k=>by
 show((L.v k).map gE).map gE=(L.v k).map gE
 cases L.v k <;> rfl
theorem wO(c:ae)(L:Lw):eT (dP c (eT L))=eT (dP c L):=by
 have hb:∀k,((eT L).v k).map gE=(L.v k).map gE:=fun k=>congrFun (congrArg Lw.v (wP L)) k
 rcases Gd c with⟨x,_,_,hx⟩|⟨x,_,hx⟩|⟨x,_,hx⟩ <;> simp only[hx]
 .exact ij (fun _=>rfl) (fun _=>rfl) hb
 .exact ij (fun _=>rfl) (fun _=>rfl) hb
 .exact ij (fun _=>rfl) (fun _=>rfl) fun k=>by
   show(eK (eT L).v _ x k).map gE=(eK L.v _ x k).map gE
   unfold eK;split
   .rfl
   .exact hb k
theorem KT{L L':Lw}(c:ae)(h:eT L=eT L'):eT (dP c L)=eT (dP c L'):=by rw[<-wO,h,wO]
def vg(c:ae)(q iF iS iV:Bool)(nF nS nV:Int):Int :=
 bif !decide (eCh c=0)then eCh c else
 bif decide (c.u=2)then(bif !iF then 10 else 0)else
 bif decide (c.u=4)then(bif !iS then 10 else 0)else
 bif decide (c.u=6)then(bif !iV then 10 else 0)else
 bif decide (c.u=1)then(bif q then 11 else bif !iF&&decide (2000<=nF)then 4 else 0)else
 bif decide (c.u=3)then(bif !iS&&decide (2000<=nS)then 4 else 0)else
 bif !iV&&decide (100<=nV)then 4 else 0
theorem yN(c:ae)(M:ah):(zY c M).1=vg c (M.h.any (fb c.i.a)) (dC M.h c.i.a).isSome (gB M.r c.z.k).isSome (fD M.o c.q.w).isSome M.h.length M.r.length M.o.length:=by
 unfold zY vg
 cases !decide (eCh c=0)with
 |true=>rfl
 |false =>
  cases decide (c.u=2)with
  |true=>cases !(dC M.h c.i.a).isSome <;> rfl
  |false =>
   cases decide (c.u=4)with
   |true=>cases !(gB M.r c.z.k).isSome <;> rfl
   |false =>
    cases decide (c.u=6)with
    |true=>cases !(fD M.o c.q.w).isSome <;> rfl
    |false =>
     cases decide (c.u=1)with
     |true =>
      cases M.h.any (fb c.i.a)with
      |true=>rfl
      |false=>cases !(dC M.h c.i.a).isSome&&decide (2000<=(M.h.length:Int)) <;> rfl
     |false =>
      cases decide (c.u=3)with
      |true=>cases !(gB M.r c.z.k).isSome&&decide (2000<=(M.r.length:Int)) <;> rfl
      |false=>cases !(fD M.o c.q.w).isSome&&decide (100<=(M.o.length:Int)) <;> rfl
theorem j9(c:ae)(M:ah):(zY c (rm M)).1=(zY c M).1:=by
 rw[yN,yN]
 show vg c _ _ _ (fD (M.o.map gE) _).isSome _ _ ((M.o.map gE).length:Int)=_
 rw[r7,Option.isSome_map,length_map];rfl
structure Alike(N N':ah):Prop where
 g:Good N
 g':Good N'
 f:N.y=N'.y
 l:eT (dK N)=eT (dK N')
theorem Alike.boot{N N':ah}(h:Alike N N'):rm N=rm N':=Bd (Cf h.g) (Cf h.g') h.f (by rw[KU,KU];exact h.l)
theorem Alike.err{N N':ah}(h:Alike N N')(c:ae):(zY c N).1=(zY c N').1:=by rw[<-j9,h.boot,j9]
theorem LI{A:Type}{key:A->dy}{l:List A}(hs:dU key l)(q:dy->Bool)(k:dy):lk key (l.filter fun x=>q (key x)) k=bif q k then lk key l k else none:=by
 refine qU (List.Pairwise.filter _ hs) fun x=>?_
 rw[mem_filter];cases hq:q k
 .simp only[cond_false,reduceCtorEq,false_iff]
  rintro⟨⟨_,h⟩,rfl⟩
  rw[hq]at h;cases h
 .rw[cond_true,qQ hs]
  constructor
  .rintro⟨h,rfl⟩;exact⟨⟨h,hq⟩,rfl⟩
  .rintro⟨⟨h,_⟩,e⟩;exact⟨h,e⟩
def JT(q:dy->Bool)(L:Lw):Lw:=⟨fun k=>bif q k then L.f k else none,L.s,L.v⟩
def jY(q:dy->Bool)(M:ah):ah:=⟨M.y,M.h.filter (fun f=>q f.a),M.r,M.o⟩
theorem ma{M:ah}(h:Good M)(q:dy->Bool):dK (jY q M)=JT q (dK M):=ij (fun k=>LI h.g2 q k) (fun _=>rfl) fun _=>rfl
def gz(L:Lw):Lw:=JT (fun k=>!stg k) L
theorem Nl{M:ah}(h:Good M):dK (g8 M)=gz (dK M):=ma h fun k=>!stg k
theorem Hw{c:ae}(hk:c.u=1∨c.u=2)(hs:stg c.i.a=true)(L:Lw):gz (dP c L)=gz L:=by
 have key:∀x,gz ⟨eK L.f c.i.a x,L.s,L.v⟩=gz L:=fun x=>ij (fun k=>by
  show(bif !stg k then eK L.f c.i.a x k else none)=bif !stg k then L.f k else none
  by_cases h:c.i.a=k
  .rw[<-h,hs];rfl
  .rw[uT _ _ h]) (fun _=>rfl) fun _=>rfl
 unfold dP
 rcases hk with hk|hk <;> simp only[hk,lz,cond_true,cond_false] <;> exact key _
theorem Hy{c:ae}(hd:jB c=false)(hk:(decide (c.u=1)||decide (c.u=2))=true):c.i.a≠fc/\stg c.i.a=false:=by
 unfold jB at hd;rw[hk,Bool.true_and,Bool.or_eq_false_iff]at hd;exact⟨of_decide_eq_false hd.1,hd.2⟩
theorem wM{c:ae}(hd:jB c=false)(L:Lw):gz (dP c L)=dP c (gz L):=by
 rcases Gd c with⟨x,hk,_,hx⟩|⟨x,_,hx⟩|⟨x,_,hx⟩ <;> simp only[hx]
 .obtain⟨_,hs⟩:=Hy hd hk
  refine ij (fun k=>?_) (fun _=>rfl) fun _=>rfl
  show(bif !stg k then eK L.f c.i.a x k else none)=eK (gz L).f c.i.a x k
  by_cases h:c.i.a=k
  .subst h
   rw[hs,rq,rq];rfl
  .rw[uT _ _ h,uT _ _ h];rfl
 .rfl
 .rfl
theorem n5{c:ae}(hd:jB c=false)(L:Lw){k:dy}(hk:k=fc∨stg k=true):(dP c L).f k=L.f k:=by
 rcases Gd c with⟨x,hk1,_,hx⟩|⟨x,_,hx⟩|⟨x,_,hx⟩ <;> simp only[hx]
 obtain⟨h1,h2⟩:=Hy hd hk1
 refine uT _ _ fun e=>?_
 subst e
 rcases hk with hk|hk
 .exact h1 hk
 .rw[h2]at hk;cases hk
theorem rW:∀{l:List ae},(∀c∈l,jB c=false)->∀L,gz (jw l L)=jw l (gz L)
 |[],_,_=>rfl
 |c::l,h,L=>by
  show gz (jw l (dP c L))=jw l (dP c (gz L))
  rw[rW (fun x hx=>h x (mem_cons_of_mem _ hx)),wM (h c (mem_cons_self ..))]
theorem kG:∀{l:List ae},(∀c∈l,jB c=false)->∀(L:Lw) {k:dy},(k=fc∨stg k=true)->(jw l L).f k=L.f k
 |[],_,_,_,_=>rfl
 |c::l,h,L,k,hk=>by
  show(jw l (dP c L)).f k=L.f k
  rw[kG (fun x hx=>h x (mem_cons_of_mem _ hx)) _ hk,n5 (h c (mem_cons_self ..)) _ hk]
def mX(M:ah)(c:ae):Bool :=
 bif decide (c.u=1)then mq iQ (dC M.h c.i.a) c.i else
 bif decide (c.u=2)then !(dC M.h c.i.a).isSome else
 bif decide (c.u=3)then mq iM (gB M.r c.z.k) c.z else
 bif decide (c.u=4)then !(gB M.r c.z.k).isSome else
 bif decide (c.u=5)then mq jM (fD M.o c.q.w) c.q else !(fD M.o c.q.w).isSome
theorem Ls{A:Type}{e:A->A->Bool}(he:∀{a b},e a b=true->a=b){o:Option A}{y:A}(h:mq e o y=true):o=some y:=by
 cases o with
 |none=>cases h
 |some x=>rw[he h]
theorem F9{A:Type}{g:dy->Option A}{k:dy}{x:Option A}(h:g k=x):eK g k x=g:=by
 funext i
 unfold eK;split
 .rename_i e;rw[<-e,h]
 .rfl
theorem Nq{A:Type}{o:Option A}(h:(!o.isSome)=true):o=none:=by
 cases o with
 |none=>rfl
 |some x=>cases h
theorem qO{N:ah}{c:ae}(h:mX N c=true):dP c (dK N)=dK N:=by
 unfold mX at h;unfold dP
 cases h1:decide (c.u=1)with
 |true =>
  rw[h1,cond_true]at h
  exact ij (fun k=>by rw[cond_true];exact congrFun (F9 (g:=(dK N).f) (Ls NB h)) k) (fun _=>rfl) fun _=>rfl
 |false =>
  rw[h1,cond_false]at h
  cases h2:decide (c.u=2)with
  |true =>
   rw[h2,cond_true]at h
   exact ij (fun k=>congrFun (F9 (g:=(dK N).f) (Nq h)) k) (fun _=>rfl) fun _=>rfl
  |false =>
   rw[h2,cond_false]at h
   cases h3:decide (c.u=3)with
   |true =>
    rw[h3,cond_true]at h
    exact ij (fun _=>rfl) (fun k=>congrFun (F9 (g:=(dK N).s) (Ls MX h)) k) fun _=>rfl
   |false =>
    rw[h3,cond_false]at h
    cases h4:decide (c.u=4)with
    |true =>
     rw[h4,cond_true]at h
     exact ij (fun _=>rfl) (fun k=>congrFun (F9 (g:=(dK N).s) (Nq h)) k) fun _=>rfl
    |false =>
     rw[h4,cond_false]at h
     cases h5:decide (c.u=5)with
     |true =>
      rw[h5,cond_true]at h
      exact ij (fun _=>rfl) (fun _=>rfl) fun k=>congrFun (F9 (g:=(dK N).v) (Ls MY h)) k
     |false =>
      rw[h5,cond_false]at h
      exact ij (fun _=>rfl) (fun _=>rfl) fun k=>congrFun (F9 (g:=(dK N).v) (Nq h)) k
theorem qW{N:ah}{c:ae}{L:Lw}(hk:c.u≠5)(hh:dP c L=L)(hl:eT (dK N)=eT L):mX N c=true:=by
 have ef:∀k,dC N.h k=L.f k:=fun k=>congrFun (congrArg Lw.f hl) k
 have es:∀k,gB N.r k=L.s k:=fun k=>congrFun (congrArg Lw.s hl) k
 have ev:∀k,(fD N.o k).map gE=(L.v k).map gE:=fun k=>congrFun (congrArg Lw.v hl) k
 unfold dP at hh;unfold mX;rw[ef,es]
 cases h1:decide (c.u=1)with
 |true =>
  rw[h1,cond_true]at hh;have e:=congrFun (congrArg Lw.f hh) c.i.a;rw[cond_true,<-e]
  show mq iQ (eK L.f c.i.a (some c.i) c.i.a) c.i=true
  rw[rq];simp[mq,iQ]
 |false =>
  rw[h1,cond_false]at hh;rw[cond_false]
  cases h2:decide (c.u=2)with
  |true =>
   rw[h2,cond_true]at hh;have e:=congrFun (congrArg Lw.f hh) c.i.a;rw[cond_true,<-e]
   show(!(eK L.f c.i.a none c.i.a).isSome)=true
   rw[rq];rfl
  |false =>
   rw[h2,cond_false]at hh;rw[cond_false]
   cases h3:decide (c.u=3)with
   |true =>
    rw[h3,cond_true]at hh;have e:=congrFun (congrArg Lw.s hh) c.z.k;rw[cond_true,<-e]
    show mq iM (eK L.s c.z.k (some c.z) c.z.k) c.z=true
    rw[rq];simp[mq,iM]
   |false =>
    rw[h3,cond_false]at hh;rw[cond_false]
    cases h4:decide (c.u=4)with
    |true =>
     rw[h4,cond_true]at hh;have e:=congrFun (congrArg Lw.s hh) c.z.k;rw[cond_true,<-e]
     show(!(eK L.s c.z.k none c.z.k).isSome)=true
     rw[rq];rfl
    |false =>
     rw[h4,cond_false,decide_eq_false hk,cond_false]at hh;rw[cond_false,decide_eq_false hk,cond_false];have e:=congrFun (congrArg Lw.v hh) c.q.w;have e2:=ev c.q.w;rw[<-e]at e2
     have e3:(fD N.o c.q.w).map gE=none:=by rw[e2];show(eK L.v c.q.w none c.q.w).map gE=none;rw[rq];rfl
     rw[Option.map_eq_none_iff]at e3
     rw[e3];rfl
theorem rf{N:ah}(h:Good N){p:dy}(hp:(dC N.h p).isSome=true):N.h.any (fb p)=false:=by
 obtain⟨f,hf⟩:=Option.isSome_iff_exists.1 hp;obtain⟨h1,h2⟩:=jE hf;rw[any_eq_false];intro x hx;unfold fb;rw[<-h2,h.g3 x hx f h1,h.g3 f h1 x hx];decide
theorem tI{N:ah}{c:ae}(he:eCh c=0)(hk:c.u=1)(h:Good N)(hp:(dC N.h c.i.a).isSome=true):(zY c N).1=0:=by
 rw[yN];unfold vg;simp only[he,hk,lz,decide_true,Bool.not_true,cond_false,cond_true,rf h hp,hp,Bool.false_and]
theorem tw{N:ah}{c:ae}(he:eCh c=0)(hk:c.u=5)(hp:(fD N.o c.q.w).isSome=true):(zY c N).1=0:=by
 rw[yN];unfold vg;simp only[he,hk,lz,decide_true,Bool.not_true,cond_false,cond_true,hp,Bool.false_and]
theorem N2{N:ah}{p:dy}(hp:eH p=true)(h:(dC N.h p).isSome=true):zY (dZ p) N=(0,⟨N.y,fW (·.a) p N.h,N.r,N.o⟩):=by
 unfold zY;rw[sB hp]
 show(bif !(dC N.h p).isSome then _ else _)=_
 rw[h];rfl
theorem AU{N:ah}{c:ae}(h:(zY c N).1=0):eCh c=0:=by
 apply Classical.byContradiction;intro hc;rw[NU hc]at h;exact hc h
def j8(c:ae)(M:ah):ah:=⟨M.y,fz (·.a) (lu c.i) M.h,M.r,M.o⟩
structure KJ(c:ae)(d d':Dk):Prop where
 cut:d.cut=true
 off:d'.off=true
 cut':d'.cut=false
 m:d'.M=d.M∨(c.u=1/\d'.M=j8 c d.M)
theorem DQ{c:ae}{d:Dk}(ho:d.off=false)(h0:(zY c d.M).1=0) :
  ((eh c d).1=0/\(eh c d).2.M=(zY c d.M).2/\(eh c d).2.off=false/\(eh c d).2.cut=d.cut)∨((eh c d).1=18/\KJ c d (eh c d).2):=by
 unfold eh;rw[ho,decide_eq_true h0];simp only[Bool.not_true,cond_false]
 cases hc:d.cut&&decide (d.after=0)with
 |true =>
  simp only[Bool.and_eq_true]at hc
  cases ht:d.torn&&decide (c.u=1)with
  |true =>
   simp only[Bool.and_eq_true,decide_eq_true_eq]at ht;exact .inr ⟨rfl,hc.1,rfl,rfl,.inr ⟨ht.2,rfl⟩⟩
  |false=>exact .inr ⟨rfl,hc.1,rfl,rfl,.inl rfl⟩
 |false=>exact .inl ⟨rfl,rfl,rfl,rfl⟩
theorem Lv(c:ae)(l:List ae)(d:Dk):dO (c::l) d=bif !decide ((eh c d).1=0)then eh c d else dO l (eh c d).2:=rfl
theorem Dp{c:ae}{l:List ae}{d:Dk}(h:(eh c d).1=0):dO (c::l) d=dO l (eh c d).2:=by
 rw[Lv,decide_eq_true h];rfl
theorem HB{c:ae}{l:List ae}{d:Dk}(h:(eh c d).1=18):dO (c::l) d=eh c d:=by
 rw[Lv,decide_eq_false (by rw[h];decide)];rfl
theorem l9{c:ae}{M:ah}(h:Good M):dK (j8 c M)=dP (eW (lu c.i)) (dK M):=ij (fun k=>C9 h.g2 _ k) (fun _=>rfl) fun _=>rfl
theorem NE{c:ae}{M:ah}(h:Good M)(hk:c.u=1)(h0:(zY c M).1=0):Good (j8 c M):=by
 obtain⟨p1,p2,p3⟩:=NW hk h0;exact oz h (lu c.i) (Qc p1) p2 p3
theorem Bt(p q:dy->Bool)(M:ah):jY p (jY q M)=jY (fun k=>p k&&q k) M:=by
 unfold jY;simp only[filter_filter]
theorem Ny{M:ah}(h:Good M)(q:dy->Bool):Good (jY q M):=QL h _
theorem su{q:dy->Bool}{M:ah}(h:∀k,q k=true):jY q M=M:=by
 unfold jY
 have e:M.h.filter (fun f=>q f.a)=M.h:=by rw[filter_eq_self];exact fun f _=>h _
 rw[e]
theorem ue{p q:dy->Bool}{M:ah}(h:∀f∈M.h,p f.a=q f.a):jY p M=jY q M:=by
 unfold jY;rw[filter_congr h]
theorem lQ:∀(ks:List dy) (d:Dk),ks.Nodup->d.off=false->Good d.M->(∀k∈ks,eH k=true/\(dC d.M.h k).isSome=true) ->
  ∃p s,ks=p++s/\(dO (ks.map dZ) d).2.M=jY (fun k=>!decide (k∈p)) d.M /\
   ((s=[]/\(dO (ks.map dZ) d).1=0/\(dO (ks.map dZ) d).2.off=false/\(dO (ks.map dZ) d).2.cut=d.cut) ∨
    (s≠[]/\(dO (ks.map dZ) d).1=18/\d.cut=true/\(dO (ks.map dZ) d).2.off=true/\(dO (ks.map dZ) d).2.cut=false))
 |[],d,_,ho,_,_=>⟨[],[],rfl,(su fun k=>by simp).symm,.inl ⟨rfl,rfl,ho,rfl⟩⟩
 |k::ks,d,hn,ho,hg,hk=>by
  obtain⟨hp,hl⟩:=hk k (mem_cons_self ..);have hn':=nodup_cons.1 hn;have hr:=N2 hp hl
  have h0:(zY (dZ k) d.M).1=0:=by rw[hr]
  have hm:(zY (dZ k) d.M).2=jY (fun j=>!decide (j=k)) d.M:=by rw[hr];rfl
  rw[map_cons]
  rcases DQ ho h0 with⟨e,e1,e2,e3⟩|⟨e,hc⟩
  .rw[Dp e]
   have hg':Good (eh (dZ k) d).2.M:=by rw[e1];exact mT hg _
   obtain⟨p,s,hs,hM,hh⟩:=lQ ks (eh (dZ k) d).2 hn'.2 e2 hg' fun j hj=>⟨(hk j (mem_cons_of_mem _ hj)).1,by
    rw[e1,hm]
    show(dC (jY _ d.M).h j).isSome=true
    have e5:dC (jY (fun j=>!decide (j=k)) d.M).h j=_:=LI hg.g2 (fun j=>!decide (j=k)) j
    have hne:¬ j=k:=fun e=>hn'.1 (by rw[<-e];exact hj)
    rw[e5]
    show(bif !decide (j=k)then dC d.M.h j else none).isSome=true
    rw[decide_eq_false hne]
    exact(hk j (mem_cons_of_mem _ hj)).2⟩
   refine⟨k::p,s,by rw[hs];rfl,?_,?_⟩
   .rw[hM,e1,hm,Bt]
    congr 1
    funext j
    by_cases h1:j=k
    .simp[h1]
    .simp[h1]
   .rw[e3]at hh
    exact hh
  .rw[HB e]
   refine⟨[],k::ks,rfl,?_,.inr ⟨by simp,e,hc.cut,hc.off,hc.cut'⟩⟩
   rcases hc.m with hm|⟨hk,_⟩
   .rw[hm];exact(su fun k=>by simp).symm
   .exact absurd (show(2:Int)=1 from hk) (by decide)
def vq(last:dy)(M:ah):List dy:=((M.h.map (·.a)).filter (fun k=>!decide (k=last)&&stg k))++bif decide (last∈M.h.map (·.a))then [last]else []
theorem QH(last:dy)(M:ah):fe last M=(vq last M).map dZ:=by
 unfold fe vq;rw[map_append]
 cases decide (last∈M.h.map (·.a)) <;> rfl
theorem mem_lk{M:ah}{k:dy}:k∈M.h.map (·.a)↔(dC M.h k).isSome=true:=by
 rw[<-mb,decide_eq_true_eq]
theorem Qn{last:dy}(hst:stg last=true)(M:ah)(k:dy):k∈vq last M↔k∈M.h.map (·.a)/\stg k=true:=by
 unfold vq
 by_cases hl:last∈M.h.map (·.a)
 .rw[decide_eq_true hl,cond_true,mem_append,mem_filter,mem_singleton]
  by_cases e:k=last
  .rw[e]
   exact⟨fun _=>⟨hl,hst⟩,fun _=>.inr rfl⟩
  .rw[decide_eq_false e,Bool.not_false,Bool.true_and]
   exact⟨fun h=>h.resolve_right e,.inl⟩
 .rw[decide_eq_false hl,cond_false,append_nil,mem_filter]
  by_cases e:k=last
  .rw[e]
   exact⟨fun h=>absurd h.1 hl,fun h=>absurd h.1 hl⟩
  .rw[decide_eq_false e,Bool.not_false,Bool.true_and]
theorem mC{M:ah}(hg:Good M)(last:dy):(vq last M).Nodup:=by
 have hsn:(M.h.map (·.a)).Nodup:=vZ (key:=fun f:ab=>f.a) hg.g2;unfold vq;cases decide (last∈M.h.map (·.a))
 .rw[cond_false,append_nil];exact List.Pairwise.filter _ hsn
 .rw[cond_true,nodup_append]
  refine⟨List.Pairwise.filter _ hsn,by simp,fun a ha b hb e=>?_⟩;rw[mem_singleton.1 hb]at e;have:=(mem_filter.1 ha).2;rw[e,decide_eq_true rfl]at this;cases this
theorem k5{last:dy}(hst:stg last=true){d:Dk}(ho:d.off=false)(hg:Good d.M) :
  (((dO (fe last d.M) d).1=0/\(dO (fe last d.M) d).2.M=g8 d.M/\(dO (fe last d.M) d).2.off=false/\(dO (fe last d.M) d).2.cut=d.cut) ∨
   ((dO (fe last d.M) d).1=18/\d.cut=true/\(dO (fe last d.M) d).2.off=true/\(dO (fe last d.M) d).2.cut=false /\
    ∃q,(dO (fe last d.M) d).2.M=jY q d.M/\(∀k,stg k=false->q k=true)/\q last=true)):=by
 rw[QH];have hin:=Qn hst d.M;have hn:=mC hg last
 obtain⟨p,s,hs,hM,hh⟩:=lQ (vq last d.M) d hn ho hg fun k hk=>by
  have:=(hin k).1 hk;obtain⟨f,hf,e⟩:=mem_map.1 this.1;exact⟨by rw[<-e];exact(rx (hg.g1 f hf)).1,mem_lk.1 this.1⟩
 rcases hh with⟨rfl,h1,h2,h3⟩|⟨hne,h1,h2,h3,h4⟩
 .refine .inl ⟨h1,?_,h2,h3⟩
  rw[hM];rw[append_nil]at hs;rw[<-hs]
  refine ue (q:=fun k=>!stg k) fun f hf=>?_
  have hm:f.a∈d.M.h.map (·.a):=mem_map_of_mem hf
  congr 1
  rw[Bool.eq_iff_iff,decide_eq_true_eq,hin];exact⟨fun h=>h.2,fun h=>⟨hm,h⟩⟩
 .refine .inr ⟨h1,h2,h3,h4,fun k=>!decide (k∈p),hM,fun k hk=>?_,?_⟩
  .show(!decide (k∈p))=true
   rw[decide_eq_false,Bool.not_false];intro h;have:=((hin k).1 (by rw[hs];exact mem_append_left _ h)).2
   rw[hk]at this;cases this
  .show(!decide (last∈p))=true
   rw[decide_eq_false,Bool.not_false];intro h
   have hl:last∈vq last d.M:=by rw[hs];exact mem_append_left _ h
   have hl':=((hin last).1 hl).1
   have hg1:(vq last d.M).getLast?=some last:=by
    unfold vq;rw[decide_eq_true hl',cond_true,getLast?_concat]
   rw[hs]at hg1 hn
   have hss:last∈s:=by
    rw[getLast?_append]at hg1
    cases hq:s.getLast? with
    |none=>rw[getLast?_eq_none_iff]at hq;exact absurd hq hne
    |some x =>
     rw[hq]at hg1
     have:x=last:=by simpa using hg1
     subst this;exact mem_of_getLast? hq
   exact(nodup_append.1 hn).2.2 last h last hss rfl
theorem wI{w x:dy}{n m:Nat}(h:nR w x n=true)(hm:n<=m):nR w x m=true:=by
 unfold nR at h|-;simp only[Bool.and_eq_true,decide_eq_true_eq]at h|-;exact⟨h.1,h.2.1,Nat.le_trans h.2.2 hm⟩
theorem P6{w:dy}{L r z:List dy}{cs:List ae}(h:fl w L=some (cs,r)):fl w (L++z)=some (cs,r++z):=by
 cases L with
 |nil=>cases h
 |cons x l =>
  rw[Cp]at h;rw[cons_append,Cp];cases ho:nR w x l.length
  .rw[ho]at h;cases h
  .rw[ho,cond_true,Option.map_eq_some_iff]at h
   obtain⟨c,hs,e⟩:=h;cases e
   have hle:fv w x<=l.length:=by
    unfold nR at ho;simp only[Bool.and_eq_true,decide_eq_true_eq]at ho;exact ho.2.2
   rw[wI ho (by simp),cond_true,take_append_of_le_length hle,drop_append_of_le_length hle,hs];rfl
theorem pG{L:List dy}{t:dy}{j:aj}(h:PJ L t=(j,0)):∃x r c1 r1 c2 y,L=x::r/\fl ic r=some (c1,r1)/\fl fZ r1=some (c2,[y]):=by
 unfold PJ at h;cases ht:decide (t=[])
 .rw[ht]at h;exact(gx (by decide) h).elim
 rw[ht]at h;simp only[Bool.not_true,cond_false]at h
 cases L with
 |nil=>exact(gx (by decide) h).elim
 |cons x r =>
 simp only at h;cases hp:fP (wJou++[32]) x
 .rw[hp]at h;exact(gx (by decide) h).elim
 rw[hp]at h;simp only[Bool.not_true,cond_false]at h
 cases h1:fl ic r with
 |none=>rw[h1]at h;exact(gx (by decide) h).elim
 |some q =>
 obtain⟨c,r1⟩:=q;rw[h1]at h;have h:C3 (x::r) (x.drop 8) c (fl fZ r1)=(j,0):=h
 cases h2:fl fZ r1 with
 |none=>rw[h2]at h;exact(gx (by decide) h).elim
 |some q =>
 obtain⟨o,r2⟩:=q;rw[h2]at h
 rcases r2 with _|⟨y,_|⟨z,r2⟩⟩
 .exact(gx (by decide) h).elim
 .exact⟨x,r,c,r1,o,y,rfl,h1,h2⟩
 .exact(gx (by decide) h).elim
theorem sE:∀(L L':List dy) (u:dy),(∀x∈L,(10:UInt8)∉x)->(∀x∈L',(10:UInt8)∉x)->dI L++u=dI L'->∃z,L'=L++z
 |[],L',_,_,_,_=>⟨L',rfl⟩
 |x::L,[],u,_,_,e=>by
  rw[p7]at e;have:=congrArg List.length e;simp[dI]at this
 |x::L,y::L',u,h,h',e=>by
  rw[p7,p7,append_assoc,cons_append]at e;have e1:=congrArg (zR 10) e;rw[DN (h x (mem_cons_self ..)),DN (h' y (mem_cons_self ..))]at e1;obtain⟨rfl,_⟩:=List.cons.inj e1;have e2:=(List.cons.inj (append_cancel_left e)).2;obtain⟨z,rfl⟩:=sE L L' u (fun a ha=>h a (mem_cons_of_mem _ ha)) (fun a ha=>h' a (mem_cons_of_mem _ ha)) e2;exact⟨z,rfl⟩
theorem xh{J:aj}(h:FF J)(n1:J.A.length<=4194304)(n2:J.G.length<=4194304){s u:dy}(hs:s++u=fh J)(hu:u≠[]):(pU s).2≠0:=by
 intro h0;have hl:=h.len;rw[<-hs,length_append]at hl;obtain⟨L,t,_,g2,g3,_,g6⟩:=LN s (by omega)
 have hp:pU s=PJ L t:=by unfold pU;rw[g6];rfl
 have hP:PJ L t=((pU s).1,0):=by rw[<-hp,<-h0]
 obtain⟨rfl,_⟩:=BZ hP;rw[append_nil]at g2;have hJ:=pH J h n1 n2;have hno:=od J h n1 n2;rw[<-(Oa J).1,g2]at hs;obtain⟨z,hz⟩:=sE L (uS J) u g3 hno hs;obtain⟨x,r,c1,r1,c2,y,rfl,a1,a2⟩:=pG hP;obtain⟨x',r',c1',r1',c2',y',b0,b1,b2⟩:=pG hJ;rw[hz,cons_append]at b0;obtain⟨_,rfl⟩:=List.cons.inj b0;rw[P6 a1]at b1;cases b1;rw[P6 a2]at b2;have:=(Prod.mk.inj (Option.some.inj b2)).2
 have hz0:z=[]:=by
  have:=congrArg List.length this;simp at this;exact this
 subst hz0;rw[append_nil]at hz;rw[hz]at hs;have:=congrArg List.length hs;rw[length_append]at this;exact hu (length_eq_zero_iff.1 (by omega))
theorem wz{J:aj}(h:FF J)(n1:J.A.length<=4194304)(n2:J.G.length<=4194304):pU (fh J)=(J,0):=by
 have hl:=h.len;have e:=rO (fh J) (by omega);rw[qL J h n1 n2]at e;exact(Option.some.inj e).symm
theorem ua(f:ab)(h:f.B.length<=65536)(hd:f.B≠[]):∃u,(lu f).B++u=f.B/\u≠[]:=by
 refine⟨f.B.drop ((IntKind.i64.wrap (Int.tdiv (f.B.length:Int) 2)).toNat),take_append_drop _ _,fun e=>?_⟩;have:=congrArg List.length e;rw[length_drop,ow h,Int.toNat_natCast]at this;have hp:=length_pos_iff.2 hd;simp at this;omega
theorem AA{c:ae}{M:ah}(h:(zY c M).1=0)(r:List ae):z6 (c::r) M=z6 r (zY c M).2:=by
 show(bif !decide ((zY c M).1=0)then _ else _)=_
 rw[decide_eq_true h];rfl
theorem LU{c:ae}{r:List ae}{M:ah}(h:(z6 (c::r) M).2=0):(zY c M).1=0:=by
 unfold z6 at h;apply Classical.byContradiction;intro h0;rw[decide_eq_false h0]at h;exact h0 h
theorem NZ:∀(a:List ae) (c:ae) (b:List ae) (M:ah),(z6 (a++c::b) M).2=0 ->
  (z6 a M).2=0/\(zY c (z6 a M).1).1=0
 |[],c,b,M,h=>⟨rfl,LU h⟩
 |d::a,c,b,M,h=>by
  have h0:(zY d M).1=0:=LU h;rw[cons_append,AA h0]at h;rw[AA h0];exact NZ a c b _ h
def fX(J:aj):ae:=eW ⟨wJrn,fh J,false⟩
def fa(J:aj):ae:=eW ⟨wDone,J.F,false⟩
structure Tx(M A:ah)(J:aj):Prop where
 good:Good M
 noS:dC M.h fc=none
 cl:∀k,stg k=true->dC M.h k=none
 nd:∀c∈J.A,jB c=false
 st:z6 J.A M=(A,0)
 pl:(J.A.map zbh).Nodup
 ok:FF J
 n1:J.A.length<=4194304
 n2:J.G.length<=4194304
 out:(z6 (fX J::(J.A++[fa J,dZ wJrn,dZ wDone])) M).2=0
def tL(J:aj)(M:ah)(i:Nat):Lw:=jw (J.A.take i) (dP (fX J) (dK M))
def sM(J:aj)(M:ah)(i:Nat):ah:=(z6 (fX J::J.A.take i) M).1
section
variable {M A:ah} {J:aj}
theorem Tx.mid(h:Tx M A J){i:Nat}(hi:i<=J.A.length):(z6 (fX J::J.A.take i) M).2=0 /\
  (∀hl:i<J.A.length,(zY J.A[i] (sM J M i)).1=0)/\(i=J.A.length->(zY (fa J) (sM J M i)).1=0):=by
 have ho:=h.out
 rcases Nat.lt_or_ge i J.A.length with hl|hl
 .have e:fX J::(J.A++[fa J,dZ wJrn,dZ wDone])=(fX J::J.A.take i)++J.A[i]::(J.A.drop (i+1)++[fa J,dZ wJrn,dZ wDone]):=by
   have e0:J.A=J.A.take i++J.A[i]::J.A.drop (i+1):=by rw[<-drop_eq_getElem_cons hl,take_append_drop]
   exact congrArg (fX J::·) ((congrArg (·++[fa J,dZ wJrn,dZ wDone]) e0).trans (append_assoc _ _ _))
  rw[e]at ho;obtain⟨h1,h2⟩:=NZ _ _ _ _ ho;exact⟨h1,fun _=>h2,fun e=>absurd e (Nat.ne_of_lt hl)⟩
 .obtain rfl:i=J.A.length:=Nat.le_antisymm hi hl
  have e:fX J::(J.A++[fa J,dZ wJrn,dZ wDone])=(fX J::J.A.take J.A.length)++fa J::[dZ wJrn,dZ wDone]:=by rw[take_length];rfl
  rw[e]at ho;obtain⟨h1,h2⟩:=NZ _ _ _ _ ho;exact⟨h1,fun hl=>absurd hl (Nat.lt_irrefl _),fun _=>h2⟩
theorem Tx.s(h:Tx M A J){i:Nat}(hi:i<=J.A.length):Good (sM J M i)/\(sM J M i).y=M.y/\dK (sM J M i)=tL J M i:=by
 have h1:=(h.mid hi).1;exact⟨(LS h.good _ h1).1,(LS h.good _ h1).2,Nn h.good h1⟩
theorem AO(J:aj)(M:ah){i:Nat}(hi:i<J.A.length):tL J M (i+1)=dP J.A[i] (tL J M i):=by
 unfold tL
 rw[take_succ_eq_append_getElem hi,kH];rfl
theorem Tx.tstg(h:Tx M A J)(i:Nat){k:dy}(hk:stg k=true):(tL J M i).f k=if wJrn=k then some ⟨wJrn,fh J,false⟩else none:=by
 unfold tL;rw[kG (fun c hc=>h.nd c (mem_of_mem_take hc)) _ (.inr hk)]
 show eK (dK M).f wJrn _ k=_
 unfold eK;split
 .rfl
 .exact h.cl k hk
theorem Tx.clean(h:Tx M A J):gz (dK M)=dK M:=ij (fun k=>by
 show(bif !stg k then dC M.h k else none)=dC M.h k
 cases hk:stg k
 .rfl
 .exact(h.cl k hk).symm) (fun _=>rfl) fun _=>rfl
theorem Tx.goodA(h:Tx M A J):Good A/\A.y=M.y/\dK A=jw J.A (dK M):=by
 have e:=h.st
 have h0:(z6 J.A M).2=0:=by rw[e]
 have h1:=LS h.good _ h0;have h2:=Nn h.good h0;rw[e]at h1 h2;exact⟨h1.1,h1.2,h2⟩
theorem Tx.endC(h:Tx M A J):gz (tL J M J.A.length)=dK A:=by
 unfold tL;rw[take_length,rW h.nd,Hw (.inl rfl) (show stg wJrn=true by decide),h.clean,h.goodA.2.2]
theorem Tx.eCh(h:Tx M A J){c:ae}(hc:c∈J.A):eCh c=0:=Gb (LG _ _ (by rw[h.st])) c hc
def xL(J:aj)(M:ah)(i:Nat):Option ae->Lw
 |none=>tL J M i
 |some c=>dP (eW (lu c.i)) (tL J M i)
structure StC(M:ah)(J:aj)(i:Nat)(tor:Option ae)(N:ah):Prop where
 g:Good N
 f:N.y=M.y
 le:i<=J.A.length
 l:eT (dK N)=eT (xL J M i tor)
 t:∀c,tor=some c->c.u=1/\∃h:i<J.A.length,J.A[i]=c
theorem wq{c:ae}(hk:c.u=1)(L:Lw):dP c (dP (eW (lu c.i)) L)=dP c L:=by
 have e:∀L,dP c L=⟨eK L.f c.i.a (some c.i),L.s,L.v⟩:=fun L=>by unfold dP;rw[hk];rfl
 rw[e,e]
 show(⟨eK (eK L.f c.i.a _) c.i.a _,L.s,L.v⟩:Lw)=_
 rw[rA]
theorem qH{c:ae}(hk:c.u=1):zbh (eW (lu c.i))=zbh c:=by
 unfold zbh
 rw[hk];rfl
theorem Tx.nodup(h:Tx M A J)(i:Nat):((J.A.take i).map zbh).Nodup:=by
 rw[map_take];exact h.pl.sublist (take_sublist _ _)
theorem StC.holds(h:Tx M A J){i:Nat}{tor:Option ae}{N:ah}(s:StC M J i tor N){k:Nat}(hk:k<i)(hl:k<J.A.length):dP J.A[k] (xL J M i tor)=xL J M i tor:=by
 have hm:J.A[k]∈J.A.take i:=by
  rw[mem_take_iff_getElem];exact⟨k,by omega,rfl⟩
 have hh:dP J.A[k] (tL J M i)=tL J M i:=n7 (h.nodup i) hm _
 cases tor with
 |none=>exact hh
 |some c =>
  obtain⟨h1,h2,rfl⟩:=s.t c rfl
  show dP _ (dP (eW (lu (J.A[i]).i)) (tL J M i))=dP (eW (lu (J.A[i]).i)) (tL J M i)
  rw[kF,hh];rw[qH h1];intro e;have hp:=h.pl
  have e1:(J.A.map zbh)[k]'(by simpa using hl)=(J.A.map zbh)[i]'(by simpa using h2):=by simpa using e
  exact pairwise_iff_getElem.1 hp k i (by simpa using hl) (by simpa using h2) hk e1
theorem StC.stg(h:Tx M A J){i:Nat}{tor:Option ae}{N:ah}(s:StC M J i tor N){k:dy}(hk:stg k=true):dC N.h k=if wJrn=k then some ⟨wJrn,fh J,false⟩else none:=by
 have e:dC N.h k=(xL J M i tor).f k:=congrFun (congrArg Lw.f s.l) k;rw[e,<-h.tstg i hk]
 cases tor with
 |none=>rfl
 |some c =>
  obtain⟨h1,h2,rfl⟩:=s.t c rfl;have hd:=h.nd _ (getElem_mem h2);have hf:=Hy hd (by rw[h1];rfl)
  show eK (tL J M i).f (J.A[i]).i.a _ k=_
  refine uT _ _ fun e=>?_
  rw[e]at hf
  rw[hf.2]at hk;cases hk
theorem StC.alike(h:Tx M A J){i:Nat}{N:ah}(s:StC M J i none N):Alike N (sM J M i):=by
 obtain⟨h1,h2,h3⟩:=h.s s.le;exact⟨s.g,h1,by rw[s.f,h2],by rw[h3];exact s.l⟩
theorem StC.done(h:Tx M A J){i:Nat}{tor:Option ae}{N N':ah}(s:StC M J i tor N)(hl:i<J.A.length)(hg:Good N')(hf:N'.y=N.y)(hw:dK N'=dP J.A[i] (dK N)):StC M J (i+1) none N':=by
 refine⟨hg,by rw[hf,s.f],hl,?_,fun c e=>by cases e⟩
 show eT (dK N')=eT (tL J M (i+1))
 rw[hw,AO J M hl,KT _ s.l]
 cases tor with
 |none=>rfl
 |some c =>
  obtain⟨h1,h2,rfl⟩:=s.t c rfl
  show eT (dP _ (dP (eW (lu (J.A[i]).i)) _))=_
  rw[wq h1]
theorem StC.torn(h:Tx M A J){i:Nat}{tor:Option ae}{N:ah}(s:StC M J i tor N)(hl:i<J.A.length)(hk:(J.A[i]).u=1)(h0:(zY J.A[i] N).1=0):StC M J i (some J.A[i]) (j8 J.A[i] N):=by
 refine⟨NE s.g hk h0,s.f,s.le,?_,fun c e=>by cases e;exact⟨hk,hl,rfl⟩⟩;rw[l9 s.g,KT _ s.l]
 cases tor with
 |none=>rfl
 |some c =>
  obtain⟨h1,h2,rfl⟩:=s.t c rfl
  show eT (dP _ (dP (eW (lu (J.A[i]).i)) _))=eT (dP (eW (lu (J.A[i]).i)) _)
  rw[kE]
theorem StC.put(h:Tx M A J){i:Nat}{tor:Option ae}{N:ah}(s:StC M J i tor N)(hl:i<J.A.length):(zY J.A[i] N).1=0:=by
 cases tor with
 |none=>rw[(s.alike h).err];exact(h.mid s.le).2.1 hl
 |some c =>
  obtain⟨h1,h2,rfl⟩:=s.t c rfl;refine tI (h.eCh (getElem_mem hl)) h1 s.g ?_;have e:dC N.h (J.A[i]).i.a=(xL J M i (some J.A[i])).f (J.A[i]).i.a:=congrFun (congrArg Lw.f s.l) _;rw[e]
  show(eK (tL J M i).f (J.A[i]).i.a _ (J.A[i]).i.a).isSome=true
  rw[rq];rfl
def gQ:List ae->Dk->Int×Dk
 |[],d=>(0,d)
 |c::l,d=>bif mX d.M c then gQ l d else bif !decide ((eh c d).1=0)then eh c d else gQ l (eh c d).2
theorem oE{c:ae}{l:List ae}{d:Dk}(h:mX d.M c=true):gQ (c::l) d=gQ l d:=by
 show(bif mX d.M c then _ else _)=_
 rw[h];rfl
theorem qX{c:ae}{l:List ae}{d:Dk}(h:mX d.M c=false)(h0:(eh c d).1=0):gQ (c::l) d=gQ l (eh c d).2:=by
 show(bif mX d.M c then _ else bif !decide ((eh c d).1=0)then _ else _)=_
 rw[h,decide_eq_true h0];rfl
theorem sq{c:ae}{l:List ae}{d:Dk}(h:mX d.M c=false)(h0:(eh c d).1=18):gQ (c::l) d=eh c d:=by
 show(bif mX d.M c then _ else bif !decide ((eh c d).1=0)then _ else _)=_
 rw[h,decide_eq_false (by rw[h0];decide)];rfl
theorem StC.redo(h:Tx M A J){i:Nat}{tor:Option ae}{N:ah}(s:StC M J i tor N){k:Nat}(hk:k<i)(hl:k<J.A.length)(hm:mX N J.A[k]=false):(J.A[k]).u=5/\(zY J.A[k] N).1=0:=by
 have hh:=s.holds h hk hl
 have h5:(J.A[k]).u=5:=by
  apply Classical.byContradiction;intro h5
  rw[qW h5 hh s.l]at hm;cases hm
 refine⟨h5,tw (h.eCh (getElem_mem hl)) h5 ?_⟩;have e:(fD N.o (J.A[k]).q.w).map gE=((xL J M i tor).v (J.A[k]).q.w).map gE:=congrFun (congrArg Lw.v s.l) _
 have e2:(xL J M i tor).v (J.A[k]).q.w=some (J.A[k]).q:=by
  rw[<-hh];unfold dP;rw[h5];exact rq _ _ _
 rw[e2]at e;have:=congrArg Option.isSome e
 simpa using this
theorem sr(h:Tx M A J):∀(r:List ae) (k:Nat) (d:Dk),J.A.drop k=r->d.off=false->(∃i tor,k<=i/\StC M J i tor d.M) ->
  ((gQ r d).1=0/\(gQ r d).2.off=false/\(gQ r d).2.cut=d.cut/\StC M J J.A.length none (gQ r d).2.M) ∨
  ((gQ r d).1=18/\d.cut=true/\(gQ r d).2.off=true/\(gQ r d).2.cut=false/\∃i tor,StC M J i tor (gQ r d).2.M)
 |[],k,d,hd,ho,⟨i,tor,hk,s⟩=>by
  have hn:J.A.length<=k:=drop_eq_nil_iff.1 hd;have hi:=s.le
  obtain rfl:i=J.A.length:=by omega
  have ht:tor=none:=by
   cases tor with
   |none=>rfl
   |some c=>obtain⟨_,h2,_⟩:=s.t c rfl;omega
  subst ht;exact .inl ⟨rfl,ho,rfl,s⟩
 |c::r,k,d,hd,ho,⟨i,tor,hk,s⟩=>by
  have hl:k<J.A.length:=by
   rcases Nat.lt_or_ge k J.A.length with q|q
   .exact q
   .rw[drop_eq_nil_of_le q]at hd;cases hd
  rw[drop_eq_getElem_cons hl]at hd;obtain⟨rfl,hr⟩:=List.cons.inj hd;have hfacts:=yU J.A[k] d.M;cases hm:mX d.M J.A[k]with
  |true =>
   rw[oE hm];refine sr h r (k+1) d hr ho ?_
   rcases Nat.lt_or_eq_of_le hk with q|rfl
   .exact⟨i,tor,q,s⟩
   .exact⟨k+1,none,Nat.le_refl _,s.done h hl s.g rfl (qO hm).symm⟩
  |false =>
   rcases Nat.lt_or_eq_of_le hk with q|rfl
   .obtain⟨h5,h0⟩:=s.redo h q hl hm
    rcases DQ ho h0 with⟨e,e1,e2,e3⟩|⟨e,hc⟩
    .rw[qX hm e]
     rw[<-e3];refine sr h r (k+1) _ hr e2 ⟨i,tor,q,?_⟩;rw[e1];refine⟨mT s.g _,by rw[hfacts,s.f],s.le,?_,s.t⟩;rw[yL s.g h0,KT _ s.l,s.holds h q hl]
    .rw[sq hm e]
     refine .inr ⟨e,hc.cut,hc.off,hc.cut',i,tor,?_⟩
     rcases hc.m with hm'|⟨h1,_⟩
     .rw[hm'];exact s
     .rw[h5]at h1;exact absurd h1 (by decide)
   .have h0:=s.put h hl
    rcases DQ ho h0 with⟨e,e1,e2,e3⟩|⟨e,hc⟩
    .rw[qX hm e]
     rw[<-e3];refine sr h r (k+1) _ hr e2 ⟨k+1,none,Nat.le_refl _,?_⟩;rw[e1];exact s.done h hl (mT s.g _) hfacts (yL s.g h0)
    .rw[sq hm e]
     rcases hc.m with hm'|⟨h1,hm'⟩
     .exact .inr ⟨e,hc.cut,hc.off,hc.cut',k,tor,by rw[hm'];exact s⟩
     .exact .inr ⟨e,hc.cut,hc.off,hc.cut',k,some J.A[k],by rw[hm'];exact s.torn h hl h1 h0⟩
end
structure StD(M A N:ah):Prop where
 g:Good N
 f:N.y=M.y
 d:(dC N.h wDone).isSome=true
 l:eT (gz (dK N))=eT (dK A)
structure StE(M B N:ah):Prop where
 g:Good N
 f:N.y=M.y
 l:eT (dK N)=eT (dK B)
structure StB(M N:ah):Prop where
 g:Good N
 f:N.y=M.y
 j:∃f,dC N.h wJrn=some f/\(pU f.B).2≠0
 d:dC N.h wDone=none
 b:dC N.h rn=none
 l:eT (gz (dK N))=eT (dK M)
inductive Stt(M A:ah)(J:aj)(N:ah):Prop
 |a:StE M M N->Stt M A J N
 |b:StB M N->Stt M A J N
 |c (i:Nat) (tor:Option ae):StC M J i tor N->Stt M A J N
 |d:StD M A N->Stt M A J N
theorem Stt.boot{M A:ah}{J:aj}{N:ah}(s:Stt M A J N):Stt M A J (rm N):=by
 have hb:eT (dK (rm N))=eT (dK N):=by rw[KU,wP]
 have hc:eT (gz (dK (rm N)))=eT (gz (dK N)):=by rw[KU];exact congrArg gz (wP (dK N))
 cases s with
 |a s=>exact .a ⟨Cf s.g,s.f,by rw[hb,s.l]⟩
 |b s=>exact .b ⟨Cf s.g,s.f,s.j,s.d,s.b,by rw[hc,s.l]⟩
 |c i tor s=>exact .c i tor ⟨Cf s.g,s.f,s.le,by rw[hb,s.l],s.t⟩
 |d s=>exact .d ⟨Cf s.g,s.f,s.d,by rw[hc,s.l]⟩
section
variable {M A:ah} {J:aj}
theorem CM{q:dy->Bool}(hq:∀k,stg k=false->q k=true)(L:Lw):gz (JT q L)=gz L:=ij (fun k=>by
 show(bif !stg k then(bif q k then L.f k else none)else none)=bif !stg k then L.f k else none
 cases hk:stg k
 .rw[hq k hk];rfl
 .rfl) (fun _=>rfl) fun _=>rfl
theorem StD.fil{N:ah}(s:StD M A N){q:dy->Bool}(hq:∀k,stg k=false->q k=true)(hd:q wDone=true):StD M A (jY q N):=by
 refine⟨Ny s.g q,s.f,?_,by rw[ma s.g,CM hq,s.l]⟩;have e:dC (jY q N).h wDone=_:=LI s.g.g2 q wDone;rw[e,hd];exact s.d
theorem StB.fil{N:ah}(s:StB M N){q:dy->Bool}(hq:∀k,stg k=false->q k=true)(hd:q wJrn=true):StB M (jY q N):=by
 have e:∀k,dC (jY q N).h k=bif q k then dC N.h k else none:=fun k=>LI s.g.g2 q k
 obtain⟨f,hf,hp⟩:=s.j;refine⟨Ny s.g q,s.f,⟨f,?_,hp⟩,?_,?_,by rw[ma s.g,CM hq,s.l]⟩
 .rw[e,hd];exact hf
 .rw[e,s.d];cases q wDone <;> rfl
 .rw[e,s.b];cases q rn <;> rfl
theorem xy(h:Tx M A J){d:Dk}(ho:d.off=false)(s:StC M J J.A.length none d.M) :
  ((eh (fa J) d).1=0/\(eh (fa J) d).2.off=false/\(eh (fa J) d).2.cut=d.cut/\StD M A (eh (fa J) d).2.M/\dK (eh (fa J) d).2.M=dP (fa J) (dK d.M)) ∨
  ((eh (fa J) d).1=18/\d.cut=true/\(eh (fa J) d).2.off=true/\(eh (fa J) d).2.cut=false/\Stt M A J (eh (fa J) d).2.M):=by
 have h0:(zY (fa J) d.M).1=0:=by rw[(s.alike h).err];exact(h.mid s.le).2.2 rfl
 have hC:eT (gz (dK d.M))=eT (dK A):=by
  show gz (eT (dK d.M))=_
  rw[s.l]
  show eT (gz (tL J M J.A.length))=_
  rw[h.endC]
 rcases DQ ho h0 with⟨e,e1,e2,e3⟩|⟨e,hc⟩
 .have hw:=yL s.g h0
  refine .inl ⟨e,e2,e3,?_,by rw[e1,hw]⟩;rw[e1];refine⟨mT s.g _,by rw[yU,s.f],?_,by rw[hw,Hw (.inl rfl) (show stg wDone=true by decide),hC]⟩;have e4:dC (zY (fa J) d.M).2.h wDone=(dP (fa J) (dK d.M)).f wDone:=congrFun (congrArg Lw.f hw) wDone;rw[e4]
  show(eK (dK d.M).f wDone _ wDone).isSome=true
  rw[rq];rfl
 .refine .inr ⟨e,hc.cut,hc.off,hc.cut',?_⟩
  rcases hc.m with hm|⟨hk,hm⟩
  .rw[hm];exact .c _ none s
  .rw[hm]
   have hw:=l9 (c:=fa J) s.g;refine .d ⟨NE s.g hk h0,s.f,?_,by rw[hw,Hw (.inl rfl) (show stg wDone=true by decide),hC]⟩;have e4:dC (j8 (fa J) d.M).h wDone=(dP (eW (lu (fa J).i)) (dK d.M)).f wDone:=congrFun (congrArg Lw.f hw) wDone;rw[e4]
   show(eK (dK d.M).f wDone _ wDone).isSome=true
   rw[rq];rfl
theorem BK{d:Dk}(ho:d.off=false)(s:StD M A d.M) :
  ((dO (fe wDone d.M) d).1=0/\(dO (fe wDone d.M) d).2.off=false/\StE M A (dO (fe wDone d.M) d).2.M) ∨
  ((dO (fe wDone d.M) d).1=18/\d.cut=true/\(dO (fe wDone d.M) d).2.off=true/\(dO (fe wDone d.M) d).2.cut=false/\StD M A (dO (fe wDone d.M) d).2.M):=by
 rcases k5 (last:=wDone) (by decide) ho s.g with⟨e,e1,e2,e3⟩|⟨e,e1,e2,e3,q,e4,e5,e6⟩
 .exact .inl ⟨e,e2,by rw[e1];exact⟨Co s.g,s.f,by rw[Nl s.g,s.l]⟩⟩
 .exact .inr ⟨e,e1,e2,e3,by rw[e4];exact s.fil e5 e6⟩
theorem BL{d:Dk}(ho:d.off=false)(s:StB M d.M) :
  ((dO (fe wJrn d.M) d).1=0/\(dO (fe wJrn d.M) d).2.off=false/\StE M M (dO (fe wJrn d.M) d).2.M) ∨
  ((dO (fe wJrn d.M) d).1=18/\d.cut=true/\(dO (fe wJrn d.M) d).2.off=true/\(dO (fe wJrn d.M) d).2.cut=false/\StB M (dO (fe wJrn d.M) d).2.M):=by
 rcases k5 (last:=wJrn) (by decide) ho s.g with⟨e,e1,e2,e3⟩|⟨e,e1,e2,e3,q,e4,e5,e6⟩
 .exact .inl ⟨e,e2,by rw[e1];exact⟨Co s.g,s.f,by rw[Nl s.g,s.l]⟩⟩
 .exact .inr ⟨e,e1,e2,e3,by rw[e4];exact s.fil e5 e6⟩
def sU(M:ah):Bool:=(dC M.h wDone).isSome
def p0(M:ah):Bool:=(dC M.h rn).isSome
noncomputable def fV(M:ah):List ae:=bif sU M then []else bif decide ((gN M).2=2)then(bif p0 M then(gN M).1.G else(gN M).1.A)else []
noncomputable def fu(M:ah):List ae:=bif sU M then []else bif decide ((gN M).2=2)&&!p0 M then [eW ⟨wDone,(gN M).1.F,false⟩]else []
noncomputable def gk(M:ah):dy:=bif sU M then wDone else bif decide ((gN M).2=2)then(bif p0 M then rn else wDone)else bif p0 M then rn else wJrn
noncomputable def jS(M:ah):Int:=bif sU M then 3 else bif decide ((gN M).2=2)then(bif p0 M then 4 else 3)else bif p0 M then 4 else 2
noncomputable def qD(M:ah)(d:Dk):(dy×Int×Int)×Dk :=
 bif !decide ((dO (fe (gk M) d.M) d).1=0)then(([],0,(dO (fe (gk M) d.M) d).1),(dO (fe (gk M) d.M) d).2)
 else(((gN M).1.F,jS M,0),(dO (fe (gk M) d.M) d).2)
noncomputable def nI(M:ah)(d:Dk):(dy×Int×Int)×Dk :=
 bif !decide ((dO (fu M) d).1=0)then(([],0,(dO (fu M) d).1),(dO (fu M) d).2)else qD M (dO (fu M) d).2
noncomputable def jT(M:ah)(d:Dk):(dy×Int×Int)×Dk :=
 bif !decide ((gQ (fV M) d).1=0)then(([],0,(gQ (fV M) d).1),(gQ (fV M) d).2)else nI M (gQ (fV M) d).2
noncomputable def qC(d:Dk):(dy×Int×Int)×Dk :=
 bif d.off then(([],0,12),d)else bif !yF d.M then(([],1,0),d)else jT d.M d
def yy(M A:ah)(J:aj)(cut:Bool)(r:Int×Int×Dk):Prop :=
 (r.2.1=0/\r.2.2.off=false/\((r.1=1∨r.1=2)/\StE M M r.2.2.M∨r.1=3/\StE M A r.2.2.M)) ∨
 (r.2.1=18/\cut=true/\r.2.2.off=true/\r.2.2.cut=false/\Stt M A J r.2.2.M)
def jV(r:(dy×Int×Int)×Dk):Int×Int×Dk:=(r.1.2.1,r.1.2.2,r.2)
theorem wh{N:ah}{d:Dk}(hL:gk N=wDone)(hW:jS N=3)(ho:d.off=false)(s:StD M A d.M):yy M A J d.cut (jV (qD N d)):=by
 unfold qD;rw[hL,hW]
 rcases BK ho s with⟨e,e1,e2⟩|⟨e,e1,e2,e3,e4⟩
 .rw[e]
  exact .inl ⟨rfl,e1,.inr ⟨rfl,e2⟩⟩
 .rw[e]
  exact .inr ⟨rfl,e1,e2,e3,.d e4⟩
theorem KL(N:ah):yF N=true↔∃k,stg k=true/\(dC N.h k).isSome=true:=by
 unfold yF;rw[any_eq_true];constructor
 .rintro⟨f,hf,hs⟩
  exact⟨f.a,hs,mem_lk.1 (mem_map_of_mem hf)⟩
 .rintro⟨k,hs,hk⟩
  obtain⟨f,hf,rfl⟩:=mem_map.1 (mem_lk.2 hk);exact⟨f,hf,hs⟩
theorem EG(h:Tx M A J){d:Dk}(ho:d.off=false)(s:Stt M A J d.M):yy M A J d.cut (jV (qC d)):=by
 unfold qC;rw[ho,cond_false]
 cases s with
 |a s =>
  have hn:yF d.M=false:=by
   cases hq:yF d.M with
   |false=>rfl
   |true =>
    obtain⟨k,h1,h2⟩:=(KL _).1 hq;have e:dC d.M.h k=dC M.h k:=congrFun (congrArg Lw.f s.l) k;rw[e,h.cl k h1]at h2;cases h2
  rw[hn];exact .inl ⟨rfl,ho,.inl ⟨.inl rfl,s⟩⟩
 |b s =>
  obtain⟨f,hf,hp⟩:=s.j;have hn:yF d.M=true:=(KL _).2 ⟨wJrn,by decide,by rw[hf];rfl⟩
  have hd:sU d.M=false:=by unfold sU;rw[s.d];rfl
  have hb:p0 d.M=false:=by unfold p0;rw[s.b];rfl
  have hj:gN d.M=(ZJ,1):=by
   unfold gN;rw[hf]
   show(bif !decide ((pU f.B).2=0)then _ else _)=_
   rw[decide_eq_false hp];rfl
  have hC:fV d.M=[]:=by unfold fV;rw[hd,hj];rfl
  have hK:fu d.M=[]:=by unfold fu;rw[hd,hj];rfl
  have hL:gk d.M=wJrn:=by unfold gk;rw[hd,hj,hb];rfl
  have hW:jS d.M=2:=by unfold jS;rw[hd,hj,hb];rfl
  rw[hn]
  show yy M A J d.cut (jV (jT d.M d))
  unfold jT;rw[hC]
  show yy M A J d.cut (jV (nI d.M d))
  unfold nI;rw[hK]
  show yy M A J d.cut (jV (qD d.M d))
  unfold qD;rw[hL,hW]
  rcases BL ho s with⟨e,e1,e2⟩|⟨e,e1,e2,e3,e4⟩
  .rw[e]
   exact .inl ⟨rfl,e1,.inl ⟨.inr rfl,e2⟩⟩
  .rw[e]
   exact .inr ⟨rfl,e1,e2,e3,.b e4⟩
 |c i tor s =>
  have hjf:dC d.M.h wJrn=some ⟨wJrn,fh J,false⟩:=by rw[s.stg h (by decide),if_pos rfl]
  have hdn:dC d.M.h wDone=none:=by rw[s.stg h (by decide),if_neg (by decide)]
  have hbn:dC d.M.h rn=none:=by rw[s.stg h (by decide),if_neg (by decide)]
  have hn:yF d.M=true:=(KL _).2 ⟨wJrn,by decide,by rw[hjf];rfl⟩
  have hd:sU d.M=false:=by unfold sU;rw[hdn];rfl
  have hb:p0 d.M=false:=by unfold p0;rw[hbn];rfl
  have hj:gN d.M=(J,2):=by
   unfold gN;rw[hjf]
   show(bif !decide ((pU (fh J)).2=0)then _ else _)=_
   rw[wz h.ok h.n1 h.n2];rfl
  have hC:fV d.M=J.A:=by unfold fV;rw[hd,hj,hb];rfl
  have hK:fu d.M=[fa J]:=by unfold fu;rw[hd,hj,hb];rfl
  have hL:gk d.M=wDone:=by unfold gk;rw[hd,hj,hb];rfl
  have hW:jS d.M=3:=by unfold jS;rw[hd,hj,hb];rfl
  rw[hn]
  show yy M A J d.cut (jV (jT d.M d))
  unfold jT;rw[hC]
  rcases sr h J.A 0 d rfl ho ⟨i,tor,Nat.zero_le _,s⟩with⟨e,e1,e2,e3⟩|⟨e,e1,e2,e3,i',tor',e4⟩
  .rw[e]
   show yy M A J d.cut (jV (nI d.M _))
   rw[<-e2];generalize (gQ J.A d).2=d1 at e1 e3;unfold nI;rw[hK]
   rcases xy h e1 e3 with⟨g,g1,g2,g3,_⟩|⟨g,g1,g2,g3,g4⟩
   .rw[Dp g]
    show yy M A J d1.cut (jV (qD d.M (eh (fa J) d1).2))
    rw[<-g2];exact wh hL hW g1 g3
   .rw[HB g,g]
    exact .inr ⟨rfl,g1,g2,g3,g4⟩
  .rw[e]
   exact .inr ⟨rfl,e1,e2,e3,.c i' tor' e4⟩
 |d s =>
  have hn:yF d.M=true:=(KL _).2 ⟨wDone,by decide,s.d⟩;have hd:sU d.M=true:=s.d
  have hC:fV d.M=[]:=by unfold fV;rw[hd];rfl
  have hK:fu d.M=[]:=by unfold fu;rw[hd];rfl
  have hL:gk d.M=wDone:=by unfold gk;rw[hd];rfl
  have hW:jS d.M=3:=by unfold jS;rw[hd];rfl
  rw[hn]
  show yy M A J d.cut (jV (jT d.M d))
  unfold jT;rw[hC]
  show yy M A J d.cut (jV (nI d.M d))
  unfold nI;rw[hK];exact wh hL hW ho s
def gD(J:aj):List ae:=[fa J,dZ wJrn,dZ wDone]
theorem AN(h:Tx M A J){d:Dk}(ho:d.off=false)(s:StC M J J.A.length none d.M) :
  ((dO (gD J) d).1=0/\(dO (gD J) d).2.off=false/\StE M A (dO (gD J) d).2.M) ∨
  ((dO (gD J) d).1=18/\d.cut=true/\(dO (gD J) d).2.off=true/\(dO (gD J) d).2.cut=false/\Stt M A J (dO (gD J) d).2.M):=by
 unfold gD
 rcases xy h ho s with⟨g,g1,g2,g3,g5⟩|⟨g,g1,g2,g3,g4⟩
 .rw[Dp g]
  rw[<-g2];generalize (eh (fa J) d).2=d1 at g1 g3 g5
  have hjf:(dC d1.M.h wJrn).isSome=true:=by
   have e:dC d1.M.h wJrn=(dP (fa J) (dK d.M)).f wJrn:=congrFun (congrArg Lw.f g5) wJrn;have e2:(dP (fa J) (dK d.M)).f wJrn=dC d.M.h wJrn:=uT (dK d.M).f (k:=wDone) (j:=wJrn) (some ⟨wDone,J.F,false⟩) (by decide)
   rw[e,e2,s.stg h (by decide),if_pos rfl];rfl
  obtain⟨p,r,hs,hM,hh⟩:=lQ [wJrn,wDone] d1 (by decide) g1 g3.g fun k hk=>by
   simp only[mem_cons,not_mem_nil,or_false]at hk
   rcases hk with rfl|rfl
   .exact⟨by decide,hjf⟩
   .exact⟨by decide,g3.d⟩
  have ek:[dZ wJrn,dZ wDone]=[wJrn,wDone].map dZ:=rfl;rw[ek]
  rcases hh with⟨rfl,a1,a2,a3⟩|⟨hne,a1,a2,a3,a4⟩
  .refine .inl ⟨a1,a2,?_⟩
   rw[append_nil]at hs;subst hs;rw[hM];refine⟨Ny g3.g _,g3.f,?_⟩;rw[ma g3.g,g5];have e1:eT (dP (fa J) (dK d.M))=eT (dP (fa J) (tL J M J.A.length)):=KT _ s.l
   show JT (fun k=>!decide (k∈[wJrn,wDone])) (eT (dP (fa J) (dK d.M)))=_
   rw[e1,<-h.endC]
   show eT (JT (fun k=>!decide (k∈[wJrn,wDone])) (dP (fa J) (tL J M J.A.length)))=eT (gz (tL J M J.A.length))
   refine congrArg eT (ij (fun k=>?_) (fun _=>rfl) fun _=>rfl)
   show(bif !decide (k∈[wJrn,wDone])then eK (tL J M J.A.length).f wDone _ k else none)=bif !stg k then(tL J M J.A.length).f k else none
   by_cases hk:k∈[wJrn,wDone]
   .rw[decide_eq_true hk]
    simp only[mem_cons,not_mem_nil,or_false]at hk
    rcases hk with rfl|rfl <;> rfl
   .rw[decide_eq_false hk]
    simp only[mem_cons,not_mem_nil,or_false,not_or]at hk;rw[uT _ _ fun e=>hk.2 e.symm];cases hq:stg k
    .rfl
    .rw[h.tstg _ hq,if_neg fun e=>hk.1 e.symm];rfl
  .refine .inr ⟨a1,a2,a3,a4,.d ?_⟩
   rw[hM]
   have hp:p=[]∨p=[wJrn]:=by
    rcases p with _|⟨x,_|⟨y,p⟩⟩
    .exact .inl rfl
    .right
     simp only[cons_append,nil_append,List.cons.injEq]at hs;rw[<-hs.1]
    .simp only[cons_append,List.cons.injEq]at hs
     have:=congrArg List.length hs.2.2;simp at this;exact absurd (length_eq_zero_iff.1 (by omega)) hne
   refine g3.fil (fun k hk=>?_) ?_
   .rcases hp with rfl|rfl
    .rfl
    .rw[decide_eq_false,Bool.not_false]
     intro e;rw[mem_singleton.1 e]at hk
     revert hk;decide
   .rcases hp with rfl|rfl <;> rfl
 .rw[HB g]
  exact .inr ⟨g,g1,g2,g3,g4⟩
theorem C1(h:Tx M A J):∀(r:List ae) (k:Nat) (d:Dk),J.A.drop k=r->k<=J.A.length->d.off=false->StC M J k none d.M ->
  ((dO (r++gD J) d).1=0/\(dO (r++gD J) d).2.off=false/\StE M A (dO (r++gD J) d).2.M) ∨
  ((dO (r++gD J) d).1=18/\d.cut=true/\(dO (r++gD J) d).2.off=true/\(dO (r++gD J) d).2.cut=false/\Stt M A J (dO (r++gD J) d).2.M)
 |[],k,d,hd,hk,ho,s=>by
  have hn:J.A.length<=k:=drop_eq_nil_iff.1 hd
  obtain rfl:k=J.A.length:=by omega
  exact AN h ho s
 |c::r,k,d,hd,hk,ho,s=>by
  have hl:k<J.A.length:=by
   rcases Nat.lt_or_ge k J.A.length with q|q
   .exact q
   .rw[drop_eq_nil_of_le q]at hd;cases hd
  rw[drop_eq_getElem_cons hl]at hd;obtain⟨rfl,hr⟩:=List.cons.inj hd;have h0:=s.put h hl;rw[cons_append]
  rcases DQ ho h0 with⟨e,e1,e2,e3⟩|⟨e,hc⟩
  .rw[Dp e,<-e3]
   refine C1 h r (k+1) _ hr hl e2 ?_;rw[e1];exact s.done h hl (mT s.g _) (yU _ _) (yL s.g h0)
  .rw[HB e]
   rcases hc.m with hm'|⟨h1,hm'⟩
   .exact .inr ⟨e,hc.cut,hc.off,hc.cut',.c k none (by rw[hm'];exact s)⟩
   .exact .inr ⟨e,hc.cut,hc.off,hc.cut',.c k _ (by rw[hm'];exact s.torn h hl h1 h0)⟩
theorem ED(h:Tx M A J){d:Dk}(ho:d.off=false)(hm:d.M=M) :
  ((dO (fX J::(J.A++gD J)) d).1=0/\(dO (fX J::(J.A++gD J)) d).2.off=false/\StE M A (dO (fX J::(J.A++gD J)) d).2.M) ∨
  ((dO (fX J::(J.A++gD J)) d).1=18/\d.cut=true/\(dO (fX J::(J.A++gD J)) d).2.off=true/\(dO (fX J::(J.A++gD J)) d).2.cut=false/\Stt M A J (dO (fX J::(J.A++gD J)) d).2.M):=by
 subst hm;have h0:(zY (fX J) d.M).1=0:=LU h.out
 rcases DQ ho h0 with⟨e,e1,e2,e3⟩|⟨e,hc⟩
 .rw[Dp e,<-e3]
  refine C1 h J.A 0 _ rfl (Nat.zero_le _) e2 ?_;rw[e1];refine⟨mT h.good _,yU _ _,Nat.zero_le _,?_,fun c e=>by cases e⟩;rw[yL h.good h0];rfl
 .rw[HB e]
  rcases hc.m with hm'|⟨h1,hm'⟩
  .exact .inr ⟨e,hc.cut,hc.off,hc.cut',.a (by rw[hm'];exact⟨h.good,rfl,rfl⟩)⟩
  .refine .inr ⟨e,hc.cut,hc.off,hc.cut',.b ?_⟩
   rw[hm'];have hw:=l9 (c:=fX J) h.good;have hlen:=h.ok.len
   have hdat:(⟨wJrn,fh J,false⟩:ab).B≠[]:=fun e=>by
    have:=congrArg List.length e;rw[show(⟨wJrn,fh J,false⟩:ab).B=fh J from rfl,tJ]at this;simp at this
   obtain⟨u,hu,hune⟩:=ua ⟨wJrn,fh J,false⟩ hlen hdat
   have hf:∀k,dC (j8 (fX J) d.M).h k=eK (dK d.M).f wJrn (some (lu ⟨wJrn,fh J,false⟩)) k:=fun k=>congrFun (congrArg Lw.f hw) k
   refine⟨NE h.good h1 h0,rfl,⟨_,by rw[hf,rq],xh h.ok h.n1 h.n2 hu hune⟩,?_,?_,?_⟩
   .rw[hf,uT _ _ (by decide)];exact h.cl _ (by decide)
   .rw[hf,uT _ _ (by decide)];exact h.cl _ (by decide)
   .rw[hw,Hw (.inl rfl) (show stg wJrn=true by decide),h.clean]
end
theorem KH{L:List dy}{t:dy}{j:aj}(h:PJ L t=(j,0))(hs:(dI L).length<=4194304):uD j.A/\uD j.G:=by
 unfold PJ at h;cases ht:decide (t=[])
 .rw[ht]at h;exact(gx (by decide) h).elim
 rw[ht]at h;simp only[Bool.not_true,cond_false]at h
 cases L with
 |nil=>exact(gx (by decide) h).elim
 |cons x r =>
 simp only at h;cases hp:fP (wJou++[32]) x
 .rw[hp]at h;exact(gx (by decide) h).elim
 rw[hp]at h;simp only[Bool.not_true,cond_false]at h
 cases h1:fl ic r with
 |none=>rw[h1]at h;exact(gx (by decide) h).elim
 |some q =>
 obtain⟨c,r1⟩:=q;rw[h1]at h;have h:C3 (x::r) (x.drop 8) c (fl fZ r1)=(j,0):=h
 cases h2:fl fZ r1 with
 |none=>rw[h2]at h;exact(gx (by decide) h).elim
 |some q =>
 obtain⟨o,r2⟩:=q;rw[h2]at h
 have hr:(dI r).length<=4194304:=by
  have:=Ie (x::r) 1;simp only[drop_succ_cons,drop_zero]at this;omega
 obtain⟨s1,_,s2,_⟩:=Li h1 hr;obtain⟨s3,_⟩:=Li h2 (by omega)
 rcases r2 with _|⟨y,_|⟨z,r2⟩⟩
 .exact(gx (by decide) h).elim
 .have h:yr (x::r) ⟨x.drop 8,c,o⟩ y=(j,0):=h
  unfold yr at h;cases hy:fP (ie++[32]) y
  .rw[hy]at h;exact(gx (by decide) h).elim
  rw[hy]at h;cases hS:Ad (y.drop 4)
  .rw[hS]at h;exact(gx (by decide) h).elim
  rw[hS]at h;simp only[Bool.not_true,Bool.or_self,cond_false]at h;cases hq:decide (fY (dI ((x::r).dropLast))=y.drop 4)
  .rw[hq]at h;exact(gx (by decide) h).elim
  rw[hq]at h;rw[kY h];exact⟨s1,s3⟩
 .exact(gx (by decide) h).elim
theorem FT:uD []:=⟨fun c h=>(by cases h),fun c h=>(by cases h),by simp[gg],by simp⟩
theorem Be{M:ah}(hM:Good M):uD (gN M).1.A/\uD (gN M).1.G:=by
 unfold gN
 cases h:dC M.h wJrn with
 |none=>exact⟨FT,FT⟩
 |some f =>
  have hd:=kU hM (jE h).1;simp only
  cases h0:decide ((pU f.B).2=0)with
  |false=>exact⟨FT,FT⟩
  |true =>
   obtain⟨L,t,_,g2,_,_,g6⟩:=LN f.B (by omega)
   have hp:pU f.B=PJ L t:=by unfold pU;rw[g6];rfl
   have hP:PJ L t=((pU f.B).1,0):=by rw[<-hp,<-of_decide_eq_true h0]
   have hl:(dI L).length<=4194304:=by
    have:=congrArg List.length g2;rw[length_append]at this;omega
   exact KH hP hl
theorem ul(M:ah):zP M.h=some (yF M):=by
 unfold zP MF;simp only[dH];obtain⟨n,h1,h2⟩:=Hk (g:=I7) (fun f:ab=>stg f.a) (fun f=>by unfold I7;rw[LL,ze]) M.h 0
 rw[h1,ze,h2];rfl
theorem Lo{α:Type}(q:α->Bool):∀(l:List α) (i:Nat),
  ∃n:Int,forL l i (fun i f s nx k=>bif q f then some (i:Int)else nx ()) () (fun _=>some (-1))=some n/\decide (0<=n)=l.any q
 |[],i=>⟨-1,rfl,rfl⟩
 |x::l,i=>by
  unfold forL;dsimp only;rw[any_cons];cases q x
  .rw[cond_false,Bool.false_or]
   exact Lo q l (i+1)
  .exact⟨i,rfl,by rw[Bool.true_or];exact decide_eq_true (by omega)⟩
theorem mJ{A:Type}{key:A->dy}{l:List A}(hs:dU key l){e:A->A->Bool}(he:∀{a b},e a b=true->a=b)(hr:∀a,e a a=true)(v:A):l.any (e v)=mq e (lk key l (key v)) v:=by
 rw[Bool.eq_iff_iff,any_eq_true];constructor
 .rintro⟨y,hy,h⟩
  obtain rfl:=he h;rw[vk hs hy];exact hr _
 .intro h
  have h2:=Ls he h;exact⟨v,(jE h2).1,hr v⟩
theorem mI{A:Type}(key:A->dy)(k:dy):∀l:List A,l.any (fun y=>decide (key y=k))=(lk key l k).isSome
 |[]=>rfl
 |x::l=>by
  rw[any_cons]
  show _=(List.find? _ (x::l)).isSome
  by_cases h:key x=k
  .rw[find?_cons_of_pos (by simpa using h),decide_eq_true h];rfl
  .rw[find?_cons_of_neg (by simpa using h),decide_eq_false h,Bool.false_or];exact mI key k l
theorem PL{M:ah}(hM:Good M)(f:ab):I9 M.h f=some (mq iQ (dC M.h f.a) f):=by
 unfold I9 MK;simp only[dH];obtain⟨n,h1,h2⟩:=Lo (fun y:ab=>iQ f y) M.h 0;refine(congrArg (fun m=>Vc.call m fun r=>some (decide (0<=r))) h1).trans ?_;rw[ze,h2];exact congrArg some (mJ hM.g2 NB (fun a=>by simp[iQ]) f)
theorem PK{M:ah}(hM:Good M)(f:aa):zS M.r f=some (mq iM (gB M.r f.k) f):=by
 unfold zS MC;simp only[dH];obtain⟨n,h1,h2⟩:=Lo (fun y:aa=>iM f y) M.r 0;refine(congrArg (fun m=>Vc.call m fun r=>some (decide (0<=r))) h1).trans ?_;rw[ze,h2];exact congrArg some (mJ hM.s2 MX (fun a=>by simp[iM]) f)
theorem PH{M:ah}(hM:Good M)(f:ai):zT M.o f=some (mq jM (fD M.o f.w) f):=by
 unfold zT MB;simp only[dH];obtain⟨n,h1,h2⟩:=Lo (fun y:ai=>jM f y) M.o 0;refine(congrArg (fun m=>Vc.call m fun r=>some (decide (0<=r))) h1).trans ?_;rw[ze,h2];exact congrArg some (mJ hM.v2 MY (fun a=>by simp[jM]) f)
theorem PI(M:ah)(c:ae):zA M.r c=some (gB M.r c.z.k).isSome:=by
 unfold zA z8;simp only[dH];obtain⟨n,h1,h2⟩:=Hk (g:=fun s=>Mf s c) (fun s:aa=>decide (s.k=c.z.k)) (fun f=>rfl) M.r 0;refine(congrArg (fun m=>Vc.call m fun r=>some (decide (0<=r))) h1).trans ?_;rw[ze,h2,mI]
theorem PG(M:ah)(c:ae):zB M.o c=some (fD M.o c.q.w).isSome:=by
 unfold zB MG;simp only[dH];obtain⟨n,h1,h2⟩:=Hk (g:=fun s=>Mh s c) (fun s:ai=>decide (s.w=c.q.w)) (fun f=>rfl) M.o 0;refine(congrArg (fun m=>Vc.call m fun r=>some (decide (0<=r))) h1).trans ?_;rw[ze,h2,mI]
theorem Bc{M:ah}(hM:Good M)(c:ae):H8 M c=some (mX M c):=by
 unfold H8 mX;rw[PL hM,C7,PK hM,PI,PH hM,PG]
 cases decide (c.u=1) <;> cases decide (c.u=2) <;> cases decide (c.u=3) <;> cases decide (c.u=4) <;> cases decide (c.u=5) <;> rfl
abbrev Ss:=Bool×Bool×Int×Int×List (dy×ab)×List (dy×Int)×List (dy×aa)×List (dy×ai)
def PdS(b:Nat)(fs:List aa)(torn:Bool)(s:Ss)(d:Dk):Prop:=Pd b s.2.2.2.2.1 s.2.2.2.2.2.1 s.2.2.2.2.2.2.1 s.2.2.2.2.2.2.2 fs s.1 s.2.1 s.2.2.1 torn s.2.2.2.1 d
theorem PdS.le{b b':Nat}{fs:List aa}{torn:Bool}{s:Ss}{d:Dk}(h:PdS b fs torn s d)(hb:b<=b'):PdS b' fs torn s d:=Pd.le h hb
theorem ka{c:ae}{d:Dk}(h:(eh c d).1=0):(eh c d).2.off=false:=by
 cases ho:d.off with
 |true=>unfold eh at h;rw[ho]at h;exact absurd (show(12:Int)=0 from h) (by decide)
 |false =>
  have h0:(zY c d.M).1=0:=by
   apply Classical.byContradiction;intro hn;unfold eh at h;rw[ho,decide_eq_false hn]at h;exact hn h
  rcases DQ ho h0 with⟨_,_,e,_⟩|⟨e,_⟩
  .exact e
  .rw[h]at e;exact absurd e (by decide)
section
variable {b:Nat} {m1:List (dy×ab)} {m2:List (dy×Int)} {m3:List (dy×aa)} {m4:List (dy×ai)} {fs:List aa} {off cut torn:Bool} {after writes:Int} {d:Dk}
theorem yq(h:Pd b m1 m2 m3 m4 fs off cut after torn writes d)(l:List ae)(hl:∀c∈l,gZ c)(hb:b+200*l.length<=137438953472) :
  Ends (DP l off cut after torn writes fs m1 m2 m3 m4) (fun r=>r.1=(dO l d).1/\PdS (b+200*l.length) fs torn r.2 (dO l d).2):=by
 unfold DP;simp only[dH];refine Dl (fun i r s=>∃d',i+r.length=l.length/\(∀c∈r,gZ c)/\PdS (b+200*i) fs torn s d'/\dO r d'=dO l d) (fun i s hs=>?_) (fun i c r s nx hs hnx=>?_) l 0 (off,cut,after,writes,m1,m2,m3,m4) ⟨d,by simp,hl,h,rfl⟩
 .obtain⟨d',hi,_,hp,e⟩:=hs
  obtain⟨s1,s2,s3,s4,s5,s6,s7,s8⟩:=s;rw[<-e];exact⟨_,rfl,rfl,hp.le (by simp only[length_nil]at hi;omega)⟩
 .obtain⟨d',hi,hr,hp,e⟩:=hs
  obtain⟨s1,s2,s3,s4,s5,s6,s7,s8⟩:=s;simp only[length_cons]at hi;obtain⟨r',er,h1,h2⟩:=KF hp (by omega) c (hr c (mem_cons_self ..));dsimp only at er|-;rw[er,ze];have h2':Pd (b+200*(i+1)) _ _ _ _ fs _ _ _ torn _ (eh c d').2:=h2.le (by omega)
  by_cases h0:r'.1=0
  .rw[decide_eq_true h0,Bool.not_true,cond_false]
   refine hnx _ ⟨(eh c d').2,by omega,fun x hx=>hr x (mem_cons_of_mem _ hx),h2',?_⟩;rw[<-e,Dp (by rw[<-h1];exact h0)]
  .rw[decide_eq_false h0,Bool.not_false,cond_true]
   have e2:dO (c::r) d'=eh c d':=by rw[Lv,decide_eq_false (by rw[<-h1];exact h0)];rfl
   rw[<-e,e2];exact⟨_,rfl,h1,h2'.le (by omega)⟩
theorem KB(h:Pd b m1 m2 m3 m4 fs off cut after torn writes d)(ho:d.off=false)(l:List ae)(hl:∀c∈l,gZ c)(hb:b+200*l.length<=137438953472) :
  Ends (IR l off cut after torn writes fs m1 m2 m3 m4) (fun r=>r.1=(gQ l d).1/\PdS (b+200*l.length) fs torn r.2 (gQ l d).2/\(r.1=0->(gQ l d).2.off=false)):=by
 unfold IR;simp only[dH];refine Dl (fun i r s=>∃d',i+r.length=l.length/\(∀c∈r,gZ c)/\PdS (b+200*i) fs torn s d'/\d'.off=false/\gQ r d'=gQ l d) (fun i s hs=>?_) (fun i c r s nx hs hnx=>?_) l 0 (off,cut,after,writes,m1,m2,m3,m4) ⟨d,by simp,hl,h,ho,rfl⟩
 .obtain⟨d',hi,_,hp,ho',e⟩:=hs
  obtain⟨s1,s2,s3,s4,s5,s6,s7,s8⟩:=s;rw[<-e];exact⟨_,rfl,rfl,hp.le (by simp only[length_nil]at hi;omega),fun _=>ho'⟩
 .obtain⟨d',hi,hr,hp,ho',e⟩:=hs
  obtain⟨s1,s2,s3,s4,s5,s6,s7,s8⟩:=s;simp only[length_cons]at hi;have hm:=HQ hp;dsimp only at hm|-;rw[hm,ze,ho',cond_false,decide_eq_true rfl,Bool.not_true,cond_false];have hg:=hp.good;rw[Bc hg,ze]
  cases hq:mX d'.M c with
  |true =>
   rw[cond_true];refine hnx _ ⟨d',by omega,fun x hx=>hr x (mem_cons_of_mem _ hx),hp.le (by omega),ho',?_⟩;rw[<-e,oE hq]
  |false =>
   rw[cond_false];obtain⟨r',er,h1,h2⟩:=KF hp (by omega) c (hr c (mem_cons_self ..));dsimp only at er;rw[er,ze];have h2':Pd (b+200*(i+1)) _ _ _ _ fs _ _ _ torn _ (eh c d').2:=h2.le (by omega)
   by_cases h0:r'.1=0
   .rw[decide_eq_true h0,Bool.not_true,cond_false]
    have h0':(eh c d').1=0:=by rw[<-h1];exact h0
    refine hnx _ ⟨(eh c d').2,by omega,fun x hx=>hr x (mem_cons_of_mem _ hx),h2',ka h0',?_⟩;rw[<-e,qX hq h0']
   .rw[decide_eq_false h0,Bool.not_false,cond_true]
    have e2:gQ (c::r) d'=eh c d':=by
     show(bif mX d'.M c then _ else bif !decide ((eh c d').1=0)then _ else _)=_
     rw[hq,decide_eq_false (by rw[<-h1];exact h0)];rfl
    rw[<-e,e2];exact⟨_,rfl,h1,h2'.le (by omega),fun e=>absurd e h0⟩
theorem A1{M:ah}(hM:Good M)(last:dy):IZ M last=some (fe last M):=by
 have h2:=hM.c2;unfold IZ fe;simp only[dH];rw[Lj last _ M.h 0 [] (by simp;omega),C7,ze,mb,nil_append];have hfl:=length_filter_le (fun k=>!decide (k=last)&&stg k) (M.h.map (·.a));rw[length_map]at hfl;cases (dC M.h last).isSome
 .simp
 .rw[cond_true,show ry last=some (dZ last)from rfl,ze,zg (by simp only[length_append,length_map,length_singleton];omega)]
  rfl
theorem nH(M:ah):IH M (gN M).1 (gN M).2=some (fV M,fu M,gk M,jS M):=by
 unfold IH fV fu gk jS;rw[show pX M ([115,116,97,103,101,47,100,111,110,101]:dy)=some (sU M)from C7 M wDone,ze,show pX M ([115,116,97,103,101,47,98,97,99,107]:dy)=some (p0 M)from C7 M rn,iT,ze];cases sU M
 .cases decide ((gN M).2=2)
  .cases p0 M <;> rfl
  .cases p0 M <;> rfl
 .rfl
theorem A3{M:ah}(hM:Good M):uD (fV M):=by
 obtain⟨h1,h2⟩:=Be hM;unfold fV;cases sU M
 .cases decide ((gN M).2=2)
  .exact FT
  .cases p0 M
   .exact h1
   .exact h2
 .exact FT
theorem A2(M:ah):(∀c∈fu M,gZ c)/\(fu M).length<=1:=by
 unfold fu;cases sU M
 .cases decide ((gN M).2=2)&&!p0 M
  .exact⟨fun c h=>(by cases h),by simp⟩
  .refine⟨fun c h=>?_,by simp⟩
   rw[mem_singleton.1 h];exact⟨show Sm wDone by unfold Sm;decide,show Sm []by unfold Sm;decide,show Sm []by unfold Sm;decide⟩
 .exact⟨fun c h=>(by cases h),by simp⟩
theorem py:∀(l:List ae) (d:Dk),d.off=false->(dO l d).1=0->(dO l d).2.off=false
 |[],d,ho,_=>ho
 |c::l,d,ho,h=>by
  by_cases h0:(eh c d).1=0
  .rw[Dp h0]at h|-
   exact py l _ (ka h0) h
  .rw[Lv,decide_eq_false h0]at h
   exact absurd h h0
theorem KA(h:Pd b m1 m2 m3 m4 fs off cut after torn writes d)(hb:b<=100000000000) :
  Ends (IM off cut after torn writes fs m1 m2 m3 m4) (fun r=>(r.1,r.2.1,r.2.2.1)=(qC d).1/\PdS (b+2000000000) fs torn r.2.2.2 (qC d).2):=by
 unfold IM GO;rw[HQ h,ze,ze];unfold qC
 cases ho:d.off with
 |true=>exact⟨_,rfl,rfl,h.le (by omega)⟩
 |false =>
  simp only[cond_false,decide_true,Bool.not_true];unfold Mt;have hg:=h.good;rw[ul,ze]
  cases ha:yF d.M with
  |false=>exact⟨_,rfl,rfl,h.le (by omega)⟩
  |true =>
   simp only[Bool.not_true,cond_false];rw[rY hg,ze,nH,ze];have hC:=A3 hg;have hCn:=hC.n;obtain⟨hK,hKn⟩:=A2 d.M
   refine Ends.call (Q:=fun r=>(r.1,r.2.1,r.2.2.1)=(jT d.M d).1/\PdS (b+2000000000) fs torn r.2.2.2 (jT d.M d).2) ?_ fun r hr=>⟨_,rfl,hr⟩
   unfold jT
   refine(KB h ho (fV d.M) hC.c (by omega)).call fun r1 hr1=>?_
   obtain⟨q1,q2,q3⟩:=hr1;rw[<-q1]
   by_cases h1:r1.1=0
   .rw[decide_eq_true h1]
    simp only[Bool.not_true,cond_false];have o1:=q3 h1;generalize (gQ (fV d.M) d).2=d1 at q2 o1;unfold nI
    refine(yq q2 (fu d.M) hK (by omega)).call fun r2 hr2=>?_
    obtain⟨p1,p2⟩:=hr2;rw[<-p1]
    by_cases h2:r2.1=0
    .rw[decide_eq_true h2]
     simp only[Bool.not_true,cond_false];have o2:=py (fu d.M) d1 o1 (by rw[<-p1];exact h2);generalize (dO (fu d.M) d1).2=d2 at p2 o2;have hm:=HQ p2;rw[hm,ze,o2,cond_false,decide_eq_true rfl,Bool.not_true,cond_false];have hg2:=p2.good;rw[A1 hg2,ze];have hcl:=NL hg2 (gk d.M);unfold qD
     refine(yq p2 (fe (gk d.M) d2.M) (fun c hc=>(k0 hg2 _ c hc).x.sm) (by omega)).call fun r3 hr3=>?_
     obtain⟨t1,t2⟩:=hr3;rw[<-t1]
     by_cases h3:r3.1=0
     .rw[decide_eq_true h3]
      exact⟨_,rfl,rfl,t2.le (by omega)⟩
     .rw[decide_eq_false h3]
      exact⟨_,rfl,rfl,t2.le (by omega)⟩
    .rw[decide_eq_false h2]
     exact⟨_,rfl,rfl,p2.le (by omega)⟩
   .rw[decide_eq_false h1]
    exact⟨_,rfl,rfl,q2.le (by omega)⟩
theorem qf{M:ah}(hM:Good M)(id:dy)(l:List ae):(lA M id l).1.length<=l.length+2005:=by
 have hcl:=NL hM wJrn;unfold lA;cases !decide (gG M l=0)
 .cases !eS id
  .cases ((dC M.h wDone).isSome||(dC M.h rn).isSome)||decide ((gN M).2=2)
   .cases !decide ((pJ ⟨id,l,fR M l⟩).2=0)
    .cases !decide ((z6 (iq M id l (pJ ⟨id,l,fR M l⟩).1) M).2=0)
     .show(iq M id l _).length<=_
      unfold iq;simp only[length_append,length_singleton,length_cons,length_nil];omega
     .exact Nat.zero_le _
    .exact Nat.zero_le _
   .exact Nat.zero_le _
  .exact Nat.zero_le _
 .exact Nat.zero_le _
theorem KC(h:Pd b m1 m2 m3 m4 fs off cut after torn writes d)(hb:b<=100000000000)(id:dy)(l:List ae)(hl:∀c∈l,jI c)(hw:uC l) :
  Ends (Iv id l off cut after torn writes fs m1 m2 m3 m4) (fun r=>r.1=(zkT id l d).1/\PdS (b+2000000000) fs torn r.2 (zkT id l d).2):=by
 have hn:=hw.n;unfold Iv GO zkT;rw[HQ h,ze,ze]
 cases ho:d.off with
 |true=>exact⟨_,rfl,rfl,h.le (by omega)⟩
 |false =>
  simp only[cond_false,decide_true,Bool.not_true];have hg:=h.good;rw[KK hg id l hl hw,ze];have hlen:=qf hg id l
  cases h0:decide ((lA d.M id l).2=0)with
  |false=>exact⟨_,rfl,rfl,h.le (by omega)⟩
  |true =>
   simp only[Bool.not_true,cond_false]
   refine(yq h (lA d.M id l).1 (fun c hc=>(qe hg id l hl c hc).sm) (by omega)).call fun r hr=>?_
   exact⟨_,rfl,hr.1,hr.2.le (by omega)⟩
end
theorem vU{p d:dy}(h:stg p=true)(hd:dX p d=true):d=fc∨stg d=true:=by
 obtain⟨i,hi,h47,rfl⟩:=undB_at.1 hd;obtain⟨r,rfl⟩:=F8 (d:=fc) h
 rcases Nat.lt_trichotomy i 5 with q|q|q
 .exfalso
  have h1:(fc++47::r)[i]=fc[i]'(by exact q):=getElem_append_left (by exact q);rw[h1]at h47
  have:∀j:Fin 5,fc[j.val]'(by exact j.isLt)≠47:=by decide
  exact this ⟨i,q⟩ h47
 .subst q
  exact .inl (take_left (l₁:=fc) (l₂:=47::r))
 .refine .inr ?_
  have e:(fc++47::r).take i=fc++47::r.take (i-6):=by
   obtain⟨j,rfl⟩:∃j,i=j+6:=⟨i-6,by omega⟩
   show List.take (j+6) ([115,116,97,103,101]++47::r)=_
   rfl
  rw[e];exact lG _ _
theorem nr{p x:dy}(h:stg x=true)(hp:dX p x=true):stg p=true:=by
 obtain⟨r,rfl⟩:=F8 (d:=fc) h;obtain⟨q,rfl⟩:=F8 hp;rw[append_assoc];exact lG _ _
theorem uo{p:dy}{x:ab}(hx:stg x.a=true)(h1:p≠fc)(h2:stg p=false):fb p x=false:=by
 unfold fb;rw[Bool.or_eq_false_iff];constructor
 .cases h:dX x.a p with
  |false=>rfl
  |true =>
   rcases vU hx h with e|e
   .exact absurd e h1
   .rw[h2]at e;cases e
 .cases h:dX p x.a with
  |false=>rfl
  |true=>have:=nr hx h;rw[h2]at this;cases this
theorem QG{p:dy}{x:ab}(hp:stg p=true)(h1:x.a≠fc)(h2:stg x.a=false):fb p x=false:=by
 unfold fb;rw[Bool.or_eq_false_iff];constructor
 .cases h:dX x.a p with
  |false=>rfl
  |true=>have:=nr hp h;rw[h2]at this;cases this
 .cases h:dX p x.a with
  |false=>rfl
  |true =>
   rcases vU hp h with e|e
   .exact absurd e h1
   .rw[h2]at e;cases e
theorem ws{c:ae}{N:ah}(he:eCh c=0)(hk:c.u=1)(hq:N.h.any (fb c.i.a)=false):(zY c N).1=0∨(zY c N).1=4:=by
 rw[yN,hq];unfold vg;simp only[he,hk,lz,decide_true,Bool.not_true,cond_false,cond_true];cases !(dC N.h c.i.a).isSome&&decide (2000<=(N.h.length:Int))
 .exact .inl rfl
 .exact .inr rfl
theorem Ex{c:ae}{S A:ah}(hS:Good S)(hA:Good A)(hr:gz (dK S)=dK A)(hd:jB c=false)(h0:(zY c A).1=0):(zY c S).1=0∨(zY c S).1=4:=by
 have he:=AU h0
 have es:∀k,gB S.r k=gB A.r k:=fun k=>congrFun (congrArg Lw.s hr) k
 have ev:∀k,fD S.o k=fD A.o k:=fun k=>congrFun (congrArg Lw.v hr) k
 have ef:∀k,stg k=false->dC S.h k=dC A.h k:=fun k hk=>by
  have e:(bif !stg k then dC S.h k else none)=dC A.h k:=congrFun (congrArg Lw.f hr) k;rw[hk]at e;exact e
 rcases Dx he with e|e|e|e|e|e
 .have hf:=Hy hd (by rw[e];rfl)
  refine ws he e ?_;rw[any_eq_false];intro x hx hc
  cases hs:stg x.a with
  |true=>rw[uo hs hf.1 hf.2]at hc;cases hc
  |false =>
   have hl:=vk hS.g2 hx
   have hl2:dC A.h x.a=some x:=by rw[<-ef _ hs];exact hl
   have:=(NW e h0).2.1;rw[any_eq_false]at this;exact this x (jE hl2).1 hc
 .have hf:=Hy hd (by rw[e];rfl)
  left;rw[yN]at h0|-;unfold vg at h0|-;simp only[he,e,lz,decide_true,Bool.not_true,cond_false,cond_true]at h0|-
  rw[ef _ hf.2];exact h0
 .rw[yN]
  unfold vg;simp only[he,e,lz,decide_true,Bool.not_true,cond_false,cond_true];cases !(gB S.r c.z.k).isSome&&decide (2000<=(S.r.length:Int))
  .exact .inl rfl
  .exact .inr rfl
 .left
  rw[yN]at h0|-;unfold vg at h0|-;simp only[he,e,lz,decide_true,Bool.not_true,cond_false,cond_true]at h0|-
  rw[es];exact h0
 .rw[yN]
  unfold vg;simp only[he,e,lz,decide_true,Bool.not_true,cond_false,cond_true];cases !(fD S.o c.q.w).isSome&&decide (100<=(S.o.length:Int))
  .exact .inl rfl
  .exact .inr rfl
 .left
  rw[yN]at h0|-;unfold vg at h0|-;simp only[he,e,lz,decide_true,Bool.not_true,cond_false,cond_true]at h0|-
  rw[ev];exact h0
theorem NX{c:ae}{M:ah}(h:(zY c M).1=4)(r:List ae):(z6 (c::r) M).2=4:=by
 show(bif !decide ((zY c M).1=0)then(FM,(zY c M).1)else _).2=4
 rw[decide_eq_false (by rw[h];decide)];exact h
theorem CL:∀(l:List ae) (S A:ah),Good S->Good A->gz (dK S)=dK A->(∀c∈l,jB c=false)->(z6 l A).2=0 ->
  (∃S',(∀r,z6 (l++r) S=z6 r S')/\Good S'/\∀k,(k=fc∨stg k=true)->(dK S').f k=(dK S).f k)∨(∀r,(z6 (l++r) S).2=4)
 |[],S,A,hS,_,_,_,_=>.inl ⟨S,fun _=>rfl,hS,fun _ _=>rfl⟩
 |c::l,S,A,hS,hA,hr,hd,h0=>by
  have h1:=LU h0;rw[AA h1]at h0;have hdc:=hd c (mem_cons_self ..)
  rcases Ex hS hA hr hdc h1 with e|e
  .have hw:=yL hS e
   have hr':gz (dK (zY c S).2)=dK (zY c A).2:=by rw[hw,yL hA h1,wM hdc,hr]
   rcases CL l _ _ (mT hS c) (mT hA c) hr' (fun x hx=>hd x (mem_cons_of_mem _ hx)) h0 with⟨S',g1,g2,g3⟩|g
   .refine .inl ⟨S',fun r=>by rw[cons_append,AA e];exact g1 r,g2,fun k hk=>?_⟩
    rw[g3 k hk,hw,n5 hdc _ hk]
   .exact .inr fun r=>by rw[cons_append,AA e];exact g r
  .exact .inr fun r=>by rw[cons_append];exact NX e _
theorem JO{M A:ah}{J:aj}(hM:Good M)(hs:dC M.h fc=none)(hc:∀k,stg k=true->dC M.h k=none)(hd:∀c∈J.A,jB c=false)(hst:(z6 J.A M).2=0)
  (hid:J.F.length<=65536) (hl:(fh J).length<=65536):(z6 (fX J::(J.A++[fa J,dZ wJrn,dZ wDone])) M).2=0∨(z6 (fX J::(J.A++[fa J,dZ wJrn,dZ wDone])) M).2=4:=by
 have hof:∀(p:dy) (t:dy),eH p=true->t.length<=65536->eCh (eW ⟨p,t,false⟩)=0:=fun p t h1 h2=>oM (by
  unfold gc;simp only[h1,Bool.not_true,cond_false]
  rw[decide_eq_false (by omega)];rfl)
 have hns:∀x∈M.h,x.a≠fc/\stg x.a=false:=fun x hx=>by
  have hl:=vk hM.g2 hx;refine⟨fun e=>?_,?_⟩
  .have:dC M.h fc=some x:=by rw[<-e];exact hl
   rw[hs]at this;cases this
  .cases hq:stg x.a with
   |false=>rfl
   |true =>
    have h2:dC M.h x.a=some x:=hl
    rw[hc _ hq]at h2;cases h2
 have hcl:gz (dK M)=dK M:=ij (fun k=>by
  show(bif !stg k then dC M.h k else none)=dC M.h k
  cases hk:stg k
  .rfl
  .exact(hc k hk).symm) (fun _=>rfl) fun _=>rfl
 have e1:=hof wJrn (fh J) (by decide) hl
 rcases ws (c:=fX J) (N:=M) e1 rfl (by
  rw[any_eq_false];intro x hx hq;rw[show fb (fX J).i.a x=false from QG (p:=wJrn) (by decide) (hns x hx).1 (hns x hx).2]at hq
  cases hq)with e|e
 rotate_left
 .exact .inr (NX e _)
 rw[AA e];have hw:=yL hM e
 have hr:gz (dK (zY (fX J) M).2)=dK M:=by rw[hw,Hw (.inl rfl) (show stg wJrn=true by decide),hcl]
 rcases CL J.A _ M (mT hM _) hM hr hd hst with⟨S',g1,g2,g3⟩|g
 rotate_left
 .exact .inr (g _)
 rw[g1]
 have hf:∀k,(k=fc∨stg k=true)->dC S'.h k=eK (dK M).f wJrn (some ⟨wJrn,fh J,false⟩) k:=fun k hk=>by
  have:(dK S').f k=(dK (zY (fX J) M).2).f k:=g3 k hk;rw[hw]at this;exact this
 have e2:=hof wDone J.F (by decide) hid
 have hclash:S'.h.any (fb (fa J).i.a)=false:=by
  rw[any_eq_false];intro x hx hq;have hlx:=vk g2.g2 hx;have hl2:dC S'.h x.a=some x:=hlx
  cases hsx:stg x.a with
  |false =>
   refine absurd hq ?_;rw[show fb (fa J).i.a x=false from QG (p:=wDone) (by decide) (fun e=>?_) hsx]
   .decide
   .have:=hf fc (.inl rfl)
    rw[uT _ _ (by decide)]at this;rw[e,this]at hl2;have h3:dC M.h fc=some x:=hl2
    rw[hs]at h3;cases h3
  |true =>
   rw[hf _ (.inr hsx)]at hl2
   by_cases hj:wJrn=x.a
   .unfold fb at hq
    rw[<-hj]at hq
    revert hq
    show ¬ (dX wJrn wDone||dX wDone wJrn)=true
    decide
   .rw[uT _ _ hj]at hl2
    have h3:dC M.h x.a=some x:=hl2
    rw[hc _ hsx]at h3;cases h3
 rcases ws (c:=fa J) (N:=S') e2 rfl hclash with e3|e3
 rotate_left
 .exact .inr (NX e3 _)
 rw[AA e3];have hw3:=yL g2 e3
 have hf3:∀k,dC (zY (fa J) S').2.h k=eK (dK S').f wDone (some ⟨wDone,J.F,false⟩) k:=fun k=>congrFun (congrArg Lw.f hw3) k
 have hg3:=mT g2 (fa J);generalize (zY (fa J) S').2=S3 at hf3 hg3
 have r1:=N2 (N:=S3) (p:=wJrn) (by decide) (by
  rw[hf3,uT _ _ (by decide)];have:=hf wJrn (.inr (by decide));rw[rq]at this
  show(dC S'.h wJrn).isSome=true
  rw[this];rfl)
 rw[AA (by rw[r1]),r1]
 have r2:=N2 (N:=⟨S3.y,fW (·.a) wJrn S3.h,S3.r,S3.o⟩) (p:=wDone) (by decide) (by
  show(dC (fW (·.a) wJrn S3.h) wDone).isSome=true
  have e5:dC (fW (·.a) wJrn S3.h) wDone=_:=C8 hg3.g2 wJrn wDone;rw[e5,if_neg (by decide)]
  show(dC S3.h wDone).isSome=true
  rw[hf3,rq];rfl)
 rw[AA (by rw[r2])];exact .inl rfl
theorem lL{M:ah}{l:List ae}(h:gG M l=0):dC M.h fc=none/\(∀c∈l,jB c=false)/\(z6 l (g8 M)).2=0/\(l.map zbh).Nodup:=by
 refine⟨?_,?_,QS h,?_⟩
 all_goals unfold gG at h
 .cases h1:dC M.h fc with
  |none=>rfl
  |some x=>rw[h1]at h;exact absurd (show(11:Int)=0 from h) (by decide)
 .cases h1:(dC M.h fc).isSome
  .rw[h1,cond_false]at h
   cases h2:l.all (fun c=>!jB c)
   .rw[h2]at h;exact absurd (show(17:Int)=0 from h) (by decide)
   .intro c hc
    have:=all_eq_true.1 h2 c hc
    simpa using this
  .rw[h1]at h;exact absurd (show(11:Int)=0 from h) (by decide)
 .cases h1:(dC M.h fc).isSome
  .rw[h1,cond_false]at h
   cases h2:l.all (fun c=>!jB c)
   .rw[h2]at h;exact absurd (show(17:Int)=0 from h) (by decide)
   .rw[h2]at h
    simp only[Bool.not_true,cond_false]at h
    by_cases h3:(z6 l (g8 M)).2=0
    .rw[decide_eq_true h3]at h
     simp only[Bool.not_true,cond_false]at h;cases h4:decide ((l.length:Int)=0)
     .rw[h4,cond_false]at h
      cases h5:decide (l.map zbh).Nodup
      .rw[h5]at h;exact absurd (show(6:Int)=0 from h) (by decide)
      .exact of_decide_eq_true h5
     .rw[h4]at h;exact absurd (show(9:Int)=0 from h) (by decide)
    .rw[decide_eq_false h3]at h;exact absurd h h3
  .rw[h1]at h;exact absurd (show(11:Int)=0 from h) (by decide)
theorem P9(M:ah):∀(r o:List ae),(o=[]∨gG M o=0)->(r.foldl (fun o c=>bif decide (gG M (o++[c])=0)then o++[c]else o) o=[]∨gG M (r.foldl (fun o c=>bif decide (gG M (o++[c])=0)then o++[c]else o) o)=0)
 |[],o,h=>h
 |c::r,o,h=>by
  rw[foldl_cons];refine P9 M r _ ?_;cases hq:decide (gG M (o++[c])=0)
  .exact h
  .exact .inr (of_decide_eq_true hq)
theorem SB{M:ah}{l:List ae}(h:uW M l≠[]):gG M (uW M l)=0:=(P9 M _ [] (.inl rfl)).resolve_left h
theorem EO{M:ah}(hM:Good M)(hc:g8 M=M):∀k,stg k=true->dC M.h k=none:=fun k hk=>by
 have e:=Nl hM;rw[hc]at e
 have:dC M.h k=bif !stg k then dC M.h k else none:=congrFun (congrArg Lw.f e) k
 rw[hk]at this;exact this
theorem A5{M:ah}(hM:Good M)(hc:g8 M=M){id:dy}(hid:eS id=true){l:List ae}(hs:gG M l=0)(hn:l.length<=4194304) :
  (lA M id l).2=4∨∃A J,Tx M A J/\J.A=l/\J.F=id/\lA M id l=(fX J::(J.A++gD J),0):=by
 obtain⟨f1,f2,f3,f4⟩:=lL hs;have hn0:=EO hM hc;have hw1:dC M.h wDone=none:=hn0 _ (by decide);have hw2:dC M.h rn=none:=hn0 _ (by decide);have hw3:dC M.h wJrn=none:=hn0 _ (by decide)
 have hlook:gN M=(ZJ,0):=by unfold gN;rw[hw3]
 have hclr:fe wJrn M=[]:=by
  rw[QH]
  have:vq wJrn M=[]:=by
   rw[eq_nil_iff_forall_not_mem];intro k hk;obtain⟨h1,h2⟩:=(Qn (by decide) M k).1 hk;have:=mem_lk.1 h1
   rw[hn0 k h2]at this;cases this
  rw[this];rfl
 have hgc:=Co hM;have hgA:=Od l hgc f3;unfold lA;rw[decide_eq_true hs,hid,hw1,hw2,hlook];simp only[Bool.not_true,cond_false,Option.isSome_none,Bool.or_false,Bool.false_or];rw[show decide ((0:Int)=2)=false from rfl,cond_false]
 by_cases hp:(pJ ⟨id,l,fR M l⟩).2=0
 .obtain⟨ok,e⟩:=CK hp
  rw[e];simp only[decide_true,Bool.not_true,cond_false]
  have hout:iq M id l (fh ⟨id,l,fR M l⟩)=fX ⟨id,l,fR M l⟩::(l++gD ⟨id,l,fR M l⟩):=by
   unfold iq
   rw[hclr];rfl
  rw[hout];have hl:=Le hid;rw[hc]at f3 hgA
  rcases JO (J:=⟨id,l,fR M l⟩) (A:=M) hM f1 hn0 f2 f3 (by show id.length<=65536;omega) ok.len with g|g
  .right
   refine⟨(z6 l M).1,⟨id,l,fR M l⟩,⟨hM,f1,hn0,f2,?_,f4,ok,hn,?_,g⟩,rfl,rfl,?_⟩
   .show z6 l M=((z6 l M).1,0)
    rw[<-f3]
   .show(fR M l).length<=4194304
    unfold fR;rw[hc];have:=oN hgA hM;omega
   .show(bif !decide ((z6 (fX ⟨id,l,fR M l⟩::(l++gD ⟨id,l,fR M l⟩)) M).2=0)then _ else _)=_
    rw[show(z6 (fX ⟨id,l,fR M l⟩::(l++gD ⟨id,l,fR M l⟩)) M).2=0 from g];rfl
  .left
   rw[show(z6 (fX ⟨id,l,fR M l⟩::(l++gD ⟨id,l,fR M l⟩)) M).2=4 from g];rfl
 .left
  rw[decide_eq_false hp];simp only[Bool.not_false,cond_true];unfold pJ at hp|-;rw[hid]at hp|-;have e1:eD l=0:=LG l _ f3
  have e2:eD (fR M l)=0:=mw fun c hc'=>sC hgA hgc hc'
  have he:eJ ⟨id,l,fR M l⟩=0:=by
   unfold eJ
   rw[e1];exact e2
  rw[he]at hp|-;simp only[Bool.not_true,cond_false,decide_true]at hp|-;cases hq:decide (65536<((fh ⟨id,l,fR M l⟩).length:Int))
  .rw[hq]at hp;exact absurd rfl hp
  .rfl
theorem MN{S Z:Type}{F:S->Option Z}{m:(S->Option Z)->Option Z}{P:Z->Prop}(J:S->Prop)(hF:∀s,J s->Ends (F s) P)(hm:∀k:S->Option Z,(∀s,J s->Ends (k s) P)->Ends (m k) P):Ends (jp F m) P:=hm F hF
theorem CO{S Z:Type}{f:S->(S->Option Z)->(S->Option Z)->Option Z}{k:S->Option Z}{P:Z->Prop}(inv:S->Prop)(mu:S->Nat)
  (h:∀s nx,inv s->(∀s',inv s'->mu s'<mu s->Ends (nx s') P)->Ends (f s nx k) P):∀(N:Nat) (s:S),inv s->mu s<N->Ends (loopN N f s k) P
 |0,s,_,hm=>by omega
 |N+1,s,hi,hm=>by
  unfold loopN
  exact h s _ hi fun s' hs' hlt=>CO inv mu h N s' hs' (by omega)
def y4(c:ak):Bool:=!(decide (c.L<0)||decide (1000000<c.L))
def uN(l:List ak):Int:=bif decide (50<(l.length:Int))then 4 else bif l.all y4 then 0 else 3
theorem Q8(l:List ak):IQ l=some (uN l):=by
 unfold IQ uN;cases decide (50<(l.length:Int))
 .simp only[cond_false,dH]
  rw[sY y4 (z:=(3:Int)) fun i c nx k=>by unfold y4;exact vc _ _ _];exact iA _ _ _
 .rfl
theorem rb{l:List ak}(h:uN l=0):l.length<=50/\∀c∈l,y4 c=true:=by
 unfold uN at h
 cases h1:decide (50<(l.length:Int))with
 |true=>rw[h1]at h;exact absurd (show(4:Int)=0 from h) (by decide)
 |false =>
  rw[h1,cond_false]at h
  cases h2:l.all y4 with
  |false=>rw[h2]at h;exact absurd (show(3:Int)=0 from h) (by decide)
  |true=>exact⟨by have:=of_decide_eq_false h1;omega,all_eq_true.1 h2⟩
theorem KD{b:Nat}{m1:List (dy×ab)}{m2:List (dy×Int)}{m3:List (dy×aa)}{m4:List (dy×ai)}{fs:List aa}{off cut torn:Bool}{after writes:Int}{d:Dk}
  (h:Pd b m1 m2 m3 m4 fs off cut after torn writes d) (ho:d.off=true) :
  ∃r,IV off cut after torn writes fs m1 m2 m3 m4=some r/\r.1=0/\Pd 400000 r.2.2.2.2.1 r.2.2.2.2.2.1 r.2.2.2.2.2.2.1 r.2.2.2.2.2.2.2 r.2.2.2.1 r.2.1 r.2.2.1 after torn writes (ML d).2:=by
 obtain⟨hg,hbn,hfs,hoff,hcut,haft,htorn,hw⟩:=h
 subst hfs;subst hoff;subst hcut;subst hw
 unfold IV ML;simp only[ho,Bool.not_true,cond_false];rw[NJ hbn hg,ze,FH hg,ze];obtain⟨n1,n2,n3,n4,e,hn⟩:=Oo (Cf hg);rw[e,ze];exact⟨_,rfl,rfl,Cf hg,hn,rfl,rfl,rfl,fun e=>(by cases e),fun e=>(by cases e),rfl⟩
def FinP(M A:ah)(w:Int)(N:ah):Prop:=(w=1∨w=2)/\StE M M N∨(w=0∨w=3)/\StE M A N
theorem FinP.ne{M A N:ah}{w:Int}(h:FinP M A w N):w≠-1:=by
 rcases h with⟨rfl|rfl,_⟩|⟨rfl|rfl,_⟩ <;> decide
def PS(M A:ah)(r:ah×List Int×Int):Prop:=r.2.2=0/\∃n w,r.2.1=List.replicate n (-1)++[w]/\n<=50/\FinP M A w r.1
abbrev Sq:=List ak×Bool×List (dy×ab)×List (dy×Int)×List (dy×aa)×List (dy×ai)×List aa×Bool×Bool×Int×Bool×Int×List Int
def Vd(M A:ah)(J:aj):Sq->Prop
 |(cuts,first,m1,m2,m3,m4,fs,off,cut,after,torn,writes,out)=>∃d,
  (∃n,out=List.replicate n (-1)/\n+cuts.length<=50/\(∀c∈cuts,y4 c=true) /\
   (first=true/\n=0/\d.M=M/\d.off=false/\d.cut=false/\Pd 400000 m1 m2 m3 m4 fs off cut after torn writes d ∨
    first=false/\0<n/\d.off=true/\Stt M A J d.M/\Pd 2000400000 m1 m2 m3 m4 fs off cut after torn writes d)) ∨
  (first=false/\(∃n w,out=List.replicate n (-1)++[w]/\n<=50/\FinP M A w d.M)/\d.off=false/\Pd 2000400000 m1 m2 m3 m4 fs off cut after torn writes d)
def C2:Sq->Nat
 |(cuts,first,_,_,_,_,_,_,_,_,_,_,out)=>bif first then cuts.length+2 else bif decide (out.getLast?=some (-1))then cuts.length+1 else 0
theorem A0(n:Nat)(hn:0<n)(h:n<=50):(List.replicate n (-1:Int)).getD ((IntKind.i64.wrap (((List.replicate n (-1:Int)).length:Int)-1)).toNat) 0=-1:=by
 rw[length_replicate,gS (by omega) (by omega)]
 rw[getD_eq_getElem?_getD,getElem?_replicate,if_pos (by omega)];rfl
theorem FE{M A:ah}{J:aj}(h:Tx M A J){id:dy}{l:List ae}(hpl:lA M id l=(fX J::(J.A++gD J),0))(hl:∀c∈l,jI c)(hw:uC l){cuts:List ak}(hc:uN cuts=0) :
  Ends (Au M id l cuts) (PS M A):=by
 obtain⟨N,hN⟩:∃N,eV=N:=⟨_,rfl⟩;have hF:1099511627776<=N:=hN ▸ rt;obtain⟨hc1,hc2⟩:=rb hc;unfold Au;rw[hN];rw[KK h.good id l hl hw,ze,hpl,Q8,ze,hc];obtain⟨n1,n2,n3,n4,en,hp⟩:=KE h.good;rw[en,ze];simp only[decide_true,Bool.not_true,cond_false]
 refine MN (fun s=>∃d,Pd 2000400000 s.1 s.2.1 s.2.2.1 s.2.2.2.1 s.2.2.2.2.1 s.2.2.2.2.2.1 s.2.2.2.2.2.2.1 s.2.2.2.2.2.2.2.1 s.2.2.2.2.2.2.2.2.1 s.2.2.2.2.2.2.2.2.2.1 d/\d.off=false/\∃n w,s.2.2.2.2.2.2.2.2.2.2=List.replicate n (-1)++[w]/\n<=50/\FinP M A w d.M) (fun s hs=>?_) fun k hk=>?_
 .obtain⟨d,hp,ho,n,w,e,hn,hf⟩:=hs
  obtain⟨m1,m2,m3,m4,fs,off,cut,after,torn,writes,out⟩:=s;have hm:=HQ hp;dsimp only at hm e|-;rw[hm,ze,ho];exact⟨_,rfl,rfl,n,w,e,hn,hf⟩
 .refine CO (Vd M A J) C2 (fun s nx hs hnx=>?_) N _ ⟨JR M,.inl ⟨0,rfl,by omega,hc2,.inl ⟨rfl,rfl,rfl,rfl,rfl,hp⟩⟩⟩ (by unfold C2;simp only[cond_true];omega)
  obtain⟨cuts,first,m1,m2,m3,m4,fs,off,cut,after,torn,writes,out⟩:=s;obtain⟨d,⟨n,hout,hnl,hcr,hd⟩|⟨rfl,⟨n,w,hout,hnl,hf⟩,ho,hp⟩⟩:=hs
  .have hcond:((!first)=true->(0<=IntKind.i64.wrap ((out.length:Int)-1)/\IntKind.i64.wrap ((out.length:Int)-1)<(out.length:Int))) /\
     (first||(decide ((out.getD ((IntKind.i64.wrap ((out.length:Int)-1)).toNat) 0)=(-1))))=true/\(first=false->C2 (cuts,first,m1,m2,m3,m4,fs,off,cut,after,torn,writes,out)=cuts.length+1):=by
    rcases hd with⟨rfl,_⟩|⟨rfl,hn0,_⟩
    .exact⟨fun e=>(by cases e),rfl,fun e=>(by cases e)⟩
    .subst hout
     refine⟨fun _=>?_,?_,fun _=>?_⟩
     .rw[length_replicate,gS (by omega) (by omega)];omega
     .rw[A0 n hn0 (by omega)];rfl
     .unfold C2
      have:(List.replicate n (-1:Int)).getLast?=some (-1):=by
       rw[getLast?_replicate,if_neg (by omega)]
      simp only[cond_false,this,decide_true,cond_true]
   obtain⟨hA,hB,hC⟩:=hcond
   have hmu:cuts.length<C2 (cuts,first,m1,m2,m3,m4,fs,off,cut,after,torn,writes,out):=by
    cases hfi:first with
    |true=>unfold C2;simp only[cond_true];omega
    |false=>rw[<-hfi,hC hfi];omega
   dsimp only;rw[zg hA,hB,cond_true]
   refine MN (fun s=>∃d1,Pd 400000 s.1 s.2.1 s.2.2.1 s.2.2.2.1 s.2.2.2.2.1 s.2.2.2.2.2.1 s.2.2.2.2.2.2 after torn writes d1/\d1.off=false/\d1.cut=false/\(first=true/\d1.M=M∨first=false/\Stt M A J d1.M)) (fun s hs=>?_) fun k1 hk1=>?_
   .obtain⟨d1,hp1,ho1,hcu1,hs1⟩:=hs
    obtain⟨p1,p2,p3,p4,fs1,off1,cut1⟩:=s;dsimp only at hp1|-
    refine MN (fun s=>∃d2,Pd 400000 p1 p2 p3 p4 fs1 off1 s.2.1 s.2.2.1 s.2.2.2 writes d2/\d2.off=false/\d2.M=d1.M/\(∀c∈s.1,y4 c=true)/\s.1.length<=cuts.length/\(d2.cut=true->s.1.length<cuts.length)) (fun s hs=>?_) fun k2 hk2=>?_
    .obtain⟨d2,hp2,ho2,hM2,hcr2,hle2,hlt2⟩:=hs
     obtain⟨cuts2,cut2,after2,torn2⟩:=s;dsimp only at hp2 hcr2 hle2 hlt2|-
     refine MN (fun s=>∃d3,Pd 2000400000 s.2.2.1 s.2.2.2.1 s.2.2.2.2.1 s.2.2.2.2.2.1 fs1 s.2.2.2.2.2.2.1 s.2.2.2.2.2.2.2.1 s.2.2.2.2.2.2.2.2.1 torn2 s.2.2.2.2.2.2.2.2.2 d3/\(s.1=0/\d3.off=false/\FinP M A s.2.1 d3.M∨s.1=18/\d2.cut=true/\d3.off=true/\Stt M A J d3.M)) (fun s hs=>?_) fun k3 hk3=>?_
     .obtain⟨d3,hp3,hh⟩:=hs
      obtain⟨e,was,q1,q2,q3,q4,off3,cut3,after3,writes3⟩:=s;dsimp only at hp3 hh|-
      rcases hh with⟨rfl,ho3,hf3⟩|⟨rfl,hc3,ho3,hs3⟩
      .rw[decide_eq_true rfl,cond_true,hout,zg (by simp;omega)]
       refine hnx _ ⟨d3,.inr ⟨rfl,⟨n,was,rfl,by omega,hf3⟩,ho3,hp3⟩⟩ ?_;refine Nat.lt_of_le_of_lt (Nat.le_of_eq ?_) (Nat.lt_of_le_of_lt (Nat.zero_le _) hmu);unfold C2;simp only[cond_false,getLast?_concat]
       rw[decide_eq_false fun e=>hf3.ne (Option.some.inj e)];rfl
      .rw[decide_eq_false (by decide),cond_false,decide_eq_true rfl,cond_true,hout,zg (by simp;omega)]
       have hl2:=hlt2 hc3;have hrep:List.replicate n (-1:Int)++[-1]=List.replicate (n+1) (-1):=(replicate_succ' ..).symm;refine hnx _ ⟨d3,.inl ⟨n+1,hrep,by omega,hcr2,.inr ⟨rfl,by omega,ho3,hs3,hp3⟩⟩⟩ ?_;refine Nat.lt_of_le_of_lt ?_ hmu;unfold C2;simp only[cond_false,getLast?_concat,decide_true,cond_true];omega
     .rcases hs1 with⟨rfl,hM1⟩|⟨rfl,hst1⟩
      .rw[cond_true]
       obtain⟨r,er,g1,g2⟩:=KC hp2 (by omega) id l hl hw;rw[er,ze]
       have hM:d2.M=M:=by rw[hM2,hM1]
       have hrun:zkT id l d2=dO (fX J::(J.A++gD J)) d2:=by
        unfold zkT
        rw[ho2,hM,hpl];rfl
       rw[hrun]at g1 g2;refine hk3 _ ⟨_,g2,?_⟩;dsimp only;rw[g1]
       rcases ED h ho2 hM with⟨a1,a2,a3⟩|⟨a1,a2,a3,a4,a5⟩
       .exact .inl ⟨a1,a2,.inr ⟨.inl rfl,a3⟩⟩
       .exact .inr ⟨a1,a2,a3,a5⟩
      .rw[cond_false]
       obtain⟨r,er,g1,g2⟩:=KA hp2 (by omega);rw[er,ze];have e1:r.2.1=(qC d2).1.2.1:=congrArg (fun x=>x.2.1) g1;have e2:r.2.2.1=(qC d2).1.2.2:=congrArg (fun x=>x.2.2) g1;refine hk3 _ ⟨_,g2,?_⟩;dsimp only;rw[e1,e2]
       rcases EG h ho2 (by rw[hM2];exact hst1)with⟨a1,a2,a3⟩|⟨a1,a2,a3,a4,a5⟩
       .refine .inl ⟨a1,a2,?_⟩
        rcases a3 with a3|⟨a3,a4⟩
        .exact .inl a3
        .exact .inr ⟨.inr a3,a4⟩
       .exact .inr ⟨a1,a2,a3,a5⟩
    .cases cuts with
     |nil=>exact hk2 _ ⟨d1,hp1,ho1,rfl,hcr,Nat.le_refl _,fun e=>by rw[hcu1]at e;cases e⟩
     |cons c cs =>
      have hco:=hcr c (mem_cons_self ..);unfold y4 at hco;rw[Bool.not_eq_true']at hco;rw[decide_eq_true (by simp only[length_cons];omega),cond_true]
      show Ends (eB (c::cs) ((0:Nat):Int) _) _
      rw[ft (by simp)];simp only[getElem_cons_zero];obtain⟨r,er,g1,g2⟩:=KG hp1 c.L c.N;rw[er,ze]
      have hcut:xI c.L c.N d1=(0,⟨d1.M,d1.off,true,c.L,c.N,d1.writes⟩):=by
       unfold xI
       rw[hco,ho1];rfl
      rw[hcut]at g1 g2;rw[g1,decide_eq_true rfl,Bool.not_true,cond_false,zg (by simp only[length_cons];omega)];exact hk2 _ ⟨_,g2,ho1,rfl,fun x hx=>hcr x (mem_cons_of_mem _ hx),by simp,fun _=>by simp⟩
   .rcases hd with⟨rfl,hn0,hM,ho,hcu,hp⟩|⟨rfl,hn0,ho,hst,hp⟩
    .exact hk1 _ ⟨d,hp,ho,hcu,.inl ⟨rfl,hM⟩⟩
    .rw[Bool.not_false,cond_true]
     obtain⟨r,er,g1,g2⟩:=KD hp ho;rw[er,ze,g1,decide_eq_true rfl,Bool.not_true,cond_false]
     have hon:(ML d).2=⟨rm d.M,false,false,d.after,d.torn,d.writes⟩:=by
      unfold ML
      rw[ho];rfl
     rw[hon]at g2;exact hk1 _ ⟨_,g2,rfl,rfl,.inr ⟨rfl,hst.boot⟩⟩
  .have hlast:out.getD ((IntKind.i64.wrap ((out.length:Int)-1)).toNat) 0=w:=by
    rw[hout,length_append,length_replicate,length_singleton,gS (by omega) (by omega)];rw[getD_eq_getElem?_getD,getElem?_append_right (by simp)];simp
   dsimp only;rw[zg (fun _=>by rw[hout,length_append,length_replicate,length_singleton,gS (by omega) (by omega)];omega),hlast,decide_eq_false hf.ne,Bool.or_false,cond_false];exact hk _ ⟨d,hp,ho,n,w,hout,hnl,hf⟩
theorem oZ(M:ah):g8 (g8 M)=g8 M:=by
 unfold g8;simp only[filter_filter,Bool.and_self]
theorem StE.boot{M B N:ah}(s:StE M B N)(hB:Good B)(hf:B.y=M.y):rm N=rm B:=Alike.boot ⟨s.g,hB,by rw[s.f,hf],s.l⟩
theorem Fr{l:List ak}(h:uN l≠0):uN l=4∨uN l=3:=by
 unfold uN at h|-
 cases h1:decide (50<(l.length:Int))with
 |true=>exact .inl rfl
 |false =>
  rw[h1]at h
  cases h2:l.all y4 with
  |true=>rw[h2]at h;exact absurd rfl h
  |false=>exact .inr rfl
theorem yo{M:ah}(hM:Good M){id:dy}{l:List ae}(hl:∀c∈l,jI c)(hw:uC l)(cuts:List ak)(h:(lA M id l).2≠0):Au M id l cuts=some (FM,[],(lA M id l).2):=by
 unfold Au
 rw[KK hM id l hl hw,ze,decide_eq_false h,Bool.not_false,cond_true];rfl
theorem yn{M:ah}(hM:Good M){id:dy}{l:List ae}(hl:∀c∈l,jI c)(hw:uC l){cuts:List ak}(h:(lA M id l).2=0)(hc:uN cuts≠0):Au M id l cuts=some (FM,[],uN cuts):=by
 unfold Au
 rw[KK hM id l hl hw,ze,decide_eq_true h,Bool.not_true,cond_false,Q8,ze,decide_eq_false hc,Bool.not_false,cond_true];rfl
theorem EU(m:ah)(id:dy)(l:List ae)(cuts:List ak)(hm:FG m)(hl:∀c∈l,jI c)(hw:∀c∈l,(iN c).length<=300000000/\BW c)(hn:l.length<=134217728):LJ m id l cuts=some true:=by
 unfold LJ;obtain⟨Nf,hN⟩:∃N,eV=N:=⟨_,rfl⟩;have hFu:1099511627776<=Nf:=hN ▸ rt;rw[hN];rw[tS,ze,Bool.not_true,cond_false];obtain⟨F,hM,hF⟩:=xk m hm;have hgF:=hF.good;have hg:=Co hgF;have hcc:=oZ F;rw[hM,ze,PZ hgF,ze];generalize g8 F=M at hg hcc;rw[tf hg l hl hn,ze,Im,iT]
 have hLx:∀c∈uW M l,jI c:=fun c hc=>hl c (LV c hc)
 have hLw:=qw M l hl hw;have h12:=j6 M l
 by_cases hL:uW M l=[]
 .rw[hL];rfl
 have hst:=SB hL;have hpos:=length_pos_iff.2 hL;generalize uW M l=L at hLx hLw h12 hL hst hpos;rw[decide_eq_false (show ¬ (L.length:Int)=0 by omega)];simp only[Bool.not_false,cond_true,Bool.false_or]
 cases hid:eS id with
 |false=>rfl
 |true =>
  simp only[Bool.not_true,cond_false]
  rcases A5 hg hcc hid hst (by omega)with h4|⟨A,J,hT,hJ,hI,hpl⟩
  .rw[yo hg hLx hLw cuts (by rw[h4];decide),ze,h4,decide_eq_false (by decide),Bool.not_false,cond_true];rfl
  .have hpl0:(lA M id L).2=0:=by rw[hpl]
   by_cases hc:uN cuts=0
   .obtain⟨r,er,hr0,n,w,hout,hn50,hf⟩:=FE hT hpl hLx hLw hc
    rw[er,ze,hr0,decide_eq_true rfl,Bool.not_true,cond_false];rw[LW hg L (fun c hc=>(hLx c hc).sm) (by omega),ze,<-hJ,hT.st]
    have hlen:r.2.1.length=n+1:=by rw[hout];simp
    have hwr:IntKind.i64.wrap ((r.2.1.length:Int)-1)=(n:Int):=by rw[hlen,gS (by omega) (by omega)];omega
    simp only[decide_true,Bool.not_true,Bool.false_or];rw[decide_eq_false (show ¬ (r.2.1.length:Int)=0 by omega),cond_false,hwr];obtain⟨gA,fA,_⟩:=hT.goodA
    refine Fb (fun s=>∃B,Good B/\B.y=M.y/\StE M B r.1/\(ah.mk s.1 s.2.1 s.2.2.1 s.2.2.2)=B) (fun s hs=>?_) fun k hk=>?_
    .obtain⟨B,hB,hBf,hBs,hBe⟩:=hs
     obtain⟨s1,s2,s3,s4⟩:=s;dsimp only at hBe|-
     refine Bk (fun _=>?_) fun k2 hk2=>?_
     .rw[hBe,yp hBs.g,ze,yp hB,ze,hBs.boot hB hBf,tF,ze]
     .rw[zg (by omega)]
      have ht:List.take ((n:Int)).toNat r.2.1=List.replicate n (-1):=by
       rw[hout,Int.toNat_natCast,take_left' (by simp)]
      rw[ht];refine Cg (fun t:Int=>∃i:Nat,t=i/\i<=n) (fun t=>n-t.toNat) (fun _=>some true) (fun t nx hi hnx=>?_) Nf 0 ⟨0,rfl,Nat.zero_le _⟩ (by simp only[Int.toNat_zero];omega);obtain⟨i,rfl,hin⟩:=hi;rw[MM,length_replicate]
      by_cases hlt:i<n
      .rw[decide_eq_true (by omega),cond_true,ft (by simpa using hlt)]
       simp only[getElem_replicate,decide_true,Bool.not_true,cond_false];rw[fN i (by omega)];exact hnx _ ⟨i+1,rfl,hlt⟩ (by simp only[Int.toNat_natCast];omega)
      .rw[decide_eq_false (by omega),cond_false]
       exact hk2 ()
    .rw[ft (show n<r.2.1.length by omega)]
     have hget:r.2.1[n]'(by omega)=w:=by
      simp only[hout];rw[getElem_append_right (by simp)];simp
     rw[hget];simp only[dH]
     rcases hf with⟨rfl|rfl,hs⟩|⟨rfl|rfl,hs⟩
     .exact hk _ ⟨M,hg,rfl,hs,rfl⟩
     .exact hk _ ⟨M,hg,rfl,hs,rfl⟩
     .exact hk _ ⟨A,gA,fA,hs,rfl⟩
     .exact hk _ ⟨A,gA,fA,hs,rfl⟩
   .rw[yn hg hLx hLw hpl0 hc,ze,decide_eq_false hc,Bool.not_false,cond_true]
    rcases Fr hc with e|e <;> (rw[e];rfl)
end Go.Md

