/- Lemmas. -/
import Derived.Test.YtlgpgjdggilkgaaGreatDoorEtbh
set_option linter.all false
set_option maxHeartbeats 16000000
namespace Go.V
def WU{α:Type}(Ε:α->τ)(sz η:Nat)(ad:OA)(cap:Nat)(I:List α)(q:List α×OA×Nat):Η:=[ee ((cap=0\/ad=N2 q.2.1 q.2.2 sz q.1.length)/\q.1.length+cap=q.2.2),Ω Ε sz η q.2.1 q.2.2 (q.1++I)]
def OS{α:Type}(Ε:α->τ)(sz η:Nat)(ad:OA)(cap:Nat)(I:List α):HP:=hex λq=>cx (WU Ε sz η ad cap I q)
section
variable {α:Type}{θ:Th}{Ε:α->τ}{sz η:Nat}{ad:OA}{cap:Nat}{I:List α}{L:Η}{w:World}
theorem Xt(ad:OA)(cap sz:Nat):N2 ad cap sz 0=ad:=by
 unfold N2;split
 .rfl
 .cases ad with
  | none=>rfl
  | some a =>
   simp only[fm,Nat.zero_mul];congr 1
theorem As(a:Addr)(m n:Nat):(a.add m).add n=a.add (m+n):=by
 grind [Addr.add]
theorem JD{j k:Nat}(h:j+k<cap):N2 (N2 ad cap sz j) (cap - j) sz k=N2 ad cap sz (j+k):=by
 unfold N2;rw[Ν D,Ν D,Ν D,Option.map_map];congr 1;grind [As]
def Sat.V5(s:Sat θ (OS Ε sz η ad cap I::L) w):∃(p:List α) (PJ:OA) (OT:Nat),((cap=0\/ad=N2 PJ OT sz p.length)/\p.length+cap=OT)/\Sat θ (Ω Ε sz η PJ OT (p++I)::L) w:=by
 obtain⟨⟨p,PJ,OT⟩,s1⟩:=Sat.TI s;have s2:Sat θ (ee ((cap=0\/ad=N2 PJ OT sz p.length)/\p.length+cap=OT)::Ω Ε sz η PJ OT (p++I)::L) w:=Sat.QB (Ο:=WU Ε sz η ad cap I (p,PJ,OT)) s1;exact⟨p,PJ,OT,s2.TH,s2.tail⟩
def Sat.d9{p:List α}{PJ:OA}{OT:Nat}(h:(cap=0\/ad=N2 PJ OT sz p.length)/\p.length+cap=OT)(s:Sat θ (Ω Ε sz η PJ OT (p++I)::L) w):Sat θ (OS Ε sz η ad cap I::L) w :=
 Sat.d8 (p,PJ,OT) (Sat.a8 (Ο:=WU Ε sz η ad cap I (p,PJ,OT)) (Sat.Vb s h))
theorem F.k8:F (Ω Ε sz η ad cap I::L) (OS Ε sz η ad cap I::L):=λθ R w s=>Sat.d9 (L:=L++R) (p:=[]) (by grind [Xt]) s
def F.n8(Ε:α->τ)(sz η:Nat):F L (OS Ε sz η none 0 []::L):=(F.c8 Ε sz η).trans F.k8
theorem Sat.WW(s:Sat θ (OS Ε sz η ad cap I::L) w):I.length<=cap:=by
 obtain⟨p,PJ,OT,h,s1⟩:=s.V5;have:=s1.QY.2.1
 grind
theorem F.m6{k:Nat}(hk:k<=I.length):F (OS Ε sz η ad cap I::L) (OS Ε sz η (N2 ad cap sz k) (cap - k) (I.drop k)::L):=λθ R w s=>by
 have U:=Sat.WW (L:=L++R) s;obtain⟨p,PJ,OT,⟨K,T⟩,s1⟩:=Sat.V5 (L:=L++R) s;refine Sat.d9 (L:=L++R) (p:=p++I.take k) (PJ:=PJ) (OT:=OT) ⟨?_,?_⟩ ?_
 .by_cases hc:cap - k=0
  .omega
  .rw[K.resolve_left D,ay,aP,dF hk,show cap=OT - p.length by omega];exact .inr (JD D)
 .grind
 .rw[aH,cK];exact s1
theorem Sat.XQ(s:Sat θ (OS Ε sz η ad cap I::L) w):Sx w Ε sz ad I:=by
 obtain⟨p,PJ,OT,⟨K,T⟩,s1⟩:=s.V5;have h3:=s1.QY.2.1;have h4:=(Sat.Wg s1).drop h3 p.length;rw[List.drop_left] at h4;rcases K with K|K
 .rw[ay] at h3;exact⟨h4.1,.inl (cd D)⟩
 grind
end
instance {α:Type}(L:Η)(Ε:α->τ)(sz η:Nat)(ad:OA)(cap:Nat)(I:List α):F2 (OS Ε sz η ad cap I::L) ad α Ε sz I:=⟨λ_ _ _ s=>Sat.XQ s⟩
class Vu (L:Η) (ad:OA) (α:outParam Type) (Ε:outParam (α->τ)) (sz η:outParam Nat) (cap:outParam Nat) (I:outParam (List α)) (R:outParam (Η)):Prop where
 perm:L.Perm (OS Ε sz η ad cap I::R)
instance {α:Type}(L:Η)(Ε:α->τ)(sz η:Nat)(ad:OA)(cap:Nat)(I:List α):Vu (OS Ε sz η ad cap I::L) ad α Ε sz η cap I L:=⟨List.Perm.refl _⟩
instance {α:Type}(Ο:HP)(L:Η)(Ε:α->τ)(sz η:Nat)(ad:OA)(cap:Nat)(I:List α)(R:Η)[h:Vu L ad α Ε sz η cap I R]:Vu (Ο::L) ad α Ε sz η cap I (Ο::R):=⟨(h.perm.cons Ο).trans (List.Perm.swap _ _ _)⟩
def qA{P:Program}(w:World)(t ty e:TypeId)(i:TypeInfo)(ht:P.underlying t=some (.slice e))(hi:P.info? e=some i)
  (g off M a2:Nat) (a3:Array Value) (hg:w.heap[g]? = some (.cells a3 e (0,0)))
  (a:Addr) (m c:Nat) (B:τ) (U:B.length=m*i.size) (a4:∀j u,B[j]? = some u->w.cell? (a.add j)=some u) (K:∀u∈B,u.oneCell' = true)
  (a5:M+m<=a2) (a7:off+M*i.size+B.length<=a3.size) :
  (Builtin.append_ #[t,t] ty #[.slice (some ⟨g,off,none⟩) M a2,.slice (some a) m c]).run P w =
   .ok (.slice (some ⟨g,off,none⟩) (M+m) a2) (w.setRow g (a3.toList.take (off+M*i.size)++B++a3.toList.drop (off+M*i.size+B.length)).toArray):=by
 have hf:=run_firstCells_some (P:=P) w i.size m a m c B U a4;have a6:=run_storeCells_at P g (off+M*i.size) e B 0 a3 w hg D K;simp only[dx] at a6;simp[Builtin.append_,run_underlying ht,sizeOf,typeInfo,hi,Builtin.lenOf,a5,hf,Addr.add_lit,a6]
section ops
variable {P:Program}{N:Nat}{env:Env}{L:Η}{ty:TypeId}
def Ef.j8{t:TypeId}{x y:Operand}{α:Type}{Ε:α->τ}{ad b4:OA}{n c n2 c2 sz η bb cap:Nat}{I ys:List α}{z:τ}{R1:Η}[ht:M7 P t η sz bb z][hp:Vu L ad α Ε sz η cap I R1][hq:F2 R1 b4 α Ε sz ys]
  (O:cq env x=some (.slice ad n c)) (Y:cq env y=some (.slice b4 n2 c2)) (hn:n=I.length) (hc:c=cap) (d0:n2=ys.length) (K:∀e∈ys,∀u∈Ε e,u.oneCell' = true) (hb:(I.length+ys.length)*bb<=140737488355328) (hm:I.length+ys.length<=9223372036854775807)
  : Ef P L env (.call { callee:=.builtin .append,args:=#[x,y],argTypes:=#[t,t] }) ty (λv Γ=>∃a3 B,v=.slice a3 (I++ys).length B/\Γ = OS Ε sz η a3 B (I++ys)::R1) :=
 Ef.val (λθ R a w ea s d4 pos af g=>by
  subst hn hc d0;have s1:Sat θ (OS Ε sz η ad c I::(R1++R)) w:=s.perm (hp.perm.append_right R);have a7:=s1.WW;have hrd:=s1.XQ;obtain⟨g1,g2⟩:=hq.rd θ R w s1.tail;obtain⟨ii,z0,i1,i2,i3,i4,i5⟩:=ht.Β
  have b7 : ∀u∈ys.flatMap Ε,u.oneCell' = true:=λu hu=>by
   obtain⟨e,he,hu⟩:=List.mem_flatMap.1 hu;exact K e he u hu
  by_cases b6:ys=[]
  .subst b6;refine⟨.slice ad I.length c,w,_,?_,⟨ad,c,by simp,rfl⟩,by simpa using s1⟩;cases b4 with
   | none =>
    simp[execOp,resolve,invoke,builtin,aJ ea O,aJ ea Y,Builtin.append_,run_underlying ht.under,sizeOf,typeInfo,i1,Builtin.lenOf,a7,Builtin.firstCells];cases ad<;>simp[storeCells]
   | some a2 =>
    have hf:=run_firstCells_some (P:=P) w ii.size 0 a2 0 c2 [] cj cj;simp[execOp,resolve,invoke,builtin,aJ ea O,aJ ea Y,Builtin.append_,run_underlying ht.under,sizeOf,typeInfo,i1,Builtin.lenOf,a7,hf];cases ad<;>simp[storeCells]
  have e2:0<ys.length:=List.length_pos_iff.2 b6
  obtain⟨a2,rfl,g3⟩:∃a2,b4=some a2/\∀i v,(ys.flatMap Ε)[i]? = some v->w.cell? (a2.add i)=some v:=by
   rcases g2 with g2|g2
   .exact hD g2 b6
   .exact g2
  have b3:(ys.flatMap Ε).length=ys.length*ii.size:=by rw[i4];exact db g1
  obtain⟨p,PJ,OT,⟨q1,q2⟩,s2⟩:=s1.V5;obtain⟨o1,o2,o3,o4⟩:=s2.QY;rw[ay] at o2
  have a6:∀x∈I++ys,(Ε x).length=sz:=λx O=>by
   rcases J8 O with O|O
   .exact o1 x (cw _ O)
   .exact g1 x O
  have a9:¬I.length+ys.length<=c->∃v' cO,(Builtin.append_ #[t,t] ty #[.slice ad I.length c,.slice (some a2) ys.length c2]).run P w=.ok v' cO/\∃a3 B,v' = .slice a3 (I++ys).length B/\Sat θ (Ω Ε sz η a3 B (I++ys)::(R1++R)) cO:=λM=>by
   have d3:(I.flatMap Ε).length=I.length*sz:=db λx O=>o1 x (cw _ O);cases a5:ad with
   | none =>
    have d2:I=[]:=by
     rcases hrd.2 with h|⟨b,T,_⟩
     .exact h
     .rw[a5] at T;cases T
    have b9:c=0:=by
     refine Classical.byContradiction λhc=>?_;have h9:=q1.resolve_left hc;rw[a5] at h9;rcases o4 with⟨_,h⟩|⟨gb,a4,rfl,_⟩
     .omega
     .unfold N2 at h9;split at h9<;>cases h9
    subst d2 b9;have s3:Sat θ (Ω Ε sz η none 0 ([]:List α)::(R1++R)) w:=Sat.d7 Ε sz η s1.tail;obtain⟨v',cO,hr,T,h3,_,h5⟩:=run_append_own_at (P:=P) w 0 t ty η ii z0 sz bb ht.under i1 i2 i4 i5 (by rw[<-ht.TJ,<-i3];simp) ht.pos _ _ _ (sS s3) a2 ys.length c2 (ys.flatMap Ε) (db g1) g3 b7 (by simp only[maxLen];simp at hm ⊢;omega) (by simpa using hb) (aC _);obtain⟨a3,B,rfl,s4⟩:=qG (ys:=ys) s3 g1 T h3 (lZ _ hr) h5;exact⟨_,cO,hr,a3,B,rfl,s4⟩
   | some b =>
    have Ι:∀j u,(I.flatMap Ε)[j]? = some u->w.cell? (b.add j)=some u:=by
     rcases hrd.2 with h|⟨b',T,h3⟩
     .rw[h];simp
     .rw[a5] at T;cases T;exact h3
    obtain⟨v',cO,b1,ho,hg⟩:=run_append_arg_grows (P:=P) (w:=w) t ty η ii z0 sz bb ht.under i1 i2 i4 i5 (by rw[<-ht.TJ,<-i3];simp) ht.pos b I.length c (I.flatMap Ε) d3 Ι a2 ys.length c2 (ys.flatMap Ε) (db g1) g3 D (by simp only[maxLen];omega) hb;obtain⟨c6,ho⟩:=ho;rcases ho with⟨_,hn⟩|⟨ew,B,b5,rfl,c4,c5,d5,c0,c1,b2⟩
    .omega
    have c3:=lZ _ b1;have ok:θ.ok cO:=⟨by rw[hg.tape];exact s.1.tape,by rw[hg.os];exact s.1.os,by rw[hg.output];exact s.1.output,aO s.1.drawn c3⟩;have b8:(I++ys).length=I.length+ys.length:=by simp
    have s3:Sat θ (jC ew (.cells b5 η (0,0))::(R1++R)) cO:=s1.tail.fresh ok c4 c5 (λk x hk=>by rw[hg.block k (Array.getElem?_eq_some_iff.1 hk).1 cj];exact hk);have s4:=Sat.RO (cap:=B) s3 a6 D c0 c1 (by rw[b8,b2];simp);exact⟨_,cO,b1,some ⟨ew,0,none⟩,B,by rw[b8],s4⟩
  by_cases M:I.length+ys.length<=c
  case neg =>
   obtain⟨v',cO,hr,a3,B,rfl,s4⟩:=a9 M;refine⟨_,cO,_,?_,⟨a3,B,rfl,rfl⟩,F.k8 θ R cO s4⟩;simp[execOp,resolve,invoke,builtin,aJ ea O,aJ ea Y,hr]
  rcases o4 with⟨rfl,rfl⟩|⟨gb,a4,rfl,f1,f2,f3⟩
  .omega
  have d1:¬OT=p.length:=D
  have a5:ad=some ⟨gb,p.length*sz,none⟩:=by
   rw[q1.resolve_left D];unfold N2;rw[Ν d1];simp[Addr.add_lit]
  subst a5;have e0:(p.length+I.length+ys.length)*sz<=OT*sz:=bR _ D;have d6:p.length*sz+I.length*sz+ys.length*sz=(p.length+I.length+ys.length)*sz:=by rw[dY,dY]
  have hr:=qA (P:=P) (ty:=ty) w t η ii ht.under i1 gb (p.length*sz) I.length c a4 f3.Nr a2 ys.length c2 (ys.flatMap Ε) b3 g3 b7 M (by rw[i4,db g1,f1];omega);have b0:(p.length*sz+I.length*sz)=(p++I).length*sz:=by rw[ay,dY]
  have s5:Sat θ (Ω Ε sz η (some ⟨gb,0,none⟩) OT (p++(I++ys))::(R1++R)) (w.setRow gb (a4.toList.take (p.length*sz+I.length*ii.size)++ys.flatMap Ε++a4.toList.drop (p.length*sz+I.length*ii.size+(ys.flatMap Ε).length)).toArray):=by
   refine Sat.RO (L:=R1++R) (Sat.update f3 ⟨s.1.tape,s.1.os,s.1.output,s.1.drawn⟩ (setRow_heap w gb _ _ η _ f3.Nr) (λk x hk O=>by rw[setRow_other w gb k _ hk];exact O)) (λx O=>?_) ?_ o3 ?_ ?_
   .rcases J8 O with O|O
    .exact o1 x (cI _ O)
    .exact a6 x O
   .rw[ay,ay];omega
   .rw[i4];simp only[gH,ay,aP,cB,ec,f1,db g1];omega
   .rw[i4,b0];simp only[];rw[<-aH p I ys,dL,<-f2]
    have e1:((p++I++ys).length*sz)=(a4.toList.take ((p++I).length*sz)++ys.flatMap Ε).length:=by
     simp only[ay,aP,ec,f1,db g1,dY];omega
    rw[e1,List.take_left]
  generalize (w.setRow gb (a4.toList.take (p.length*sz+I.length*ii.size)++ys.flatMap Ε++a4.toList.drop (p.length*sz+I.length*ii.size+(ys.flatMap Ε).length)).toArray)=W at hr s5;refine⟨.slice (some ⟨gb,p.length*sz,none⟩) (I.length+ys.length) c,W,_,?_,⟨some ⟨gb,p.length*sz,none⟩,c,by rw[ay],rfl⟩,Sat.d9 (L:=R1++R) (p:=p) (PJ:=some ⟨gb,0,none⟩) (OT:=OT) ⟨q1,q2⟩ s5⟩;simp[execOp,resolve,invoke,builtin,aJ ea O,aJ ea Y,hr])
end ops
end Go.V
namespace Go.Proofs.YtlgpgjdggilkgaaGreatDoor
section
open Go.V
structure iK where
 E7:List (υ×Ρ)
 Q:List eU
 E:Int
 gR:List Int
instance:Inhabited Ρ:=⟨L3 0 I6⟩
def iK.nd(W:iK)(i:Int):υ×Ρ:=W.E7[i.toNat]!
def iK.send(W:iK)(i:Int)(r:L8):iK:={ W with E7:=W.E7.set i.toNat (r.2.1,r.2.2),Q:=W.Q++r.1 }
def mE(n E:Int):D6:=(jk n E none).m
noncomputable def QM(G:Int)(o:Pf)(W:iK):(Int×Int)×iK :=
 if o.Δ=0 then((fL o.d G (o.Z.map (·.m)) W.E (W.E+o.wait) (W.nd o.d).1 (W.nd o.d).2).1,{ W.send o.d (fL o.d G (o.Z.map (·.m)) W.E (W.E+o.wait) (W.nd o.d).1 (W.nd o.d).2).2 with gR:=if(fL o.d G (o.Z.map (·.m)) W.E (W.E+o.wait) (W.nd o.d).1 (W.nd o.d).2).1.2=0 then W.gR++[(fL o.d G (o.Z.map (·.m)) W.E (W.E+o.wait) (W.nd o.d).1 (W.nd o.d).2).1.1] else W.gR })
 else if o.Δ=4 then((0,0),{ W with E:=W.E+o.wait }.send o.d (dv o.d (W.E+o.wait) (W.nd o.d).1 (W.nd o.d).2))
 else if o.Δ=5 then((0,0),{ W with E7:=W.E7.set o.d.toNat ((W.nd o.d).1,bM (W.nd o.d).2 (mE o.n W.E)) })
 else if W.Q.length=0 then((0,0),W)
 else((0,0),(λ (m:eU) (W1:iK)=>if o.Δ≠2/\0<=m.to/\m.to<G then W1.send m.to (dO m.to G m W.E (W.nd m.to).1 (W.nd m.to).2) else W1) W.Q[(o.n % W.Q.length).toNat]! (if o.Δ≠3 then { W with Q:=W.Q.take (o.n % W.Q.length).toNat++W.Q.drop ((o.n % W.Q.length).toNat+1) } else W))
structure QN (d G:Int) (c b:Nat) (x:υ×Ρ):Prop where
 a:Qh I6 d G x.1 x.2
 bd:dg x.2+F0 x.1<=b
 μ:x.1.μ<=c
def QN.mono{d G:Int}{c c' b b' : Nat}{x:υ×Ρ}(h:QN d G c b x)(K:c<=c')(T:b<=b'):QN d G c' b' x:=⟨h.a,aO h.bd T,by have:=h.μ;omega⟩
structure F8 (G:Int) (c b ε ac:Nat) (W:iK):Prop where
 Nw:1<=G/\G<=12
 len:(W.E7.length:Int)=G
 nd:∀i:Nat,i<W.E7.length->QN i G c b W.E7[i]!
 Q:∀m∈W.Q,Ty G m
 ml:W.Q.length<=ε
 E:0<=W.E/\W.E<=ac
 il:W.gR.length<=c
def F8.at{G:Int}{c b ε ac:Nat}{W:iK}(h:F8 G c b ε ac W){i:Int}(hi:0<=i/\i<G):QN i G c b (W.nd i):=by
 have U:=h.len;have:=h.nd i.toNat D
 rw[show((i.toNat:Nat):Int)=i by omega] at this;exact this
theorem LP{W:iK}{i j:Nat}{x:υ×Ρ}(hj:j<W.E7.length):(W.E7.set i x)[j]! = if i=j then x else W.E7[j]!:=by
 grind
theorem F8.set{G:Int}{c b ε ac:Nat}{W:iK}(h:F8 G c b ε ac W){i:Int}(hi:0<=i/\i<G){x:υ×Ρ}(O:QN i G c b x):F8 G c b ε ac { W with E7:=W.E7.set i.toNat x } :=
 ⟨h.Nw,by dsimp only;rw[bT];exact h.len,λj hj=>by
  dsimp only at hj ⊢;rw[bT] at hj;rw[LP hj];split
  .grind
  .exact h.nd j hj,h.Q,h.ml,h.E,h.il⟩
def F8.mono{G:Int}{c b ε ac c' b' M' XR : Nat}{W:iK}(h:F8 G c b ε ac W)(K:c<=c')(T:b<=b')(h3:ε<=M')(h4:ac<=XR):F8 G c' b' M' XR W :=
 ⟨h.Nw,h.len,λi hi=>(h.nd i hi).mono K T,h.Q,aO h.ml h3,by have:=h.E;omega,aO h.il K⟩
theorem F8.send{G:Int}{c b ε ac m:Nat}{W:iK}(h:F8 G c b ε ac W){i:Int}(hi:0<=i/\i<G){r:L8}(hr:QN i G c b (r.2.1,r.2.2))(hm:∀y∈r.1,Ty G y)(U:r.1.length<=m):F8 G c b (ε+m) ac (W.send i r):=by
 have K:=h.set hi hr;refine⟨h.Nw,K.len,K.nd,λy Y=>?_,?_,h.E,h.il⟩
 .rcases J8 Y with Y|Y
  .exact h.Q y Y
  grind
 .have:=h.ml
  show(W.Q++r.1).length<=_;grind
def sX{n:Int}{ls:List Nl}(h:∀x∈ls,Ur n x.m)(U:ls.length<=4):NN (ls.map (·.m))<=12:=by
 unfold NN;rw[co];have:=jJ (f:=(λl:lu=>l.am.length) ∘ λx:Nl=>x.m) (C:=3) (l:=ls) λx O=>(h x O).len.2
 omega
def QN.B5{d G:Int}{c b:Nat}{x:υ×Ρ}(h:QN d G c b x):x.2.π.B5.length<=64:=by
 rw[h.a.hin.K1.π];exact(show 4<=64 by decide)
theorem wV{α:Type}{l:List α}{k:Nat}{x:α}(h:x∈l.take k++l.drop (k+1)):x∈l:=by
 grind
theorem LO{d G:Int}{c b:Nat}{x:υ×Ρ}(h:QN d G c b x)(hb:b+24<=2000)(n E:Int):QN d G c (b+24) (x.1,bM x.2 (mE n E)):=by
 have M:=h.bd;have B:C5 (mE n E).fe=1:=rfl;have hL:=Vq.post h.a.hin.K1 (mE n E) D;have hk:=jq x.2 (mE n E);rw[B] at hk
 have a2:dg x.2<=dg (bM x.2 (mE n E))/\dg (bM x.2 (mE n E))<=dg x.2+1:=by
  rw[hk];split<;>omega
 exact⟨⟨⟨hL,⟨h.a.hin.U.1,by have:=h.a.hin.U.2;grind⟩,h.a.hin.nd,h.a.hin.O9,h.a.hin.pts⟩,h.a.OP,h.a.sv⟩,aj,h.μ⟩
theorem Jp{G:Int}{c b ε ac:Nat}{W:iK}{o:Pf}(h:F8 G c b ε ac W)(ho:TZ G o)(hc:c<64)(hb:b+24<=2000):F8 G (c+1) (b+24) (ε+600000000) (ac+7) (QM G o W).2:=by
 have a4:b<=b+24:=D;have hN:=h.at ho.d;have hm:F8 G (c+1) (b+24) ε (ac+7) W:=h.mono D a4 D D;unfold QM;split
 .have ha:=sX ho.lg ho.len;have hr:=qc (ls:=o.Z.map (·.m)) (E:=W.E) (C6:=W.E+o.wait) ho.d h.Nw.2 hN.a (by have:=hN.μ;omega) hN.B5 ha h.E.1 hN.bd hb;generalize fL o.d G (o.Z.map (·.m)) W.E (W.E+o.wait) (W.nd o.d).1 (W.nd o.d).2=R at *
  have M:QN o.d G (c+1) (b+24) (R.2.2.1,R.2.2.2)/\(∀y∈R.2.1,Ty G y)/\R.2.1.length<=600000000:=by
   rcases hr with⟨K,T⟩|⟨K,T⟩
   .rw[K];exact⟨hN.mono D a4,λy Y=>aj,aC _⟩
   .exact⟨⟨T.nd,T.bd,by have e:=T.μ;have:=hN.μ;grind⟩,T.Q,aO T.len D⟩
  have hs:=hm.send ho.d M.1 M.2.1 M.2.2;refine⟨hs.Nw,hs.len,hs.nd,hs.Q,hs.ml,hs.E,?_⟩;have a7:=h.il;grind
 split
 .rename_i h4;have hw:=ho.Ut h4;have b0:=ho.wait.2;have hr:=lq (E:=W.E+o.wait) ho.d h.Nw.2 hN.a hN.bd D;have ht:=h.E;have a6:F8 G (c+1) (b+24) ε (ac+7) { W with E:=W.E+o.wait }:=⟨hm.Nw,hm.len,hm.nd,hm.Q,hm.ml,aj,hm.il⟩;exact a6.send ho.d ⟨hr.nd,by have:=hr.bd;grind,by have e:=hr.μ;have:=hN.μ;grind⟩ hr.Q hr.len
 split
 .exact(hm.mono D D D D).set ho.d ((LO hN hb o.n W.E).mono D D)
 split
 .exact hm.mono D D D D
 .rename_i a9
  have a5:(o.n % W.Q.length).toNat<W.Q.length:=by
   have:=dp o.n (D:(0:Int)<W.Q.length)
   omega
  have O:=h.Q _ (bA a5);generalize W.Q[(o.n % W.Q.length).toNat]! = x at *
  have a3:F8 G (c+1) (b+24) ε (ac+7) (if o.Δ≠3 then { W with Q:=W.Q.take (o.n % W.Q.length).toNat++W.Q.drop ((o.n % W.Q.length).toNat+1) } else W):=by
   split
   .refine⟨hm.Nw,hm.len,hm.nd,λy Y=>h.Q y aj,?_,hm.E,hm.il⟩;have:=h.ml
    grind
   .exact hm
  generalize (if o.Δ≠3 then({ W with Q:=W.Q.take (o.n % W.Q.length).toNat++W.Q.drop ((o.n % W.Q.length).toNat+1) }:iK) else W)=W1 at *;dsimp only;split
  .rename_i a2;have B:=h.at a2.2;have hr:=oN (E:=W.E) a2.2 B.a O B.bd hb;exact(a3.send a2.2 ⟨hr.nd,hr.bd,by have e:=hr.μ;have:=B.μ;grind⟩ hr.Q hr.len).mono D D D D
  .exact a3.mono D D D D
abbrev PK:Nat:=42
structure K2 where
 nb:Nat
 lb:Nat
 d:Int
 n:G0
 S:Ρ
 deriving Inhabited
def K2.m(s:K2):υ×Ρ:=(s.n.m,s.S)
def K5(G:Int)(s:K2):HP:=cx (eu s.nb s.lb s.d G s.n [aU s.lb s.S])
structure G1 where
 aa:List K2
 bG:OA
 hx:Nat
 I3:OA
 No:Nat
 B4:List OD
 fH:OA
 iI:Nat
 E:Int
 gR:List Int
 I2:OA
 J4:Nat
def G1.m(W:G1):iK:=⟨W.aa.map K2.m,W.B4.map (·.m),W.E,W.gR⟩
def dl(b:Nat):τ:=[av b]
def wJ(b:Nat):∀u∈dl b,u.oneCell' = true:=by simp[dl,Value.oneCell']
def K3(W:G1):τ:=[ah W.bG W.aa.length W.hx,ah W.I3 W.aa.length W.No,ah W.fH W.B4.length W.iI,J W.E,ah W.I2 W.gR.length W.J4]
def B9(wb:Nat)(G:Int)(W:G1)(L:Η):Η:=obj wb PK (K3 W)::ξ dl 1 W.bG (W.aa.map (·.lb))::ξ dl 1 W.I3 (W.aa.map (·.nb))::OS bq 3 B1 W.fH W.iI W.B4::Ψ gM W.B4::Ω (dJ .i64) 1 B7 W.I2 W.J4 W.gR::ey (K5 G) W.aa::L
def R7(W W' : G1):Prop:=W'.aa.map (λs=>(s.lb,s.nb,s.d))=W.aa.map λs=>(s.lb,s.nb,s.d)
def Tz(W:G1):Prop:=∀i:Nat,i<W.aa.length->W.aa[i]!.d=(i:Int)
def pX{α:Type}[Inhabited α]{l:List α}{i:Nat}(h:i<l.length):l.Perm (l[i]!::l.eraseIdx i):=by
 rw[D7 h,List.eraseIdx_eq_take_drop_succ];have e:l.take i++l[i]::l.drop (i+1)=l:=by rw[<-bY h,cK]
 have q:(l.take i++l[i]::l.drop (i+1)).Perm (l[i]::(l.take i++l.drop (i+1))):=dS;rw[e] at q;exact q
theorem xX{α:Type}{l:List α}{i:Nat}(h:i<l.length)(x:α):(l.set i x).Perm (x::l.eraseIdx i):=by
 rw[List.set_eq_take_append_cons_drop,Χ h,List.eraseIdx_eq_take_drop_succ];exact dS
def nL{G:Int}{aa:List K2}{i:Nat}(h:i<aa.length){s:K2}(hs:aa[i]! = s){L:Η}:F (ey (K5 G) aa::L) (eu s.nb s.lb s.d G s.n (aU s.lb s.S::ey (K5 G) (aa.eraseIdx i)::L)):=by
 subst hs;exact(F.g9 (pX h)).trans (F.Vf.trans F.Tl)
def XS{G:Int}{aa:List K2}{i:Nat}(h:i<aa.length){s:K2}(n:G0)(S:Ρ){L:Η}:F (eu s.nb s.lb s.d G n (aU s.lb S::ey (K5 G) (aa.eraseIdx i)::L)) (ey (K5 G) (aa.set i { s with n:=n,S:=S })::L) :=
 F.trans (F.trans (F.f7 (Ο:=eu s.nb s.lb s.d G n [aU s.lb S])) (F.UI (f:=K5 G) (x:={ s with n:=n,S:=S }))) (F.g9 (xX h _).symm)
def jl{β:Type}(f:K2->β){aa:List K2}{i:Nat}{s:K2}(hs:aa[i]! = s)(s' : K2)(h:f s' = f s):(aa.set i s').map f=aa.map f:=by
 rw[List.map_set,h,<-hs];by_cases hi:i<aa.length
 .rw[D7 hi];refine eX cj λk K T=>?_;rw[List.getElem_set];split
  .rename_i q;subst q;simp
  .rfl
 .rw[List.set_eq_of_length_le hZ]
def lx{wb:Nat}{G:Int}{W:G1}{i:Nat}(B:i<W.aa.length){s:K2}(hs:W.aa[i]! = s)(n' : G0)(S' : Ρ)(B4:List OD)(fH:OA)(iI:Nat)(E:Int)(gR:List Int)(I2:OA)(J4:Nat){L:Η} :
  F (obj wb PK [ah W.bG W.aa.length W.hx,ah W.I3 W.aa.length W.No,ah fH B4.length iI,J E,ah I2 gR.length J4]::ξ dl 1 W.bG (W.aa.map (·.lb))::ξ dl 1 W.I3 (W.aa.map (·.nb))::OS bq 3 B1 fH iI B4::Ψ gM B4::Ω (dJ .i64) 1 B7 I2 J4 gR::eu s.nb s.lb s.d G n' (aU s.lb S'::ey (K5 G) (W.aa.eraseIdx i)::L))
   (B9 wb G ⟨W.aa.set i { s with n:=n',S:=S' },W.bG,W.hx,W.I3,W.No,B4,fH,iI,E,gR,I2,J4⟩ L):=by
 have e1:(W.aa.set i { s with n:=n',S:=S' }).map (λs=>s.lb)=W.aa.map λs=>s.lb:=jl (λs=>s.lb) hs _ rfl;have e2:(W.aa.set i { s with n:=n',S:=S' }).map (λs=>s.nb)=W.aa.map λs=>s.nb:=jl (λs=>s.nb) hs _ rfl;simp only[B9,K3];rw[e1,e2,bT];exact F.c7 (F.c7 (F.c7 (F.c7 (F.c7 (F.c7 (XS B n' S'))))))
theorem G1.a8{W:G1}{k:Int}{s:K2}(hk:0<=k/\k<W.aa.length)(hs:W.aa[k.toNat]! = s):W.m.nd k=(s.n.m,s.S):=by
 subst hs;exact eJ (f:=K2.m) (l:=W.aa) (i:=k.toNat) D
theorem G1.c7{W:G1}{k:Int}{s:K2}(n:G0)(S:Ρ)(ds:List OD)(r:L8)(K:ds.map (·.m)=r.1)(T:n.m=r.2.1)(h3:S=r.2.2)(fH:OA)(iI:Nat):({ W with aa:=W.aa.set k.toNat { s with n:=n,S:=S },B4:=W.B4++ds,fH:=fH,iI:=iI }:G1).m=W.m.send k r:=by
 unfold iK.send G1.m;dsimp only;rw[List.map_set,aQ,K];congr 1;rw[<-T,h3];rfl
def Go{o:Pf}{L:Η}:F (OR o::L) (ξ aZ 5 o.bG o.Z::Ψ iJ o.Z::L):=F.UJ
def Kk{α:Type}{Ε:α->τ}{sz η:Nat}{ad:OA}{cap:Nat}{I:List α}{L R' : Η}[h:Vu L ad α Ε sz η cap I R']:∀θ R w,Sat θ (L++R) w->I.length<=cap:=λθ R w s=>Sat.WW (L:=R'++R) (s.perm (h.perm.append_right R))
attribute [local irreducible] Α GO GP δ ms GF GE Ev Ef C0 F CB GB V.Enters bJ L9
abbrev Ey:=Zb [.ev 8]
abbrev Ex:List K4:=[.ev 0,.ev 1,.ev 2,.ev 4,.ev 5,.ev 6,.ev 7,.ev 8,.ev 9,.ev 10,.ev 11,.ev 12,.ev 13,.ev 14,.ef 3,.ef 15,.ev 16,.ev 17,.ev 18,.ev 19,.ev 20,.ev 21,.ev 22]
abbrev BI:=Zc [.ef 10]
abbrev BH:=Zc [.ef 10,.ef 11,.ev 12,.ev 13,.ef 14]
abbrev BG:=Zd [.ef 13,.ef 14]
abbrev BF:=Zb [.ev 8]
abbrev BE:=Ze [.ev 17]
abbrev BD:=Ze [.ev 17,.ef 18,.ef 19,.ev 20,.ev 21,.ef 22]
def bO{φ ψ:Prop}(k:ψ)(h:Hid ψ->φ:=by intro k;(with_reducible apply Α.a8);first|refine Α.dr 195 1 Ey (Hid.out k)|refine Α.dr 195 4 Ex (Hid.out k)|refine Α.dr 195 10 BI (Hid.out k)|refine Α.dr 195 11 BH (Hid.out k)|refine Α.dr 195 14 BG (Hid.out k)|refine Α.dr 195 18 BF (Hid.out k)|refine Α.dr 195 24 BE (Hid.out k)|refine Α.dr 195 25 BD (Hid.out k)):φ:=h ⟨k⟩
def Xq{φ ψ:Prop}(k:ψ)(h:Hid ψ->φ:=by intro k;(repeat (first|refine ab ?_|intro B6|refine bO ?_));(repeat revert B6);exact Hid.out k):φ:=h ⟨k⟩
def Ln{L:Η}(wb:Nat)(G:Int)(W:G1)(o:Pf){c b ε ac:Nat}(h:F8 G c b ε ac W.m)(ho:TZ G o)(d6:Tz W)(hc:c<64)(hb:b+24<=2000)(hM:ε<=100000000000)(hT:ac<=1000000) :
  Τ Θ 13 #[av wb,bF (iz o)] (OR o::B9 wb G W L) (λv Γ=>∃W',v=.tuple #[J (QM G o W.m).1.1,J (QM G o W.m).1.2]/\(W'.m=(QM G o W.m).2/\R7 W W')/\Γ = B9 wb G W' L):=by
 have f0:(W.aa.length:Int)=G:=by
  have:=h.len
  simp only[G1.m,al] at this;exact this
 have g0:=ho.d
 have h8:W.B4.length<=ε:=by
  have:=h.ml
  simp only[G1.m,al] at this;exact this
 have c3:W.m.Q.length=W.B4.length:=al _;have g6:W.gR.length<=c:=h.il;have g1:0<=W.E/\W.E<=ac:=h.E;have f4:W.m.E=W.E:=rfl;have f2:W.m.gR=W.gR:=rfl;have hw:=ho.wait;have a2:=h.at ho.d;obtain⟨i,hi⟩:∃i,i=o.d.toNat:=⟨_,rfl⟩;have a6:i<W.aa.length:=D;obtain⟨s,hs⟩:∃s,W.aa[i]! = s:=⟨_,rfl⟩;have b7:s.d=o.d:=by have:=d6 i a6;rw[hs] at this;omega
 have d3:W.m.nd o.d=(s.n.m,s.S):=G1.a8 D (by rw[<-hi];exact hs);have e9:(W.aa.map (·.lb))[i]! = s.lb:=by rw[<-hs];exact eJ (f:=λs:K2=>s.lb) a6
 have f6:(W.aa.map (·.nb))[i]! = s.nb:=by rw[<-hs];exact eJ (f:=λs:K2=>s.nb) a6
 have h7:(W.aa.map (·.lb)).length=W.aa.length:=al _;have h9:(W.aa.map (·.nb)).length=W.aa.length:=al _;rw[d3] at a2;generalize hR:QM G o W.m=R;unfold QM at hR;rw[d3,f4,f2] at hR;refine Τ.bd ?_;refine Α.cL Go ?_;simp only[B9,K3];repeat first|refine Α.sm 2 ?_|refine dA ?_|intro _|refine bO ?_
 rename_i bo;rw[<-hi,f6];simp only[iz];by_cases h0:o.Δ=0
 .rw[Χ h0] at hR;have ha:=sX ho.lg ho.len;have e5:=qc (ls:=o.Z.map (·.m)) (E:=W.E) (C6:=W.E+o.wait) ho.d h.Nw.2 a2.a (by have:=a2.μ;omega) a2.B5 ha g1.1 a2.bd hb;have f1:∀x∈o.Z,x.m.am.length<=1000:=λx O=>by have:=(ho.lg x O).len;omega
  have h6:=ho.len;have e6:=a2.μ;have g5:0<=s.n.μ:=a2.a.OP.μ
  have e7:ζ s.n.m.Φ (o.d*4294967296+s.n.μ)=none:=by
   cases hg:ζ s.n.m.Φ (o.d*4294967296+s.n.μ) with
   | none=>rfl
   | some x =>
    have q:=a2.a.OP.fr _ (bQ hg);have e:s.n.m.μ=s.n.μ:=rfl;dsimp only at q;omega
  refine Xq ?_;intros;refine δ.ca (EL o.bG o.Z.length o.hx o.Z rfl D) ?_;rintro _ _⟨bG,hx,rfl,rfl⟩;refine Xq ?_;intros;refine δ.cL ((F.at (Ο:=Ω aZ 5 PT bG hx o.Z) F.N9).trans (F.at (Ο:=ey (K5 G) W.aa) (nL a6 hs))) ?_;rw[b7];refine δ.cL (Γ:=ξ aZ 5 bG o.Z::Ψ iJ o.Z::eu s.nb s.lb o.d G s.n (aU s.lb s.S::(ey (K5 G) (W.aa.eraseIdx i)::obj wb PK [ah W.bG W.aa.length W.hx,ah W.I3 W.aa.length W.No,ah W.fH W.B4.length W.iI,J W.E,ah W.I2 W.gR.length W.J4]::ξ dl 1 W.bG (W.aa.map (·.lb))::ξ dl 1 W.I3 (W.aa.map (·.nb))::OS bq 3 B1 W.fH W.iI W.B4::Ψ gM W.B4::Ω (dJ .i64) 1 B7 W.I2 W.J4 W.gR::obj bo RE [J o.Δ,J o.d,J o.n,ah o.bG o.Z.length o.hx,J o.wait]::L))) (by simp only[eu,gL];exact ak) ?_;refine δ.ca (uR s.nb s.lb o.d G ⟨ho.d.1,ho.d.2,h.Nw.2⟩ s.n s.S I6 a2.a.hin a2.B5 (by have e:s.n.m.μ=s.n.μ:=rfl;dsimp only at e6;omega) bG o.Z.length hx o.Z rfl D f1 W.E (W.E+o.wait) (by have:=a2.bd;dsimp only at this;omega) e7) ?_;generalize fL o.d G (o.Z.map (·.m)) W.E (W.E+o.wait) s.n.m s.S=fG at *;rintro _ _⟨d0,b3,ds,n',rfl,a7,b1,rfl⟩
  have d1:ds.length<=400000:=by
   have e:=congrArg List.length a7;rw[al] at e;rcases e5 with⟨q,_⟩|⟨_,q⟩
   .rw[q] at e;dsimp only at e;rw[bu] at e;omega
   .have:=q.len;omega
  simp only[eu,gL];refine Xq ?_;intros;refine GO.ef (Ef.j8 (Ε:=bq) (ys:=ds) rfl rfl rfl rfl rfl (λe _=>eA e) D D) ae ?_;rintro _ _⟨M,B,rfl,rfl⟩;refine Xq ?_;intros;by_cases he:fG.1.2=0
  .rw[Χ he] at hR;refine Xq ?_;intros;refine GO.ef (Ef.a8 (Ε:=dJ .i64) (e:=fG.1.1) rfl rfl rfl rfl rfl bh (io _ _) D D) ae ?_;rintro _ _⟨c6,b9,rfl,rfl⟩;refine Xq ?_;intros;refine KX.a8 aF ?_ ⟨⟨W.aa.set i { s with n:=n',S:=fG.2.2.2 },W.bG,W.hx,W.I3,W.No,W.B4++ds,M,B,W.E,W.gR++[fG.1.1],c6,b9⟩,by rw[<-hR];rfl,⟨?_,?_⟩,rfl⟩
   .refine(F.at (Ο:=Ψ gM ds) (F.refl _)).trans ?_;refine(F.at (Ο:=Ψ gM W.B4) (F.refl _)).trans ?_;refine(F.c9 (f:=gM) fq).trans ?_;refine F.trans ?_ (lx a6 hs n' _ _ _ _ _ _ _ _);rw[b7];simp only[eu,gL];exact ak
   .rw[<-hR,hi];have e:=G1.c7 (W:=W) (k:=o.d) (s:=s) n' fG.2.2.2 ds fG.2 a7 b1 rfl M B;dsimp only;rw[<-e];rfl
   .exact jl _ hs _ rfl
  .rw[Ν he] at hR;refine Xq ?_;intros;refine KX.a8 aF ?_ ⟨⟨W.aa.set i { s with n:=n',S:=fG.2.2.2 },W.bG,W.hx,W.I3,W.No,W.B4++ds,M,B,W.E,W.gR,W.I2,W.J4⟩,by rw[<-hR];rfl,⟨?_,?_⟩,rfl⟩
   .refine(F.at (Ο:=Ψ gM ds) (F.refl _)).trans ?_;refine(F.at (Ο:=Ψ gM W.B4) (F.refl _)).trans ?_;refine(F.c9 (f:=gM) fq).trans ?_;refine F.trans ?_ (lx a6 hs n' _ _ _ _ _ _ _ _);rw[b7];simp only[eu,gL];exact ak
   .rw[<-hR,hi];have e:=G1.c7 (W:=W) (k:=o.d) (s:=s) n' fG.2.2.2 ds fG.2 a7 b1 rfl M B;dsimp only;rw[<-e];rfl
   .exact jl _ hs _ rfl
 rw[Ν h0] at hR;by_cases h4:o.Δ=4
 .rw[Χ h4] at hR;have e2:=ho.Ut h4;have d4:=lq (E:=W.E+o.wait) ho.d h.Nw.2 a2.a a2.bd D;refine Xq ?_;intros;refine δ.cL (F.at (Ο:=ey (K5 G) W.aa) (nL a6 hs)) ?_;rw[b7];refine δ.cL (Γ:=eu s.nb s.lb o.d G s.n (aU s.lb s.S::(ey (K5 G) (W.aa.eraseIdx i)::obj wb PK [ah W.bG W.aa.length W.hx,ah W.I3 W.aa.length W.No,ah W.fH W.B4.length W.iI,J (W.E+o.wait),ah W.I2 W.gR.length W.J4]::ξ dl 1 W.bG (W.aa.map (·.lb))::ξ dl 1 W.I3 (W.aa.map (·.nb))::OS bq 3 B1 W.fH W.iI W.B4::Ψ gM W.B4::Ω (dJ .i64) 1 B7 W.I2 W.J4 W.gR::obj bo RE [J o.Δ,J o.d,J o.n,ah o.bG o.Z.length o.hx,J o.wait]::ξ aZ 5 o.bG o.Z::Ψ iJ o.Z::L))) (by simp only[eu,gL];exact ak) ?_;refine δ.ca (ri s.nb s.lb o.d G ho.d h.Nw.2 s.n s.S I6 a2.a (by have:=a2.bd;dsimp only at this;omega) (W.E+o.wait)) ?_;dsimp only at d4 hR;generalize dv o.d (W.E+o.wait) s.n.m s.S=fG at *;rintro _ _⟨d0,b3,ds,n',rfl,a7,b1,rfl⟩
  have d1:ds.length<=600000000:=by
   have e:=congrArg List.length a7;have:=d4.len
   rw[al] at e;omega
  simp only[eu,gL];refine Xq ?_;intros;refine δ.ef (Ef.j8 (Ε:=bq) (ys:=ds) rfl rfl rfl rfl rfl (λe _=>eA e) D D) ae ?_;rintro _ _⟨M,B,rfl,rfl⟩;refine Xq ?_;intros;refine KX.a8 aF ?_ ⟨⟨W.aa.set i { s with n:=n',S:=fG.2.2 },W.bG,W.hx,W.I3,W.No,W.B4++ds,M,B,W.E+o.wait,W.gR,W.I2,W.J4⟩,by rw[<-hR];rfl,⟨?_,?_⟩,rfl⟩
  .refine(F.at (Ο:=Ψ gM ds) (F.refl _)).trans ?_;refine(F.at (Ο:=Ψ gM W.B4) (F.refl _)).trans ?_;refine(F.c9 (f:=gM) fq).trans ?_;refine F.trans ?_ (lx a6 hs n' _ _ _ _ _ _ _ _);rw[b7];simp only[eu,gL];exact ak
  .rw[<-hR,hi];have e:=G1.c7 (W:={ W with E:=W.E+o.wait }) (k:=o.d) (s:=s) n' fG.2.2 ds fG a7 b1 rfl M B;exact e
  .exact jl _ hs _ rfl
 rw[Ν h4] at hR;by_cases h5:o.Δ=5
 .rw[Χ h5] at hR;have e4:=a2.bd;dsimp only at e4;have b4:(W.aa.map (·.lb))[o.d.toNat]! = s.lb:=by rw[<-hi];exact e9
  refine Xq ?_;intros;refine δ.ca (Dz o ho.num W.E) ?_;rintro _ _⟨a9,rfl,rfl⟩;refine Xq ?_;intros;refine δ.cL (F.at (Ο:=ey (K5 G) W.aa) (nL a6 hs)) ?_;simp only[eu,gL];refine δ.cL (Γ:=aU ((W.aa.map (·.lb))[o.d.toNat]!) s.S::stM (jk o.n W.E a9)::Nu (jk o.n W.E a9)::(obj s.nb C4 (gL s.lb s.d G s.n.μ s.n.U s.n.mb s.n.mp s.n.mr)::cS gm cy s.n.mb s.n.Φ::ey I4 s.n.Φ::cS gm cC s.n.mp s.n.Β::ey H6 s.n.Β::cS D5 bL s.n.mr (J6 s.n.sh)::ey (K5 G) (W.aa.eraseIdx i)::obj wb PK [ah W.bG W.aa.length W.hx,ah W.I3 W.aa.length W.No,ah W.fH W.B4.length W.iI,J W.E,ah W.I2 W.gR.length W.J4]::ξ dl 1 W.bG (W.aa.map (·.lb))::ξ dl 1 W.I3 (W.aa.map (·.nb))::OS bq 3 B1 W.fH W.iI W.B4::Ψ gM W.B4::Ω (dJ .i64) 1 B7 W.I2 W.J4 W.gR::L)) (by rw[b4];simp only[gL];exact ak) ?_;refine δ.cr (kZ ((W.aa.map (·.lb))[o.d.toNat]!) s.S (dg s.S) a2.a.hin.K1.a (by rw[a2.a.hin.K1.π];exact a2.a.hin.K1.ok) a2.a.hin.K1.now (jk o.n W.E a9) (xU _ _ _).1 (xU _ _ _).2 (by show dg s.S+1<=2000;omega) tW) ?_;refine Xq ?_;intros;refine KX.a8 aF ?_ ⟨⟨W.aa.set i { s with n:=s.n,S:=bM s.S (mE o.n W.E) },W.bG,W.hx,W.I3,W.No,W.B4,W.fH,W.iI,W.E,W.gR,W.I2,W.J4⟩,by rw[<-hR];rfl,⟨?_,?_⟩,rfl⟩
  .rw[b4,show(jk o.n W.E a9).m=mE o.n W.E from rfl];refine F.trans ?_ (lx a6 hs s.n _ _ _ _ _ _ _ _);simp only[eu,gL];exact ak
  .rw[<-hR];unfold G1.m;dsimp only;rw[List.map_set,hi];rfl
  .exact jl _ hs _ rfl
 rw[Ν h5] at hR;by_cases hz:W.B4.length=0
 .rw[Χ (c3.trans hz)] at hR;have i1:(W.B4.length:Int)=0:=D;refine Xq ?_;intros;refine KX.a8 aF ?_ ⟨W,by rw[<-hR];rfl,⟨by rw[<-hR],rfl⟩,rfl⟩;exact ak
 rw[Ν (λq=>hz (c3.symm.trans q))] at hR;have g4:(0:Int)<W.B4.length:=D;have e8:=eH o.n (D:(W.B4.length:Int)≠0);have g7:=dp o.n g4;have i0:=ho.num;rw[c3] at hR;have d2:(o.n % (W.B4.length:Int)).toNat<W.B4.length:=D;have K:0<=o.n % (W.B4.length:Int):=e8;generalize hk:o.n % (W.B4.length:Int)=k at *;have g3:W.m.Q[k.toNat]! = W.B4[k.toNat]!.m:=eJ (f:=λx:OD=>x.m) d2;have b5:W.B4[k.toNat]!∈W.B4:=bA d2;have hX:Ty G W.B4[k.toNat]!.m:=h.Q _ (PB b5);rw[g3] at hR;repeat first|refine Α.sm 20 ?_|refine dA ?_|intro _|refine bO ?_
 rename_i c0;rw[hk];refine Α.cL (F.at (Ο:=Ψ gM W.B4) (F.d8 (f:=gM) b5)) ?_;generalize W.B4[k.toNat]! = x at *;refine Α.c8 (Kk (ad:=W.fH) (I:=W.B4)) λc1=>?_;refine Α.c7 (α:=OA×Nat×List OD) (λg=>g.2.2=if o.Δ≠3 then W.B4.take k.toNat++W.B4.drop (k.toNat+1) else W.B4) (λg=>[(0,av wb),(3,av bo),(4,J 0),(5,J 0),(11,av c0)]) (λg=>obj wb PK [ah W.bG W.aa.length W.hx,ah W.I3 W.aa.length W.No,ah g.1 g.2.2.length g.2.1,J W.E,ah W.I2 W.gR.length W.J4]::ξ dl 1 W.bG (W.aa.map (·.lb))::ξ dl 1 W.I3 (W.aa.map (·.nb))::OS bq 3 B1 g.1 g.2.1 g.2.2::Ψ gM g.2.2::Ω (dJ .i64) 1 B7 W.I2 W.J4 W.gR::ey (K5 G) W.aa::obj c0 B1 (bq x)::gM x::obj bo RE [J o.Δ,J o.d,J o.n,ah o.bG o.Z.length o.hx,J o.wait]::L) ?_ ?_
 .by_cases h3:o.Δ=3
  .rw[Ν (λq=>q h3)];refine Xq ?_;intros;exact⟨(W.fH,W.iI,W.B4),rfl,aD,by exact ak⟩
  .rw[Χ h3];refine Α.cL (F.c8 bq 3 B1) ?_;refine Xq ?_;intros;refine GO.ef (Ef.c9 (hq:=F2.take (I:=W.B4) inferInstance k.toNat) rfl rfl rfl rfl (by rw[aP];omega) (λe _=>eA e) (by rw[bu,aP];omega) (by rw[bu,aP];omega)) ae ?_;rintro _ _⟨M,B,rfl,rfl⟩;rw[ax];have e0:(W.B4.take k.toNat).length=k.toNat:=by rw[aP];omega
   refine Xq ?_;intros;refine GO.ef (Ef.c9 (I:=W.B4.take k.toNat) (hq:=F2.drop (I:=W.B4) inferInstance c1 (k+1).toNat) rfl rfl rfl rfl (by rw[cB]) (λe _=>eA e) (by rw[e0,cB];omega) (by rw[e0,cB];omega)) ae ?_;rintro _ _⟨a5,a3,rfl,rfl⟩;rw[show(k+1).toNat=k.toNat+1 by omega];refine Xq ?_;intros;refine⟨(a5,a3,W.B4.take k.toNat++W.B4.drop (k.toNat+1)),rfl,aD,?_⟩;refine(F.at (Ο:=Ω bq 3 B1 a5 a3 (W.B4.take k.toNat++W.B4.drop (k.toNat+1))) F.k8).trans ?_;refine(F.at (Ο:=Ψ gM W.B4) (F.g8 (l':=W.B4.take k.toNat++W.B4.drop (k.toNat+1)) λy Y=>wV Y)).trans ?_;exact ak
 rintro⟨M,B,ml⟩ b0;dsimp only at b0 ⊢
 have f3:ml.length<=W.B4.length:=by
  rw[b0];split
  .rw[ay,aP,cB];omega
  .exact an _
 have e1:(if o.Δ≠3 then(⟨W.m.E7,W.m.Q.take k.toNat++W.m.Q.drop (k.toNat+1),W.E,W.gR⟩:iK) else W.m)=⟨W.aa.map K2.m,ml.map (·.m),W.E,W.gR⟩:=by
  rw[b0];split
  .rw[aQ,List.map_take,List.map_drop];rfl
  .rfl
 rw[e1] at hR;dsimp only at hR;have c5:=hX.x.to;have g2:x.m.to<W.aa.length:=D;by_cases T:o.Δ=2
 .rw[Ν (λq=>q.1 T)] at hR;refine Xq ?_;intros;refine KX.a8 aF ?_ ⟨⟨W.aa,W.bG,W.hx,W.I3,W.No,ml,M,B,W.E,W.gR,W.I2,W.J4⟩,by rw[<-hR];rfl,⟨by rw[<-hR];rfl,rfl⟩,rfl⟩;simp only[B9,K3];exact ak
 rw[Χ ⟨T,c5⟩] at hR;obtain⟨j,hj⟩:∃j,j=x.m.to.toNat:=⟨_,rfl⟩;have c2:j<W.aa.length:=D;obtain⟨s2,b2⟩:∃s,W.aa[j]! = s:=⟨_,rfl⟩;have b8:s2.d=x.m.to:=by have:=d6 j c2;rw[b2] at this;omega
 have c4:W.m.nd x.m.to=(s2.n.m,s2.S):=G1.a8 D (by rw[<-hj];exact b2)
 have b6:(W.aa.map (·.nb))[x.m.to.toNat]! = s2.nb:=by
  rw[<-b2,hj];exact eJ (f:=λs:K2=>s.nb) D
 have a4:=h.at c5;rw[c4] at a4 hR;dsimp only at hR;have d5:=oN (E:=W.E) c5 a4.a hX a4.bd hb;have ha:=hX.x.am;have e3:=a4.bd;dsimp only at e3 d5;refine Xq ?_;intros;refine δ.cL (F.at (Ο:=ey (K5 G) W.aa) (nL c2 b2)) ?_;rw[b8];refine δ.cL (Γ:=gM x::eu ((W.aa.map (·.nb))[x.m.to.toNat]!) s2.lb x.m.to G s2.n (aU s2.lb s2.S::(ey (K5 G) (W.aa.eraseIdx j)::obj wb PK [ah W.bG W.aa.length W.hx,ah W.I3 W.aa.length W.No,ah M ml.length B,J W.E,ah W.I2 W.gR.length W.J4]::ξ dl 1 W.bG (W.aa.map (·.lb))::ξ dl 1 W.I3 (W.aa.map (·.nb))::OS bq 3 B1 M B ml::Ψ gM ml::Ω (dJ .i64) 1 B7 W.I2 W.J4 W.gR::obj c0 B1 (bq x)::L))) (by rw[b6];simp only[eu,gL];exact ak) ?_;refine δ.ca (qC ((W.aa.map (·.nb))[x.m.to.toNat]!) s2.lb x.m.to G s2.n s2.S I6 x hX.ct (by have:=hX.x.kd;omega) a4.a.hin D W.E) ?_;generalize dO x.m.to G x.m W.E s2.n.m s2.S=fG at *;rintro _ _⟨d0,b3,ds,n',rfl,a7,b1,rfl⟩
 have d1:ds.length<=3300:=by
  have e:=congrArg List.length a7;have:=d5.len
  rw[al] at e;omega
 simp only[eu,gL];refine Xq ?_;intros;refine δ.ef (Ef.j8 (Ε:=bq) (ys:=ds) rfl rfl rfl rfl rfl (λe _=>eA e) D D) ae ?_;rintro _ _⟨a5,a3,rfl,rfl⟩;refine Xq ?_;intros;rw[b6];refine KX.a8 aF ?_ ⟨⟨W.aa.set j { s2 with n:=n',S:=fG.2.2 },W.bG,W.hx,W.I3,W.No,ml++ds,a5,a3,W.E,W.gR,W.I2,W.J4⟩,by rw[<-hR];rfl,⟨?_,?_⟩,rfl⟩
 .refine(F.at (Ο:=Ψ gM ds) (F.refl _)).trans ?_;refine(F.at (Ο:=Ψ gM ml) (F.refl _)).trans ?_;refine(F.c9 (f:=gM) fq).trans ?_;refine F.trans ?_ (lx c2 b2 n' _ _ _ _ _ _ _ _);rw[b8];simp only[eu,gL];exact ak
 .rw[<-hR,hj];exact G1.c7 (W:=⟨W.aa,W.bG,W.hx,W.I3,W.No,ml,M,B,W.E,W.gR,W.I2,W.J4⟩) (k:=x.m.to) (s:=s2) n' fG.2.2 ds fG a7 b1 rfl a5 a3
 .exact jl _ b2 _ rfl
