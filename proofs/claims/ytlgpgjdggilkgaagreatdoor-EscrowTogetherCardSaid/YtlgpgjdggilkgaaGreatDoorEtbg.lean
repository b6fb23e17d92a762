/- Lemmas. -/
import Derived.Test.YtlgpgjdggilkgaaGreatDoorEtbf
set_option linter.all false
set_option maxHeartbeats 16000000
namespace Go.Proofs.YtlgpgjdggilkgaaGreatDoor
section
open Go.V
def O5(d:Int)(N:υ)(A:Int):Prop:=∀x,ζ N.Φ A=some x->d∈x.iM->d∈x.I8\/x.dec=true
theorem O5.J1{d A k:Int}{N:υ}{x y:K6}(h:O5 d N k)(hg:ζ N.Φ A=some x)(T:y.iM=x.iM)(h4:(d∈x.I8\/x.dec=true)->d∈y.I8\/y.dec=true):O5 d { N with Φ:=cZ N.Φ A y } k:=λz hz hm=>by
 have B:ζ (cZ N.Φ A y) k=some z:=hz;rw[cF] at B;split at B
 .rename_i q;subst q;obtain rfl:y=z:=by simpa using B
  rw[T] at hm;exact h4 (h x hg hm)
 .exact h z B hm
def O5.of{d k:Int}{N N' : υ}(h:O5 d N k)(e:N'.Φ=N.Φ):O5 d N' k:=by
 unfold O5;rw[e];exact h
theorem JE{l:List Int}{a b:Int}(h:b∈l):b∈NX l a:=by
 grind [NX]
theorem HO{l:List Int}{a:Int}:a∈NX l a:=by
 grind [NX]
theorem se(d E:Int)(m:G3)(N:υ)(S:Ρ):∃b N' S',eN d m E N S=([⟨d,bZ m.A,C9 2 m.A 0 b⟩],N',S')/\N'.Φ=N.Φ:=by
 unfold eN;cases ζ N.Β m.A with
 | some p=>grind
 | none =>
  dsimp only;split
  .grind
  grind
theorem zC{d E0 E k:Int}{m:G3}{N:υ}{S:Ρ}(h:O5 d N k):O5 d (be d E0 m E N S).2.1 k:=by
 unfold be;split
 .obtain⟨b,N',S',e,q⟩:=se d E m N S;rw[e];exact h.of q
 split
 .unfold em;cases U:ζ N.Φ m.A with
  | none=>exact h
  | some x =>
   dsimp only;split
   .exact h
   .split
    .exact h.J1 U rfl λ_=>.inr rfl
    .split
     .exact h.J1 U rfl λq=>q.imp JE id
     .exact h.J1 U rfl λ_=>.inr rfl
 split
 .unfold dt;cases U:ζ N.Β m.A with
  | none=>exact h.of rfl
  | some p =>
   dsimp only;split
   .exact h.of rfl
   .exact h
 split
 .unfold gc υ.J1;cases U:ζ N.Φ m.A with
  | none=>exact h
  | some x=>exact h.J1 U rfl λq=>q
 split
 .unfold dU;split
  .exact h
  .split
   .split
    .exact h.of rfl
    .exact h
   .exact h
 split
 .unfold O4 υ.K7;cases U:ζ N.Β m.A with
  | none=>exact h
  | some p=>exact h.of rfl
 exact h
theorem oY{α:Type}{d k:Int}{f:α->υ->Ρ->L8}(hf:∀m N S,O5 d N k->O5 d (f m N S).2.1 k):∀(l:List α) (N:υ) (S:Ρ),O5 d N k->O5 d (bS f l N S).2.1 k
 | [],N,S,h=>h
 | m::l,N,S,h=>oY hf l (f m N S).2.1 (f m N S).2.2 (hf m N S h)
theorem pF{d E k:Int}:∀(Μ:Nat) (m:eU) (N:υ) (S:Ρ),O5 d N k->O5 d (bJ d E Μ m N S).2.1 k
 | 0,m,N,S,h=>h
 | Μ+1,m,N,S,h=>by
  unfold bJ;split
  .exact h
  .exact oY (λy N' S' h'=>pF Μ y N' S' h') _ _ _ (zC h)
theorem vI{d E k:Int}{l:List eU}{N:υ}{S:Ρ}(h:O5 d N k):O5 d (L9 d E l N S).2.1 k:=oY (λy N' S' h'=>pF 7 y N' S' h') l N S h
theorem Iq{d G E k:Int}{x:eU}{N:υ}{S:Ρ}(h:O5 d N k):O5 d (dO d G x E N S).2.1 k:=by
 grind [dO,vI,zC]
theorem Dm{d E A:Int}{b:Bool}{N:υ}{S:Ρ}{x:K6}(O:ζ N.Φ A=some x):O5 d (em d d (C9 2 A 0 b) E N S).2.1 A:=by
 have hg:∀y:K6,(d∈y.I8\/y.dec=true)->O5 d { N with Φ:=cZ N.Φ A y } A:=λy Y z hz _=>by
  have B:ζ (cZ N.Φ A y) A=some z:=hz;rw[cF,Χ rfl] at B;obtain rfl:y=z:=by simpa using B
  exact Y
 unfold em;rw[show(C9 2 A 0 b).A=A from rfl,O];dsimp only;split
 .rename_i hd;intro z hz _;grind
 .split
  .exact hg _ (.inr rfl)
  .split
   .exact hg _ (.inl HO)
   .exact hg _ (.inr rfl)
theorem Gi{d E A:Int}{ls:List lu}{N:υ}{S:Ρ}{x:K6}(B:bZ A=d)(O:ζ N.Φ A=some x):O5 d (bJ d E 7 ⟨d,d,⟨1,A,0,false,ls,[]⟩⟩ N S).2.1 A:=by
 obtain⟨b,N',S',e,q⟩:=se d E ⟨1,A,0,false,ls,[]⟩ N S
 have K:be d d ⟨1,A,0,false,ls,[]⟩ E N S=([⟨d,d,C9 2 A 0 b⟩],N',S'):=by
  unfold be;rw[Χ rfl,e,show bZ (⟨1,A,0,false,ls,[]⟩:G3).A=d from B]
 have T:bJ d E 7 ⟨d,d,⟨1,A,0,false,ls,[]⟩⟩ N S=bS (bJ d E 6) (be d d ⟨1,A,0,false,ls,[]⟩ E N S).1 (be d d ⟨1,A,0,false,ls,[]⟩ E N S).2.1 (be d d ⟨1,A,0,false,ls,[]⟩ E N S).2.2:=by
  rw[bJ];exact aj
 have h3:bJ d E 6 ⟨d,d,C9 2 A 0 b⟩ N' S' = bS (bJ d E 5) (be d d (C9 2 A 0 b) E N' S').1 (be d d (C9 2 A 0 b) E N' S').2.1 (be d d (C9 2 A 0 b) E N' S').2.2:=by
  rw[bJ];exact aj
 have h4:be d d (C9 2 A 0 b) E N' S' = em d d (C9 2 A 0 b) E N' S':=by
  unfold be;rw[Ν (by grind [C9]),Χ (show(C9 2 A 0 b).Δ=2 from rfl)]
 rw[T,K];show O5 d (bJ d E 6 ⟨d,d,C9 2 A 0 b⟩ N' S').2.1 A;grind [oY,pF,Dm]
def lf{d E:Int}{m:eU}{N:υ}{S:Ρ}(h:m.to≠d)(Μ:Nat):bJ d E (Μ+1) m N S=([m],N,S):=by
 rw[bJ];exact Χ h
theorem wI{d E A:Int}{ls:List lu}{x:K6}(B:bZ A=d):∀(gs:List Int) (N:υ) (S:Ρ),ζ N.Φ A=some x->d∈gs->O5 d (bS (bJ d E 7) (gs.map λg=>(⟨d,g,⟨1,A,0,false,ls,[]⟩⟩:eU)) N S).2.1 A
 | [],N,S,_,h=>aj
 | g::gs,N,S,O,h=>by
  rw[aq];by_cases e:g=d
  .grind [bS,oY,pF,Gi]
  .have hm:=lf (E:=E) (m:=⟨d,g,⟨1,A,0,false,ls,[]⟩⟩) (N:=N) (S:=S) e 6;have:=wI (E:=E) (ls:=ls) (x:=x) B gs N S O aj
   grind [bS]
structure Qh (π:B0) (d G:Int) (N:υ) (S:Ρ):Prop where
 hin:NG π d N S
 OP:QL d G N
 sv:∀k,O5 d N k
structure Ty (G:Int) (y:eU):Prop where
 ct:O7 y.ct
 x:Q9 G y
structure Rm (π:B0) (d G:Int) (N:υ) (b n:Nat) (r:L8):Prop where
 nd:Qh π d G r.2.1 r.2.2
 bd:dg r.2.2+F0 r.2.1<=b
 Q:∀y∈r.1,Ty G y
 len:r.1.length<=n
 μ:r.2.1.μ=N.μ
theorem Rm.same{π:B0}{d G:Int}{N:υ}{S:Ρ}{b n:Nat}(h:Qh π d G N S)(hb:dg S+F0 N<=b):Rm π d G N b n ([],N,S):=⟨h,hb,aj,aC _,rfl⟩
def Hu{π:B0}{d G E:Int}{l:List eU}{N:υ}{S:Ρ}{b:Nat}(hs:0<=d/\d<G)(B:b<=2000)(hP:∀y∈l,Rl d 7 y)(hX:∀y∈l,Q9 G y)(hin:NG π d N S)(hw:QL d G N)(hv:∀k,O5 d (L9 d E l N S).2.1 k)(hb:dg S+F0 N+gx d l<=b):Rm π d G N b (l.length*3300) (L9 d E l N S):=by
 obtain⟨K,T,h3,h4⟩:=nt (E:=E) (Μ:=7) l N S b B hP hin hb;have h5:=Ht (E:=E) (S:=S) hs hX hw;have h6:=jJ (f:=λm:eU=>Qg m.ct.Δ) (C:=3300) (l:=l) λm _=>re _;exact⟨⟨K,h5.nd,hv⟩,T,λy Y=>⟨(h3 y Y).ct,h5.Q y Y⟩,aO h4 h6,h5.μ⟩
theorem oN{π:B0}{d G E:Int}{x:eU}{N:υ}{S:Ρ}{b:Nat}(hs:0<=d/\d<G)(h:Qh π d G N S)(O:Ty G x)(hb:dg S+F0 N<=b)(B:b+24<=2000):Rm π d G N (b+24) 3300 (dO d G x E N S):=by
 have ha:=O.x.am;have M:=O.x.kd;have hX:=Kz (E:=E) (S:=S) hs O.x h.OP;have hV:=λk=>Iq (G:=G) (E:=E) (x:=x) (S:=S) (h.sv k);unfold dO at hX hV ⊢;split
 .rename_i hc;rw[Χ hc] at hX hV;obtain⟨⟨K,T,h3⟩,h4,_⟩:=yg (Λ:=x.Λ) (E:=E) h.hin O.ct D D;have hz:=kf (d:=d) (l:=(be d x.Λ x.ct E N S).1) aj;obtain⟨p1,p2,p3,_⟩:=nt (E:=E) (Μ:=7) _ _ _ (b+24) B (λy Y=>(K y Y).1) T D;exact⟨⟨p1,hX.nd,hV⟩,p2,λy Y=>⟨(p3 y Y).ct,hX.Q y Y⟩,h4,hX.μ⟩
 .exact Rm.same h D
def zl{G n:Int}{ls:List lu}(h:jG G n ls):∀l∈ls,R6 G l:=λl U=>(h.2 l U).ts
def Ai{d c:Int}(h:0<=c/\c<64):bZ (d*4294967296+c)=d:=by
 unfold bZ;omega
theorem qc{π:B0}{d G E C6:Int}{ls:List lu}{N:υ}{S:Ρ}{b:Nat}(hs:0<=d/\d<G)(B:G<=12)(h:Qh π d G N S)(hc:N.μ<64)(hi:S.π.B5.length<=64)(ha:NN ls<=12)(ht:0<=E)(hb:dg S+F0 N<=b)(a9:b+24<=2000) :
  (fL d G ls E C6 N S).2=([],N,S)/\(fL d G ls E C6 N S).1.2≠0 \/
  ((fL d G ls E C6 N S).1=(d*4294967296+N.μ,0)/\Rm π d G { N with μ:=N.μ+1 } (b+24) 400000 (fL d G ls E C6 N S).2):=by
 have a7:0<=(S.π.B5.length:Int)/\(S.π.B5.length:Int)<=64:=D;have b0:=h.OP.μ;unfold fL;split
 .grind
 .rename_i K;have b3 : ¬C6>1099511627776:=D;have T:jG G S.π.B5.length ls:=aj;split
  .grind
  .rename_i h3;refine .inr ⟨rfl,?_⟩;dsimp only;generalize hid:d*4294967296+N.μ=A;have a4:bZ A=d:=by rw[<-hid];exact Ai ⟨b0,hc⟩
   have a2:QJ G A:=⟨by have e:A / 4294967296=d:=a4;rw[e];exact hs,D⟩;have M:=a2.i64 B;have b4:=lQ ls G.toNat;have a6:∀g∈bX ls G.toNat,0<=g/\g<G:=by grind [Vs]
   have b5:ζ N.Φ A=none:=by
    cases hg:ζ N.Φ A with
    | none=>rfl
    | some x=>have:=h.OP.fr _ (bQ hg);omega
   have hP:=wO (d:=d) T B a7 M (gs:=bX ls G.toNat);have hin:=Am (A:=A) (u:=C6) (ls:=ls) h.hin B;have hX:∀y∈ck d (bX ls G.toNat) [] ⟨1,A,0,false,ls,[]⟩,Q9 G y:=pj (bE 1) a2 hs a6 (zl T) ha
   have hw:QL d G { N with μ:=N.μ+1,Φ:=cZ N.Φ A ⟨ls,bX ls G.toNat,C6,[],[],false,false⟩ }:=by
    refine⟨aj,iD h.OP.nb,h.OP.np,λp hp=>?_,h.OP.pt,λp hp=>?_⟩
    .rcases jT hp with rfl|hp
     .exact⟨⟨T.1.2,λl U=>(T.2 l U).ok B a7,aj,by grind [vi],by unfold vi;grind⟩,a2,zl T,ha,a6⟩
     .exact h.OP.ex p hp
    .dsimp only;rcases jT hp with rfl|hp
     .omega
     .have:=h.OP.fr p hp;omega
   have a5:gx d (ck d (bX ls G.toNat) [] ⟨1,A,0,false,ls,[]⟩)<=24:=by
    have q:=ra (d:=d) (ct:=⟨1,A,0,false,ls,[]⟩) (ju ls G.toNat);rw[mB];dsimp only at q;omega
   have b1:ζ (cZ N.Φ A (⟨ls,bX ls G.toNat,C6,[],[],false,false⟩:K6)) A=some ⟨ls,bX ls G.toNat,C6,[],[],false,false⟩:=by rw[cF,Χ rfl]
   have hv:∀k,O5 d (L9 d E (ck d (bX ls G.toNat) [] ⟨1,A,0,false,ls,[]⟩) { N with μ:=N.μ+1,Φ:=cZ N.Φ A ⟨ls,bX ls G.toNat,C6,[],[],false,false⟩ } S).2.1 k:=λk=>by
    by_cases hm:k=A/\d∈bX ls G.toNat
    .obtain⟨rfl,hm⟩:=hm;rw[mB];exact wI a4 _ _ _ b1 hm
    .refine vI λz hz b2=>?_;have a3:ζ (cZ N.Φ A (⟨ls,bX ls G.toNat,C6,[],[],false,false⟩:K6)) k=some z:=hz;rw[cF] at a3;split at a3
     .grind
     .exact h.sv k z a3 b2
   have U:(ck d (bX ls G.toNat) [] ⟨1,A,0,false,ls,[]⟩).length<=12:=aO (kU _ _ _ _) D;have hr:=Hu (b:=b+24) hs a9 hP hX hin hw hv (by unfold F0 at hb ⊢;grind);exact⟨hr.nd,hr.bd,hr.Q,aO hr.len D,hr.μ⟩
def xs(f:hy->Ρ->List eU×hy×Ρ):List hy->Ρ->List eU×List hy×Ρ
 | [],S=>([],[],S)
 | o::os,S=>((f o S).1++(xs f os (f o S).2.2).1,(f o S).2.1::(xs f os (f o S).2.2).2.1,(xs f os (f o S).2.2).2.2)
theorem vZ(f:hy->Ρ->List eU×hy×Ρ)(o:hy):∀(os:List hy) (S:Ρ),xs f (os++[o]) S=((xs f os S).1++(f o (xs f os S).2.2).1,(xs f os S).2.1++[(f o (xs f os S).2.2).2.1],(f o (xs f os S).2.2).2.2)
 | [],S=>by grind [xs]
 | p::os,S=>by
  rw[au];simp only[xs];rw[vZ f o os];simp only[aH,au]
theorem qB(f:hy->Ρ->List eU×hy×Ρ)(os:List hy)(S:Ρ){i:Nat}(h:i<os.length):xs f (os.take (i+1)) S=((xs f (os.take i) S).1++(f os[i]! (xs f (os.take i) S).2.2).1,(xs f (os.take i) S).2.1++[(f os[i]! (xs f (os.take i) S).2.2).2.1],(f os[i]! (xs f (os.take i) S).2.2).2.2):=by
 grind [aB,vZ]
def px(f:hy->Ρ->List eU×hy×Ρ):∀(os:List hy) (S:Ρ),(xs f os S).2.1.length=os.length
 | [],S=>rfl
 | o::os,S=>by simp only[xs,aK,px f os]
structure RD (f:hy->Ρ->List eU×hy×Ρ) (os:List hy) (S:Ρ) (i:Nat) (ys:List E9) (Q:List eU):Prop where
 le:i<=os.length
 len:ys.length=os.length
 ow:ys.map E9.m=(xs f (os.take i) S).2.1++os.drop i
 Q:Q=(xs f (os.take i) S).1
theorem RD.at{f:hy->Ρ->List eU×hy×Ρ}{os:List hy}{S:Ρ}{i:Nat}{ys:List E9}{Q:List eU}(h:RD f os S i ys Q)(hi:i<os.length):ys[i]!.m=os[i]!:=by
 have U:=px f (os.take i) S;rw[aP,dF h.le] at U;have e:(ys.map E9.m)[i]! = ys[i]!.m:=eJ (f:=E9.m) (by rw[h.len];exact hi);rw[<-e,h.ow,D7 aj,dT D,List.getElem_drop,D7 hi];congr 1;omega
def RD.next{f:hy->Ρ->List eU×hy×Ρ}{os:List hy}{S:Ρ}{i:Nat}{ys:List E9}{Q:List eU}(h:RD f os S i ys Q)(hi:i<os.length){o' : E9}{a2:List eU}
  (B:a2=(f ys[i]!.m (xs f (os.take i) S).2.2).1) (M:o'.m=(f ys[i]!.m (xs f (os.take i) S).2.2).2.1):RD f os S (i+1) (ys.set i o') (Q++a2):=by
 have U:=px f (os.take i) S;rw[aP,dF h.le] at U;rw[h.at hi] at B M;refine⟨hi,by rw[bT];exact h.len,?_,?_⟩
 .rw[qB f os S hi,List.map_set,h.ow,fw _ _ D,M,U,Nat.sub_self,bY hi,fR,aH];rfl
 .rw[qB f os S hi,h.Q,B]
theorem RD.keep{f:hy->Ρ->List eU×hy×Ρ}{os:List hy}{S:Ρ}{i:Nat}{ys:List E9}{Q:List eU}(h:RD f os S i ys Q)(hi:i<os.length){B:List eU}
  (M:B=(f ys[i]!.m (xs f (os.take i) S).2.2).1) (a2:ys[i]!.m=(f ys[i]!.m (xs f (os.take i) S).2.2).2.1):RD f os S (i+1) ys (Q++B):=by
 have e:ys.set i ys[i]! = ys:=by
  have U:=h.len;rw[D7 D];exact eC D
 have:=h.next hi M a2
 grind
theorem RD.zero{f:hy->Ρ->List eU×hy×Ρ}{ys:List E9}{S:Ρ}:RD f (ys.map E9.m) S 0 ys []:=⟨aC _,aj,rfl,rfl⟩
noncomputable def B8(d A bI Ι E:Int)(o:hy)(S:Ρ):List eU×hy×Ρ:=if o.state=1 then([fF d A o],o,S) else bV d A bI Ι E o S
noncomputable def Nh(d E A:Int)(N:υ)(S:Ρ):L8:=match ζ N.Φ A with
 | some x=>L9 d E (cD d A x E).1 { N with Φ:=cZ N.Φ A (cD d A x E).2 } S
 | none=>([],N,S)
noncomputable def K8(d E A:Int)(N:υ)(S:Ρ):L8:=match ζ N.Β A with
 | some p =>
  if p.state=1\/p.state=2 then((xs (B8 d A p.state p.Ι E) p.Z S).1,{ N with Β:=cZ N.Β A ⟨p.state,p.Ι,(xs (B8 d A p.state p.Ι E) p.Z S).2.1⟩ },(xs (B8 d A p.state p.Ι E) p.Z S).2.2)
  else([],N,S)
 | none=>([],N,S)
noncomputable def Qi(d E A:Int)(N:υ)(S:Ρ):L8:=((Nh d E A N S).1++(K8 d E A (Nh d E A N S).2.1 (Nh d E A N S).2.2).1,(K8 d E A (Nh d E A N S).2.1 (Nh d E A N S).2.2).2.1,(K8 d E A (Nh d E A N S).2.1 (Nh d E A N S).2.2).2.2)
noncomputable def dv(d E:Int)(N:υ)(S:Ρ):L8:=bS (Qi d E) (ed N) N S
def V4(G:Int)(o:hy):Prop:=Rk o/\R6 G o.Υ/\o.Υ.am.length<=12
def Lv{d G A bI Ι E:Int}{o:hy}{S:Ρ}{c:B0}(hs:0<=d/\d<G)(B:G<=12)(hi:QJ G A)(hS:Oc d c (dg S) S)(hk:dg S+dW o<=2000)(ho:V4 G o) :
  Oc d c (dg (B8 d A bI Ι E o S).2.2) (B8 d A bI Ι E o S).2.2/\dg (B8 d A bI Ι E o S).2.2+dW (B8 d A bI Ι E o S).2.1<=dg S+dW o/\dg S<=dg (B8 d A bI Ι E o S).2.2/\V4 G (B8 d A bI Ι E o S).2.1/\(∀y∈(B8 d A bI Ι E o S).1,Ty G y)/\(B8 d A bI Ι E o S).1.length<=1:=by
 unfold B8;split
 .refine⟨hS,an _,an _,ho,λy Y=>?_,an _⟩;obtain rfl:=F6 Y;exact⟨ni (hi.i64 B) ho.1,WS hi hs ho.2 ⟨rfl,rfl,rfl,rfl,rfl⟩⟩
 .obtain⟨K,T⟩:=uX (A:=A) (bI:=bI) (Ι:=Ι) (E:=E) hS hk;obtain⟨h3,h4⟩:=xz (bI:=bI) (Ι:=Ι) (E:=E) hS hk (hi.i64 B) ho.1;obtain⟨h5,h6⟩:=WR (d:=d) (A:=A) (bI:=bI) (Ι:=Ι) (E:=E) (o:=o) (S:=S);exact⟨K,T,Cf,⟨h3,by rw[h5];exact ho.2⟩,λy Y=>⟨(h4 y Y).ct,WS hi hs ho.2 (h6 y Y)⟩,lT⟩
theorem vf{d G A bI Ι E:Int}{c:B0}(hs:0<=d/\d<G)(B:G<=12)(hi:QJ G A):∀{os:List hy} {S:Ρ},Oc d c (dg S) S->dg S+cl os<=2000->(∀o∈os,V4 G o) ->
  Oc d c (dg (xs (B8 d A bI Ι E) os S).2.2) (xs (B8 d A bI Ι E) os S).2.2/\dg (xs (B8 d A bI Ι E) os S).2.2+cl (xs (B8 d A bI Ι E) os S).2.1<=dg S+cl os/\dg S<=dg (xs (B8 d A bI Ι E) os S).2.2/\(∀o∈(xs (B8 d A bI Ι E) os S).2.1,V4 G o)/\(∀y∈(xs (B8 d A bI Ι E) os S).1,Ty G y)/\(xs (B8 d A bI Ι E) os S).1.length<=os.length
 | [],S,hS,_,_=>⟨hS,an _,an _,λo h=>hD h aG,λy h=>hD h aG,an _⟩
 | o::os,S,hS,hk,ho=>by
  have e2:∀(a:hy) (l:List hy),cl (a::l)=dW a+cl l:=by grind [cl]
  rw[e2] at hk;obtain⟨M,a2,a3,a4,a5,a6⟩:=Lv (bI:=bI) (Ι:=Ι) (E:=E) (S:=S) hs B hi hS D (ho o aA);obtain⟨b1,b2,b3,b4,b5,b6⟩:=vf (bI:=bI) (Ι:=Ι) (E:=E) hs B hi (os:=os) M D λx O=>ho x (az _ O);simp only[xs];refine⟨b1,by rw[e2,e2];omega,D,λx O=>?_,λy Y=>?_,?_⟩
  .rcases Nj O with rfl|O
   .exact a4
   .exact b4 x O
  .rcases J8 Y with Y|Y
   .exact a5 y Y
   .exact b5 y Y
  .rw[ay,aK];omega
theorem vQ{d:Int}{gs W:List Int}{ct:G3}{y:eU}(h:y∈ck d gs W ct):y.ct=ct/\y.to∈gs/\¬y.to∈W:=by
 grind [ck]
theorem FD{π:B0}{d G E A:Int}{N:υ}{S:Ρ}{x:K6}(hs:0<=d/\d<G)(a2:G<=12)(h:Qh π d G N S)(O:ζ N.Φ A=some x) :
  ((cD d A x E).2.Z=x.Z/\(cD d A x E).2.iM=x.iM/\(cD d A x E).2.C6=x.C6/\((d∈x.I8\/x.dec=true)->d∈(cD d A x E).2.I8\/(cD d A x E).2.dec=true))/\(∀m∈(cD d A x E).1,Rl d 7 m/\Q9 G m/\cost d m=0)/\(cD d A x E).1.length<=100:=by
 have hw:=h.OP.ex _ (bQ O);have hi:QJ G A:=hw.A;have hI:=hi.i64 a2;have a3:=hw.ok.gl;have h3:vi 3:=by unfold vi;omega
 have h0:vi 0:=by unfold vi;omega
 have M:∀(W:List Int) (t:Bool),∀m∈ck d x.iM W (C9 3 A 0 t),Rl d 7 m/\Q9 G m/\cost d m=0:=λW t m hm=>by
  have hX:=pj (show(1:Int)<=3 by decide) hi hs hw.gv (λl h=>hD h aG) (aC _) m hm;obtain⟨q1,q2,q3⟩:=vQ hm;refine⟨⟨by rw[q1];exact jw h3 hI h0,by decide,λ_=>by rw[q1];show(7:Int)<=3+7;decide⟩,hX,?_⟩;unfold cost;rw[q1];split<;>rfl
 have B:∀(W:List Int) (ct:G3),(ck d x.iM W ct).length<=100:=by grind [kU]
 unfold cD;split
 .grind
 .rename_i hd;split
  .exact⟨⟨rfl,rfl,rfl,λ_=>.inr rfl⟩,M _ _,B _ _⟩
  .refine⟨⟨rfl,rfl,rfl,λq=>q⟩,λm hm=>?_,B _ _⟩;have hX:=pj (show(1:Int)<=1 by decide) hi hs hw.gv hw.ts hw.am m hm;obtain⟨q1,q2,q3⟩:=vQ hm;refine⟨⟨by rw[q1];exact⟨by grind [vi],hw.ok.Z,hw.ok.lg,aC _,aj⟩,by decide,aj⟩,hX,?_⟩;unfold cost;split
   .rename_i e;rw[e] at q2 q3;exact hD (h.sv A x O q2) aj
   .rfl
def HM{π:B0}{d G E A:Int}{N:υ}{S:Ρ}{b:Nat}(hs:0<=d/\d<G)(B:G<=12)(h:Qh π d G N S)(hb:dg S+F0 N<=b)(M:b<=2000):Rm π d G N b 330000 (Nh d E A N S):=by
 unfold Nh;cases O:ζ N.Φ A with
 | none=>exact Rm.same h hb
 | some x =>
  have a2:=(h.OP.ex _ (bQ O)).ok.gl;obtain⟨⟨e1,e2,e3,e4⟩,U,hn⟩:=FD (E:=E) hs B h O;dsimp only;have r:=Hu (E:=E) (b:=b) hs M (λm hm=>(U m hm).1) (λm hm=>(U m hm).2.1) (h.hin.J1 (A:=A) (x:=(cD d A x E).2) (by rw[e2];exact a2)) (h.OP.J1 O e1 e2 e3) (λk=>vI ((h.sv k).J1 O e2 e4)) (by rw[kf λm hm=>(U m hm).2.2];exact hb);exact⟨r.nd,r.bd,r.Q,aO r.len (bR _ hn),r.μ⟩
theorem MA{π:B0}{d G E A:Int}{N:υ}{S:Ρ}{b:Nat}(hs:0<=d/\d<G)(B:G<=12)(h:Qh π d G N S)(hb:dg S+F0 N<=b)(b0:b<=2000):Rm π d G N b 100 (K8 d E A N S):=by
 unfold K8;cases O:ζ N.Β A with
 | none=>exact Rm.same h hb
 | some p =>
  have hw:=h.OP.pt _ (bQ O);have hp:=h.hin.pts _ (bQ O);have a9:=lA (bQ O);dsimp only at a9 ⊢;split
  .obtain⟨M,a2,a3,a4,a5,a6⟩:=vf (bI:=p.state) (Ι:=p.Ι) (E:=E) hs B (A:=A) hw.A (os:=p.Z) h.hin.K1 D λo ho=>⟨hp.ow o ho,hw.ts o ho⟩;have h3:=px (B8 d A p.state p.Ι E) p.Z S;have a7:=hp.Z;dsimp only at a7 a6;have h5:=rz (q:=⟨p.state,p.Ι,(xs (B8 d A p.state p.Ι E) p.Z S).2.1⟩) h.hin.nd O;refine⟨⟨h.hin.K7 M a3 ⟨aj,λo ho=>(a4 o ho).1⟩,h.OP.K7 ⟨hw.A,λo ho=>(a4 o ho).2⟩ _,λk=>(h.sv k).of rfl⟩,?_,a5,aj,rfl⟩;grind
  .exact Rm.same h hb
theorem MC{π:B0}{d G E A:Int}{N:υ}{S:Ρ}{b:Nat}(hs:0<=d/\d<G)(B:G<=12)(h:Qh π d G N S)(hb:dg S+F0 N<=b)(M:b<=2000):Rm π d G N b 330100 (Qi d E A N S):=by
 have K:=HM (E:=E) (A:=A) hs B h hb M;have T:=MA (E:=E) (A:=A) hs B K.nd K.bd M;have l1:=K.len;have l2:=T.len;unfold Qi;refine⟨T.nd,T.bd,λy Y=>?_,aj,T.μ.trans K.μ⟩;rcases J8 Y with Y|Y
 .exact K.Q y Y
 .exact T.Q y Y
def tA{π:B0}{d G E:Int}{b:Nat}(hs:0<=d/\d<G)(B:G<=12)(M:b<=2000):∀(gR:List Int) (N:υ) (S:Ρ),Qh π d G N S->dg S+F0 N<=b->Rm π d G N b (gR.length*330100) (bS (Qi d E) gR N S)
 | [],N,S,h,hb=>Rm.same h hb
 | A::gR,N,S,h,hb=>by
  have K:=MC (E:=E) (A:=A) hs B h hb M;have T:=tA (E:=E) hs B M gR _ _ K.nd K.bd;have l1:=K.len;have l2:=T.len;simp only[bS];refine⟨T.nd,T.bd,λy Y=>?_,by rw[ay,aK,dY];omega,T.μ.trans K.μ⟩;rcases J8 Y with Y|Y
  .exact K.Q y Y
  .exact T.Q y Y
theorem Qh.WT{π:B0}{d G:Int}{N:υ}{S:Ρ}(h:Qh π d G N S)(M:G<=12):N.Φ.length<=768/\N.Β.length<=768:=by
 have K:=yT h.OP.nb λA B=>by
  obtain⟨p,hp,rfl⟩:=H9 B;exact(h.OP.ex p hp).A
 have T:=yT h.OP.np λA B=>by
  obtain⟨p,hp,rfl⟩:=H9 B;exact(h.OP.pt p hp).A
 grind
def lq{π:B0}{d G E:Int}{N:υ}{S:Ρ}{b:Nat}(hs:0<=d/\d<G)(B:G<=12)(h:Qh π d G N S)(hb:dg S+F0 N<=b)(M:b<=2000):Rm π d G N b 600000000 (dv d E N S):=by
 have r:=tA (E:=E) hs B M (ed N) N S h hb;have K:=pM N;have T:=h.WT B;exact⟨r.nd,r.bd,r.Q,aO r.len D,r.μ⟩
end
section
open Go.V
attribute [local irreducible] Α GO GP δ ms GF GE Ev Ef C0 F CB GB V.Enters bJ L9
def ri{L:Η}(nb lb:Nat)(d G:Int)(hs:0<=d/\d<G)(a3:G<=12)(n0:G0)(S0:Ρ)(π:B0)(hA:Qh π d G n0.m S0)(h6:dg S0+F0 n0.m<=2000)(E:Int) :
  Τ Θ 41 #[av nb,J E] (eu nb lb d G n0 (aU lb S0::L)) (lS nb lb d G (dv d E n0.m S0) L):=by
 have h4:=hA.WT a3;have j3:n0.m.Φ.length=n0.Φ.length:=al _;have k4:n0.m.Β.length=n0.Β.length:=al _;have k0:=pM n0.m;unfold dv;refine Τ.bd ?_;refine Nd ?_;intros;refine GO.ca (ux nb lb d G n0 D D) ?_;rintro _ _⟨O2,O3,rfl,rfl⟩;generalize ed n0.m=ks at *;have hF:=λi=>tA (E:=E) (b:=2000) hs a3 (an _) (ks.take i) n0.m S0 hA h6;refine Nd ?_;intros;refine Α.loop (α:=Nat×G0×OA×Nat×List OD) (λg=>g.1<=ks.length/\g.2.1.m=(bS (Qi d E) (ks.take g.1) n0.m S0).2.1/\g.2.2.2.2.map (·.m)=(bS (Qi d E) (ks.take g.1) n0.m S0).1) (λg=>[(0,av nb),(1,J E),(5,ah g.2.2.1 g.2.2.2.2.length g.2.2.2.1),(14,ah O2 ks.length O3),(15,J (ks.length:Int)),(16,J (g.1:Int))]) (λg=>Ω bq 3 B1 g.2.2.1 g.2.2.2.1 g.2.2.2.2::Ψ gM g.2.2.2.2::Ω (dJ .i64) 1 B7 O2 O3 ks::eu nb lb d G g.2.1 (aU lb (bS (Qi d E) (ks.take g.1) n0.m S0).2.2::L)) (λg=>ks.length - g.1) (0,n0,none,0,[]) ⟨aC _,by rw[bj];rfl,by rw[bj];rfl⟩ aD ?_ ?_
 .dsimp only;rw[bj];refine(F.c8 bq 3 B1).trans ((F.a8 gM).trans ?_);simp only[eu,gL,bS];exact ak
 rintro⟨i,n,Oo,Oq,Q⟩ ⟨hi,hn,c0⟩;dsimp only at hi hn c0 ⊢;have d4:=hF i
 have k3:Q.length<=600000000:=by
  have e1:=congrArg List.length c0;have e2:=d4.len;rw[al] at e1;rw[aP] at e2;have e3:=bR 330100 (D:min i ks.length<=1536);omega
 by_cases h8:i<ks.length
 case neg =>
  have d2:ks.take i=ks:=aM D;rw[d2] at hn c0 ⊢;refine Nd ?_;intros;refine KX.a8 aF ?_ ⟨Oo,Oq,Q,n,rfl,c0,hn,rfl⟩;simp only[eu,gL];exact ak
 have h5:(i:Int).toNat=i:=D;have M:=pU (Qi d E) ks n0.m S0 h8;generalize bS (Qi d E) (ks.take i) n0.m S0=iL at *;have c4:Qh π d G n.m iL.2.2:=by rw[hn];exact d4.nd
 have h3:dg iL.2.2+F0 n.m<=2000:=by rw[hn];exact d4.bd
 rw[<-hn] at M;generalize hS1:iL.2.2=S1 at *;generalize hkk:ks[i]! = k at *;have d5:Qi d E k n.m S1=((Nh d E k n.m S1).1++(K8 d E k (Nh d E k n.m S1).2.1 (Nh d E k n.m S1).2.2).1,(K8 d E k (Nh d E k n.m S1).2.1 (Nh d E k n.m S1).2.2).2.1,(K8 d E k (Nh d E k n.m S1).2.1 (Nh d E k n.m S1).2.2).2.2):=rfl;rw[d5] at M;dsimp only at M;have hU:=HM (E:=E) (A:=k) hs a3 c4 h3 (an _);simp only[eu,gL];refine Α.c8 (eO (b:=n.mb)) λf6=>?_;repeat first|refine Α.sm 5 ?_|refine dA ?_|intro
 rw[h5,hkk];refine Α.c7 (α:=G0×OA×Nat×List OD) (λg=>g.1.m=(Nh d E k n.m S1).2.1/\g.2.2.2.map (·.m)=Q.map (·.m)++(Nh d E k n.m S1).1) (λg=>[(0,av nb),(1,J E),(5,ah g.2.1 g.2.2.2.length g.2.2.1),(7,J k),(14,ah O2 ks.length O3),(15,J (ks.length:Int)),(16,J (i:Int))]) (λg=>Ω bq 3 B1 g.2.1 g.2.2.1 g.2.2.2::Ψ gM g.2.2.2::Ω (dJ .i64) 1 B7 O2 O3 ks::eu nb lb d G g.1 (aU lb (Nh d E k n.m S1).2.2::L)) ?_ ?_
 .cases hg:List.lookup k n.Φ with
  | none =>
   have hu:Nh d E k n.m S1=([],n.m,S1):=by
    unfold Nh;rw[fW,hg];rfl
   rw[hu];refine Nd ?_;intros;refine GO.ev (Ev.a8 rfl rfl) ae ?_;rw[hg];dsimp only[Option.map,Option.getD,Option.isSome];refine Nd ?_;intros;refine⟨(n,Oo,Oq,Q),⟨rfl,(aI _).symm⟩,aD,?_⟩;simp only[eu,gL];exact ak
  | some x =>
   have U:ζ n.m.Φ k=some x.m:=by rw[fW,hg];rfl
   have hw:=c4.OP.ex _ (bQ U);have c5:QJ G k:=hw.A;have hI:vi k:=c5.i64 a3;obtain⟨⟨e1,e2,e3,e4⟩,hm,b3⟩:=FD (E:=E) hs a3 c4 U
   have hu:Nh d E k n.m S1=L9 d E (cD d k x.m E).1 { n.m with Φ:=cZ n.m.Φ k (cD d k x.m E).2 } S1:=by
    unfold Nh;rw[U]
   have hin:=c4.hin.J1 (A:=k) (x:=(cD d k x.m E).2) (by rw[e2];exact hw.ok.gl);have i6:=hU.len;refine Α.cL (F.at (Ο:=ey I4 n.Φ) (qY f6 hg)) ?_;simp only[OJ,NW];refine Nd ?_;intros;refine GO.ev (Ev.a8 rfl rfl) ae ?_;rw[hg];dsimp only[Option.map,Option.getD,Option.isSome,cy];refine Nd ?_;intros;refine GO.cL (Γ:=obj nb C4 (gL lb d G n.μ n.U n.mb n.mp n.mr)::OJ x (ey I4 (I1 n.Φ k)::cS gm cy n.mb n.Φ::cS gm cC n.mp n.Β::ey H6 n.Β::cS D5 bL n.mr (J6 n.sh)::aU lb S1::Ω bq 3 B1 Oo Oq Q::Ψ gM Q::Ω (dJ .i64) 1 B7 O2 O3 ks::L)) (by simp only[gL,OJ,NW];exact ak) ?_;refine GO.ca (FC nb lb d G n.μ n.U n.mb n.mp n.mr k hI x hw.ok E) ?_;rintro _ _⟨g5,c3,us,y,rfl,i8,g2,rfl⟩;have e7:us.map (·.m)=(cD d k x.m E).1:=congrArg (·.1) g2;have e8:y.m=(cD d k x.m E).2:=congrArg (·.2) g2;let n1:G0:={ n with Φ:=cZ n.Φ k y }
   have f4:n1.m={ n.m with Φ:=cZ n.m.Φ k (cD d k x.m E).2 }:=by
    rw[<-e8];exact rE n k y
   rw[<-f4] at hin hu;rw[<-e7] at hm b3 hu;rw[al] at b3;have i5:F0 n1.m=F0 n.m:=by rw[f4];rfl
   have hz:gx d (us.map (·.m))=0:=kf λm d6=>(hm m d6).2.2;rw[hu] at i6 ⊢;refine Nd ?_;intros;refine GO.cL (Γ:=Ω bq 3 B1 g5 c3 us::Ψ gM us::eu nb lb d G n1 (aU lb S1::(Ω bq 3 B1 Oo Oq Q::Ψ gM Q::Ω (dJ .i64) 1 B7 O2 O3 ks::L))) ?_ ?_
   .refine F.trans ?_ (F.c7 (F.c7 (kB f6 hg y i8)));simp only[OJ,gL];exact ak
   refine GO.ca (nC nb lb d G n1 S1 π 2000 (an _) E g5 c3 us (λm d6=>(hm _ (PB d6)).1) hin D D D) ?_;rintro _ _⟨j0,g7,ds,n2,rfl,f2,b6,rfl⟩
   have j4:ds.length<=330000:=by
    have e:=congrArg List.length f2;rw[al] at e;omega
   simp only[eu,gL];refine Nd ?_;intros;refine GO.ef (Ef.c9 (Ε:=bq) (ys:=ds) rfl rfl rfl rfl rfl (λe _=>eA e) D D) ae ?_;rintro _ _⟨b8,a9,rfl,rfl⟩;refine Nd ?_;intros;refine⟨(n2,b8,a9,Q++ds),⟨b6,by rw[aQ,f2]⟩,aD,?_⟩;refine(F.at (Ο:=Ψ gM ds) (F.refl _)).trans ?_;refine(F.at (Ο:=Ψ gM Q) (F.refl _)).trans ?_;refine(F.c9 (f:=gM) fq).trans ?_;simp only[eu,gL];exact ak
 rintro⟨n2,b1,B,b4⟩ ⟨b6,a6⟩;dsimp only at b6 a6 ⊢
 have i0:b4.length<=600330000:=by
  have e1:=congrArg List.length a6;have e2:=hU.len;rw[al,ay,al] at e1;omega
 generalize Nh d E k n.m S1=A9 at *;have d3:Qh π d G n2.m A9.2.2:=by rw[b6];exact hU.nd
 have j2:dg A9.2.2+F0 n2.m<=2000:=by rw[b6];exact hU.bd
 rw[<-b6] at M;generalize hS2:A9.2.2=S2 at *;rw[c0] at a6;simp only[eu,gL];refine Α.c8 (eO (b:=n2.mp)) λd0=>?_;cases hg:List.lookup k n2.Β with
 | none =>
  have hp:K8 d E k n2.m S2=([],n2.m,S2):=by
   unfold K8;rw[fK,hg];rfl
  rw[hp] at M;refine Nd ?_;intros;refine GO.ev (Ev.a8 rfl rfl) ae ?_;rw[hg];dsimp only[Option.map,Option.getD,Option.isSome];refine Nd ?_;intros;refine⟨(i+1,n2,b1,B,b4),⟨by dsimp only;omega,by rw[M],by rw[M];dsimp only;rw[aI];exact a6⟩,by dsimp only;omega,?_,?_⟩
  .dsimp only;rw[bC i];exact aD
  .rw[M];simp only[eu,gL];exact ak
 | some p =>
  have U:ζ n2.m.Β k=some p.m:=by rw[fK,hg];rfl
  have hw:=d3.OP.pt _ (bQ U);have c5:QJ G k:=hw.A;have f0:vi k:=c5.i64 a3;have d1:=d3.hin.pts _ (bQ U);have i4:=lA (bQ U);dsimp only at d1 i4 hw;refine Α.cL (F.at (Ο:=ey H6 n2.Β) (nr d0 hg)) ?_;have b5:=jp (nb:=nb) (lb:=lb) (d:=d) (G:=G) (L:=aU lb S2::L) d0 hg p rfl;rw[iQ hg d0] at b5;simp only[eu,gL,Pe,OE] at b5 ⊢;by_cases c1:p.state=1\/p.state=2
  case neg =>
   have K:¬p.state=1:=λq=>c1 (.inl q);have T:¬p.state=2:=λq=>c1 (.inr q)
   have hp:K8 d E k n2.m S2=([],n2.m,S2):=by
    unfold K8;rw[U];exact Ν c1
   rw[hp] at M;refine Nd ?_;intros;refine GO.ev (Ev.a8 rfl rfl) ae ?_;rw[hg];dsimp only[Option.map,Option.getD,Option.isSome,cC];refine Nd ?_;intros;refine⟨(i+1,n2,b1,B,b4),⟨by dsimp only;omega,by rw[M],by rw[M];dsimp only;rw[aI];exact a6⟩,by dsimp only;omega,?_,?_⟩
   .dsimp only;rw[bC i];exact aD
   .rw[M];dsimp only;refine F.trans ?_ (F.c7 (F.c7 (F.c7 b5)));exact ak
  have hp:K8 d E k n2.m S2=((xs (B8 d k p.state p.Ι E) p.m.Z S2).1,{ n2.m with Β:=cZ n2.m.Β k ⟨p.state,p.Ι,(xs (B8 d k p.state p.Ι E) p.m.Z S2).2.1⟩ },(xs (B8 d k p.state p.Ι E) p.m.Z S2).2.2):=by
   unfold K8;rw[U];exact Χ c1
  rw[hp] at M;refine Nd ?_;intros;refine GO.ev (Ev.a8 rfl rfl) ae ?_;rw[hg];dsimp only[Option.map,Option.getD,Option.isSome,cC];repeat first|refine Α.sm 9 ?_|refine dA ?_|intro
  refine Α.c7 (α:=Unit) (λ_=>True) (λ_=>[(0,av nb),(1,J E),(5,ah b1 b4.length B),(7,J k),(10,.pointer (some ⟨p.b,0,none⟩)),(14,ah O2 ks.length O3),(15,J (ks.length:Int)),(16,J (i:Int))]) (λ_=>obj p.b Oe [J p.state,J p.Ι,ah p.bG p.Z.length p.hx]::Ω dz 8 N6 p.bG p.hx p.Z::Ψ I9 p.Z::Ω bq 3 B1 b1 B b4::Ψ gM b4::aU lb S2::obj nb C4 [av lb,J d,J G,J n2.μ,J n2.U,.map (some n2.mb),.map (some n2.mp),.map (some n2.mr)]::Ω (dJ .i64) 1 B7 O2 O3 ks::ey H6 (I1 n2.Β k)::cS gm cy n2.mb n2.Φ::ey I4 n2.Φ::cS gm cC n2.mp n2.Β::cS D5 bL n2.mr (J6 n2.sh)::L) ?_ ?_
  .rcases c1 with K|K
   .refine Nd ?_;intros;exact⟨(),trivial,aD,by exact ak⟩
   .have T:¬p.state=1:=D;refine Nd ?_;intros;exact⟨(),trivial,aD,by exact ak⟩
  rintro _ _;have i3:p.m.Z.length=p.Z.length:=al _;have j1:=d1.Z;have e6:=λj=>vf (bI:=p.state) (Ι:=p.Ι) (E:=E) hs a3 c5 (os:=p.m.Z.take j) (S:=S2) (c:=π) d3.hin.K1 (by have:=jZ p.m.Z j;omega) (λo ho=>⟨d1.ow o (cp ho),hw.ts o (cp ho)⟩);refine Nd ?_;intros;refine Α.loop (α:=Nat×List E9×OA×Nat×List OD) (λg=>∃mm,RD (B8 d k p.state p.Ι E) p.m.Z S2 g.1 g.2.1 mm/\g.2.2.2.2.map (·.m)=b4.map (·.m)++mm) (λg=>[(0,av nb),(1,J E),(5,ah g.2.2.1 g.2.2.2.2.length g.2.2.2.1),(7,J k),(10,.pointer (some ⟨p.b,0,none⟩)),(14,ah O2 ks.length O3),(15,J (ks.length:Int)),(16,J (i:Int)),(69,J (p.Z.length:Int)),(70,J (g.1:Int))]) (λg=>obj p.b Oe [J p.state,J p.Ι,ah p.bG g.2.1.length p.hx]::Ω dz 8 N6 p.bG p.hx g.2.1::Ψ I9 g.2.1::Ω bq 3 B1 g.2.2.1 g.2.2.2.1 g.2.2.2.2::Ψ gM g.2.2.2.2::aU lb (xs (B8 d k p.state p.Ι E) (p.m.Z.take g.1) S2).2.2::obj nb C4 [av lb,J d,J G,J n2.μ,J n2.U,.map (some n2.mb),.map (some n2.mp),.map (some n2.mr)]::Ω (dJ .i64) 1 B7 O2 O3 ks::ey H6 (I1 n2.Β k)::cS gm cy n2.mb n2.Φ::ey I4 n2.Φ::cS gm cC n2.mp n2.Β::cS D5 bL n2.mr (J6 n2.sh)::L) (λg=>p.Z.length - g.1) (0,p.Z,b1,B,b4) ⟨[],RD.zero,(aI _).symm⟩ aD ?_ ?_
  .dsimp only;rw[bj];simp only[xs];exact ak
  rintro⟨j,ys,b2,a5,b0⟩ ⟨mm,hI,a7⟩;dsimp only at hI a7 ⊢;have k1:=hI.le;have k5:=hI.len;obtain⟨r1,r2,r3,r4,r5,r6⟩:=e6 j
  have i1:b0.length<=600330100:=by
   have e1:=congrArg List.length a7;have e2:=hI.Q;rw[al,ay,al,e2] at e1;rw[aP] at r6;omega
  by_cases h9:j<p.Z.length
  case neg =>
   have d2:p.m.Z.take j=p.m.Z:=aM D;have e5:=hI.ow;have f3:=hI.Q;rw[d2] at e5 f3;rw[d2];rw[bU D,aI] at e5;let n3:G0:={ n2 with Β:=cZ n2.Β k (⟨p.b,p.state,p.Ι,ys,p.bG,p.hx⟩:J5) }
   have i2:n3.m={ n2.m with Β:=cZ n2.m.Β k ⟨p.state,p.Ι,(xs (B8 d k p.state p.Ι E) p.m.Z S2).2.1⟩ }:=by
    refine(nU n2 k (⟨p.b,p.state,p.Ι,ys,p.bG,p.hx⟩:J5)).trans ?_;rw[<-e5];rfl
   refine Nd ?_;intros;refine⟨(i+1,n3,b2,a5,b0),⟨by dsimp only;omega,by rw[M];exact i2,?_⟩,by dsimp only;omega,?_,?_⟩
   .dsimp only;rw[M,a7,a6,f3,aH]
   .dsimp only;rw[bC i];exact aD
   .rw[M];dsimp only;refine F.trans ?_ (F.c7 (F.c7 (F.c7 (jp d0 hg (⟨p.b,p.state,p.Ι,ys,p.bG,p.hx⟩:J5) rfl))));simp only[Pe,OE,gL];exact ak
  have a2:j<p.m.Z.length:=D;have b9:(j:Int).toNat=j:=D;have f1:=hI.at a2;have e0:ys[j]!∈ys:=bA D;have g1:Rk ys[j]!.m:=by rw[f1];exact d1.ow _ (bA a2)
  have a4:=qB (B8 d k p.state p.Ι E) p.m.Z S2 a2;generalize hR:xs (B8 d k p.state p.Ι E) (p.m.Z.take j) S2=R at *
  have e1:cl (p.m.Z.take (j+1))=cl (p.m.Z.take j)+dW p.m.Z[j]!:=by
   unfold cl;rw[aB a2,aQ,dG,D7 a2];simp only[aq,bz,aS,List.sum_nil,dx]
  have e2:=jZ p.m.Z (j+1);have g0:∀{o' : E9} {m2:List eU},m2=(B8 d k p.state p.Ι E ys[j]!.m R.2.2).1->o'.m=(B8 d k p.state p.Ι E ys[j]!.m R.2.2).2.1->RD (B8 d k p.state p.Ι E) p.m.Z S2 (j+1) (ys.set j o') (mm++m2):=λK T=>hI.next a2 (by rw[hR];exact K) (by rw[hR];exact T);have c6:∀{m2:List eU},m2=(B8 d k p.state p.Ι E ys[j]!.m R.2.2).1->ys[j]!.m=(B8 d k p.state p.Ι E ys[j]!.m R.2.2).2.1->RD (B8 d k p.state p.Ι E) p.m.Z S2 (j+1) ys (mm++m2):=λK T=>hI.keep a2 (by rw[hR];exact K) (by rw[hR];exact T);rw[<-f1] at a4 e1;refine Α.c8 (pI (ad:=p.bG) (I:=ys) D) λe9=>?_;by_cases h0:ys[j]!.state=0
  .have c2:B8 d k p.state p.Ι E ys[j]!.m R.2.2=bV d k p.state p.Ι E ys[j]!.m R.2.2:=Ν (D:¬ys[j]!.state=1)
   have h7:ys[j]!.state=0->dg R.2.2+ys[j]!.Υ.m.am.length<=2000:=λq=>by
    have e3:dW ys[j]!.m=ys[j]!.Υ.m.am.length:=Χ q;omega
   rw[c2] at a4 g0;refine Nd ?_;intros;rw[b9];refine Nd ?_;intros;rw[b9];refine GO.cL (Γ:=obj nb C4 (gL lb d G n2.μ n2.U n2.mb n2.mp n2.mr)::obj p.b Oe (OE ⟨p.b,p.state,p.Ι,ys,p.bG,p.hx⟩)::Ω dz 8 N6 p.bG p.hx ys::Ψ I9 ys::aU lb R.2.2::(Ω bq 3 B1 b2 a5 b0::Ψ gM b0::Ω (dJ .i64) 1 B7 O2 O3 ks::ey H6 (I1 n2.Β k)::cS gm cy n2.mb n2.Φ::ey I4 n2.Φ::cS gm cC n2.mp n2.Β::cS D5 bL n2.mr (J6 n2.sh)::L)) (by simp only[gL,OE];exact ak) ?_;refine GO.ca (mZ nb lb d G n2.μ n2.U n2.mb n2.mp n2.mr π _ R.2.2 r1 k f0 p.b p.state p.Ι p.bG p.hx e9 ys j D g1 E h7) ?_;rintro _ _⟨i9,g6,b7,o2,rfl,g4,rfl⟩;have g3:b7.map (·.m)=(bV d k p.state p.Ι E ys[j]!.m R.2.2).1:=congrArg (·.1) g4;have i7:o2.m=(bV d k p.state p.Ι E ys[j]!.m R.2.2).2.1:=congrArg (·.2.1) g4
   have k2:b7.length<=1:=by
    have K:=congrArg List.length g3;rw[al] at K;rw[K];exact lT
   simp only[gL,OE];refine Nd ?_;intros;refine GO.ef (Ef.c9 (Ε:=bq) (ys:=b7) rfl rfl rfl rfl rfl (λe _=>eA e) D D) ae ?_;rintro _ _⟨b8,a9,rfl,rfl⟩;refine Nd ?_;intros;refine⟨(j+1,ys.set j o2,b8,a9,b0++b7),⟨mm++b7.map (·.m),g0 g3 i7,by rw[aQ,a7,aH]⟩,by dsimp only;omega,?_,?_⟩
   .dsimp only;rw[bC j];exact aD
   .dsimp only;rw[a4,bT];dsimp only;refine(F.at (Ο:=Ψ gM b7) (F.refl _)).trans ?_;refine(F.at (Ο:=Ψ gM b0) (F.refl _)).trans ?_;refine(F.c9 (f:=gM) fq).trans ?_;exact ak
  by_cases K:ys[j]!.state=1
  .have c2:B8 d k p.state p.Ι E ys[j]!.m R.2.2=([fF d k ys[j]!.m],ys[j]!.m,R.2.2):=Χ (show ys[j]!.m.state=1 from K);rw[c2] at a4 c6;refine Nd ?_;intros;rw[b9];refine Nd ?_;intros;rw[b9];refine GO.cL (F.at (Ο:=Ψ I9 ys) (F.d8 (f:=I9) e0)) ?_;refine GO.cL (Γ:=obj nb C4 (gL lb d G n2.μ n2.U n2.mb n2.mp n2.mr)::I9 ys[j]!::(obj p.b Oe [J p.state,J p.Ι,ah p.bG ys.length p.hx]::Ω dz 8 N6 p.bG p.hx ys::Ψ I9 ys::aU lb R.2.2::Ω bq 3 B1 b2 a5 b0::Ψ gM b0::Ω (dJ .i64) 1 B7 O2 O3 ks::ey H6 (I1 n2.Β k)::cS gm cy n2.mb n2.Φ::ey I4 n2.Φ::cS gm cC n2.mp n2.Β::cS D5 bL n2.mr (J6 n2.sh)::L)) (by simp only[gL];exact ak) ?_;refine GO.ca (qe nb lb d G n2.μ n2.U n2.mb n2.mp n2.mr k f0 p.bG e9 ys j D ys[j]! rfl g1) ?_;rintro _ _⟨x,rfl,O,rfl⟩;simp only[gL];refine Nd ?_;intros;refine GO.ef (Ef.a8 (Ε:=bq) (e:=x) rfl rfl rfl rfl rfl bh (eA _) D D) ae ?_;rintro _ _⟨b8,a9,rfl,rfl⟩;refine Nd ?_;intros;refine⟨(j+1,ys,b8,a9,b0++[x]),⟨mm++[fF d k ys[j]!.m],c6 rfl rfl,by rw[aQ,a7,aH,aq,bz,O]⟩,by dsimp only;omega,?_,?_⟩
   .dsimp only;rw[bC j];exact aD
   .dsimp only;rw[a4];dsimp only;refine(F.at (Ο:=gM x) (F.d7 (f:=gM) fq)).trans ?_;refine(F.at (Ο:=Ψ gM [x]) (F.refl _)).trans ?_;refine(F.at (Ο:=Ψ gM b0) (F.refl _)).trans ?_;refine(F.c9 (f:=gM) fq).trans ?_;exact ak
  have c2:B8 d k p.state p.Ι E ys[j]!.m R.2.2=([],ys[j]!.m,R.2.2):=by
   unfold B8;rw[Ν (show ¬ys[j]!.m.state=1 from K),jU h0]
  rw[c2] at a4 c6;refine Nd ?_;intros;rw[b9];refine Nd ?_;intros;refine⟨(j+1,ys,b2,a5,b0),⟨mm++[],c6 rfl rfl,by rw[aI];exact a7⟩,by dsimp only;omega,?_,?_⟩
  .dsimp only;rw[bC j];exact aD
  .dsimp only;rw[a4];exact ak
