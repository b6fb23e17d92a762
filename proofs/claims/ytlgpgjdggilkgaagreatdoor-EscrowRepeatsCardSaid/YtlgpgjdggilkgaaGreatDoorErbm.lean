/- Lemmas. -/
import Derived.Test.YtlgpgjdggilkgaaGreatDoorErbl
set_option linter.all false
namespace Go.Proofs.YtlgpgjdggilkgaaGreatDoor
section
open Go.V
def LJ(Q F:Int):Prop:=(0<=F / 4294967296/\F / 4294967296<Q)/\F % 4294967296<64
def LJ.i64{Q F:Int}(h:LJ Q F)(hs:Q<=12):id F:=by
 obtain⟨⟨J,U⟩,h3⟩:=h;unfold id;omega
theorem vD{Q:Int}{l:List Int}(hn:l.Nodup)(h:∀F∈l,LJ Q F):l.length<=64*Q.toNat:=by
 have J:=nD (m:=(List.range (64*Q.toNat)).map λ (k:Nat)=>((k / 64:Nat):Int)*4294967296+((k % 64:Nat):Int)) hn λF r=>by
  obtain⟨⟨q1,q2⟩,q3⟩:=h F r;have q4:0<=F % 4294967296:=B;refine List.mem_map.2 ⟨(F / 4294967296).toNat*64+(F % 4294967296).toNat,List.mem_range.2 B,?_⟩;omega
 grind
def M4(Q:Int)(l:G7):Prop:=0<=l.ts/\l.ts<Q
structure L3 (Q:Int) (y:xs):Prop where
 kd:1<=y.ct.Κ
 F:LJ Q y.ct.F
 ts:∀l∈y.ct.Η,M4 Q l
 am:Kh y.ct.Η<=12
 Ψ:0<=y.Ψ/\y.Ψ<Q
 to:0<=y.to/\y.to<Q
structure T3 (Q F:Int) (x:J7):Prop where
 ok:Rj x
 F:LJ Q F
 ts:∀l∈x.Η,M4 Q l
 am:Kh x.Η<=12
 gv:∀g∈x.B3,0<=g/\g<Q
structure Sl (Q F:Int) (p:Lb):Prop where
 F:LJ Q F
 ts:∀o∈p.Η,M4 Q o.bB/\o.bB.am.length<=12
structure LK (d Q:Int) (N:eu):Prop where
 ω:0<=N.ω
 nb:(N.δ.map (·.1)).Nodup
 np:(N.Ζ.map (·.1)).Nodup
 ex:∀p∈N.δ,T3 Q p.1 p.2
 pt:∀p∈N.Ζ,Sl Q p.1 p.2
 fr:∀p∈N.δ,p.1<d*4294967296+N.ω
structure HX (d Q:Int) (N:eu) (Θ:Ja):Prop where
 nd:LK d Q Θ.2.1
 T:∀y∈Θ.1,L3 Q y
 ω:Θ.2.1.ω=N.ω
theorem HX.same{d Q:Int}{N:eu}{S:Χ}(h:LK d Q N):HX d Q N ([],N,S):=⟨h,ay,rfl⟩
def LK.Kd{d Q F:Int}{N:eu}(h:LK d Q N){x y:J7}(hg:dV N.δ F=some x)(J:y.Η=x.Η)(U:y.B3=x.B3)(h3:y.Ev=x.Ev):LK d Q { N with δ:=fc N.δ F y }:=by
 have K:=h.ex _ (bT hg);refine⟨h.ω,gY h.nb,h.np,λp hp=>?_,h.pt,λp hp=>?_⟩
 .rcases iV hp with rfl|hp
  .refine⟨⟨?_,?_,?_,?_,?_⟩,K.F,?_,?_,?_⟩
   .rw[J];exact K.ok.Η
   .rw[J];exact K.ok.lg
   .rw[U];exact K.ok.gl
   .rw[U];exact K.ok.gv
   .rw[h3];exact K.ok.un
   .rw[J];exact K.ts
   .rw[J];exact K.am
   .rw[U];exact K.gv
  .exact h.ex p hp
 .rcases iV hp with rfl|hp
  .have q:=h.fr _ (bT hg);exact q
  .exact h.fr p hp
def LK.Ky{d Q F:Int}{N:eu}(h:LK d Q N){p:Lb}(hp:Sl Q F p)(k:Int):LK d Q { N with hl:=k,Ζ:=fc N.Ζ F p } :=
 ⟨h.ω,h.nb,gY h.np,h.ex,λq hq=>by
  rcases iV hq with rfl|hq
  .exact hp
  .exact h.pt q hq,h.fr⟩
theorem Om{d Q to Κ F eZ:Int}{yes:Bool}(h0:1<=Κ)(J:LJ Q F)(U:0<=d/\d<Q)(h3:0<=to/\to<Q):L3 Q ⟨d,to,E3 Κ F eZ yes⟩ :=
 ⟨h0,J,λl h=>iW h aD,aC _,U,h3⟩
theorem nh{d Q:Int}{gs W:List Int}{ct:IF}(h0:1<=ct.Κ)(J:LJ Q ct.F)(U:0<=d/\d<Q)(h3:∀g∈gs,0<=g/\g<Q)(h4:∀l∈ct.Η,M4 Q l)(h5:Kh ct.Η<=12):∀y∈cJ d gs W ct,L3 Q y:=λy Z=>by
 unfold cJ at Z;obtain⟨g,hg,rfl⟩:=IY Z;exact⟨h0,J,h4,h5,U,ay⟩
theorem sO{d F cB Φ G:Int}{o:B0}{S:Χ}:(dE d F cB Φ G o S).2.1.bB=o.bB/\∀y∈(dE d F cB Φ G o S).1,y.Ψ=d/\y.to=o.bB.ts/\y.ct.F=F/\y.ct.Η=[o.bB]/\y.ct.Κ=5:=by
 by_cases h0:o.state=0
 .by_cases hB:cB=1/\o.bB.ts≠d
  .rw[jA h0 hB];split
   .refine⟨rfl,λy Z=>?_⟩;obtain rfl:=D6 Z;exact⟨rfl,rfl,rfl,rfl,rfl⟩
   grind
  .obtain⟨to,ht⟩:∃to,to=if cB=2 then o.bB.fr else o.bB.to:=⟨_,rfl⟩;rw[io h0 hB ht];grind
 grind [ja]
theorem Ro{d Q F:Int}{o:B0}{y:xs}(hi:LJ Q F)(hs:0<=d/\d<Q)(ho:M4 Q o.bB/\o.bB.am.length<=12)(h:y.Ψ=d/\y.to=o.bB.ts/\y.ct.F=F/\y.ct.Η=[o.bB]/\y.ct.Κ=5):L3 Q y:=by
 obtain⟨J,U,h3,h4,h5⟩:=h;refine⟨B,ay,λl hl=>?_,?_,B,by rw[U];exact ho.1⟩
 .grind
 .rw[h4];show o.bB.am.length+0<=12;exact ho.2
theorem zf{d Q F cB Φ G:Int}(hi:LJ Q F)(hs:0<=d/\d<Q):∀{os:List B0} {S:Χ},(∀o∈os,M4 Q o.bB/\o.bB.am.length<=12)->(∀o∈(cm d F cB Φ G os S).2.1,M4 Q o.bB/\o.bB.am.length<=12)/\∀y∈(cm d F cB Φ G os S).1,L3 Q y
 | [],S,_=>⟨λo h=>iW h aD,λy h=>iW h aD⟩
 | o::os,S,ho=>by
  obtain⟨J,U⟩:=sO (d:=d) (F:=F) (cB:=cB) (Φ:=Φ) (G:=G) (o:=o) (S:=S);obtain⟨h3,h4⟩:=zf (cB:=cB) (Φ:=Φ) (G:=G) hi hs (os:=os) (S:=(dE d F cB Φ G o S).2.2) ay;grind [cm,Ro]
def CU{d Q:Int}:∀{k:Int} {ls:List G7},(∀l∈ls,M4 Q l/\l.am.length<=12)->∀o∈II d k ls,M4 Q o.bB/\o.bB.am.length<=12
 | _,[],_,o,h=>iW h aD
 | k,l::ls,hl,o,h=>by
  have ih:=CU (d:=d) (k:=k+1) (ls:=ls) (λx K=>hl x (aB _ K)) o;have e1:II d k (l::ls)=if l.d=d then⟨l,k,0,[]⟩::II d (k+1) ls else II d (k+1) ls:=rfl;rw[e1] at h;split at h
  .rcases Jr h with rfl|h
   .exact hl l az
   .exact ih h
  .exact ih h
theorem zN{d Q ms G:Int}{m:IF}{N:eu}{S:Χ}(hs:0<=d/\d<Q)(hN:LK d Q N)(hi:LJ Q m.F)(ht:∀l∈m.Η,M4 Q l)(ha:Kh m.Η<=12)(hf:0<=ms/\ms<Q):HX d Q N (bk d ms m G N S):=by
 have r:0<=db m.F/\db m.F<Q:=hi.1;unfold bk;split
 .unfold fQ;cases hl:dV N.Ζ m.F with
  | some p=>exact⟨hN,by grind [Om],rfl⟩
  | none =>
   dsimp only;split
   .refine⟨hN.Ky ⟨hi,CU λl hl=>⟨ht l hl,aQ (sJ hl) ha⟩⟩ _,by grind [Om],rfl⟩
   .exact⟨hN.Ky ⟨hi,ay⟩ _,by grind [Om],rfl⟩
 split
 .unfold dy;cases hl:dV N.δ m.F with
  | none=>exact HX.same hN
  | some x =>
   have K:=hN.ex _ (bT hl);have tl:∀b:Bool,∀y∈cJ d x.B3 [] (E3 3 m.F 0 b),L3 Q y:=λb=>nh (show(1:Int)<=3 by decide) hi hs K.gv (λl h=>iW h aD) (aC _);dsimp only;split
   .exact HX.same hN
   .split
    .exact⟨hN.Kd hl rfl rfl rfl,tl _,rfl⟩
    .split
     .exact⟨hN.Kd hl rfl rfl rfl,ay,rfl⟩
     .exact⟨hN.Kd hl rfl rfl rfl,tl _,rfl⟩
 split
 .unfold dX;cases hl:dV N.Ζ m.F with
  | none=>exact⟨hN.Ky ⟨hi,ay⟩ _,by grind [Om],rfl⟩
  | some p =>
   have hp:=hN.pt _ (bT hl);dsimp only;split
   .obtain⟨w1,w2⟩:=zf (cB:=if m.yes=true then 1 else 2) (Φ:=p.Φ) (G:=G) hi hs (os:=p.Η) (S:=S) hp.ts;refine⟨hN.Ky ⟨hi,w1⟩ _,λy Z=>?_,rfl⟩;grind [Om]
   .exact⟨hN,by grind [Om],rfl⟩
 split
 .unfold iy eu.Kd;cases hl:dV N.δ m.F with
  | none=>exact HX.same hN
  | some x=>exact⟨hN.Kd hl rfl rfl rfl,ay,rfl⟩
 split
 .unfold dO;split
  .exact⟨hN,by grind [Om],rfl⟩
  .split
   .split
    .exact⟨⟨hN.ω,hN.nb,hN.np,hN.ex,hN.pt,hN.fr⟩,by grind [Om],rfl⟩
    .exact HX.same hN
   .exact HX.same hN
 split
 .unfold Mb eu.Ky;cases hl:dV N.Ζ m.F with
  | none=>exact HX.same hN
  | some p =>
   have hp:=hN.pt _ (bT hl);refine⟨hN.Ky ⟨hi,λo ho=>?_⟩ _,ay,rfl⟩;obtain⟨q,hq,rfl⟩:=IY ho;have I:=hp.ts q hq;grind [je]
 exact HX.same hN
def wx{d Q:Int}{f:xs->eu->Χ->Ja}(hf:∀m N S,L3 Q m->LK d Q N->HX d Q N (f m N S)):∀(l:List xs) (N:eu) (S:Χ),(∀m∈l,L3 Q m)->LK d Q N->HX d Q N (bQ f l N S)
 | [],N,S,_,hN=>HX.same hN
 | m::l,N,S,hP,hN=>by
  have J:=hf m N S (hP m az) hN;have U:=wx hf l _ (f m N S).2.2 (λx K=>hP x (aB _ K)) J.nd;simp only[bQ];refine⟨U.nd,λy Z=>?_,U.ω.trans J.ω⟩;rcases It Z with Z|Z
  .exact J.T y Z
  .exact U.T y Z
def zw{d Q G:Int}(hs:0<=d/\d<Q):∀(Ξ:Nat) (m:xs) (N:eu) (S:Χ),L3 Q m->LK d Q N->HX d Q N (bF d G Ξ m N S)
 | 0,m,N,S,_,hN=>HX.same hN
 | Ξ+1,m,N,S,hm,hN=>by
  unfold bF;by_cases ht:m.to=d
  .rw[Ω (λq=>q ht)];have J:=zN (G:=G) (S:=S) hs hN hm.F hm.ts hm.am hm.Ψ;have U:=wx (f:=bF d G Ξ) (λy N' S' Z r=>zw (G:=G) hs Ξ y N' S' Z r) _ _ (bk d m.Ψ m.ct G N S).2.2 J.T J.nd;exact⟨U.nd,U.T,U.ω.trans J.ω⟩
  .rw[μ ht];refine⟨hN,λy Z=>?_,rfl⟩;obtain rfl:=D6 Z;exact hm
def DQ{d Q G:Int}{l:List xs}{N:eu}{S:Χ}(hs:0<=d/\d<Q)(hl:∀m∈l,L3 Q m)(hN:LK d Q N):HX d Q N (Ix d G l N S):=wx (λm N' S' hm r=>zw hs 7 m N' S' hm r) l N S hl hN
def Gj{d Q G:Int}{x:xs}{N:eu}{S:Χ}(hs:0<=d/\d<Q)(K:L3 Q x)(hN:LK d Q N):HX d Q N (cS d Q x G N S):=by
 unfold cS;split
 .have J:=zN (G:=G) (S:=S) hs hN K.F K.ts K.am K.Ψ;have U:=DQ (G:=G) (S:=(bk d x.Ψ x.ct G N S).2.2) hs J.T J.nd;exact⟨U.nd,U.T,U.ω.trans J.ω⟩
 .exact HX.same hN
def Kn(d:Int)(N:eu)(F:Int):Prop:=∀x,dV N.δ F=some x->d∈x.B3->d∈x.G5\/x.dec=true
def Kn.Kd{d F k:Int}{N:eu}{x y:J7}(h:Kn d N k)(hg:dV N.δ F=some x)(U:y.B3=x.B3)(h4:(d∈x.G5\/x.dec=true)->d∈y.G5\/y.dec=true):Kn d { N with δ:=fc N.δ F y } k:=λz hz hm=>by
 have r:dV (fc N.δ F y) k=some z:=hz;rw[dg] at r;split at r
 .rename_i q;subst q;obtain rfl:y=z:=by simpa using r
  rw[U] at hm;exact h4 (h x hg hm)
 .exact h z r hm
def Kn.of{d k:Int}{N N' : eu}(h:Kn d N k)(e:N'.δ=N.δ):Kn d N' k:=by
 unfold Kn;rw[e];exact h
theorem Fy{l:List Int}{a b:Int}(h:b∈l):b∈Ji l a:=by
 grind [Ji]
theorem Eg{l:List Int}{a:Int}:a∈Ji l a:=by
 grind [Ji]
theorem pU(d G:Int)(m:IF)(N:eu)(S:Χ):∃b N' S',fQ d m G N S=([⟨d,db m.F,E3 2 m.F 0 b⟩],N',S')/\N'.δ=N.δ:=by
 unfold fQ;cases dV N.Ζ m.F with
 | some p=>grind
 | none =>
  dsimp only;split
  .grind
  grind
theorem wh{d ms G k:Int}{m:IF}{N:eu}{S:Χ}(h:Kn d N k):Kn d (bk d ms m G N S).2.1 k:=by
 unfold bk;split
 .obtain⟨b,N',S',e,q⟩:=pU d G m N S;rw[e];exact h.of q
 split
 .unfold dy;cases hl:dV N.δ m.F with
  | none=>exact h
  | some x =>
   dsimp only;split
   .exact h
   .split
    .exact h.Kd hl rfl λ_=>.inr rfl
    .split
     .exact h.Kd hl rfl λq=>q.imp Fy fun a=>a
     .exact h.Kd hl rfl λ_=>.inr rfl
 split
 .unfold dX;cases hl:dV N.Ζ m.F with
  | none=>exact h.of rfl
  | some p =>
   dsimp only;split
   .exact h.of rfl
   .exact h
 split
 .unfold iy eu.Kd;cases hl:dV N.δ m.F with
  | none=>exact h
  | some x=>exact h.Kd hl rfl λq=>q
 split
 .unfold dO;split
  .exact h
  .split
   .split
    .exact h.of rfl
    .exact h
   .exact h
 split
 .unfold Mb eu.Ky;cases hl:dV N.Ζ m.F with
  | none=>exact h
  | some p=>exact h.of rfl
 exact h
theorem mW{α:Type}{d k:Int}{f:α->eu->Χ->Ja}(hf:∀m N S,Kn d N k->Kn d (f m N S).2.1 k):∀(l:List α) (N:eu) (S:Χ),Kn d N k->Kn d (bQ f l N S).2.1 k
 | [],N,S,h=>h
 | m::l,N,S,h=>mW hf l (f m N S).2.1 (f m N S).2.2 (hf m N S h)
theorem ny{d G k:Int}:∀(Ξ:Nat) (m:xs) (N:eu) (S:Χ),Kn d N k->Kn d (bF d G Ξ m N S).2.1 k
 | 0,m,N,S,h=>h
 | Ξ+1,m,N,S,h=>by
  unfold bF;split
  .exact h
  .exact mW (λy N' S' h'=>ny Ξ y N' S' h') _ _ _ (wh h)
theorem sE{d G k:Int}{l:List xs}{N:eu}{S:Χ}(h:Kn d N k):Kn d (Ix d G l N S).2.1 k:=mW (λy N' S' h'=>ny 7 y N' S' h') l N S h
theorem EF{d Q G k:Int}{x:xs}{N:eu}{S:Χ}(h:Kn d N k):Kn d (cS d Q x G N S).2.1 k:=by
 grind [cS,sE,wh]
theorem Ag{d G F:Int}{b:Bool}{N:eu}{S:Χ}{x:J7}(K:dV N.δ F=some x):Kn d (dy d d (E3 2 F 0 b) G N S).2.1 F:=by
 have hg:∀y:J7,(d∈y.G5\/y.dec=true)->Kn d { N with δ:=fc N.δ F y } F:=λy Z z hz _=>by
  have r:dV (fc N.δ F y) F=some z:=hz;rw[dg,μ rfl] at r;obtain rfl:y=z:=by simpa using r
  exact Z
 unfold dy;rw[show(E3 2 F 0 b).F=F from rfl,K];dsimp only;split
 .rename_i hd;intro z hz _;grind
 .split
  .exact hg _ (.inr rfl)
  .split
   .exact hg _ (.inl Eg)
   .exact hg _ (.inr rfl)
theorem CR{d G F:Int}{ls:List G7}{N:eu}{S:Χ}{x:J7}(r:db F=d)(K:dV N.δ F=some x):Kn d (bF d G 7 ⟨d,d,⟨1,F,0,false,ls,[]⟩⟩ N S).2.1 F:=by
 obtain⟨b,N',S',e,q⟩:=pU d G ⟨1,F,0,false,ls,[]⟩ N S
 have J:bk d d ⟨1,F,0,false,ls,[]⟩ G N S=([⟨d,d,E3 2 F 0 b⟩],N',S'):=by
  unfold bk;rw[μ rfl,e,show db (⟨1,F,0,false,ls,[]⟩:IF).F=d from r]
 have U:bF d G 7 ⟨d,d,⟨1,F,0,false,ls,[]⟩⟩ N S=bQ (bF d G 6) (bk d d ⟨1,F,0,false,ls,[]⟩ G N S).1 (bk d d ⟨1,F,0,false,ls,[]⟩ G N S).2.1 (bk d d ⟨1,F,0,false,ls,[]⟩ G N S).2.2:=by
  rw[bF];exact ay
 have h3:bF d G 6 ⟨d,d,E3 2 F 0 b⟩ N' S' = bQ (bF d G 5) (bk d d (E3 2 F 0 b) G N' S').1 (bk d d (E3 2 F 0 b) G N' S').2.1 (bk d d (E3 2 F 0 b) G N' S').2.2:=by
  rw[bF];exact ay
 have h4:bk d d (E3 2 F 0 b) G N' S' = dy d d (E3 2 F 0 b) G N' S':=by
  unfold bk;rw[Ω (by grind [E3]),μ (show(E3 2 F 0 b).Κ=2 from rfl)]
 rw[U,J];show Kn d (bF d G 6 ⟨d,d,E3 2 F 0 b⟩ N' S').2.1 F;grind [mW,ny,Ag]
def jS{d G:Int}{m:xs}{N:eu}{S:Χ}(h:m.to≠d)(Ξ:Nat):bF d G (Ξ+1) m N S=([m],N,S):=by
 rw[bF];exact μ h
theorem tz{d G F:Int}{ls:List G7}{x:J7}(r:db F=d):∀(gs:List Int) (N:eu) (S:Χ),dV N.δ F=some x->d∈gs->Kn d (bQ (bF d G 7) (gs.map λg=>(⟨d,g,⟨1,F,0,false,ls,[]⟩⟩:xs)) N S).2.1 F
 | [],N,S,_,h=>ay
 | g::gs,N,S,K,h=>by
  rw[aF];by_cases e:g=d
  .grind [bQ,mW,ny,CR]
  .have hm:=jS (G:=G) (m:=⟨d,g,⟨1,F,0,false,ls,[]⟩⟩) (N:=N) (S:=S) e 6;have:=tz (G:=G) (ls:=ls) (x:=x) r gs N S K ay
   grind [bQ]
structure Lf (ζ:D4) (d Q:Int) (N:eu) (S:Χ):Prop where
 hin:IU ζ d N S
 KA:LK d Q N
 sv:∀k,Kn d N k
structure NA (Q:Int) (y:xs):Prop where
 ct:Kp y.ct
 x:L3 Q y
structure Md (ζ:D4) (d Q:Int) (N:eu) (b n:Nat) (Θ:Ja):Prop where
 nd:Lf ζ d Q Θ.2.1 Θ.2.2
 bd:gm Θ.2.2+E9 Θ.2.1<=b
 T:∀y∈Θ.1,NA Q y
 len:Θ.1.length<=n
 ω:Θ.2.1.ω=N.ω
theorem Md.same{ζ:D4}{d Q:Int}{N:eu}{S:Χ}{b n:Nat}(h:Lf ζ d Q N S)(hb:gm S+E9 N<=b):Md ζ d Q N b n ([],N,S):=⟨h,hb,ay,aC _,rfl⟩
def DR{ζ:D4}{d Q G:Int}{l:List xs}{N:eu}{S:Χ}{b:Nat}(hs:0<=d/\d<Q)(r:b<=2000)(hP:∀y∈l,Mc d 7 y)(hX:∀y∈l,L3 Q y)(hin:IU ζ d N S)(hw:LK d Q N)(hv:∀k,Kn d (Ix d G l N S).2.1 k)(hb:gm S+E9 N+fD d l<=b):Md ζ d Q N b (l.length*3300) (Ix d G l N S):=by
 obtain⟨J,U,h3,h4⟩:=lJ (G:=G) (Ξ:=7) l N S b r hP hin hb;have h5:=DQ (G:=G) (S:=S) hs hX hw;have h6:=jK (f:=λm:xs=>Ld m.ct.Κ) (C:=3300) (l:=l) λm _=>pi _;exact⟨⟨J,h5.nd,hv⟩,U,λy Z=>⟨(h3 y Z).ct,h5.T y Z⟩,aQ h4 h6,h5.ω⟩
theorem ly{ζ:D4}{d Q G:Int}{x:xs}{N:eu}{S:Χ}{b:Nat}(hs:0<=d/\d<Q)(h:Lf ζ d Q N S)(K:NA Q x)(hb:gm S+E9 N<=b)(r:b+24<=2000):Md ζ d Q N (b+24) 3300 (cS d Q x G N S):=by
 have ha:=K.x.am;have I:=K.x.kd;have hX:=Gj (G:=G) (S:=S) hs K.x h.KA;have hV:=λk=>EF (Q:=Q) (G:=G) (x:=x) (S:=S) (h.sv k);unfold cS at hX hV ⊢;split
 .rename_i hc;rw[μ hc] at hX hV;obtain⟨⟨J,U,h3⟩,h4,_⟩:=uR (Ψ:=x.Ψ) (G:=G) h.hin K.ct B B;have hz:=ji (d:=d) (l:=(bk d x.Ψ x.ct G N S).1) ay;obtain⟨p1,p2,p3,_⟩:=lJ (G:=G) (Ξ:=7) _ _ _ (b+24) r (λy Z=>(J y Z).1) U B;exact⟨⟨p1,hX.nd,hV⟩,p2,λy Z=>⟨(p3 y Z).ct,hX.T y Z⟩,h4,hX.ω⟩
 .exact Md.same h B
def vS{Q n:Int}{ls:List G7}(h:jc Q n ls):∀l∈ls,M4 Q l:=λl hl=>(h.2 l hl).ts
def Ft{d c:Int}(h:0<=c/\c<64):db (d*4294967296+c)=d:=by
 unfold db;omega
theorem qO{ζ:D4}{d Q G Ev:Int}{ls:List G7}{N:eu}{S:Χ}{b:Nat}(hs:0<=d/\d<Q)(r:Q<=12)(h:Lf ζ d Q N S)(hc:N.ω<64)(hi:S.ζ.B5.length<=64)(ha:Kh ls<=12)(ht:0<=G)(hb:gm S+E9 N<=b)(a9:b+24<=2000) :
  (fg d Q ls G Ev N S).2=([],N,S)/\(fg d Q ls G Ev N S).1.2≠0 \/
  ((fg d Q ls G Ev N S).1=(d*4294967296+N.ω,0)/\Md ζ d Q { N with ω:=N.ω+1 } (b+24) 400000 (fg d Q ls G Ev N S).2):=by
 have a7:0<=(S.ζ.B5.length:Int)/\(S.ζ.B5.length:Int)<=64:=B;have b0:=h.KA.ω;unfold fg;split
 .grind
 .rename_i J;have b3 : ¬Ev>1099511627776:=B;have U:jc Q S.ζ.B5.length ls:=ay;split
  .grind
  .rename_i h3;refine .inr ⟨rfl,?_⟩;dsimp only;generalize hid:d*4294967296+N.ω=F;have a4:db F=d:=by rw[<-hid];exact Ft ⟨b0,hc⟩
   have a2:LJ Q F:=⟨by have e:F / 4294967296=d:=a4;rw[e];exact hs,B⟩;have I:=a2.i64 r;have b4:=kB ls Q.toNat;have a6:∀g∈dc ls Q.toNat,0<=g/\g<Q:=by grind [yP]
   have b5:dV N.δ F=none:=by
    cases hg:dV N.δ F with
    | none=>rfl
    | some x=>have:=h.KA.fr _ (bT hg);omega
   have hP:=tD (d:=d) U r a7 I (gs:=dc ls Q.toNat);have hin:=wX (F:=F) (u:=Ev) (ls:=ls) h.hin r;have hX:∀y∈cJ d (dc ls Q.toNat) [] ⟨1,F,0,false,ls,[]⟩,L3 Q y:=nh (co 1) a2 hs a6 (vS U) ha
   have hw:LK d Q { N with ω:=N.ω+1,δ:=fc N.δ F ⟨ls,dc ls Q.toNat,Ev,[],[],false,false⟩ }:=by
    refine⟨ay,gY h.KA.nb,h.KA.np,λp hp=>?_,h.KA.pt,λp hp=>?_⟩
    .rcases iV hp with rfl|hp
     .exact⟨⟨U.1.2,λl hl=>(U.2 l hl).ok r a7,ay,by grind [id],by unfold id;grind⟩,a2,vS U,ha,a6⟩
     .exact h.KA.ex p hp
    .dsimp only;rcases iV hp with rfl|hp
     .omega
     .have:=h.KA.fr p hp;omega
   have a5:fD d (cJ d (dc ls Q.toNat) [] ⟨1,F,0,false,ls,[]⟩)<=24:=by
    have q:=pg (d:=d) (ct:=⟨1,F,0,false,ls,[]⟩) (ob ls Q.toNat);rw[lf];dsimp only at q;omega
   have b1:dV (fc N.δ F (⟨ls,dc ls Q.toNat,Ev,[],[],false,false⟩:J7)) F=some ⟨ls,dc ls Q.toNat,Ev,[],[],false,false⟩:=by rw[dg,μ rfl]
   have hv:∀k,Kn d (Ix d G (cJ d (dc ls Q.toNat) [] ⟨1,F,0,false,ls,[]⟩) { N with ω:=N.ω+1,δ:=fc N.δ F ⟨ls,dc ls Q.toNat,Ev,[],[],false,false⟩ } S).2.1 k:=λk=>by
    by_cases hm:k=F/\d∈dc ls Q.toNat
    .obtain⟨rfl,hm⟩:=hm;rw[lf];exact tz a4 _ _ _ b1 hm
    .refine sE λz hz b2=>?_;have a3:dV (fc N.δ F (⟨ls,dc ls Q.toNat,Ev,[],[],false,false⟩:J7)) k=some z:=hz;rw[dg] at a3;split at a3
     .grind
     .exact h.sv k z a3 b2
   have hl:(cJ d (dc ls Q.toNat) [] ⟨1,F,0,false,ls,[]⟩).length<=12:=aQ (jJ _ _ _ _) B;have hr:=DR (b:=b+24) hs a9 hP hX hin hw hv (by unfold E9 at hb ⊢;grind);exact⟨hr.nd,hr.bd,hr.T,aQ hr.len B,hr.ω⟩
def Is(f:B0->Χ->List xs×B0×Χ):List B0->Χ->List xs×List B0×Χ
 | [],S=>([],[],S)
 | o::os,S=>((f o S).1++(Is f os (f o S).2.2).1,(f o S).2.1::(Is f os (f o S).2.2).2.1,(Is f os (f o S).2.2).2.2)
theorem sX(f:B0->Χ->List xs×B0×Χ)(o:B0):∀(os:List B0) (S:Χ),Is f (os++[o]) S=((Is f os S).1++(f o (Is f os S).2.2).1,(Is f os S).2.1++[(f o (Is f os S).2.2).2.1],(f o (Is f os S).2.2).2.2)
 | [],S=>by grind [Is]
 | p::os,S=>by
  rw[aj];simp only[Is];rw[sX f o os];simp only[ax,aj]
theorem oB(f:B0->Χ->List xs×B0×Χ)(os:List B0)(S:Χ){i:Nat}(h:i<os.length):Is f (os.take (i+1)) S=((Is f (os.take i) S).1++(f os[i]! (Is f (os.take i) S).2.2).1,(Is f (os.take i) S).2.1++[(f os[i]! (Is f (os.take i) S).2.2).2.1],(f os[i]! (Is f (os.take i) S).2.2).2.2):=by
 grind [av,sX]
def nq(f:B0->Χ->List xs×B0×Χ):∀(os:List B0) (S:Χ),(Is f os S).2.1.length=os.length
 | [],S=>rfl
 | o::os,S=>by simp only[Is,aO,nq f os]
structure Mr (f:B0->Χ->List xs×B0×Χ) (os:List B0) (S:Χ) (i:Nat) (ys:List D5) (T:List xs):Prop where
 le:i<=os.length
 len:ys.length=os.length
 ow:ys.map D5.m=(Is f (os.take i) S).2.1++os.drop i
 T:T=(Is f (os.take i) S).1
theorem Mr.at{f:B0->Χ->List xs×B0×Χ}{os:List B0}{S:Χ}{i:Nat}{ys:List D5}{T:List xs}(h:Mr f os S i ys T)(hi:i<os.length):ys[i]!.m=os[i]!:=by
 have hl:=nq f (os.take i) S;rw[aK,cX h.le] at hl;have e:(ys.map D5.m)[i]! = ys[i]!.m:=dY (f:=D5.m) (by rw[h.len];exact hi);rw[<-e,h.ow,C5 ay,dP B,List.getElem_drop,C5 hi];congr 1;omega
def Mr.next{f:B0->Χ->List xs×B0×Χ}{os:List B0}{S:Χ}{i:Nat}{ys:List D5}{T:List xs}(h:Mr f os S i ys T)(hi:i<os.length){o' : D5}{a2:List xs}
  (r:a2=(f ys[i]!.m (Is f (os.take i) S).2.2).1) (I:o'.m=(f ys[i]!.m (Is f (os.take i) S).2.2).2.1):Mr f os S (i+1) (ys.set i o') (T++a2):=by
 have hl:=nq f (os.take i) S;rw[aK,cX h.le] at hl;rw[h.at hi] at r I;refine⟨hi,by rw[bq];exact h.len,?_,?_⟩
 .rw[oB f os S hi,List.map_set,h.ow,eA _ _ B,I,hl,Nat.sub_self,bS hi,fh,ax];rfl
 .rw[oB f os S hi,h.T,r]
theorem Mr.keep{f:B0->Χ->List xs×B0×Χ}{os:List B0}{S:Χ}{i:Nat}{ys:List D5}{T:List xs}(h:Mr f os S i ys T)(hi:i<os.length){r:List xs}
  (I:r=(f ys[i]!.m (Is f (os.take i) S).2.2).1) (a2:ys[i]!.m=(f ys[i]!.m (Is f (os.take i) S).2.2).2.1):Mr f os S (i+1) ys (T++r):=by
 have e:ys.set i ys[i]! = ys:=by
  have hl:=h.len;rw[C5 B];exact List.set_getElem_self B
 have:=h.next hi I a2
 grind
theorem Mr.zero{f:B0->Χ->List xs×B0×Χ}{ys:List D5}{S:Χ}:Mr f (ys.map D5.m) S 0 ys []:=⟨aC _,ay,rfl,rfl⟩
noncomputable def Iz(d F cB Φ G:Int)(o:B0)(S:Χ):List xs×B0×Χ:=if o.state=1 then([gW d F o],o,S) else dE d F cB Φ G o S
noncomputable def JS(d G F:Int)(N:eu)(S:Χ):Ja:=match dV N.δ F with
 | some x=>Ix d G (eH d F x G).1 { N with δ:=fc N.δ F (eH d F x G).2 } S
 | none=>([],N,S)
noncomputable def KV(d G F:Int)(N:eu)(S:Χ):Ja:=match dV N.Ζ F with
 | some p =>
  if p.state=1\/p.state=2 then((Is (Iz d F p.state p.Φ G) p.Η S).1,{ N with Ζ:=fc N.Ζ F ⟨p.state,p.Φ,(Is (Iz d F p.state p.Φ G) p.Η S).2.1⟩ },(Is (Iz d F p.state p.Φ G) p.Η S).2.2)
  else([],N,S)
 | none=>([],N,S)
noncomputable def Ms(d G F:Int)(N:eu)(S:Χ):Ja:=((JS d G F N S).1++(KV d G F (JS d G F N S).2.1 (JS d G F N S).2.2).1,(KV d G F (JS d G F N S).2.1 (JS d G F N S).2.2).2.1,(KV d G F (JS d G F N S).2.1 (JS d G F N S).2.2).2.2)
noncomputable def dK(d G:Int)(N:eu)(S:Χ):Ja:=bQ (Ms d G) (fy N) N S
def QA(Q:Int)(o:B0):Prop:=Ma o/\M4 Q o.bB/\o.bB.am.length<=12
def GX{d Q F cB Φ G:Int}{o:B0}{S:Χ}{c:D4}(hs:0<=d/\d<Q)(r:Q<=12)(hi:LJ Q F)(hS:J6 d c (gm S) S)(hk:gm S+eU o<=2000)(ho:QA Q o) :
  J6 d c (gm (Iz d F cB Φ G o S).2.2) (Iz d F cB Φ G o S).2.2/\gm (Iz d F cB Φ G o S).2.2+eU (Iz d F cB Φ G o S).2.1<=gm S+eU o/\gm S<=gm (Iz d F cB Φ G o S).2.2/\QA Q (Iz d F cB Φ G o S).2.1/\(∀y∈(Iz d F cB Φ G o S).1,NA Q y)/\(Iz d F cB Φ G o S).1.length<=1:=by
 unfold Iz;split
 .refine⟨hS,au _,au _,ho,λy Z=>?_,au _⟩;obtain rfl:=D6 Z;exact⟨lD (hi.i64 r) ho.1,Ro hi hs ho.2 ⟨rfl,rfl,rfl,rfl,rfl⟩⟩
 .obtain⟨J,U⟩:=rT (F:=F) (cB:=cB) (Φ:=Φ) (G:=G) hS hk;obtain⟨h3,h4⟩:=uk (cB:=cB) (Φ:=Φ) (G:=G) hS hk (hi.i64 r) ho.1;obtain⟨h5,h6⟩:=sO (d:=d) (F:=F) (cB:=cB) (Φ:=Φ) (G:=G) (o:=o) (S:=S);exact⟨J,U,ze,⟨h3,by rw[h5];exact ho.2⟩,λy Z=>⟨(h4 y Z).ct,Ro hi hs ho.2 (h6 y Z)⟩,kE⟩
theorem sf{d Q F cB Φ G:Int}{c:D4}(hs:0<=d/\d<Q)(r:Q<=12)(hi:LJ Q F):∀{os:List B0} {S:Χ},J6 d c (gm S) S->gm S+cy os<=2000->(∀o∈os,QA Q o) ->
  J6 d c (gm (Is (Iz d F cB Φ G) os S).2.2) (Is (Iz d F cB Φ G) os S).2.2/\gm (Is (Iz d F cB Φ G) os S).2.2+cy (Is (Iz d F cB Φ G) os S).2.1<=gm S+cy os/\gm S<=gm (Is (Iz d F cB Φ G) os S).2.2/\(∀o∈(Is (Iz d F cB Φ G) os S).2.1,QA Q o)/\(∀y∈(Is (Iz d F cB Φ G) os S).1,NA Q y)/\(Is (Iz d F cB Φ G) os S).1.length<=os.length
 | [],S,hS,_,_=>⟨hS,au _,au _,λo h=>iW h aD,λy h=>iW h aD,au _⟩
 | o::os,S,hS,hk,ho=>by
  have e2:∀(a:B0) (l:List B0),cy (a::l)=eU a+cy l:=by grind [cy]
  rw[e2] at hk;obtain⟨I,a2,a3,a4,a5,a6⟩:=GX (cB:=cB) (Φ:=Φ) (G:=G) (S:=S) hs r hi hS B (ho o az);obtain⟨b1,b2,b3,b4,b5,b6⟩:=sf (cB:=cB) (Φ:=Φ) (G:=G) hs r hi (os:=os) I B λx K=>ho x (aB _ K);simp only[Is];refine⟨b1,by rw[e2,e2];omega,B,λx K=>?_,λy Z=>?_,?_⟩
  .rcases Jr K with rfl|K
   .exact a4
   .exact b4 x K
  .rcases It Z with Z|Z
   .exact a5 y Z
   .exact b5 y Z
  .rw[aq,aO];omega
theorem sP{d:Int}{gs W:List Int}{ct:IF}{y:xs}(h:y∈cJ d gs W ct):y.ct=ct/\y.to∈gs/\¬y.to∈W:=by
 grind [cJ]
theorem Cw{ζ:D4}{d Q G F:Int}{N:eu}{S:Χ}{x:J7}(hs:0<=d/\d<Q)(a2:Q<=12)(h:Lf ζ d Q N S)(K:dV N.δ F=some x) :
  ((eH d F x G).2.Η=x.Η/\(eH d F x G).2.B3=x.B3/\(eH d F x G).2.Ev=x.Ev/\((d∈x.G5\/x.dec=true)->d∈(eH d F x G).2.G5\/(eH d F x G).2.dec=true))/\(∀m∈(eH d F x G).1,Mc d 7 m/\L3 Q m/\cost d m=0)/\(eH d F x G).1.length<=100:=by
 have hw:=h.KA.ex _ (bT K);have hi:LJ Q F:=hw.F;have hI:=hi.i64 a2;have a3:=hw.ok.gl;have h3:id 3:=by unfold id;omega
 have h0:id 0:=by unfold id;omega
 have I:∀(W:List Int) (t:Bool),∀m∈cJ d x.B3 W (E3 3 F 0 t),Mc d 7 m/\L3 Q m/\cost d m=0:=λW t m hm=>by
  have hX:=nh (show(1:Int)<=3 by decide) hi hs hw.gv (λl h=>iW h aD) (aC _) m hm;obtain⟨q1,q2,q3⟩:=sP hm;refine⟨⟨by rw[q1];exact iH h3 hI h0,by decide,λ_=>by rw[q1];show(7:Int)<=3+7;decide⟩,hX,?_⟩;unfold cost;rw[q1];split<;>rfl
 have r:∀(W:List Int) (ct:IF),(cJ d x.B3 W ct).length<=100:=by grind [jJ]
 unfold eH;split
 .grind
 .rename_i hd;split
  .exact⟨⟨rfl,rfl,rfl,λ_=>.inr rfl⟩,I _ _,r _ _⟩
  .refine⟨⟨rfl,rfl,rfl,λq=>q⟩,λm hm=>?_,r _ _⟩;have hX:=nh (show(1:Int)<=1 by decide) hi hs hw.gv hw.ts hw.am m hm;obtain⟨q1,q2,q3⟩:=sP hm;refine⟨⟨by rw[q1];exact⟨by grind [id],hw.ok.Η,hw.ok.lg,aC _,ay⟩,by decide,ay⟩,hX,?_⟩;unfold cost;split
   .rename_i e;rw[e] at q2 q3;exact iW (h.sv F x K q2) ay
   .rfl
def Ed{ζ:D4}{d Q G F:Int}{N:eu}{S:Χ}{b:Nat}(hs:0<=d/\d<Q)(r:Q<=12)(h:Lf ζ d Q N S)(hb:gm S+E9 N<=b)(I:b<=2000):Md ζ d Q N b 330000 (JS d G F N S):=by
 unfold JS;cases K:dV N.δ F with
 | none=>exact Md.same h hb
 | some x =>
  have a2:=(h.KA.ex _ (bT K)).ok.gl;obtain⟨⟨e1,e2,e3,e4⟩,hl,hn⟩:=Cw (G:=G) hs r h K;dsimp only;have Θ:=DR (G:=G) (b:=b) hs I (λm hm=>(hl m hm).1) (λm hm=>(hl m hm).2.1) (h.hin.Kd (F:=F) (x:=(eH d F x G).2) (by rw[e2];exact a2)) (h.KA.Kd K e1 e2 e3) (λk=>sE ((h.sv k).Kd K e2 e4)) (by rw[ji λm hm=>(hl m hm).2.2];exact hb);exact⟨Θ.nd,Θ.bd,Θ.T,aQ Θ.len (bK _ hn),Θ.ω⟩
theorem HG{ζ:D4}{d Q G F:Int}{N:eu}{S:Χ}{b:Nat}(hs:0<=d/\d<Q)(r:Q<=12)(h:Lf ζ d Q N S)(hb:gm S+E9 N<=b)(b0:b<=2000):Md ζ d Q N b 100 (KV d G F N S):=by
 unfold KV;cases K:dV N.Ζ F with
 | none=>exact Md.same h hb
 | some p =>
  have hw:=h.KA.pt _ (bT K);have hp:=h.hin.pts _ (bT K);have a9:=pC (bT K);dsimp only at a9 ⊢;split
  .obtain⟨I,a2,a3,a4,a5,a6⟩:=sf (cB:=p.state) (Φ:=p.Φ) (G:=G) hs r (F:=F) hw.F (os:=p.Η) h.hin.Ik B λo ho=>⟨hp.ow o ho,hw.ts o ho⟩;have h3:=nq (Iz d F p.state p.Φ G) p.Η S;have a7:=hp.Η;dsimp only at a7 a6;have h5:=pA (q:=⟨p.state,p.Φ,(Is (Iz d F p.state p.Φ G) p.Η S).2.1⟩) h.hin.nd K;refine⟨⟨h.hin.Ky I a3 ⟨ay,λo ho=>(a4 o ho).1⟩,h.KA.Ky ⟨hw.F,λo ho=>(a4 o ho).2⟩ _,λk=>(h.sv k).of rfl⟩,?_,a5,ay,rfl⟩;grind
  .exact Md.same h hb
theorem HH{ζ:D4}{d Q G F:Int}{N:eu}{S:Χ}{b:Nat}(hs:0<=d/\d<Q)(r:Q<=12)(h:Lf ζ d Q N S)(hb:gm S+E9 N<=b)(I:b<=2000):Md ζ d Q N b 330100 (Ms d G F N S):=by
 have J:=Ed (G:=G) (F:=F) hs r h hb I;have U:=HG (G:=G) (F:=F) hs r J.nd J.bd I;have l1:=J.len;have l2:=U.len;unfold Ms;refine⟨U.nd,U.bd,λy Z=>?_,ay,U.ω.trans J.ω⟩;rcases It Z with Z|Z
 .exact J.T y Z
 .exact U.T y Z
def qG{ζ:D4}{d Q G:Int}{b:Nat}(hs:0<=d/\d<Q)(r:Q<=12)(I:b<=2000):∀(B9:List Int) (N:eu) (S:Χ),Lf ζ d Q N S->gm S+E9 N<=b->Md ζ d Q N b (B9.length*330100) (bQ (Ms d G) B9 N S)
 | [],N,S,h,hb=>Md.same h hb
 | F::B9,N,S,h,hb=>by
  have J:=HH (G:=G) (F:=F) hs r h hb I;have U:=qG (G:=G) hs r I B9 _ _ J.nd J.bd;have l1:=J.len;have l2:=U.len;simp only[bQ];refine⟨U.nd,U.bd,λy Z=>?_,by rw[aq,aO,dl];omega,U.ω.trans J.ω⟩;rcases It Z with Z|Z
  .exact J.T y Z
  .exact U.T y Z
theorem Lf.QB{ζ:D4}{d Q:Int}{N:eu}{S:Χ}(h:Lf ζ d Q N S)(I:Q<=12):N.δ.length<=768/\N.Ζ.length<=768:=by
 have J:=vD h.KA.nb λF r=>by
  obtain⟨p,hp,rfl⟩:=IY r;exact(h.KA.ex p hp).F
 have U:=vD h.KA.np λF r=>by
  obtain⟨p,hp,rfl⟩:=IY r;exact(h.KA.pt p hp).F
 grind
def lv{ζ:D4}{d Q G:Int}{N:eu}{S:Χ}{b:Nat}(hs:0<=d/\d<Q)(r:Q<=12)(h:Lf ζ d Q N S)(hb:gm S+E9 N<=b)(I:b<=2000):Md ζ d Q N b 600000000 (dK d G N S):=by
 have Θ:=qG (G:=G) hs r I (fy N) N S h hb;have J:=ll N;have U:=h.QB r;exact⟨Θ.nd,Θ.bd,Θ.T,aQ Θ.len B,Θ.ω⟩
