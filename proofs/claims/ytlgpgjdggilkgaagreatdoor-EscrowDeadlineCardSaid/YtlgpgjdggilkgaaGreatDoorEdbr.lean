/- Lemmas. -/
import Derived.Test.YtlgpgjdggilkgaaGreatDoorEdbq
set_option linter.all false
namespace Go.Proofs.YtlgpgjdggilkgaaGreatDoor
section
open Go.V
abbrev NA:Int->Int->Prop:=λ_ _=>False
abbrev UE:Int->Prop:=λ_=>False
def Qt.B{d:Int}{c:B4}{t t' : Int}{S:Τ}(h:Qt d c t S)(ht:t<=t'):Qt d c t' S:=⟨h.rep,h.υ,Int.le_trans h.now ht⟩
def NH.B{d:Int}{c:B4}{t t' : Int}{N:ω}{S:Τ}(h:NH d c t N S)(ht:t<=t'):NH d c t' N S:=⟨h.ld.B ht,h.T,h.pt,h.ap,h.new,h.fin⟩
section
variable {F:Int}{b:Nat}{b0:Int->Int->Int->Int}{R:List Int}{g0:Gh}{B3:Int}{lp:Int->Prop}{C1 C2:Int->Int->Prop}{p q:Nat}{W W' : jA}{i r u:Int}{m:fK}{cR:List fK}{ls:List x4}
theorem C8.time(h:C8 F b b0 R g0 B3 lp C1 C2 p W){t:Int}(I:W.B<=t)(Q:t<=1099511627776):C8 F b b0 R g0 B3 lp C1 C2 p { W with B:=t }:=by
 obtain⟨g,e,hP,hq⟩:=h.ex;refine⟨⟨g,e,⟨hP.MY,hP.len,⟨by have:=hP.B;grind,Q⟩,hP.hb,hP.cv.drop rfl λy U=>U,hP.gr,hP.ag,λj hj=>?_⟩,hq⟩,h.un,λr hF=>⟨by have:=(h.no r hF).1;grind,(h.no r hF).2⟩,h.c1,h.c2⟩;have k:=hP.nd j hj;exact⟨k.np,k.hd.B I,k.T,k.tt,k.S7⟩
theorem C8.lose(h:C8 F b b0 R g0 B3 lp NA NA p W)(hp:W.O.Perm (m::cR)):C8 F b b0 R g0 B3 lp NA NA p { W with O:=cR }:=by
 obtain⟨g,e,hP,hq⟩:=h.ex;refine⟨⟨g,e,hP.perm rfl rfl ah,?_⟩,h.un,h.no,ah,ah⟩;have e2:=ve hp;rw[mP] at e2;have e3:Pp g R F { W with O:=cR }=wS cR+((List.range F.toNat).map λj:Nat=>NP g R (j:Int) (W.nf j)).sum:=rfl;grind [Pp]
theorem C8.again(h:C8 F b b0 R g0 B3 lp NA NA p W)(hm:m∈W.O):C8 F b b0 R g0 B3 lp NA NA (p+2) { W with O:=m::W.O }:=by
 obtain⟨g,e,hP,hq⟩:=h.ex;refine⟨⟨g,e,hP.perm rfl rfl λy U=>?_,?_⟩,h.un,h.no,ah,ah⟩
 .grind
 .have e3:Pp g R F { W with O:=m::W.O }=wS (m::W.O)+((List.range F.toNat).map λj:Nat=>NP g R (j:Int) (W.nf j)).sum:=rfl;grind [Pp,mP,Df,Q0]
theorem C8.begin(h:C8 F b b0 R g0 B3 UE NA NA p W)(hi:0<=i/\i<F)(a4:g0.Β r=none)(A:bX r=i)(a2:ls.length<=4/\∀l∈ls,Rh F l)(a5:ls≠[])(hb:b+48<=1900):∃g1:Gh,(∀j,g1.Β j=if j=r then some ls else g0.Β j)/\C8 F (b+48) b0 (r::R) g1 (if B3<=u then u else B3) UE NA NA (p+16) (W.put i (K6 i W.B (iA F i r ls) (ON (W.nd i).1 F r u ls) (W.nd i).2) W.O):=by
 obtain⟨g,e,hP,hq⟩:=h.ex;have T:=hP.len;have hg:g.Β r=none:=by rw[e];exact a4
 obtain⟨fJ,e',a3⟩:=hP.Ψ (u:=u) hi hg A a2 a5 hb;have a6:=FV (u:=u) hP hi hg A a2
 have hG:∀j,(g.G5 r ls).Β j=if j=r then some ls else g0.Β j:=λj=>by
  show(if j=r then some ls else g.Β j)=_;rw[e]
 refine⟨g.G5 r ls,hG,?_⟩;have J:0<=i/\i<W.D8.length:=D
 have I:C8 F (b+48) b0 (r::R) (g.G5 r ls) (if B3<=u then u else B3) UE NA NA (p+16) (W.put i (iA F i r ls,ON (W.nd i).1 F r u ls,(W.nd i).2) W.O):=by
  refine⟨⟨fJ,e',a3,by rw[xt e'];omega⟩,λj hj k x q=>?_,ah,ah,ah⟩;have hU:∀x:K4,x.C7<=B3->x.C7<=if B3<=u then u else B3:=D;rw[jM J] at q;by_cases z:j=i
  .rw[z,eA] at q;have q:ε (ez (W.nd i).1.Ψ r ⟨ls,bL ls F.toNat,u,[],[],false,false⟩) k=some x:=q;rw[cF] at q;by_cases z2:k=r
   .grind
   .rw[Ο z2,<-hP.nf hi] at q;exact hU x (h.un i hi k x q)
  .rw[fH _ z] at q;exact hU x (h.un j hj k x q)
 have Q:=sW (C8.a8 hi) I (l:=iA F i r ls) (cR:=W.O) fC λy U=>by
  obtain⟨k,_,_,rfl⟩:=iv U;grind
 rw[jL J,oJ] at Q;exact Q
theorem vR{B:Int}{N:ω}{S:Τ}:∀y∈(cU i B N S).1,(y.Ν=i/\y.to≠i)\/y.ct.Ζ=5:=by
 unfold cU;refine nW _ _ _ λr _ N S y U=>?_;rcases J4 U with U|U
 .grind [MX,vL,xL]
 .generalize (MX i B r N S).2.1=N1 at U;generalize (MX i B r N S).2.2=S1 at U;unfold K7 at U;cases hp:ε N1.Γ r with
  | none=>grind
  | some p =>
   rw[hp] at U;dsimp only at U;split at U
   .obtain⟨o,_,rfl,_⟩:=(oF (f:=B9 i r p.state p.Κ B) (λo S=>Hz o S) p.Α S1).O y U;exact .inr rfl
   .cases U
theorem ri(i F:Int)(ls:List x4)(t u:Int)(N:ω)(S:Τ):fO i F ls t u N S=((0,1),[],N,S)\/fO i F ls t u N S=((0,14),[],N,S)\/(jE F S.υ.B7.length ls/\t<=u/\u<=1099511627776/\fO i F ls t u N S=((i*4294967296+N.ν,0),K6 i t (iA F i (i*4294967296+N.ν) ls) (ON N F (i*4294967296+N.ν) u ls) S)):=by
 unfold fO;split
 .exact .inl rfl
 .rename_i I;split
  .grind
  .rename_i h3;exact .inr (.inr ⟨Classical.byContradiction ah,D,D,rfl⟩)
end
structure PB (F:Int) (b:Nat) (b0:Int->Int->Int->Int) (B3:Int) (p:Nat) (ls:List (List x4)) (W:jA):Prop where
 ex:∃g,C8 F b b0 W.h1.reverse g B3 UE NA NA p W/\RS F g.Β W/\ls.length=W.h1.length/\∀j,j<ls.length->g.Β W.h1[j]! = some ls[j]!
 lk:∀y∈W.O,y.to≠y.Ν
 nd:W.h1.Nodup
section
variable {F:Int}{b:Nat}{b0:Int->Int->Int->Int}{B3:Int}{p:Nat}{ls:List (List x4)}{W:jA}{c bW ο an:Nat}{o:Ph}
theorem RS.of{Β:Int->Option (List x4)}{W W' : jA}(h:RS F Β W)(T:(W.D8.length:Int)=F){i:Int}(hi:0<=i/\i<F){Δ:L6}(hc:Δ.2.1.ν=(W.nd i).1.ν){cR:List fK}(hW:W'.D8=(W.put i Δ cR).D8):RS F Β W':=h.put T hi (x:=(Δ.2.1,Δ.2.2)) ah hW
def PB.mono{p' : Nat}(h:PB F b b0 B3 p ls W)(hp:p<=p'):PB F b b0 B3 p' ls W:=by
 obtain⟨g,I,Q⟩:=h.ex;exact⟨⟨g,I.mono hp,Q⟩,h.lk,h.nd⟩
theorem FX{l:List fK}{k:Nat}(h:k<l.length):l.Perm (l[k]!::(l.take k++l.drop (k+1))):=by
 grind [bZ,cL]
def Rh.of{l:x4}{n:Int}(h:TZ F l)(hg:Ut F n l):Rh F l :=
 ⟨LM h hg.fr,hg.d,hg.ts,λp hp=>(h.am p hp).2.2,h.len.2⟩
theorem PB.ZL(h:PB F b b0 B3 p ls W){m:fK}(hm:m∈W.O):1<=W.h1.length:=by
 obtain⟨g,I,_⟩:=h.ex;obtain⟨fJ,e,hP,_⟩:=I.ex;obtain⟨l,q,_⟩:=(hP.ag.O m hm).G5;have hin:=hP.cv.hR _ _ q;grind
theorem PB.out(h:PB F b b0 B3 p ls W){W' : jA}{q:Nat}{i:Int}(hi:0<=i/\i<F){Δ:L6}{cR:List fK}(J:Δ.2.1.ν=(W.nd i).1.ν)(hn:W'.D8=(W.put i Δ cR).D8)(a2:W'.h1=W.h1)(a5:W'.O=cR++Δ.1)(A:∀y∈cR,y∈W.O)(hS:∀g,C8 F b b0 W.h1.reverse g B3 UE NA NA p W->C8 F b b0 W.h1.reverse g B3 UE NA NA q W')(a3:∀y∈Δ.1,(y.Ν=i/\y.to≠i)\/y.ct.Ζ=5):PB F b b0 B3 q ls W':=by
 obtain⟨g,I,Q,h3,h4⟩:=h.ex;have T:=I.MY.1;have a4:=hS g I;refine⟨⟨g,ah,Q.of T hi J hn,ah,ah⟩,λy U=>?_,by rw[a2];exact h.nd⟩;obtain⟨fJ,_,hP,_⟩:=a4.ex;have hT:=hP.ag.O y U;rw[a5] at U;rcases J4 U with U|U
 .exact h.lk y (A y U)
 .rcases a3 y U with⟨q1,q2⟩|q
  .omega
  .obtain⟨⟨l,_,_,_,l4,_⟩,_⟩:=hT.tr q;omega
theorem sM{i B:Int}{x:fK}{N:ω}{S:Τ}:∀y∈(dM i F x B N S).1,y.Ν=i/\y.to≠i:=by
 unfold dM;split
 .exact vL λm hm=>(nV m hm).1
 grind
theorem Hb(h:F1 F c bW ο an W)(ho:T0 F o)(h5:¬o.Ζ=5)(hc:c<64)(a7:bW+24<=2000)(hT:W.B+7<=1099511627776)(hS:PB F b b0 B3 p ls W)(hb:b+48<=1900):(o.Ζ=0/\(Ox F o W).1.2=0/\PB F (b+48) b0 (if B3<=W.B+o.wait then W.B+o.wait else B3) (p+16) (ls++[o.Α.map (·.m)]) (Ox F o W).2)\/(¬(o.Ζ=0/\(Ox F o W).1.2=0)/\PB F b b0 B3 (p+8*W.h1.length) ls (Ox F o W).2):=by
 have hN:=h.at ho.d;have T:=h.len;have c5:=h.B;have c4:=hN.ν;have b6:=hN.a.Ol.ν;have hw:=ho.wait;unfold Ox;split
 .rename_i hk;rcases ri o.d F (o.Α.map (·.m)) W.B (W.B+o.wait) (W.nd o.d).1 (W.nd o.d).2 with e|e|⟨q1,q2,q3,e⟩
  .rw[e];dsimp only;rw[Ο (show ¬(1:Int)=0 by decide)];exact .inr ⟨λq=>D,hS.out (Δ:=([],(W.nd o.d).1,(W.nd o.d).2)) (cR:=W.O) ho.d rfl rfl rfl rfl ah (λg hg=>(SH.same (l:=[]) (C8.a8 ho.d) hg ah).mono D) jw⟩
  .rw[e];dsimp only;rw[Ο (show ¬(14:Int)=0 by decide)];exact .inr ⟨λq=>D,hS.out (Δ:=([],(W.nd o.d).1,(W.nd o.d).2)) (cR:=W.O) ho.d rfl rfl rfl rfl ah (λg hg=>(SH.same (l:=[]) (C8.a8 ho.d) hg ah).mono D) jw⟩
  .have ha:=sX ho.lg ho.len;have hr:=pU (ls:=o.Α.map (·.m)) (B:=W.B) (C7:=W.B+o.wait) ho.d h.MY.2 hN.a D hN.B7 ha h.B.1 hN.bd a7;rw[e] at hr ⊢;dsimp only at hr ⊢;rw[Ω rfl];refine .inl ⟨hk,rfl,?_⟩;obtain⟨g,I,Q,h3,h4⟩:=hS.ex
   have b7:(K6 o.d W.B (iA F o.d (o.d*4294967296+(W.nd o.d).1.ν) (o.Α.map (·.m))) (ON (W.nd o.d).1 F (o.d*4294967296+(W.nd o.d).1.ν) (W.B+o.wait) (o.Α.map (·.m))) (W.nd o.d).2).2.1.ν=(W.nd o.d).1.ν+1:=by
    rcases hr with⟨_,q⟩|⟨_,q⟩
    .omega
    .exact q.ν
   have b9:g.Β (o.d*4294967296+(W.nd o.d).1.ν)=none:=by
    cases hg:g.Β (o.d*4294967296+(W.nd o.d).1.ν) with
    | none=>rfl
    | some l =>
     obtain⟨i,c',⟨r1,r2⟩,r3,r4⟩:=Q _ l hg;have c3:=(h.at r1).ν;grind
   have b8:bX (o.d*4294967296+(W.nd o.d).1.ν)=o.d:=Ag ah
   have c1:(o.Α.map (·.m)).length<=4/\∀l∈o.Α.map (·.m),Rh F l:=by
    refine⟨by rw[ak];exact ho.len,λl b2=>?_⟩;obtain⟨x,M,rfl⟩:=H8 b2;exact Rh.of (ho.lg x M) (q1.2 _ b2)
   obtain⟨g1,eG,b5⟩:=I.begin (u:=W.B+o.wait) ho.d b9 b8 c1 (λz=>by have:=q1.1.1;grind) hb
   have a5:o.d*4294967296+(W.nd o.d).1.ν∉W.h1:=λq=>by
    obtain⟨fJ,e',hP,_⟩:=I.ex;obtain⟨l,Δ⟩:=hP.cv.QX _ (List.mem_reverse.2 q);grind
   refine⟨⟨g1,?_,?_,?_,λj hj=>?_⟩,λy U=>?_,?_⟩
   .rw[List.reverse_append];exact b5.perm rfl rfl (List.Perm.refl _)
   .intro r l q;rw[eG] at q;by_cases z:r=o.d*4294967296+(W.nd o.d).1.ν
    .refine⟨o.d,(W.nd o.d).1.ν,⟨ho.d,z⟩,b6,?_⟩;have e2:(W.put o.d (K6 o.d W.B (iA F o.d (o.d*4294967296+(W.nd o.d).1.ν) (o.Α.map (·.m))) (ON (W.nd o.d).1 F (o.d*4294967296+(W.nd o.d).1.ν) (W.B+o.wait) (o.Α.map (·.m))) (W.nd o.d).2) W.O).nd o.d=_:=jL (i:=o.d) (by have:=ho.d;omega)
     have e3:∀W2:jA,W2.D8=(W.put o.d (K6 o.d W.B (iA F o.d (o.d*4294967296+(W.nd o.d).1.ν) (o.Α.map (·.m))) (ON (W.nd o.d).1 F (o.d*4294967296+(W.nd o.d).1.ν) (W.B+o.wait) (o.Α.map (·.m))) (W.nd o.d).2) W.O).D8->(W.nd o.d).1.ν<(W2.nd o.d).1.ν:=λW2 q=>by
      have e4:W2.nd o.d=(W.put o.d (K6 o.d W.B (iA F o.d (o.d*4294967296+(W.nd o.d).1.ν) (o.Α.map (·.m))) (ON (W.nd o.d).1 F (o.d*4294967296+(W.nd o.d).1.ν) (W.B+o.wait) (o.Α.map (·.m))) (W.nd o.d).2) W.O).nd o.d:=congrArg (λl:List (ω×Τ)=>l[o.d.toNat]!) q;grind
     exact e3 _ rfl
    .rw[Ο z] at q;exact Q.put T ho.d (x:=((K6 o.d W.B (iA F o.d (o.d*4294967296+(W.nd o.d).1.ν) (o.Α.map (·.m))) (ON (W.nd o.d).1 F (o.d*4294967296+(W.nd o.d).1.ν) (W.B+o.wait) (o.Α.map (·.m))) (W.nd o.d).2).2.1,(K6 o.d W.B (iA F o.d (o.d*4294967296+(W.nd o.d).1.ν) (o.Α.map (·.m))) (ON (W.nd o.d).1 F (o.d*4294967296+(W.nd o.d).1.ν) (W.B+o.wait) (o.Α.map (·.m))) (W.nd o.d).2).2.2)) ah rfl r l q
   .grind
   .show g1.Β (W.h1++[_])[j]! = some (ls++[o.Α.map (·.m)])[j]!;rw[aA,bh] at hj;rw[eG];by_cases z:j<ls.length
    .grind
    grind
   .have U:y∈W.O++(K6 o.d W.B (iA F o.d (o.d*4294967296+(W.nd o.d).1.ν) (o.Α.map (·.m))) (ON (W.nd o.d).1 F (o.d*4294967296+(W.nd o.d).1.ν) (W.B+o.wait) (o.Α.map (·.m))) (W.nd o.d).2).1:=U;rcases J4 U with U|U
    .exact hS.lk y U
    .obtain⟨r1,r2⟩:=vL (λm hm=>by obtain⟨k,_,_,rfl⟩:=iv hm;rfl) y U;omega
   .exact List.nodup_append.2 ⟨hS.nd,List.nodup_cons.2 ⟨aH,dp⟩,λa ha c hc e=>a5 (by rw[GO hc] at e;rw[<-e];exact ha)⟩
 rename_i a4;split
 .rename_i c0;have hr:=lm (B:=W.B+o.wait) ho.d h.MY.2 hN.a hN.bd D;have c6:=ho.Tw c0;refine .inr ⟨λq=>a4 q.1,hS.out (Δ:=cU o.d (W.B+o.wait) (W.nd o.d).1 (W.nd o.d).2) (cR:=W.O) ho.d hr.ν rfl rfl rfl ah (λg hg=>?_) vR⟩;have I:=hg.time (t:=W.B+o.wait) D D;have Q:=I.Tw ho.d (late:=False) hN.a.Ol.nb ah
  have h3:((W.h1.reverse).map (aw g F o.d)).sum<=8*W.h1.length:=by
   obtain⟨fJ,e,hP,_⟩:=hg.ex;have hR:PX F g:=λr l q=>hP.gr r l (by rw[e];exact q);have q:=jH (f:=aw g F o.d) (C:=8) (l:=W.h1.reverse) λr _=>ZK hR;rw[List.length_reverse] at q;omega
  exact(Q.mono D).weak ah ah
 by_cases b4:W.O.length=0
 .rw[Ω b4];exact .inr ⟨λq=>a4 q.1,hS.mono D⟩
 .rw[Ο b4]
  have b3:(o.n % W.O.length).toNat<W.O.length:=by
   have:=dA o.n (D:(0:Int)<W.O.length)
   omega
  have a3:=bI b3;have M:=h.O _ a3;have A:=FX b3;have c2:=hS.ZL a3;have b1:=hS.lk _ a3;refine .inr ⟨λq=>a4 q.1,?_⟩;generalize W.O[(o.n % W.O.length).toNat]! = m at *;generalize W.O.take (o.n % W.O.length).toNat++W.O.drop ((o.n % W.O.length).toNat+1)=cR at *;have J:∀y∈cR,y∈W.O:=ah;have a6:=h.at M.x.to;have hr:=oH (B:=W.B) M.x.to a6.a M a6.bd a7;dsimp only;by_cases a9:o.Ζ≠3
  .rw[Ω a9];by_cases a2:o.Ζ≠2/\0<=m.to/\m.to<F
   .rw[Ω a2];exact hS.out (Δ:=dM m.to F m W.B (W.nd m.to).1 (W.nd m.to).2) (cR:=cR) M.x.to hr.ν rfl rfl rfl J (λg hg=>((hg.mono (Nat.le_succ p)).wk A b1).mono (Nat.le_add_right _ _)) λy U=>.inl (sM y U)
   .rw[Ο a2];obtain⟨g,I,Q,h3,h4⟩:=hS.ex;exact⟨⟨g,(I.lose A).mono D,Q.same rfl,h3,h4⟩,λy U=>hS.lk y (J y U),hS.nd⟩
  .rw[Ο a9];have a2:o.Ζ≠2/\0<=m.to/\m.to<F:=⟨D,M.x.to⟩;rw[Ω a2];exact hS.out (Δ:=dM m.to F m W.B (W.nd m.to).1 (W.nd m.to).2) (cR:=W.O) M.x.to hr.ν rfl rfl rfl ah (λg hg=>(C8.wk (hg.again a3) ah b1).mono D) λy U=>.inl (sM y U)
end
end
section
open Go.V
abbrev RG(W:jA):Prop:=∀y∈W.O,y.to≠y.Ν
theorem sF{f:Nat->Int->Nat}{c n:Nat}:∀{R:List Int},(∀r∈R,((List.range n).map λj=>f j r).sum<=c)->((List.range n).map λj=>(R.map (f j)).sum).sum<=c*R.length
 | [],_=>by
  grind [jU]
 | a::R,h=>by
  have ih:=sF (n:=n) (R:=R) λr A=>h r (az _ A);have I:=h a au;have e:((List.range n).map λj=>((a::R).map (f j)).sum)=(List.range n).map λj=>f j a+(R.map (f j)).sum:=ah;rw[e,kI,aL,Nat.mul_add,gc];omega
section
variable {F:Int}{b:Nat}{b0:Int->Int->Int->Int}{R:List Int}{g0:Gh}{B3:Int}{lp:Int->Prop}{C1 C2:Int->Int->Prop}{p q:Nat}{W W' : jA}{i r u:Int}{m:fK}{cR:List fK}{c bW ο an:Nat}
def C8.WL(h:C8 F b b0 R g0 B3 lp C1 C2 p W){O:List fK}(hm:∀y∈W.O,y∈O\/(y.Ν=i/\y.to≠i)\/y.ct.Ζ=5)(T:∀y∈O,y.to≠y.Ν):RG W:=λy U=>by
 obtain⟨g,_,hP,_⟩:=h.ex;have hT:=hP.ag.O y U;rcases hm y U with q|⟨q1,q2⟩|q
 .exact T y q
 .rw[q1];exact q2
 .obtain⟨⟨l,_,_,_,l4,_⟩,_⟩:=hT.tr q;exact Ne.symm l4
def C8.WM(h:C8 F b b0 R g0 B3 lp C1 C2 p W)(hW:F1 F c bW ο an W):F1 F c b ο an W:=by
 obtain⟨g,_,hP,_⟩:=h.ex;exact hW.lower λi hi=>aO (um g R i _ _) (hP.cv.pn i hi)
theorem Db(h:C8 F b b0 R g0 B3 lp C1 C2 p W)(hW:F1 F c b ο an W)(hk:RG W){late:Prop}(A:late->B3<W.B):∀k:Nat,(k:Int)<=F->C8 F b b0 R g0 B3 lp (λj r=>C1 j r\/(late/\j<k)) (λj r=>C2 j r\/j<k) (p+((List.range k).map λj:Nat=>(R.map (aw g0 F (j:Int))).sum).sum) (NX W k)/\RG (NX W k)/\(NX W k).B=W.B/\(NX W k).h1=W.h1
 | 0,_=>⟨h.Sk (λj r hj hc=>by
   rcases hc with hc|⟨_,hc⟩
   .exact h.c1 j r hj hc
   .omega) λj r hj hc=>by
   rcases hc with hc|hc
   .exact h.c2 j r hj hc
   .omega,hk,rfl,rfl⟩
 | k+1,hks=>by
  obtain⟨I,Q,h3,h4⟩:=Db h hW hk A k D;obtain⟨g,_,hP,_⟩:=h.ex;have hb:=hP.hb;have a2:=(rS hW hP.cv D k D).1;have J:0<=(k:Int)/\(k:Int)<F:=D;have h5:=I.Tw J (a2.at J).a.Ol.nb (late:=late) ah;have e:NX W (k+1)=(NX W k).put (k:Int) (cU (k:Int) (NX W k).B ((NX W k).nd k).1 ((NX W k).nd k).2) (NX W k).O:=rfl;rw[e];refine⟨?_,?_,h3,h4⟩
  .rw[df,aQ,dV,List.map_singleton,List.sum_singleton,<-dc];grind
  .refine h5.WL (O:=(NX W k).O) (i:=(k:Int)) (λy U=>?_) Q;rcases J4 U with U|U
   .exact .inl U
   .exact .inr (vR y U)
theorem CV(h:C8 F b b0 R g0 B3 lp C1 C2 p W)(hk:RG W):∀k:Nat,∃p',C8 F b b0 R g0 B3 lp C1 C2 p' (Oa F W k)/\RG (Oa F W k)/\p'<=p/\((Oa F W k).O=[]\/p' + k<=p)/\(Oa F W k).B=W.B/\(Oa F W k).h1=W.h1
 | 0=>⟨p,h,hk,ax _,.inr (ax _),rfl,rfl⟩
 | k+1=>by
  obtain⟨p',I,Q,h3,h4,h5,h6⟩:=CV h hk k;have e:Oa F W (k+1)=Nv F (Oa F W k):=rfl;rw[e];generalize Oa F W k=V at *;unfold Nv;cases hm:V.O with
  | nil=>grind
  | cons m O =>
   have hp:V.O.Perm (m::O):=by rw[hm]
   obtain⟨g,_,hP,hq⟩:=I.ex;obtain⟨hi,hT,_⟩:=hP.room (m:=m) ah;have A:=Q m ah;dsimp only;rw[Ω hi]
   have J:1<=p':=by
    have e2:Pp g R F V=wS V.O+((List.range F.toNat).map λj:Nat=>NP g R (j:Int) (V.nf j)).sum:=rfl;rw[hm,mP] at e2;have:1<=wt m:=by unfold wt;rw[Ο A];unfold Q0;split<;>omega
    omega
   have h7:=C8.wk (q:=p' - 1) (by rw[show p' - 1+1=p' by omega];exact I) hp A;refine⟨p' - 1,h7,?_,D,.inr ?_,h5,h6⟩
   .refine h7.WL (O:=O) (i:=m.to) (λy U=>?_) ah;rcases J4 U with U|U
    .exact .inl U
    .exact .inr (.inl (sM y U))
   grind
def C8.XN(h:C8 F b b0 R g0 B3 lp C1 C2 p W):((List.range F.toNat).map λj:Nat=>(R.map (aw g0 F (j:Int))).sum).sum<=12*R.length:=by
 obtain⟨g,e,hP,_⟩:=h.ex;have hr:=hP.MY;refine sF (f:=λj:Nat=>aw g0 F (j:Int)) λr _=>MH (λr ls q=>hP.gr r ls (by rw[e];exact q)) hr.2 λls q=>(hP.ag.rg r ls (by rw[e];exact q)).1
theorem C8.ZM(h:C8 F b b0 R g0 B3 lp C1 C2 p W)(hm:W.O=[]):C8 F b b0 R g0 B3 lp C1 C2 (12*R.length) W:=by
 obtain⟨g,e,hP,_⟩:=h.ex;refine⟨⟨g,e,hP,?_⟩,h.un,h.no,h.c1,h.c2⟩;have hr:=hP.MY;have e2:Pp g R F W=wS W.O+((List.range F.toNat).map λj:Nat=>NP g R (j:Int) (W.nf j)).sum:=rfl;rw[e2,hm,show wS []=0 from rfl,dv];refine sF (f:=λj:Nat=>NO g (j:Int) (W.nf j)) λr J=>?_;obtain⟨ls,hG⟩:=hP.cv.QX r J;have T:cV g r=ls:=by unfold cV;rw[hG];rfl
 obtain⟨h4,a3⟩:=hP.gr r ls hG;have a4:=(hP.ag.rg r ls hG).1
 have q1:=sO (n:=F.toNat) (f:=λj:Nat=>(if bX r=(j:Int) then 4 else 0)+2*(B6 (j:Int) 0 ls).length) (f':=λj:Nat=>NO g (j:Int) (W.nf j) r) λj hj=>by
  have A:0<=(j:Int)/\(j:Int)<F:=D;unfold NO;refine cH ?_ ?_
  .unfold RF;cases M:ε (W.nf j).Ψ r with
   | none=>exact aD _
   | some x =>
    obtain⟨r1,r2⟩:=hP.ag.bg j A r x M;dsimp only;rw[Ω r1,r2.Ot];grind [Ew]
  .unfold PN;cases M:ε (W.nf j).Γ r with
   | none =>
    grind [ro]
   | some x =>
    have hT:=hP.ag.pt j A r x M;obtain⟨l,r1,_,r3⟩:=hT.G5;dsimp only;refine aO (ro _ _) (Nat.mul_le_mul_left 2 ?_);by_cases z:x.state=3
    .rw[hT.s3 z];exact aD _
    grind [QZ,ak]
 rw[kI,qB] at q1;have q2:=nI (n:=F.toNat) (i:=bX r) (c:=4);have q3:=rC (F:=F) ls 0 λl a2=>(a3 l a2).d;omega
theorem yg(h:C8 F b b0 R g0 B3 lp NA NA p W)(hW:F1 F c b ο an W)(hk:RG W){late:Prop}(A:late->B3<W.B):∃p',C8 F b b0 R g0 B3 lp (λ_ _=>late) (λ_ _=>True) p' (iT F W)/\RG (iT F W)/\((iT F W).O=[]/\p'<=12*R.length\/p' + 400<=p+12*R.length)/\(iT F W).B=W.B/\(iT F W).h1=W.h1:=by
 have hr:=h.MY;obtain⟨I,Q,h3,h4⟩:=Db h hW hk A F.toNat D;have a2:=h.XN;have J:=I.Sk (D1:=λ_ _=>late) (D2:=λ_ _=>True) (λj r hj hc=>I.c1 j r hj (.inr ⟨hc,D⟩)) λj r hj _=>I.c2 j r hj (.inr D);obtain⟨p',q1,q2,q3,q4,q5,q6⟩:=CV J Q 400;have e:iT F W=Oa F (NX W F.toNat) 400:=rfl;rw[e];rcases q4 with q4|q4
 .exact⟨_,q1.ZM q4,q2,.inl ⟨q4,ax _⟩,q5.trans h3,q6.trans h4⟩
 grind
structure NI (F:Int) (W:jA):Prop where
 O:W.O=[]
 bg:∀j:Int,0<=j/\j<F->∀r x,ε (W.nf j).Ψ r=some x->x.dec=true/\∀k∈x.lq,k∈x.told
 pt:∀j:Int,0<=j/\j<F->∀r p,ε (W.nf j).Γ r=some p->p.state≠0/\∀o∈p.Α,o.state=2
theorem C8.closed{late:Prop}(h:C8 F b b0 R g0 B3 lp (λ_ _=>late) (λ_ _=>True) p W)(T:late)(hm:W.O=[]):NI F W:=by
 obtain⟨g,e,hP,_⟩:=h.ex;have a5:∀r k,¬UC W.O r k:=λr k ⟨y,U,_⟩=>by rw[hm] at U;cases U
 have a4:∀r k,¬UD W.O r k:=λr k ⟨y,U,_⟩=>by rw[hm] at U;cases U
 have J:∀j:Int,0<=j/\j<F->∀r x,ε (W.nf j).Ψ r=some x->x.dec=true/\∀k∈x.lq,k∈x.told:=λj hj r x M=>by
  obtain⟨q1,q2⟩:=h.c1 j r hj T x M;grind
 refine⟨hm,J,λj hj r p hp=>?_⟩;have hT:=hP.ag.pt j hj r p hp;obtain⟨ls,r1,r2,_⟩:=hT.G5
 have a2:p.state≠0:=by
  obtain⟨hc,x,M,a3⟩:=hP.ag.rg r ls r1;obtain⟨_,hE⟩:=hP.ag.bg _ hc r x M;have A:j∈x.told:=(J _ hc r x M).2 j (by rw[hE.Ot,a3];exact r2);obtain⟨p2,z1,z2⟩:=hE.UA j A;rw[hp] at z1;rw[O3 z1];exact z2
 refine⟨a2,λo ho=>?_⟩;have hO:=hT.ow o ho;have I:o.state≠1:=λz=>a4 _ _ (h.c2 j r hj trivial p hp o ho z)
 have h0:o.state≠0:=by
  refine(hP.nd j hj).hd.fin r p (by rw[<-hP.nf hj];exact hp) ?_ o ho;have h3:p.state≠3:=λz=>by rw[hT.s3 z] at ho;cases ho
  have:=hT.st
  omega
 have:=hO.was
 omega
theorem Dm{gs W:List Int}{ct:G4}(h:∀k∈gs,k∈W):ck i gs W ct=[]:=by
 grind [ck,List.filter_eq_nil_iff]
def wj{st Κ B:Int}:∀(os:List hD) (S:Τ),(∀o∈os,o.state=2)->B0 (B9 i r st Κ B) os S=([],os,S)
 | [],_,_=>rfl
 | o::os,S,h=>by
  have e:B9 i r st Κ B o S=([],o,S):=by
   have Q:=h o au;unfold B9 bY;rw[Ο D,Ω D]
  have ih:=wj (st:=st) (Κ:=Κ) (B:=B) os S λy U=>h y (az _ U);show((B9 i r st Κ B o S).1++(B0 (B9 i r st Κ B) os (B9 i r st Κ B o S).2.2).1,(B9 i r st Κ B o S).2.1::(B0 (B9 i r st Κ B) os (B9 i r st Κ B o S).2.2).2.1,(B0 (B9 i r st Κ B) os (B9 i r st Κ B o S).2.2).2.2)=_;rw[e];dsimp only;rw[ih];rfl
theorem Jl{B:Int}{N:ω}{S:Τ}(hb:(N.Ψ.map (·.1)).Nodup)(hp:(N.Γ.map (·.1)).Nodup)(I:∀r x,ε N.Ψ r=some x->x.dec=true/\∀k∈x.lq,k∈x.told)(Q:∀r p,ε N.Γ r=some p->∀o∈p.Α,o.state=2):cU i B N S=([],N,S):=by
 have h3:∀r,PV i B r N S=([],N,S):=λr=>by
  have ade:MX i B r N S=([],N,S):=by
   unfold MX;cases M:ε N.Ψ r with
   | none=>rfl
   | some x =>
    obtain⟨q1,q2⟩:=I r x M
    have e:cD i r x B=([],x):=by
     unfold cD;rw[Ω q1,Dm q2]
    dsimp only;rw[e];dsimp only;rw[iQ M hb];rfl
  have eP:K7 i B r N S=([],N,S):=by
   unfold K7;cases M:ε N.Γ r with
   | none=>rfl
   | some p =>
    dsimp only;split
    .rw[wj p.Α S (Q r p M)];dsimp only;rw[iQ M hp]
    .rfl
  grind [PV]
 unfold cU;generalize dZ N=h1;induction h1 with
 | nil=>rfl
 | cons a h1 ih =>
  grind [bT]
def NI.round(h:NI F W)(hW:F1 F c bW ο an W):iT F W=W:=by
 have T:=hW.len
 have hA:∀k:Nat,(k:Int)<=F->NX W k=W:=λk=>by
  induction k with
  | zero=>exact λ_=>rfl
  | succ k ih =>
   intro hk;have A:0<=(k:Int)/\(k:Int)<F:=D;have e:NX W (k+1)=Pm (NX W k) (k:Int):=rfl;rw[e,ih D];have hN:=hW.at A;have en:W.nf k=(W.nd k).1:=EA D
   have e2:cU (k:Int) W.B (W.nd k).1 (W.nd k).2=([],(W.nd k).1,(W.nd k).2):=Jl hN.a.Ol.nb hN.a.Ol.np (by rw[<-en];exact h.bg k A) λr p hp=>by
    rw[<-en] at hp;exact(h.pt k A r p hp).2
   unfold Pm jA.send;rw[e2]
   have e3:W.D8.set (k:Int).toNat ((W.nd k).1,(W.nd k).2)=W.D8:=by
    have e4:W.nd k=W.D8[(k:Int).toNat]'(by omega):=by unfold jA.nd;rw[E7 D]
    show W.D8.set (k:Int).toNat (W.nd k)=W.D8;rw[e4,eC]
   dsimp only;rw[e3,aJ]
 have hr:=hW.MY;have e:iT F W=Oa F (NX W F.toNat) 400:=rfl;rw[e,hA _ D];generalize (400:Nat)=n;induction n with
 | zero=>rfl
 | succ n ih =>
  have e2:Oa F W (n+1)=Nv F (Oa F W n):=rfl;rw[e2,ih];unfold Nv;rw[h.O]
theorem qu(h:C8 F b b0 R g0 B3 lp NA NA p W)(hW:F1 F c b ο an W)(hc:c<=63)(hk:RG W)(hR:12*R.length<=400):∀Δ:Nat,∃p',C8 F b b0 R g0 B3 lp NA NA p' (cy F W Δ)/\RG (cy F W Δ)/\(p'<=12*R.length\/p' + (400 - 12*R.length)*Δ<=p)/\(cy F W Δ).B=W.B/\(cy F W Δ).h1=W.h1/\F1 F c b (ο+7300000000*Δ) an (cy F W Δ)
 | 0=>⟨p,h,hk,.inr D,rfl,rfl,hW⟩
 | Δ+1=>by
  obtain⟨p',I,Q,h3,h4,h5,h6⟩:=qu h hW hc hk hR Δ;obtain⟨p2,q1,q2,q3,q4,q5⟩:=yg I h6 Q (late:=False) λz=>z.elim;obtain⟨g,_,hP,_⟩:=I.ex;have hw:=(nH h6 hc hP.cv hP.hb).2.1;refine⟨p2,q1.weak (λ_ _ z=>z.elim) (λ_ _ z=>z.elim),q2,?_,q4.trans h4,q5.trans h5,hw.mono (ax _) (ax _) D (ax _)⟩;grind
def ol(h:C8 F b b0 R g0 B3 lp NA NA p W)(hW:F1 F c b ο an W)(hc:c<=63)(hk:RG W)(hR:12*R.length<=400)(A:B3<W.B):∀Δ:Nat,∃p',C8 F b b0 R g0 B3 lp NA NA p' (cy F W Δ)/\RG (cy F W Δ)/\(NI F (cy F W Δ)\/p' + (400 - 12*R.length)*Δ<=p)/\(cy F W Δ).B=W.B/\(cy F W Δ).h1=W.h1/\F1 F c b (ο+7300000000*Δ) an (cy F W Δ)
 | 0=>⟨p,h,hk,.inr D,rfl,rfl,hW⟩
 | Δ+1=>by
  obtain⟨p',I,Q,h3,h4,h5,h6⟩:=ol h hW hc hk hR A Δ;have e0:cy F W (Δ+1)=iT F (cy F W Δ):=rfl;rw[e0];rcases h3 with h3|h3
  .rw[h3.round h6];exact⟨p',I,Q,.inl h3,h4,h5,h6.mono (ax _) (ax _) D (ax _)⟩
  obtain⟨p2,q1,q2,q3,q4,q5⟩:=yg I h6 Q (late:=True) D;obtain⟨g,_,hP,_⟩:=I.ex;have hw:=(nH h6 hc hP.cv hP.hb).2.1;refine⟨p2,q1.weak (λ_ _ z=>z.elim) (λ_ _ z=>z.elim),q2,?_,q4.trans h4,q5.trans h5,hw.mono (ax _) (ax _) D (ax _)⟩;have e:(400 - 12*R.length)*(Δ+1)=(400 - 12*R.length)*Δ+(400 - 12*R.length):=Nat.mul_succ _ _;rcases q3 with⟨q3,_⟩|q3
  .exact .inl (q1.closed trivial q3)
  .exact .inr D
def Kg:∀hx:Nat,hx<=24->16*hx+8*hx*(24 - hx)+96*hx<3200:=λhx h=>by
 have:∀hx:Nat,hx<25->16*hx+8*hx*(24 - hx)+96*hx<3200:=by decide
 exact this hx D
def F1.time(h:F1 F c bW ο an W){t:Int}(ht:0<=t/\t<=an):F1 F c bW ο an { W with B:=t }:=⟨h.MY,h.len,h.nd,h.O,h.ml,ht,h.il⟩
def Dy(h:C8 F b b0 R g0 B3 lp NA NA p W)(hW:F1 F c b ο an W)(hc:c<=63)(hk:RG W)(hR:R.length<=24)(hp:p<=16*R.length+8*R.length*(24 - R.length)){t:Int}(ht:W.B+10=t)(a7:t<=1099511627776)(A:B3<t)(hT:t<=an):NI F (cy F { cy F W 4 with B:=t } 4)/\∃p',C8 F b b0 R g0 B3 lp NA NA p' (cy F { cy F W 4 with B:=t } 4)/\(cy F { cy F W 4 with B:=t } 4).h1=W.h1:=by
 obtain⟨p1,J,a2,a3,a4,a5,a6⟩:=qu h hW hc hk D 4;generalize cy F W 4=V at *;have b1:=J.time (t:=t) D a7;have b6:=a6.time (t:=t) ⟨by have:=hW.B.1;omega,hT⟩;obtain⟨p2,c1,c2,c3,c4,c5,c6⟩:=ol b1 b6 hc (λy U=>a2 y U) D A 4;refine⟨?_,p2,c1,c5.trans a5⟩;rcases c3 with c3|c3
 .exact c3
 .have q:=Kg R.length hR;omega
end
end
section
open Go.V
def fm(nd:M3)(r:Int):Bool:=match ε (nd (bX r)).Ψ r with
 | some x=>x.dec && x.F4
 | none=>false
theorem Po.F4{nd:M3}{r:Int}{t:Bool}(h:Po nd r t):fm nd r=t:=by
 obtain⟨x,I,Q,h3⟩:=h;grind [fm]
def UF(i a x:Int)(l:x4):Int:=if l.d=i then(if a=l.fr then - Oz x l.am else 0)+(if l.ts=i/\a=l.to then Oz x l.am else 0) else 0
def U9(i a x:Int)(l:x4):Int:=if(l.d≠i/\l.ts=i)/\a=l.to then Oz x l.am else 0
def WN(i a x:Int)(l:x4):Int:=(if l.d=i/\a=l.fr then - Oz x l.am else 0)+(if l.ts=i/\a=l.to then Oz x l.am else 0)
theorem KB(i a x:Int)(l:x4):WN i a x l=UF i a x l+U9 i a x l:=by
 grind [WN,UF,U9]
def XO(i a x:Int)(ls:List x4):Int:=(ls.map (WN i a x)).sum
def tb{α:Type}{f g:α->Int}:∀l:List α,(l.map λk=>f k+g k).sum=(l.map f).sum+(l.map g).sum
 | []=>rfl
 | a::l=>by
  have:=tb (f:=f) (g:=g) l
  simp only[al,aR];omega
theorem jQ{α:Type}{f:α->Int}:∀{l:List α},(∀k∈l,f k=0)->(l.map f).sum=0
 | [],_=>rfl
 | a::l,h=>by
  rw[al,aR,h a au,jQ λk hk=>h k (az _ hk)];rfl
theorem ta{α:Type}[DecidableEq α]{f:α->Int}:∀{l u:List α},l.Nodup->u.Nodup->(∀k∈l,k∈u)->(l.map f).sum=(u.map λk=>if k∈l then f k else 0).sum
 | [],u,_,_,_=>by
  grind [jQ]
 | a::l,u,T,hu,hs=>by
  obtain⟨I,Q⟩:=List.nodup_cons.1 T;have hp:=List.perm_cons_erase (hs a au);have A:=(hp.nodup_iff).1 hu;obtain⟨q1,q2⟩:=List.nodup_cons.1 A;have ih:=ta (f:=f) Q q2 ah;rw[nT hp,al,aR,al,aR,Ω au,ih];grind [aU]
theorem uG{α:Type}[Inhabited α]{f:α->Int}(l:List α):(l.map f).sum=((List.range l.length).map λj=>f l[j]!).sum:=by
 grind [eX,ak]
def wA{α β:Type}{f:β->Int}{g:α->List β}:∀l:List α,((l.flatMap g).map f).sum=(l.map λk=>((g k).map f).sum).sum
 | []=>rfl
 | a::l=>by
  rw[aS,aQ,dV,wA l,al,aR]
theorem wr(i:Int):∀(ls:List x4) (k:Int) (f:x4->Int),((B6 i k ls).map λo=>f o.Χ).sum=(ls.map λl=>if l.d=i then f l else 0).sum
 | [],_,_=>rfl
 | l::ls,k,f=>by
  have ih:=wr i ls (k+1) f;grind [B6]
theorem yS(i:Int):∀(ls:List x4) (k:Int) (j:Nat),j<ls.length->ls[j]!.d=i->(⟨ls[j]!,k+j,0,[]⟩:hD)∈B6 i k ls
 | [],_,j,h,_=>ah
 | l::ls,k,0,_,h=>by
  grind [B6]
 | l::ls,k,j+1,hj,h=>by
  have e1:B6 i k (l::ls)=if l.d=i then⟨l,k,0,[]⟩::B6 i (k+1) ls else B6 i (k+1) ls:=rfl;rw[aL] at hj
  have e2:(l::ls)[j+1]! = ls[j]!:=by
   rw[E7 D,E7 D,List.getElem_cons_succ]
  rw[e2] at h ⊢;have ih:=yS i ls (k+1) j D h;grind
section
variable {F:Int}{b:Nat}{b0:Int->Int->Int->Int}{R:List Int}{g:Gh}{W:jA}{i r:Int}{p:Nl}
theorem NI.part(hC:NI F W)(hP:OF F b b0 g R W)(hi:0<=i/\i<F)(hp:ε (W.nf i).Γ r=some p):(p.state=1/\fm W.nf r=true)\/(p.state=2/\fm W.nf r=false)\/(p.state=3/\fm W.nf r=false):=by
 have hT:=hP.ag.pt i hi r p hp;obtain⟨h0,_⟩:=hC.pt i hi r p hp;have J:=hT.st;by_cases I:p.state=1
 .exact .inl ⟨I,(hT.s1 I).F4⟩
 by_cases Q:p.state=2
 .exact .inr (.inl ⟨Q,(hT.s2 Q).F4⟩)
 have h3:p.state=3:=D;refine .inr (.inr ⟨h3,?_⟩);obtain⟨ls,r1,r2,_⟩:=hT.G5;obtain⟨hc,x,M,A⟩:=hP.ag.rg r ls r1;obtain⟨_,hE⟩:=hP.ag.bg _ hc r x M;have hd:=(hC.bg _ hc r x M).1;cases ht:x.F4 with
 | false=>exact Po.F4 ⟨x,M,hd,ht⟩
 | true =>
  obtain⟨p2,z1,z2⟩:=hE.tk hd ht i (by rw[hE.Ot,A];exact r2);grind
theorem NI.has(hC:NI F W)(hP:OF F b b0 g R W)(ht:fm W.nf r=true){ls:List x4}(hG:g.Β r=some ls){l:x4}(T:l∈ls):∃p,ε (W.nf l.d).Γ r=some p/\p.state=1:=by
 obtain⟨hc,x,M,A⟩:=hP.ag.rg r ls hG;obtain⟨_,hE⟩:=hP.ag.bg _ hc r x M;have hs:=((hP.gr r ls hG).2 l T).d;unfold fm at ht;rw[M] at ht;have ht:(x.dec && x.F4)=true:=ht;rw[iY] at ht;obtain⟨p,z1,z2⟩:=hE.tk ht.1 ht.2 l.d (by rw[hE.Ot,A];grind [UW]);refine⟨p,z1,?_⟩;rcases hC.part hP hs z1 with⟨q,_⟩|⟨_,q⟩|⟨q,_⟩
 .exact q
 .grind [fm]
 omega
def Gr{os A : List hD}(h:QZ os=QZ A)(f:x4->Int):(os.map λo=>f o.Χ).sum=(A.map λo=>f o.Χ).sum:=by
 have e:∀l:List hD,(l.map λo=>f o.Χ)=(QZ l).map λq=>f q.1:=λl=>by
  unfold QZ;rw[cu];rfl
 rw[e,e,h]
theorem NI.Pc(hC:NI F W)(hP:OF F b b0 g R W)(a5:R.Nodup)(hi:0<=i/\i<F)(a x:Int):Pc g i (W.nf i) a x=(R.map λr=>if fm W.nf r=true then XO i a x (cV g r) else 0).sum:=by
 have en:=hP.nf hi;have hK:=hP.nd i hi;have hN:=hP.cv.cv.nd i hi;rw[<-en] at hK hN;have J:∀{r ls},g.Β r=some ls->cV g r=ls:=by grind [cV]
 have a3:((W.nf i).Γ.map (dP i a x)).sum=(R.map λr=>if fm W.nf r=true then((cV g r).map (UF i a x)).sum else 0).sum:=by
  have e1:((W.nf i).Γ.map (dP i a x)).sum=(((W.nf i).Γ.map (·.1)).map λr=>if fm W.nf r=true then((cV g r).map (UF i a x)).sum else 0).sum:=by
   rw[cu];refine congrArg List.sum (aU λq hq=>?_);have hp:ε (W.nf i).Γ q.1=some q.2:=fo hK.np hq;obtain⟨b3,b1⟩:=hC.pt i hi _ _ hp;have hT:=hP.ag.pt i hi _ _ hp;obtain⟨ls,r1,_,r3⟩:=hT.G5;have hz:gx x q.2.Α=0:=by grind [pK]
   show jm i q.2.state a x q.2.Α+(if a=q.2.Κ then gx x q.2.Α else 0)=if fm W.nf q.1=true then((cV g q.1).map (UF i a x)).sum else 0;rw[hz,ite_self,ed,J r1];rcases hC.part hP hi hp with⟨I,ht⟩|⟨I,ht⟩|⟨I,ht⟩
   .rw[ht,Ω rfl,I]
    have e2:jm i 1 a x q.2.Α=(q.2.Α.map λo=>(if a=o.Χ.fr then - Oz x o.Χ.am else 0)+(if o.Χ.ts=i/\a=o.Χ.to then Oz x o.Χ.am else 0)).sum:=by
     unfold jm;refine congrArg List.sum (aU λo ho=>?_);unfold QJ;rw[b1 o ho];congr 1
     .omega
     .omega
    exact e2.trans ((Gr (r3 D) λl=>(if a=l.fr then - Oz x l.am else 0)+(if l.ts=i/\a=l.to then Oz x l.am else 0)).trans (wr i ls 0 λl=>(if a=l.fr then - Oz x l.am else 0)+(if l.ts=i/\a=l.to then Oz x l.am else 0)))
   .grind [jm,jQ,QJ]
   .rw[ht,Ο ac,hT.s3 I];rfl
  rw[e1,ta hK.np a5 λr A=>by
   obtain⟨q,hq,rfl⟩:=H8 A;obtain⟨ls,r1,_⟩:=(hP.ag.pt i hi _ _ (fo hK.np hq)).G5;exact hP.cv.hR _ _ r1]
  refine congrArg List.sum (aU λr A=>?_);by_cases hk:r∈(W.nf i).Γ.map (·.1)
  .rw[Ω hk]
  .rw[Ο hk];by_cases ht:fm W.nf r=true
   .rw[Ω ht];obtain⟨ls,hG⟩:=hP.cv.QX r A;rw[J hG];refine(jQ λl T=>?_).symm;unfold UF;refine Ο λz=>?_;obtain⟨p,hp,_⟩:=hC.has hP ht hG T;rw[z] at hp;exact hk (List.mem_map.2 ⟨_,bR hp,rfl⟩)
   grind
 have a4:((W.nf i).wk.map (dR g a x)).sum=(R.map λr=>if fm W.nf r=true then((cV g r).map (U9 i a x)).sum else 0).sum:=by
  have b2:(R.flatMap λr=>(List.range (cV g r).length).map λj:Nat=>(r,(j:Int))).Nodup:=by
   unfold List.Nodup;rw[List.pairwise_flatMap];refine⟨λr _=>?_,?_⟩
   .grind [List.nodup_range]
   .exact a5.imp ah
  rw[ta hN.ls.nd b2 λk hk=>by
   obtain⟨l,q1,_⟩:=hP.ag.rv i hi k hk;obtain⟨ls,r1,r2,_,_⟩:=zm q1;refine List.mem_flatMap.2 ⟨k.1,hP.cv.hR _ _ r1,List.mem_map.2 ⟨k.2.toNat,List.mem_range.2 (by rw[J r1];exact r2.2),?_⟩⟩;exact Prod.ext rfl (by show((k.2.toNat:Nat):Int)=k.2;omega),wA]
  refine congrArg List.sum (aU λr A=>?_);obtain⟨ls,hG⟩:=hP.cv.QX r A;rw[J hG,cu];have a2:∀j:Nat,j<ls.length->g.Χ (r,(j:Int))=some ls[j]!:=by grind [Gh.Χ]
  have hin:∀j:Nat,j<ls.length->((r,(j:Int))∈(W.nf i).wk↔fm W.nf r=true/\ls[j]!.d≠i/\ls[j]!.ts=i):=λj hj=>by
   constructor
   .intro hk;obtain⟨l,q1,q2,q3,p,q4,q5⟩:=hP.ag.rv i hi _ hk;rw[a2 j hj] at q1;rw[O3 q1];have a6:=(hP.gr r ls hG).2 _ (bI hj);rw[O3 q1] at a6;refine⟨?_,q3,q2⟩;rcases hC.part hP a6.d q4 with⟨_,z⟩|⟨z,_⟩|⟨z,_⟩
    .exact z
    .omega
    omega
   .rintro⟨ht,I,Q⟩;obtain⟨p,hp,a9⟩:=hC.has hP ht hG (bI hj);have a7:=((hP.gr r ls hG).2 _ (bI hj)).d;have hT:=hP.ag.pt _ a7 _ _ hp;obtain⟨b4,r1,_,r3⟩:=hT.G5;rw[hG] at r1;have e:=r3 D;rw[<-O3 r1] at e
    have hm:(ls[j]!,(j:Int))∈QZ p.Α:=by
     rw[e];refine List.mem_map.2 ⟨_,yS _ ls 0 j hj rfl,?_⟩;exact Prod.ext rfl ah
    obtain⟨o,ho,e2⟩:=H8 hm;have e3:=(Prod.mk.inj e2).1;have e4:=(Prod.mk.inj e2).2;have hs:=(hC.pt _ a7 _ _ hp).2 o ho;have q:=(hT.ow o ho).s2 a9 hs ah;grind
  by_cases ht:fm W.nf r=true
  .rw[Ω ht,uG (f:=U9 i a x) ls];grind [aU,dR,U9]
  .grind [jQ]
 unfold Go.Proofs.YtlgpgjdggilkgaaGreatDoor.Pc;rw[a3,a4,<-tb];refine congrArg List.sum (aU λr _=>?_);by_cases ht:fm W.nf r=true
 .rw[Ω ht,Ω ht,Ω ht,<-tb];exact congrArg List.sum (aU λl _=>(KB i a x l).symm)
 grind
theorem NI.home(hC:NI F W)(hP:OF F b b0 g R W)(A:r∈R):(0<=bX r/\bX r<F)/\dO (W.nf (bX r)) r=if fm W.nf r=true then 2 else 3:=by
 obtain⟨ls,hG⟩:=hP.cv.QX r A;obtain⟨hc,x,M,_⟩:=hP.ag.rg r ls hG;refine⟨hc,?_⟩;have hd:=(hC.bg _ hc r x M).1;grind [fm,dO]
theorem NI.agree(hC:NI F W)(hP:OF F b b0 g R W)(A:r∈R){k:Int}(hk:0<=k/\k<F):dO (W.nf k) r=0\/dO (W.nf k) r=if fm W.nf r=true then 2 else 3:=by
 cases M:ε (W.nf k).Ψ r with
 | some x =>
  have a2:=(hP.ag.bg k hk r x M).1;have:=(hC.home hP A).2
  grind
 | none =>
  cases hp:ε (W.nf k).Γ r with
  | some p =>
   refine .inr ?_;have h0:=(hC.pt k hk r p hp).1;unfold dO;rw[M,hp];dsimp only;rw[Ο h0];rcases hC.part hP hk hp with⟨q1,q2⟩|⟨q1,q2⟩|⟨q1,q2⟩
   .grind
   .grind
   grind
  | none =>
   unfold dO;rw[M,hp];dsimp only;by_cases hr:r∈(W.nf k).wk.map (·.1)
   .rw[Ω hr];obtain⟨q,hq,rfl⟩:=H8 hr;obtain⟨l,q1,_,_,p,q4,q5⟩:=hP.ag.rv k hk q hq;have q5:p.state=1:=q5;have J:=(hP.gr.Χ q1).d;rcases hC.part hP J q4 with⟨_,z⟩|⟨z,_⟩|⟨z,_⟩
    .grind
    .omega
    .omega
   grind
theorem NI.opens(hC:NI F W)(hP:OF F b b0 g R W){k:Int}(hk:0<=k/\k<F):ko (W.nf k)=[]:=by
 unfold ko;refine List.filter_eq_nil_iff.2 λr _=>?_
 have I:∀x,ε (W.nf k).Ψ r=some x->(!x.dec || dB (x.told.length<x.lq.length))=false:=λx M=>by
  obtain⟨q1,q2⟩:=hC.bg k hk r x M;have hE:=(hP.ag.bg k hk r x M).2;have T:=jn (l:=x.lq) (m:=x.told) (by rw[hE.Ot];exact iP _ _) q2;rw[q1,bz D];rfl
 have Q:∀p,ε (W.nf k).Γ r=some p->(dB (p.state=0) || dB (∃o∈p.Α,¬o.state=2))=false:=λp hp=>by
  obtain⟨q1,q2⟩:=hC.pt k hk r p hp;grind [bz]
 grind [ge]
