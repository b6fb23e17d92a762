/- Lemmas. -/
import Derived.Test.YtlgpgjdggilkgaaGreatDoorEraq
set_option linter.all false
namespace Go.Proofs.YtlgpgjdggilkgaaGreatDoor
section
open Go.V
attribute [local irreducible] Δ R GP Ο h2 O Ef A8 A CB GB V.Enters
structure Q4 where
 acc:Int
 aT:Int
 ο:ey
 deriving Inhabited
abbrev Q4.is(s:Q4)(a i:Int):Prop:=s.acc=a/\s.aT=i
theorem Gy{l:LL}(h:∀x∈l,π x):0<=dU l:=by
 have:=(kh h l.length B).1
 grind
structure XS where
 ζ:Iq
 XT:List Q4
 B8:OA
 IT:Nat
 Ι:List JX
 A7:OA
 C4:Nat
 hx:List E8
 MP:OA
 MQ:Nat
def jT(ps:LL)(n:Int):Prop:=gH ps/\dU ps=n/\dU (JN ps)=n
instance (ps:LL)(n:Int):Decidable (jT ps n):=by unfold jT;infer_instance
def pO(k:Nat)(m:A9):Prop:=(0<=m.aT/\m.aT<k)/\(1<=m.n/\m.n<=1099511627776)/\m.Ψ≠m.to/\(0<=m.Ψ/\0<=m.to/\m.Ψ<=1073741824/\m.to<=1073741824)
def BB(k:Nat)(st:Bool)(m:A9):Prop:=pO k m/\(if st=true then jT m.Ζ m.n else m.Ζ.length=0)
def gO(k:Int):Bool:=dB (k=5\/k=7\/k=9)
def iD(k:Int)(m:A9):Prop:=if k=0\/k=5 then m.Ψ=0 else if k=1\/k=6 then m.to=0 else if k=7 then 0<m.Ψ else if k=9 then 0<m.to else 0<m.Ψ/\0<m.to
instance (k:Int)(m:A9):Decidable (iD k m):=by unfold iD;infer_instance
def FM(s:C8):Prop:=s.Ip = -1/\(1<=s.J4/\s.J4<=1048576)/\s.cM.length=2/\s.cM[0]!.to=0/\s.cM[1]!.Ψ=0/\s.cM[1]!.to=s.cM[0]!.Ψ/\s.cM[0]!.n % s.J4=0/\s.cM[1]!.n % s.J4=0
def ol(rules:List Pj)(s:C8):Prop:=if s.Κ=4 then DW rules s.Ip s.J4 s.cM else if s.Κ=10 then FM s else(∀m∈s.cM,iD s.Κ m)/\s.Ip = -1/\s.J4=0
def ge(c:D4)(now:Int)(s:C8):Prop :=
 (0<=s.Κ/\s.Κ<=10)/\K7 s.MB/\(now<=s.G/\s.G<=1099511627776)/\(1<=s.cM.length/\s.cM.length<=64)/\(∀m∈s.cM,BB c.B5.length (gO s.Κ) m)/\ol c.rules s
noncomputable instance (a b c):Decidable (ge a b c):=Classical.propDecidable _
def Gb{s:E8}{i:Nat}(h:i<s.cM.length){L:LH}:A (IK s::L) (ε aI 3 s.cM[i]!.pad s.cM[i]!.m.Ζ::IK s::L):=A.d8 (f:=G2) (bA h)
theorem BD{l:LL}{f n:Int}(h:∀x∈l,π x)(hn:1<=n):bz l (f,0,n)=l++[(f,0,n)]:=by
 grind [bz,N7,bA,π]
def pN(fl:List D9)(p:gq):Prop:=∃f∈fl,f.Κ=5/\nE f.Ζ [p]≠[]
instance (fl:List D9)(p:gq):Decidable (pN fl p):=by unfold pN;infer_instance
def Q5(d:Int)(fl:List D9)(p:gq):Int:=if p.1 / 4294967296=d\/11<p.1 / 4294967296 then 1 else if pN fl p then 8 else 0
def Pt(d:Int)(fl:List D9):LL->Int
 | []=>0
 | p::ps=>if Q5 d fl p=0 then Pt d fl ps else Q5 d fl p
def Cl(fl:List D9)(aT:Int)(p:gq):Prop:=(¬ ∃f∈fl,f.Κ=9/\f.Ψ=0/\nE f.Ζ [p]≠[])/\∃f∈fl,f.Κ≠6/\f.to=0/\f.aT=aT/\jB [p] [(f.F,0,f.n)]
instance (fl:List D9)(aT:Int)(p:gq):Decidable (Cl fl aT p):=by unfold Cl;infer_instance
def TN(fl:List D9)(aT:Int)(ps:LL):Int:=if ∀p∈ps,Cl fl aT p then 0 else 10
end
section
open Go.V
theorem fR(x:gq)(l:LL):dU (x::l)=x.2.2+dU l:=by
 have:=fO [x] l
 rw[fu] at this;exact this
theorem jz:dU ([]:LL)=0:=rfl
def ov(x y:gq):Int:=if x.1=y.1 then max 0 (min (x.2.1+x.2.2) (y.2.1+y.2.2) - max x.2.1 y.2.1) else 0
theorem pE(x y:gq):ov x y=ov y x:=by
 grind [ov]
def FI(x y:gq):0<=ov x y:=by
 unfold ov;omega
theorem pD{x y:gq}(K:π x)(Z:π y):ov x y=0↔apart x y:=by
 grind [π,ov,apart]
def OV:LL->gq->Int
 | [],_=>0
 | x::l,y=>ov x y+OV l y
theorem uf:∀(l:LL) (y:gq),0<=OV l y
 | [],_=>co _
 | x::l,y=>by
  have:=uf l y
  grind [ov,OV]
def fw:∀(a b:LL) (y:gq),OV (a++b) y=OV a y+OV b y
 | [],b,y=>by show OV b y=0+OV b y;omega
 | x::a,b,y=>by
  have:=fw a b y
  show ov x y+OV (a++b) y=ov x y+OV a y+OV b y;omega
def iu(x y:gq):OV [x] y=ov x y:=by show ov x y+0=ov x y;omega
def sK:∀{l:LL} {y:gq},OV l y=0->∀x∈l,ov x y=0
 | x::l,y,h,z,hz=>by
  have J:=uf l y;have U:=FI x y;have h3:ov x y+OV l y=0:=h;rcases Jr hz with rfl|hz
  .omega
  .exact sK B z hz
def OO(l:LL):LL->Int
 | []=>0
 | x::s=>OV l x+OO l s
theorem sL(y:gq)(l:LL):∀s,OO (y::l) s=OO [y] s+OO l s
 | []=>rfl
 | x::s=>by
  have:=sL y l s
  have e:=iu y x;show(ov y x+OV l x)+OO (y::l) s=(OV [y] x+OO [y] s)+(OV l x+OO l s);omega
theorem xm:∀s,OO [] s=0
 | []=>rfl
 | x::s=>by
  have:=xm s
  show 0+OO [] s=0;omega
def Ej(y:gq):∀s,OO [y] s=OV s y
 | []=>rfl
 | x::s=>by
  have:=Ej y s
  have e:=iu y x;have c:=pE x y;show OV [y] x+OO [y] s=ov x y+OV s y;omega
theorem Aa:∀l s,OO l s=OO s l
 | [],s=>xm s
 | y::l,s=>by
  rw[sL,Ej,Aa l s];rfl
theorem Et{x y:gq}(K:π x)(Z:π y):dU (LC x y)=y.2.2 - ov y x:=by
 unfold π at K Z;unfold LC ov;by_cases hc:y.1≠x.1\/x.2.1+x.2.2<=y.2.1\/y.2.1+y.2.2<=x.2.1
 .grind [fu]
 .have hf:y.1=x.1:=B;rw[Ω hc,μ hf,fO];grind [fu,jz]
theorem Ga{x y t:gq}(K:π x)(Z:π y)(ht:π t)(h:apart x t):OV (LC x y) t=ov y t:=by
 unfold π at K Z ht;unfold apart at h;unfold LC;split
 .exact iu y t
 .rename_i hn;rw[fw];grind [OV,ov]
theorem qm{x:gq}(K:π x):∀{l:LL},(∀y∈l,π y)->dU (IP l x)=dU l - OV l x
 | [],_=>rfl
 | y::l,h=>by
  have e:IP (y::l) x=LC x y++IP l x:=aR;have ih:=qm K (l:=l) ay;have J:=Et K (h y az);rw[e,fO,fR,ih,J];show _=y.2.2+dU l - (ov y x+OV l x);omega
theorem zo{x t:gq}(K:π x)(ht:π t)(ha:apart x t):∀{l:LL},(∀y∈l,π y)->OV (IP l x) t=OV l t
 | [],_=>rfl
 | y::l,h=>by
  have e:IP (y::l) x=LC x y++IP l x:=aR;have ih:=zo K ht ha (l:=l) ay;rw[e,fw,ih,Ga K ay ht ha];rfl
theorem zW:∀{set l:LL},(∀x∈set,π x)->(∀y∈l,π y)->Iu set->dU (set.foldl IP l)=dU l - OO l set
 | [],l,_,_,_=>by show dU l=dU l - 0;omega
 | x::set,l,hs,hl,ha=>by
  obtain⟨I,a2⟩:=List.pairwise_cons.1 ha;have K:=hs x ay;have r:∀z∈set,π z:=ay;have ih:=zW (set:=set) (l:=IP l x) r (rX K hl) a2
  have a3:∀{s:LL},(∀z∈s,π z)->(∀z∈s,apart x z)->OO (IP l x) s=OO l s:=λ {s}=>by
   induction s with
   | nil=>intro _ _;rfl
   | cons z s ih2 =>
    grind [zo,OO]
  have h3:=qm K hl;have h4:=a3 r I;show dU (set.foldl IP (IP l x))=dU l - (OV l x+OO l set);omega
theorem te:∀(Θ out:LL),dU (Θ.foldl bz out)=dU out+dU Θ
 | [],out=>by show dU out=dU out+0;omega
 | x::Θ,out=>by
  have:=te Θ (bz out x)
  rw[nG] at this;rw[fR];show dU (Θ.foldl bz (bz out x))=_;omega
theorem uo{set:LL}(hs:∀x∈set,π x)(ha:Iu set):∀{s out:LL},(∀y∈s,π y)->dU (s.foldl (λout y=>(iA set y).foldl bz out) out)=dU out+dU s - OO s set
 | [],out,_=>by grind [xm,dU]
 | y::s,out,h=>by
  have Z:=h y ay;have ih:=uo hs ha (s:=s) (out:=(iA set y).foldl bz out) ay;have J:dU (iA set y)=dU [y] - OO [y] set:=zW hs (λz hz=>by rw[D6 hz];exact Z) ha;grind [fu,te,fR,sL]
theorem oh{s set:LL}(h:∀y∈s,π y)(hs:∀x∈set,π x)(ha:Iu set):dU (iw s set)=dU s - OO s set:=by
 have:=uo hs ha (s:=s) (out:=[]) h
 rw[jz] at this;unfold iw;omega
def sl(x y:gq):Prop:=x.1<y.1\/(x.1=y.1/\x.2.1+x.2.2<y.2.1)
structure Qu (l:gq) (z:LL×LL×Int×Int) (Θ:LL):Prop where
 lo:0<=z.2.2.1/\z.2.2.1<=l.2.1
 hi:l.2.1+l.2.2<=z.2.2.2
 XU:z.2.2.2=l.2.1+l.2.2\/∀x∈Θ,x.1=l.1->z.2.2.2<x.2.1
 XV:z.2.2.1=l.2.1\/∀x∈Θ,x.1=l.1->l.2.1<x.2.1
 s1:(z.1++Θ).Pairwise sl
 s2:(z.2.1++Θ).Pairwise sl
 s3:∀y∈z.1,y.1<l.1\/(y.1=l.1/\y.2.1+y.2.2<z.2.2.1)
 s4:∀y∈z.2.1,(l.1<y.1\/(y.1=l.1/\z.2.2.2<y.2.1))/\1<=y.2.2
def MC(z:LL×LL×Int×Int):Int:=dU z.1+dU z.2.1+(z.2.2.2 - z.2.2.1)
def Ml(f:Int)(z:LL×LL×Int×Int)(t:gq):Int:=OV z.1 t+OV z.2.1 t+ov (f,z.2.2.1,z.2.2.2 - z.2.2.1) t
theorem ET{l:gq}{z:LL×LL×Int×Int}{x:gq}{Θ:LL}(hl:π l)(K:π x)(h:Qu l z (x::Θ)):Qu l (LA l.1 z x) Θ/\MC (LA l.1 z x)=MC z+x.2.2 - ov x l/\(ov x l=0->∀t,π t->Ml l.1 (LA l.1 z x) t=Ml l.1 z t+ov x t):=by
 obtain⟨⟨b0,b1⟩,b2,b3,b4,s1,s2,s3,s4⟩:=h;have a9:x∈x::Θ:=ay;have hr:∀{y},y∈Θ->y∈x::Θ:=ay;have b5:∀y∈Θ,sl x y:=by grind [List.pairwise_cons]
 have a4:∀y∈z.1,sl y x:=ay;have a5:∀y∈z.2.1,sl y x:=ay;have a2:=hl;have a3:=K;unfold π at a2 a3;have r:(z.1++Θ).Pairwise sl:=ay;have I:(z.2.1++Θ).Pairwise sl:=ay;unfold LA;by_cases c1:x.1<l.1\/(x.1=l.1/\x.2.1+x.2.2<z.2.2.1)
 .rw[μ c1];have e0:ov x l=0:=by unfold ov;split<;>omega
  refine⟨⟨⟨b0,b1⟩,b2,ay,ay,?_,I,?_,s4⟩,?_,λ_ t _=>?_⟩
  .grind
  .grind
  .grind [MC,fO,fu]
  .unfold Ml;dsimp only;rw[fw,iu];omega
 rw[Ω c1];by_cases c2:l.1<x.1\/z.2.2.2<x.2.1
 .rw[μ c2];have e0:ov x l=0:=by unfold ov;split<;>omega
  refine⟨⟨⟨b0,b1⟩,b2,ay,ay,r,?_,s3,?_⟩,?_,λ_ t _=>?_⟩
  .grind
  .grind
  .grind [MC,fO,fu]
  .unfold Ml;dsimp only;rw[fw,iu];omega
 rw[Ω c2];have hf:x.1=l.1:=B
 have a6:z.2.2.2=l.2.1+l.2.2:=by
  rcases b3 with q|q
  .exact q
  .grind
 have a7:z.2.2.1=l.2.1\/l.2.1<x.2.1:=ay;refine⟨⟨ay,ay,?_,?_,r,I,?_,?_⟩,?_,λe0 t ht=>?_⟩
 .grind [sl]
 .grind [sl]
 .grind [sl]
 .grind [sl]
 .unfold MC ov;rw[μ hf];dsimp only;omega
 .unfold ov at e0;rw[μ hf] at e0;unfold Ml;dsimp only
  have key:ov (l.1,min z.2.2.1 x.2.1,max z.2.2.2 (x.2.1+x.2.2) - min z.2.2.1 x.2.1) t=ov (l.1,z.2.2.1,z.2.2.2 - z.2.2.1) t+ov x t:=by
   unfold π at ht;unfold ov;dsimp only;by_cases g:l.1=t.1
   .rw[μ g,μ g,μ (hf.trans g)];omega
   .grind
  omega
def sr{l:gq}(hl:π l):∀{Θ:LL} {z:LL×LL×Int×Int},(∀x∈Θ,π x)->Qu l z Θ->Qu l (Θ.foldl (LA l.1) z) []/\MC (Θ.foldl (LA l.1) z)=MC z+dU Θ - OV Θ l/\(OV Θ l=0->∀t,π t->Ml l.1 (Θ.foldl (LA l.1) z) t=Ml l.1 z t+OV Θ t)
 | [],z,_,h=>⟨h,by show MC z=MC z+0 - 0;omega,λ_ t _=>by show Ml l.1 z t=Ml l.1 z t+0;omega⟩
 | x::Θ,z,hr,h=>by
  obtain⟨J,U,h3⟩:=ET hl (hr x az) h;obtain⟨i1,i2,i3⟩:=sr hl (Θ:=Θ) (z:=LA l.1 z x) (λy Z=>hr y (aB _ Z)) J;have e:OV (x::Θ) l=ov x l+OV Θ l:=rfl;have n1:=FI x l;have n2:=uf Θ l;refine⟨i1,?_,λq t ht=>?_⟩
  .show MC (Θ.foldl (LA l.1) (LA l.1 z x))=_;rw[fR];omega
  .have g1:=h3 B t ht;have g2:=i3 B t ht;show Ml l.1 (Θ.foldl (LA l.1) (LA l.1 z x)) t=Ml l.1 z t+(ov x t+OV Θ t);omega
theorem Fe{l:gq}{s:LL}(hl:π l)(hs:∀x∈s,π x)(hp:s.Pairwise sl):(MS s l).Pairwise sl/\dU (MS s l)=dU s+l.2.2 - OV s l/\(OV s l=0->∀t,π t->OV (MS s l) t=OV s t+ov l t):=by
 have r:=hl;unfold π at r;obtain⟨⟨_,_,_,_,_,_,s3,s4⟩,U,h3⟩:=sr hl (Θ:=s) (z:=([],[],l.2.1,l.2.1+l.2.2)) hs ⟨ay,co _,.inl rfl,.inl rfl,hp,hp,ay,ay⟩;have hm:=sr hl (Θ:=s) (z:=([],[],l.2.1,l.2.1+l.2.2)) hs ⟨ay,co _,.inl rfl,.inl rfl,hp,hp,ay,ay⟩;have p1:=hm.1.s1;have p2:=hm.1.s2;have q1:=hm.1.lo;have q2:=hm.1.hi;rw[aJ] at p1 p2;have e:s.foldl (LA l.1) ([],[],l.2.1,l.2.1+l.2.2)=Lm s l:=rfl;rw[e] at s3 s4 U h3 p1 p2 q1 q2;clear hm;have z0:MC ([],[],l.2.1,l.2.1+l.2.2)=l.2.2:=by unfold MC;dsimp only;rw[jz];omega
 unfold MS;generalize Lm s l=z at *;refine⟨?_,?_,λq t ht=>?_⟩
 .grind [sl]
 .rw[fO,fO,fu];grind [MC]
 .have g:=h3 q t ht
  have e0:Ml l.1 ([],[],l.2.1,l.2.1+l.2.2) t=ov l t:=by
   unfold Ml;dsimp only;have:l.2.1+l.2.2 - l.2.1=l.2.2:=B;rw[this];show 0+0+ov (l.1,l.2.1,l.2.2) t=ov l t;rw[show(l.1,l.2.1,l.2.2)=l from rfl];omega
  rw[e0] at g;unfold Ml at g;rw[fw,fw,iu];omega
theorem lF{ps:LL}(h:∀x∈ps,π x):∀i,i<=ps.length->(JN (ps.take i)).Pairwise sl/\dU (JN (ps.take i))<=dU (ps.take i)/\(dU (JN (ps.take i))=dU (ps.take i)->Iu (ps.take i)/\∀t,π t->OV (JN (ps.take i)) t=OV (ps.take i) t)/\(Iu (ps.take i)->dU (JN (ps.take i))=dU (ps.take i))
 | 0,_=>⟨List.Pairwise.nil,co _,λ_=>⟨List.Pairwise.nil,λ_ _=>rfl⟩,λ_=>rfl⟩
 | i+1,hi=>by
  obtain⟨J,U,h3,h4⟩:=lF h i B;have r:i<ps.length:=B;have K:=h _ (bA r);have a4:=(ox h i B).2;have e:JN (ps.take (i+1))=MS (JN (ps.take i)) ps[i]!:=jf MS [] r;have et:ps.take (i+1)=ps.take i++[ps[i]!]:=by rw[av r,C5 r]
  have a3:dU (ps.take (i+1))=dU (ps.take i)+ps[i]!.2.2:=fG ps r;have a5:∀x∈ps.take i,π x:=ay;obtain⟨g1,g2,g3⟩:=Fe K a4 J;have nn:=uf (JN (ps.take i)) ps[i]!;rw[e,a3];refine⟨g1,B,λq=>?_,λq=>?_⟩
  .obtain⟨I,a2⟩:=h3 B;have z:OV (JN (ps.take i)) ps[i]! = 0:=B;rw[et];refine⟨List.pairwise_append.2 ⟨I,ec _ _,λy Z w hw=>?_⟩,λt ht=>?_⟩
   .rw[D6 hw];rw[a2 _ K] at z;exact(pD (a5 y Z) K).1 (sK z y Z)
   .rw[g3 z t ht,a2 t ht,fw,iu]
  .rw[et] at q;obtain⟨q1,_,q3⟩:=List.pairwise_append.1 q;have h5:=h4 q1;have h6:=(h3 h5).2 _ K
   have z:∀{l:LL},(∀y∈l,π y)->(∀y∈l,apart y ps[i]!)->OV l ps[i]! = 0:=λ {l}=>by
    induction l with
    | nil=>intro _ _;rfl
    | cons y l ih =>
     grind [pD,OV]
   grind
theorem uJ{ps:LL}(h:∀x∈ps,π x):dU (JN ps)=dU ps↔Iu ps:=by
 obtain⟨_,_,h3,h4⟩:=lF h ps.length B;grind
theorem uD{s:LL}(h:s.Pairwise sl):Iu s:=h.imp (by grind [sl,apart])
theorem FO{a b:LL}:∀{s:LL},(∀t∈s,OV a t=OV b t)->OO a s=OO b s
 | [],_=>rfl
 | x::s,h=>by
  have J:=h x az;have U:=FO (s:=s) (λt ht=>h t (aB _ ht));show OV a x+OO a s=OV b x+OO b s;omega
theorem Ad{ps h1:LL}(hw:jB ps h1)(ha:Iu h1)(hd:dU (JN ps)=dU ps):dU (iw h1 ps)=dU h1 - dU ps:=by
 obtain⟨⟨J,_⟩,⟨U,_⟩,h3⟩:=hw;have hs:=py J;have e1:dU (jo ps h1)=dU (JN ps) - OO (JN ps) h1:=oh hs.2 U ha;grind [jz,oh,lF,cn,FO,Aa]
theorem oC:∀{Θ out:LL},∀z∈Θ.foldl bz out,∃y∈out++Θ,z.1=y.1
 | [],out,z,hz=>ay
 | x::Θ,out,z,hz=>by
  obtain⟨y,Z,e⟩:=oC (Θ:=Θ) (out:=bz out x) z hz;rcases It Z with Z|Z
  .have h:∀w∈bz out x,∃v∈out++x::Θ,w.1=v.1:=by
    intro w hw;unfold bz at hw;split at hw
    .grind
    .grind
   grind
  grind
def mF:∀(Θ out:LL),Θ.foldl bz out=(Θ.filter (λx=>decide (x.2.2≠0))).foldl bz out
 | [],_=>rfl
 | x::Θ,out=>by
  by_cases h:x.2.2=0
  .rw[List.filter_cons_of_neg (by simpa using h)];have e:bz out x=out:=μ h;show Θ.foldl bz (bz out x)=_;rw[e];exact mF Θ out
  .rw[List.filter_cons_of_pos (by simpa using h)];exact mF Θ (bz out x)
theorem jP:∀{Θ out:LL},Iu (out++Θ)->(∀z∈out++Θ,1<=z.2.2)->Iu (Θ.foldl bz out)
 | [],out,h,_=>ay
 | x::Θ,out,h,hn=>by
  have K:=hn x ay;have a9:out++x::Θ=(out++[x])++Θ:=by rw[ax];rfl
  by_cases hc:out.length≠0/\kw x out[out.length - 1]!
  case neg =>
   have e:bz out x=out++[x]:=by unfold bz;rw[Ω B,Ω hc]
   show Iu (Θ.foldl bz (bz out x));rw[e];rw[a9] at h hn;exact jP h hn
  obtain⟨hl,hk⟩:=hc;have e:bz out x=out.set (out.length - 1) (out[out.length - 1]!.1,out[out.length - 1]!.2.1,out[out.length - 1]!.2.2+x.2.2):=by unfold bz;rw[Ω B,μ ⟨hl,hk⟩]
  rcases List.eq_nil_or_concat out with rfl|⟨r,b,rfl⟩
  .grind
  rw[List.concat_eq_append] at *
  have eb:(r++[b])[(r++[b]).length - 1]! = b:=by
   rw[C5 bR];simp
  rw[eb] at e hk
  have es:(r++[b]).set ((r++[b]).length - 1) (b.1,b.2.1,b.2.2+x.2.2)=r++[(b.1,b.2.1,b.2.2+x.2.2)]:=by
   rw[aq,bu,Nat.add_sub_cancel,eA _ _ B];simp
  rw[es] at e;show Iu (Θ.foldl bz (bz (r++[b]) x));rw[e];have b0:=N7.1 hk;have hb:=hn b ay;have e3:(r++[b])++x::Θ=r++(b::x::Θ):=by rw[ax];rfl
  rw[e3] at h hn;obtain⟨I,a2,a3⟩:=List.pairwise_append.1 h;obtain⟨a4,a5⟩:=List.pairwise_cons.1 a2;obtain⟨a6,a7⟩:=List.pairwise_cons.1 a5;refine jP ?_ ?_
  .rw[show(r++[(b.1,b.2.1,b.2.2+x.2.2)])++Θ=r++((b.1,b.2.1,b.2.2+x.2.2)::Θ) by grind];refine List.pairwise_append.2 ⟨I,List.pairwise_cons.2 ⟨λz hz=>?_,a7⟩,λz hz w hw=>?_⟩
   .have g1:=a4 z (aB _ hz);have g2:=a6 z hz;have g3:=hn z ay;unfold apart at g1 g2 ⊢;grind
   .rcases Jr hw with rfl|hw
    .have g1:=a3 z hz b ay;have g2:=a3 z hz x ay;have g3:=hn z ay;unfold apart at g1 g2 ⊢;dsimp only;omega
    grind
  .intro z hz;grind
def rH{α β γ:Type}(f:γ->β->γ)(g:α->List β):∀(s:List α) (out:γ),(s.flatMap g).foldl f out=s.foldl (λo y=>(g y).foldl f o) out
 | [],_=>rfl
 | y::s,out=>by
  rw[aR,List.foldl_append];exact rH f g s _
theorem wL:∀(set l:LL),set.foldl IP l=l.flatMap (λy=>set.foldl IP [y])
 | [],l=>by
  show l=l.flatMap (λy=>[y]);induction l with
  | nil=>rfl
  | cons y l ih=>grind
 | x::set,l=>by
  have e1:∀l,(x::set).foldl IP l=(IP l x).flatMap (λy=>set.foldl IP [y]):=λl=>wL set (IP l x);rw[e1];induction l with
  | nil=>rfl
  | cons y l ih =>
   have e2:IP (y::l) x=IP [y] x++IP l x:=by
    unfold IP;rw[aR,aR];simp
   rw[e2,cZ,ih,aR];congr 1;exact(e1 [y]).symm
def ur(s set:LL):iw s set=(set.foldl IP s).foldl bz []:=by
 rw[wL,rH];rfl
theorem DU:∀{set l:LL},(∀x∈set,π x)->(∀y∈l,π y)->Iu l->(∀y∈set.foldl IP l,π y/\∃w∈l,y.1=w.1)/\Iu (set.foldl IP l)/\(set.foldl IP l).length<=l.length+set.length
 | [],l,_,hl,ha=>ay
 | x::set,l,hs,hl,ha=>by
  have K:=hs x az;obtain⟨J,U⟩:=li K hl ha;obtain⟨i1,i2,i3⟩:=DU (set:=set) (l:=IP l x) (λz hz=>hs z (aB _ hz)) (rX K hl) J;refine⟨λy Z=>?_,i2,?_⟩
  .obtain⟨g1,w,hw,e⟩:=i1 y Z;obtain⟨v,hv,_,e2,_⟩:=pu K hl hw;exact⟨g1,v,hv,e.trans e2⟩
  .rw[aO];show(set.foldl IP (IP l x)).length<=_;omega
structure LU (k:Nat) (F:Int) (l:LL):Prop where
 len:l.length<=k
 ok:∀x∈l,π x/\x.1<F
 OX:Iu l
def LU.C0{k:Nat}{F:Int}{l:LL}(h:LU k F l):∀x∈l,π x:=λx K=>(h.ok x K).1
def LU.mono{k k' : Nat}{F r : Int}{l:LL}(h:LU k F l)(hk:k<=k')(hi:F<=r):LU k' r l:=⟨aQ h.len hk,λx K=>⟨(h.ok x K).1,by have:=(h.ok x K).2;omega⟩,h.OX⟩
theorem zi{k:Nat}{F:Int}{l ps:LL}(h:LU k F l)(hp:∀x∈ps,π x):LU (k+ps.length) F (iw l ps):=by
 obtain⟨c1,c2,c3⟩:=DU hp h.C0 h.OX;have hl:=h.len;rw[ur];refine⟨?_,λx K=>?_,jP c2 (λz hz=>(c1 z hz).1.2.2.2.1)⟩
 .grind [gZ]
 .obtain⟨y,Z,e⟩:=oC (Θ:=ps.foldl IP l) (out:=[]) x K;rw[ak] at Z;obtain⟨_,w,hw,e2⟩:=c1 y Z;have:=(h.ok w hw).2
  refine⟨kl bR (λz hz=>(c1 z hz).1.w) x K,?_⟩;omega
theorem Gz{mixed:Bool}{k:Nat}{F n:Int}{l:LL}(h:LU k F l)(hk:l.length<=4096)(h0:0<=n)(J:n<=dU l):LU k F (iO mixed l n):=by
 have hb:=uu mixed l n h.C0 h0 J;have I:=(DN h.C0 hb).2;refine⟨aQ (mX _ _ _).2 h.len,λx K=>⟨I x K,?_⟩,?_⟩
 .obtain⟨y,Z,e⟩:=oC (Θ:=(List.range l.length).map (MA l (Mj mixed l n))) (out:=[]) x K;rw[ak] at Z;obtain⟨j,hj,rfl⟩:=IY Z;have hj:=List.mem_range.1 hj;have:=(h.ok _ (bA hj)).2
  rw[e];exact this
 .show Iu (((List.range l.length).map (MA l (Mj mixed l n))).foldl bz []);rw[mF]
  have a2:Iu ((List.range l.length).map (MA l (Mj mixed l n))):=by
   unfold Iu;rw[List.pairwise_map];refine List.Pairwise.imp_of_mem ?_ List.pairwise_lt_range;intro i j hi hj r;have hi:=List.mem_range.1 hi;have hj:=List.mem_range.1 hj;have ha:=List.pairwise_iff_getElem.1 h.OX i j hi hj r;rw[<-C5 hi,<-C5 hj] at ha;have b1:=hb i hi;have b2:=hb j hj;unfold apart at ha ⊢;simp only[MA,QU,Qp];omega
  refine jP ?_ ?_
  .rw[ak];exact a2.filter _
  grind [MA,Qp]
theorem HS{k:Nat}{F n:Int}{l:LL}(h:LU k F l)(r:0<=F)(hn:1<=n/\n<=1099511627776):LU (k+1) (F+1) (bz l (F,0,n)):=by
 rw[BD h.C0 hn.1];have hl:=h.len;refine⟨by rw[aq,bu];omega,λx K=>?_,List.pairwise_append.2 ⟨h.OX,ec _ _,λy Z w hw=>?_⟩⟩
 .rcases It K with K|K
  .have:=h.ok x K
   grind
  .rw[D6 K];refine⟨⟨r,co _,ay,hn.1,ay⟩,B⟩
 .rw[D6 hw];have:=(h.ok y Z).2
  unfold apart;omega
def La(fL:Int->Bool)(s:C8)(W:Wk)(m:A9):LL:=if m.Ψ=0 then(if s.Κ=5\/s.Κ=9 then m.Ζ else[]) else if m.Ζ=[] then lE (fL m.aT) (W.ο m.Ψ m.aT) m.n else m.Ζ
def uc(fL:Int->Bool)(W:Wk)(m:A9):LL:=if m.Ζ=[] then iO (fL m.aT) (W.ο m.Ψ m.aT) m.n else iw (W.ο m.Ψ m.aT) m.Ζ
def Jf(fL:Int->Bool)(W:Wk)(m:A9):Int->Int->LL:=if m.Ψ=0 then W.ο else K9 W.ο m.Ψ m.aT (uc fL W m)
def JY(d:Int)(fl:List D9)(s:C8)(W:Wk)(m:A9):Int :=
 if m.Ψ=0 then(if s.Κ=5 then Pt d fl m.Ζ else if s.Κ=9 then TN fl m.aT m.Ζ else 0)
 else if m.Ζ=[] then(if dU (W.ο m.Ψ m.aT)<m.n then 10 else 0) else if jB m.Ζ (W.ο m.Ψ m.aT) then 0 else 10
def fV(d:Int)(nf:Nat)(fL:Int->Bool)(s:C8)(W:Wk)(m:A9):D9:=⟨dZ d nf W,s.F,s.Κ,s.G,s.MB,m.Ψ,m.to,m.aT,m.n,La fL s W m,jW s W m⟩
def ce(d:Int)(fl:List D9)(fL:Int->Bool)(s:C8)(W:Wk)(m:A9):Int×Wk :=
 if JY d (fl++W.Ι) s W m≠0 then(JY d (fl++W.Ι) s W m,W)
 else if dj W m>1099511627776 then(4,W)
 else if m.to=0 then(0,⟨Jf fL W m,K6 W.gr m.aT (dj W m),W.Ι++[fV d fl.length fL s W m],W.JG++[dZ d fl.length W]⟩)
 else if 4096<=(Jf fL W m m.to m.aT).length then(4,W)
 else(0,⟨K9 (Jf fL W m) m.to m.aT (bz (Jf fL W m m.to m.aT) (dZ d fl.length W,0,m.n)),K6 W.gr m.aT (dj W m),W.Ι++[fV d fl.length fL s W m],W.JG⟩)
def Q6(fl:List D9):Prop:=∀f∈fl,(∀x∈f.Ζ,π x)/\f.Ζ.length<=2047
structure MT (d:Int) (fl:List D9) (k:Nat) (W:Wk):Prop where
 ο:∀a i,LU k (dZ d fl.length W) (W.ο a i)
 gr:∀i,-(((fl.length:Int)+W.Ι.length)*1099511627776)<=W.gr i/\W.gr i<=1099511627776
 JG:W.JG.length<=W.Ι.length
 Ι:Q6 W.Ι
structure ME (m:A9):Prop where
 n:1<=m.n/\m.n<=1099511627776
 ne:m.Ψ≠m.to
 Ζ:m.Ζ=[]\/jT m.Ζ m.n
theorem ME.C0{m:A9}(h:ME m):∀x∈m.Ζ,π x:=λx K=>by
 rcases h.Ζ with q|q
 .grind
 .exact q.1.1 x K
theorem wr{d:Int}{fl:List D9}{fL:Int->Bool}{s:C8}{W:Wk}{k:Nat}{m:A9}(h:MT d fl k W)(hm:ME m)(hk:k<=2000)(he:JY d (fl++W.Ι) s W m=0)(a i:Int):LU (k+m.Ζ.length) (dZ d fl.length W) (Jf fL W m a i):=by
 unfold Jf;unfold JY at he;by_cases h0:m.Ψ=0
 .rw[μ h0];exact(h.ο a i).mono B B
 rw[Ω h0] at he ⊢;unfold K9;by_cases ha:a=m.Ψ/\i=m.aT
 case neg =>
  rw[Ω ha];exact(h.ο a i).mono B B
 rw[μ ha];have hs:=h.ο m.Ψ m.aT;have hl:=hs.len;have hn:=hm.n;unfold uc;by_cases hp:m.Ζ=[]
 .grind [Gz]
 .rw[Ω hp];exact zi hs hm.C0
theorem Dy{d:Int}{fl:List D9}{fL:Int->Bool}{s:C8}{W:Wk}{k:Nat}{m:A9}(h:MT d fl k W)(hm:ME m)(hk:k+m.Ζ.length<=2000)(he:JY d (fl++W.Ι) s W m=0):(∀x∈La fL s W m,π x)/\(La fL s W m).length<=2047:=by
 have hs:=h.ο m.Ψ m.aT;have hl:=hs.len;have hn:=hm.n;unfold JY at he;unfold La;by_cases h0:m.Ψ=0
 .rw[μ h0];split
  .exact⟨hm.C0,B⟩
  grind
 rw[Ω h0] at he ⊢;by_cases hp:m.Ζ=[]
 .rw[μ hp] at he ⊢;by_cases hq:dU (W.ο m.Ψ m.aT)<m.n
  .omega
  .exact⟨(DN hs.C0 (uu _ _ _ hs.C0 B B)).1,aQ (mX _ _ _).1 B⟩
 .rw[Ω hp];exact⟨hm.C0,B⟩
theorem nM{d:Int}{fl:List D9}{fL:Int->Bool}{s:C8}{W:Wk}{k:Nat}{m:A9}(a5:0<=d)(h:MT d fl k W)(hm:ME m)(hk:k+m.Ζ.length<=2000)(he:(ce d fl fL s W m).1=0):MT d fl (k+m.Ζ.length+1) (ce d fl fL s W m).2/\(ce d fl fL s W m).2.Ι=W.Ι++[fV d fl.length fL s W m]:=by
 unfold ce at he ⊢;by_cases J:JY d (fl++W.Ι) s W m≠0
 .grind
 rw[Ω J] at he ⊢;have a2 : JY d (fl++W.Ι) s W m=0:=B;by_cases U:dj W m>1099511627776
 .grind
 rw[Ω U] at he ⊢;have hS:=λa i=>wr (fL:=fL) h hm B a2 a i;have hP:=Dy (fL:=fL) h hm hk a2;have hn:=hm.n
 have a3:Q6 (W.Ι++[fV d fl.length fL s W m]):=λf hf=>by
  rcases It hf with hf|hf
  .exact h.Ι f hf
  .rw[D6 hf];exact hP
 have a4:∀{W2:Wk},W2.Ι=W.Ι++[fV d fl.length fL s W m]->dZ d fl.length W2=dZ d fl.length W+1:=by grind [dZ]
 have I:0<=dZ d fl.length W:=by unfold dZ;omega
 have r:∀i,-(((fl.length:Int)+(W.Ι++[fV d fl.length fL s W m]).length)*1099511627776)<=K6 W.gr m.aT (dj W m) i/\K6 W.gr m.aT (dj W m) i<=1099511627776:=λi=>by
  rw[aq,bu];unfold K6;have t1:=h.gr i;grind [dj]
 by_cases h3:m.to=0
 .rw[μ h3];refine⟨⟨λa i=>?_,r,?_,a3⟩,rfl⟩
  .rw[a4 rfl];exact(hS a i).mono B B
  .have:=h.JG
   grind
 rw[Ω h3] at he ⊢;by_cases h4:4096<=(Jf fL W m m.to m.aT).length
 .grind
 rw[Ω h4];refine⟨⟨λa i=>?_,r,?_,a3⟩,rfl⟩
 .rw[a4 rfl];dsimp only;unfold K9;split
  .exact HS ay I hn
  .exact(hS a i).mono B B
 .have:=h.JG
  grind
def Fv{α β:Type}(a:α)(g:α->List β):[a].flatMap g=g a:=by simp
end
section
open Go.V
attribute [local irreducible] Δ R GP Ο h2 O Ef A8 A CB GB V.Enters
abbrev Hd:=Int×Int×Int
def gE(h:Int×Int×Int):LV:=[E h.1,E h.2.1,E h.2.2]
def tB(t:Hd):∀u∈gE t,u.oneCell' = true:=by simp[gE,Value.oneCell']
abbrev MU:Nat:=73
def LW(x y:Hd):Int:=Pp (KI x.1 y.1) (KI x.2.1 y.2.1)
def L8(x y:Hd):Prop:=x.1<y.1\/(x.1=y.1/\x.2.1<y.2.1)
theorem oO(x y:Hd):LW x y<0↔L8 x y:=by
 grind [LW,Pp,KI,L8]
theorem zM:Go.Sort.SWO (ltOf LW) where
 irrefl x:=by grind [ltOf,oO,L8]
 trans x y z J U:=by grind [ltOf,oO,L8]
 ntrans x y z J U:=by grind [ltOf,oO,L8]
structure OZ (f:Int->Int->Int) (hs:List Hd):Prop where
 R6:hs.Pairwise L8
 mem:∀h,h∈hs↔h.2.2=f h.1 h.2.1/\h.2.2≠0
def rB{x:Hd}:¬L8 x x:=by unfold L8;omega
def Dl{x y:Hd}(h:L8 x y):¬L8 y x:=by unfold L8 at *;omega
theorem nX:∀{l m:List Hd},l.Pairwise L8->m.Pairwise L8->(∀x,x∈l↔x∈m)->l=m
 | [],[],_,_,_=>rfl
 | [],y::m,_,_,h=>by grind [az]
 | x::l,[],_,_,h=>by grind [az]
 | x::l,y::m,J,U,h=>by
  obtain⟨I,a2⟩:=List.pairwise_cons.1 J;obtain⟨b1,b2⟩:=List.pairwise_cons.1 U
  have e:x=y:=by
   rcases Jr ((h x).1 az) with e|K
   .exact e
   .rcases Jr ((h y).2 az) with e|Z
    .exact e.symm
    .exact iW (I y Z) (Dl (b1 x K))
  subst e;rw[nX a2 b2 (λz=>?_)];constructor
  .intro hz;rcases Jr ((h z).1 (aB _ hz)) with e|q
   .exact iW (e▸I z hz) rB
   .exact q
  .intro hz;rcases Jr ((h z).2 (aB _ hz)) with e|q
   .exact iW (e▸b1 z hz) rB
   .exact q
def OZ.unique{f g:Int->Int->Int}{l m:List Hd}(J:OZ f l)(U:OZ g m)(e:∀a i,f a i=g a i):l=m :=
 nX J.R6 U.R6 (λx=>by rw[J.mem,U.mem,e])
end
section
open Go.V
def MV(ys:LL)(f:Int):LL:=ys.filter (λp=>decide (p.1=f))
end
section
open Go.V
attribute [local irreducible] Δ R GP Ο h2 O Ef A8 A CB GB V.Enters
def MW(x y:gq):Prop:=x.2.1<y.2.1+y.2.2/\y.2.1<x.2.1+x.2.2
instance (x y:gq):Decidable (MW x y):=by unfold MW;infer_instance
def jm(l:LL)(n:Int):Prop:=gH l/\Iu l/\dU l=n
theorem ro{l:LL}{n:Int}:jm l n↔jT l n:=by
 constructor
 .rintro⟨J,U,h3⟩;exact⟨J,h3,((uJ J.1).2 U).trans h3⟩
 .rintro⟨J,U,h3⟩;exact⟨J,(uJ J.1).1 B,U⟩
def Cm{x y:gq}(h:apart x y):apart y x:=by unfold apart at *;omega
def Iu.perm{l m:LL}(h:Iu l)(p:m.Perm l):Iu m:=(p.pairwise_iff (λ {a b} q=>Cm q)).2 h
end
section
open Go.V
theorem Hb{a b:LL}(p:a.Perm b)(t:gq):OV a t=OV b t:=by
 induction p with
 | nil=>rfl
 | cons x p ih=>grind [OV]
 | swap x y l=>grind [OV]
 | trans p1 p2 ih1 ih2=>omega
def Dc{a b:LL}(p:a.Perm b):dU a=dU b:=by
 induction p with
 | nil=>rfl
 | cons x p ih=>rw[fR,fR,ih]
 | swap x y l=>rw[fR,fR,fR,fR];omega
 | trans p1 p2 ih1 ih2=>omega
theorem O0{ys:LL}{f:Int}{p:gq}:p∈MV ys f↔p∈ys/\p.1=f:=by
 unfold MV;grind
end
end Go.Proofs.YtlgpgjdggilkgaaGreatDoor
namespace Go.V
def A.j8{α:Type}{f:α->HP}{l l' : List α}(h:l.Perm l'){L:LH}:A (ew f l::L) (ew f l'::L):=λθ Α w s=>by
 have s1:=Sat.KY (Μ:=l.map f) s;have s2:Sat θ (l'.map f++(L++Α)) w:=s1.perm ((h.map f).append_right _);exact Sat.a8 (Μ:=l'.map f) s2
end Go.V
namespace Go.Proofs.YtlgpgjdggilkgaaGreatDoor
open Go.V
attribute [local irreducible] Δ R GP Ο h2 O Ef A8 A CB GB V.Enters
section
variable {κ α:Type}[DecidableEq κ]
def nL:∀{m:List (κ×α)} {k:κ},k∉m.map (·.1)->GO m k=m
 | [],_,_=>rfl
 | p::m,k,h=>by
  simp only[aF,dL,not_or] at h;have e:(p.1 == k)=false:=by rw[beq_eq_false_iff_ne];exact λx=>h.1 x.symm
  have ih:=nL (m:=m) (k:=k) h.2;unfold GO at ih ⊢;rw[List.filter_cons_of_pos (by rw[e];rfl),ih]
def lM:∀{m:List (κ×α)} {k:κ},dV m k=none->k∉m.map (·.1)
 | [],_,_=>by simp
 | p::m,k,h=>by
  obtain⟨q,a⟩:=p;unfold dV at h;rw[cj] at h;by_cases e:k=q
  .subst e;simp at h
  .have e2:(k == q)=false:=by rw[beq_eq_false_iff_ne];exact e
   rw[e2] at h;have:=lM (m:=m) (k:=k) h
   simp only[aF,dL,not_or];exact⟨e,this⟩
theorem mj:∀{m:List (κ×α)} {k:κ} {a:α},(m.map (·.1)).Nodup->dV m k=some a->m.Perm ((k,a)::GO m k)
 | [],_,_,_,h=>by cases h
 | p::m,k,a,hn,h=>by
  obtain⟨q,b⟩:=p;simp only[aF,el] at hn;unfold dV at h;rw[cj] at h;by_cases e:k=q
  .subst e;simp only[beq_self_eq_true] at h;obtain rfl:b=a:=by simpa using h
   have e3:GO ((k,b)::m) k=m:=by
    have:=nL hn.1
    unfold GO at this ⊢;rw[List.filter_cons_of_neg bR,this]
   rw[e3]
  .have e2:(k == q)=false:=by rw[beq_eq_false_iff_ne];exact e
   rw[e2] at h;have ih:=mj hn.2 h
   have e3:GO ((q,b)::m) k=(q,b)::GO m k:=by
    unfold GO;rw[List.filter_cons_of_pos ay]
   rw[e3];exact(List.Perm.cons _ ih).trans (List.Perm.swap _ _ _)
theorem tv{k:κ}{a:α}:∀m:List (κ×α),GO (m.map λp=>if p.1=k then(k,a) else p) k=GO m k
 | []=>rfl
 | p::m=>by
  have ih:=tv (k:=k) (a:=a) m;grind [GO]
theorem tu{m:List (κ×α)}{k:κ}{a:α}(hn:(m.map (·.1)).Nodup):(fc m k a).Perm ((k,a)::GO m k):=by
 have J:=mj (m:=fc m k a) (k:=k) (a:=a) (gY hn) (by rw[dg,μ rfl])
 have U:GO (fc m k a) k=GO m k:=by
  unfold fc;split
  .exact tv m
  .grind [GO]
 grind
