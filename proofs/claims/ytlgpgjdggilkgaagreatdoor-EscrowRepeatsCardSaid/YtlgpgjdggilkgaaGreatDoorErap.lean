/- Lemmas. -/
import Derived.Test.YtlgpgjdggilkgaaGreatDoorErao
set_option linter.all false
set_option maxHeartbeats 2000000
namespace Go.Proofs.YtlgpgjdggilkgaaGreatDoor
section
open Go.V
attribute [local irreducible] Δ R GP Ο h2 O Ef A8 A CB GB V.Enters
def sw{α β:Type}{e1:α->LV}{e2:β->LV}{s1 s2:Nat}{I a2:OA}{x1:List α}{x2:List β}:∀ι h,IC [ε e1 s1 I x1,ε e2 s2 a2 x2] ι h->IC [ε e1 s1 I x1,ε e2 s2 a2 x2] ι Hp.emp:=by
 rintro ι h ⟨F9,D7,C3,a,b,c,Ξ,e,Na,h₃,h₄,a',b',c',d',e',f'⟩;exact⟨F9,Hp.emp,Hp.emp,a,Hp.c7 _,Hp.a8 _,Hp.a8 _,e,Na,Hp.emp,Hp.emp,a',Hp.c7 _,Hp.a8 _,Hp.a8 _,e',trivial⟩
def Od(l:LL):List Int:=l.map (λx=>x.2.2)
def FS(l:LL):(Od l).length=l.length:=by simp[Od]
def zb{l:LL}{k:Nat}(h:k<l.length):(Od l)[k]! = l[k]!.2.2:=qu _ h
def rg{l:LL}{n:Int}(hl:∀x∈l,π x)(h0:0<=n)(J:n<=dU l){k:Nat}(hk:k<l.length):0<=IZ l n k/\IZ l n k<=l[k]!.2.2:=by
 have hs:=kg hl hk;have hw:=hl _ (bA hk);unfold π at hw;refine⟨ir (Int.mul_nonneg h0 B) B,?_⟩;unfold IZ;refine Int.ediv_le_of_le_mul hs ?_;rw[Int.mul_comm];exact Int.mul_le_mul_of_nonneg_left J B
theorem tM{L:LH}(n w s:Int)(h0:0<=n)(J:n<=1099511627776)(U:0<=w)(h3:w<=1152921504606846976)(h4:0<s)(h5:s<=1152921504606846976)(hq:n*w / s<=1099511627776) :
  Λ Ε 320 #[E n,E w,E s] L (C9 (.tuple #[.int .u64 (n*w / s),.int .u64 (n*w % s),E 0]) L):=by
 obtain⟨nN,rfl⟩:∃nN:Nat,n=(nN:Int):=⟨n.toNat,B⟩;obtain⟨wN,rfl⟩:∃wN:Nat,w=(wN:Int):=⟨w.toNat,B⟩;obtain⟨sN,rfl⟩:∃sN:Nat,s=(sN:Int):=⟨s.toNat,B⟩;have e1:(nN:Int)*(wN:Int) / (sN:Int)=((nN*wN / sN:Nat):Int):=by rw[Int.natCast_ediv,Int.natCast_mul]
 grind [uL]
def uC{Τ cap:Nat}{M:OA}{α:Type}[Inhabited α]{Β:α->Value}(J:OneCell Β){D:List α}{Lc:LH}{g:Nat}{cb:Array Value}(cf:α->α->Int)(hO:Go.Sort.SWO (ltOf cf))(a2:V.Enters Ε g)(r:∀ι h,IC Lc ι h->IC Lc ι Hp.emp)(I:∀x y:α,Λ Ε g (#[Β x,Β y]++cb) Lc (λu _=>u=E (cf x y)))(a3:D.length<4611686018427387904) :
  Λ Ε 321 #[ae M D.length cap,.func (.func g) #[] cb] (Υ (λx=>[Β x]) 1 Τ M cap D::Lc) (λv Y=>v=.tuple #[]/\∃ys,gc cf D ys/\Y = Υ (λx=>[Β x]) 1 Τ M cap ys::Lc) :=
 Λ.d7 (ρ:=Tryz.RW) Tryz.RX { Tryz.RX with } J cf hO HZ a2 r I a3
theorem oW(n:Nat):(List.finRange n).map (λi=>i.val)=List.range n:=by
 apply eN
 .simp
 grind
theorem nZ{f:Nat->Int}{n k:Nat}(h:k<n):((List.range n).map f)[k]! = f k:=by
 grind
def tX(Α:Nat->Int)(n:Nat)(i j:Fin n):Int:=Qs ((List.range n).map Α) i.val j.val
theorem nl(Α:Nat->Int)(n:Nat)(i j:Fin n):tX Α n i j<0↔Α j.val<Α i.val\/(Α j.val=Α i.val/\i.val<j.val):=by
 grind [tX,Gd]
theorem CA(Α:Nat->Int)(n:Nat):Go.Sort.SWO (ltOf (tX Α n)) where
 irrefl x:=by grind [ltOf,nl]
 trans x y z J U:=by grind [ltOf,nl]
 ntrans x y z J U:=by grind [ltOf,nl]
abbrev R5:Nat:=293
abbrev An:Nat:=202
abbrev va:=Ux [.ev 10,.ef 11,.ev 12,.ef 13,.ev 14,.ef 15]
def bY{φ ψ:Prop}(k:ψ)(h:Hid ψ->φ:=by intro k;(with_reducible apply Δ.a8);first|refine Δ.dr 100 23 va (Hid.out k)):φ:=h ⟨k⟩
def JE{φ ψ:Prop}(k:ψ)(h:Hid ψ->φ:=by intro k;(repeat (first|refine aa ?_|intro sh|refine bY ?_));(repeat revert sh);exact Hid.out k):φ:=h ⟨k⟩
theorem Ar{L:LH}(M:OA)(c:Nat)(l:LL)(n:Int)[hrd:C7 L M Int (a0 .i64) 1 (Od l)](e2:l.length<=4096)(hl:∀x∈l,π x)(c3:l≠[])(h0:0<=n)(J:n<=dU l)(U:n<=1099511627776) :
  Λ Ε 312 #[E n,ae M l.length c] L (λv Y=>∃b2 a7,v=.tuple #[ae b2 l.length a7,E 0]/\Y = Υ (a0 .i64) 1 kR b2 a7 ((List.range l.length).map (K8 l n))::L):=by
 have a9:0<l.length:=ay;have e8:=FS l;have hs:=kg hl a9;have d3:=kh hl l.length B;rw[lK] at d3;have hm:(l.length:Int)*1099511627776<=4096*1099511627776:=B;refine Λ.bd ?_;refine JE ?_;intros;refine R.ca (kX n) ?_;rintro _ L ⟨rfl,rfl⟩;rw[bI (show jk n from⟨h0,U⟩)];repeat first|refine Δ.sm 4 ?_|refine cR ?_|intro _|refine bY ?_
 refine Δ.c7 (α:=Unit) (λ_=>True) (λ_=>[(0,E n),(1,ae M l.length c),(6,E (dU l))]) (λ_=>L) ?_ ?_
 .refine JE ?_;intros;refine Δ.loop (α:=Nat) (λi=>i<=l.length) (λi=>[(0,E n),(1,ae M l.length c),(6,E (dU (l.take i))),(21,ae M l.length c),(22,E l.length),(23,E (i:Int))]) (λ_=>L) (λi=>l.length - i) 0 B aA (A.refl _) ?_;intro i hi;by_cases r:i<l.length
  case neg =>
   have hin:i=l.length:=B;subst hin;rw[lK];refine JE ?_;intros;exact⟨(),trivial,aA,A.refl _⟩
  have a5:(i:Int).toNat=i:=B;have b0:=hl _ (bA r);unfold π at b0;have b7:=kh hl i B;have b8:=fG l r;have c2:(i:Int)*1099511627776<=4096*1099511627776:=B;refine JE ?_;intros;rw[a5,zb r];refine R.ca (kX l[i]!.2.2) ?_;rintro _ L ⟨rfl,rfl⟩;rw[bI (show jk l[i]!.2.2 from⟨B,B⟩)];refine JE ?_;intros;refine⟨i+1,B,B,?_,A.refl _⟩;rw[b8,bC i];exact aA
 rintro _ _;refine JE ?_;intros;refine R.ef (Ef.makeSlice (a0 .i64) 0 rfl rfl rfl B B B) ac ?_;rintro _ _⟨bp,rfl,rfl⟩;rw[aZ,<-lm l.length (IZ l n)];refine JE ?_;intros;refine R.ef (Ef.makeSlice (a0 .u64) 0 rfl rfl rfl B B B) ac ?_;rintro _ _⟨br,rfl,rfl⟩;rw[aZ,<-lm l.length (JM l n)];refine JE ?_;intros;rename_i bv;refine R.ef (Ef.makeSlice (a0 .i64) 0 rfl rfl rfl B B B) ac ?_;rintro _ _⟨bo,rfl,rfl⟩;rw[aZ,<-lm l.length (λk:Nat=>(k:Int))];repeat first|refine Δ.sm 19 ?_|refine cR ?_|intro _|refine bY ?_
 refine Δ.c7 (α:=Unit) (λ_=>True) (λ_=>[(9,ae (some ⟨bp,0,none⟩) l.length l.length),(10,al bv),(11,ae (some ⟨bo,0,none⟩) l.length l.length),(12,E (gX l n))])
  (λ_=>Υ (a0 .i64) 1 kR (some ⟨bp,0,none⟩) l.length ((List.range l.length).map (IZ l n))::obj bv An [ae (some ⟨br,0,none⟩) l.length l.length]::Υ (a0 .u64) 1 R5 (some ⟨br,0,none⟩) l.length ((List.range l.length).map (JM l n))::Υ (a0 .i64) 1 kR (some ⟨bo,0,none⟩) l.length ((List.range l.length).map (λk:Nat=>(k:Int)))::L) ?_ ?_
 .refine JE ?_;intros
  refine Δ.loop (α:=Nat) (λi=>i<=l.length) (λi=>[(0,E n),(1,ae M l.length c),(6,E (dU l)),(9,ae (some ⟨bp,0,none⟩) l.length l.length),(10,al bv),(11,ae (some ⟨bo,0,none⟩) l.length l.length),(12,E (n - dm i (IZ l n))),(49,E l.length),(50,E (i:Int))])
   (λi=>Υ (a0 .i64) 1 kR (some ⟨bp,0,none⟩) l.length (gL l.length i (IZ l n))::obj bv An [ae (some ⟨br,0,none⟩) l.length l.length]::Υ (a0 .u64) 1 R5 (some ⟨br,0,none⟩) l.length (gL l.length i (JM l n))::Υ (a0 .i64) 1 kR (some ⟨bo,0,none⟩) l.length (gL l.length i (λk:Nat=>(k:Int)))::L) (λi=>l.length - i) 0 B ?_ ag ?_
  .rw[lh,Int.sub_zero];exact aA
  intro i hi;have d5:=mq l.length i (IZ l n);have d6:=mq l.length i (JM l n);have e0:=mq l.length i (λk:Nat=>(k:Int));by_cases r:i<l.length
  case neg =>
   have hin:i=l.length:=B;subst hin;rw[mu,mu,mu,<-ou];refine JE ?_;intros;exact⟨(),trivial,aA,by exact ag⟩
  have a5:(i:Int).toNat=i:=B;have b0:=hl _ (bA r);unfold π at b0
  have e7:0<=dm i (IZ l n)/\dm i (IZ l n)<=dU (l.take i):=by
   rw[show dU (l.take i)=dm i (λk=>l[k]!.2.2) by unfold dm;rw[nt l i hi]];refine⟨?_,ni (λk hk=>(rg hl h0 J B).2)⟩;have:=ni (n:=i) (f:=λ_=>0) (g:=IZ l n) (λk hk=>(rg hl h0 J B).1)
   rw[pQ] at this;omega
  have b7:=kh hl i B;have c2:(i:Int)*1099511627776<=4096*1099511627776:=B;have d4:=gd i (IZ l n);obtain⟨q1,q2⟩:=rg hl h0 J r;have e5:0<=JM l n i:=dz _ B;have e6:JM l n i<dU l:=cQ _ hs;refine JE ?_;intros;rw[a5,zb r];refine R.cr (tM n l[i]!.2.2 (dU l) h0 U B B hs B (by have:=q2;unfold IZ at this;omega)) ?_;rw[show n*l[i]!.2.2 / dU l=IZ l n i from rfl,show n*l[i]!.2.2 % dU l=JM l n i from rfl];refine JE ?_;intros;have h3:(gL l.length i (λk:Nat=>(k:Int))).set i (i:Int)=gL l.length (i+1) (λk:Nat=>(k:Int)):=mo _ r;rw[a5,mo (IZ l n) r,mo (JM l n) r,h3];refine⟨i+1,B,B,?_,by exact ag⟩;rw[d4,show n - (dm i (IZ l n)+IZ l n i)=n - dm i (IZ l n) - IZ l n i by omega,bC i];exact aA
 rintro _ _;obtain⟨c1,e1⟩:=sV (n:=n) hl c3;haveI:Inhabited (Fin l.length):=⟨⟨0,a9⟩⟩
 have d2:((List.range l.length).map (JM l n)).length=l.length:=by simp
 have d0:(List.range l.length).map (λk:Nat=>(k:Int))=(List.finRange l.length).map (λi:Fin l.length=>(i.val:Int)):=by
  rw[<-oW,cO];rfl
 have b9:(List.finRange l.length).length=l.length:=by simp
 rw[d0];refine Δ.υ (Y:=Υ (λx:Fin l.length=>[Value.int .i64 (x.val:Int)]) 1 kR (some ⟨bo,0,none⟩) l.length (List.finRange l.length)::ε pM 1 (some ⟨bv,0,none⟩) [⟨some ⟨br,0,none⟩,((List.range l.length).map (JM l n)).length,l.length⟩]::ε (a0 .u64) 1 (some ⟨br,0,none⟩) ((List.range l.length).map (JM l n))::Υ (a0 .i64) 1 kR (some ⟨bp,0,none⟩) l.length ((List.range l.length).map (IZ l n))::L) ?_ ?_
 .refine(A.My (some ⟨br,0,none⟩)).trans ?_;refine(A.at (Μ:=obj bv An [ae (some ⟨br,0,none⟩) l.length l.length]) (A.d9 (Β:=pM) (sz:=1) (D:=[⟨some ⟨br,0,none⟩,((List.range l.length).map (JM l n)).length,l.length⟩]) (by rw[d2];rfl) rfl (λ_ _=>rfl) bR)).trans ?_;refine(A.My (some ⟨bv,0,none⟩)).trans ?_;refine(A.at (Μ:=Υ (a0 .i64) 1 kR (some ⟨bo,0,none⟩) l.length ((List.finRange l.length).map (λi:Fin l.length=>(i.val:Int)))) (A.n7 (f:=λi:Fin l.length=>(i.val:Int)) (Β:=a0 .i64))).trans ?_;show A (Υ (λx:Fin l.length=>[Value.int .i64 (x.val:Int)]) 1 kR (some ⟨bo,0,none⟩) l.length (List.finRange l.length)::_) _;exact ag
 refine JE ?_;intros;have a3:=uC (Τ:=kR) (cap:=(List.finRange l.length).length) (M:=some ⟨bo,0,none⟩) (Β:=λi:Fin l.length=>Value.int .i64 (i.val:Int)) (by intro x;rfl) (D:=List.finRange l.length) (Lc:=[ε pM 1 (some ⟨bv,0,none⟩) [⟨some ⟨br,0,none⟩,((List.range l.length).map (JM l n)).length,l.length⟩],ε (a0 .u64) 1 (some ⟨br,0,none⟩) ((List.range l.length).map (JM l n))]) (g:=322) (cb:=#[al bv]) (tX (JM l n) l.length) (CA _ _) TD.1 sw (λx y=>xw bv (some ⟨br,0,none⟩) l.length ((List.range l.length).map (JM l n)) x.val y.val B B B) B;rw[b9] at a3;(first|refine R.ef (Ef.call (a3) rfl eY) ac ?_);rintro _ _⟨_,⟨rfl,ys,⟨b4,b5⟩,rfl⟩,hL⟩;simp only[aj,ak] at hL;subst hL
 have a2:(ys.map (λi=>i.val)).Perm (List.range l.length):=by
  rw[<-oW];exact b4.map _
 have a4:(ys.map (λi=>i.val)).Pairwise (NP (JM l n)):=by
  refine uQ a2 ?_;rw[List.pairwise_map];refine b5.imp ?_;intro a b b6;rw[nl] at b6;omega
 obtain⟨o,ho⟩:∃o,o=ys.map (λi=>i.val):=⟨_,rfl⟩;rw[<-ho] at a2 a4;have c4:o.length=l.length:=by have:=a2.length_eq;simpa using this
 have e3:(o.map (λk:Nat=>(k:Int))).length=l.length:=by simpa using c4
 have c6:∀i,i<o.length->(o.map (λk:Nat=>(k:Int)))[i]! = (o[i]! : Int):=ay;have c5:∀i,i<o.length->o[i]! < l.length:=ay;refine R.υ (Y:=Υ (a0 .i64) 1 kR (some ⟨bo,0,none⟩) l.length (o.map (λk:Nat=>(k:Int)))::Υ (a0 .i64) 1 kR (some ⟨bp,0,none⟩) l.length ((List.range l.length).map (IZ l n))::L) ?_ ?_
 .have e:ys.map (λi:Fin l.length=>(i.val:Int))=o.map (λk:Nat=>(k:Int)):=by rw[ho,cO];rfl
  rw[<-e];refine(show A _ (Υ (a0 .i64) 1 kR (some ⟨bo,0,none⟩) l.length (ys.map (λi:Fin l.length=>(i.val:Int)))::_) from A.n5 (f:=λi:Fin l.length=>(i.val:Int)) (Β:=a0 .i64)).trans ?_;exact ag
 clear b5 b4 ho ys;refine JE ?_;intros
 refine Δ.loop (α:=Nat) (λi=>(i:Int)<=gX l n) (λi=>[(9,ae (some ⟨bp,0,none⟩) l.length l.length),(11,ae (some ⟨bo,0,none⟩) l.length l.length),(85,E (gX l n)),(86,E (i:Int))])
  (λi=>Υ (a0 .i64) 1 kR (some ⟨bo,0,none⟩) l.length (o.map (λk:Nat=>(k:Int)))::Υ (a0 .i64) 1 kR (some ⟨bp,0,none⟩) l.length ((List.range l.length).map (λk=>IZ l n k+if k∈o.take i then 1 else 0))::L) (λi=>(gX l n).toNat - i) 0 c1 aA ?_ ?_
 .have e:(List.range l.length).map (λk=>IZ l n k+if k∈o.take 0 then 1 else 0)=(List.range l.length).map (IZ l n):=cK ay;rw[e];exact ag
 intro i hi;by_cases r:(i:Int)<gX l n
 case neg =>
  have e:(List.range l.length).map (λk=>IZ l n k+if k∈o.take i then 1 else 0)=(List.range l.length).map (K8 l n):=by
   apply cK;intro k hk;have c0:=List.mem_range.1 hk;unfold K8;rw[uH];congr 1;have h3:=kr a2 a4 (m:=i) c0;by_cases h4:jM (JM l n) l.length k<i
   .grind
   .grind
  rw[e];refine JE ?_;intros;exact KX.en ⟨some ⟨bp,0,none⟩,l.length,rfl,rfl⟩
 have a5:(i:Int).toNat=i:=B;have a6:i<o.length:=B;have I:=c5 i a6;have e4:((List.range l.length).map (λk=>IZ l n k+if k∈o.take i then 1 else 0)).length=l.length:=by simp
 have d1:((List.range l.length).map (λk=>IZ l n k+if k∈o.take i then 1 else 0))[o[i]!]! = IZ l n o[i]!:=by
  rw[nZ I,Ω,Int.add_zero];intro b1;have h3:=(kr a2 a4 I).1 b1;rw[C5 a6,mS a2 a4 a6] at h3;omega
 obtain⟨q1,q2⟩:=rg hl h0 J I;have b0:=hl _ (bA I);unfold π at b0;refine JE ?_;intros;rw[a5,c6 i a6];have b3:((o[i]! : Nat):Int).toNat=o[i]!:=B;refine JE ?_;intros;rw[b3,d1];refine JE ?_;intros
 have e:((List.range l.length).map (λk=>IZ l n k+if k∈o.take i then 1 else 0)).set o[i]! (IZ l n o[i]! + 1)=(List.range l.length).map (λk=>IZ l n k+if k∈o.take (i+1) then 1 else 0):=by
  apply eN
  .simp
  .intro k h3 h4;have hk:k<l.length:=by simpa using h4
   rw[eK];simp only[eM,List.getElem_range];have m1:=kr a2 a4 (m:=i) hk;have m2:=kr a2 a4 (m:=i+1) hk;by_cases h5:o[i]! = k
   .grind [mS]
   .rw[Ω h5];congr 1
    have h6:jM (JM l n) l.length k≠i:=by
     intro h7;refine h5 (Hl (Α:=JM l n) I hk ?_);rw[h7,C5 a6];exact mS a2 a4 a6
    grind
 rw[b3,e];refine⟨i+1,B,B,?_,by exact ag⟩;rw[bC i];exact aA
instance:DecidablePred π:=λl=>by unfold π;infer_instance
def gH(D:LL):Prop:=(∀x∈D,π x)/\D.length<=4096
instance (D:LL):Decidable (gH D):=by unfold gH;infer_instance
def LA(f:Int)(z:LL×LL×Int×Int)(x:gq):LL×LL×Int×Int :=
 if x.1<f\/(x.1=f/\x.2.1+x.2.2<z.2.2.1) then(z.1++[x],z.2)
 else if f<x.1\/z.2.2.2<x.2.1 then(z.1,z.2.1++[x],z.2.2)
 else(z.1,z.2.1,min z.2.2.1 x.2.1,max z.2.2.2 (x.2.1+x.2.2))
def Lm(s:LL)(l:gq):LL×LL×Int×Int:=s.foldl (LA l.1) ([],[],l.2.1,l.2.1+l.2.2)
def MS(s:LL)(l:gq):LL:=(Lm s l).1++[(l.1,(Lm s l).2.2.1,(Lm s l).2.2.2 - (Lm s l).2.2.1)]++(Lm s l).2.1
structure Qt (l:gq) (n:Nat) (z:LL×LL×Int×Int):Prop where
 len:z.1.length+z.2.1.length<=n
 XQ:∀x∈z.1,π x
 XR:∀x∈z.2.1,π x
 lo:0<=z.2.2.1/\z.2.2.1<=l.2.1
 hi:l.2.1+l.2.2<=z.2.2.2/\z.2.2.2<=1099511627776
theorem Qt.step{l:gq}{n:Nat}{z:LL×LL×Int×Int}(h:Qt l n z){x:gq}(K:π x):Qt l (n+1) (LA l.1 z x):=by
 obtain⟨J,U,h3,h4,h5⟩:=h;have I:=K;unfold π at I;have r:∀{t:LL},(∀y∈t,π y)->∀y∈t++[x],π y:=ay;unfold LA;split
 .exact⟨ay,r U,h3,h4,h5⟩
 .split
  .exact⟨ay,U,r h3,h4,h5⟩
  .exact⟨ay,U,h3,ay,ay⟩
theorem Dr{s:LL}{l:gq}{i:Nat}(h:i<s.length):Lm (s.take (i+1)) l=LA l.1 (Lm (s.take i) l) s[i]!:=by
 grind [Lm,av]
def vX{s:LL}{l:gq}(hl:π l)(hs:∀x∈s,π x):∀i,i<=s.length->Qt l i (Lm (s.take i) l)
 | 0,_=>by
  unfold π at hl;exact⟨au _,(λ_ h=>by cases h),(λ_ h=>by cases h),⟨hl.2.1,co _⟩,⟨co _,by show l.2.1+l.2.2<=_;omega⟩⟩
 | i+1,h=>by
  rw[Dr B];exact(vX hl hs i B).step (hs _ (bA B))
theorem GH{s:LL}{l:gq}(hl:π l)(hs:∀x∈s,π x):(MS s l).length<=s.length+1/\∀x∈MS s l,π x:=by
 have h:=vX hl hs s.length B;rw[cn] at h;obtain⟨J,U,h3,h4,h5⟩:=h;grind [π,MS]
def JN(l:LL):LL:=l.foldl MS []
theorem jf{α β:Type}(f:β->α->β)(b:β)[Inhabited α]{l:List α}{i:Nat}(h:i<l.length):(l.take (i+1)).foldl f b=f ((l.take i).foldl f b) l[i]!:=by
 grind [av]
theorem ox{l:LL}(h:∀x∈l,π x):∀i,i<=l.length->(JN (l.take i)).length<=i/\∀x∈JN (l.take i),π x
 | 0,_=>⟨au _,(λ_ q=>by cases q)⟩
 | i+1,hi=>by
  obtain⟨J,U⟩:=ox h i B;have e:JN (l.take (i+1))=MS (JN (l.take i)) l[i]!:=jf MS [] B;rw[e];obtain⟨h3,h4⟩:=GH (h _ (bA (B:i<l.length))) U;exact⟨B,h4⟩
theorem py{l:LL}(h:∀x∈l,π x):(JN l).length<=l.length/\∀x∈JN l,π x:=by
 grind [ox,cn]
def apart(y z:gq):Prop:=y.1≠z.1\/y.2.1+y.2.2<=z.2.1\/z.2.1+z.2.2<=y.2.1
def Iu(l:LL):Prop:=l.Pairwise apart
def LC(x y:gq):LL :=
 if y.1≠x.1\/x.2.1+x.2.2<=y.2.1\/y.2.1+y.2.2<=x.2.1 then[y]
 else(if y.2.1<x.2.1 then[(x.1,y.2.1,x.2.1 - y.2.1)] else[])++(if x.2.1+x.2.2<y.2.1+y.2.2 then[(x.1,x.2.1+x.2.2,y.2.1+y.2.2 - x.2.1 - x.2.2)] else[])
def IP(l:LL)(x:gq):LL:=l.flatMap (LC x)
theorem zn{x y p:gq}(K:π x)(Z:π y)(hp:p∈LC x y):π p/\p.1=y.1/\y.2.1<=p.2.1/\p.2.1+p.2.2<=y.2.1+y.2.2:=by
 unfold π at K Z;grind [LC,π]
theorem Ao{x:gq}(y:gq)(K:0<=x.2.2):Iu (LC x y):=by
 unfold Iu LC;split
 .grind
 .rename_i hn;split
  .grind [apart]
  .split
   .grind
   .exact List.Pairwise.nil
theorem sS{x:gq}:∀{l:LL},(∀z∈l,apart z x)->IP l x=l
 | [],_=>rfl
 | z::l,h=>by
  have e:IP (z::l) x=LC x z++IP l x:=aR
  have e1:LC x z=[z]:=by
   unfold LC;have:=h z az
   unfold apart at this;rw[μ];omega
  rw[e,e1,sS (λy Z=>h y (aB _ Z))];rfl
theorem pu{x:gq}{l:LL}(K:π x)(hl:∀y∈l,π y){p:gq}(hp:p∈IP l x):∃y∈l,π p/\p.1=y.1/\y.2.1<=p.2.1/\p.2.1+p.2.2<=y.2.1+y.2.2:=by
 obtain⟨y,Z,hp⟩:=List.mem_flatMap.1 hp;exact⟨y,Z,zn K (hl y Z) hp⟩
theorem rX{x:gq}{l:LL}(K:π x)(hl:∀y∈l,π y):∀p∈IP l x,π p:=by grind [pu]
theorem li{x:gq}(K:π x):∀{l:LL},(∀y∈l,π y)->Iu l->Iu (IP l x)/\(IP l x).length<=l.length+1
 | [],_,_=>⟨List.Pairwise.nil,aC _⟩
 | y::l,hl,ha=>by
  obtain⟨I,a2⟩:=List.pairwise_cons.1 ha;have r:∀z∈l,π z:=ay;obtain⟨i1,i2⟩:=li K r a2;have e:IP (y::l) x=LC x y++IP l x:=aR;have Z:=hl y ay;rw[e];refine⟨List.pairwise_append.2 ⟨Ao y (by unfold π at K;omega),i1,λp hp q hq=>?_⟩,?_⟩
  .grind [zn,pu,apart]
  .rw[aq,aO];by_cases U:(LC x y).length<=1
   .omega
   grind [LC,sS,apart]
def iA(set:LL)(y:gq):LL:=set.foldl IP [y]
theorem rj{set:LL}{y:gq}(hs:∀x∈set,π x)(Z:π y):∀i,i<=set.length->(∀p∈iA (set.take i) y,π p)/\Iu (iA (set.take i) y)/\(iA (set.take i) y).length<=i+1
 | 0,_=>⟨λp hp=>by rw[D6 hp];exact Z,ec _ _,au _⟩
 | i+1,hi=>by
  obtain⟨J,U,h3⟩:=rj hs Z i B;have e:iA (set.take (i+1)) y=IP (iA (set.take i) y) set[i]!:=jf IP [y] B;rw[e];have K:=hs _ (bA (B:i<set.length));obtain⟨h4,h5⟩:=li K J U;exact⟨rX K J,h4,B⟩
theorem ED{set:LL}{y:gq}(hs:∀x∈set,π x)(Z:π y):(∀p∈iA set y,π p)/\Iu (iA set y)/\(iA set y).length<=set.length+1:=by
 grind [rj,cn]
def iw(s set:LL):LL:=s.foldl (λout y=>(iA set y).foldl bz out) []
theorem uU{Θ out:LL}(hr:∀p∈Θ,π p)(ho:∀p∈out,π p):∀i,i<=Θ.length->(∀p∈(Θ.take i).foldl bz out,π p)/\((Θ.take i).foldl bz out).length<=out.length+i
 | 0,_=>ay
 | i+1,hi=>by
  obtain⟨J,U⟩:=uU hr ho i B;rw[jf bz out B];have K:=hr _ (bA (B:i<Θ.length));have:=oI ((Θ.take i).foldl bz out) Θ[i]!
  refine⟨vO J ?_,B⟩;unfold π at K;unfold H8;omega
theorem qT{s set:LL}(h:∀x∈s,π x)(hs:∀x∈set,π x):∀i,i<=s.length->(∀p∈iw (s.take i) set,π p)/\(iw (s.take i) set).length<=i*(set.length+1)
 | 0,_=>⟨(λ_ q=>by cases q),aC _⟩
 | i+1,hi=>by
  obtain⟨J,U⟩:=qT h hs i B;have e:iw (s.take (i+1)) set=(iA set s[i]!).foldl bz (iw (s.take i) set):=jf (λout y=>(iA set y).foldl bz out) [] B;obtain⟨r1,_,r3⟩:=ED hs (h _ (bA (B:i<s.length)));have h3:=uU r1 J (iA set s[i]!).length (au _);rw[cn] at h3;rw[e];refine⟨h3.1,?_⟩;have h4:=h3.2;have e2:(i+1)*(set.length+1)=i*(set.length+1)+(set.length+1):=gA _ _;omega
theorem uq{s set:LL}(h:∀x∈s,π x)(hs:∀x∈set,π x):(∀p∈iw s set,π p)/\(iw s set).length<=s.length*(set.length+1):=by
 grind [qT,cn]
def jo(a b:LL):LL:=iw (JN a) b
def nE(a b:LL):LL:=jo a (jo a b)
def jB(a b:LL):Prop:=gH a/\gH b/\jo a b=[]
instance (a b:LL):Decidable (jB a b):=by unfold jB;infer_instance
def td{a b:LL}(ha:∀x∈a,π x)(hb:∀x∈b,π x):(∀p∈jo a b,π p)/\(jo a b).length<=a.length*(b.length+1):=by
 obtain⟨J,U⟩:=py ha;obtain⟨h3,h4⟩:=uq U hb;exact⟨h3,aQ h4 (bK _ J)⟩
def Mk:List Int:=[0,0,0,0,0,0,0,0,0,1,1,0,0,0,0,0,0,0,0,0,0,0,0,0,0,0,0,0,0,0,0,0,1,0,0,2,0,0,0,0,7,7,0,7,7,6,7,0,4,4,4,4,4,4,4,4,4,4,7,7,7,7,7,0,0,0,0,0,0,0,0,0,0,0,0,0,0,0,0,0,0,0,0,0,0,0,0,0,0,0,0,0,0,0,0,5,0,3,3,3,3,3,3,3,3,3,3,3,3,3,3,3,3,3,3,3,3,3,3,3,3,3,3,7,0,7,0,0]
abbrev bO:HP:=ε (a0 .u8) 1 (some ⟨0,0,none⟩) Mk
def rC:Mk.length=128:=Γ
def fT(s:ByteArray)(i:Int):Int:=if i<s.size/\(fx s)[i.toNat]! < 128 then Mk[((fx s)[i.toNat]!).toNat]! else 0
def ky{L:LH}(s:ByteArray)(i:Int)(h0:0<=i)(hs:s.size<=1000000)[C7 L (some ⟨0,0,none⟩) Int (a0 .u8) 1 Mk] :
  Λ Ε 325 #[.string s,E i] L (C9 (.int .u8 (fT s i)) L):=by
 have I:=rC;refine Λ.bd ?_;by_cases J:i<s.size
 case neg =>
  have e:fT s i=0:=Ω λh=>J h.1;rw[e];repeat first|refine run ?_|intro
  exact KX.en ⟨rfl,rfl⟩
 have hb:=CX s _ (bA (show i.toNat<(fx s).length by rw[rr];omega));by_cases U:(fx s)[i.toNat]! < 128
 case neg =>
  have e:fT s i=0:=Ω λh=>U h.2;rw[e];repeat first|refine run ?_|intro
  exact KX.en ⟨rfl,rfl⟩
 have e:fT s i=Mk[((fx s)[i.toNat]!).toNat]!:=μ ⟨J,U⟩;rw[e];obtain⟨c,hc⟩:∃c,(fx s)[i.toNat]! = c:=⟨_,rfl⟩;rw[hc] at hb U ⊢;have hm:((fx s)[i.toNat]!).toNat*1=c.toNat*1+0:=by rw[hc];omega
 have r:0+((fx s)[i.toNat]!).toNat*1=c.toNat*1+0:=by rw[hc];omega
 repeat first|refine run ?_|intro
 refine R.ev (O.m8 (j:=c.toNat) (o:=0) rfl r B ac rfl) ac ?_;repeat first|refine run ?_|intro
 exact KX.en ⟨rfl,rfl⟩
structure OU (s:ByteArray):Prop where
 size:1<=s.size/\s.size<=16
 first:fT s 0=3
 ic:∀i:Nat,i<s.size->fT s i=3\/fT s i=4\/fT s i=5
def Dm(s:ByteArray):fT s s.size=0:=Ω λh=>iW h.1 B
def sU{L:LH}(s:ByteArray)(i:Int)(h0:0<=i)(hs:s.size<=1000000)(hk:i<s.size->fT s i≠1/\fT s i≠2)[C7 L (some ⟨0,0,none⟩) Int (a0 .u8) 1 Mk] :
  Λ Ε 316 #[.string s,E i] L (C9 (E i) L):=by
 refine Λ.bd ?_;repeat first|refine run ?_|intro
 refine Δ.f5 1 (GR.step ?_);by_cases J:i<s.size
 case neg =>
  repeat first|refine run ?_|intro
  exact KX.en ⟨rfl,rfl⟩
 obtain⟨r,I⟩:=hk J;repeat first|refine run ?_|intro
 refine R.cr (ky s i h0 hs) ?_;repeat first|refine run ?_|intro
 exact KX.en ⟨rfl,rfl⟩
structure Tok where
 Κ:Int
 text:ByteArray
 n:Int
 pos:Int
 deriving Inhabited
def Nk(t:Tok):LV:=[E t.Κ,.string t.text,E t.n,E t.pos]
def wF(t:Tok):∀u∈Nk t,u.oneCell' = true:=by simp[Nk,Value.oneCell']
instance:Mf Nk:=⟨wF⟩
def iM(s:ByteArray):Tok:=⟨0,s,0,0⟩
abbrev Pq:Nat:=374
abbrev xH:=Ux [.ef 10]
def fK{φ ψ:Prop}(k:ψ)(h:Hid ψ->φ:=by intro k;(with_reducible apply Δ.a8);first|refine Δ.dr 99 20 xH (Hid.out k)):φ:=h ⟨k⟩
theorem CY{L:LH}(s:ByteArray)(hw:OU s)[C7 L (some ⟨0,0,none⟩) Int (a0 .u8) 1 Mk] :
  Λ Ε 317 #[.string s,E 0] L (C9 (.tuple #[bh (Nk (iM s)),E 0]) L):=by
 have a5:=hw.size;refine Λ.bd ?_;repeat first|refine run ?_|intro _|refine fK ?_
 rename_i b4 b6;refine R.cr (ky s 0 ac B) ?_;rw[hw.first];repeat first|refine run ?_|intro _|refine fK ?_
 refine R.cr (ky s (0+1) ac B) ?_;repeat first|refine run ?_|intro _|refine fK ?_
 refine Δ.loop (α:=Nat) (λe=>1<=e/\e<=s.size) (λe=>[(0,.string s),(1,E 0),(4,al b4),(6,al b6),(7,E (e:Int)),(8,.int .u8 (fT s (e:Int)))])
  (λ_=>obj b6 Pq [E 0,.string ⟨#[]⟩,E 0,E 0]::obj b4 Pq [E 0,.string ⟨#[]⟩,E 0,E 0]::L) (λe=>s.size - e) 1 ay aA (A.refl _) ?_
 rintro e ⟨a3,a4⟩;by_cases a2:e<s.size
 case neg =>
  have r:e=s.size:=B;subst r;rw[Dm];repeat first|refine run ?_|intro _|refine fK ?_
  rw[Int.toNat_zero,aZ,yQ];exact KX.a8 (by exact B6.cell rfl aS (B6.tmp rfl (B6.nil))) (A.trans A.drop A.drop) ⟨rfl,rfl⟩
 have hr:=hw.ic e a2
 have I:∀{q:Prop},(fT s (e:Int)=3->q)->(fT s (e:Int)≠3->fT s (e:Int)=4->q)->(fT s (e:Int)≠3->fT s (e:Int)≠4->fT s (e:Int)=5->q)->q:=by
  intro q a b c;rcases hr with h|h|h
  .exact a h
  .grind
  .grind
 refine I ?_ ?_ ?_<;>intros
 all_goals
  repeat first|refine run ?_|intro _|refine fK ?_
  refine R.cr (ky s ((e:Int)+1) B B) ?_
  repeat first|refine run ?_|intro _|refine fK ?_
  refine⟨e+1,⟨B,B⟩,B,?_,A.refl _⟩
  rw[bC e]
  exact aA
theorem Fw{L0:LH}(bx:Nat)(s:ByteArray)(hw:OU s)[hrd:C7 L0 (some ⟨0,0,none⟩) Int (a0 .u8) 1 Mk] :
  Iter Ε 315 [al bx] [[bh (Nk (iM s)),E 0]] (obj bx 9 [.string s]::L0):=by
 have a2:=hw.size;have I:=hw.first;have a3:(iM s).text.size=s.size:=rfl;intro l Jj Jx Z;have r:=Z 0 bR;simp only[List.getElem_cons_zero] at r;show Λ _ _ _ _ (λ_ Y=>Y = Jj 1::_\/_);refine Λ.bd (args:=[.func (.yield l) #[] #[],al bx]) ?_;repeat first|refine run ?_|intro
 refine R.cr (sU s 0 ac B B) ?_;repeat first|refine run ?_|intro
 refine Δ.f5 2 (GR.step ?_);repeat first|refine run ?_|intro
 refine R.cr (CY s hw) ?_;repeat first|refine run ?_|intro _
 ((with_reducible apply R.a8);refine R.OG (A8.yield (r) rfl rfl eY) ac ?_);rintro _ _⟨_,(⟨rfl,rfl⟩|⟨rfl,rfl⟩),hL⟩
 .simp only[aj,ak] at hL;subst hL;repeat first|refine run ?_|intro
  refine R.cr (sU s (0+((iM s).text.size:Int)) B B B) ?_;repeat first|refine run ?_|intro
  refine GR.step ?_;repeat first|refine run ?_|intro
  exact KX.c8 aw (A.c7 A.drop) (.inl rfl)
 .simp only[aj,ak] at hL;subst hL;repeat first|refine run ?_|intro
  exact KX.a8 aw (A.c7 A.drop) ay
abbrev AR:List Im:=[.ev 0,.ev 1,.ev 2,.ef 3,.ef 4,.ef 5]
def gu{φ ψ:Prop}(k:ψ)(h:Hid ψ->φ:=by intro k;first|refine R.ci (f:=308) (Hid.out k)|refine Ο.ci (f:=308) (Hid.out k)|refine R.cf (f:=308) rfl (Hid.out k)|refine Ο.cf (f:=308) rfl (Hid.out k)|refine KX.Nc (Hid.out k)):φ:=h ⟨k⟩
def gt{φ ψ:Prop}(k:ψ)(h:Hid ψ->φ:=by intro k;(with_reducible apply Δ.a8);first|refine Δ.dr 25 8 AR (Hid.out k)):φ:=h ⟨k⟩
def xo{L:LH}(s:ByteArray)(hw:OU s)[C7 L (some ⟨0,0,none⟩) Int (a0 .u8) 1 Mk] :
  Λ Ε 288 #[.string s] L (λv Y=>∃M cap,v=.tuple #[ae M 1 cap,E 0,E 0]/\Y = Υ Nk 4 Pq M cap [iM s]::L):=by
 have a3:=hw.size;refine Λ.bd ?_;repeat first|refine run ?_|intro _|refine gt ?_|refine gu ?_
 rename_i b2 b3 b4 b5 bx;refine Δ.rangeFunc (Fw (L0:=L) bx s hw) rfl TC.1 ac bR (λk=>if k=0 then[obj b5 370 [ae none 0 0],obj b2 370 [ae none 0 0],obj b3 3 [E 0],obj b4 29 [E 0]] else[hex λx:OA×Nat=>bW [obj b5 370 [ae x.1 1 x.2],Υ Nk 4 Pq x.1 x.2 [iM s]],obj b2 370 [ae none 0 0],obj b3 3 [E 0],obj b4 29 [E 0]]) ?_ ?_ ?_
 .simp only[if_true,aj,ak];exact ag
 .intro k hk;have a2:k=0:=by simpa using hk
  subst a2;simp only[if_true,List.getElem_cons_zero,cW,Nat.one_ne_zero,if_false];show Δ _ _ _ ((14,E 0)::(13,bh (Nk (iM s)))::_) _ _;repeat first|refine run ?_|intro _|refine gt ?_|refine gu ?_
  refine R.υ (A.c8 Nk 4 Pq) ?_;refine R.ef (Ef.a8 (Β:=Nk) (e:=iM s) rfl rfl rfl rfl rfl aS (wF _) bR bR) ac ?_;rintro _ _⟨I,r,rfl,rfl⟩;repeat first|refine run ?_|intro _|refine gt ?_|refine gu ?_
  refine KX.round ?_;refine A.trans ?_ (A.f9 (I,r) (A.refl _));simp only[aj,ak];exact ag
 simp only[aO,aX,cW,Nat.one_ne_zero,if_false,aj,ak];refine KX.c7 ?_;repeat first|refine run ?_|intro _|refine gt ?_|refine gu ?_
 refine R.c8 (f:=λx:OA×Nat=>[obj b5 370 [ae x.1 1 x.2],Υ Nk 4 Pq x.1 x.2 [iM s]]) ?_;rintro⟨I,r⟩;simp only[aj,ak];repeat first|refine run ?_|intro _|refine gt ?_|refine gu ?_
 refine KX.a8 (by exact B6.a8 rfl (B6.a8 rfl (B6.a8 rfl (B6.nil)))) ?_ ⟨I,r,rfl,rfl⟩;exact ag
def Ci{L:LH}(s:ByteArray)(hw:OU s)[C7 L (some ⟨0,0,none⟩) Int (a0 .u8) 1 Mk] :
  Λ Ε 213 #[.string s] L (C9 (.bool true) L):=by
 have a2:([iM s]).length=1:=rfl;refine Λ.bd ?_;repeat first|refine run ?_|intro
 refine R.ca (xo s hw) ?_;rintro _ _⟨M,cap,rfl,rfl⟩;have r:([iM s]:List Tok)[(0:Int).toNat]! = iM s:=rfl;have I:(iM s).Κ=0:=rfl;repeat first|refine run ?_|intro
 rw[r];repeat first|refine run ?_|intro
 refine KX.a8 aw A.drop ⟨?_,rfl⟩;rw[bI (show(iM s).text=s from rfl)];rfl
