/- Lemmas. -/
import Derived.Test.YtommnllbflbdmaaGreatDoorAat
set_option linter.all false
set_option maxHeartbeats 2000000
namespace Go.Proofs.YtommnllbflbdmaaGreatDoor
section
open Go.V
attribute [local irreducible] G GO GP GPW GPK Ev Ef EfR Ent CB GB V.Enters
def xd{L:LH}(ad:OA)(c:Nat)(l:LL)(n:Int)(mx:Bool)[b3:Rds L ad Lot aj 3 l](b1:l.length≤4096)(hl:∀x∈l,LotOk x)(h0:0≤n)(h1:n≤lsum l)(h2:n≤1099511627776) :
  Tri ai 271 #[ah ad l.length c,ac n,.bool mx] L (fun v L'=>∃a6 a0,v=ah a6 l.length a0∧L' = osl (encZ .i64) 1 tInt a6 a0 ((List.range l.length).map (tkC mx l n))::L):=by
 have a7:=ue l;refine Tri.bd ?_;refine Jq ?_;intros;refine G.loop (α:=Nat×(OA×Nat)×OA×Nat) (fun z=>z.1≤l.length) (fun z=>[(0,ah ad l.length c),(1,ac n),(2,.bool mx),(7,ah z.2.1.1 z.1 z.2.1.2),(8,ah z.2.2.1 z.1 z.2.2.2),(9,ac (fuR l n z.1)),(10,ac (z.1:Int))]) (fun z=>osl (encZ .i64) 1 tInt z.2.1.1 z.2.1.2 ((wts l).take z.1)::osl (encZ .i64) 1 tInt z.2.2.1 z.2.2.2 ((List.range z.1).map (fuC l n))::L) (fun z=>l.length - z.1) (0,(none,0),none,0) (aw _) av ((Ent.d8 (encZ .i64) 1 tInt).trans (Ent.d8 (encZ .i64) 1 tInt)) ?_;rintro⟨i,⟨a1,c1⟩,a2,c2⟩ hi;dsimp only at hi ⊢;have b0:((wts l).take i).length=i:=by rw[bG];omega
 have b2:((List.range i).map (fuC l n)).length=i:=by simp
 have b5:=ot h0 (fun x h=>(hl x h).w) i hi;by_cases a5:i<l.length
 case pos =>
  have a8:(i:Int).toNat=i:=aC i;obtain⟨o1,o2,o3,o4,o5⟩:=hl _ (aI a5);have b4:=ou h0 (fun x h=>(hl x h).w) i a5
  have e1:(wts l).take i++[l[i]!.2.2]=(wts l).take (i+1):=by
   rw[aD ab,←getElem!_of ab,nW a5]
  have e2:(List.range i).map (fuC l n)++[fuC l n i]=(List.range (i+1)).map (fuC l n):=by rw[ft,aW];rfl
  have ec:min (fuR l n i) l[i]!.2.2=fuC l n i:=rfl;have er:fuR l n i - fuC l n i=fuR l n (i+1):=rfl;refine Jq ?_;intros;rw[a8];refine GO.ef (Ef.d7 (enc:=encZ .i64) (l[i]!.2.2) rfl rfl rfl b0.symm rfl aK (ni _ _) ab ab) ag ?_;rintro _ _⟨a3,c3,rfl,rfl⟩;rw[e1];refine Jq ?_;intros;rw[a8,ec];refine Jq ?_;intros;refine GO.ef (Ef.d7 (enc:=encZ .i64) (fuC l n i) rfl rfl rfl b2.symm rfl aK (ni _ _) ab ab) ag ?_;rintro _ _⟨a4,c4,rfl,rfl⟩;rw[e2];refine Jq ?_;intros;rw[er];refine⟨(i+1,(a3,c3),a4,c4),by dsimp only;omega,by dsimp only;omega,?_,by exact ae⟩;dsimp only;rw[aV i,show((wts l).take (i+1)).length=i+1 by rw[bG];omega,show((List.range (i+1)).map (fuC l n)).length=i+1 by simp];exact av
 obtain rfl:i=l.length:=ab;rw[←a7,bu,a7];cases mx with
 | false =>
  have et:(List.range l.length).map (fuC l n)=(List.range l.length).map (tkC false l n):=rfl;rw[et];refine Jq ?_;intros;exact KX.en ⟨a2,c2,rfl,rfl⟩
 | true =>
  by_cases hn:0<n
  ·have et:tkC true l n=shC l n:=if_pos ⟨rfl,hn⟩;rw[et]
   have a9:l≠[]:=by
    intro q;subst q;have:lsum ([]:LL)=0:=rfl;omega
   refine Jq ?_;intros;refine GO.ca (zf a1 c1 l n b1 hl a9 h0 h1 h2) ?_;rintro _ _⟨a3,c3,rfl,rfl⟩;refine Jq ?_;intros;exact KX.en ⟨a3,c3,rfl,rfl⟩
  ·have et:tkC true l n=fuC l n:=if_neg (fun q=>hn q.2);rw[et];refine Jq ?_;intros;exact KX.en ⟨a2,c2,rfl,rfl⟩
abbrev zr:=ay7 [.ev 13,.ev 14,.ev 15,.ef 16,.ev 17]
abbrev zq:=ay8 [.ev 17,.ev 18,.ev 19,.ev 20,.ev 21,.ev 22,.ev 23,.ev 24,.ev 25,.ev 26,.ef 27,.ev 28]
def Oy{φ ψ:Prop}(k:ψ)(h:Hid ψ→φ:=by intro k;(repeat (first|refine aa ?_|intro zzz|refine G.dr 87 11 zr ?_|refine G.dr 87 12 zq ?_));(repeat revert zzz);exact Hid.out k):φ:=h ⟨k⟩
def Ct{L:LH}(ad:OA)(c:Nat)(xs:LL)(n:Int)(mx:Bool)[b7:Rds L ad Lot aj 3 xs](hb:xs.length≤4096)(hx:∀l∈xs,LotOk l)(b0:0≤n)(b4:n≤1099511627776) :
  Tri ai 226 #[ah ad xs.length c,ac n,.bool mx] L (fun v L' =>
   (lsum xs<n∧v=.tuple #[ah none 0 0,ah none 0 0,ac 10]∧L' = L) ∨
   (n≤lsum xs∧∃a9 c1 ad2 c2,v=.tuple #[ah a9 (gS mx xs n).length c1,ah ad2 (eN mx xs n).length c2,ac 0]∧L' = osl aj 3 tLot a9 c1 (gS mx xs n)::osl aj 3 tLot ad2 c2 (eN mx xs n)::L)):=by
 refine Tri.bd ?_;refine Oy ?_;intros;refine GO.ca (rq ad xs.length c xs rfl hb hx) ?_;rintro _ L ⟨rfl,rfl⟩;refine Oy ?_;intros;refine GO.ca (jQ ad xs.length c xs rfl hb hx) ?_;rintro _ L ⟨rfl,rfl⟩;by_cases hs:lsum xs<n
 ·refine Oy ?_;intros;exact KX.d7 al (Ent.refl _) (.inl ⟨hs,rfl,rfl⟩)
 have a8 : n≤lsum xs:=ab;refine Oy ?_;intros;refine GO.ca (xd ad c xs n mx hb hx b0 a8 b4) ?_;rintro _ _⟨ak,ck,rfl,rfl⟩;obtain⟨cs,a7⟩:∃cs,cs=tkC mx xs n:=⟨_,rfl⟩;have b1:∀k,k<xs.length→0≤cs k∧cs k≤xs[k]!.2.2:=by rw[a7];exact nX mx xs n hx b0 a8
 have ht:gS mx xs n=divF xs cs xs.length:=by rw[a7];rfl
 have b2:eN mx xs n=divR xs cs xs.length:=by rw[a7];rfl
 have b8:((List.range xs.length).map cs).length=xs.length:=by simp
 rw[←a7,ht,b2];refine Oy ?_;intros;refine G.loop (α:=Nat×(OA×Nat)×OA×Nat) (fun z=>z.1≤xs.length) (fun z=>[(0,ah ad xs.length c),(10,ah ak xs.length ck),(11,ah z.2.1.1 (divF xs cs z.1).length z.2.1.2),(12,ah z.2.2.1 (divR xs cs z.1).length z.2.2.2),(13,ac (z.1:Int))]) (fun z=>osl aj 3 tLot z.2.1.1 z.2.1.2 (divF xs cs z.1)::osl aj 3 tLot z.2.2.1 z.2.2.2 (divR xs cs z.1)::osl (encZ .i64) 1 tInt ak ck ((List.range xs.length).map cs)::L) (fun z=>xs.length - z.1) (0,(none,0),none,0) (aw _) av ((Ent.d8 aj 3 tLot).trans (Ent.d8 aj 3 tLot)) ?_;rintro⟨i,⟨a1,c1⟩,a2,c2⟩ hi;dsimp only at hi ⊢;by_cases a6:i<xs.length
 case neg =>
  obtain rfl:i=xs.length:=ab;refine Oy ?_;intros;refine KX.d7 al ?_ (.inr ⟨a8,a1,c1,a2,c2,rfl,rfl⟩);exact ae
 have a0:(i:Int).toNat=i:=aC i;have hw:=hx _ (aI a6);obtain⟨w1,w2,w3,w4⟩:=hw.w;obtain⟨k0,k1⟩:=b1 i a6;have a5:((List.range xs.length).map cs)[(i:Int).toNat]! = cs i:=by rw[a0];exact ie a6
 obtain⟨b5,b3⟩:=wk (fun x h=>(hx x h).w) b1 i hi;obtain⟨p1,p2⟩:=pc_w a6 (fun x h=>(hx x h).w) ⟨k0,k1⟩;obtain⟨c7,b9⟩:=kq xs cs i;have c0:(i:Int).toNat<xs.length:=ab;obtain⟨kv,b6⟩:∃kv,kv=((List.range xs.length).map cs)[(i:Int).toNat]!:=⟨_,rfl⟩;have c6:kv=cs i:=by rw[b6,a5]
 have e1:aY (divF xs cs i) (xs[(i:Int).toNat]!.1,xs[(i:Int).toNat]!.2.1,((List.range xs.length).map cs)[(i:Int).toNat]!)=divF xs cs (i+1):=by rw[a5,a0,qE];rfl
 have e2:aY (divR xs cs i) (xs[(i:Int).toNat]!.1,xs[(i:Int).toNat]!.2.1+((List.range xs.length).map cs)[(i:Int).toNat]!,xs[(i:Int).toNat]!.2.2 - ((List.range xs.length).map cs)[(i:Int).toNat]!)=divR xs cs (i+1):=by rw[a5,a0,nD];rfl
 have q1:LotW (xs[(i:Int).toNat]!.1,xs[(i:Int).toNat]!.2.1,((List.range xs.length).map cs)[(i:Int).toNat]!):=by rw[a5,a0];exact p1
 have q2:LotW (xs[(i:Int).toNat]!.1,xs[(i:Int).toNat]!.2.1+((List.range xs.length).map cs)[(i:Int).toNat]!,xs[(i:Int).toNat]!.2.2 - ((List.range xs.length).map cs)[(i:Int).toNat]!):=by rw[a5,a0];exact p2
 have c5 : 0≤((List.range xs.length).map cs)[(i:Int).toNat]!∧((List.range xs.length).map cs)[(i:Int).toNat]!≤xs[(i:Int).toNat]!.2.2:=by rw[a5,a0];exact⟨k0,k1⟩
 rw[←a0] at w1 w2 w3 w4;refine Oy ?_;intros;refine GPW.ca (lP a1 (divF xs cs i).length c1 (divF xs cs i) _ rfl ab b5 q1) ?_;rintro _ _⟨a3,c3,rfl,rfl⟩;rw[e1];refine Oy ?_;intros;refine GPW.ca (lP a2 (divR xs cs i).length c2 (divR xs cs i) _ rfl ab b3 q2) ?_;rintro _ _⟨a4,c4,rfl,rfl⟩;rw[e2];refine Oy ?_;intros;refine⟨(i+1,(a3,c3),a4,c4),by dsimp only;omega,by dsimp only;omega,?_,by exact ae⟩;dsimp only;rw[aV i];exact av
instance:DecidablePred LotOk:=fun l=>by unfold LotOk;infer_instance
def dM(xs:LL):Prop:=(∀x∈xs,LotOk x)∧xs.length≤4096
instance (xs:LL):Decidable (dM xs):=by unfold dM;infer_instance
def uo{L:LH}(x:Lot):Tri ai 233 #[aN (aj x)] L (fun v L'=>v=.bool (dB (LotOk x))∧L' = L):=by
 obtain⟨f,a,n⟩:=x;refine Tri.bd (args:=[aN (aj (f,a,n))]) ?_;simp only[aj];have a0:∀{p:Prop},¬p→(LotOk (f,a,n)→p)→dB (LotOk (f,a,n))=false:=fun h q=>aG (fun r=>h (q r));by_cases h1:0≤f
 case neg =>
  refine Jq ?_;intros;exact KX.d7 al ae ⟨by rw[a0 h1 (fun q=>q.1)];rfl,rfl⟩
 by_cases h2:0≤a
 case neg =>
  refine Jq ?_;intros;exact KX.d7 al ae ⟨by rw[a0 h2 (fun q=>q.2.1)];rfl,rfl⟩
 by_cases h3:1≤n
 case neg =>
  refine Jq ?_;intros;exact KX.d7 al ae ⟨by rw[a0 h3 (fun q=>q.2.2.2.1)];rfl,rfl⟩
 by_cases h4:n≤1099511627776
 case neg =>
  refine Jq ?_;intros;exact KX.d7 al ae ⟨by rw[a0 h4 (fun q=>by have:=q.2.2.2.2;dsimp only at this;omega)];rfl,rfl⟩
 refine Jq ?_;intros;refine KX.d7 al ae ⟨?_,rfl⟩;by_cases h5:a≤1099511627776 - n
 ·rw[aS h5,aS (show LotOk (f,a,n) from⟨h1,h2,by dsimp only;omega,h3,by dsimp only;omega⟩)];rfl
 ·rw[aG h5,a0 h5 (fun q=>by have:=q.2.2.2.2;dsimp only at this;omega)];rfl
def iU{L:LH}(ad:OA)(n c:Nat)(xs:LL)[Rds L ad Lot aj 3 xs](hn:n=xs.length)(hm:n≤9223372036854775807) :
  Tri ai 144 #[ah ad n c] L (fun v L'=>v=.bool (dB (dM xs))∧L' = L):=by
 subst hn;refine Tri.bd ?_;refine Jq ?_;intros;refine G.loop (α:=Nat) (fun i=>i≤xs.length∧∀k,k<i→LotOk xs[k]!) (fun i=>[(0,ah ad xs.length c),(3,ac (i:Int))]) (fun _=>L) (fun i=>xs.length - i) 0 ⟨aw _,fun k hk=>absurd hk (cl k)⟩ av (Ent.refl _) ?_;rintro i ⟨hi,a1⟩;by_cases a2:i<xs.length
 case neg =>
  refine Jq ?_;intros;refine KX.d7 al (Ent.refl _) ⟨?_,rfl⟩
  have a0:∀x∈xs,LotOk x:=fun x hx=>by
   obtain⟨k,hk,e⟩:=List.mem_iff_getElem.1 hx;have h2:=a1 k ab;rw[getElem!_of hk,e] at h2;exact h2
  by_cases h:xs.length≤4096
  ·rw[aS (ab:(xs.length:Int)≤4096),aS (show dM xs from⟨a0,h⟩)];rfl
  ·rw[aG (ab:¬(xs.length:Int)≤4096),aG (show ¬dM xs from fun q=>h q.2)];rfl
 have a3:(i:Int).toNat=i:=ab;refine Jq ?_;intros;rw[a3];refine GO.ca (uo xs[i]!) ?_;rintro _ L ⟨rfl,rfl⟩;by_cases hp:LotOk xs[i]!
 ·rw[aS hp];refine Jq ?_;intros;refine⟨i+1,⟨ab,fun k hk=>?_⟩,ab,?_,Ent.refl _⟩
  ·by_cases e:k=i
   ·rw[e];exact hp
   ·exact a1 k ab
  ·rw[aV i];exact av
 ·rw[aG hp];refine Jq ?_;intros;exact KX.d7 al (Ent.refl _) ⟨by rw[aG (show ¬dM xs from fun q=>hp (q.1 _ (aI a2)))];rfl,rfl⟩
def insS(f:Int)(z:LL×LL×Int×Int)(x:Lot):LL×LL×Int×Int :=
 if x.1<f∨(x.1=f∧x.2.1+x.2.2<z.2.2.1) then(z.1++[x],z.2)
 else if f<x.1∨z.2.2.2<x.2.1 then(z.1,z.2.1++[x],z.2.2)
 else(z.1,z.2.1,min z.2.2.1 x.2.1,max z.2.2.2 (x.2.1+x.2.2))
def insG(s:LL)(l:Lot):LL×LL×Int×Int:=s.foldl (insS l.1) ([],[],l.2.1,l.2.1+l.2.2)
def insL(s:LL)(l:Lot):LL:=(insG s l).1++[(l.1,(insG s l).2.2.1,(insG s l).2.2.2 - (insG s l).2.2.1)]++(insG s l).2.1
structure InsI (l:Lot) (n:Nat) (z:LL×LL×Int×Int):Prop where
 len:z.1.length+z.2.1.length≤n
 ok1:∀x∈z.1,LotOk x
 ok2:∀x∈z.2.1,LotOk x
 lo:0≤z.2.2.1∧z.2.2.1≤l.2.1
 hi:l.2.1+l.2.2≤z.2.2.2∧z.2.2.2≤1099511627776
def InsI.step{l:Lot}{n:Nat}{z:LL×LL×Int×Int}(h:InsI l n z){x:Lot}(hx:LotOk x):InsI l (n+1) (insS l.1 z x):=by
 obtain⟨h1,h2,h3,h4,h5⟩:=h;have a1:=hx;unfold LotOk at a1
 have a0:∀{t:LL},(∀y∈t,LotOk y)→∀y∈t++[x],LotOk y:=fun ht y hy=>by
  rcases List.mem_append.1 hy with q|q
  ·exact ht y q
  ·rw[List.mem_singleton.1 q];exact hx
 unfold insS;split
 ·exact⟨by simp only[ay,aJ];omega,a0 h2,h3,h4,h5⟩
 ·split
  ·exact⟨by simp only[ay,aJ];omega,h2,a0 h3,h4,h5⟩
  ·exact⟨by dsimp only;omega,h2,h3,by dsimp only;omega,by dsimp only;omega⟩
def vn{s:LL}{l:Lot}{i:Nat}(h:i<s.length):insG (s.take (i+1)) l=insS l.1 (insG (s.take i) l) s[i]!:=by
 unfold insG;rw[aD h,cv,getElem!_of h];rfl
def sw{s:LL}{l:Lot}(hl:LotOk l)(hs:∀x∈s,LotOk x):∀i,i≤s.length→InsI l i (insG (s.take i) l)
 | 0,_=>by
  unfold LotOk at hl;exact⟨aB _,(fun _ h=>by cases h),(fun _ h=>by cases h),⟨hl.2.1,bg _⟩,⟨bg _,by show l.2.1+l.2.2≤_;omega⟩⟩
 | i+1,h=>by
  rw[vn ab];exact(sw hl hs i ab).step (hs _ (aI ab))
def Iq{s:LL}{l:Lot}(hl:LotOk l)(hs:∀x∈s,LotOk x):(insL s l).length≤s.length+1∧∀x∈insL s l,LotOk x:=by
 have h:=sw hl hs s.length (aB _);rw[bu] at h;obtain⟨h1,h2,h3,h4,h5⟩:=h;unfold LotOk at hl;refine⟨by unfold insL;simp only[ay,aJ];omega,fun x hx=>?_⟩;unfold insL at hx;rcases List.mem_append.1 hx with hx|hx
 ·rcases List.mem_append.1 hx with hx|hx
  ·exact h2 x hx
  ·rw[List.mem_singleton.1 hx];unfold LotOk;dsimp only;omega
 ·exact h3 x hx
def wY{L:LH}(ad:OA)(n c:Nat)(xs:LL)(x:Lot)[Rds L ad Lot aj 3 xs](hn:n=xs.length)(hl:xs.length≤100000)(b1:∀y∈xs,LotOk y)(hx:LotOk x) :
  Tri ai 269 #[ah ad n c,aN (aj x)] L (fun v L'=>∃a8 a3,v=ah a8 (insL xs x).length a3∧L' = osl aj 3 tLot a8 a3 (insL xs x)::L):=by
 subst hn;have a4:=sw hx b1;obtain⟨f,a,m⟩:=x;have b4:=hx;unfold LotOk at b4;dsimp only at b4;refine Tri.bd (args:=[ah ad xs.length c,aN (aj (f,a,m))]) ?_;simp only[aj];refine Jq ?_;intros;rename_i b3
 refine G.loop (α:=Nat×OA×Nat×OA×Nat) (fun g=>g.1≤xs.length) (fun g=>[(0,ah ad xs.length c),(3,ax b3),(5,ah g.2.1 (insG (xs.take g.1) (f,a,m)).1.length g.2.2.1),(6,ah g.2.2.2.1 (insG (xs.take g.1) (f,a,m)).2.1.length g.2.2.2.2),(7,ac (insG (xs.take g.1) (f,a,m)).2.2.1),(8,ac (insG (xs.take g.1) (f,a,m)).2.2.2),(9,ac (g.1:Int))])
  (fun g=>osl aj 3 tLot g.2.1 g.2.2.1 (insG (xs.take g.1) (f,a,m)).1::osl aj 3 tLot g.2.2.2.1 g.2.2.2.2 (insG (xs.take g.1) (f,a,m)).2.1::obj b3 tLot [ac f,ac a,ac m]::L) (fun g=>xs.length - g.1) (0,none,0,none,0) (aw _) av ((Ent.d8 aj 3 tLot).trans ((Ent.d8 aj 3 tLot).trans ae)) ?_
 rintro⟨i,a5,c1,ad2,c2⟩ hi;dsimp only at hi ⊢;obtain⟨i1,i2,i3,i4,i5⟩:=a4 i hi;dsimp only at i4 i5;by_cases b0:i<xs.length
 case neg =>
  obtain rfl:i=xs.length:=ab;rw[bu] at *;have e:insL xs (f,a,m)=(insG xs (f,a,m)).1++[(f,(insG xs (f,a,m)).2.2.1,(insG xs (f,a,m)).2.2.2 - (insG xs (f,a,m)).2.2.1)]++(insG xs (f,a,m)).2.1:=rfl;rw[e];generalize insG xs (f,a,m)=z at *;refine Jq ?_;intros;refine GO.ef (Ef.d7 (enc:=aj) (f,z.2.2.1,z.2.2.2 - z.2.2.1) rfl rfl rfl rfl rfl aK (co _) ab ab) ag ?_;rintro _ _⟨a2,a1,rfl,rfl⟩;refine Jq ?_;intros;refine GO.ef (Ef.g8 (enc:=aj) (xs:=z.1++[(f,z.2.2.1,z.2.2.2 - z.2.2.1)]) (ys:=z.2.1) rfl rfl rfl rfl rfl (fun e _=>co e) fW fW) ag ?_;rintro _ _⟨b7,a6,rfl,rfl⟩;refine Jq ?_;intros;exact KX.en ⟨b7,a6,rfl,rfl⟩
 have b6 : (i:Int).toNat<xs.length:=ab;have a7:(i:Int).toNat=i:=ab;have a0:=vn (s:=xs) (l:=(f,a,m)) b0;have b5:=b1 _ (aI b0);rw[←a7] at a0 b5;rw[a7] at a0;generalize insG (xs.take i) (f,a,m)=z at *;dsimp only at a0;obtain⟨y,hy⟩:∃y,xs[(i:Int).toNat]! = y:=⟨_,rfl⟩;rw[show xs[i]! = y by rw[←hy,a7]] at a0;have b2:=b5;rw[hy] at b2;obtain⟨yf,ya,yn⟩:=y;have a9:=b2;unfold LotOk at a9;dsimp only at a9;unfold insS at a0;dsimp only at a0;refine Jq ?_;intros;rw[hy];simp only[aj];by_cases h1:yf<f
 ·rw[if_pos (.inl h1)] at a0;refine Jq ?_;intros;refine GO.ef (Ef.d7 (enc:=aj) (yf,ya,yn) rfl rfl rfl rfl rfl aK (co _) ab ab) ag ?_;rintro _ _⟨a2,a1,rfl,rfl⟩;refine Jq ?_;intros;refine⟨(i+1,a2,a1,ad2,c2),by dsimp only;omega,by dsimp only;omega,?_,?_⟩
  ·dsimp only;rw[a0,aV i];exact av
  ·dsimp only;rw[a0];exact ae
 by_cases h2:yf=f
 ·by_cases h3:ya+yn<z.2.2.1
  ·rw[if_pos (.inr ⟨h2,h3⟩)] at a0;refine Jq ?_;intros;refine GO.ef (Ef.d7 (enc:=aj) (yf,ya,yn) rfl rfl rfl rfl rfl aK (co _) ab ab) ag ?_;rintro _ _⟨a2,a1,rfl,rfl⟩;refine Jq ?_;intros;refine⟨(i+1,a2,a1,ad2,c2),by dsimp only;omega,by dsimp only;omega,?_,?_⟩
   ·dsimp only;rw[a0,aV i];exact av
   ·dsimp only;rw[a0];exact ae
  rw[if_neg (fun q=>q.elim h1 (fun q=>h3 q.2))] at a0;by_cases h4:z.2.2.2<ya
  ·rw[if_pos (.inr h4)] at a0;refine Jq ?_;intros;refine GO.ef (Ef.d7 (enc:=aj) (yf,ya,yn) rfl rfl rfl rfl rfl aK (co _) ab ab) ag ?_;rintro _ _⟨a2,a1,rfl,rfl⟩;refine Jq ?_;intros;refine⟨(i+1,a5,c1,a2,a1),by dsimp only;omega,by dsimp only;omega,?_,?_⟩
   ·dsimp only;rw[a0,aV i];exact av
   ·dsimp only;rw[a0];exact ae
  rw[if_neg (fun q=>q.elim (fun q=>by omega) h4)] at a0;refine Jq ?_;intros;refine⟨(i+1,a5,c1,ad2,c2),by dsimp only;omega,by dsimp only;omega,?_,?_⟩
  ·dsimp only;rw[a0,aV i];exact av
  ·dsimp only;rw[a0];exact ae
 have h5:f<yf:=ab;rw[if_neg (fun q=>q.elim h1 (fun q=>h2 q.1)),if_pos (.inl h5)] at a0;refine Jq ?_;intros;refine GO.ef (Ef.d7 (enc:=aj) (yf,ya,yn) rfl rfl rfl rfl rfl aK (co _) ab ab) ag ?_;rintro _ _⟨a2,a1,rfl,rfl⟩;refine Jq ?_;intros;refine⟨(i+1,a5,c1,a2,a1),by dsimp only;omega,by dsimp only;omega,?_,?_⟩
 ·dsimp only;rw[a0,aV i];exact av
 ·dsimp only;rw[a0];exact ae
