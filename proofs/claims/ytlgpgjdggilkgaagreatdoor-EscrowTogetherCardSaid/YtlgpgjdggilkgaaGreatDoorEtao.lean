/- Lemmas. -/
import Derived.Test.YtlgpgjdggilkgaaGreatDoorEtan
set_option linter.all false
set_option maxHeartbeats 1000000
namespace Go.Proofs.YtlgpgjdggilkgaaGreatDoor
section
open Go.V
attribute [local irreducible] Α GO GP δ ms Ev Ef C0 F CB GB V.Enters
instance:DecidablePred a0:=λl=>by unfold a0;infer_instance
def ip(I:ο):Prop:=(∀x∈I,a0 x)/\I.length<=4096
instance (I:ο):Decidable (ip I):=by unfold ip;infer_instance
def QG(f:Int)(z:ο×ο×Int×Int)(x:h2):ο×ο×Int×Int :=
 if x.1<f\/(x.1=f/\x.2.1+x.2.2<z.2.2.1) then(z.1++[x],z.2)
 else if f<x.1\/z.2.2.2<x.2.1 then(z.1,z.2.1++[x],z.2.2)
 else(z.1,z.2.1,min z.2.2.1 x.2.1,max z.2.2.2 (x.2.1+x.2.2))
def Qs(s:ο)(l:h2):ο×ο×Int×Int:=s.foldl (QG l.1) ([],[],l.2.1,l.2.1+l.2.2)
def Sj(s:ο)(l:h2):ο:=(Qs s l).1++[(l.1,(Qs s l).2.2.1,(Qs s l).2.2.2 - (Qs s l).2.2.1)]++(Qs s l).2.1
structure VU (l:h2) (n:Nat) (z:ο×ο×Int×Int):Prop where
 len:z.1.length+z.2.1.length<=n
 ok1:∀x∈z.1,a0 x
 ok2:∀x∈z.2.1,a0 x
 lo:0<=z.2.2.1/\z.2.2.1<=l.2.1
 hi:l.2.1+l.2.2<=z.2.2.2/\z.2.2.2<=1099511627776
theorem VU.step{l:h2}{n:Nat}{z:ο×ο×Int×Int}(h:VU l n z){x:h2}(O:a0 x):VU l (n+1) (QG l.1 z x):=by
 obtain⟨K,T,h3,h4,h5⟩:=h;have M:=O;unfold a0 at M;have B:∀{t:ο},(∀y∈t,a0 y)->∀y∈t++[x],a0 y:=aj;unfold QG;split
 .exact⟨aj,B T,h3,h4,h5⟩
 .split
  .exact⟨aj,T,B h3,h4,h5⟩
  .exact⟨aj,T,h3,aj,aj⟩
theorem GQ{s:ο}{l:h2}{i:Nat}(h:i<s.length):Qs (s.take (i+1)) l=QG l.1 (Qs (s.take i) l) s[i]!:=by
 grind [Qs,aB]
def zt{s:ο}{l:h2}(U:a0 l)(hs:∀x∈s,a0 x):∀i,i<=s.length->VU l i (Qs (s.take i) l)
 | 0,_=>by
  unfold a0 at U;exact⟨an _,(λ_ h=>by cases h),(λ_ h=>by cases h),⟨U.2.1,bE _⟩,⟨bE _,by show l.2.1+l.2.2<=_;omega⟩⟩
 | i+1,h=>by
  rw[GQ D];exact(zt U hs i D).step (hs _ (bA D))
theorem KY{s:ο}{l:h2}(U:a0 l)(hs:∀x∈s,a0 x):(Sj s l).length<=s.length+1/\∀x∈Sj s l,a0 x:=by
 have h:=zt U hs s.length D;rw[cz] at h;obtain⟨K,T,h3,h4,h5⟩:=h;grind [a0,Sj]
def Ou(l:ο):ο:=l.foldl Sj []
theorem ka{α β:Type}(f:β->α->β)(b:β)[Inhabited α]{l:List α}{i:Nat}(h:i<l.length):(l.take (i+1)).foldl f b=f ((l.take i).foldl f b) l[i]!:=by
 grind [aB]
theorem qx{l:ο}(h:∀x∈l,a0 x):∀i,i<=l.length->(Ou (l.take i)).length<=i/\∀x∈Ou (l.take i),a0 x
 | 0,_=>⟨an _,(λ_ q=>by cases q)⟩
 | i+1,hi=>by
  obtain⟨K,T⟩:=qx h i D;have e:Ou (l.take (i+1))=Sj (Ou (l.take i)) l[i]!:=ka Sj [] D;rw[e];obtain⟨h3,h4⟩:=KY (h _ (bA (D:i<l.length))) T;exact⟨D,h4⟩
theorem rt{l:ο}(h:∀x∈l,a0 x):(Ou l).length<=l.length/\∀x∈Ou l,a0 x:=by
 grind [qx,cz]
def apart(y z:h2):Prop:=y.1≠z.1\/y.2.1+y.2.2<=z.2.1\/z.2.1+z.2.2<=y.2.1
def L7(l:ο):Prop:=l.Pairwise apart
def QH(x y:h2):ο :=
 if y.1≠x.1\/x.2.1+x.2.2<=y.2.1\/y.2.1+y.2.2<=x.2.1 then[y]
 else(if y.2.1<x.2.1 then[(x.1,y.2.1,x.2.1 - y.2.1)] else[])++(if x.2.1+x.2.2<y.2.1+y.2.2 then[(x.1,x.2.1+x.2.2,y.2.1+y.2.2 - x.2.1 - x.2.2)] else[])
def Np(l:ο)(x:h2):ο:=l.flatMap (QH x)
theorem Cn{x y p:h2}(O:a0 x)(Y:a0 y)(hp:p∈QH x y):a0 p/\p.1=y.1/\y.2.1<=p.2.1/\p.2.1+p.2.2<=y.2.1+y.2.2:=by
 unfold a0 at O Y;grind [QH,a0]
theorem Dv{x:h2}(y:h2)(O:0<=x.2.2):L7 (QH x y):=by
 unfold L7 QH;split
 .grind
 .rename_i hn;split
  .grind [apart]
  .split
   .grind
   .exact List.Pairwise.nil
theorem vT{x:h2}:∀{l:ο},(∀z∈l,apart z x)->Np l x=l
 | [],_=>rfl
 | z::l,h=>by
  have e:Np (z::l) x=QH x z++Np l x:=aT
  have e1:QH x z=[z]:=by
   unfold QH;have:=h z aA
   unfold apart at this;rw[Χ];omega
  rw[e,e1,vT (λy Y=>h y (az _ Y))];rfl
theorem rp{x:h2}{l:ο}(O:a0 x)(U:∀y∈l,a0 y){p:h2}(hp:p∈Np l x):∃y∈l,a0 p/\p.1=y.1/\y.2.1<=p.2.1/\p.2.1+p.2.2<=y.2.1+y.2.2:=by
 obtain⟨y,Y,hp⟩:=List.mem_flatMap.1 hp;exact⟨y,Y,Cn O (U y Y) hp⟩
theorem vc{x:h2}{l:ο}(O:a0 x)(U:∀y∈l,a0 y):∀p∈Np l x,a0 p:=by grind [rp]
theorem mD{x:h2}(O:a0 x):∀{l:ο},(∀y∈l,a0 y)->L7 l->L7 (Np l x)/\(Np l x).length<=l.length+1
 | [],_,_=>⟨List.Pairwise.nil,aC _⟩
 | y::l,U,ha=>by
  obtain⟨M,a2⟩:=List.pairwise_cons.1 ha;have B:∀z∈l,a0 z:=aj;obtain⟨i1,i2⟩:=mD O B a2;have e:Np (y::l) x=QH x y++Np l x:=aT;have Y:=U y aj;rw[e];refine⟨List.pairwise_append.2 ⟨Dv y (by unfold a0 at O;omega),i1,λp hp q hq=>?_⟩,?_⟩
  .grind [Cn,rp,apart]
  .rw[ay,aK];by_cases T:(QH x y).length<=1
   .omega
   grind [QH,vT,apart]
def jm(set:ο)(y:h2):ο:=set.foldl Np [y]
theorem uf{set:ο}{y:h2}(hs:∀x∈set,a0 x)(Y:a0 y):∀i,i<=set.length->(∀p∈jm (set.take i) y,a0 p)/\L7 (jm (set.take i) y)/\(jm (set.take i) y).length<=i+1
 | 0,_=>⟨λp hp=>by rw[F6 hp];exact Y,dD _ _,an _⟩
 | i+1,hi=>by
  obtain⟨K,T,h3⟩:=uf hs Y i D;have e:jm (set.take (i+1)) y=Np (jm (set.take i) y) set[i]!:=ka Np [y] D;rw[e];have O:=hs _ (bA (D:i<set.length));obtain⟨h4,h5⟩:=mD O K T;exact⟨vc O K,h4,D⟩
theorem Ip{set:ο}{y:h2}(hs:∀x∈set,a0 x)(Y:a0 y):(∀p∈jm set y,a0 p)/\L7 (jm set y)/\(jm set y).length<=set.length+1:=by
 grind [uf,cz]
def jh(s set:ο):ο:=s.foldl (λout y=>(jm set y).foldl bH out) []
theorem yj{r out:ο}(hr:∀p∈r,a0 p)(ho:∀p∈out,a0 p):∀i,i<=r.length->(∀p∈(r.take i).foldl bH out,a0 p)/\((r.take i).foldl bH out).length<=out.length+i
 | 0,_=>aj
 | i+1,hi=>by
  obtain⟨K,T⟩:=yj hr ho i D;rw[ka bH out D];have O:=hr _ (bA (D:i<r.length));have:=qH ((r.take i).foldl bH out) r[i]!
  refine⟨zj K ?_,D⟩;unfold a0 at O;unfold J9;omega
theorem tO{s set:ο}(h:∀x∈s,a0 x)(hs:∀x∈set,a0 x):∀i,i<=s.length->(∀p∈jh (s.take i) set,a0 p)/\(jh (s.take i) set).length<=i*(set.length+1)
 | 0,_=>⟨(λ_ q=>by cases q),aC _⟩
 | i+1,hi=>by
  obtain⟨K,T⟩:=tO h hs i D;have e:jh (s.take (i+1)) set=(jm set s[i]!).foldl bH (jh (s.take i) set):=ka (λout y=>(jm set y).foldl bH out) [] D;obtain⟨r1,_,r3⟩:=Ip hs (h _ (bA (D:i<s.length)));have h3:=yj r1 K (jm set s[i]!).length (an _);rw[cz] at h3;rw[e];refine⟨h3.1,?_⟩;have h4:=h3.2;have e2:(i+1)*(set.length+1)=i*(set.length+1)+(set.length+1):=ic _ _;omega
theorem xF{s set:ο}(h:∀x∈s,a0 x)(hs:∀x∈set,a0 x):(∀p∈jh s set,a0 p)/\(jh s set).length<=s.length*(set.length+1):=by
 grind [tO,cz]
def ko(a b:ο):ο:=jh (Ou a) b
def pK(a b:ο):ο:=ko a (ko a b)
def kE(a b:ο):Prop:=ip a/\ip b/\ko a b=[]
instance (a b:ο):Decidable (kE a b):=by unfold kE;infer_instance
def wo{a b:ο}(ha:∀x∈a,a0 x)(hb:∀x∈b,a0 x):(∀p∈ko a b,a0 p)/\(ko a b).length<=a.length*(b.length+1):=by
 obtain⟨K,T⟩:=rt ha;obtain⟨h3,h4⟩:=xF T hb;exact⟨h3,aO h4 (bR _ K)⟩
def Rw:List Int:=[0,0,0,0,0,0,0,0,0,1,1,0,0,0,0,0,0,0,0,0,0,0,0,0,0,0,0,0,0,0,0,0,1,0,0,2,0,0,0,0,7,7,0,7,7,6,7,0,4,4,4,4,4,4,4,4,4,4,7,7,7,7,7,0,0,0,0,0,0,0,0,0,0,0,0,0,0,0,0,0,0,0,0,0,0,0,0,0,0,0,0,0,0,0,0,5,0,3,3,3,3,3,3,3,3,3,3,3,3,3,3,3,3,3,3,3,3,3,3,3,3,3,3,7,0,7,0,0]
abbrev cc:HP:=ξ (dJ .u8) 1 (some ⟨0,0,none⟩) Rw
def uy:Rw.length=128:=Ζ
def gG(s:ByteArray)(i:Int):Int:=if i<s.size/\(gt s)[i.toNat]! < 128 then Rw[((gt s)[i.toNat]!).toNat]! else 0
def lN{L:Η}(s:ByteArray)(i:Int)(h0:0<=i)(hs:s.size<=1000000)[F2 L (some ⟨0,0,none⟩) Int (dJ .u8) 1 Rw] :
  Τ Θ 325 #[.string s,J i] L (F3 (.int .u8 (gG s i)) L):=by
 have M:=uy;refine Τ.bd ?_;by_cases K:i<s.size
 case neg =>
  have e:gG s i=0:=Ν λh=>K h.1;rw[e];repeat first|refine run ?_|intro
  exact KX.en ⟨rfl,rfl⟩
 have hb:=Gq s _ (bA (show i.toNat<(gt s).length by rw[uq];omega));by_cases T:(gt s)[i.toNat]! < 128
 case neg =>
  have e:gG s i=0:=Ν λh=>T h.2;rw[e];repeat first|refine run ?_|intro
  exact KX.en ⟨rfl,rfl⟩
 have e:gG s i=Rw[((gt s)[i.toNat]!).toNat]!:=Χ ⟨K,T⟩;rw[e];obtain⟨c,hc⟩:∃c,(gt s)[i.toNat]! = c:=⟨_,rfl⟩;rw[hc] at hb T ⊢;have hm:((gt s)[i.toNat]!).toNat*1=c.toNat*1+0:=by rw[hc];omega
 have B:0+((gt s)[i.toNat]!).toNat*1=c.toNat*1+0:=by rw[hc];omega
 repeat first|refine run ?_|intro
 refine GO.ev (Ev.k7 (j:=c.toNat) (o:=0) rfl B D ae rfl) ae ?_;repeat first|refine run ?_|intro
 exact KX.en ⟨rfl,rfl⟩
structure Uh (s:ByteArray):Prop where
 size:1<=s.size/\s.size<=16
 first:gG s 0=3
 cN:∀i:Nat,i<s.size->gG s i=3\/gG s i=4\/gG s i=5
def GK(s:ByteArray):gG s s.size=0:=Ν λh=>hD h.1 D
def vW{L:Η}(s:ByteArray)(i:Int)(h0:0<=i)(hs:s.size<=1000000)(hk:i<s.size->gG s i≠1/\gG s i≠2)[F2 L (some ⟨0,0,none⟩) Int (dJ .u8) 1 Rw] :
  Τ Θ 316 #[.string s,J i] L (F3 (J i) L):=by
 refine Τ.bd ?_;repeat first|refine run ?_|intro
 refine Α.d9 1 (GR.step ?_);by_cases K:i<s.size
 case neg =>
  repeat first|refine run ?_|intro
  exact KX.en ⟨rfl,rfl⟩
 obtain⟨B,M⟩:=hk K;repeat first|refine run ?_|intro
 refine GO.cr (lN s i h0 hs) ?_;repeat first|refine run ?_|intro
 exact KX.en ⟨rfl,rfl⟩
structure Tok where
 Δ:Int
 text:ByteArray
 n:Int
 pos:Int
 deriving Inhabited
def SH(t:Tok):τ:=[J t.Δ,.string t.text,J t.n,J t.pos]
def zW(t:Tok):∀u∈SH t,u.oneCell' = true:=by simp[SH,Value.oneCell']
instance:RN SH:=⟨zW⟩
def jF(s:ByteArray):Tok:=⟨0,s,0,0⟩
abbrev US:Nat:=374
abbrev AQ:=Zc [.ef 10]
def gk{φ ψ:Prop}(k:ψ)(h:Hid ψ->φ:=by intro k;(with_reducible apply Α.a8);first|refine Α.dr 99 20 AQ (Hid.out k)):φ:=h ⟨k⟩
theorem Gr{L:Η}(s:ByteArray)(hw:Uh s)[F2 L (some ⟨0,0,none⟩) Int (dJ .u8) 1 Rw] :
  Τ Θ 317 #[.string s,J 0] L (F3 (.tuple #[bF (SH (jF s)),J 0]) L):=by
 have a5:=hw.size;refine Τ.bd ?_;repeat first|refine run ?_|intro _|refine gk ?_
 rename_i b4 b6;refine GO.cr (lN s 0 ae D) ?_;rw[hw.first];repeat first|refine run ?_|intro _|refine gk ?_
 refine GO.cr (lN s (0+1) ae D) ?_;repeat first|refine run ?_|intro _|refine gk ?_
 refine Α.loop (α:=Nat) (λe=>1<=e/\e<=s.size) (λe=>[(0,.string s),(1,J 0),(4,av b4),(6,av b6),(7,J (e:Int)),(8,.int .u8 (gG s (e:Int)))])
  (λ_=>obj b6 US [J 0,.string ⟨#[]⟩,J 0,J 0]::obj b4 US [J 0,.string ⟨#[]⟩,J 0,J 0]::L) (λe=>s.size - e) 1 aj aD (F.refl _) ?_
 rintro e ⟨a3,a4⟩;by_cases a2:e<s.size
 case neg =>
  have B:e=s.size:=D;subst B;rw[GK];repeat first|refine run ?_|intro _|refine gk ?_
  rw[Int.toNat_zero,bD,BT];exact KX.a8 (by exact C7.cell rfl bh (C7.tmp rfl (C7.nil))) (F.trans F.drop F.drop) ⟨rfl,rfl⟩
 have hr:=hw.cN e a2
 have M:∀{q:Prop},(gG s (e:Int)=3->q)->(gG s (e:Int)≠3->gG s (e:Int)=4->q)->(gG s (e:Int)≠3->gG s (e:Int)≠4->gG s (e:Int)=5->q)->q:=by
  intro q a b c;rcases hr with h|h|h
  .exact a h
  .grind
  .grind
 refine M ?_ ?_ ?_<;>intros
 all_goals
  repeat first|refine run ?_|intro _|refine gk ?_
  refine GO.cr (lN s ((e:Int)+1) D D) ?_
  repeat first|refine run ?_|intro _|refine gk ?_
  refine⟨e+1,⟨D,D⟩,D,?_,F.refl _⟩
  rw[bC e]
  exact aD
theorem Jy{L0:Η}(bx:Nat)(s:ByteArray)(hw:Uh s)[hrd:F2 L0 (some ⟨0,0,none⟩) Int (dJ .u8) 1 Rw] :
  Iter Θ 315 [av bx] [[bF (SH (jF s)),J 0]] (obj bx 9 [.string s]::L0):=by
 have a2:=hw.size;have M:=hw.first;have a3:(jF s).text.size=s.size:=rfl;intro l J7 Jx Y;have B:=Y 0 cj;simp only[List.getElem_cons_zero] at B;show Τ _ _ _ _ (λ_ Γ=>Γ = J7 1::_\/_);refine Τ.bd (args:=[.func (.yield l) #[] #[],av bx]) ?_;repeat first|refine run ?_|intro
 refine GO.cr (vW s 0 ae D D) ?_;repeat first|refine run ?_|intro
 refine Α.d9 2 (GR.step ?_);repeat first|refine run ?_|intro
 refine GO.cr (Gr s hw) ?_;repeat first|refine run ?_|intro _
 ((with_reducible apply GO.a8);refine GO.T8 (C0.yield (B) rfl rfl fQ) ae ?_);rintro _ _⟨_,(⟨rfl,rfl⟩|⟨rfl,rfl⟩),hL⟩
 .simp only[au,ax] at hL;subst hL;repeat first|refine run ?_|intro
  refine GO.cr (vW s (0+((jF s).text.size:Int)) D D D) ?_;repeat first|refine run ?_|intro
  refine GR.step ?_;repeat first|refine run ?_|intro
  exact KX.c8 aF (F.c7 F.drop) (.inl rfl)
 .simp only[au,ax] at hL;subst hL;repeat first|refine run ?_|intro
  exact KX.a8 aF (F.c7 F.drop) aj
abbrev DP:List K4:=[.ev 0,.ev 1,.ev 2,.ef 3,.ef 4,.ef 5]
def gO{φ ψ:Prop}(k:ψ)(h:Hid ψ->φ:=by intro k;first|refine GO.ci (f:=308) (Hid.out k)|refine δ.ci (f:=308) (Hid.out k)|refine GO.cf (f:=308) rfl (Hid.out k)|refine δ.cf (f:=308) rfl (Hid.out k)|refine KX.Sz (Hid.out k)):φ:=h ⟨k⟩
def gN{φ ψ:Prop}(k:ψ)(h:Hid ψ->φ:=by intro k;(with_reducible apply Α.a8);first|refine Α.dr 25 8 DP (Hid.out k)):φ:=h ⟨k⟩
def AB{L:Η}(s:ByteArray)(hw:Uh s)[F2 L (some ⟨0,0,none⟩) Int (dJ .u8) 1 Rw] :
  Τ Θ 288 #[.string s] L (λv Γ=>∃ad cap,v=.tuple #[ah ad 1 cap,J 0,J 0]/\Γ = Ω SH 4 US ad cap [jF s]::L):=by
 have a3:=hw.size;refine Τ.bd ?_;repeat first|refine run ?_|intro _|refine gN ?_|refine gO ?_
 rename_i b2 b3 b4 b5 bx;refine Α.rangeFunc (Jy (L0:=L) bx s hw) rfl Zg.1 ae cj (λk=>if k=0 then[obj b5 370 [ah none 0 0],obj b2 370 [ah none 0 0],obj b3 3 [J 0],obj b4 29 [J 0]] else[hex λx:OA×Nat=>cx [obj b5 370 [ah x.1 1 x.2],Ω SH 4 US x.1 x.2 [jF s]],obj b2 370 [ah none 0 0],obj b3 3 [J 0],obj b4 29 [J 0]]) ?_ ?_ ?_
 .simp only[if_true,au,ax];exact ak
 .intro k hk;have a2:k=0:=by simpa using hk
  subst a2;simp only[if_true,List.getElem_cons_zero,dw,Nat.one_ne_zero,if_false];show Α _ _ _ ((14,J 0)::(13,bF (SH (jF s)))::_) _ _;repeat first|refine run ?_|intro _|refine gN ?_|refine gO ?_
  refine GO.cL (F.c8 SH 4 US) ?_;refine GO.ef (Ef.a8 (Ε:=SH) (e:=jF s) rfl rfl rfl rfl rfl bh (zW _) cj cj) ae ?_;rintro _ _⟨M,B,rfl,rfl⟩;repeat first|refine run ?_|intro _|refine gN ?_|refine gO ?_
  refine KX.round ?_;refine F.trans ?_ (F.f8 (M,B) (F.refl _));simp only[au,ax];exact ak
 simp only[aK,bu,dw,Nat.one_ne_zero,if_false,au,ax];refine KX.c7 ?_;repeat first|refine run ?_|intro _|refine gN ?_|refine gO ?_
 refine GO.c8 (f:=λx:OA×Nat=>[obj b5 370 [ah x.1 1 x.2],Ω SH 4 US x.1 x.2 [jF s]]) ?_;rintro⟨M,B⟩;simp only[au,ax];repeat first|refine run ?_|intro _|refine gN ?_|refine gO ?_
 refine KX.a8 (by exact C7.a8 rfl (C7.a8 rfl (C7.a8 rfl (C7.nil)))) ?_ ⟨M,B,rfl,rfl⟩;exact ak
def Fl{L:Η}(s:ByteArray)(hw:Uh s)[F2 L (some ⟨0,0,none⟩) Int (dJ .u8) 1 Rw] :
  Τ Θ 213 #[.string s] L (F3 (.bool true) L):=by
 have a2:([jF s]).length=1:=rfl;refine Τ.bd ?_;repeat first|refine run ?_|intro
 refine GO.ca (AB s hw) ?_;rintro _ _⟨ad,cap,rfl,rfl⟩;have B:([jF s]:List Tok)[(0:Int).toNat]! = jF s:=rfl;have M:(jF s).Δ=0:=rfl;repeat first|refine run ?_|intro
 rw[B];repeat first|refine run ?_|intro
 refine KX.a8 aF F.drop ⟨?_,rfl⟩;rw[bN (show(jF s).text=s from rfl)];rfl
end
section
open Go.V
def Tr{α:Type}(_:α):HP:=ee True
def vp{α:Type}(l:List α){L:Η}:F L (Ψ Tr l::L):=λθ R w s=>by
 obtain⟨ok,ι,h,a,b1,c,Μ⟩:=s;exact⟨ok,ι,h,a,b1,c,Hp.emp,Hp.emp,h,Hp.a8 _,Hp.c7 _,Hp.a8 _,Hp.sub.refl _,λ_ _=>trivial,Μ⟩
attribute [local irreducible] Α GO GP δ ms Ev Ef C0 F CB GB V.Enters
def uU{α:Type}(f:FuncId)(cap:τ)(Ε:α->τ)(p:α->HP)(C:HP)(x:α):Prop:=∀L:Η,Τ Θ f (([]++[Value.agg (Ε x).toArray]++cap:τ)).toArray (C::p x::L) (F3 (.bool true) (C::p x::L))
def qZ{L:Η}(f:FuncId)(cap:τ)(C:HP)(ad:OA)(c:Nat)(I:List Ru)(U:I.length<=64)(hf:∀x∈I,uU f cap dI Tr C x) :
  Τ Θ 211 #[ah ad I.length c,.func (.func f) #[] cap.toArray] (C::Ψ Tr I::ξ dI 7 ad I::L) (F3 (.bool true) (C::Ψ Tr I::ξ dI 7 ad I::L)):=by
 refine Τ.bd ?_;refine Nd ?_;intros;refine Α.loop (α:=Nat) (λi=>i<=I.length) (λi=>[(0,ah ad I.length c),(1,.func (.func f) #[] cap.toArray),(7,ah ad I.length c),(8,J I.length),(9,J (i:Int))]) (λ_=>C::Ψ Tr I::ξ dI 7 ad I::L) (λi=>I.length - i) 0 D aD (F.refl _) ?_;intro i hi;by_cases a2:i<I.length
 case neg =>
  refine Nd ?_;intros;exact KX.en ⟨rfl,rfl⟩
 have M:(i:Int).toNat=i:=D;have B:=bA a2;refine Nd ?_;intros;rw[M];refine GO.cL (F.drop.trans ((F.c7 (F.d8 (f:=Tr) B)).trans (F.refl _))) ?_;refine GO.ef (Ef.f5 rfl rfl (hf _ B _)) ae ?_;rintro _ _⟨rfl,rfl⟩;refine Nd ?_;intros;refine⟨i+1,D,D,?_,by exact ak⟩;rw[bC i];exact aD
def mN{L:Η}(f:FuncId)(cap:τ)(ad:OA)(c:Nat) :
  Τ Θ 205 #[ah ad 0 c,.func (.func f) #[] cap.toArray] L (F3 (.bool true) L):=by
 refine Τ.bd ?_;refine Nd ?_;intros;refine Α.loop (α:=Unit) (λ_=>True) (λ_=>[(0,ah ad 0 c),(1,.func (.func f) #[] cap.toArray),(7,ah ad 0 c),(8,J 0),(9,J 0)]) (λ_=>L) (λ_=>0) () trivial aD (F.refl _) ?_;intro _ _;refine Nd ?_;intros;exact KX.en ⟨rfl,rfl⟩
def mM{L:Η}(f:FuncId)(cap:τ)(ad:OA)(c:Nat) :
  Τ Θ 207 #[ah ad 0 c,.func (.func f) #[] cap.toArray] L (F3 (.bool true) L):=by
 refine Τ.bd ?_;refine Nd ?_;intros;refine Α.loop (α:=Unit) (λ_=>True) (λ_=>[(0,ah ad 0 c),(1,.func (.func f) #[] cap.toArray),(7,ah ad 0 c),(8,J 0),(9,J 0)]) (λ_=>L) (λ_=>0) () trivial aD (F.refl _) ?_;intro _ _;refine Nd ?_;intros;exact KX.en ⟨rfl,rfl⟩
def mL{L:Η}(f:FuncId)(cap:τ)(ad:OA)(c:Nat) :
  Τ Θ 209 #[ah ad 0 c,.func (.func f) #[] cap.toArray] L (F3 (.bool true) L):=by
 refine Τ.bd ?_;refine Nd ?_;intros;refine Α.loop (α:=Unit) (λ_=>True) (λ_=>[(0,ah ad 0 c),(1,.func (.func f) #[] cap.toArray),(7,ah ad 0 c),(8,J 0),(9,J 0)]) (λ_=>L) (λ_=>0) () trivial aD (F.refl _) ?_;intro _ _;refine Nd ?_;intros;exact KX.en ⟨rfl,rfl⟩
def TR(b:Bool):Value:=.bool b
def sg{L:Η}(x:Ru):Τ Θ 218 #[bF (dI x)] L (λu Γ=>u=.string x.name/\Γ = L):=by
 refine Τ.bd ?_;refine Nd ?_;intros;exact KX.a8 aF F.drop ⟨rfl,rfl⟩
theorem Ff{L:Η}(ad:OA)(c:Nat)(I:List Ru)(U:I.length<=64)(hd:(I.map (·.name)).Nodup) :
  Τ Θ 217 #[ah ad I.length c,.func (.func 218) #[] #[]] (ξ dI 7 ad I::L) (F3 (.bool true) (ξ dI 7 ad I::L)):=by
 refine Τ.bd ?_;refine Nd ?_;intros;refine GO.ef (Ef.c8 Q0 TR (.inr ⟨_,_,_,rfl,rfl,D⟩)) ae ?_;rintro _ _⟨bm,rfl,rfl⟩;refine Nd ?_;intros;refine Α.loop (α:=Nat×List (ByteArray×Bool)) (λx=>x.1<=I.length/\∀j,x.1<=j->j<I.length->@List.lookup ByteArray Bool instBEqOfDecidableEq I[j]!.name x.2=none) (λx=>[(0,ah ad I.length c),(1,.func (.func 218) #[] #[]),(5,.map (some bm)),(11,ah ad I.length c),(12,J I.length),(13,J (x.1:Int))]) (λx=>cS Q0 TR bm x.2::ξ dI 7 ad I::L) (λx=>I.length - x.1) (0,[]) aj aD (F.refl _) ?_;rintro⟨i,m⟩ ⟨hi,hm⟩;dsimp only at hi hm ⊢;by_cases a2:i<I.length
 case neg =>
  refine Nd ?_;intros;exact KX.a8 aF F.drop ⟨rfl,rfl⟩
 have M:(i:Int).toNat=i:=D;refine Nd ?_;intros;rw[M];refine GO.ef (Ef.c7 (first:=[]) (cap:=[]) (vs:=[bF (dI I[i]!)]) (sg I[i]!) rfl rfl) ae ?_;rintro _ _⟨rfl,rfl⟩;refine GO.ev (Ev.j5 (k:=I[i]!.name) rfl rfl) ae ?_;rw[hm i D a2];simp only[ik,Option.getD_none];refine Nd ?_;intros;refine GO.ef (Ef.c7 (first:=[]) (cap:=[]) (vs:=[bF (dI I[i]!)]) (sg I[i]!) rfl rfl) ae ?_;rintro _ _⟨rfl,rfl⟩;refine GO.NH (Ef.d9 (k:=I[i]!.name) (e:=true) rfl rfl rfl rfl) ?_;rintro _ _ rfl;refine Nd ?_;intros;refine⟨(i+1,cZ m I[i]!.name true),⟨D,?_⟩,D,?_,F.c7 F.drop⟩
 .intro j hj B;dsimp only at hj ⊢;rw[oz,Ν,hm j D B];intro e
  have K:(I.map (·.name))[j]'(by simpa using B)=(I.map (·.name))[i]'(by simp;omega):=by
   rw[D7 B,D7 D] at e;simpa using e
  have:=(List.getElem_inj hd).1 K
  omega
 .dsimp only;rw[bC i];exact aD
def BX{L:Η}(ad:OA)(c:Nat) :
  Τ Θ 219 #[ah ad 0 c,.func (.func 220) #[] #[]] L (F3 (.bool true) L):=by
 refine Τ.bd ?_;refine Nd ?_;intros;refine GO.ef (Ef.c8 Q0 TR (.inr ⟨_,_,_,rfl,rfl,D⟩)) ae ?_;rintro _ _⟨bm,rfl,rfl⟩;refine Nd ?_;intros;refine Α.loop (α:=Unit) (λ_=>True) (λ_=>[(0,ah ad 0 c),(1,.func (.func 220) #[] #[]),(5,.map (some bm)),(11,ah ad 0 c),(12,J 0),(13,J 0)]) (λ_=>cS Q0 TR bm ([]:List (ByteArray×Bool))::L) (λ_=>0) () trivial aD (F.refl _) ?_;intro _ _;refine Nd ?_;intros;exact KX.a8 aF F.drop ⟨rfl,rfl⟩
def BW{L:Η}(ad:OA)(c:Nat) :
  Τ Θ 221 #[ah ad 0 c,.func (.func 222) #[] #[]] L (F3 (.bool true) L):=by
 refine Τ.bd ?_;refine Nd ?_;intros;refine GO.ef (Ef.c8 Q0 TR (.inr ⟨_,_,_,rfl,rfl,D⟩)) ae ?_;rintro _ _⟨bm,rfl,rfl⟩;refine Nd ?_;intros;refine Α.loop (α:=Unit) (λ_=>True) (λ_=>[(0,ah ad 0 c),(1,.func (.func 222) #[] #[]),(5,.map (some bm)),(11,ah ad 0 c),(12,J 0),(13,J 0)]) (λ_=>cS Q0 TR bm ([]:List (ByteArray×Bool))::L) (λ_=>0) () trivial aD (F.refl _) ?_;intro _ _;refine Nd ?_;intros;exact KX.a8 aF F.drop ⟨rfl,rfl⟩
def BV{L:Η}(ad:OA)(c:Nat) :
  Τ Θ 223 #[ah ad 0 c,.func (.func 224) #[] #[]] L (F3 (.bool true) L):=by
 refine Τ.bd ?_;refine Nd ?_;intros;refine GO.ef (Ef.c8 Q0 TR (.inr ⟨_,_,_,rfl,rfl,D⟩)) ae ?_;rintro _ _⟨bm,rfl,rfl⟩;refine Nd ?_;intros;refine Α.loop (α:=Unit) (λ_=>True) (λ_=>[(0,ah ad 0 c),(1,.func (.func 224) #[] #[]),(5,.map (some bm)),(11,ah ad 0 c),(12,J 0),(13,J 0)]) (λ_=>cS Q0 TR bm ([]:List (ByteArray×Bool))::L) (λ_=>0) () trivial aD (F.refl _) ?_;intro _ _;refine Nd ?_;intros;exact KX.a8 aF F.drop ⟨rfl,rfl⟩
end
section
open Go.V
attribute [local irreducible] Α GO GP δ ms Ev Ef C0 F CB GB V.Enters
structure Wy (x:Ru):Prop where
 word:Uh x.name
 form:if x.obj=true then x.mixed=false/\x.Vj=false/\0<=x.bind/\x.bind<=2 else x.Uf=0/\x.bind=0/\x.level=0
 num:(x.obj=true->1<=x.Uf/\x.Uf<=1048576)/\0<=x.level/\x.level<=100
structure TS (c:B0):Prop where
 B5:c.B5.length<=64
 it:∀x∈c.B5,Wy x
 di:(c.B5.map (·.name)).Nodup
abbrev Ov(c:L1)(L:Η):Η:=ξ dI 7 c.I2 c.B5::L
def tN{L:Η}(c:L1)(h:TS c.m):Τ Θ 154 #[bF c.cells] (Ov c (cc::L)) (F3 (.bool true) (Ov c (cc::L))):=by
 have l1:c.B5.length<=64:=h.B5;refine Τ.bd ?_;simp only[Ov,L1.cells];refine Nd ?_;intros;refine GO.cr (mN _ [] c.Oo c.Oq) ?_;refine Nd ?_;intros;refine GO.cr (mM _ [] c.Sg c.Sh) ?_;refine Nd ?_;intros;refine GO.cr (mL _ [] c.SD c.SE) ?_;refine Nd ?_;intros;exact KX.en ⟨rfl,rfl⟩
def LY(x:Ru)(h:Uh x.name):uU 212 [] dI Tr cc x:=by
 intro L;refine Τ.bd (args:=[bF (dI x)]) ?_;refine Nd ?_;intros;refine GO.cr (Fl x.name h) ?_;refine Nd ?_;intros;exact KX.a8 aF F.drop ⟨rfl,rfl⟩
def BN{L:Η}(c:L1)(h:TS c.m):Τ Θ 155 #[bF c.cells] (Ov c (cc::L)) (F3 (.bool true) (Ov c (cc::L))):=by
 refine Τ.bd ?_;simp only[Ov,L1.cells];refine Nd ?_;intros;refine GO.cL (vp c.B5) ?_;(first|refine GO.ef (Ef.call (qZ (L:=[]) _ [] cc c.I2 c.J4 c.B5 h.B5 (λx O=>LY x (h.it x O).word)) rfl fQ) ae ?_);rintro _ _⟨_,⟨rfl,rfl⟩,hL⟩;simp only[au,ax] at hL;subst hL;refine Nd ?_;intros;refine GO.cr (mN _ [] c.Oo c.Oq) ?_;refine Nd ?_;intros;refine GO.cr (mM _ [] c.Sg c.Sh) ?_;refine Nd ?_;intros;refine GO.cr (mL _ [] c.SD c.SE) ?_;refine Nd ?_;intros;exact KX.en ⟨rfl,rfl⟩
def vq{L:Η}(c:L1)(h:TS c.m):Τ Θ 156 #[bF c.cells] (Ov c (cc::L)) (F3 (.bool true) (Ov c (cc::L))):=by
 refine Τ.bd ?_;simp only[Ov,L1.cells];refine Nd ?_;intros;(first|refine GO.ef (Ef.call (Ff (L:=[]) c.I2 c.J4 c.B5 h.B5 h.di) rfl fQ) ae ?_);rintro _ _⟨_,⟨rfl,rfl⟩,hL⟩;simp only[au,ax] at hL;subst hL;refine Nd ?_;intros;refine GO.cr (BX c.Oo c.Oq) ?_;refine Nd ?_;intros;refine GO.cr (BW c.Sg c.Sh) ?_;refine Nd ?_;intros;refine GO.cr (BV c.SD c.SE) ?_;refine Nd ?_;intros;exact KX.en ⟨rfl,rfl⟩
abbrev Ui:Nat:=116
def xd(x:Ru)(h:Wy x):uU 226 [] dI Tr (ee True) x:=by
 intro L;have hf:=h.form;refine Τ.bd (args:=[bF (dI x)]) ?_;cases O:x.obj with
 | true =>
  rw[Χ O] at hf;obtain⟨f1,f2,f3,f4⟩:=hf;have e:dI x=[.string x.name,.bool true,.bool false,.bool false,J x.Uf,J x.bind,J x.level]:=by unfold dI;rw[O,f1,f2]
  rw[e];refine Nd ?_;intros;exact KX.a8 aF F.drop ⟨by rw[bN f4];rfl,rfl⟩
 | false =>
  rw[Ν (by rw[O];decide)] at hf;obtain⟨f1,f2,f3⟩:=hf;have e:dI x=[.string x.name,.bool false,.bool x.mixed,.bool x.Vj,J 0,J 0,J 0]:=by unfold dI;rw[O,f1,f2,f3]
  rw[e];refine Nd ?_;intros;exact KX.a8 aF F.drop ⟨by rw[bN rfl];rfl,rfl⟩
def wT{L:Η}(c:L1)(h:TS c.m):Τ Θ 157 #[bF c.cells] (Ov c (cc::L)) (F3 (.bool true) (Ov c (cc::L))):=by
 have l1:c.B5.length<=64:=h.B5;refine Τ.bd ?_;simp only[Ov];refine Nd ?_;intros;rename_i b1 b3;refine GO.cL (F.pure trivial (vp c.B5)) ?_;simp only[L1.cells];refine Nd ?_;intros;(first|refine GO.ef (Ef.call (qZ (L:=[]) _ [] (ee True) c.I2 c.J4 c.B5 l1 (λx O=>xd x (h.it x O))) rfl fQ) ae ?_);rintro _ _⟨_,⟨rfl,rfl⟩,hL⟩;simp only[au,ax] at hL;subst hL;refine Nd ?_;intros;refine GO.cr (mN _ [av b3] c.Oo c.Oq) ?_;refine Nd ?_;intros;refine GO.cr (mM _ [av b3] c.Sg c.Sh) ?_;refine Nd ?_;intros;refine GO.cr (mL _ [] c.SD c.SE) ?_;refine Nd ?_;intros;exact KX.en ⟨rfl,rfl⟩
def vv(x:Ru)(h:Wy x):uU 237 [] dI Tr (ee True) x:=by
 intro L;obtain⟨K,T,h3⟩:=h.num;refine Τ.bd (args:=[bF (dI x)]) ?_;cases O:x.obj with
 | true =>
  obtain⟨f1,f2⟩:=K O;have e:dI x=[.string x.name,.bool true,.bool x.mixed,.bool x.Vj,J x.Uf,J x.bind,J x.level]:=by unfold dI;rw[O]
  rw[e];refine Nd ?_;intros;exact KX.a8 aF F.drop ⟨by rw[bN h3];rfl,rfl⟩
 | false =>
  have e:dI x=[.string x.name,.bool false,.bool x.mixed,.bool x.Vj,J x.Uf,J x.bind,J x.level]:=by unfold dI;rw[O]
  rw[e];refine Nd ?_;intros;exact KX.a8 aF F.drop ⟨by rw[bN h3];rfl,rfl⟩
def ET{L:Η}(c:L1)(h:TS c.m):Τ Θ 158 #[bF c.cells] (Ov c (cc::L)) (F3 (.bool true) (Ov c (cc::L))):=by
 have l1:c.B5.length<=64:=h.B5;refine Τ.bd ?_;simp only[Ov,L1.cells];refine Nd ?_;intros;rename_i b1 b3;refine GO.cL (F.pure trivial (vp c.B5)) ?_;(first|refine GO.ef (Ef.call (qZ (L:=[]) _ [] (ee True) c.I2 c.J4 c.B5 l1 (λx O=>vv x (h.it x O))) rfl fQ) ae ?_);rintro _ _⟨_,⟨rfl,rfl⟩,hL⟩;simp only[au,ax] at hL;subst hL;refine Nd ?_;intros;refine GO.cr (mN _ [av b3] c.Oo c.Oq) ?_;refine Nd ?_;intros;refine GO.cr (mM _ [av b3] c.Sg c.Sh) ?_;refine Nd ?_;intros;refine GO.cr (mL _ [] c.SD c.SE) ?_;refine Nd ?_;intros;exact KX.en ⟨rfl,rfl⟩
def Hz{L:Η}(c:L1)(h:TS c.m):Τ Θ 107 #[bF c.cells] (Oz c::cc::L) (F3 (J 0) (Oz c::cc::L)):=by
 refine Τ.bd ?_;refine Α.cL (Γ:=Ov c (cc::Oz c::L)) (Ws.trans (by simp only[Ov];exact ak)) ?_;simp only[L1.cells];refine Nd ?_;intros;rename_i b1;refine GO.cL (Γ:=Ov c (cc::obj b1 Ui c.cells::Oz c::L)) (by simp only[Ov,L1.cells];exact ak) ?_;refine GO.cr (tN c h) ?_;simp only[Ov,L1.cells];refine Nd ?_;intros;refine GO.cL (Γ:=Ov c (cc::obj b1 Ui c.cells::Oz c::L)) (by simp only[Ov,L1.cells];exact ak) ?_;refine GO.cr (BN c h) ?_;simp only[Ov,L1.cells];refine Nd ?_;intros;refine GO.cL (Γ:=Ov c (cc::obj b1 Ui c.cells::Oz c::L)) (by simp only[Ov,L1.cells];exact ak) ?_;refine GO.cr (vq c h) ?_;simp only[Ov,L1.cells];refine Nd ?_;intros;refine GO.cL (Γ:=Ov c (cc::obj b1 Ui c.cells::Oz c::L)) (by simp only[Ov,L1.cells];exact ak) ?_;refine GO.cr (wT c h) ?_;simp only[Ov,L1.cells];refine Nd ?_;intros;refine GO.cL (Γ:=Ov c (cc::obj b1 Ui c.cells::Oz c::L)) (by simp only[Ov,L1.cells];exact ak) ?_;refine GO.cr (ET c h) ?_;simp only[Ov,L1.cells];refine Nd ?_;intros;refine KX.a8 aF ?_ ⟨rfl,rfl⟩;exact ak
