/- Lemmas. -/
import Derived.Test.YtlgpgjdggilkgaaGreatDoorEdan
set_option linter.all false
set_option maxHeartbeats 1000000
namespace Go.Proofs.YtlgpgjdggilkgaaGreatDoor
section
open Go.V
attribute [local irreducible] Β Y GP δ vi Z Ef C0 E CB GB V.Enters
instance:DecidablePred a0:=λl=>by unfold a0;infer_instance
def ir(G:π):Prop:=(∀x∈G,a0 x)/\G.length<=4096
instance (G:π):Decidable (ir G):=by unfold ir;infer_instance
def Qk(f:Int)(z:π×π×Int×Int)(x:iK):π×π×Int×Int :=
 if x.1<f\/(x.1=f/\x.2.1+x.2.2<z.2.2.1) then(z.1++[x],z.2)
 else if f<x.1\/z.2.2.2<x.2.1 then(z.1,z.2.1++[x],z.2.2)
 else(z.1,z.2.1,min z.2.2.1 x.2.1,max z.2.2.2 (x.2.1+x.2.2))
def P5(s:π)(l:iK):π×π×Int×Int:=s.foldl (Qk l.1) ([],[],l.2.1,l.2.1+l.2.2)
def RL(s:π)(l:iK):π:=(P5 s l).1++[(l.1,(P5 s l).2.2.1,(P5 s l).2.2.2 - (P5 s l).2.2.1)]++(P5 s l).2.1
structure Vp (l:iK) (n:Nat) (z:π×π×Int×Int):Prop where
 len:z.1.length+z.2.1.length<=n
 ok1:∀x∈z.1,a0 x
 ok2:∀x∈z.2.1,a0 x
 lo:0<=z.2.2.1/\z.2.2.1<=l.2.1
 hi:l.2.1+l.2.2<=z.2.2.2/\z.2.2.2<=1099511627776
theorem Vp.step{l:iK}{n:Nat}{z:π×π×Int×Int}(h:Vp l n z){x:iK}(M:a0 x):Vp l (n+1) (Qk l.1 z x):=by
 obtain⟨I,Q,h3,h4,h5⟩:=h;have J:=M;unfold a0 at J;have A:∀{t:π},(∀y∈t,a0 y)->∀y∈t++[x],a0 y:=ah;unfold Qk;split
 .exact⟨ah,A Q,h3,h4,h5⟩
 .split
  .exact⟨ah,Q,A h3,h4,h5⟩
  .exact⟨ah,Q,h3,ah,ah⟩
theorem GG{s:π}{l:iK}{i:Nat}(h:i<s.length):P5 (s.take (i+1)) l=Qk l.1 (P5 (s.take i) l) s[i]!:=by
 grind [P5,aB]
def zt{s:π}{l:iK}(T:a0 l)(hs:∀x∈s,a0 x):∀i,i<=s.length->Vp l i (P5 (s.take i) l)
 | 0,_=>by
  unfold a0 at T;exact⟨ax _,(λ_ h=>by cases h),(λ_ h=>by cases h),⟨T.2.1,bE _⟩,⟨bE _,by show l.2.1+l.2.2<=_;omega⟩⟩
 | i+1,h=>by
  rw[GG D];exact(zt T hs i D).step (hs _ (bI D))
theorem KG{s:π}{l:iK}(T:a0 l)(hs:∀x∈s,a0 x):(RL s l).length<=s.length+1/\∀x∈RL s l,a0 x:=by
 have h:=zt T hs s.length D;rw[cK] at h;obtain⟨I,Q,h3,h4,h5⟩:=h;grind [a0,RL]
def N5(l:π):π:=l.foldl RL []
theorem jY{α β:Type}(f:β->α->β)(b:β)[Inhabited α]{l:List α}{i:Nat}(h:i<l.length):(l.take (i+1)).foldl f b=f ((l.take i).foldl f b) l[i]!:=by
 grind [aB]
theorem qv{l:π}(h:∀x∈l,a0 x):∀i,i<=l.length->(N5 (l.take i)).length<=i/\∀x∈N5 (l.take i),a0 x
 | 0,_=>⟨ax _,(λ_ q=>by cases q)⟩
 | i+1,hi=>by
  obtain⟨I,Q⟩:=qv h i D;have e:N5 (l.take (i+1))=RL (N5 (l.take i)) l[i]!:=jY RL [] D;rw[e];obtain⟨h3,h4⟩:=KG (h _ (bI (D:i<l.length))) Q;exact⟨D,h4⟩
theorem ru{l:π}(h:∀x∈l,a0 x):(N5 l).length<=l.length/\∀x∈N5 l,a0 x:=by
 grind [qv,cK]
def apart(y z:iK):Prop:=y.1≠z.1\/y.2.1+y.2.2<=z.2.1\/z.2.1+z.2.2<=y.2.1
def L5(l:π):Prop:=l.Pairwise apart
def Ql(x y:iK):π :=
 if y.1≠x.1\/x.2.1+x.2.2<=y.2.1\/y.2.1+y.2.2<=x.2.1 then[y]
 else(if y.2.1<x.2.1 then[(x.1,y.2.1,x.2.1 - y.2.1)] else[])++(if x.2.1+x.2.2<y.2.1+y.2.2 then[(x.1,x.2.1+x.2.2,y.2.1+y.2.2 - x.2.1 - x.2.2)] else[])
def M6(l:π)(x:iK):π:=l.flatMap (Ql x)
theorem Cl{x y p:iK}(M:a0 x)(U:a0 y)(hp:p∈Ql x y):a0 p/\p.1=y.1/\y.2.1<=p.2.1/\p.2.1+p.2.2<=y.2.1+y.2.2:=by
 unfold a0 at M U;grind [Ql,a0]
theorem Ds{x:iK}(y:iK)(M:0<=x.2.2):L5 (Ql x y):=by
 unfold L5 Ql;split
 .grind
 .rename_i hn;split
  .grind [apart]
  .split
   .grind
   .exact List.Pairwise.nil
theorem vY{x:iK}:∀{l:π},(∀z∈l,apart z x)->M6 l x=l
 | [],_=>rfl
 | z::l,h=>by
  have e:M6 (z::l) x=Ql x z++M6 l x:=aS
  have e1:Ql x z=[z]:=by
   unfold Ql;have:=h z au
   unfold apart at this;rw[Ω];omega
  rw[e,e1,vY (λy U=>h y (az _ U))];rfl
theorem rq{x:iK}{l:π}(M:a0 x)(T:∀y∈l,a0 y){p:iK}(hp:p∈M6 l x):∃y∈l,a0 p/\p.1=y.1/\y.2.1<=p.2.1/\p.2.1+p.2.2<=y.2.1+y.2.2:=by
 obtain⟨y,U,hp⟩:=List.mem_flatMap.1 hp;exact⟨y,U,Cl M (T y U) hp⟩
theorem vg{x:iK}{l:π}(M:a0 x)(T:∀y∈l,a0 y):∀p∈M6 l x,a0 p:=by grind [rq]
theorem mC{x:iK}(M:a0 x):∀{l:π},(∀y∈l,a0 y)->L5 l->L5 (M6 l x)/\(M6 l x).length<=l.length+1
 | [],_,_=>⟨List.Pairwise.nil,aD _⟩
 | y::l,T,ha=>by
  obtain⟨J,a2⟩:=List.pairwise_cons.1 ha;have A:∀z∈l,a0 z:=ah;obtain⟨i1,i2⟩:=mC M A a2;have e:M6 (y::l) x=Ql x y++M6 l x:=aS;have U:=T y ah;rw[e];refine⟨List.pairwise_append.2 ⟨Ds y (by unfold a0 at M;omega),i1,λp hp q hq=>?_⟩,?_⟩
  .grind [Cl,rq,apart]
  .rw[aA,aL];by_cases Q:(Ql x y).length<=1
   .omega
   grind [Ql,vY,apart]
def jl(set:π)(y:iK):π:=set.foldl M6 [y]
theorem uh{set:π}{y:iK}(hs:∀x∈set,a0 x)(U:a0 y):∀i,i<=set.length->(∀p∈jl (set.take i) y,a0 p)/\L5 (jl (set.take i) y)/\(jl (set.take i) y).length<=i+1
 | 0,_=>⟨λp hp=>by rw[GO hp];exact U,dC _ _,ax _⟩
 | i+1,hi=>by
  obtain⟨I,Q,h3⟩:=uh hs U i D;have e:jl (set.take (i+1)) y=M6 (jl (set.take i) y) set[i]!:=jY M6 [y] D;rw[e];have M:=hs _ (bI (D:i<set.length));obtain⟨h4,h5⟩:=mC M I Q;exact⟨vg M I,h4,D⟩
theorem Ie{set:π}{y:iK}(hs:∀x∈set,a0 x)(U:a0 y):(∀p∈jl set y,a0 p)/\L5 (jl set y)/\(jl set y).length<=set.length+1:=by
 grind [uh,cK]
def jg(s set:π):π:=s.foldl (λout y=>(jl set y).foldl bF out) []
theorem ym{Δ out:π}(hr:∀p∈Δ,a0 p)(ho:∀p∈out,a0 p):∀i,i<=Δ.length->(∀p∈(Δ.take i).foldl bF out,a0 p)/\((Δ.take i).foldl bF out).length<=out.length+i
 | 0,_=>ah
 | i+1,hi=>by
  obtain⟨I,Q⟩:=ym hr ho i D;rw[jY bF out D];have M:=hr _ (bI (D:i<Δ.length));have:=qG ((Δ.take i).foldl bF out) Δ[i]!
  refine⟨zj I ?_,D⟩;unfold a0 at M;unfold J9;omega
theorem tP{s set:π}(h:∀x∈s,a0 x)(hs:∀x∈set,a0 x):∀i,i<=s.length->(∀p∈jg (s.take i) set,a0 p)/\(jg (s.take i) set).length<=i*(set.length+1)
 | 0,_=>⟨(λ_ q=>by cases q),aD _⟩
 | i+1,hi=>by
  obtain⟨I,Q⟩:=tP h hs i D;have e:jg (s.take (i+1)) set=(jl set s[i]!).foldl bF (jg (s.take i) set):=jY (λout y=>(jl set y).foldl bF out) [] D;obtain⟨r1,_,r3⟩:=Ie hs (h _ (bI (D:i<s.length)));have h3:=ym r1 I (jl set s[i]!).length (ax _);rw[cK] at h3;rw[e];refine⟨h3.1,?_⟩;have h4:=h3.2;have e2:(i+1)*(set.length+1)=i*(set.length+1)+(set.length+1):=ig _ _;omega
theorem xJ{s set:π}(h:∀x∈s,a0 x)(hs:∀x∈set,a0 x):(∀p∈jg s set,a0 p)/\(jg s set).length<=s.length*(set.length+1):=by
 grind [tP,cK]
def kl(a b:π):π:=jg (N5 a) b
def pF(a b:π):π:=kl a (kl a b)
def kC(a b:π):Prop:=ir a/\ir b/\kl a b=[]
instance (a b:π):Decidable (kC a b):=by unfold kC;infer_instance
def wv{a b:π}(ha:∀x∈a,a0 x)(hb:∀x∈b,a0 x):(∀p∈kl a b,a0 p)/\(kl a b).length<=a.length*(b.length+1):=by
 obtain⟨I,Q⟩:=ru ha;obtain⟨h3,h4⟩:=xJ Q hb;exact⟨h3,aO h4 (bS _ I)⟩
def Q6:List Int:=[0,0,0,0,0,0,0,0,0,1,1,0,0,0,0,0,0,0,0,0,0,0,0,0,0,0,0,0,0,0,0,0,1,0,0,2,0,0,0,0,7,7,0,7,7,6,7,0,4,4,4,4,4,4,4,4,4,4,7,7,7,7,7,0,0,0,0,0,0,0,0,0,0,0,0,0,0,0,0,0,0,0,0,0,0,0,0,0,0,0,0,0,0,0,0,5,0,3,3,3,3,3,3,3,3,3,3,3,3,3,3,3,3,3,3,3,3,3,3,3,3,3,3,7,0,7,0,0]
abbrev co:HP:=τ (eU .u8) 1 (some ⟨0,0,none⟩) Q6
def uD:Q6.length=128:=Θ
def gI(s:ByteArray)(i:Int):Int:=if i<s.size/\(gu s)[i.toNat]! < 128 then Q6[((gu s)[i.toNat]!).toNat]! else 0
def lL{L:Ι}(s:ByteArray)(i:Int)(h0:0<=i)(hs:s.size<=1000000)[F5 L (some ⟨0,0,none⟩) Int (eU .u8) 1 Q6] :
  Υ Λ 325 #[.string s,K i] L (F7 (.int .u8 (gI s i)) L):=by
 have J:=uD;refine Υ.bd ?_;by_cases I:i<s.size
 case neg =>
  have e:gI s i=0:=Ο λh=>I h.1;rw[e];repeat first|refine run ?_|intro
  exact KX.en ⟨rfl,rfl⟩
 have hb:=Gk s _ (bI (show i.toNat<(gu s).length by rw[ut];omega));by_cases Q:(gu s)[i.toNat]! < 128
 case neg =>
  have e:gI s i=0:=Ο λh=>Q h.2;rw[e];repeat first|refine run ?_|intro
  exact KX.en ⟨rfl,rfl⟩
 have e:gI s i=Q6[((gu s)[i.toNat]!).toNat]!:=Ω ⟨I,Q⟩;rw[e];obtain⟨c,hc⟩:∃c,(gu s)[i.toNat]! = c:=⟨_,rfl⟩;rw[hc] at hb Q ⊢;have hm:((gu s)[i.toNat]!).toNat*1=c.toNat*1+0:=by rw[hc];omega
 have A:0+((gu s)[i.toNat]!).toNat*1=c.toNat*1+0:=by rw[hc];omega
 repeat first|refine run ?_|intro
 refine Y.ev (Z.n5 (j:=c.toNat) (o:=0) rfl A D ac rfl) ac ?_;repeat first|refine run ?_|intro
 exact KX.en ⟨rfl,rfl⟩
structure TP (s:ByteArray):Prop where
 size:1<=s.size/\s.size<=16
 first:gI s 0=3
 cR:∀i:Nat,i<s.size->gI s i=3\/gI s i=4\/gI s i=5
def Gz(s:ByteArray):gI s s.size=0:=Ο λh=>iJ h.1 D
def wc{L:Ι}(s:ByteArray)(i:Int)(h0:0<=i)(hs:s.size<=1000000)(hk:i<s.size->gI s i≠1/\gI s i≠2)[F5 L (some ⟨0,0,none⟩) Int (eU .u8) 1 Q6] :
  Υ Λ 316 #[.string s,K i] L (F7 (K i) L):=by
 refine Υ.bd ?_;repeat first|refine run ?_|intro
 refine Β.d9 1 (GR.step ?_);by_cases I:i<s.size
 case neg =>
  repeat first|refine run ?_|intro
  exact KX.en ⟨rfl,rfl⟩
 obtain⟨A,J⟩:=hk I;repeat first|refine run ?_|intro
 refine Y.cr (lL s i h0 hs) ?_;repeat first|refine run ?_|intro
 exact KX.en ⟨rfl,rfl⟩
structure Tok where
 Ζ:Int
 text:ByteArray
 n:Int
 pos:Int
 deriving Inhabited
def Sa(t:Tok):χ:=[K t.Ζ,.string t.text,K t.n,K t.pos]
def zU(t:Tok):∀u∈Sa t,u.oneCell' = true:=by simp[Sa,Value.oneCell']
instance:Rl Sa:=⟨zU⟩
def jD(s:ByteArray):Tok:=⟨0,s,0,0⟩
abbrev Uo:Nat:=374
abbrev AM:=Yu [.ef 10]
def gm{φ ψ:Prop}(k:ψ)(h:Hid ψ->φ:=by intro k;(with_reducible apply Β.a8);first|refine Β.dr 99 20 AM (Hid.out k)):φ:=h ⟨k⟩
theorem Gl{L:Ι}(s:ByteArray)(hw:TP s)[F5 L (some ⟨0,0,none⟩) Int (eU .u8) 1 Q6] :
  Υ Λ 317 #[.string s,K 0] L (F7 (.tuple #[bC (Sa (jD s)),K 0]) L):=by
 have a5:=hw.size;refine Υ.bd ?_;repeat first|refine run ?_|intro _|refine gm ?_
 rename_i b4 b6;refine Y.cr (lL s 0 ac D) ?_;rw[hw.first];repeat first|refine run ?_|intro _|refine gm ?_
 refine Y.cr (lL s (0+1) ac D) ?_;repeat first|refine run ?_|intro _|refine gm ?_
 refine Β.loop (α:=Nat) (λe=>1<=e/\e<=s.size) (λe=>[(0,.string s),(1,K 0),(4,ay b4),(6,ay b6),(7,K (e:Int)),(8,.int .u8 (gI s (e:Int)))])
  (λ_=>obj b6 Uo [K 0,.string ⟨#[]⟩,K 0,K 0]::obj b4 Uo [K 0,.string ⟨#[]⟩,K 0,K 0]::L) (λe=>s.size - e) 1 ah aG (E.refl _) ?_
 rintro e ⟨a3,a4⟩;by_cases a2:e<s.size
 case neg =>
  have A:e=s.size:=D;subst A;rw[Gz];repeat first|refine run ?_|intro _|refine gm ?_
  rw[Int.toNat_zero,bB,BQ];exact KX.a8 (by exact C9.cell rfl aY (C9.tmp rfl (C9.nil))) (E.trans E.drop E.drop) ⟨rfl,rfl⟩
 have hr:=hw.cR e a2
 have J:∀{q:Prop},(gI s (e:Int)=3->q)->(gI s (e:Int)≠3->gI s (e:Int)=4->q)->(gI s (e:Int)≠3->gI s (e:Int)≠4->gI s (e:Int)=5->q)->q:=by
  intro q a b c;rcases hr with h|h|h
  .exact a h
  .grind
  .grind
 refine J ?_ ?_ ?_<;>intros
 all_goals
  repeat first|refine run ?_|intro _|refine gm ?_
  refine Y.cr (lL s ((e:Int)+1) D D) ?_
  repeat first|refine run ?_|intro _|refine gm ?_
  refine⟨e+1,⟨D,D⟩,D,?_,E.refl _⟩
  rw[bJ e]
  exact aG
theorem Jk{L0:Ι}(bx:Nat)(s:ByteArray)(hw:TP s)[hrd:F5 L0 (some ⟨0,0,none⟩) Int (eU .u8) 1 Q6] :
  Iter Λ 315 [ay bx] [[bC (Sa (jD s)),K 0]] (obj bx 9 [.string s]::L0):=by
 have a2:=hw.size;have J:=hw.first;have a3:(jD s).text.size=s.size:=rfl;intro l J8 Jx U;have A:=U 0 cg;simp only[List.getElem_cons_zero] at A;show Υ _ _ _ _ (λ_ Ε=>Ε = J8 1::_\/_);refine Υ.bd (args:=[.func (.yield l) #[] #[],ay bx]) ?_;repeat first|refine run ?_|intro
 refine Y.cr (wc s 0 ac D D) ?_;repeat first|refine run ?_|intro
 refine Β.d9 2 (GR.step ?_);repeat first|refine run ?_|intro
 refine Y.cr (Gl s hw) ?_;repeat first|refine run ?_|intro _
 ((with_reducible apply Y.a8);refine Y.TG (C0.yield (A) rfl rfl fT) ac ?_);rintro _ _⟨_,(⟨rfl,rfl⟩|⟨rfl,rfl⟩),hL⟩
 .simp only[aq,av] at hL;subst hL;repeat first|refine run ?_|intro
  refine Y.cr (wc s (0+((jD s).text.size:Int)) D D D) ?_;repeat first|refine run ?_|intro
  refine GR.step ?_;repeat first|refine run ?_|intro
  exact KX.c8 aC (E.a8 E.drop) (.inl rfl)
 .simp only[aq,av] at hL;subst hL;repeat first|refine run ?_|intro
  exact KX.a8 aC (E.a8 E.drop) ah
abbrev DN:List K3:=[.ev 0,.ev 1,.ev 2,.ef 3,.ef 4,.ef 5]
def gQ{φ ψ:Prop}(k:ψ)(h:Hid ψ->φ:=by intro k;first|refine Y.ci (f:=308) (Hid.out k)|refine δ.ci (f:=308) (Hid.out k)|refine Y.cf (f:=308) rfl (Hid.out k)|refine δ.cf (f:=308) rfl (Hid.out k)|refine KX.RY (Hid.out k)):φ:=h ⟨k⟩
def gP{φ ψ:Prop}(k:ψ)(h:Hid ψ->φ:=by intro k;(with_reducible apply Β.a8);first|refine Β.dr 25 8 DN (Hid.out k)):φ:=h ⟨k⟩
def Ay{L:Ι}(s:ByteArray)(hw:TP s)[F5 L (some ⟨0,0,none⟩) Int (eU .u8) 1 Q6] :
  Υ Λ 288 #[.string s] L (λv Ε=>∃ad cap,v=.tuple #[ae ad 1 cap,K 0,K 0]/\Ε = μ Sa 4 Uo ad cap [jD s]::L):=by
 have a3:=hw.size;refine Υ.bd ?_;repeat first|refine run ?_|intro _|refine gP ?_|refine gQ ?_
 rename_i b2 b3 b4 b5 bx;refine Β.rangeFunc (Jk (L0:=L) bx s hw) rfl YZ.1 ac cg (λk=>if k=0 then[obj b5 370 [ae none 0 0],obj b2 370 [ae none 0 0],obj b3 3 [K 0],obj b4 29 [K 0]] else[hex λx:OA×Nat=>cw [obj b5 370 [ae x.1 1 x.2],μ Sa 4 Uo x.1 x.2 [jD s]],obj b2 370 [ae none 0 0],obj b3 3 [K 0],obj b4 29 [K 0]]) ?_ ?_ ?_
 .simp only[if_true,aq,av];exact aj
 .intro k hk;have a2:k=0:=by simpa using hk
  subst a2;simp only[if_true,List.getElem_cons_zero,dv,Nat.one_ne_zero,if_false];show Β _ _ _ ((14,K 0)::(13,bC (Sa (jD s)))::_) _ _;repeat first|refine run ?_|intro _|refine gP ?_|refine gQ ?_
  refine Y.cM (E.c8 Sa 4 Uo) ?_;refine Y.ef (Ef.a8 (Η:=Sa) (e:=jD s) rfl rfl rfl rfl rfl aY (zU _) cg cg) ac ?_;rintro _ _⟨J,A,rfl,rfl⟩;repeat first|refine run ?_|intro _|refine gP ?_|refine gQ ?_
  refine KX.round ?_;refine E.trans ?_ (E.f9 (J,A) (E.refl _));simp only[aq,av];exact aj
 simp only[aL,bq,dv,Nat.one_ne_zero,if_false,aq,av];refine KX.c7 ?_;repeat first|refine run ?_|intro _|refine gP ?_|refine gQ ?_
 refine Y.c8 (f:=λx:OA×Nat=>[obj b5 370 [ae x.1 1 x.2],μ Sa 4 Uo x.1 x.2 [jD s]]) ?_;rintro⟨J,A⟩;simp only[aq,av];repeat first|refine run ?_|intro _|refine gP ?_|refine gQ ?_
 refine KX.a8 (by exact C9.a8 rfl (C9.a8 rfl (C9.a8 rfl (C9.nil)))) ?_ ⟨J,A,rfl,rfl⟩;exact aj
def Fh{L:Ι}(s:ByteArray)(hw:TP s)[F5 L (some ⟨0,0,none⟩) Int (eU .u8) 1 Q6] :
  Υ Λ 213 #[.string s] L (F7 (.bool true) L):=by
 have a2:([jD s]).length=1:=rfl;refine Υ.bd ?_;repeat first|refine run ?_|intro
 refine Y.ca (Ay s hw) ?_;rintro _ _⟨ad,cap,rfl,rfl⟩;have A:([jD s]:List Tok)[(0:Int).toNat]! = jD s:=rfl;have J:(jD s).Ζ=0:=rfl;repeat first|refine run ?_|intro
 rw[A];repeat first|refine run ?_|intro
 refine KX.a8 aC E.drop ⟨?_,rfl⟩;rw[bO (show(jD s).text=s from rfl)];rfl
end
section
open Go.V
def SU{α:Type}(_:α):HP:=ee True
def vu{α:Type}(l:List α){L:Ι}:E L (η SU l::L):=λθ R w s=>by
 obtain⟨ok,ι,h,a,b1,c,Ξ⟩:=s;exact⟨ok,ι,h,a,b1,c,Hp.emp,Hp.emp,h,Hp.a8 _,Hp.c7 _,Hp.a8 _,Hp.sub.refl _,λ_ _=>trivial,Ξ⟩
attribute [local irreducible] Β Y GP δ vi Z Ef C0 E CB GB V.Enters
def uY{α:Type}(f:FuncId)(cap:χ)(Η:α->χ)(p:α->HP)(C:HP)(x:α):Prop:=∀L:Ι,Υ Λ f (([]++[Value.agg (Η x).toArray]++cap:χ)).toArray (C::p x::L) (F7 (.bool true) (C::p x::L))
def qZ{L:Ι}(f:FuncId)(cap:χ)(C:HP)(ad:OA)(c:Nat)(G:List Q4)(T:G.length<=64)(hf:∀x∈G,uY f cap dG SU C x) :
  Υ Λ 211 #[ae ad G.length c,.func (.func f) #[] cap.toArray] (C::η SU G::τ dG 7 ad G::L) (F7 (.bool true) (C::η SU G::τ dG 7 ad G::L)):=by
 refine Υ.bd ?_;refine ML ?_;intros;refine Β.loop (α:=Nat) (λi=>i<=G.length) (λi=>[(0,ae ad G.length c),(1,.func (.func f) #[] cap.toArray),(7,ae ad G.length c),(8,K G.length),(9,K (i:Int))]) (λ_=>C::η SU G::τ dG 7 ad G::L) (λi=>G.length - i) 0 D aG (E.refl _) ?_;intro i hi;by_cases a2:i<G.length
 case neg =>
  refine ML ?_;intros;exact KX.en ⟨rfl,rfl⟩
 have J:(i:Int).toNat=i:=D;have A:=bI a2;refine ML ?_;intros;rw[J];refine Y.cM (E.drop.trans ((E.a8 (E.d8 (f:=SU) A)).trans (E.refl _))) ?_;refine Y.ef (Ef.f7 rfl rfl (hf _ A _)) ac ?_;rintro _ _⟨rfl,rfl⟩;refine ML ?_;intros;refine⟨i+1,D,D,?_,by exact aj⟩;rw[bJ i];exact aG
def mM{L:Ι}(f:FuncId)(cap:χ)(ad:OA)(c:Nat) :
  Υ Λ 205 #[ae ad 0 c,.func (.func f) #[] cap.toArray] L (F7 (.bool true) L):=by
 refine Υ.bd ?_;refine ML ?_;intros;refine Β.loop (α:=Unit) (λ_=>True) (λ_=>[(0,ae ad 0 c),(1,.func (.func f) #[] cap.toArray),(7,ae ad 0 c),(8,K 0),(9,K 0)]) (λ_=>L) (λ_=>0) () trivial aG (E.refl _) ?_;intro _ _;refine ML ?_;intros;exact KX.en ⟨rfl,rfl⟩
def mL{L:Ι}(f:FuncId)(cap:χ)(ad:OA)(c:Nat) :
  Υ Λ 207 #[ae ad 0 c,.func (.func f) #[] cap.toArray] L (F7 (.bool true) L):=by
 refine Υ.bd ?_;refine ML ?_;intros;refine Β.loop (α:=Unit) (λ_=>True) (λ_=>[(0,ae ad 0 c),(1,.func (.func f) #[] cap.toArray),(7,ae ad 0 c),(8,K 0),(9,K 0)]) (λ_=>L) (λ_=>0) () trivial aG (E.refl _) ?_;intro _ _;refine ML ?_;intros;exact KX.en ⟨rfl,rfl⟩
def mK{L:Ι}(f:FuncId)(cap:χ)(ad:OA)(c:Nat) :
  Υ Λ 209 #[ae ad 0 c,.func (.func f) #[] cap.toArray] L (F7 (.bool true) L):=by
 refine Υ.bd ?_;refine ML ?_;intros;refine Β.loop (α:=Unit) (λ_=>True) (λ_=>[(0,ae ad 0 c),(1,.func (.func f) #[] cap.toArray),(7,ae ad 0 c),(8,K 0),(9,K 0)]) (λ_=>L) (λ_=>0) () trivial aG (E.refl _) ?_;intro _ _;refine ML ?_;intros;exact KX.en ⟨rfl,rfl⟩
def Tp(b:Bool):Value:=.bool b
def sf{L:Ι}(x:Q4):Υ Λ 218 #[bC (dG x)] L (λu Ε=>u=.string x.name/\Ε = L):=by
 refine Υ.bd ?_;refine ML ?_;intros;exact KX.a8 aC E.drop ⟨rfl,rfl⟩
theorem Fb{L:Ι}(ad:OA)(c:Nat)(G:List Q4)(T:G.length<=64)(hd:(G.map (·.name)).Nodup) :
  Υ Λ 217 #[ae ad G.length c,.func (.func 218) #[] #[]] (τ dG 7 ad G::L) (F7 (.bool true) (τ dG 7 ad G::L)):=by
 refine Υ.bd ?_;refine ML ?_;intros;refine Y.ef (Ef.c8 Qy Tp (.inr ⟨_,_,_,rfl,rfl,D⟩)) ac ?_;rintro _ _⟨bm,rfl,rfl⟩;refine ML ?_;intros;refine Β.loop (α:=Nat×List (ByteArray×Bool)) (λx=>x.1<=G.length/\∀j,x.1<=j->j<G.length->@List.lookup ByteArray Bool instBEqOfDecidableEq G[j]!.name x.2=none) (λx=>[(0,ae ad G.length c),(1,.func (.func 218) #[] #[]),(5,.map (some bm)),(11,ae ad G.length c),(12,K G.length),(13,K (x.1:Int))]) (λx=>ew Qy Tp bm x.2::τ dG 7 ad G::L) (λx=>G.length - x.1) (0,[]) ah aG (E.refl _) ?_;rintro⟨i,m⟩ ⟨hi,hm⟩;dsimp only at hi hm ⊢;by_cases a2:i<G.length
 case neg =>
  refine ML ?_;intros;exact KX.a8 aC E.drop ⟨rfl,rfl⟩
 have J:(i:Int).toNat=i:=D;refine ML ?_;intros;rw[J];refine Y.ef (Ef.c7 (first:=[]) (cap:=[]) (vs:=[bC (dG G[i]!)]) (sf G[i]!) rfl rfl) ac ?_;rintro _ _⟨rfl,rfl⟩;refine Y.ev (Z.j6 (k:=G[i]!.name) rfl rfl) ac ?_;rw[hm i D a2];simp only[io,Option.getD_none];refine ML ?_;intros;refine Y.ef (Ef.c7 (first:=[]) (cap:=[]) (vs:=[bC (dG G[i]!)]) (sf G[i]!) rfl rfl) ac ?_;rintro _ _⟨rfl,rfl⟩;refine Y.No (Ef.d9 (k:=G[i]!.name) (e:=true) rfl rfl rfl rfl) ?_;rintro _ _ rfl;refine ML ?_;intros;refine⟨(i+1,ez m G[i]!.name true),⟨D,?_⟩,D,?_,E.a8 E.drop⟩
 .intro j hj A;dsimp only at hj ⊢;rw[ot,Ο,hm j D A];intro e
  have I:(G.map (·.name))[j]'(by simpa using A)=(G.map (·.name))[i]'(by simp;omega):=by
   rw[E7 A,E7 D] at e;simpa using e
  have:=(List.getElem_inj hd).1 I
  omega
 .dsimp only;rw[bJ i];exact aG
def BU{L:Ι}(ad:OA)(c:Nat) :
  Υ Λ 219 #[ae ad 0 c,.func (.func 220) #[] #[]] L (F7 (.bool true) L):=by
 refine Υ.bd ?_;refine ML ?_;intros;refine Y.ef (Ef.c8 Qy Tp (.inr ⟨_,_,_,rfl,rfl,D⟩)) ac ?_;rintro _ _⟨bm,rfl,rfl⟩;refine ML ?_;intros;refine Β.loop (α:=Unit) (λ_=>True) (λ_=>[(0,ae ad 0 c),(1,.func (.func 220) #[] #[]),(5,.map (some bm)),(11,ae ad 0 c),(12,K 0),(13,K 0)]) (λ_=>ew Qy Tp bm ([]:List (ByteArray×Bool))::L) (λ_=>0) () trivial aG (E.refl _) ?_;intro _ _;refine ML ?_;intros;exact KX.a8 aC E.drop ⟨rfl,rfl⟩
def BT{L:Ι}(ad:OA)(c:Nat) :
  Υ Λ 221 #[ae ad 0 c,.func (.func 222) #[] #[]] L (F7 (.bool true) L):=by
 refine Υ.bd ?_;refine ML ?_;intros;refine Y.ef (Ef.c8 Qy Tp (.inr ⟨_,_,_,rfl,rfl,D⟩)) ac ?_;rintro _ _⟨bm,rfl,rfl⟩;refine ML ?_;intros;refine Β.loop (α:=Unit) (λ_=>True) (λ_=>[(0,ae ad 0 c),(1,.func (.func 222) #[] #[]),(5,.map (some bm)),(11,ae ad 0 c),(12,K 0),(13,K 0)]) (λ_=>ew Qy Tp bm ([]:List (ByteArray×Bool))::L) (λ_=>0) () trivial aG (E.refl _) ?_;intro _ _;refine ML ?_;intros;exact KX.a8 aC E.drop ⟨rfl,rfl⟩
def BS{L:Ι}(ad:OA)(c:Nat) :
  Υ Λ 223 #[ae ad 0 c,.func (.func 224) #[] #[]] L (F7 (.bool true) L):=by
 refine Υ.bd ?_;refine ML ?_;intros;refine Y.ef (Ef.c8 Qy Tp (.inr ⟨_,_,_,rfl,rfl,D⟩)) ac ?_;rintro _ _⟨bm,rfl,rfl⟩;refine ML ?_;intros;refine Β.loop (α:=Unit) (λ_=>True) (λ_=>[(0,ae ad 0 c),(1,.func (.func 224) #[] #[]),(5,.map (some bm)),(11,ae ad 0 c),(12,K 0),(13,K 0)]) (λ_=>ew Qy Tp bm ([]:List (ByteArray×Bool))::L) (λ_=>0) () trivial aG (E.refl _) ?_;intro _ _;refine ML ?_;intros;exact KX.a8 aC E.drop ⟨rfl,rfl⟩
end
section
open Go.V
attribute [local irreducible] Β Y GP δ vi Z Ef C0 E CB GB V.Enters
structure V5 (x:Q4):Prop where
 word:TP x.name
 form:if x.obj=true then x.mixed=false/\x.UN=false/\0<=x.bind/\x.bind<=2 else x.TN=0/\x.bind=0/\x.level=0
 num:(x.obj=true->1<=x.TN/\x.TN<=1048576)/\0<=x.level/\x.level<=100
structure Tq (c:B4):Prop where
 B7:c.B7.length<=64
 it:∀x∈c.B7,V5 x
 di:(c.B7.map (·.name)).Nodup
abbrev N6(c:K9)(L:Ι):Ι:=τ dG 7 c.I6 c.B7::L
def tO{L:Ι}(c:K9)(h:Tq c.m):Υ Λ 154 #[bC c.cells] (N6 c (co::L)) (F7 (.bool true) (N6 c (co::L))):=by
 have l1:c.B7.length<=64:=h.B7;refine Υ.bd ?_;simp only[N6,K9.cells];refine ML ?_;intros;refine Y.cr (mM _ [] c.N2 c.N3) ?_;refine ML ?_;intros;refine Y.cr (mL _ [] c.RJ c.RK) ?_;refine ML ?_;intros;refine Y.cr (mK _ [] c.R6 c.R7) ?_;refine ML ?_;intros;exact KX.en ⟨rfl,rfl⟩
def LI(x:Q4)(h:TP x.name):uY 212 [] dG SU co x:=by
 intro L;refine Υ.bd (args:=[bC (dG x)]) ?_;refine ML ?_;intros;refine Y.cr (Fh x.name h) ?_;refine ML ?_;intros;exact KX.a8 aC E.drop ⟨rfl,rfl⟩
def BJ{L:Ι}(c:K9)(h:Tq c.m):Υ Λ 155 #[bC c.cells] (N6 c (co::L)) (F7 (.bool true) (N6 c (co::L))):=by
 refine Υ.bd ?_;simp only[N6,K9.cells];refine ML ?_;intros;refine Y.cM (vu c.B7) ?_;(first|refine Y.ef (Ef.call (qZ (L:=[]) _ [] co c.I6 c.K1 c.B7 h.B7 (λx M=>LI x (h.it x M).word)) rfl fT) ac ?_);rintro _ _⟨_,⟨rfl,rfl⟩,hL⟩;simp only[aq,av] at hL;subst hL;refine ML ?_;intros;refine Y.cr (mM _ [] c.N2 c.N3) ?_;refine ML ?_;intros;refine Y.cr (mL _ [] c.RJ c.RK) ?_;refine ML ?_;intros;refine Y.cr (mK _ [] c.R6 c.R7) ?_;refine ML ?_;intros;exact KX.en ⟨rfl,rfl⟩
def vv{L:Ι}(c:K9)(h:Tq c.m):Υ Λ 156 #[bC c.cells] (N6 c (co::L)) (F7 (.bool true) (N6 c (co::L))):=by
 refine Υ.bd ?_;simp only[N6,K9.cells];refine ML ?_;intros;(first|refine Y.ef (Ef.call (Fb (L:=[]) c.I6 c.K1 c.B7 h.B7 h.di) rfl fT) ac ?_);rintro _ _⟨_,⟨rfl,rfl⟩,hL⟩;simp only[aq,av] at hL;subst hL;refine ML ?_;intros;refine Y.cr (BU c.N2 c.N3) ?_;refine ML ?_;intros;refine Y.cr (BT c.RJ c.RK) ?_;refine ML ?_;intros;refine Y.cr (BS c.R6 c.R7) ?_;refine ML ?_;intros;exact KX.en ⟨rfl,rfl⟩
abbrev TQ:Nat:=116
def xi(x:Q4)(h:V5 x):uY 226 [] dG SU (ee True) x:=by
 intro L;have hf:=h.form;refine Υ.bd (args:=[bC (dG x)]) ?_;cases M:x.obj with
 | true =>
  rw[Ω M] at hf;obtain⟨f1,f2,f3,f4⟩:=hf;have e:dG x=[.string x.name,.bool true,.bool false,.bool false,K x.TN,K x.bind,K x.level]:=by unfold dG;rw[M,f1,f2]
  rw[e];refine ML ?_;intros;exact KX.a8 aC E.drop ⟨by rw[bO f4];rfl,rfl⟩
 | false =>
  rw[Ο (by rw[M];decide)] at hf;obtain⟨f1,f2,f3⟩:=hf;have e:dG x=[.string x.name,.bool false,.bool x.mixed,.bool x.UN,K 0,K 0,K 0]:=by unfold dG;rw[M,f1,f2,f3]
  rw[e];refine ML ?_;intros;exact KX.a8 aC E.drop ⟨by rw[bO rfl];rfl,rfl⟩
def wX{L:Ι}(c:K9)(h:Tq c.m):Υ Λ 157 #[bC c.cells] (N6 c (co::L)) (F7 (.bool true) (N6 c (co::L))):=by
 have l1:c.B7.length<=64:=h.B7;refine Υ.bd ?_;simp only[N6];refine ML ?_;intros;rename_i b1 b3;refine Y.cM (E.pure trivial (vu c.B7)) ?_;simp only[K9.cells];refine ML ?_;intros;(first|refine Y.ef (Ef.call (qZ (L:=[]) _ [] (ee True) c.I6 c.K1 c.B7 l1 (λx M=>xi x (h.it x M))) rfl fT) ac ?_);rintro _ _⟨_,⟨rfl,rfl⟩,hL⟩;simp only[aq,av] at hL;subst hL;refine ML ?_;intros;refine Y.cr (mM _ [ay b3] c.N2 c.N3) ?_;refine ML ?_;intros;refine Y.cr (mL _ [ay b3] c.RJ c.RK) ?_;refine ML ?_;intros;refine Y.cr (mK _ [] c.R6 c.R7) ?_;refine ML ?_;intros;exact KX.en ⟨rfl,rfl⟩
def vz(x:Q4)(h:V5 x):uY 237 [] dG SU (ee True) x:=by
 intro L;obtain⟨I,Q,h3⟩:=h.num;refine Υ.bd (args:=[bC (dG x)]) ?_;cases M:x.obj with
 | true =>
  obtain⟨f1,f2⟩:=I M;have e:dG x=[.string x.name,.bool true,.bool x.mixed,.bool x.UN,K x.TN,K x.bind,K x.level]:=by unfold dG;rw[M]
  rw[e];refine ML ?_;intros;exact KX.a8 aC E.drop ⟨by rw[bO h3];rfl,rfl⟩
 | false =>
  have e:dG x=[.string x.name,.bool false,.bool x.mixed,.bool x.UN,K x.TN,K x.bind,K x.level]:=by unfold dG;rw[M]
  rw[e];refine ML ?_;intros;exact KX.a8 aC E.drop ⟨by rw[bO h3];rfl,rfl⟩
def EN{L:Ι}(c:K9)(h:Tq c.m):Υ Λ 158 #[bC c.cells] (N6 c (co::L)) (F7 (.bool true) (N6 c (co::L))):=by
 have l1:c.B7.length<=64:=h.B7;refine Υ.bd ?_;simp only[N6,K9.cells];refine ML ?_;intros;rename_i b1 b3;refine Y.cM (E.pure trivial (vu c.B7)) ?_;(first|refine Y.ef (Ef.call (qZ (L:=[]) _ [] (ee True) c.I6 c.K1 c.B7 l1 (λx M=>vz x (h.it x M))) rfl fT) ac ?_);rintro _ _⟨_,⟨rfl,rfl⟩,hL⟩;simp only[aq,av] at hL;subst hL;refine ML ?_;intros;refine Y.cr (mM _ [ay b3] c.N2 c.N3) ?_;refine ML ?_;intros;refine Y.cr (mL _ [ay b3] c.RJ c.RK) ?_;refine ML ?_;intros;refine Y.cr (mK _ [] c.R6 c.R7) ?_;refine ML ?_;intros;exact KX.en ⟨rfl,rfl⟩
def Hn{L:Ι}(c:K9)(h:Tq c.m):Υ Λ 107 #[bC c.cells] (Oc c::co::L) (F7 (K 0) (Oc c::co::L)):=by
 refine Υ.bd ?_;refine Β.cM (Ε:=N6 c (co::Oc c::L)) (V0.trans (by simp only[N6];exact aj)) ?_;simp only[K9.cells];refine ML ?_;intros;rename_i b1;refine Y.cM (Ε:=N6 c (co::obj b1 TQ c.cells::Oc c::L)) (by simp only[N6,K9.cells];exact aj) ?_;refine Y.cr (tO c h) ?_;simp only[N6,K9.cells];refine ML ?_;intros;refine Y.cM (Ε:=N6 c (co::obj b1 TQ c.cells::Oc c::L)) (by simp only[N6,K9.cells];exact aj) ?_;refine Y.cr (BJ c h) ?_;simp only[N6,K9.cells];refine ML ?_;intros;refine Y.cM (Ε:=N6 c (co::obj b1 TQ c.cells::Oc c::L)) (by simp only[N6,K9.cells];exact aj) ?_;refine Y.cr (vv c h) ?_;simp only[N6,K9.cells];refine ML ?_;intros;refine Y.cM (Ε:=N6 c (co::obj b1 TQ c.cells::Oc c::L)) (by simp only[N6,K9.cells];exact aj) ?_;refine Y.cr (wX c h) ?_;simp only[N6,K9.cells];refine ML ?_;intros;refine Y.cM (Ε:=N6 c (co::obj b1 TQ c.cells::Oc c::L)) (by simp only[N6,K9.cells];exact aj) ?_;refine Y.cr (EN c h) ?_;simp only[N6,K9.cells];refine ML ?_;intros;refine KX.a8 aC ?_ ⟨rfl,rfl⟩;exact aj
