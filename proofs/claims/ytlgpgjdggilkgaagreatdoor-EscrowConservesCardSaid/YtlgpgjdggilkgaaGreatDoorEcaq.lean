/- Lemmas. -/
import Derived.Test.YtlgpgjdggilkgaaGreatDoorEcap
set_option linter.all false
namespace Go.Proofs.YtlgpgjdggilkgaaGreatDoor
section
open Go.V
attribute [local irreducible] G GO GP GPW GPK Ev Ef EfR Ent CB GB V.Enters
instance:DecidablePred LotOk:=fun l=>by unfold LotOk;infer_instance
def eQ(xs:LL):Prop:=(∀x∈xs,LotOk x)∧xs.length≤4096
instance (xs:LL):Decidable (eQ xs):=by unfold eQ;infer_instance
def insS(f:Int)(z:LL×LL×Int×Int)(x:Lot):LL×LL×Int×Int :=
 if x.1<f∨(x.1=f∧x.2.1+x.2.2<z.2.2.1) then(z.1++[x],z.2)
 else if f<x.1∨z.2.2.2<x.2.1 then(z.1,z.2.1++[x],z.2.2)
 else(z.1,z.2.1,min z.2.2.1 x.2.1,max z.2.2.2 (x.2.1+x.2.2))
def insG(s:LL)(l:Lot):LL×LL×Int×Int:=s.foldl (insS l.1) ([],[],l.2.1,l.2.1+l.2.2)
def insL(s:LL)(l:Lot):LL:=(insG s l).1++[(l.1,(insG s l).2.2.1,(insG s l).2.2.2 - (insG s l).2.2.1)]++(insG s l).2.1
structure InsI (l:Lot) (n:Nat) (z:LL×LL×Int×Int):Prop where
 len:z.1.length+z.2.1.length≤n
 ok1:∀x∈z.1,LotOk x
 ok2:∀x∈z.2.1,LotOk x
 lo:0≤z.2.2.1∧z.2.2.1≤l.2.1
 hi:l.2.1+l.2.2≤z.2.2.2∧z.2.2.2≤1099511627776
def InsI.step{l:Lot}{n:Nat}{z:LL×LL×Int×Int}(h:InsI l n z){x:Lot}(hx:LotOk x):InsI l (n+1) (insS l.1 z x):=by
 obtain⟨h1,h2,h3,h4,h5⟩:=h;have a1:=hx;unfold LotOk at a1
 have a0:∀{t:LL},(∀y∈t,LotOk y)→∀y∈t++[x],LotOk y:=fun ht y hy=>by
  rcases List.mem_append.1 hy with q|q
  ·exact ht y q
  ·rw[List.mem_singleton.1 q];exact hx
 unfold insS;split
 ·exact⟨by simp only[aj,aI];omega,a0 h2,h3,h4,h5⟩
 ·split
  ·exact⟨by simp only[aj,aI];omega,h2,a0 h3,h4,h5⟩
  ·exact⟨by dsimp only;omega,h2,h3,by dsimp only;omega,by dsimp only;omega⟩
def Ft{s:LL}{l:Lot}{i:Nat}(h:i<s.length):insG (s.take (i+1)) l=insS l.1 (insG (s.take i) l) s[i]!:=by
 unfold insG;rw[az h,cF,getElem!_of h];rfl
def yd{s:LL}{l:Lot}(hl:LotOk l)(hs:∀x∈s,LotOk x):∀i,i≤s.length→InsI l i (insG (s.take i) l)
 | 0,_=>by
  unfold LotOk at hl;exact⟨aq _,(fun _ h=>by cases h),(fun _ h=>by cases h),⟨hl.2.1,bq _⟩,⟨bq _,by show l.2.1+l.2.2≤_;omega⟩⟩
 | i+1,h=>by
  rw[Ft ab];exact(yd hl hs i ab).step (hs _ (aV ab))
def IP{s:LL}{l:Lot}(hl:LotOk l)(hs:∀x∈s,LotOk x):(insL s l).length≤s.length+1∧∀x∈insL s l,LotOk x:=by
 have h:=yd hl hs s.length (aq _);rw[cC] at h;obtain⟨h1,h2,h3,h4,h5⟩:=h;unfold LotOk at hl;refine⟨by unfold insL;simp only[aj,aI];omega,fun x hx=>?_⟩;unfold insL at hx;rcases List.mem_append.1 hx with hx|hx
 ·rcases List.mem_append.1 hx with hx|hx
  ·exact h2 x hx
  ·rw[List.mem_singleton.1 hx];unfold LotOk;dsimp only;omega
 ·exact h3 x hx
def setL(l:LL):LL:=l.foldl insL []
def jX{α β:Type}(f:β→α→β)(b:β)[Inhabited α]{l:List α}{i:Nat}(h:i<l.length):(l.take (i+1)).foldl f b=f ((l.take i).foldl f b) l[i]!:=by
 rw[az h,cF,getElem!_of h];rfl
def pP{l:LL}(h:∀x∈l,LotOk x):∀i,i≤l.length→(setL (l.take i)).length≤i∧∀x∈setL (l.take i),LotOk x
 | 0,_=>⟨aq _,(fun _ q=>by cases q)⟩
 | i+1,hi=>by
  obtain⟨h1,h2⟩:=pP h i ab;have e:setL (l.take (i+1))=insL (setL (l.take i)) l[i]!:=jX insL [] ab;rw[e];obtain⟨h3,h4⟩:=IP (h _ (aV (ab:i<l.length))) h2;exact⟨ab,h4⟩
def qS{l:LL}(h:∀x∈l,LotOk x):(setL l).length≤l.length∧∀x∈setL l,LotOk x:=by
 have:=pP h l.length (aq _)
 rwa [cC] at this
def apart(y z:Lot):Prop:=y.1≠z.1∨y.2.1+y.2.2≤z.2.1∨z.2.1+z.2.2≤y.2.1
def Apart(l:LL):Prop:=l.Pairwise apart
def subS(x y:Lot):LL :=
 if y.1≠x.1∨x.2.1+x.2.2≤y.2.1∨y.2.1+y.2.2≤x.2.1 then[y]
 else(if y.2.1<x.2.1 then[(x.1,y.2.1,x.2.1 - y.2.1)] else[])++(if x.2.1+x.2.2<y.2.1+y.2.2 then[(x.1,x.2.1+x.2.2,y.2.1+y.2.2 - x.2.1 - x.2.2)] else[])
def subL(l:LL)(x:Lot):LL:=l.flatMap (subS x)
def uh{x y p:Lot}(hx:LotOk x)(hy:LotOk y)(hp:p∈subS x y):LotOk p∧p.1=y.1∧y.2.1≤p.2.1∧p.2.1+p.2.2≤y.2.1+y.2.2:=by
 unfold LotOk at hx hy;unfold subS at hp;split at hp
 ·rw[List.mem_singleton.1 hp];exact⟨hy,rfl,bq _,bq _⟩
 ·rename_i hn;rcases List.mem_append.1 hp with hp|hp
  ·split at hp
   ·rw[List.mem_singleton.1 hp];unfold LotOk;dsimp only;omega
   ·cases hp
  ·split at hp
   ·rw[List.mem_singleton.1 hp];unfold LotOk;dsimp only;omega
   ·cases hp
def Co{x:Lot}(y:Lot)(hx:0≤x.2.2):Apart (subS x y):=by
 unfold Apart subS;split
 ·exact bB _ _
 ·rename_i hn;split
  ·split
   ·refine List.pairwise_cons.2 ⟨fun z hz=>?_,bB _ _⟩;rw[List.mem_singleton.1 hz];unfold apart;dsimp only;omega
   ·exact bB _ _
  ·split
   ·exact bB _ _
   ·exact List.Pairwise.nil
def Gz(x y:Lot):(subS x y).length≤2:=by
 unfold subS;split
 ·exact Nat.le_succ 1
 ·rw[aj];split<;>split<;>simp
def pN{x:Lot}:∀{l:LL},(∀z∈l,apart z x)→subL l x=l
 | [],_=>rfl
 | z::l,h=>by
  have e:subL (z::l) x=subS x z++subL l x:=aO
  have e1:subS x z=[z]:=by
   unfold subS;have:=h z av
   unfold apart at this;rw[if_pos];omega
  rw[e,e1,pN (fun y hy=>h y (au _ hy))];rfl
def oc{x:Lot}{l:LL}(hx:LotOk x)(hl:∀y∈l,LotOk y){p:Lot}(hp:p∈subL l x):∃y∈l,LotOk p∧p.1=y.1∧y.2.1≤p.2.1∧p.2.1+p.2.2≤y.2.1+y.2.2:=by
 obtain⟨y,hy,hp⟩:=List.mem_flatMap.1 hp;exact⟨y,hy,uh hx (hl y hy) hp⟩
def qO{x:Lot}{l:LL}(hx:LotOk x)(hl:∀y∈l,LotOk y):∀p∈subL l x,LotOk p:=fun p hp=>by
 obtain⟨_,_,h,_⟩:=oc hx hl hp;exact h
def mo{x:Lot}(hx:LotOk x):∀{l:LL},(∀y∈l,LotOk y)→Apart l→Apart (subL l x)∧(subL l x).length≤l.length+1
 | [],_,_=>⟨List.Pairwise.nil,aw _⟩
 | y::l,hl,ha=>by
  obtain⟨a1,a2⟩:=List.pairwise_cons.1 ha;have a0:∀z∈l,LotOk z:=fun z hz=>hl z (au _ hz);obtain⟨i1,i2⟩:=mo hx a0 a2;have e:subL (y::l) x=subS x y++subL l x:=aO;have hy:=hl y av;rw[e];refine⟨List.pairwise_append.2 ⟨Co y (by unfold LotOk at hx;omega),i1,fun p hp q hq=>?_⟩,?_⟩
  ·obtain⟨_,p1,p2,p3⟩:=uh hx hy hp;obtain⟨z,hz,_,q1,q2,q3⟩:=oc hx a0 hq;have:=a1 z hz
   unfold apart at this ⊢;omega
  ·rw[aj,aM];by_cases h2:(subS x y).length≤1
   ·omega
   ·have hin:y.1=x.1∧y.2.1<x.2.1∧x.2.1+x.2.2<y.2.1+y.2.2:=by
     unfold subS at h2;split at h2
     ·exact absurd (aq 1) h2
     ·rename_i hn;split at h2
      ·split at h2
       ·omega
       ·exact absurd (aq 1) h2
      ·split at h2
       ·exact absurd (aq 1) h2
       ·exact absurd (aw 1) h2
    rw[pN (l:=l) (fun z hz=>by
     have h3:=a1 z hz;have h4:=a0 z hz;unfold LotOk at hx h4;unfold apart at h3 ⊢;omega)]
    have:=Gz x y
    omega
def gm(set:LL)(y:Lot):LL:=set.foldl subL [y]
def tj{set:LL}{y:Lot}(hs:∀x∈set,LotOk x)(hy:LotOk y):∀i,i≤set.length→(∀p∈gm (set.take i) y,LotOk p)∧Apart (gm (set.take i) y)∧(gm (set.take i) y).length≤i+1
 | 0,_=>⟨fun p hp=>by rw[List.mem_singleton.1 hp];exact hy,bB _ _,aq _⟩
 | i+1,hi=>by
  obtain⟨h1,h2,h3⟩:=tj hs hy i ab;have e:gm (set.take (i+1)) y=subL (gm (set.take i) y) set[i]!:=jX subL [y] ab;rw[e];have hx:=hs _ (aV (ab:i<set.length));obtain⟨h4,h5⟩:=mo hx h1 h2;exact⟨qO hx h1,h4,ab⟩
def oI{set:LL}{y:Lot}(hs:∀x∈set,LotOk x)(hy:LotOk y):(∀p∈gm set y,LotOk p)∧Apart (gm set y)∧(gm set y).length≤set.length+1:=by
 have:=tj hs hy set.length (aq _)
 rwa [cC] at this
def gX(s set:LL):LL:=s.foldl (fun out y=>(gm set y).foldl bN out) []
def xg{r out:LL}(hr:∀p∈r,LotOk p)(ho:∀p∈out,LotOk p):∀i,i≤r.length→(∀p∈(r.take i).foldl bN out,LotOk p)∧((r.take i).foldl bN out).length≤out.length+i
 | 0,_=>⟨ho,aq _⟩
 | i+1,hi=>by
  obtain⟨h1,h2⟩:=xg hr ho i ab;rw[jX bN out ab];have hx:=hr _ (aV (ab:i<r.length));have:=qf ((r.take i).foldl bN out) r[i]!
  refine⟨xT h1 ?_,ab⟩;unfold LotOk at hx;unfold LotW;omega
def sM{s set:LL}(h:∀x∈s,LotOk x)(hs:∀x∈set,LotOk x):∀i,i≤s.length→(∀p∈gX (s.take i) set,LotOk p)∧(gX (s.take i) set).length≤i*(set.length+1)
 | 0,_=>⟨(fun _ q=>by cases q),aw _⟩
 | i+1,hi=>by
  obtain⟨h1,h2⟩:=sM h hs i ab;have e:gX (s.take (i+1)) set=(gm set s[i]!).foldl bN (gX (s.take i) set):=jX (fun out y=>(gm set y).foldl bN out) [] ab;obtain⟨r1,_,r3⟩:=oI hs (h _ (aV (ab:i<s.length)));have h3:=xg r1 h1 (gm set s[i]!).length (aq _);rw[cC] at h3;rw[e];refine⟨h3.1,?_⟩;have h4:=h3.2;have e2:(i+1)*(set.length+1)=i*(set.length+1)+(set.length+1):=fW _ _;omega
def wu{s set:LL}(h:∀x∈s,LotOk x)(hs:∀x∈set,LotOk x):(∀p∈gX s set,LotOk p)∧(gX s set).length≤s.length*(set.length+1):=by
 have:=sM h hs s.length (aq _)
 rwa [cC] at this
def jI(a b:LL):LL:=gX (setL a) b
def ny(a b:LL):LL:=jI a (jI a b)
def ic(a b:LL):Prop:=eQ a∧eQ b∧jI a b=[]
instance (a b:LL):Decidable (ic a b):=by unfold ic;infer_instance
def qe{a b:LL}(ha:∀x∈a,LotOk x)(hb:∀x∈b,LotOk x):(∀p∈jI a b,LotOk p)∧(jI a b).length≤a.length*(b.length+1):=by
 obtain⟨h1,h2⟩:=qS ha;obtain⟨h3,h4⟩:=wu h2 hb;exact⟨h3,aP h4 (bj _ h1)⟩
def kindsL:List Int:=[0,0,0,0,0,0,0,0,0,1,1,0,0,0,0,0,0,0,0,0,0,0,0,0,0,0,0,0,0,0,0,0,1,0,0,2,0,0,0,0,7,7,0,7,7,6,7,0,4,4,4,4,4,4,4,4,4,4,7,7,7,7,7,0,0,0,0,0,0,0,0,0,0,0,0,0,0,0,0,0,0,0,0,0,0,0,0,0,0,0,0,0,0,0,0,5,0,3,3,3,3,3,3,3,3,3,3,3,3,3,3,3,3,3,3,3,3,3,3,3,3,3,3,7,0,7,0,0]
abbrev cD:HP:=isl (encZ .u8) 1 (some ⟨0,0,none⟩) kindsL
def tH:kindsL.length=128:=krStd0
def gZ(s:ByteArray)(i:Int):Int:=if i<s.size∧(gu s)[i.toNat]! < 128 then kindsL[((gu s)[i.toNat]!).toNat]! else 0
def lJ{L:LH}(s:ByteArray)(i:Int)(h0:0≤i)(hs:s.size≤1000000)[Rds L (some ⟨0,0,none⟩) Int (encZ .u8) 1 kindsL] :
  Tri Tryz.prog 325 #[.string s,ac i] L (rtQ (.int .u8 (gZ s i)) L):=by
 have a1:=tH;refine Tri.bd ?_;by_cases h1:i<s.size
 case neg =>
  have e:gZ s i=0:=if_neg fun h=>h1 h.1;rw[e];repeat first|refine run ?_|intro
  exact KX.en ⟨rfl,rfl⟩
 have hb:=Fb s _ (aV (show i.toNat<(gu s).length by rw[tA];omega));by_cases h2:(gu s)[i.toNat]! < 128
 case neg =>
  have e:gZ s i=0:=if_neg fun h=>h2 h.2;rw[e];repeat first|refine run ?_|intro
  exact KX.en ⟨rfl,rfl⟩
 have e:gZ s i=kindsL[((gu s)[i.toNat]!).toNat]!:=if_pos ⟨h1,h2⟩;rw[e];obtain⟨c,hc⟩:∃c,(gu s)[i.toNat]! = c:=⟨_,rfl⟩;rw[hc] at hb h2 ⊢;have hm:((gu s)[i.toNat]!).toNat*1=c.toNat*1+0:=by rw[hc];omega
 have a0:0+((gu s)[i.toNat]!).toNat*1=c.toNat*1+0:=by rw[hc];omega
 repeat first|refine run ?_|intro
 refine GO.ev (Ev.m7 (j:=c.toNat) (o:=0) rfl a0 ab ae rfl) ae ?_;repeat first|refine run ?_|intro
 exact KX.en ⟨rfl,rfl⟩
structure IsWord (s:ByteArray):Prop where
 size:1≤s.size∧s.size≤16
 first:gZ s 0=3
 rest:∀i:Nat,i<s.size→gZ s i=3∨gZ s i=4∨gZ s i=5
def Fo(s:ByteArray):gZ s s.size=0:=if_neg fun h=>absurd h.1 ab
def vb{L:LH}(s:ByteArray)(i:Int)(h0:0≤i)(hs:s.size≤1000000)(hk:i<s.size→gZ s i≠1∧gZ s i≠2)[Rds L (some ⟨0,0,none⟩) Int (encZ .u8) 1 kindsL] :
  Tri Tryz.prog 316 #[.string s,ac i] L (rtQ (ac i) L):=by
 refine Tri.bd ?_;repeat first|refine run ?_|intro
 refine G.f7 1 (GR.step ?_);by_cases h1:i<s.size
 case neg =>
  repeat first|refine run ?_|intro
  exact KX.en ⟨rfl,rfl⟩
 obtain⟨a0,a1⟩:=hk h1;repeat first|refine run ?_|intro
 refine GO.cr (lJ s i h0 hs) ?_;repeat first|refine run ?_|intro
 exact KX.en ⟨rfl,rfl⟩
structure Tok where
 kind:Int
 text:ByteArray
 n:Int
 pos:Int
 deriving Inhabited
def encT(t:Tok):LV:=[ac t.kind,.string t.text,ac t.n,ac t.pos]
def yG(t:Tok):∀u∈encT t,u.oneCell' = true:=by simp[encT,Value.oneCell']
instance:EncC encT:=⟨yG⟩
def jC(s:ByteArray):Tok:=⟨0,s,0,0⟩
abbrev tTok:Nat:=374
abbrev zG:=XD [.ef 10]
def gg{φ ψ:Prop}(k:ψ)(h:Hid ψ→φ:=by intro k;(with_reducible apply G.a8);first|refine G.dr 99 20 zG (Hid.out k)):φ:=h ⟨k⟩
def Fc{L:LH}(s:ByteArray)(hw:IsWord s)[Rds L (some ⟨0,0,none⟩) Int (encZ .u8) 1 kindsL] :
  Tri Tryz.prog 317 #[.string s,ac 0] L (rtQ (.tuple #[aU (encT (jC s)),ac 0]) L):=by
 have a5:=hw.size;refine Tri.bd ?_;repeat first|refine run ?_|intro _|refine gg ?_
 rename_i b4 b6;refine GO.cr (lJ s 0 ae ab) ?_;rw[hw.first];repeat first|refine run ?_|intro _|refine gg ?_
 refine GO.cr (lJ s (0+1) ae ab) ?_;repeat first|refine run ?_|intro _|refine gg ?_
 refine G.loop (α:=Nat) (fun e=>1≤e∧e≤s.size) (fun e=>[(0,.string s),(1,ac 0),(4,ax b4),(6,ax b6),(7,ac (e:Int)),(8,.int .u8 (gZ s (e:Int)))])
  (fun _=>obj b6 tTok [ac 0,.string ⟨#[]⟩,ac 0,ac 0]::obj b4 tTok [ac 0,.string ⟨#[]⟩,ac 0,ac 0]::L) (fun e=>s.size - e) 1 ⟨ab,ab⟩ aC (Ent.refl _) ?_
 rintro e ⟨a3,a4⟩;by_cases a2:e<s.size
 case neg =>
  have a0:e=s.size:=ab;subst a0;rw[Fo];repeat first|refine run ?_|intro _|refine gg ?_
  rw[Int.toNat_zero,aY,AJ];exact KX.a8 (by exact ResOk.cell rfl aQ (ResOk.tmp rfl (ResOk.nil))) (Ent.trans Ent.drop Ent.drop) ⟨rfl,rfl⟩
 have hr:=hw.rest e a2
 have a1:∀{q:Prop},(gZ s (e:Int)=3→q)→(gZ s (e:Int)≠3→gZ s (e:Int)=4→q)→(gZ s (e:Int)≠3→gZ s (e:Int)≠4→gZ s (e:Int)=5→q)→q:=by
  intro q a b c;rcases hr with h|h|h
  ·exact a h
  ·exact b ab h
  ·exact c ab ab h
 refine a1 ?_ ?_ ?_<;>intros
 all_goals
  repeat first|refine run ?_|intro _|refine gg ?_
  refine GO.cr (lJ s ((e:Int)+1) ab ab) ?_
  repeat first|refine run ?_|intro _|refine gg ?_
  refine⟨e+1,⟨ab,ab⟩,ab,?_,Ent.refl _⟩
  rw[bh e]
  exact aC
def HA{L0:LH}(bx:Nat)(s:ByteArray)(hw:IsWord s)[hrd:Rds L0 (some ⟨0,0,none⟩) Int (encZ .u8) 1 kindsL] :
  Iter Tryz.prog 315 [ax bx] [[aU (encT (jC s)),ac 0]] (obj bx 9 [.string s]::L0):=by
 have a2:=hw.size;have a1:=hw.first;have a3:(jC s).text.size=s.size:=rfl;intro l J Jx hy;have a0:=hy 0 cc;simp only[List.getElem_cons_zero] at a0;show Tri _ _ _ _ (fun _ L'=>L' = J 1::_∨_);refine Tri.bd (args:=[.func (.yield l) #[] #[],ax bx]) ?_;repeat first|refine run ?_|intro
 refine GO.cr (vb s 0 ae ab (fun _=>by rw[a1];decide)) ?_;repeat first|refine run ?_|intro
 refine G.f7 2 (GR.step ?_);repeat first|refine run ?_|intro
 refine GO.cr (Fc s hw) ?_;repeat first|refine run ?_|intro _
 ((with_reducible apply GO.a8);refine GO.efR (EfR.yield (a0) rfl rfl dd) ae ?_);rintro _ _⟨_,(⟨rfl,rfl⟩|⟨rfl,rfl⟩),hL⟩
 ·simp only[al,ak] at hL;subst hL;repeat first|refine run ?_|intro
  refine GO.cr (vb s (0+((jC s).text.size:Int)) ab ab (fun h=>absurd h ab)) ?_;repeat first|refine run ?_|intro
  refine GR.step ?_;repeat first|refine run ?_|intro
  exact KX.c8 aA (Ent.a8 Ent.drop) (.inl rfl)
 ·simp only[al,ak] at hL;subst hL;repeat first|refine run ?_|intro
  exact KX.a8 aA (Ent.a8 Ent.drop) (.inr ⟨0,rfl⟩)
abbrev CJ:List Stp:=[.ev 0,.ev 1,.ev 2,.ef 3,.ef 4,.ef 5]
def gQ{φ ψ:Prop}(k:ψ)(h:Hid ψ→φ:=by intro k;first|refine GO.ci (f:=308) (Hid.out k)|refine GPW.ci (f:=308) (Hid.out k)|refine GO.cf (f:=308) rfl (Hid.out k)|refine GPW.cf (f:=308) rfl (Hid.out k)|refine KX.inA (Hid.out k)):φ:=h ⟨k⟩
def gP{φ ψ:Prop}(k:ψ)(h:Hid ψ→φ:=by intro k;(with_reducible apply G.a8);first|refine G.dr 25 8 CJ (Hid.out k)):φ:=h ⟨k⟩
def zl{L:LH}(s:ByteArray)(hw:IsWord s)[Rds L (some ⟨0,0,none⟩) Int (encZ .u8) 1 kindsL] :
  Tri Tryz.prog 288 #[.string s] L (fun v L'=>∃ad cap,v=.tuple #[ag ad 1 cap,ac 0,ac 0]∧L' = osl encT 4 tTok ad cap [jC s]::L):=by
 have a3:=hw.size;refine Tri.bd ?_;repeat first|refine run ?_|intro _|refine gP ?_|refine gQ ?_
 rename_i b2 b3 b4 b5 bx;refine G.rangeFunc (HA (L0:=L) bx s hw) rfl en315.1 ae cc (fun k=>if k=0 then[obj b5 370 [ag none 0 0],obj b2 370 [ag none 0 0],obj b3 3 [ac 0],obj b4 29 [ac 0]] else[hex fun x:OA×Nat=>cm [obj b5 370 [ag x.1 1 x.2],osl encT 4 tTok x.1 x.2 [jC s]],obj b2 370 [ag none 0 0],obj b3 3 [ac 0],obj b4 29 [ac 0]]) ?_ ?_ ?_
 ·simp only[if_true,al,ak];exact ah
 ·intro k hk;have a2:k=0:=by simpa using hk
  subst a2;simp only[if_true,List.getElem_cons_zero,du,Nat.one_ne_zero,if_false];show G _ _ _ ((14,ac 0)::(13,aU (encT (jC s)))::_) _ _;repeat first|refine run ?_|intro _|refine gP ?_|refine gQ ?_
  refine GO.ent (Ent.c8 encT 4 tTok) ?_;refine GO.ef (Ef.a8 (enc:=encT) (e:=jC s) rfl rfl rfl rfl rfl aQ (yG _) cc cc) ae ?_;rintro _ _⟨a1,a0,rfl,rfl⟩;repeat first|refine run ?_|intro _|refine gP ?_|refine gQ ?_
  refine KX.round ?_;refine Ent.trans ?_ (Ent.g8 (a1,a0) (Ent.refl _));simp only[al,ak];exact ah
 simp only[aM,bz,du,Nat.one_ne_zero,if_false,al,ak];refine KX.c7 ?_;repeat first|refine run ?_|intro _|refine gP ?_|refine gQ ?_
 refine GO.c8 (f:=fun x:OA×Nat=>[obj b5 370 [ag x.1 1 x.2],osl encT 4 tTok x.1 x.2 [jC s]]) ?_;rintro⟨a1,a0⟩;simp only[al,ak];repeat first|refine run ?_|intro _|refine gP ?_|refine gQ ?_
 refine KX.a8 (by exact ResOk.a8 rfl (ResOk.a8 rfl (ResOk.a8 rfl (ResOk.nil)))) ?_ ⟨a1,a0,rfl,rfl⟩;exact ah
def mB{L:LH}(s:ByteArray)(hw:IsWord s)[Rds L (some ⟨0,0,none⟩) Int (encZ .u8) 1 kindsL] :
  Tri Tryz.prog 213 #[.string s] L (rtQ (.bool true) L):=by
 have a2:([jC s]).length=1:=rfl;refine Tri.bd ?_;repeat first|refine run ?_|intro
 refine GO.ca (zl s hw) ?_;rintro _ _⟨ad,cap,rfl,rfl⟩;have a0:([jC s]:List Tok)[(0:Int).toNat]! = jC s:=rfl;have a1:(jC s).kind=0:=rfl;repeat first|refine run ?_|intro
 rw[a0];repeat first|refine run ?_|intro
 refine KX.a8 aA Ent.drop ⟨?_,rfl⟩;rw[bE (show(jC s).text=s from rfl)];rfl
end
section
open Go.V
def noP{α:Type}(_:α):HP:=cY True
def oh{α:Type}(l:List α){L:LH}:Ent L (allP noP l::L):=fun θ R w s=>by
 obtain⟨ok,ι,h,a,b1,c,d⟩:=s;exact⟨ok,ι,h,a,b1,c,Hp.emp,Hp.emp,h,Hp.a8 _,Hp.c7 _,Hp.a8 _,Hp.sub.refl _,fun _ _=>trivial,d⟩
attribute [local irreducible] G GO GP GPW GPK Ev Ef EfR Ent CB GB V.Enters
def fo{α:Type}(f:FuncId)(cap:LV)(enc:α→LV)(p:α→HP)(C:HP)(x:α):Prop:=∀L:LH,Tri Tryz.prog f (([]++[Value.agg (enc x).toArray]++cap:LV)).toArray (C::p x::L) (rtQ (.bool true) (C::p x::L))
def qB{L:LH}(f:FuncId)(cap:LV)(C:HP)(ad:OA)(c:Nat)(xs:List ItG)(hl:xs.length≤64)(hf:∀x∈xs,fo f cap dL noP C x) :
  Tri Tryz.prog 211 #[ag ad xs.length c,.func (.func f) #[] cap.toArray] (C::allP noP xs::isl dL 7 ad xs::L) (rtQ (.bool true) (C::allP noP xs::isl dL 7 ad xs::L)):=by
 refine Tri.bd ?_;refine Ks ?_;intros;refine G.loop (α:=Nat) (fun i=>i≤xs.length) (fun i=>[(0,ag ad xs.length c),(1,.func (.func f) #[] cap.toArray),(7,ag ad xs.length c),(8,ac xs.length),(9,ac (i:Int))]) (fun _=>C::allP noP xs::isl dL 7 ad xs::L) (fun i=>xs.length - i) 0 (aw _) aC (Ent.refl _) ?_;intro i hi;by_cases a2:i<xs.length
 case neg =>
  refine Ks ?_;intros;exact KX.en ⟨rfl,rfl⟩
 have a1:(i:Int).toNat=i:=ab;have a0:=aV a2;refine Ks ?_;intros;rw[a1];refine GO.ent (Ent.drop.trans ((Ent.a8 (Ent.c9 (f:=noP) a0)).trans (Ent.refl _))) ?_;refine GO.ef (Ef.c7 rfl rfl (hf _ a0 _)) ae ?_;rintro _ _⟨rfl,rfl⟩;refine Ks ?_;intros;refine⟨i+1,ab,ab,?_,by exact ah⟩;rw[bh i];exact aC
def nJ{L:LH}(f:FuncId)(cap:LV)(C:HP)(ad:OA)(c:Nat)(xs:List RuV)(hl:xs.length≤64)(hf:∀x∈xs,fo f cap dE ruP C x) :
  Tri Tryz.prog 205 #[ag ad xs.length c,.func (.func f) #[] cap.toArray] (C::allP ruP xs::isl dE 9 ad xs::L) (rtQ (.bool true) (C::allP ruP xs::isl dE 9 ad xs::L)):=by
 refine Tri.bd ?_;refine Ks ?_;intros;refine G.loop (α:=Nat) (fun i=>i≤xs.length) (fun i=>[(0,ag ad xs.length c),(1,.func (.func f) #[] cap.toArray),(7,ag ad xs.length c),(8,ac xs.length),(9,ac (i:Int))]) (fun _=>C::allP ruP xs::isl dE 9 ad xs::L) (fun i=>xs.length - i) 0 (aw _) aC (Ent.refl _) ?_;intro i hi;by_cases a2:i<xs.length
 case neg =>
  refine Ks ?_;intros;exact KX.en ⟨rfl,rfl⟩
 have a1:(i:Int).toNat=i:=ab;have a0:=aV a2;refine Ks ?_;intros;rw[a1];refine GO.ent (Ent.drop.trans ((Ent.a8 (Ent.c9 (f:=ruP) a0)).trans (Ent.refl _))) ?_;refine GO.ef (Ef.c7 rfl rfl (hf _ a0 _)) ae ?_;rintro _ _⟨rfl,rfl⟩;refine Ks ?_;intros;refine⟨i+1,ab,ab,?_,by exact ah⟩;rw[bh i];exact aC
def nI{L:LH}(f:FuncId)(cap:LV)(C:HP)(ad:OA)(c:Nat)(xs:List TbV)(hl:xs.length≤64)(hf:∀x∈xs,fo f cap eh tbP C x) :
  Tri Tryz.prog 207 #[ag ad xs.length c,.func (.func f) #[] cap.toArray] (C::allP tbP xs::isl eh 2 ad xs::L) (rtQ (.bool true) (C::allP tbP xs::isl eh 2 ad xs::L)):=by
 refine Tri.bd ?_;refine Ks ?_;intros;refine G.loop (α:=Nat) (fun i=>i≤xs.length) (fun i=>[(0,ag ad xs.length c),(1,.func (.func f) #[] cap.toArray),(7,ag ad xs.length c),(8,ac xs.length),(9,ac (i:Int))]) (fun _=>C::allP tbP xs::isl eh 2 ad xs::L) (fun i=>xs.length - i) 0 (aw _) aC (Ent.refl _) ?_;intro i hi;by_cases a2:i<xs.length
 case neg =>
  refine Ks ?_;intros;exact KX.en ⟨rfl,rfl⟩
 have a1:(i:Int).toNat=i:=ab;have a0:=aV a2;refine Ks ?_;intros;rw[a1];refine GO.ent (Ent.drop.trans ((Ent.a8 (Ent.c9 (f:=tbP) a0)).trans (Ent.refl _))) ?_;refine GO.ef (Ef.c7 rfl rfl (hf _ a0 _)) ae ?_;rintro _ _⟨rfl,rfl⟩;refine Ks ?_;intros;refine⟨i+1,ab,ab,?_,by exact ah⟩;rw[bh i];exact aC
def nH{L:LH}(f:FuncId)(cap:LV)(C:HP)(ad:OA)(c:Nat)(xs:List TxV)(hl:xs.length≤64)(hf:∀x∈xs,fo f cap eg txP C x) :
  Tri Tryz.prog 209 #[ag ad xs.length c,.func (.func f) #[] cap.toArray] (C::allP txP xs::isl eg 2 ad xs::L) (rtQ (.bool true) (C::allP txP xs::isl eg 2 ad xs::L)):=by
 refine Tri.bd ?_;refine Ks ?_;intros;refine G.loop (α:=Nat) (fun i=>i≤xs.length) (fun i=>[(0,ag ad xs.length c),(1,.func (.func f) #[] cap.toArray),(7,ag ad xs.length c),(8,ac xs.length),(9,ac (i:Int))]) (fun _=>C::allP txP xs::isl eg 2 ad xs::L) (fun i=>xs.length - i) 0 (aw _) aC (Ent.refl _) ?_;intro i hi;by_cases a2:i<xs.length
 case neg =>
  refine Ks ?_;intros;exact KX.en ⟨rfl,rfl⟩
 have a1:(i:Int).toNat=i:=ab;have a0:=aV a2;refine Ks ?_;intros;rw[a1];refine GO.ent (Ent.drop.trans ((Ent.a8 (Ent.c9 (f:=txP) a0)).trans (Ent.refl _))) ?_;refine GO.ef (Ef.c7 rfl rfl (hf _ a0 _)) ae ?_;rintro _ _⟨rfl,rfl⟩;refine Ks ?_;intros;refine⟨i+1,ab,ab,?_,by exact ah⟩;rw[bh i];exact aC
def qA{L:LH}(f:FuncId)(cap:LV)(C:HP)(ad:OA)(c:Nat)(xs:List RwV)(hl:xs.length≤64)(hf:∀x∈xs,fo f cap fR rwP C x) :
  Tri Tryz.prog 231 #[ag ad xs.length c,.func (.func f) #[] cap.toArray] (C::allP rwP xs::isl fR 2 ad xs::L) (rtQ (.bool true) (C::allP rwP xs::isl fR 2 ad xs::L)):=by
 refine Tri.bd ?_;refine Ks ?_;intros;refine G.loop (α:=Nat) (fun i=>i≤xs.length) (fun i=>[(0,ag ad xs.length c),(1,.func (.func f) #[] cap.toArray),(7,ag ad xs.length c),(8,ac xs.length),(9,ac (i:Int))]) (fun _=>C::allP rwP xs::isl fR 2 ad xs::L) (fun i=>xs.length - i) 0 (aw _) aC (Ent.refl _) ?_;intro i hi;by_cases a2:i<xs.length
 case neg =>
  refine Ks ?_;intros;exact KX.en ⟨rfl,rfl⟩
 have a1:(i:Int).toNat=i:=ab;have a0:=aV a2;refine Ks ?_;intros;rw[a1];refine GO.ent (Ent.drop.trans ((Ent.a8 (Ent.c9 (f:=rwP) a0)).trans (Ent.refl _))) ?_;refine GO.ef (Ef.c7 rfl rfl (hf _ a0 _)) ae ?_;rintro _ _⟨rfl,rfl⟩;refine Ks ?_;intros;refine⟨i+1,ab,ab,?_,by exact ah⟩;rw[bh i];exact aC
def FJ{L:LH}(f:FuncId)(cap:LV)(C:HP)(ad:OA)(c:Nat)(xs:List (Int×Int))(hl:xs.length≤64)(hf:∀x∈xs,fo f cap cy noP C x) :
  Tri Tryz.prog 235 #[ag ad xs.length c,.func (.func f) #[] cap.toArray] (C::allP noP xs::isl cy 2 ad xs::L) (rtQ (.bool true) (C::allP noP xs::isl cy 2 ad xs::L)):=by
 refine Tri.bd ?_;refine Ks ?_;intros;refine G.loop (α:=Nat) (fun i=>i≤xs.length) (fun i=>[(0,ag ad xs.length c),(1,.func (.func f) #[] cap.toArray),(7,ag ad xs.length c),(8,ac xs.length),(9,ac (i:Int))]) (fun _=>C::allP noP xs::isl cy 2 ad xs::L) (fun i=>xs.length - i) 0 (aw _) aC (Ent.refl _) ?_;intro i hi;by_cases a2:i<xs.length
 case neg =>
  refine Ks ?_;intros;exact KX.en ⟨rfl,rfl⟩
 have a1:(i:Int).toNat=i:=ab;have a0:=aV a2;refine Ks ?_;intros;rw[a1];refine GO.ent (Ent.drop.trans ((Ent.a8 (Ent.c9 (f:=noP) a0)).trans (Ent.refl _))) ?_;refine GO.ef (Ef.c7 rfl rfl (hf _ a0 _)) ae ?_;rintro _ _⟨rfl,rfl⟩;refine Ks ?_;intros;refine⟨i+1,ab,ab,?_,by exact ah⟩;rw[bh i];exact aC
def FI{L:LH}(f:FuncId)(cap:LV)(C:HP)(ad:OA)(c:Nat)(xs:List (Int×Int))(hl:xs.length≤64)(hf:∀x∈xs,fo f cap cy noP C x) :
  Tri Tryz.prog 290 #[ag ad xs.length c,.func (.func f) #[] cap.toArray] (C::allP noP xs::isl cy 2 ad xs::L) (rtQ (.bool true) (C::allP noP xs::isl cy 2 ad xs::L)):=by
 refine Tri.bd ?_;refine Ks ?_;intros;refine G.loop (α:=Nat) (fun i=>i≤xs.length) (fun i=>[(0,ag ad xs.length c),(1,.func (.func f) #[] cap.toArray),(7,ag ad xs.length c),(8,ac xs.length),(9,ac (i:Int))]) (fun _=>C::allP noP xs::isl cy 2 ad xs::L) (fun i=>xs.length - i) 0 (aw _) aC (Ent.refl _) ?_;intro i hi;by_cases a2:i<xs.length
 case neg =>
  refine Ks ?_;intros;exact KX.en ⟨rfl,rfl⟩
 have a1:(i:Int).toNat=i:=ab;have a0:=aV a2;refine Ks ?_;intros;rw[a1];refine GO.ent (Ent.drop.trans ((Ent.a8 (Ent.c9 (f:=noP) a0)).trans (Ent.refl _))) ?_;refine GO.ef (Ef.c7 rfl rfl (hf _ a0 _)) ae ?_;rintro _ _⟨rfl,rfl⟩;refine Ks ?_;intros;refine⟨i+1,ab,ab,?_,by exact ah⟩;rw[bh i];exact aC
def encB(b:Bool):Value:=.bool b
def rz{L:LH}(x:ItG):Tri Tryz.prog 218 #[aU (dL x)] L (fun u L'=>u=.string x.name∧L' = L):=by
 refine Tri.bd ?_;refine Ks ?_;intros;exact KX.a8 aA Ent.drop ⟨rfl,rfl⟩
def DY{L:LH}(ad:OA)(c:Nat)(xs:List ItG)(hl:xs.length≤64)(hd:(xs.map (·.name)).Nodup) :
  Tri Tryz.prog 217 #[ag ad xs.length c,.func (.func 218) #[] #[]] (isl dL 7 ad xs::L) (rtQ (.bool true) (isl dL 7 ad xs::L)):=by
 refine Tri.bd ?_;refine Ks ?_;intros;refine GO.ef (Ef.d8 kvS encB (.inr ⟨_,_,_,rfl,rfl,ab⟩)) ae ?_;rintro _ _⟨bm,rfl,rfl⟩;refine Ks ?_;intros;refine G.loop (α:=Nat×List (ByteArray×Bool)) (fun x=>x.1≤xs.length∧∀j,x.1≤j→j<xs.length→@List.lookup ByteArray Bool instBEqOfDecidableEq xs[j]!.name x.2=none) (fun x=>[(0,ag ad xs.length c),(1,.func (.func 218) #[] #[]),(5,.map (some bm)),(11,ag ad xs.length c),(12,ac xs.length),(13,ac (x.1:Int))]) (fun x=>gmap kvS encB bm x.2::isl dL 7 ad xs::L) (fun x=>xs.length - x.1) (0,[]) ⟨aw _,fun _ _ _=>rfl⟩ aC (Ent.refl _) ?_;rintro⟨i,m⟩ ⟨hi,hm⟩;dsimp only at hi hm ⊢;by_cases a2:i<xs.length
 case neg =>
  refine Ks ?_;intros;exact KX.a8 aA Ent.drop ⟨rfl,rfl⟩
 have a1:(i:Int).toNat=i:=ab;refine Ks ?_;intros;rw[a1];refine GO.ef (Ef.c8 (first:=[]) (cap:=[]) (vs:=[aU (dL xs[i]!)]) (rz xs[i]!) rfl rfl) ae ?_;rintro _ _⟨rfl,rfl⟩;refine GO.ev (Ev.f9 (k:=xs[i]!.name) rfl rfl) ae ?_;rw[hm i (aq _) a2];simp only[fj,fg];refine Ks ?_;intros;refine GO.ef (Ef.c8 (first:=[]) (cap:=[]) (vs:=[aU (dL xs[i]!)]) (rz xs[i]!) rfl rfl) ae ?_;rintro _ _⟨rfl,rfl⟩;refine GO.efu (Ef.c9 (k:=xs[i]!.name) (e:=true) rfl rfl rfl rfl) ?_;rintro _ _ rfl;refine Ks ?_;intros;refine⟨(i+1,gins m xs[i]!.name true),⟨by dsimp only;omega,?_⟩,by dsimp only;omega,?_,Ent.a8 Ent.drop⟩
 ·intro j hj a0;dsimp only at hj ⊢;rw[ja,if_neg,hm j ab a0];intro e
  have h1:(xs.map (·.name))[j]'(by simpa using a0)=(xs.map (·.name))[i]'(by simp;omega):=by
   rw[getElem!_of a0,getElem!_of ab] at e;simpa using e
  have:=(fh hd).1 h1
  omega
 ·dsimp only;rw[bh i];exact aC
def rq{L:LH}(x:RuV):Tri Tryz.prog 220 #[aU (dE x)] L (fun u L'=>u=.string x.name∧L' = L):=by
 refine Tri.bd ?_;refine Ks ?_;intros;exact KX.a8 aA Ent.drop ⟨rfl,rfl⟩
def DX{L:LH}(ad:OA)(c:Nat)(xs:List RuV)(hl:xs.length≤64)(hd:(xs.map (·.name)).Nodup) :
  Tri Tryz.prog 219 #[ag ad xs.length c,.func (.func 220) #[] #[]] (isl dE 9 ad xs::L) (rtQ (.bool true) (isl dE 9 ad xs::L)):=by
 refine Tri.bd ?_;refine Ks ?_;intros;refine GO.ef (Ef.d8 kvS encB (.inr ⟨_,_,_,rfl,rfl,ab⟩)) ae ?_;rintro _ _⟨bm,rfl,rfl⟩;refine Ks ?_;intros;refine G.loop (α:=Nat×List (ByteArray×Bool)) (fun x=>x.1≤xs.length∧∀j,x.1≤j→j<xs.length→@List.lookup ByteArray Bool instBEqOfDecidableEq xs[j]!.name x.2=none) (fun x=>[(0,ag ad xs.length c),(1,.func (.func 220) #[] #[]),(5,.map (some bm)),(11,ag ad xs.length c),(12,ac xs.length),(13,ac (x.1:Int))]) (fun x=>gmap kvS encB bm x.2::isl dE 9 ad xs::L) (fun x=>xs.length - x.1) (0,[]) ⟨aw _,fun _ _ _=>rfl⟩ aC (Ent.refl _) ?_;rintro⟨i,m⟩ ⟨hi,hm⟩;dsimp only at hi hm ⊢;by_cases a2:i<xs.length
 case neg =>
  refine Ks ?_;intros;exact KX.a8 aA Ent.drop ⟨rfl,rfl⟩
 have a1:(i:Int).toNat=i:=ab;refine Ks ?_;intros;rw[a1];refine GO.ef (Ef.c8 (first:=[]) (cap:=[]) (vs:=[aU (dE xs[i]!)]) (rq xs[i]!) rfl rfl) ae ?_;rintro _ _⟨rfl,rfl⟩;refine GO.ev (Ev.f9 (k:=xs[i]!.name) rfl rfl) ae ?_;rw[hm i (aq _) a2];simp only[fj,fg];refine Ks ?_;intros;refine GO.ef (Ef.c8 (first:=[]) (cap:=[]) (vs:=[aU (dE xs[i]!)]) (rq xs[i]!) rfl rfl) ae ?_;rintro _ _⟨rfl,rfl⟩;refine GO.efu (Ef.c9 (k:=xs[i]!.name) (e:=true) rfl rfl rfl rfl) ?_;rintro _ _ rfl;refine Ks ?_;intros;refine⟨(i+1,gins m xs[i]!.name true),⟨by dsimp only;omega,?_⟩,by dsimp only;omega,?_,Ent.a8 Ent.drop⟩
 ·intro j hj a0;dsimp only at hj ⊢;rw[ja,if_neg,hm j ab a0];intro e
  have h1:(xs.map (·.name))[j]'(by simpa using a0)=(xs.map (·.name))[i]'(by simp;omega):=by
   rw[getElem!_of a0,getElem!_of ab] at e;simpa using e
  have:=(fh hd).1 h1
  omega
 ·dsimp only;rw[bh i];exact aC
def pM{L:LH}(x:TbV):Tri Tryz.prog 222 #[aU (eh x)] L (fun u L'=>u=.string x.name∧L' = L):=by
 refine Tri.bd ?_;refine Ks ?_;intros;exact KX.a8 aA Ent.drop ⟨rfl,rfl⟩
def DW{L:LH}(ad:OA)(c:Nat)(xs:List TbV)(hl:xs.length≤64)(hd:(xs.map (·.name)).Nodup) :
  Tri Tryz.prog 221 #[ag ad xs.length c,.func (.func 222) #[] #[]] (isl eh 2 ad xs::L) (rtQ (.bool true) (isl eh 2 ad xs::L)):=by
 refine Tri.bd ?_;refine Ks ?_;intros;refine GO.ef (Ef.d8 kvS encB (.inr ⟨_,_,_,rfl,rfl,ab⟩)) ae ?_;rintro _ _⟨bm,rfl,rfl⟩;refine Ks ?_;intros;refine G.loop (α:=Nat×List (ByteArray×Bool)) (fun x=>x.1≤xs.length∧∀j,x.1≤j→j<xs.length→@List.lookup ByteArray Bool instBEqOfDecidableEq xs[j]!.name x.2=none) (fun x=>[(0,ag ad xs.length c),(1,.func (.func 222) #[] #[]),(5,.map (some bm)),(11,ag ad xs.length c),(12,ac xs.length),(13,ac (x.1:Int))]) (fun x=>gmap kvS encB bm x.2::isl eh 2 ad xs::L) (fun x=>xs.length - x.1) (0,[]) ⟨aw _,fun _ _ _=>rfl⟩ aC (Ent.refl _) ?_;rintro⟨i,m⟩ ⟨hi,hm⟩;dsimp only at hi hm ⊢;by_cases a2:i<xs.length
 case neg =>
  refine Ks ?_;intros;exact KX.a8 aA Ent.drop ⟨rfl,rfl⟩
 have a1:(i:Int).toNat=i:=ab;refine Ks ?_;intros;rw[a1];refine GO.ef (Ef.c8 (first:=[]) (cap:=[]) (vs:=[aU (eh xs[i]!)]) (pM xs[i]!) rfl rfl) ae ?_;rintro _ _⟨rfl,rfl⟩;refine GO.ev (Ev.f9 (k:=xs[i]!.name) rfl rfl) ae ?_;rw[hm i (aq _) a2];simp only[fj,fg];refine Ks ?_;intros;refine GO.ef (Ef.c8 (first:=[]) (cap:=[]) (vs:=[aU (eh xs[i]!)]) (pM xs[i]!) rfl rfl) ae ?_;rintro _ _⟨rfl,rfl⟩;refine GO.efu (Ef.c9 (k:=xs[i]!.name) (e:=true) rfl rfl rfl rfl) ?_;rintro _ _ rfl;refine Ks ?_;intros;refine⟨(i+1,gins m xs[i]!.name true),⟨by dsimp only;omega,?_⟩,by dsimp only;omega,?_,Ent.a8 Ent.drop⟩
 ·intro j hj a0;dsimp only at hj ⊢;rw[ja,if_neg,hm j ab a0];intro e
  have h1:(xs.map (·.name))[j]'(by simpa using a0)=(xs.map (·.name))[i]'(by simp;omega):=by
   rw[getElem!_of a0,getElem!_of ab] at e;simpa using e
  have:=(fh hd).1 h1
  omega
 ·dsimp only;rw[bh i];exact aC
def sW{L:LH}(x:TxV):Tri Tryz.prog 224 #[aU (eg x)] L (fun u L'=>u=.string x.name∧L' = L):=by
 refine Tri.bd ?_;refine Ks ?_;intros;exact KX.a8 aA Ent.drop ⟨rfl,rfl⟩
def DV{L:LH}(ad:OA)(c:Nat)(xs:List TxV)(hl:xs.length≤64)(hd:(xs.map (·.name)).Nodup) :
  Tri Tryz.prog 223 #[ag ad xs.length c,.func (.func 224) #[] #[]] (isl eg 2 ad xs::L) (rtQ (.bool true) (isl eg 2 ad xs::L)):=by
 refine Tri.bd ?_;refine Ks ?_;intros;refine GO.ef (Ef.d8 kvS encB (.inr ⟨_,_,_,rfl,rfl,ab⟩)) ae ?_;rintro _ _⟨bm,rfl,rfl⟩;refine Ks ?_;intros;refine G.loop (α:=Nat×List (ByteArray×Bool)) (fun x=>x.1≤xs.length∧∀j,x.1≤j→j<xs.length→@List.lookup ByteArray Bool instBEqOfDecidableEq xs[j]!.name x.2=none) (fun x=>[(0,ag ad xs.length c),(1,.func (.func 224) #[] #[]),(5,.map (some bm)),(11,ag ad xs.length c),(12,ac xs.length),(13,ac (x.1:Int))]) (fun x=>gmap kvS encB bm x.2::isl eg 2 ad xs::L) (fun x=>xs.length - x.1) (0,[]) ⟨aw _,fun _ _ _=>rfl⟩ aC (Ent.refl _) ?_;rintro⟨i,m⟩ ⟨hi,hm⟩;dsimp only at hi hm ⊢;by_cases a2:i<xs.length
 case neg =>
  refine Ks ?_;intros;exact KX.a8 aA Ent.drop ⟨rfl,rfl⟩
 have a1:(i:Int).toNat=i:=ab;refine Ks ?_;intros;rw[a1];refine GO.ef (Ef.c8 (first:=[]) (cap:=[]) (vs:=[aU (eg xs[i]!)]) (sW xs[i]!) rfl rfl) ae ?_;rintro _ _⟨rfl,rfl⟩;refine GO.ev (Ev.f9 (k:=xs[i]!.name) rfl rfl) ae ?_;rw[hm i (aq _) a2];simp only[fj,fg];refine Ks ?_;intros;refine GO.ef (Ef.c8 (first:=[]) (cap:=[]) (vs:=[aU (eg xs[i]!)]) (sW xs[i]!) rfl rfl) ae ?_;rintro _ _⟨rfl,rfl⟩;refine GO.efu (Ef.c9 (k:=xs[i]!.name) (e:=true) rfl rfl rfl rfl) ?_;rintro _ _ rfl;refine Ks ?_;intros;refine⟨(i+1,gins m xs[i]!.name true),⟨by dsimp only;omega,?_⟩,by dsimp only;omega,?_,Ent.a8 Ent.drop⟩
 ·intro j hj a0;dsimp only at hj ⊢;rw[ja,if_neg,hm j ab a0];intro e
  have h1:(xs.map (·.name))[j]'(by simpa using a0)=(xs.map (·.name))[i]'(by simp;omega):=by
   rw[getElem!_of a0,getElem!_of ab] at e;simpa using e
  have:=(fh hd).1 h1
  omega
 ·dsimp only;rw[bh i];exact aC
