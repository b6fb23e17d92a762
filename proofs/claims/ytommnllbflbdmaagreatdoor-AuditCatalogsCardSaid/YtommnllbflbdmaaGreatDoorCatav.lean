/- Lemmas. -/
import Derived.Test.YtommnllbflbdmaaGreatDoorCatat
set_option linter.all false
set_option maxHeartbeats 1000000
namespace Go.Proofs.YtommnllbflbdmaaGreatDoor
section
open Go.V
attribute [local irreducible] G GO GP GPW GPK Ev Ef EfR Ent CB GB V.Enters
def setL(l:LL1):LL1:=l.foldl insL []
def kh{α β:Type}(f:β→α→β)(b:β)[Inhabited α]{l:List α}{i:Nat}(h:i<l.length):(l.take (i+1)).foldl f b=f ((l.take i).foldl f b) l[i]!:=by
 rw[aC h,cB,getElem!_of h];rfl
def pw{l:LL1}(h:∀x∈l,LotOk x):∀i,i≤l.length→(setL (l.take i)).length≤i∧∀x∈setL (l.take i),LotOk x
 | 0,_=>⟨aI _,(fun _ q=>by cases q)⟩
 | i+1,hi=>by
  obtain⟨h1,h2⟩:=pw h i ab;have e:setL (l.take (i+1))=insL (setL (l.take i)) l[i]!:=kh insL [] ab;rw[e];obtain⟨h3,h4⟩:=Hz (h _ (aL (ab:i<l.length))) h2;exact⟨ab,h4⟩
def qr{l:LL1}(h:∀x∈l,LotOk x):(setL l).length≤l.length∧∀x∈setL l,LotOk x:=by
 have:=pw h l.length (aI _)
 rwa [cd] at this
def apart(y z:Lot):Prop:=y.1≠z.1∨y.2.1+y.2.2≤z.2.1∨z.2.1+z.2.2≤y.2.1
def Apart(l:LL1):Prop:=l.Pairwise apart
def subS(x y:Lot):LL1 :=
 if y.1≠x.1∨x.2.1+x.2.2≤y.2.1∨y.2.1+y.2.2≤x.2.1 then[y]
 else(if y.2.1<x.2.1 then[(x.1,y.2.1,x.2.1 - y.2.1)] else[])++(if x.2.1+x.2.2<y.2.1+y.2.2 then[(x.1,x.2.1+x.2.2,y.2.1+y.2.2 - x.2.1 - x.2.2)] else[])
def subL(l:LL1)(x:Lot):LL1:=l.flatMap (subS x)
def lB{x y p:Lot}(hx:LotOk x)(hy:LotOk y)(hp:p∈subS x y):LotOk p∧p.1=y.1∧y.2.1≤p.2.1∧p.2.1+p.2.2≤y.2.1+y.2.2:=by
 unfold LotOk at hx hy;unfold subS at hp;split at hp
 ·rw[List.mem_singleton.1 hp];exact⟨hy,rfl,bG _,bG _⟩
 ·rename_i hn;rcases List.mem_append.1 hp with hp|hp
  ·split at hp
   ·rw[List.mem_singleton.1 hp];unfold LotOk;dsimp only;omega
   ·cases hp
  ·split at hp
   ·rw[List.mem_singleton.1 hp];unfold LotOk;dsimp only;omega
   ·cases hp
def BA{x:Lot}(y:Lot)(hx:0≤x.2.2):Apart (subS x y):=by
 unfold Apart subS;split
 ·exact bq _ _
 ·rename_i hn;split
  ·split
   ·refine List.pairwise_cons.2 ⟨fun z hz=>?_,bq _ _⟩;rw[List.mem_singleton.1 hz];unfold apart;dsimp only;omega
   ·exact bq _ _
  ·split
   ·exact bq _ _
   ·exact List.Pairwise.nil
def FH(x y:Lot):(subS x y).length≤2:=by
 unfold subS;split
 ·exact Nat.le_succ 1
 ·rw[ax];split<;>split<;>simp
def kL{x:Lot}:∀{l:LL1},(∀z∈l,apart z x)→subL l x=l
 | [],_=>rfl
 | z::l,h=>by
  have e:subL (z::l) x=subS x z++subL l x:=bB
  have e1:subS x z=[z]:=by
   unfold subS;have:=h z au
   unfold apart at this;rw[if_pos];omega
  rw[e,e1,kL (fun y hy=>h y (aw _ hy))];rfl
def mG{x:Lot}{l:LL1}(hx:LotOk x)(hl:∀y∈l,LotOk y){p:Lot}(hp:p∈subL l x):∃y∈l,LotOk p∧p.1=y.1∧y.2.1≤p.2.1∧p.2.1+p.2.2≤y.2.1+y.2.2:=by
 obtain⟨y,hy,hp⟩:=List.mem_flatMap.1 hp;exact⟨y,hy,lB hx (hl y hy) hp⟩
def nK{x:Lot}{l:LL1}(hx:LotOk x)(hl:∀y∈l,LotOk y):∀p∈subL l x,LotOk p:=fun p hp=>by
 obtain⟨_,_,h,_⟩:=mG hx hl hp;exact h
def mq{x:Lot}(hx:LotOk x):∀{l:LL1},(∀y∈l,LotOk y)→Apart l→Apart (subL l x)∧(subL l x).length≤l.length+1
 | [],_,_=>⟨List.Pairwise.nil,az _⟩
 | y::l,hl,ha=>by
  obtain⟨a1,a2⟩:=List.pairwise_cons.1 ha;have a0:∀z∈l,LotOk z:=fun z hz=>hl z (aw _ hz);obtain⟨i1,i2⟩:=mq hx a0 a2;have e:subL (y::l) x=subS x y++subL l x:=bB;have hy:=hl y au;rw[e];refine⟨List.pairwise_append.2 ⟨BA y (by unfold LotOk at hx;omega),i1,fun p hp q hq=>?_⟩,?_⟩
  ·obtain⟨_,p1,p2,p3⟩:=lB hx hy hp;obtain⟨z,hz,_,q1,q2,q3⟩:=mG hx a0 hq;have:=a1 z hz
   unfold apart at this ⊢;omega
  ·rw[ax,bE];by_cases h2:(subS x y).length≤1
   ·omega
   ·have a3:y.1=x.1∧y.2.1<x.2.1∧x.2.1+x.2.2<y.2.1+y.2.2:=by
     unfold subS at h2;split at h2
     ·exact absurd (aI 1) h2
     ·rename_i hn;split at h2
      ·split at h2
       ·omega
       ·exact absurd (aI 1) h2
      ·split at h2
       ·exact absurd (aI 1) h2
       ·exact absurd (az 1) h2
    rw[kL (l:=l) (fun z hz=>by
     have h3:=a1 z hz;have h4:=a0 z hz;unfold LotOk at hx h4;unfold apart at h3 ⊢;omega)]
    have:=FH x y
    omega
def fP(set:LL1)(y:Lot):LL1:=set.foldl subL [y]
def sw{set:LL1}{y:Lot}(hs:∀x∈set,LotOk x)(hy:LotOk y):∀i,i≤set.length→(∀p∈fP (set.take i) y,LotOk p)∧Apart (fP (set.take i) y)∧(fP (set.take i) y).length≤i+1
 | 0,_=>⟨fun p hp=>by rw[List.mem_singleton.1 hp];exact hy,bq _ _,aI _⟩
 | i+1,hi=>by
  obtain⟨h1,h2,h3⟩:=sw hs hy i ab;have e:fP (set.take (i+1)) y=subL (fP (set.take i) y) set[i]!:=kh subL [y] ab;rw[e];have hx:=hs _ (aL (ab:i<set.length));obtain⟨h4,h5⟩:=mq hx h1 h2;exact⟨nK hx h1,h4,ab⟩
def oo{set:LL1}{y:Lot}(hs:∀x∈set,LotOk x)(hy:LotOk y):(∀p∈fP set y,LotOk p)∧Apart (fP set y)∧(fP set y).length≤set.length+1:=by
 have:=sw hs hy set.length (aI _)
 rwa [cd] at this
def fq(s set:LL1):LL1:=s.foldl (fun out y=>(fP set y).foldl ba out) []
def wn{r out:LL1}(hr:∀p∈r,LotOk p)(ho:∀p∈out,LotOk p):∀i,i≤r.length→(∀p∈(r.take i).foldl ba out,LotOk p)∧((r.take i).foldl ba out).length≤out.length+i
 | 0,_=>⟨ho,aI _⟩
 | i+1,hi=>by
  obtain⟨h1,h2⟩:=wn hr ho i ab;rw[kh ba out ab];have hx:=hr _ (aL (ab:i<r.length));have:=kP ((r.take i).foldl ba out) r[i]!
  refine⟨rx h1 ?_,ab⟩;unfold LotOk at hx;unfold LotW;omega
def rQ{s set:LL1}(h:∀x∈s,LotOk x)(hs:∀x∈set,LotOk x):∀i,i≤s.length→(∀p∈fq (s.take i) set,LotOk p)∧(fq (s.take i) set).length≤i*(set.length+1)
 | 0,_=>⟨(fun _ q=>by cases q),az _⟩
 | i+1,hi=>by
  obtain⟨h1,h2⟩:=rQ h hs i ab;have e:fq (s.take (i+1)) set=(fP set s[i]!).foldl ba (fq (s.take i) set):=kh (fun out y=>(fP set y).foldl ba out) [] ab;obtain⟨r1,_,r3⟩:=oo hs (h _ (aL (ab:i<s.length)));have h3:=wn r1 h1 (fP set s[i]!).length (aI _);rw[cd] at h3;rw[e];refine⟨h3.1,?_⟩;have h4:=h3.2;have e2:(i+1)*(set.length+1)=i*(set.length+1)+(set.length+1):=Nat.succ_mul _ _;omega
def vB{s set:LL1}(h:∀x∈s,LotOk x)(hs:∀x∈set,LotOk x):(∀p∈fq s set,LotOk p)∧(fq s set).length≤s.length*(set.length+1):=by
 have:=rQ h hs s.length (aI _)
 rwa [cd] at this
def jM(a b:LL1):LL1:=fq (setL a) b
def nj(a b:LL1):LL1:=jM a (jM a b)
def iy(a b:LL1):Prop:=gm a∧gm b∧jM a b=[]
instance (a b:LL1):Decidable (iy a b):=by unfold iy;infer_instance
def pD{a b:LL1}(ha:∀x∈a,LotOk x)(hb:∀x∈b,LotOk x):(∀p∈jM a b,LotOk p)∧(jM a b).length≤a.length*(b.length+1):=by
 obtain⟨h1,h2⟩:=qr ha;obtain⟨h3,h4⟩:=vB h2 hb;exact⟨h3,cN h4 (dI _ h1)⟩
def vN(bv:Nat)(ad:OA)(c:Nat)(l:LL1)(cs:Nat→Int)(hm:l.length≤1000000) :
  ti 301 [aq bv] l.length cs (fun _=>cY [obj bv 22 [ae ad l.length c],isl (encZ .i64) 1 ad ((List.range l.length).map cs)]):=by
 intro k hk L;have a0:(k:Int).toNat=k:=ab;have hl:((List.range l.length).map cs).length=l.length:=by simp
 refine Tri.bd (args:=[ac (k:Int),aq bv]) ?_;refine G.ent Ent.openS ?_;simp only[ak,aj];refine IF ?_;intros;rw[a0,jE hk];exact KX.d7 av (Ent.l9 (A:=[_,_]) (L:=L)) ⟨rfl,rfl⟩
def dE{φ ψ:Prop}(k:ψ)(h:Hid ψ→φ:=by intro k;first|refine GO.ci (f:=299) (Hid.out k)|refine GPW.ci (f:=299) (Hid.out k)|refine GO.cf (f:=299) rfl (Hid.out k)|refine GPW.cf (f:=299) rfl (Hid.out k)|refine KX.inA (Hid.out k)):φ:=h ⟨k⟩
def aq9{φ ψ:Prop}(k:ψ)(h:Hid ψ→φ:=by intro k;(repeat (first|refine aa ?_|intro zzz|refine dE ?_));(repeat revert zzz);exact Hid.out k):φ:=h ⟨k⟩
def Bu{L:LH}(ad:OA)(c:Nat)(xs:LL1)(hb:xs.length≤4096)(hx:∀l∈xs,LotOk l) :
  Tri ai 284 #[ae ad xs.length c,ac 0,.bool true] (isl ay 3 ad xs::L) (fun v L' =>
   (lsum xs<0∧v=.tuple #[ae none 0 0,ae none 0 0,ac 10]∧L' = isl ay 3 ad xs::L) ∨
   (0≤lsum xs∧∃a0 c1 a1 c2,v=.tuple #[ae a0 (divF xs (fuC xs 0) xs.length).length c1,ae a1 (divR xs (fuC xs 0) xs.length).length c2,ac 0]∧L' = osl ay 3 tLot a0 c1 (divF xs (fuC xs 0) xs.length)::osl ay 3 tLot a1 c2 (divR xs (fuC xs 0) xs.length)::isl ay 3 ad xs::L)):=by
 have hw:∀x∈xs,LotW x:=fun x h=>(hx x h).w;have a2:=jH hx xs.length (aI _);rw[jA] at a2;refine Tri.bd ?_;refine aq9 ?_;intros;refine GO.cr (hD ad xs.length c xs rfl hb hx) ?_;refine aq9 ?_;intros;refine GO.cr (lO ad xs.length c xs rfl hb hx) ?_;refine aq9 ?_;intros;rename_i bl bn;refine GO.ent (L':=cY (fuA bn bl ad c xs 0 0)::isl ay 3 ad xs::isl ay 3 ad xs::L) ?_ ?_
 ·refine Ent.trans ?_ Ent.l9;simp only[fuA,fuR,ak,aj];refine(Ent.at (A:=isl ay 3 ad xs) (Ent.dup (lF _ _ _ _))).trans ?_;refine(Ent.dup (lF _ _ _ _)).trans ?_;exact ah
 (first|refine GO.ef (Ef.call (nJ _ _ ad c xs (fuC xs 0) (fun k=>cY (fuA bn bl ad c xs 0 k)) ab hw (pS (bG _) hw) (uH bn bl ad c xs 0 ab (bG _) ag hw)) rfl cT) ag ?_);rintro _ _⟨_,⟨a0,c1,a1,c2,rfl,rfl⟩,hL⟩;simp only[ak,aj] at hL;subst hL;refine aq9 ?_;intros;exact KX.d7 av (Ent.refl _) (.inr ⟨ab,a0,c1,a1,c2,rfl,rfl⟩)
def Bv{L:LH}(ad:OA)(c:Nat)(xs:LL1)(n:Int)(hb:xs.length≤4096)(hx:∀l∈xs,LotOk l)(a9:0<n)(a6:n≤1099511627776) :
  Tri ai 284 #[ae ad xs.length c,ac n,.bool true] (isl ay 3 ad xs::L) (fun v L' =>
   (lsum xs<n∧v=.tuple #[ae none 0 0,ae none 0 0,ac 10]∧L' = isl ay 3 ad xs::L) ∨
   (n≤lsum xs∧∃a1 c1 a2 c2,v=.tuple #[ae a1 (divF xs (shC xs n) xs.length).length c1,ae a2 (divR xs (shC xs n) xs.length).length c2,ac 0]∧L' = osl ay 3 tLot a1 c1 (divF xs (shC xs n) xs.length)::osl ay 3 tLot a2 c2 (divR xs (shC xs n) xs.length)::isl ay 3 ad xs::L)):=by
 have hw:∀x∈xs,LotW x:=fun x h=>(hx x h).w;refine Tri.bd ?_;refine aq9 ?_;intros;refine GO.cr (hD ad xs.length c xs rfl hb hx) ?_;refine aq9 ?_;intros;refine GO.cr (lO ad xs.length c xs rfl hb hx) ?_;by_cases hs:lsum xs<n
 ·refine aq9 ?_;intros;exact KX.d7 av (Ent.refl _) (.inl ⟨hs,rfl,rfl⟩)
 have a7:xs≠[]:=by
  rintro rfl;simp[lsum] at hs;omega
 refine aq9 ?_;intros;rename_i bl bn;refine GO.ent Ent.drop (GO.ent Ent.drop ?_);refine GO.ef (Ef.makeSlice (encZ .i64) 0 rfl rfl rfl ab ab ab) ag ?_;rintro _ _⟨bw,rfl,rfl⟩;rw[aD,←kj xs.length (fun k=>xs[k]!.2.2)];repeat first|refine G.sm 8 ?_|refine bF ?_|intro _|refine GO.ci (f:=299) ?_|refine GPW.ci (f:=299) ?_|refine GO.cf (f:=299) rfl ?_|refine GPW.cf (f:=299) rfl ?_|refine KX.inA ?_
 refine G.d8 (α:=Unit) (fun _=>True) (fun _=>[(0,ae ad xs.length c),(1,ac n),(10,ae (some ⟨bw,0,none⟩) xs.length xs.length)]) (fun _=>isl (encZ .i64) 1 (some ⟨bw,0,none⟩) (wts xs)::isl ay 3 ad xs::L) ?_ ?_
 ·refine aq9 ?_;intros
  refine G.loop (α:=Nat) (fun i=>i≤xs.length) (fun i=>[(0,ae ad xs.length c),(1,ac n),(10,ae (some ⟨bw,0,none⟩) xs.length xs.length),(43,ae ad xs.length c),(44,ac xs.length),(45,ac (i:Int))])
   (fun i=>osl (encZ .i64) 1 tInt (some ⟨bw,0,none⟩) xs.length (gj xs.length i (fun k=>xs[k]!.2.2))::isl ay 3 ad xs::L) (fun i=>xs.length - i) 0 (az _) an ah ?_
  intro i hi;have a8:=jR xs.length i (fun k=>xs[k]!.2.2);by_cases a5:i<xs.length
  case neg =>
   have a4:i=xs.length:=ab;subst a4
   have e:gj xs.length xs.length (fun k=>xs[k]!.2.2)=wts xs:=by
    rw[kV];apply dZ
    ·simp[wts]
    ·intro k h1 h2;have hk:k<xs.length:=by simpa using h1
     simp[wts,hk]
   rw[e];refine aq9 ?_;intros;exact⟨(),trivial,an,(Ent.frz (some ⟨bw,0,none⟩))⟩
  have a3:(i:Int).toNat=i:=ab;have h3:(gj xs.length i (fun k=>xs[k]!.2.2)).set i xs[i]!.2.2=gj xs.length (i+1) (fun k=>xs[k]!.2.2):=kU _ a5;refine aq9 ?_;intros;rw[a3,h3];refine⟨i+1,ab,ab,?_,by exact ah⟩;rw[aU i];exact an
 rintro _ _;refine aq9 ?_;intros;refine GO.ca (BB (some ⟨bw,0,none⟩) xs.length xs n hb hx a7 ab ab a6) ?_;rintro _ _⟨a0,c3,rfl,rfl⟩;refine aq9 ?_;intros;rename_i bv;refine GO.ent (L':=cY [obj bv 22 [ae a0 xs.length c3],isl (encZ .i64) 1 a0 ((List.range xs.length).map (shC xs n))]::isl ay 3 ad xs::isl ay 3 ad xs::L) ?_ ?_
 ·refine(Ent.frz a0).trans ?_;refine Ent.trans ?_ Ent.l9;simp only[ak,aj];refine(Ent.at (A:=isl ay 3 ad xs) (Ent.dup (lF _ _ _ _))).trans ?_;exact ah
 (first|refine GO.ef (Ef.call (nJ _ _ ad c xs (shC xs n) (fun _=>cY [obj bv 22 [ae a0 xs.length c3],isl (encZ .i64) 1 a0 ((List.range xs.length).map (shC xs n))]) ab hw (Ec hx ab ab) (vN bv a0 c3 xs (shC xs n) ab)) rfl cT) ag ?_);rintro _ _⟨_,⟨a1,c1,a2,c2,rfl,rfl⟩,hL⟩;simp only[ak,aj] at hL;subst hL;refine aq9 ?_;intros;exact KX.d7 av (Ent.refl _) (.inr ⟨ab,a1,c1,a2,c2,rfl,rfl⟩)
def qo(mixed:Bool):TakeC mixed:=by
 cases mixed with
 | false=>exact yp
 | true =>
  refine⟨fun l n hl h0 h1 k hk=>pi true l n hl h0 h1 k hk,?_⟩;intro L ad c xs n h1 h2 h3 h4;rcases Int.lt_or_eq_of_le h3 with h5|h5
  ·have e:tkC true xs n=shC xs n:=if_pos ⟨rfl,h5⟩;unfold iO fV;rw[e];exact Bv ad c xs n h1 h2 h5 h4
  ·subst h5;have e:tkC true xs 0=fuC xs 0:=if_neg (fun h=>absurd h.2 ab);unfold iO fV;rw[e];exact Bu ad c xs h1 h2
def WdB(c:Int):Prop:=(97≤c∧c≤122)∨(48≤c∧c≤57)∨c=95
noncomputable def clsM(c:Int):Int:=if 97≤c∧c≤122 then 1 else if 48≤c∧c≤57 then 2 else 3
def qC(c:Int):1≤clsM c∧clsM c≤3:=by
 unfold clsM;split
 ·omega
 ·split<;>omega
def Gi:∀c,c<128→(kindsL[c]! = 3→97≤c∧c≤122)∧(kindsL[c]! = 4→48≤c∧c≤57)∧(kindsL[c]! = 5→c=95):=by decide +kernel
def rA{s:ByteArray}{i:Nat}(hi:i<s.size)(h:fQ s i=3∨fQ s i=4∨fQ s i=5):WdB (cW s)[i]!∧(fQ s i=3→clsM (cW s)[i]! = 1):=by
 have hb:=un s _ (aL (show i<(cW s).length by rw[oz];omega));unfold fQ at h ⊢;rw[aD] at h ⊢;by_cases h1:(cW s)[i]! < 128
 case neg =>
  rw[if_neg (fun h=>h1 h.2)] at h;omega
 rw[if_pos ⟨ab,h1⟩] at h ⊢;have hk:=Gi ((cW s)[i]!).toNat ab;refine⟨?_,?_⟩
 ·unfold WdB;rcases h with h|h|h
  ·have:=hk.1 h;omega
  ·have:=hk.2.1 h;omega
  ·have:=hk.2.2 h;omega
 ·intro h3;have:=hk.1 h3
  unfold clsM;rw[if_pos ab]
def fB{L:LH}(c:Int)(h:WdB c):Tri ai 220 #[.int .u8 c] L (rtQ (ac (clsM c)) L):=by
 refine Tri.bd ?_;by_cases h1:97≤c∧c≤122
 ·have e:clsM c=1:=if_pos h1;rw[e];obtain⟨h2,h3⟩:=h1;refine IF ?_;intros;exact KX.en ⟨rfl,rfl⟩
 by_cases h4:48≤c∧c≤57
 ·have e:clsM c=2:=by unfold clsM;rw[if_neg h1,if_pos h4]
  rw[e];obtain⟨h2,h3⟩:=h4;refine IF ?_;intros;exact KX.en ⟨rfl,rfl⟩
 have h5:c=95:=by unfold WdB at h;omega
 have e:clsM c=3:=by unfold clsM;rw[if_neg h1,if_neg h4]
 rw[e];refine IF ?_;intros;exact KX.en ⟨rfl,rfl⟩
def kb{L:LH}(s:ByteArray)(i:Nat)(hs:s.size≤1000)(hk:i<s.size→WdB (cW s)[i]!) :
  Tri ai 218 #[.string s,ac (i:Int)] L (rtQ (ac (i:Int)) L):=by
 refine Tri.bd ?_;refine IF ?_;intros;refine G.d9 1 (GR.step ?_);by_cases h1:i<s.size
 case neg =>
  refine IF ?_;intros;exact KX.en ⟨rfl,rfl⟩
 have hw:=hk h1;have hb:=hw;unfold WdB at hb;obtain⟨c,hc⟩:∃c,(cW s)[i]! = c:=⟨_,rfl⟩;rw[hc] at hw hb;have a0:=qC c;refine IF ?_;intros;rw[aD,hc];refine IF ?_;intros;rw[aD,hc];refine IF ?_;intros;rw[aD,hc];refine GO.cr (fB c hw) ?_;refine IF ?_;intros;exact KX.en ⟨rfl,rfl⟩
def Bo{s:ByteArray}(hw:IsWord s){i:Nat}(hi:i<s.size):WdB (cW s)[i]!:=(rA hi (hw.rest i hi)).1
def Ff{L:LH}(s:ByteArray)(hw:IsWord s):Tri ai 219 #[.string s,ac 0] L (rtQ (ac (s.size:Int)) L):=by
 have a8:=hw.size;have a1:clsM (cW s)[0]! = 1:=(rA (i:=0) ab (hw.rest 0 ab)).2 hw.first;have a2:=Bo hw (i:=0) ab;refine Tri.bd ?_;refine IF ?_;intros;rw[dJ];refine GO.ca (fB _ a2) ?_;rintro _ L ⟨rfl,rfl⟩;rw[a1];refine IF ?_;intros
 refine G.loop (α:=Nat) (fun e=>1≤e∧e≤s.size) (fun e=>[(0,.string s),(1,ac 0),(5,ac (e:Int))])
  (fun _=>L) (fun e=>s.size - e) 1 ⟨ab,ab⟩ an (Ent.refl _) ?_
 rintro e ⟨a6,a7⟩;by_cases a4:e<s.size
 case neg =>
  have a3:e=s.size:=ab;subst a3;refine IF ?_;intros;exact KX.en ⟨rfl,rfl⟩
 have a0:=Bo hw a4;obtain⟨c,hc⟩:∃c,(cW s)[e]! = c:=⟨_,rfl⟩;rw[hc] at a0;have a5:=qC c;refine IF ?_;intros;rw[aD,hc];refine GO.ca (fB c a0) ?_;rintro _ L ⟨rfl,rfl⟩;refine IF ?_;intros;rw[aD,hc];refine GO.ca (fB c a0) ?_;rintro _ L ⟨rfl,rfl⟩;refine IF ?_;intros;refine⟨e+1,⟨ab,ab⟩,ab,?_,Ent.refl _⟩;rw[aU e];exact an
abbrev By:Nat:=214
def vH{L:LH}(s:ByteArray)(hw:IsWord s):Tri ai 130 #[.string s] L (fun v L'=>∃ad c,v=.tuple #[ae ad 1 c,ac 0,ac 0]∧L' = osl encT 4 By ad c [iL s]::L):=by
 have a4:=hw.size;have a2:clsM (cW s)[0]! = 1:=(rA (i:=0) ab (hw.rest 0 ab)).2 hw.first;have a1:=Bo hw (i:=0) ab;refine Tri.bd ?_;refine IF ?_;intros;refine GO.ca (kb s 0 ab (fun _=>a1)) ?_;rintro _ L ⟨rfl,rfl⟩;refine IF ?_;intros;refine G.d9 2 (GR.step ?_);rw[Int.natCast_zero];refine IF ?_;intros;refine GO.ca (Ff s hw) ?_;rintro _ L ⟨rfl,rfl⟩;refine IF ?_;intros;rw[dJ,aD,nI];rename_i b8;refine GO.cr (fB _ a1) ?_;rw[a2];refine IF ?_;intros;rw[dJ];refine GO.cr (fB _ a1) ?_;rw[a2];refine IF ?_;intros;refine GO.ent (Ent.d8 encT 4 By) ?_;refine GO.ef (Ef.d7 (enc:=encT) (xs:=[]) (e:=iL s) rfl rfl rfl rfl rfl aJ (mW _) ag ag) ag ?_;rintro _ _⟨a3,a0,rfl,rfl⟩;simp only[aj];refine IF ?_;intros;refine GO.cr (kb s s.size ab (fun h=>by omega)) ?_;refine IF ?_;intros;refine GR.step ?_;refine IF ?_;intros;exact KX.en ⟨a3,a0,rfl,rfl⟩
def Bl{L:LH}(s:ByteArray)(hw:IsWord s):Tri ai 84 #[.string s] L (rtQ (.bool true) L):=by
 refine Tri.bd ?_;refine IF ?_;intros;refine GO.ca (vH s hw) ?_;rintro _ _⟨ad,c,rfl,rfl⟩;have a1:([iL s][Int.toNat 0]!).kind=0:=rfl;have a0:([iL s][Int.toNat 0]!).text=s:=rfl;refine IF ?_;intros;rw[a0];refine IF ?_;intros;exact KX.d7 av ah ⟨by rw[aZ rfl];rfl,rfl⟩
def cx(s:ByteArray):LV:=[.string s]
def kl(s:ByteArray):∀u∈cx s,u.oneCell' = true:=by simp[cx,Value.oneCell']
abbrev CX(a b c:Bool):Value:=.tuple #[.bool a,.bool b,.bool c]
abbrev tStr:Nat:=9
structure StrS where
 l:List ByteArray
 ad:OA
 cap:Nat
 deriving Inhabited
def lK(a:StrS):LV:=[ae a.ad a.l.length a.cap]
def strP(a:StrS):HP:=isl cx 1 a.ad a.l
def sf(a:StrS):PersM (strP a):=bI _ _ _ _
def iD(a:AmS):LV:=[ae a.ad a.l.length a.cap]
def sS(a:AmS):∀u∈iD a,u.oneCell' = true:=by simp[iD,Value.oneCell']
def kz{α β:Type}[Inhabited α](f:α→β){xs:List α}{i:Nat}(h:i<xs.length):(xs.take i).map f++[f xs[i]!]=(xs.take (i+1)).map f:=by
 rw[aC h,aR,getElem!_of h];rfl
def ig{α β:Type}(f:α→β){xs:List α}{i:Nat}(h:i≤xs.length):((xs.take i).map f).length=i:=by rw[aA,bg];omega
def lsR(rs:List RuV):List AmS:=rs.flatMap fun r=>[r.take,r.give,r.back]
def lsW(t:TbV):List AmS:=t.rows.map (·.give)
def lsT(ts:List TbV):List AmS:=ts.flatMap lsW
def Gd{rs:List RuV}{i:Nat}(h:i<rs.length):lsR (rs.take i)++[rs[i]!.take,rs[i]!.give,rs[i]!.back]=lsR (rs.take (i+1)):=by
 unfold lsR;rw[aC h,cZ,getElem!_of h];simp
def Gc{ts:List TbV}{i:Nat}(h:i<ts.length):lsT (ts.take i)++lsW ts[i]! = lsT (ts.take (i+1)):=by
 unfold lsT;rw[aC h,cZ,getElem!_of h];simp
def tG(rs:List RuV):(lsR rs).length=3*rs.length:=by
 unfold lsR;induction rs with
 | nil=>rfl
 | cons r rs ih=>rw[bB,ax,ih];simp only[bE,cU];omega
abbrev rZ:Nat:=77
structure NmOk (x:StrS):Prop where
 len:x.l.length≤64
 cap:x.l.length≤x.cap
 word:∀s∈x.l,IsWord s
 nd:x.l.Nodup
def HZ{c:CatV}{a:AmS}(h:a∈lsR c.rules++lsT c.tables){L:LH}:Ent (allP ruP c.rules::allP tbP c.tables::L) (amS a::allP ruP c.rules::allP tbP c.tables::L):=by
 rcases List.mem_append.1 h with h|h
 ·obtain⟨r,hr,ha⟩:=List.mem_flatMap.1 h;refine(Ent.d9 (f:=ruP) hr).trans (Ent.andE.trans ((Ent.d7 Ent.andE).trans ?_));simp only[bh,aH,or_false] at ha;rcases ha with rfl|rfl|rfl
  ·exact ah
  ·exact ah
  ·exact ah
 ·obtain⟨t,ht,ha⟩:=List.mem_flatMap.1 h;obtain⟨w,hw,rfl⟩:=List.mem_map.1 ha;refine(Ent.at (A:=allP tbP c.tables) ((Ent.d9 (f:=tbP) ht).trans (Ent.andE.trans (Ent.d7 (Ent.d9 (f:=rwP) hw))))).trans ?_;exact ah
def EA{c:CatV}{L:LH}:∀l:List AmS,(∀a∈l,a∈lsR c.rules++lsT c.tables)→Ent (allP ruP c.rules::allP tbP c.tables::L) (allP amS l::allP ruP c.rules::allP tbP c.tables::L)
 | [],_=>Ent.e7 amS
 | a::l,h=>by
  have h1:=HZ (L:=allP amS l::L) (h a au);have h2:=EA (c:=c) (L:=L) l (fun x hx=>h x (aw _ hx));refine h2.trans (Ent.trans (B:=allP ruP c.rules::allP tbP c.tables::allP amS l::L) ah (h1.trans (Ent.trans (B:=amS a::allP amS l::allP ruP c.rules::allP tbP c.tables::L) ah (Ent.g9 jB))))
def Dg(b:Bool):LV:=[.bool b]
structure RStk where
 acc:Int
 item:Int
 stk:Stk
 deriving Inhabited
abbrev RStk.is(s:RStk)(a i:Int):Prop:=s.acc=a∧s.item=i
def stk0:Stk:=⟨none,0,[]⟩
def ng:List RStk→Int→Int→Stk
 | [],_,_=>stk0
 | s::l,a,i=>if s.is a i then s.stk else ng l a i
def rsum:List RStk→Int→Int
 | [],_=>0
 | s::l,i=>(if s.item=i then lsum s.stk.lots else 0)+rsum l i
def rOk(l:List RStk):Prop:=∀s∈l,s.stk.lots.length≤4096∧∀x∈s.stk.lots,LotOk x
structure RLX where
 cat:CatV
 stks:List RStk
 sad:OA
 scap:Nat
 flows:List FlV
 fad:OA
 fcap:Nat
 steps:List StV
 tad:OA
 tcap:Nat
def ix{α:Type}{f:α→HP}(hf:∀x,PersM (f x)){l:List α}{e:α}{L:LH}:Ent (f e::allP f l::L) (allP f (l++[e])::L) :=
 (Ent.g9 hf).trans (Ent.l6 (fun x hx=>by
  rcases List.mem_append.1 hx with h|h
  ·exact aw _ h
  ·rw[List.mem_singleton.1 h];exact au ..))
