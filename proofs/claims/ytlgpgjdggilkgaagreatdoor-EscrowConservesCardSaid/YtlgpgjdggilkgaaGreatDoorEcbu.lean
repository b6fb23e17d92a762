/- Lemmas. -/
import Derived.Test.YtlgpgjdggilkgaaGreatDoorEcbt
set_option linter.all false
set_option maxHeartbeats 16000000
namespace Go.Proofs.YtlgpgjdggilkgaaGreatDoor
section
open Go.V
def inW(l:List (NdM×LedM)):LL:=l.flatMap fun p=>cz p.2.flows
def outW(l:List (NdM×LedM)):LL:=l.flatMap fun p=>expL p.2.flows
def lz{α β:Type}{f:α→List β}{b:Nat}:∀{l:List α},(∀x∈l,(f x).length≤b)→(l.flatMap f).length≤l.length*b
 | [],_=>aw _
 | a::l,h=>by
  have:=lz fun x hx=>h x (au _ hx)
  have:=h a av
  rw[aO,aj,aM,fW];omega
def BS{fl:List FlM}{y:Lot}(h:y∈expL fl):∃f∈fl,y=(f.id,0,f.n):=by
 unfold expL at h;obtain⟨f,hf,e⟩:=List.mem_map.1 h;exact⟨f,(List.mem_filter.1 hf).1,e.symm⟩
def IX{sh:Int}{fl:List FlM}(h:FlN sh fl):fl.Pairwise fun a b=>a.id≠b.id:=by
 refine List.pairwise_iff_getElem.2 fun i j hi hj a0=>?_;have h1:=(h i hi).1;have h2:=(h j hj).1;rw[getElem!_of hi] at h1;rw[getElem!_of hj] at h2;omega
def Ht{sh:Int}{fl:List FlM}(h:FlN sh fl):(expL fl).Pairwise fun a b=>a.1≠b.1:=by
 unfold expL;rw[List.pairwise_map];exact(IX h).filter _
def ng{l:LL}(h:l.Pairwise fun a b=>a.1≠b.1):Apart l:=h.imp fun q=>.inl q
def qh:∀{am:List (Int×Int)} {fl:List Int} {y:Lot},y∈lH am fl→y.1∈fl
 | am,fl,y,h=>by
  unfold lH at h;obtain⟨p,hp,e⟩:=List.mem_map.1 h;rw[←e];exact(List.of_mem_zip hp).2
def tE:∀{am:List (Int×Int)} {fl:List Int},fl.Nodup→(lH am fl).Pairwise fun a b=>a.1≠b.1
 | [],_,_=>List.Pairwise.nil
 | _::_,[],_=>List.Pairwise.nil
 | a::am,x::fl,h=>by
  obtain⟨h1,h2⟩:=List.nodup_cons.1 h;refine List.Pairwise.cons (fun y hy e=>h1 ?_) (tE (am:=am) h2);have:=qh hy
  rw[←e] at this;exact this
def qg{g:Gh}{k:Int×Int}{y:Lot}(h:y∈kY g k):∃l fl,g.leg k=some l∧g.X k=some fl∧y∈lH l.am fl:=by
 unfold kY at h;cases hl:g.leg k with
 | none=>rw[hl] at h;cases h
 | some l =>
  rw[hl] at h;cases hX:g.X k with
  | none=>rw[hX] at h;cases h
  | some fl =>
   rw[hX] at h;exact⟨l,fl,rfl,rfl,h⟩
def DD{g:Gh}(hg:GhOk g)(k:Int×Int):(kY g k).Pairwise fun a b=>a.1≠b.1:=by
 unfold kY;cases hl:g.leg k with
 | none=>exact List.Pairwise.nil
 | some l =>
  dsimp only;cases hX:g.X k with
  | none=>exact List.Pairwise.nil
  | some fl =>
   obtain⟨_,_,_,hn⟩:=hg.xl k fl hX;exact tE hn
def ry{g:Gh}(hg:GhOk g){k k' : Int×Int}(h:k≠k'):∀x∈kY g k,∀y∈kY g k',x.1≠y.1:=fun x hx y hy e=>by
 obtain⟨l,fl,_,q2,q3⟩:=qg hx;obtain⟨l',a0,_,p2,p3⟩:=qg hy;have h1:=qh q3;rw[e] at h1;exact hg.dis k k' fl a0 q2 p2 h _ h1 (qh p3)
structure CvL (l:List (NdM×LedM)):Prop where
 vi:eQ (inW l)
 ai:Apart (inW l)
 vo:eQ (outW l)
 ao:Apart (outW l)
 wi:ic (inW l) (outW l)
 tot:∀p∈l,∀x,p.2.tot x=sgS x p.2.flows
 item:∀p∈l,∀f∈p.2.flows,0≤f.item∧f.item<4
 fk:∀p∈l,p.2.flows.length≤kOf p.2
 fn:∀p∈l,∀f∈p.2.flows,1≤f.n∧f.n≤1099511627776
def JQ{shs:Int}{c b M T:Nat}{W:WdM}(h:WdI shs c b M T W)(hJ:CvI shs W)(hb:W.nds.length*b≤4096):CvL W.nds:=by
 obtain⟨g,hC,_⟩:=hJ;have hl:=h.len
 have a1:∀i:Nat,(hi:i<W.nds.length)→NdB i shs c b W.nds[i]∧NodeJ g i W.nds[i].1 W.nds[i].2:=fun i hi=>by
  have h1:=h.nd i hi;have h2:=hC.nd i ⟨ab,ab⟩
  have e:W.nd i=W.nds[i]:=by
   unfold WdM.nd;rw[show((i:Nat):Int).toNat=i by omega,getElem!_of hi]
  rw[getElem!_of hi] at h1;rw[e] at h2;exact⟨h1,h2⟩
 have a0:∀p∈W.nds,∃i:Nat,NdB i shs c b p∧NodeJ g i p.1 p.2:=fun p hp=>by
  obtain⟨i,hi,e⟩:=List.mem_iff_getElem.1 hp;rw[←e];exact⟨i,a1 i hi⟩
 have a3:eQ (inW W.nds):=by
  refine⟨fun y hy=>?_,aP (lz (b:=b) fun p hp=>?_) hb⟩
  ·obtain⟨p,hp,hy⟩:=List.mem_flatMap.1 hy;obtain⟨i,h1,h2⟩:=a0 p hp;obtain⟨f,hf,_,hy⟩:=impAll_mem.1 hy;exact(h1.a.hin.led.a.fa f hf).1 y hy
  ·obtain⟨i,h1,h2⟩:=a0 p hp;have:=h1.a.hin.led.a.il
   have:=h1.bd
   omega
 have a4:eQ (outW W.nds):=by
  refine⟨fun y hy=>?_,aP (lz (b:=b) fun p hp=>?_) hb⟩
  ·obtain⟨p,hp,hy⟩:=List.mem_flatMap.1 hy;obtain⟨i,h1,h2⟩:=a0 p hp;obtain⟨f,hf,rfl⟩:=BS hy;obtain⟨k,hk,e⟩:=List.mem_iff_getElem.1 hf;have q:=h1.a.hin.led.a.fn k hk;rw[getElem!_of hk,e,h2.ls.led.shd] at q;unfold LotOk;dsimp only;omega
  ·obtain⟨i,h1,h2⟩:=a0 p hp;have:=h2.ls.led.fk
   have:=h1.bd
   have:(expL p.2.flows).length≤p.2.flows.length:=by
    unfold expL;rw[an];exact dv _ _
   omega
 have a5:(inW W.nds).Pairwise fun a b=>a.1≠b.1:=by
  unfold inW;rw[List.pairwise_flatMap];refine⟨fun p hp=>?_,List.pairwise_iff_getElem.2 fun i j hi hj a6 x hx y hy=>?_⟩
  ·obtain⟨i,h1,h2⟩:=a0 p hp;rw[h2.ls.imp,List.pairwise_flatMap];exact⟨fun k _=>DD hC.gh k,h2.ls.nd.imp fun a9=>ry hC.gh a9⟩
  ·rw[(a1 i hi).2.ls.imp] at hx;rw[(a1 j hj).2.ls.imp] at hy;obtain⟨k,hk,hx⟩:=List.mem_flatMap.1 hx;obtain⟨k',a7,hy⟩:=List.mem_flatMap.1 hy;obtain⟨l,_,q1,q2,_⟩:=(a1 i hi).2.ls.rc k hk;obtain⟨l',_,p1,p2,_⟩:=(a1 j hj).2.ls.rc k' a7;refine ry hC.gh (fun e=>?_) x hx y hy;rw[e,p1] at q1;rw[Option.some.inj q1] at p2;omega
 have a2:(outW W.nds).Pairwise fun a b=>a.1≠b.1:=by
  unfold outW;rw[List.pairwise_flatMap];refine⟨fun p hp=>?_,List.pairwise_iff_getElem.2 fun i j hi hj a6 x hx y hy e=>?_⟩
  ·obtain⟨i,h1,h2⟩:=a0 p hp;exact Ht h1.a.hin.led.a.fn
  ·have r:∀(i:Nat) (hi:i<W.nds.length) (x:Lot),x∈expL W.nds[i].2.flows→(i:Int)*4294967296≤x.1∧x.1<(i:Int)*4294967296+4294967296:=fun i hi x hx=>by
    obtain⟨h1,h2⟩:=a1 i hi;obtain⟨f,hf,rfl⟩:=BS hx;obtain⟨k,hk,e⟩:=List.mem_iff_getElem.1 hf;have q:=h1.a.hin.led.a.fn k hk;rw[getElem!_of hk,e,h2.ls.led.shd] at q;have:=h2.ls.led.fb
    dsimp only;omega
   have q1:=r i hi x hx;have q2:=r j hj y hy;rw[e] at q1;omega
 refine⟨a3,ng a5,a4,ng a2,?_,fun p hp=>?_,fun p hp=>?_,fun p hp=>?_,fun p hp f hf=>?_⟩
 ·rw[oy a3 (ng a5) a4 (ng a2),Ca,qK a4.1 (ng a2) fun w hw=>⟨a3.1 w hw,w,?_,rfl,bq _,bq _⟩]
  ·omega
  ·obtain⟨p,hp,hy⟩:=List.mem_flatMap.1 hw;obtain⟨i,h1,h2⟩:=a0 p hp;rw[h2.ls.imp] at hy;obtain⟨k,hk,hy⟩:=List.mem_flatMap.1 hy;obtain⟨l,fl,q1,q2,q3⟩:=qg hy;have hs:=hC.xs k fl l q2 q1;have hj:l.sh.toNat<W.nds.length:=ab;have hN:=(a1 l.sh.toNat hj).2;exact List.mem_flatMap.2 ⟨W.nds[l.sh.toNat],bR hj,(hN.ls.exp k l fl q1 ab q2).1 w q3⟩
 ·obtain⟨i,h1,h2⟩:=a0 p hp;exact h2.ls.led.tot
 ·obtain⟨i,h1,h2⟩:=a0 p hp;exact h2.ls.led.item
 ·obtain⟨i,h1,h2⟩:=a0 p hp;exact h2.ls.led.fk
 ·obtain⟨i,h1,h2⟩:=a0 p hp;obtain⟨k,hk,e⟩:=List.mem_iff_getElem.1 hf;have q:=h1.a.hin.led.a.fn k hk;rw[getElem!_of hk,e] at q;exact q.2
def FG{sh:Int}:∀{ss:List StM} {S:LedM},LedJ sh S→cz S.flows=[]→(∀s∈ss,s.kind=0)→LedJ sh (ss.foldl ce S)∧cz (ss.foldl ce S).flows=[]
 | [],S,h,hi,_=>⟨h,hi⟩
 | s::ss,S,h,hi,hk=>by
  have k0:=hk s av;obtain⟨q1,_,q3,_⟩:=qk (s:=s) h (by rw[k0];decide) (by rw[k0];decide) (by rw[k0];decide);rw[eO];exact FG q1 (q3.trans hi) fun x hx=>hk x (au _ hx)
def JG(i:Int):LedJ i (led0 i cat22):=⟨rfl,rfl,⟨aq _,aw _⟩,aw _,fun _=>rfl,fun f hf=>absurd hf ay⟩
def SdI.nodeJ{l:List Int}{i:Nat}{s:SdV}(h:SdI l i s):NodeJ ⟨fun _=>none,fun _=>none⟩ i s.n.m s.S:=by
 obtain⟨ss,h1,h2⟩:=h.sp.run;obtain⟨q1,q2⟩:=FG (JG (i:Int)) rfl h1;rw[←h2] at q1 q2;rw[h.n];exact⟨⟨q1,fun k l fl _ _ q=>absurd q (fun e=>by cases e),dY,fun k hk=>absurd hk ay,q2⟩,fun id x q=>absurd q (fun e=>by cases e),fun id p q=>absurd q (fun e=>by cases e),fun k l _ _ q=>absurd rfl q⟩
def StartI.cv{n:Int}{l:List Int}{W:WdV}(h:StartI n l W):CvI n W.m:=by
 have hl:=h.len;refine⟨⟨fun _=>none,fun _=>none⟩,⟨⟨fun k fl q=>absurd q (fun e=>by cases e),fun k k' a b q=>absurd q (fun e=>by cases e)⟩,fun i hi=>?_,fun y hy=>?_,fun k fl l q=>absurd q (fun e=>by cases e)⟩,fun id ls q=>absurd q (fun e=>by cases e)⟩
 ·have a0:i.toNat<W.sds.length:=ab;have e:W.m.nd i=W.sds[i.toNat]!.m:=gw (f:=SdV.m) a0;have q:=(h.sd i.toNat a0).nodeJ;rw[show((i.toNat:Nat):Int)=i by omega] at q;rw[e];exact q
 ·have hy:y∈W.msl.map (·.m):=hy;rw[h.ms] at hy;cases hy
attribute [local irreducible] G GO GP GPW GPK GF GE Ev Ef EfR Ent CB GB V.Enters bX delM
def yw{L:LH}(b:Nat)(S:LedM)(hS:∀f∈S.flows,f.parts.length≤1000000∧f.made.length≤1000000)(a3:S.flows.length≤100000) :
  Tri Tryz.prog 14 #[ax b] (aS b S::L) (fun v L'=>∃ad cap fs,v=ag ad fs.length cap∧fs.map FlV.m=S.flows∧L' = isl dT 11 ad fs::allP flP fs::aS b S::L):=by
 refine Tri.bd ?_;refine G.c8 (f:=jb b S) ?_;intro x;simp only[jb,ledL,bW,al,ak];refine G.d7 ?_;intro hF;have a4:x.flows.length=S.flows.length:=by rw[←hF.flows];simp
 have a2:∀m∈x.flows,m.m.parts.length≤1000000∧m.m.made.length≤1000000:=fun m hm=>by
  have:=hS m.m (by rw[←hF.flows];exact alStd0List_mem_map_of_mem hm)
  omega
 refine Ks ?_;intros;refine GO.ent (Ent.at (A:=asl dT 11 fQ x.fad x.fcap x.flows) (Ent.a8 (Ent.at (A:=allP flP x.flows) (Ent.refl _)))) ?_;refine GO.ca (yK x.fad x.fcap x.flows ab a2) ?_;rintro _ _⟨a0,c',fs,rfl,a1,rfl⟩;refine Ks ?_;intros;refine KX.a8 aA ?_ ⟨a0,c',fs,rfl,a1.trans hF.flows,rfl⟩;refine Ent.freezeSl.trans (Ent.a8 ((Ho fs).trans (Ent.a8 (Ent.trans ?_ (iU x hF)))));simp only[ledL];exact ah
def Ci{L:LH}(b:Nat)(S:LedM)(i:Int):Tri Tryz.prog 15 #[ax b,ac i] (aS b S::L) (rtQ (ac (S.tot i)) (aS b S::L)):=by
 refine Tri.bd ?_;refine G.c8 (f:=jb b S) ?_;intro x;simp only[jb,ledL,bW,al,ak];refine G.d7 ?_;intro hF;have ht:=hF.tot i;refine Ks ?_;intros;refine GO.ev (Ev.f9 rfl rfl) ae ?_;rw[HH,ht];refine Ks ?_;intros;refine KX.a8 aA ?_ ⟨rfl,rfl⟩;exact iU x hF
def DB{L:LH}(ad:OA)(c:Nat)(xs:LL)[Rds L ad Lot aG 3 xs](hx:eQ xs) :
  Tri Tryz.prog 18 #[ag ad xs.length c] L (fun v L'=>∃a1 a0 ys,v=ag a1 (zset ys).length a0∧gV hdC xs ys∧L' = osl aG 3 tLot a1 a0 (zset ys)::L):=by
 refine Tri.bd ?_;refine Ks ?_;intros;refine GO.cr (gF ad xs.length c xs rfl hx.2 hx.1) ?_;refine Ks ?_;intros;refine GO.ca (jf ad xs.length c xs rfl (by have:=hx.2;omega) hx.1) ?_;rintro _ _⟨a3,zc,ys,rfl,a2,rfl⟩;refine Ks ?_;intros;exact KX.en ⟨a3,zc,ys,rfl,a2,rfl⟩
abbrev Dn:=XC [.ev 8]
def WI{φ ψ:Prop}(k:ψ)(h:Hid ψ→φ:=by intro k;(repeat (first|refine aa ?_|intro zzz|refine G.dr 26 6 Dn ?_));(repeat revert zzz);exact Hid.out k):φ:=h ⟨k⟩
def uk{L:LH}(a0 a1:OA)(n1 n2 c1 c2:Nat)(xs ys:List Int)[Rds L a0 Int (encZ .i64) 1 xs][Rds L a1 Int (encZ .i64) 1 ys](h1:n1=xs.length)(h2:n2=ys.length)(hl:xs.length≤9223372036854775807) :
  Tri Tryz.prog 16 #[ag a0 n1 c1,ag a1 n2 c2] L (rtQ (.bool (dB (xs=ys))) L):=by
 subst h1 h2;refine Tri.bd ?_;by_cases he:xs.length=ys.length
 case neg =>
  rw[aW (fun h:xs=ys=>he (by rw[h]))];refine WI ?_;intros;exact KX.en ⟨rfl,rfl⟩
 refine WI ?_;intros;refine G.loop (α:=Nat) (fun i=>i≤xs.length∧xs.take i=ys.take i) (fun i=>[(0,ag a0 xs.length c1),(1,ag a1 ys.length c2),(5,ac (i:Int))]) (fun _=>L) (fun i=>xs.length - i) 0 ⟨aw _,by simp⟩ aC (Ent.refl _) ?_;rintro i ⟨hi,ht⟩;by_cases a2:i<xs.length
 case neg =>
  have e:xs=ys:=by
   rw[aD ab,aD ab] at ht;exact ht
  rw[bE e];refine WI ?_;intros;exact KX.en ⟨rfl,rfl⟩
 have a3:(i:Int).toNat=i:=ab;by_cases e:xs[(i:Int).toNat]! = ys[(i:Int).toNat]!
 ·refine WI ?_;intros;refine⟨i+1,⟨ab,?_⟩,ab,?_,Ent.refl _⟩
  ·rw[a3] at e;rw[az a2,az ab,ht];rw[getElem!_of a2,getElem!_of (ab:i<ys.length)] at e;rw[e]
  ·rw[bh i];exact aC
 ·rw[aW (fun h:xs=ys=>e (by rw[h]))];refine WI ?_;intros;exact KX.en ⟨rfl,rfl⟩
end
section
open Go.V
def usOf(A:List FlM):List Int:=[sgS 0 A,sgS 1 A,sgS 2 A,sgS 3 A]
def Id{A:List FlM}{x:Int}(h:0≤x∧x<4):(usOf A)[x.toNat]! = sgS x A:=by
 rcases (ab:x=0∨x=1∨x=2∨x=3) with rfl|rfl|rfl|rfl<;>rfl
def wL(x:Int)(A:List FlM)(f:FlM):sgS x (A++[f])=sgS x A+sgF x f:=by
 rw[uj];unfold sgS;rw[List.map_singleton,List.sum_singleton]
def Gv{A:List FlM}{f:FlM}(h:0≤f.item∧f.item<4):(usOf A).set f.item.toNat (sgS f.item A+sgK f.kind*f.n)=usOf (A++[f]):=by
 have e:∀x,sgS x (A++[f])=if f.item=x then sgS x A+sgK f.kind*f.n else sgS x A:=fun x=>by
  rw[wL];unfold sgF;split<;>omega
 unfold usOf;rw[e,e,e,e];rcases (ab:f.item=0∨f.item=1∨f.item=2∨f.item=3) with q|q|q|q<;>rw[q]<;>rfl
def Es{A:List FlM}{f:FlM}(h:sgK f.kind=0):usOf (A++[f])=usOf A:=by
 have e:∀x,sgS x (A++[f])=sgS x A:=fun x=>by
  rw[wL];unfold sgF;rw[h];split<;>omega
 unfold usOf;rw[e,e,e,e]
def wO{x:Int}:∀{A:List FlM},(∀f∈A,1≤f.n∧f.n≤1099511627776)→-(1099511627776*(A.length:Int))≤sgS x A∧sgS x A≤1099511627776*(A.length:Int)
 | [],_=>by
  show -(1099511627776*((0:Nat):Int))≤0∧0≤1099511627776*((0:Nat):Int);omega
 | f::A,h=>by
  have ih:=wO (x:=x) fun g hg=>h g (au _ hg);have hf:=h f av;rw[wM,aM]
  have e : -1099511627776≤sgF x f∧sgF x f≤1099511627776:=by
   unfold sgF sgK;split
   ·split
    ·omega
    split<;>omega
   ·omega
  omega
def flW(l:List (NdM×LedM)):List FlM:=l.flatMap fun p=>p.2.flows
def rf:∀l,expL (flW l)=outW l
 | []=>rfl
 | p::l=>by
  show expL (p.2.flows++flW l)=expL p.2.flows++outW l;rw[lB,rf l]
def ra:∀l,cz (flW l)=inW l
 | []=>rfl
 | p::l=>by
  show cz (p.2.flows++flW l)=cz p.2.flows++inW l;rw[jU,ra l]
def Hq{l:List (NdM×LedM)}{k:Nat}(h:k<l.length):flW (l.take (k+1))=flW (l.take k)++l[k].2.flows:=by
 unfold flW;rw[az h,cl,List.flatMap_singleton]
def Hr{l:List (NdM×LedM)}{k:Nat}(h:k<l.length):flW (l.drop k)=l[k].2.flows++flW (l.drop (k+1)):=by
 unfold flW;rw[bV h,aO]
def mixU(j:Nat)(A B:List FlM):List Int:=[if 0<j then sgS 0 B else sgS 0 A,if 1<j then sgS 1 B else sgS 1 A,if 2<j then sgS 2 B else sgS 2 A,if 3<j then sgS 3 B else sgS 3 A]
def II{j:Nat}{A B:List FlM}(h:j<4):(mixU j A B)[j]! = sgS j A:=by
 rcases (ab:j=0∨j=1∨j=2∨j=3) with rfl|rfl|rfl|rfl<;>rfl
def GZ{j:Nat}{A B:List FlM}(h:j<4):(mixU j A B).set j (sgS j B)=mixU (j+1) A B:=by
 rcases (ab:j=0∨j=1∨j=2∨j=3) with rfl|rfl|rfl|rfl<;>rfl
def EE{shs:Int}{sds:List SdV}{i:Nat}(h:i<sds.length){s:SdV}(hs:sds[i]! = s){L:LH}:Ent (ndL s.nb s.lb s.sh shs s.n (aS s.lb s.S::bigO (sdF shs) (sds.eraseIdx i)::L)) (bigO (sdF shs) sds::L):=by
 have q:=sdIn (shs:=shs) h (s:=s) s.n s.S (L:=L)
 have e:sds.set i { s with n:=s.n,S:=s.S }=sds:=by
  subst hs;rw[getElem!_of h];exact List.set_getElem_self h
 rw[e] at q;exact q
attribute [local irreducible] G GO GP GPW GPK GF GE Ev Ef EfR Ent CB GB V.Enters bX delM
abbrev Dm:=XF [.ev 17,.ev 18,.ev 19,.ev 20,.ef 21]
abbrev Dl:=XF [.ev 17,.ev 18,.ev 19,.ev 20,.ef 21]
abbrev Dk:=XF [.ev 17,.ev 18,.ev 19,.ev 20,.ef 21]
abbrev Dj:=XD [.ev 10,.ev 11,.ef 12,.ef 13,.ev 14]
abbrev Di:=XF [.ev 17,.ev 18,.ev 19,.ev 20,.ef 21]
abbrev Dh:=XE [.ev 13,.ef 14,.ev 15,.ev 16,.ef 17]
def WN{φ ψ:Prop}(k:ψ)(h:Hid ψ→φ:=by intro k;(repeat (first|refine aa ?_|intro zzz|refine G.dr 243 24 Dm ?_|refine G.dr 243 26 Dl ?_|refine G.dr 243 28 Dk ?_|refine G.dr 243 29 Dj ?_|refine G.dr 243 31 Di ?_|refine G.dr 243 39 Dh ?_));(repeat revert zzz);exact Hid.out k):φ:=h ⟨k⟩
def pm{L:LH}(ad:OA)(m c:Nat)(xs:List Int)[hrd:Rds L ad Int (encZ .i64) 1 xs](hm:m=xs.length)(j4:m≤9223372036854775807)(hc:m≤c)(hx:∀x∈xs,I64 x)(c6:OA)(m1 c1:Nat)(ys:List Int)[k3:Rds L c6 Int (encZ .i64) 1 ys](j3:m1=ys.length)(d6:m1≤9223372036854775807)(n1:m1≤c1)(hy:∀x∈ys,I64 x)(a2:Int)(hs:I64 a2) :
  Tri Tryz.prog 3 #[ag ad m c,ag c6 m1 c1,ac a2] (cD::L) (rtQ (.bool true) L):=by
 subst hm j3;refine Tri.bd ?_;refine WN ?_;intros;refine GO.ca (mD a2 2 hs ae ae) ?_;rintro _ _⟨p,rfl,⟨o5,p0⟩,rfl⟩;refine WN ?_;intros;obtain⟨n,hn⟩:∃n:Int,2+p=n:=⟨_,rfl⟩;rw[hn];have o3:2≤n∧n≤3:=ab;have b2:1≤n∧n≤12:=ab;refine WN ?_;intros;refine GO.ca (te n b2 ad xs.length c xs rfl hc hx) ?_;rintro _ _⟨wb,W0,rfl,d1,rfl⟩;have h6:=d1.wd b2;have h5:=d1.cv;have h7:ShOk W0:=fun i hi=>(d1.sd i hi).sh;simp only[wdL,wdC];refine WN ?_;intros;refine GO.ca (zv n b2 c6 c1 ys hy d6 20 ae) ?_;rintro _ _⟨a3,a1,os,rfl,⟨o4,ho⟩,rfl⟩;refine WN ?_;intros;refine G.loop (α:=Nat×WdV) (fun g=>g.1≤os.length∧(WdI n g.1 (8+24*g.1) (600000000*g.1) (7*g.1) g.2.m∧CvI n g.2.m)∧ShOk g.2) (fun g=>[(7,ac n),(8,ax wb),(10,ag a3 os.length a1),(11,ac (g.1:Int))]) (fun g=>osl gM 5 tOp a3 a1 os::allP opP os::wdL wb n g.2 (cD::L)) (fun g=>os.length - g.1) (0,W0) ⟨aw _,⟨h6,h5⟩,h7⟩ aC (by simp only[wdL,wdC];exact ah) ?_;rintro⟨i,W⟩ ⟨hi,⟨hI,hC⟩,hS⟩;dsimp only at hi hI hC hS ⊢;by_cases j2:i<os.length
 case neg =>
  refine WN ?_;intros;refine GO.ent (L':=cD::L) (by simp only[wdL,wdC];exact ah) ?_;refine GO.cr (DF) ?_;refine WN ?_;intros;exact KX.a8 aA Ent.drop ⟨rfl,rfl⟩
 have c0:=aV j2;have i4:(i:Int).toNat=i:=ab;have e0:=ho _ c0;refine WN ?_;intros;rw[i4];generalize os[i]! = o at *;have a7:=Hv hI e0 ab ab;have c5:=Kl hI e0 ab ab hC;refine GO.ent (L':=opP o::wdL wb n W (osl gM 5 tOp a3 a1 os::allP opP os::cD::L)) ((Ent.at (A:=allP opP os) (Ent.c9 (f:=opP) c0)).trans (by simp only[wdL,wdC];exact ah)) ?_;refine GO.ca (IZ wb n W o hI e0 hS ab ab ab ab) ?_;obtain⟨D,hD⟩:∃D,doM n o W.m=D:=⟨_,rfl⟩;rw[hD] at a7 c5 ⊢;rintro _ _⟨W',rfl,⟨g3,g6⟩,rfl⟩;rw[←g3] at a7 c5;have f0:=g6.sh hS;clear hI hC hS g3 g6 hD;simp only[wdL,wdC];refine WN ?_;intros;rename_i bu
 have i9:(W'.sds.length:Int)=n:=by
  have q:=a7.len;simp only[WdV.m,an] at q;exact q
 have g4:W'.m.nds.length=W'.sds.length:=an _;have i0:8+24*i+24≤488:=ab
 have h3:W'.sds.length≤3:=ab
 have a0:=JQ a7 c5 (by rw[g4];exact aP (Nat.mul_le_mul h3 i0) ae)
 obtain⟨P,hP⟩:∃P,W'.m.nds=P:=⟨_,rfl⟩;rw[hP] at a0 g4
 have b6:∀k (hk:k<P.length),P[k].2=W'.sds[k]!.S:=fun k hk=>by
  have e:W'.m.nds[k]! = W'.sds[k]!.m:=gw (f:=SdV.m) ab;rw[hP,getElem!_of hk] at e;rw[e];rfl
 refine G.loop (α:=Nat×(OA×Nat)×(OA×Nat)) (fun g=>(g.1:Int)≤n) (fun g=>[(7,ac n),(8,ax wb),(10,ag a3 os.length a1),(11,ac (i:Int)),(12,ag g.2.1.1 (expL (flW (P.take g.1))).length g.2.1.2),(13,ag g.2.2.1 (cz (flW (P.take g.1))).length g.2.2.2),(14,ag (some ⟨bu,0,none⟩) 4 4),(15,ac (g.1:Int))]) (fun g=>osl aG 3 tLot g.2.1.1 g.2.1.2 (expL (flW (P.take g.1)))::osl aG 3 tLot g.2.2.1 g.2.2.2 (cz (flW (P.take g.1)))::osl (encZ .i64) 1 tInt (some ⟨bu,0,none⟩) 4 (usOf (flW (P.take g.1)))::osl gM 5 tOp a3 a1 os::allP opP os::wdL wb n W' (cD::L)) (fun g=>n.toNat - g.1) (0,(none,0),(none,0)) kg aC ?_ ?_
 ·dsimp only;rw[aR];refine(Ent.at (A:=obj bu tInt [ac 0,ac 0,ac 0,ac 0]) (Ent.f7 (enc:=encZ .i64) (sz:=1) (xs:=usOf []) (n:=4) rfl rfl (fun _ _=>rfl) ae)).trans ?_;refine(Ent.c8 aG 3 tLot).trans ((Ent.c8 aG 3 tLot).trans ?_);show Ent _ (osl aG 3 tLot none 0 []::osl aG 3 tLot none 0 []::osl (encZ .i64) 1 tInt (some ⟨bu,0,none⟩) 4 (usOf [])::_);simp only[wdL,wdC];exact ah
 rintro⟨k,⟨xad,xcap⟩,⟨iad,icap⟩⟩ hk;dsimp only at hk ⊢;by_cases o2:(k:Int)<n
 case neg =>
  have i8:P.take k=P:=aD ab;rw[i8];refine WN ?_;intros;refine G.loop (α:=Nat) (fun k=>(k:Int)≤n) (fun k=>[(7,ac n),(8,ax wb),(10,ag a3 os.length a1),(11,ac (i:Int)),(12,ag xad (expL (flW P)).length xcap),(13,ag iad (cz (flW P)).length icap),(14,ag (some ⟨bu,0,none⟩) 4 4),(18,ac (k:Int))]) (fun k=>osl aG 3 tLot xad xcap (expL (flW P))::osl aG 3 tLot iad icap (cz (flW P))::osl (encZ .i64) 1 tInt (some ⟨bu,0,none⟩) 4 (usOf (flW (P.drop k)))::osl gM 5 tOp a3 a1 os::allP opP os::wdL wb n W' (cD::L)) (fun k=>n.toNat - k) 0 ab aC (by rw[List.drop_zero];exact ah) ?_;rintro k2 o1;by_cases i6:(k2:Int)<n
  case neg =>
   have i1:P.drop k2=[]:=bQ ab;rw[i1];refine WN ?_;intros;rename_i b9;refine GO.ent (Ent.at (A:=obj b9 tInt [ac 0,ac 0,ac 0,ac 0]) (Ent.f7 (enc:=encZ .i64) (sz:=1) (xs:=[0,0,0,0]) (n:=4) rfl rfl (fun _ _=>rfl) ae)) ?_;refine GO.ca (uk (some ⟨bu,0,none⟩) (some ⟨b9,0,none⟩) 4 4 4 4 (usOf (flW [])) [0,0,0,0] rfl rfl (by show 4≤9223372036854775807;decide)) ?_;rw[bE (show usOf (flW [])=[0,0,0,0] from rfl)];rintro _ _⟨rfl,rfl⟩;refine WN ?_;intros;have c2:eQ (cz (flW P)):=by rw[ra];exact a0.vi
   have f3:Apart (cz (flW P)):=by rw[ra];exact a0.ai
   have l4:eQ (expL (flW P)):=by rw[rf];exact a0.vo
   have h9:Apart (expL (flW P)):=by rw[rf];exact a0.ao
   have m0:ic (cz (flW P)) (expL (flW P)):=by rw[ra,rf];exact a0.wi
   generalize cz (flW P)=ins at *;generalize expL (flW P)=outs at *;refine GO.ca (DB iad icap ins c2) ?_;rintro _ _⟨n0,e3,zs,rfl,m3,rfl⟩;obtain⟨z1,z2,z3,_⟩:=kr m3 c2.1;have m2:=c2.2;have m4:=z3.2 f3;refine WN ?_;intros;refine GO.ca (jy n0 (zset zs).length e3 (zset zs) rfl ab z1.ok) ?_;rw[m4];rintro _ _⟨rfl,rfl⟩;refine WN ?_;intros;refine GO.cr (jy iad ins.length icap ins rfl m2 c2.1) ?_;refine WN ?_;intros;refine GO.ent ((Ent.at (A:=osl aG 3 tLot xad xcap outs) Ent.freezeSl).trans (Ent.at (A:=osl aG 3 tLot iad icap ins) Ent.freezeSl)) ?_;refine GO.ca (qm iad icap ins xad xcap outs c2 f3 l4 h9) ?_;rw[bE m0];rintro _ _⟨rfl,rfl⟩;refine WN ?_;intros;refine⟨(i+1,W'),⟨by dsimp only;omega,⟨a7.mono (aq _) kg kg kg,c5⟩,f0⟩,by dsimp only;omega,?_,?_⟩
   ·dsimp only;rw[bh i];exact aC
   ·dsimp only;exact ah
  have b1:k2<W'.sds.length:=ab;have b0:k2<P.length:=ab;obtain⟨s,a6⟩:∃s,W'.sds[k2]! = s:=⟨_,rfl⟩;have b3:P[k2].2=s.S:=by rw[b6 k2 b0,a6]
  have g7:=a0.tot _ (bR b0);rw[b3] at g7;have i7:(k2:Int)<(W'.sds.length:Int):=ab;have j1:(W'.sds.map (·.lb)).length=W'.sds.length:=an _
  have d4:(W'.sds.map (·.lb))[(k2:Int).toNat]! = s.lb:=by
   rw[←a6,show(k2:Int).toNat=k2 by omega];exact gw (f:=fun s:SdV=>s.lb) b1
  have a5:∀M:LH,Ent (ndL s.nb s.lb s.sh n s.n (aS s.lb s.S::bigO (sdF n) (W'.sds.eraseIdx k2)::M)) (bigO (sdF n) W'.sds::M):=fun M=>EE b1 a6
  have f2:∀f∈flW (P.drop (k2+1)),1≤f.n∧f.n≤1099511627776:=fun f hf=>by
   obtain⟨q,hq,hf⟩:=List.mem_flatMap.1 hf;exact a0.fn q (cG hq) f hf
  have h8:(flW (P.drop (k2+1))).length≤2000:=by
   have q:(flW (P.drop (k2+1))).length≤(P.drop (k2+1)).length*488:=lz fun q hq=>by
    obtain⟨a,ha,e⟩:=List.mem_iff_getElem.1 (cG hq);have r:=(a7.nd a (by rw[hP];exact ha)).bd;rw[hP,getElem!_of ha,e] at r;have:=a0.fk q (cG hq)
    omega
   rw[bY] at q;have:(P.length - (k2+1))*488≤2*488:=bj 488 ab
   omega
  have f1:=fun x=>show sgS x (flW (P.drop k2))=s.S.tot x+sgS x (flW (P.drop (k2+1))) by rw[Hr b0,uj,b3,g7]
  obtain⟨Y,hY⟩:∃Y,flW (P.drop (k2+1))=Y:=⟨_,rfl⟩;obtain⟨X,hX⟩:∃X,flW (P.drop k2)=X:=⟨_,rfl⟩;rw[hY] at f2 h8;rw[hY,hX] at f1;rw[hX];refine WN ?_;intros;refine G.loop (α:=Nat) (fun j=>j≤4) (fun j=>[(7,ac n),(8,ax wb),(10,ag a3 os.length a1),(11,ac (i:Int)),(12,ag xad (expL (flW P)).length xcap),(13,ag iad (cz (flW P)).length icap),(14,ag (some ⟨bu,0,none⟩) 4 4),(18,ac (k2:Int)),(19,ac (j:Int))]) (fun j=>osl aG 3 tLot xad xcap (expL (flW P))::osl aG 3 tLot iad icap (cz (flW P))::osl (encZ .i64) 1 tInt (some ⟨bu,0,none⟩) 4 (mixU j X Y)::osl gM 5 tOp a3 a1 os::allP opP os::wdL wb n W' (cD::L)) (fun j=>4 - j) 0 (aw _) aC (Ent.refl _) ?_;rintro j hj;by_cases g0:j<4
  case neg =>
   have e4:j=4:=ab;subst e4;refine WN ?_;intros;refine⟨k2+1,ab,ab,?_,?_⟩
   ·rw[bh k2];exact aC
   ·rw[hY];exact Ent.refl _
  have j4:(mixU j X Y).length=4:=rfl;have b4:(j:Int).toNat=j:=ab;have n6:(j:Int)<4:=ab;have p2:=wO (x:=(j:Int)) f2
  have hv:(mixU j X Y)[(j:Int).toNat]! - s.S.tot (j:Int)=sgS (j:Int) Y:=by
   rw[b4,II g0,f1];omega
  simp only[wdL,wdC];refine WN ?_;intros;refine GPW.ent (Ent.at (A:=bigO (sdF n) W'.sds) (nq b1 a6)) ?_;rw[d4];simp only[ndL,ndC];refine GPW.ent (Ent.at (A:=aS s.lb s.S) (Ent.refl _)) ?_;refine GPW.cr (Ci s.lb s.S (j:Int)) ?_;refine WN ?_;intros;rw[hv];refine⟨j+1,ab,ab,?_,?_⟩
  ·rw[bh j];exact aC
  ·rw[←GZ g0,b4];refine Ent.trans (B:=ndL s.nb s.lb s.sh n s.n (aS s.lb s.S::bigO (sdF n) (W'.sds.eraseIdx k2)::(osl aG 3 tLot xad xcap (expL (flW P))::osl aG 3 tLot iad icap (cz (flW P))::osl (encZ .i64) 1 tInt (some ⟨bu,0,none⟩) 4 ((mixU j X Y).set j (sgS (j:Int) Y))::osl gM 5 tOp a3 a1 os::allP opP os::obj wb tWd [ag W'.lad W'.sds.length W'.lcap,ag W'.nad W'.sds.length W'.ncap,ag W'.mad W'.msl.length W'.mcap,ac W'.tick,ag W'.iad W'.ids.length W'.icap]::isl dz 1 W'.lad (W'.sds.map (·.lb))::isl dz 1 W'.nad (W'.sds.map (·.nb))::tsl bC 3 tMs W'.mad W'.mcap W'.msl::allP msP W'.msl::osl (encZ .i64) 1 tInt W'.iad W'.icap W'.ids::cD::L))) (by simp only[ndL,ndC];exact ah) ?_;refine(a5 _).trans ?_;exact ah
 have b1:k<W'.sds.length:=ab;have b0:k<P.length:=ab;obtain⟨s,a6⟩:∃s,W'.sds[k]! = s:=⟨_,rfl⟩;have p1:s.sh=(k:Int):=by have q:=f0 k b1;rw[a6] at q;exact q
 have b3:P[k].2=s.S:=by rw[b6 k b0,a6]
 have d0:=a7.nd k (by rw[hP];exact b0);rw[hP,getElem!_of b0] at d0;have b5:=d0.a.hin.led;have h4:=d0.bd;rw[b3] at b5 h4;have d5:P[k]∈P:=bR b0;have i2:=a0.fk _ d5;have f6:=a0.item _ d5;have d3:=a0.fn _ d5;rw[b3] at i2 f6 d3;have i7:(k:Int)<(W'.sds.length:Int):=ab;have j1:(W'.sds.map (·.lb)).length=W'.sds.length:=an _
 have d4:(W'.sds.map (·.lb))[(k:Int).toNat]! = s.lb:=by
  rw[←a6,show(k:Int).toNat=k by omega];exact gw (f:=fun s:SdV=>s.lb) b1
 simp only[wdL,wdC];refine WN ?_;intros;rw[d4];refine GO.ent (Ent.at (A:=bigO (sdF n) W'.sds) (nq b1 a6)) ?_;simp only[ndL,ndC];refine GO.ent (Ent.at (A:=aS s.lb s.S) (Ent.refl _)) ?_;refine GO.ca (yw s.lb s.S (fun f hf=>⟨by have:=(b5.a.g.fl f hf).2;omega,by have:=b5.rep.made f hf;omega⟩) ab) ?_;rintro _ _⟨fad,fcap,fs,rfl,f5,rfl⟩;have n2:fs.length=s.S.flows.length:=by rw[←f5,an]
 refine WN ?_;intros;have a5:∀M:LH,Ent (ndL s.nb s.lb s.sh n s.n (aS s.lb s.S::bigO (sdF n) (W'.sds.eraseIdx k)::M)) (bigO (sdF n) W'.sds::M):=fun M=>EE b1 a6;refine G.loop (α:=Nat×(OA×Nat)×(OA×Nat)) (fun g=>g.1≤fs.length) (fun g=>[(7,ac n),(8,ax wb),(10,ag a3 os.length a1),(11,ac (i:Int)),(12,ag g.2.1.1 (expL (flW (P.take k)++s.S.flows.take g.1)).length g.2.1.2),(13,ag g.2.2.1 (cz (flW (P.take k)++s.S.flows.take g.1)).length g.2.2.2),(14,ag (some ⟨bu,0,none⟩) 4 4),(15,ac (k:Int)),(16,ag fad fs.length fcap),(17,ac (g.1:Int))]) (fun g=>osl aG 3 tLot g.2.1.1 g.2.1.2 (expL (flW (P.take k)++s.S.flows.take g.1))::osl aG 3 tLot g.2.2.1 g.2.2.2 (cz (flW (P.take k)++s.S.flows.take g.1))::osl (encZ .i64) 1 tInt (some ⟨bu,0,none⟩) 4 (usOf (flW (P.take k)++s.S.flows.take g.1))::isl dT 11 fad fs::allP flP fs::osl gM 5 tOp a3 a1 os::allP opP os::wdL wb n W' (cD::L)) (fun g=>fs.length - g.1) (0,(xad,xcap),(iad,icap)) (aw _) (by dsimp only;rw[aR,aH];exact aC) ?_ ?_
 ·dsimp only;rw[aR,aH];refine Ent.trans (B:=ndL s.nb s.lb s.sh n s.n (aS s.lb s.S::bigO (sdF n) (W'.sds.eraseIdx k)::(osl aG 3 tLot xad xcap (expL (flW (P.take k)))::osl aG 3 tLot iad icap (cz (flW (P.take k)))::osl (encZ .i64) 1 tInt (some ⟨bu,0,none⟩) 4 (usOf (flW (P.take k)))::isl dT 11 fad fs::allP flP fs::osl gM 5 tOp a3 a1 os::allP opP os::obj wb tWd [ag W'.lad W'.sds.length W'.lcap,ag W'.nad W'.sds.length W'.ncap,ag W'.mad W'.msl.length W'.mcap,ac W'.tick,ag W'.iad W'.ids.length W'.icap]::isl dz 1 W'.lad (W'.sds.map (·.lb))::isl dz 1 W'.nad (W'.sds.map (·.nb))::tsl bC 3 tMs W'.mad W'.mcap W'.msl::allP msP W'.msl::osl (encZ .i64) 1 tInt W'.iad W'.icap W'.ids::cD::L))) (by simp only[ndL,ndC];exact ah) ?_;refine(a5 _).trans ?_;simp only[wdL,wdC];exact ah
 rintro⟨j,⟨xad,xcap⟩,⟨iad,icap⟩⟩ hj;dsimp only at hj ⊢;by_cases g2:j<fs.length
 case neg =>
  have i5:s.S.flows.take j=s.S.flows:=aD ab;rw[i5,←b3,←Hq b0];refine WN ?_;intros;refine⟨(k+1,(xad,xcap),(iad,icap)),by dsimp only;omega,by dsimp only;omega,?_,by exact ah⟩;dsimp only;rw[bh k];exact aC
 have b4:(j:Int).toNat=j:=ab;have b8:j<s.S.flows.length:=ab
 have d2:fs[j]!.m=s.S.flows[j]:=by
  have e:(fs.map FlV.m)[j]! = fs[j]!.m:=gw g2;rw[←e,f5,getElem!_of b8]
 have f4:fs[j]!∈fs:=aV g2;have l1:s.S.flows.take (j+1)=s.S.flows.take j++[fs[j]!.m]:=by rw[az b8,d2]
 have a9:=f6 _ (bR b8);have b7:=d3 _ (bR b8);rw[←d2] at a9 b7;obtain⟨A,hA⟩:∃A,flW (P.take k)++s.S.flows.take j=A:=⟨_,rfl⟩;have a4:flW (P.take k)++s.S.flows.take (j+1)=A++[fs[j]!.m]:=by rw[l1,←aB,hA]
 rw[hA];have n3:¬fs[(j:Int).toNat]!.m.item<0:=by rw[b4];omega
 have n4:¬fs[(j:Int).toNat]!.m.item>3:=by rw[b4];omega
 have h1:∀f∈A,1≤f.n∧f.n≤1099511627776:=fun f hf=>by
  rw[←hA] at hf;rcases List.mem_append.1 hf with hf|hf
  ·obtain⟨q,hq,hf⟩:=List.mem_flatMap.1 hf;exact a0.fn q (bF hq) f hf
  ·exact d3 f (bF hf)
 have e5:A.length≤2000:=by
  have q:(flW (P.take k)).length≤(P.take k).length*488:=lz fun q hq=>by
   obtain⟨a,ha,e⟩:=List.mem_iff_getElem.1 (bF hq);have r:=(a7.nd a (by rw[hP];exact ha)).bd;rw[hP,getElem!_of ha,e] at r;have:=a0.fk q (bF hq)
   omega
  rw[←hA,aj,aK];rw[aK] at q;have:min k P.length*488≤2*488:=bj 488 ab;omega
 have g1:fs[j]! = fs[(j:Int).toNat]!:=by rw[b4]
 rw[g1] at a4 a9 b7 f4;have l3:(usOf A).length=4:=rfl;have l2:=wO (x:=fs[(j:Int).toNat]!.m.item) h1;have h0:(usOf A)[fs[(j:Int).toNat]!.m.item.toNat]! = sgS fs[(j:Int).toNat]!.m.item A:=Id a9;rw[←h0] at l2;have i3:fs[(j:Int).toNat]!.m.item.toNat<(usOf A).length:=by rw[l3];omega
 have hE:¬fs[(j:Int).toNat]!.m.kind=6→expL (A++[fs[(j:Int).toNat]!.m])=expL A:=fun q=>by rw[lB,yB (F:=[fs[(j:Int).toNat]!.m]) (fun g hg=>by rw[List.mem_singleton.1 hg];exact q),aH]
 have hM:¬fs[(j:Int).toNat]!.m.kind=5→cz (A++[fs[(j:Int).toNat]!.m])=cz A:=fun q=>by rw[jU,se (F:=[fs[(j:Int).toNat]!.m]) (fun g hg=>by rw[List.mem_singleton.1 hg];exact q),aH]
 have hU:(usOf A).set fs[(j:Int).toNat]!.m.item.toNat ((usOf A)[fs[(j:Int).toNat]!.m.item.toNat]! + sgK fs[(j:Int).toNat]!.m.kind*fs[(j:Int).toNat]!.m.n)=usOf (A++[fs[(j:Int).toNat]!.m]):=by rw[h0];exact Gv a9
 have h2:∀f∈A,f.parts.length≤2047:=fun f hf=>by
  rw[←hA] at hf;rcases List.mem_append.1 hf with hf|hf
  ·obtain⟨q,hq,hf⟩:=List.mem_flatMap.1 hf;obtain⟨a,ha,e⟩:=List.mem_iff_getElem.1 (bF hq);have r:=(a7.nd a (by rw[hP];exact ha)).a.hin.led.a.g.fl;rw[hP,getElem!_of ha,e] at r;exact(r f hf).2
  ·exact(b5.a.g.fl f (bF hf)).2
 have e7:(expL A).length≤2000:=by
  unfold expL;rw[an];exact aP (dv _ _) e5
 have g5:fs[(j:Int).toNat]!.m.parts.length≤2047:=by rw[←g1,d2];exact(b5.a.g.fl _ (bR b8)).2
 have e9:(cz A).length≤10000000:=by
  have q:(cz A).length≤A.length*2047:=by
   unfold cz;refine aP (lz (b:=2047) fun g hg=>h2 g (List.mem_filter.1 hg).1) (bj 2047 (dv _ _))
  have:A.length*2047≤2000*2047:=bj 2047 e5;omega
 refine WN ?_;intros;by_cases k0:fs[(j:Int).toNat]!.m.kind=0
 ·refine WN ?_;intros;refine⟨(j+1,(xad,xcap),(iad,icap)),by dsimp only;omega,by dsimp only;omega,?_,?_⟩
  ·dsimp only;rw[a4,hE ab,hM ab,bh j];exact aC
  ·dsimp only;rw[a4,hE ab,hM ab,←hU,k0,show(usOf A)[fs[(j:Int).toNat]!.m.item.toNat]! + sgK 0*fs[(j:Int).toNat]!.m.n=(usOf A)[fs[(j:Int).toNat]!.m.item.toNat]! + fs[(j:Int).toNat]!.m.n from congrArg _ (Int.one_mul _)];exact ah
 by_cases k1:fs[(j:Int).toNat]!.m.kind=1
 ·refine WN ?_;intros;refine⟨(j+1,(xad,xcap),(iad,icap)),by dsimp only;omega,by dsimp only;omega,?_,?_⟩
  ·dsimp only;rw[a4,hE ab,hM ab,bh j];exact aC
  ·dsimp only;rw[a4,hE ab,hM ab,←hU,k1,show(usOf A)[fs[(j:Int).toNat]!.m.item.toNat]! + sgK 1*fs[(j:Int).toNat]!.m.n=(usOf A)[fs[(j:Int).toNat]!.m.item.toNat]! - fs[(j:Int).toNat]!.m.n from by rw[show sgK 1 = -1 from rfl];omega];exact ah
 by_cases k6:fs[(j:Int).toNat]!.m.kind=6
 ·refine WN ?_;intros;refine GPW.ef (Ef.a8 (enc:=aG) (e:=(fs[(j:Int).toNat]!.m.id,0,fs[(j:Int).toNat]!.m.n)) rfl rfl rfl rfl rfl aQ (eV _) (by have:=e7;omega) (by have:=e7;omega)) ae ?_;rintro _ _⟨e2,c4,rfl,rfl⟩
  have e6:expL (A++[fs[(j:Int).toNat]!.m])=expL A++[(fs[(j:Int).toNat]!.m.id,0,fs[(j:Int).toNat]!.m.n)]:=by
   rw[lB];congr 1;unfold expL;rw[cB (by rw[k6];rfl)];rfl
  refine WN ?_;intros;refine⟨(j+1,(e2,c4),(iad,icap)),by dsimp only;omega,by dsimp only;omega,?_,?_⟩
  ·dsimp only;rw[a4,e6,hM ab,bh j];exact aC
  ·dsimp only;rw[a4,e6,hM ab,←hU,k6,show(usOf A)[fs[(j:Int).toNat]!.m.item.toNat]! + sgK 6*fs[(j:Int).toNat]!.m.n=(usOf A)[fs[(j:Int).toNat]!.m.item.toNat]! - fs[(j:Int).toNat]!.m.n from by rw[show sgK 6 = -1 from rfl];omega];exact ah
 by_cases k5:fs[(j:Int).toNat]!.m.kind=5
 ·refine WN ?_;intros;refine GO.ent (Ent.at (A:=allP flP fs) ((Ent.c9 (f:=flP) f4).trans yz)) ?_;refine GO.ef (Ef.d7 (ys:=fs[(j:Int).toNat]!.m.parts) rfl rfl rfl rfl rfl (fun e _=>eV e) (by have:=e9;have:=g5;omega) (by have:=e9;have:=g5;omega)) ae ?_;rintro _ _⟨e1,c3,rfl,rfl⟩
  have e8:cz (A++[fs[(j:Int).toNat]!.m])=cz A++fs[(j:Int).toNat]!.m.parts:=by
   rw[jU];congr 1;unfold cz;rw[cB (by rw[k5];rfl),List.filter_nil,List.flatMap_singleton]
  refine WN ?_;intros;refine⟨(j+1,(xad,xcap),(e1,c3)),by dsimp only;omega,by dsimp only;omega,?_,?_⟩
  ·dsimp only;rw[a4,hE ab,e8,bh j];exact aC
  ·dsimp only;rw[a4,hE ab,e8,←hU,k5,show(usOf A)[fs[(j:Int).toNat]!.m.item.toNat]! + sgK 5*fs[(j:Int).toNat]!.m.n=(usOf A)[fs[(j:Int).toNat]!.m.item.toNat]! + fs[(j:Int).toNat]!.m.n from congrArg _ (Int.one_mul _)];exact ah
 have k4:sgK fs[(j:Int).toNat]!.m.kind=0:=by unfold sgK;rw[if_neg ab,if_neg ab]
 refine WN ?_;intros;refine⟨(j+1,(xad,xcap),(iad,icap)),by dsimp only;omega,by dsimp only;omega,?_,?_⟩
 ·dsimp only;rw[a4,hE ab,hM ab,bh j];exact aC
 ·dsimp only;rw[a4,hE ab,hM ab,Es k4];exact ah
