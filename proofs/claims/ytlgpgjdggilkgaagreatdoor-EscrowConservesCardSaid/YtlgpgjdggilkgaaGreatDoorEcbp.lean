/- Lemmas. -/
import Derived.Test.YtlgpgjdggilkgaaGreatDoorEcbo
set_option linter.all false
set_option maxHeartbeats 8000000
namespace Go.Proofs.YtlgpgjdggilkgaaGreatDoor
section
open Go.V
def spS(to x n:Int)(mad:OA):StV:=estp 0 0 [⟨⟨0,to,x,n,[]⟩,none,0⟩] mad 1
structure SpOk (to x n:Int):Prop where
 to:1≤to∧to≤3
 item:0≤x∧x<4
 n:1≤n∧n<40
def wE(to x n:Int)(mad:OA):StInG (spS to x n mad)∧(spS to x n mad).moves.length≤(spS to x n mad).mcap:=by
 obtain⟨h1,h2,h3⟩:=rx (ms:=(spS to x n mad).moves) (fun m hm=>by rw[List.mem_singleton.1 hm]);exact⟨⟨by show 1≤1000000;decide,by show I64 (-1);unfold I64;decide,h1,h2,h3⟩,aq _⟩
def td{k:Int}(h:¬(k=5∨k=7∨k=9)):iJ k=false:=by unfold iJ;exact aW h
def Im{to x n now:Int}(h:SpOk to x n)(hn:now≤0)(mad:OA):gY cat22 now (spS to x n mad).m:=by
 obtain⟨⟨h1,h2⟩,⟨h3,h4⟩,h5,h6⟩:=h;refine⟨⟨by show(0:Int)≤0;decide,by show(0:Int)≤10;decide⟩,⟨by show(0:Int)≤0;decide,by show(0:Int)≤1073741824;decide⟩,⟨by show now≤0;exact hn,by show(0:Int)≤1099511627776;decide⟩,⟨by show 1≤1;decide,by show 1≤64;decide⟩,fun m hm=>?_,?_⟩
 ·rw[List.mem_singleton.1 hm];refine⟨?_,?_⟩
  ·unfold rh;dsimp only[spS,estp,MvV.m];have e:cat22.items.length=4:=rfl;rw[e];omega
  ·rw[show iJ (spS to x n mad).m.kind=false from td (by show ¬((0:Int)=5∨(0:Int)=7∨(0:Int)=9);decide),if_neg ae];rfl
 ·unfold pJ;have k4:¬(spS to x n mad).m.kind=4:=fun q=>absurd (show(0:Int)=4 from q) ae;have a0:¬(spS to x n mad).m.kind=10:=fun q=>absurd (show(0:Int)=10 from q) ae;rw[if_neg k4,if_neg a0];refine⟨fun m hm=>?_,rfl,rfl⟩;rw[List.mem_singleton.1 hm];unfold jk;rw[if_pos (.inl rfl)]
def Kb{k:Nat}{S:LedM}{to x n:Int}(hS:LedA k S)(hk:k≤2000)(hc:S.cat=cat22)(hs:S.steps.length<65536)(hn:S.now≤0)(h:SpOk to x n)(ht:S.tot x+n≤1099511627776)(mad:OA) :
  (gTry S (spS to x n mad).m).1=0∧(ce S (spS to x n mad).m).tot=upd S.tot x (S.tot x+n)∧(ce S (spS to x n mad).m).now=0:=by
 have hp:gY S.cat S.now (spS to x n mad).m:=by rw[hc];exact Im h hn mad
 have a2:¬to=0:=by have:=h.to;omega
 have a0:¬4096≤(S.stk to x).length:=by have:=(hS.g.stk to x).len;omega
 have hm:∀(fl:List FlM) (mix:Int→Bool) (s:StM),s.kind=0→(db S.shard fl mix s (wk0 S) ⟨0,to,x,n,[]⟩).1=0∧(db S.shard fl mix s (wk0 S) ⟨0,to,x,n,[]⟩).2.tot=upd S.tot x (S.tot x+n):=fun fl mix s a1=>by
  have e1:gErr S.shard (fl++(wk0 S).flows) s (wk0 S) ⟨0,to,x,n,[]⟩=0:=by
   unfold gErr;rw[if_pos rfl,if_neg (by rw[a1];decide),if_neg (by rw[a1];decide)]
  have e2:ew (wk0 S) ⟨0,to,x,n,[]⟩=S.tot x+n:=by
   unfold ew;rw[if_pos rfl,if_neg a2];show S.tot x+n - 0=_;omega
  have e3:gStk mix (wk0 S) ⟨0,to,x,n,[]⟩=S.stk:=by
   unfold gStk;rw[if_pos rfl];rfl
  unfold db;rw[if_neg (by rw[e1];exact fun q=>q rfl),e2,if_neg ab,if_neg a2,e3,if_neg a0];exact⟨rfl,rfl⟩
 have hg:gTry S (spS to x n mad).m=(0,(db S.shard S.flows (fJ S.cat) ((spS to x n mad).m.at (cV S)) (wk0 S) ⟨0,to,x,n,[]⟩).2):=by
  unfold gTry;rw[if_neg ab,if_neg (not_not_intro hp)];show dP _ _ _ _ _ [⟨0,to,x,n,[]⟩]=_;unfold dP;rw[if_pos (hm _ _ _ rfl).1];rfl
 have h0:(gTry S (spS to x n mad).m).1=0:=by rw[hg]
 have hq:ce S (spS to x n mad).m=fV S (spS to x n mad).m:=if_pos h0;refine⟨h0,?_,?_⟩
 ·rw[hq];show(gTry S (spS to x n mad).m).2.tot=_;rw[hg];exact(hm _ _ _ rfl).2
 ·rw[hq];unfold LedM.now fV;dsimp only;rw[List.getLast?_append];rfl
structure SpI (sh:Int) (i:Nat) (S:LedM):Prop where
 led:LdI sh cat22 (kOf S) S
 k:kOf S≤i
 now:S.now=0
 tot:∀x,S.tot x≤40*(i:Int)
 st:S.steps.length≤i
 run:∃ss:List StM,(∀s∈ss,s.kind=0)∧S=ss.foldl ce (led0 sh cat22)
def SpI.mono{sh:Int}{i j:Nat}{S:LedM}(h:SpI sh i S)(a0:i≤j):SpI sh j S:=⟨h.led,aP h.k a0,h.now,fun x=>by have:=h.tot x;omega,aP h.st a0,h.run⟩
def SpI.post{sh:Int}{i:Nat}{S:LedM}(h:SpI sh i S)(hi:i≤1000){to x n:Int}(hp:SpOk to x n)(mad:OA):(gTry S (spS to x n mad).m).1=0∧SpI sh (i+1) (ce S (spS to x n mad).m):=by
 have hx:=h.tot x;have hn:=hp.n;have hk:=h.k;have a1:=h.st;obtain⟨h1,h2,h3⟩:=Kb h.led.a ab h.led.cat ab (by rw[h.now];exact bq 0) hp ab mad;have a0:mvK (spS to x n mad).m.moves=1:=rfl;have hL:=LdJ.post h.led (spS to x n mad).m (by rw[a0];omega);refine⟨h1,hL,?_,h3,fun y=>?_,?_,?_⟩
 ·rw[kz,if_pos h1,a0];omega
 ·rw[h2];unfold upd;have hy:=h.tot y;split<;>omega
 ·rw[show ce S (spS to x n mad).m=fV S (spS to x n mad).m from if_pos h1];show(S.steps++[_]).length≤_;rw[aj,aI];omega
 ·obtain⟨ss,q1,q2⟩:=h.run;refine⟨ss++[(spS to x n mad).m],fun s hs=>?_,by rw[cF,←q2];rfl⟩;rcases List.mem_append.1 hs with hs|hs
  ·exact q1 s hs
  ·rw[List.mem_singleton.1 hs];rfl
def SpI.zero{sh:Int}(h:0≤sh∧sh<12):SpI sh 0 (led0 sh cat22) :=
 ⟨⟨.zero,Fl h cat22,bq 0,rfl,⟨fun r hr=>absurd hr ay,fun r hr=>absurd hr ay,fun r hr=>absurd hr ay⟩,rfl⟩,aq _,rfl,fun _=>bq 0,aq _,[],fun s hs=>absurd hs ay,rfl⟩
attribute [local irreducible] G GO GP GPW GPK GF GE Ev Ef EfR Ent CB GB V.Enters bX delM
def GN{L:LH}(ad:OA)(c:Nat)(i k:Int) :
  Tri Tryz.prog 67 #[ag ad 0 c,ac i,ac k] L (rtQ (ac 0) L):=by
 refine Tri.bd ?_;by_cases h0:0≤i
 ·have h1:¬i<((0:Nat):Int):=ab;refine Ks ?_;intros;exact KX.en ⟨rfl,rfl⟩
 ·refine Ks ?_;intros;exact KX.en ⟨rfl,rfl⟩
def wD{L:LH}(ad:OA)(m c:Nat)(l:List Int)[hrd:Rds L ad Int (encZ .i64) 1 l](hm:m=l.length)(hx:∀x∈l,I64 x) :
  Tri Tryz.prog 48 #[ag ad m c] L (fun v L'=>∃a7 a2 ss,v=ag a7 ss.length a2∧((ss.length≤8∧(l=[]→ss=[]))∧∀s∈ss,∃to x n mad,s=spS to x n mad∧SpOk to x n)∧L' = osl dQ 7 ik a7 a2 ss::allP iO ss::L):=by
 subst hm;refine Tri.bd ?_;refine Ks ?_;intros;refine G.loop (α:=Nat×OA×Nat×List StV) (fun g=>(g.1≤8∧g.2.2.2.length≤g.1∧(l=[]→g.2.2.2=[]))∧∀s∈g.2.2.2,∃to x n mad,s=spS to x n mad∧SpOk to x n) (fun g=>[(0,ag ad l.length c),(3,ag g.2.1 g.2.2.2.length g.2.2.1),(4,ac (g.1:Int))]) (fun g=>osl dQ 7 ik g.2.1 g.2.2.1 g.2.2.2::allP iO g.2.2.2::L) (fun g=>8 - g.1) (0,none,0,[]) ⟨⟨aw _,aw _,fun _=>rfl⟩,fun s h=>absurd h ay⟩ aC ?_ ?_
 ·dsimp only;refine(Ent.c7 iO).trans ((Ent.c8 dQ 7 ik).trans ?_);exact ah
 rintro⟨i,a6,a1,zs⟩ ⟨⟨hi,b2,a5⟩,hz⟩;dsimp only at hi b2 a5 hz ⊢;by_cases b3:i<8
 case neg =>
  refine Ks ?_;intros;exact KX.a8 aA (Ent.refl _) ⟨a6,a1,zs,rfl,⟨⟨ab,a5⟩,hz⟩,rfl⟩
 have a9:(i:Int)<8:=ab;by_cases a4:l=[]
 ·subst a4;have b1:zs=[]:=a5 rfl;subst b1;rw[bz];refine Ks ?_;intros;refine GO.cr (GN ad c (2*(i:Int)) 40) ?_;refine Ks ?_;intros;refine⟨(i+1,a6,a1,[]),⟨⟨by dsimp only;omega,aw _,fun _=>rfl⟩,hz⟩,by dsimp only;omega,?_,by exact ah⟩;dsimp only;rw[bh i];exact aC
 refine Ks ?_;intros;refine GO.ca (ku ad l.length c l rfl hx (2*(i:Int)) 40 ae) ?_;rintro _ _⟨n,rfl,hn,rfl⟩;by_cases b4:n>0
 case neg =>
  refine Ks ?_;intros;refine⟨(i+1,a6,a1,zs),⟨⟨by dsimp only;omega,by dsimp only;omega,fun q=>absurd q a4⟩,hz⟩,by dsimp only;omega,?_,by exact ah⟩;dsimp only;rw[bh i];exact aC
 refine Ks ?_;intros;refine GO.ca (ku ad l.length c l rfl hx (2*(i:Int)+1) 4 ae) ?_;rintro _ _⟨x,rfl,b0,rfl⟩;refine Ks ?_;intros;rename_i bm bs;refine GO.ef (Ef.a8 (enc:=dQ) (e:=spS (1+(i:Int) % 3) x n (some ⟨bm,0,none⟩)) rfl rfl rfl rfl rfl aQ (tS _) ab ab) ae ?_;rintro _ _⟨a3,a0,rfl,rfl⟩;refine Ks ?_;intros;refine⟨(i+1,a3,a0,zs++[spS (1+(i:Int) % 3) x n (some ⟨bm,0,none⟩)]),⟨⟨by dsimp only;omega,by simp;omega,fun q=>absurd q a4⟩,fun s hs=>?_⟩,by dsimp only;omega,?_,?_⟩
 ·rcases List.mem_append.1 hs with hs|hs
  ·exact hz s hs
  ·exact⟨_,_,_,_,List.mem_singleton.1 hs,⟨ab,b0,ab⟩⟩
 ·dsimp only;rw[bh i];exact aC
 ·dsimp only;refine(Ent.at (A:=obj bm tMv [ac 0,ac (1+(i:Int) % 3),ac x,ac n,ag none 0 0]) (Ent.f7 (enc:=cj) (sz:=5) (xs:=(spS (1+(i:Int) % 3) x n (some ⟨bm,0,none⟩)).moves) (n:=1) rfl rfl (by intro y hy;rfl) ae)).trans ?_;refine Ent.freezeSl.trans ?_;refine(Ent.d9 aG 3 none).trans ?_;refine(Ent.d8 (f:=mvP) (x:=(⟨⟨0,1+(i:Int) % 3,x,n,[]⟩,none,0⟩:MvV)) kl).trans ?_;refine Ent.trans (B:=stM (spS (1+(i:Int) % 3) x n (some ⟨bm,0,none⟩))::stP (spS (1+(i:Int) % 3) x n (some ⟨bm,0,none⟩))::(osl dQ 7 ik a3 a0 (zs++[spS (1+(i:Int) % 3) x n (some ⟨bm,0,none⟩)])::allP iO zs::L)) ?_ ?_
  ·simp only[stM,stP,spS,estp];exact ah
  refine(Ent.f8 (Cp _) (cH kl)).trans ?_;refine(Ent.d8 (f:=iO) qQ).trans ?_;refine Ent.trans (B:=allP iO zs::allP iO [spS (1+(i:Int) % 3) x n (some ⟨bm,0,none⟩)]::(osl dQ 7 ik a3 a0 (zs++[spS (1+(i:Int) % 3) x n (some ⟨bm,0,none⟩)])::L)) ah ?_;refine(Ent.d7 (f:=iO) qQ).trans ?_;exact ah
end
section
open Go.V
abbrev tOp:Nat:=34
structure OpV where
 kind:Int
 sh:Int
 n:Int
 legs:List LegV
 lad:OA
 lcap:Nat
 wait:Int
 deriving Inhabited
def gM(o:OpV):LV:=[ac o.kind,ac o.sh,ac o.n,ag o.lad o.legs.length o.lcap,ac o.wait]
def FL(o:OpV):∀u∈gM o,u.oneCell' = true:=by simp[gM,Value.oneCell']
def opP(o:OpV):HP:=andP (isl bA 5 o.lad o.legs) (allP legP o.legs)
def HR(o:OpV):PersM (opP o):=PersM.and (bO _ _ _ _) (cH fC)
structure OpB (n:Int) (o:OpV):Prop where
 kind:0≤o.kind∧o.kind≤5
 sh:0≤o.sh∧o.sh<n
 num:0≤o.n∧o.n<1073741824
 wait : -1≤o.wait∧o.wait≤7
 adv:o.kind=4→0≤o.wait
 len:o.legs.length≤4
 lg:∀x∈o.legs,RLegB n x.m
attribute [local irreducible] G GO GP GPW GPK GF GE Ev Ef EfR Ent CB GB V.Enters bX delM
abbrev Dr:=XF [.ev 17,.ev 18,.ev 19,.ev 20,.ev 21,.ev 22,.ev 23,.ev 24,.ev 25,.ev 26,.ef 27,.ef 28,.ev 29]
def VV{φ ψ:Prop}(k:ψ)(h:Hid ψ→φ:=by intro k;(repeat (first|refine aa ?_|intro zzz|refine G.dr 41 5 Dr ?_));(repeat revert zzz);exact Hid.out k):φ:=h ⟨k⟩
def DE{L:LH}(ad:OA)(n c:Nat)(ls:List LegV)[hrd:Rds L ad LegV bA 5 ls](hn:n=ls.length)(hl:ls.length≤1000) :
  Tri Tryz.prog 51 #[ag ad n c] L (fun v L'=>∃a3 a0,v=ag a3 ls.length a0∧L' = osl bA 5 tLeg a3 a0 ls::L):=by
 subst hn;refine Tri.bd ?_;refine VV ?_;intros;refine G.loop (α:=Nat×OA×Nat) (fun g=>g.1≤ls.length) (fun g=>[(0,ag ad ls.length c),(3,ag g.2.1 (ls.take g.1).length g.2.2),(4,ac (g.1:Int))]) (fun g=>osl bA 5 tLeg g.2.1 g.2.2 (ls.take g.1)::L) (fun g=>ls.length - g.1) (0,none,0) (aw _) aC ?_ ?_
 ·dsimp only;rw[aR];exact Ent.c8 bA 5 tLeg
 rintro⟨i,b0,a2⟩ hi;dsimp only at hi ⊢;have b1:(ls.take i).length≤1000:=by rw[aK];omega
 by_cases a4:i<ls.length
 case neg =>
  have a7:ls.take i=ls:=aD ab;rw[a7];refine VV ?_;intros;exact KX.en ⟨b0,a2,rfl,rfl⟩
 have a6:(i:Int).toNat=i:=ab;have a9:ls.take (i+1)=ls.take i++[ls[i]!]:=by rw[az a4,getElem!_of a4]
 refine VV ?_;intros;rw[a6];refine GPW.ef (Ef.a8 (enc:=bA) (e:=ls[i]!) rfl rfl rfl rfl rfl aQ (ld _) ab ab) ae ?_;rintro _ _⟨a5,a1,rfl,rfl⟩;rw[←a9];refine VV ?_;intros;refine⟨(i+1,a5,a1),by dsimp only;omega,by dsimp only;omega,?_,by exact ah⟩;dsimp only;rw[bh i];exact aC
def jh(n tick:Int)(mad:OA):StV:=estp 1 tick [⟨⟨1+n % 3,0,n / 3 % 4,1+n / 12 % 5,[]⟩,none,0⟩] mad 1
def wK(n tick:Int)(mad:OA):StInG (jh n tick mad)∧(jh n tick mad).moves.length≤(jh n tick mad).mcap:=by
 obtain⟨h1,h2,h3⟩:=rx (ms:=(jh n tick mad).moves) (fun m hm=>by rw[List.mem_singleton.1 hm]);exact⟨⟨by show 1≤1000000;decide,by show I64 (-1);unfold I64;decide,h1,h2,h3⟩,aq _⟩
def Cs{L:LH}(o:OpV)(ho:0≤o.n∧o.n<1073741824)(tick:Int) :
  Tri Tryz.prog 31 #[aU (gM o),ac tick] L (fun v L'=>∃mad,v=aU (dQ (jh o.n tick mad))∧L' = stM (jh o.n tick mad)::stP (jh o.n tick mad)::L):=by
 refine Tri.bd ?_;refine Ks ?_;intros;rename_i bo bs bm;refine KX.a8 (vs:=[aU (dQ (jh o.n tick (some ⟨bm,0,none⟩)))]) (ResOk.cell rfl aQ ResOk.nil) ?_ ⟨some ⟨bm,0,none⟩,rfl,rfl⟩;refine(Ent.at (A:=obj bm tMv [ac (1+o.n % 3),ac 0,ac (o.n / 3 % 4),ac (1+o.n / 12 % 5),ag none 0 0]) (Ent.f7 (enc:=cj) (sz:=5) (xs:=(jh o.n tick (some ⟨bm,0,none⟩)).moves) (n:=1) rfl rfl (by intro y hy;rfl) ae)).trans ?_;refine Ent.freezeSl.trans ?_;refine(Ent.d9 aG 3 none).trans ?_;refine(Ent.d8 (f:=mvP) (x:=(⟨⟨1+o.n % 3,0,o.n / 3 % 4,1+o.n / 12 % 5,[]⟩,none,0⟩:MvV)) kl).trans ?_;simp only[stM,stP,jh,estp];exact ah
def zv{L:LH}(n:Int)(hn:1≤n∧n≤12)(ad:OA)(c:Nat)(l:List Int)[hrd:Rds L ad Int (encZ .i64) 1 l](hx:∀x∈l,I64 x)(b3:l.length≤9223372036854775807)(a0:Int)(b5:0≤a0∧a0≤1000) :
  Tri Tryz.prog 12 #[ac n,ag ad l.length c,ac a0] L (fun v L'=>∃a9 a4 os,v=ag a9 os.length a4∧((os.length:Int)≤a0∧∀o∈os,OpB n o)∧L' = osl gM 5 tOp a9 a4 os::allP opP os::L):=by
 refine Tri.bd ?_;refine Ks ?_;intros;refine G.loop (α:=Nat×OA×Nat×List OpV) (fun g=>((g.1:Int)≤a0∧g.2.2.2.length=g.1)∧∀o∈g.2.2.2,OpB n o) (fun g=>[(0,ac n),(1,ag ad l.length c),(2,ac a0),(7,ag g.2.1 g.2.2.2.length g.2.2.1),(8,ac (2*(g.1:Int)))]) (fun g=>osl gM 5 tOp g.2.1 g.2.2.1 g.2.2.2::allP opP g.2.2.2::L) (fun g=>a0.toNat - g.1) (0,none,0,[]) ⟨⟨by dsimp only;omega,rfl⟩,fun o h=>absurd h ay⟩ aC ?_ ?_
 ·dsimp only;refine(Ent.c7 opP).trans ((Ent.c8 gM 5 tOp).trans ?_);exact ah
 rintro⟨i,a6,a2,zs⟩ ⟨⟨hi,b1⟩,hz⟩;dsimp only at hi b1 hz ⊢;by_cases b4:2*(i:Int)+1<l.length
 case neg =>
  refine Ks ?_;intros;exact KX.a8 aA (Ent.refl _) ⟨a6,a2,zs,rfl,⟨ab,hz⟩,rfl⟩
 by_cases b2:(zs.length:Int)<a0
 case neg =>
  refine Ks ?_;intros;exact KX.a8 aA (Ent.refl _) ⟨a6,a2,zs,rfl,⟨ab,hz⟩,rfl⟩
 refine Ks ?_;intros;refine GO.ca (mD l[(2*(i:Int)).toNat]! 1073741824 (hx _ (aV ab)) ae ae) ?_;rintro _ _⟨q,rfl,hq,rfl⟩;refine Ks ?_;intros;refine GO.ca (mD l[(2*(i:Int)+1).toNat]! 1073741824 (hx _ (aV ab)) ae ae) ?_;rintro _ _⟨m,rfl,hm,rfl⟩;have g1:=ed (q / 16) (ab:n≠0);have g2:=dC (q / 16) (ab:0<n);repeat first|refine G.sm 8 ?_|refine dq ?_|intro
 rename_i b0;refine G.c7 (α:=OpV) (fun o=>OpB n o) (fun _=>[(0,ac n),(1,ag ad l.length c),(2,ac a0),(7,ag a6 zs.length a2),(8,ac (2*(i:Int))),(11,ax b0)]) (fun o=>obj b0 tOp (gM o)::isl bA 5 o.lad o.legs::allP legP o.legs::osl gM 5 tOp a6 a2 zs::allP opP zs::L) ?_ ?_
 ·have hd:q % 16=0∨q % 16=1∨q % 16=2∨q % 16=3∨q % 16=4∨q % 16=5∨q % 16=6∨q % 16=7∨q % 16=8∨9≤q % 16:=ab;simp only[gM];rcases hd with hd|hd|hd|hd|hd|hd|hd|hd|hd|hd
  ·refine Ks ?_;intros;refine GO.ca (oH n hn ad c l hx (2*(i:Int)) ab) ?_;rintro _ _⟨lad,lcap,ls,rfl,⟨a5,a1⟩,rfl⟩;refine Ks ?_;intros;refine⟨⟨0,q / 16 % n,m,ls,lad,lcap,m % 9 - 1⟩,⟨by dsimp only;omega,⟨g1,g2⟩,hm,by dsimp only;omega,fun q=>by dsimp only at q;omega,by dsimp only;omega,a1⟩,aC,?_⟩;refine(Ent.at (A:=osl bA 5 ki lad lcap ls) Ent.freezeSl).trans ?_;exact ah
  ·refine Ks ?_;intros;refine GO.ca (oH n hn ad c l hx (2*(i:Int)) ab) ?_;rintro _ _⟨lad,lcap,ls,rfl,⟨a5,a1⟩,rfl⟩;refine Ks ?_;intros;refine⟨⟨0,q / 16 % n,m,ls,lad,lcap,m % 9 - 1⟩,⟨by dsimp only;omega,⟨g1,g2⟩,hm,by dsimp only;omega,fun q=>by dsimp only at q;omega,by dsimp only;omega,a1⟩,aC,?_⟩;refine(Ent.at (A:=osl bA 5 ki lad lcap ls) Ent.freezeSl).trans ?_;exact ah
  ·refine Ks ?_;intros;refine GO.ca (oH n hn ad c l hx (2*(i:Int)) ab) ?_;rintro _ _⟨lad,lcap,ls,rfl,⟨a5,a1⟩,rfl⟩;refine Ks ?_;intros;refine⟨⟨0,q / 16 % n,m,ls,lad,lcap,m % 9 - 1⟩,⟨by dsimp only;omega,⟨g1,g2⟩,hm,by dsimp only;omega,fun q=>by dsimp only at q;omega,by dsimp only;omega,a1⟩,aC,?_⟩;refine(Ent.at (A:=osl bA 5 ki lad lcap ls) Ent.freezeSl).trans ?_;exact ah
  ·refine Ks ?_;intros;refine⟨⟨4,q / 16 % n,m,[],none,0,(m % 4)⟩,⟨by dsimp only;omega,⟨g1,g2⟩,hm,by dsimp only;omega,fun q=>by dsimp only;omega,aw _,fun x h=>absurd h ay⟩,aC,?_⟩;refine(Ent.c7 legP).trans ((Ent.d9 bA 5 none).trans ?_);exact ah
  ·refine Ks ?_;intros;refine⟨⟨4,q / 16 % n,m,[],none,0,(m % 4)⟩,⟨by dsimp only;omega,⟨g1,g2⟩,hm,by dsimp only;omega,fun q=>by dsimp only;omega,aw _,fun x h=>absurd h ay⟩,aC,?_⟩;refine(Ent.c7 legP).trans ((Ent.d9 bA 5 none).trans ?_);exact ah
  ·refine Ks ?_;intros;refine⟨⟨2,q / 16 % n,m,[],none,0,0⟩,⟨by dsimp only;omega,⟨g1,g2⟩,hm,by dsimp only;omega,fun q=>by dsimp only at q;omega,aw _,fun x h=>absurd h ay⟩,aC,?_⟩;refine(Ent.c7 legP).trans ((Ent.d9 bA 5 none).trans ?_);exact ah
  ·refine Ks ?_;intros;refine⟨⟨3,q / 16 % n,m,[],none,0,0⟩,⟨by dsimp only;omega,⟨g1,g2⟩,hm,by dsimp only;omega,fun q=>by dsimp only at q;omega,aw _,fun x h=>absurd h ay⟩,aC,?_⟩;refine(Ent.c7 legP).trans ((Ent.d9 bA 5 none).trans ?_);exact ah
  ·refine Ks ?_;intros;refine⟨⟨3,q / 16 % n,m,[],none,0,0⟩,⟨by dsimp only;omega,⟨g1,g2⟩,hm,by dsimp only;omega,fun q=>by dsimp only at q;omega,aw _,fun x h=>absurd h ay⟩,aC,?_⟩;refine(Ent.c7 legP).trans ((Ent.d9 bA 5 none).trans ?_);exact ah
  ·refine Ks ?_;intros;refine⟨⟨5,q / 16 % n,m,[],none,0,0⟩,⟨by dsimp only;omega,⟨g1,g2⟩,hm,by dsimp only;omega,fun q=>by dsimp only at q;omega,aw _,fun x h=>absurd h ay⟩,aC,?_⟩;refine(Ent.c7 legP).trans ((Ent.d9 bA 5 none).trans ?_);exact ah
  ·refine Ks ?_;intros;refine⟨⟨1,q / 16 % n,m,[],none,0,0⟩,⟨by dsimp only;omega,⟨g1,g2⟩,hm,by dsimp only;omega,fun q=>by dsimp only at q;omega,aw _,fun x h=>absurd h ay⟩,aC,?_⟩;refine(Ent.c7 legP).trans ((Ent.d9 bA 5 none).trans ?_);exact ah
 rintro o ho;simp only[gM];refine Ks ?_;intros;refine GO.ef (Ef.a8 (enc:=gM) (e:=o) rfl rfl rfl rfl rfl aQ (FL _) ab ab) ae ?_;rintro _ _⟨a7,a3,rfl,rfl⟩;refine Ks ?_;intros;refine⟨(i+1,a7,a3,zs++[o]),⟨⟨by dsimp only;omega,by simp[b1]⟩,fun x hx=>?_⟩,by dsimp only;omega,?_,?_⟩
 ·rcases List.mem_append.1 hx with hx|hx
  ·exact hz x hx
  ·rw[List.mem_singleton.1 hx];exact ho
 ·dsimp only;rw[show 2*((i+1:Nat):Int)=2*(i:Int)+2 by omega];exact aC
 ·dsimp only;refine Ent.trans (B:=isl bA 5 o.lad o.legs::allP legP o.legs::(osl gM 5 tOp a7 a3 (zs++[o])::allP opP zs::L)) ah ?_;refine(Ent.f8 (bO _ _ _ _) (cH fC)).trans ?_;refine(Ent.d8 (f:=opP) (x:=o) HR).trans ?_;refine Ent.trans (B:=allP opP zs::allP opP [o]::(osl gM 5 tOp a7 a3 (zs++[o])::L)) ah ?_;refine(Ent.d7 (f:=opP) HR).trans ?_;exact ah
end
end Go.Proofs.YtlgpgjdggilkgaaGreatDoor
namespace Go.V
def tslA{α:Type}(enc:α→LV)(sz E:Nat)(ad:OA)(cap:Nat)(xs:List α)(q:List α×OA×Nat):LH:=[cY ((cap=0∨ad=advA q.2.1 q.2.2 sz q.1.length)∧q.1.length+cap=q.2.2),osl enc sz E q.2.1 q.2.2 (q.1++xs)]
def tsl{α:Type}(enc:α→LV)(sz E:Nat)(ad:OA)(cap:Nat)(xs:List α):HP:=hex fun q=>cm (tslA enc sz E ad cap xs q)
section
variable {α:Type}{θ:Th}{enc:α→LV}{sz E:Nat}{ad:OA}{cap:Nat}{xs:List α}{L:LH}{w:World}
def advA_zero(ad:OA)(cap sz:Nat):advA ad cap sz 0=ad:=by
 unfold advA;split
 ·rfl
 ·cases ad with
  | none=>rfl
  | some a =>
   simp only[eK,Nat.zero_mul];congr 1
def ze(a:Addr)(m n:Nat):(a.add m).add n=a.add (m+n):=by
 unfold Addr.add;(repeat' split)<;>first|rfl|omega|(simp;omega)|(simp_all;done)
def HB{j k:Nat}(h:j+k<cap):advA (advA ad cap sz j) (cap - j) sz k=advA ad cap sz (j+k):=by
 unfold advA;rw[if_neg (ab:¬cap=j),if_neg ab,if_neg ab,Option.map_map];congr 1;funext a;simp only[Function.comp_apply];rw[ze,dc]
def Sat.tsl_parts(s:Sat θ (tsl enc sz E ad cap xs::L) w):∃(p:List α) (ad0:OA) (cap0:Nat),((cap=0∨ad=advA ad0 cap0 sz p.length)∧p.length+cap=cap0)∧Sat θ (osl enc sz E ad0 cap0 (p++xs)::L) w:=by
 obtain⟨⟨p,ad0,cap0⟩,s1⟩:=Sat.ofHex s;have s2:Sat θ (cY ((cap=0∨ad=advA ad0 cap0 sz p.length)∧p.length+cap=cap0)::osl enc sz E ad0 cap0 (p++xs)::L) w:=Sat.ofStars (A:=tslA enc sz E ad cap xs (p,ad0,cap0)) s1;exact⟨p,ad0,cap0,s2.ofPure,s2.tail⟩
def Sat.d9{p:List α}{ad0:OA}{cap0:Nat}(h:(cap=0∨ad=advA ad0 cap0 sz p.length)∧p.length+cap=cap0)(s:Sat θ (osl enc sz E ad0 cap0 (p++xs)::L) w):Sat θ (tsl enc sz E ad cap xs::L) w :=
 Sat.d8 (p,ad0,cap0) (Sat.a8 (A:=tslA enc sz E ad cap xs (p,ad0,cap0)) (Sat.addPure s h))
def Ent.k9:Ent (osl enc sz E ad cap xs::L) (tsl enc sz E ad cap xs::L):=fun θ R w s=>Sat.d9 (L:=L++R) (p:=[]) ⟨.inr (advA_zero ad cap sz).symm,du _⟩ s
def Ent.n9(enc:α→LV)(sz E:Nat):Ent L (tsl enc sz E none 0 []::L):=(Ent.c8 enc sz E).trans Ent.k9
def Sat.tsl_len(s:Sat θ (tsl enc sz E ad cap xs::L) w):xs.length≤cap:=by
 obtain⟨p,ad0,cap0,h,s1⟩:=s.tsl_parts;have:=s1.osl_parts.2.1
 rw[aj] at this;omega
def Ent.m7{k:Nat}(hk:k≤xs.length):Ent (tsl enc sz E ad cap xs::L) (tsl enc sz E (advA ad cap sz k) (cap - k) (xs.drop k)::L):=fun θ R w s=>by
 have hl:=Sat.tsl_len (L:=L++R) s;obtain⟨p,ad0,cap0,⟨h1,h2⟩,s1⟩:=Sat.tsl_parts (L:=L++R) s;refine Sat.d9 (L:=L++R) (p:=p++xs.take k) (ad0:=ad0) (cap0:=cap0) ⟨?_,?_⟩ ?_
 ·by_cases hc:cap - k=0
  ·exact .inl hc
  ·rw[h1.resolve_left ab,aj,aK,dp hk,show cap=cap0 - p.length by omega];exact .inr (HB ab)
 ·rw[aj,aK,dp hk];omega
 ·rw[aB,cK];exact s1
def Sat.tsl_rd(s:Sat θ (tsl enc sz E ad cap xs::L) w):RdSl w enc sz ad xs:=by
 obtain⟨p,ad0,cap0,⟨h1,h2⟩,s1⟩:=s.tsl_parts;have h3:=s1.osl_parts.2.1;have h4:=(Sat.osl_rd s1).drop h3 p.length;rw[List.drop_left] at h4;rcases h1 with h1|h1
 ·rw[aj] at h3;exact⟨h4.1,.inl (aZ ab)⟩
 ·rw[h1];exact h4
end
instance {α:Type}(L:LH)(enc:α→LV)(sz E:Nat)(ad:OA)(cap:Nat)(xs:List α):Rds (tsl enc sz E ad cap xs::L) ad α enc sz xs:=⟨fun _ _ _ s=>Sat.tsl_rd s⟩
class PickTsl (L:LH) (ad:OA) (α:outParam Type) (enc:outParam (α→LV)) (sz E:outParam Nat) (cap:outParam Nat) (xs:outParam (List α)) (R:outParam (LH)):Prop where
 perm:L.Perm (tsl enc sz E ad cap xs::R)
instance {α:Type}(L:LH)(enc:α→LV)(sz E:Nat)(ad:OA)(cap:Nat)(xs:List α):PickTsl (tsl enc sz E ad cap xs::L) ad α enc sz E cap xs L:=⟨List.Perm.refl _⟩
instance {α:Type}(A:HP)(L:LH)(enc:α→LV)(sz E:Nat)(ad:OA)(cap:Nat)(xs:List α)(R:LH)[h:PickTsl L ad α enc sz E cap xs R]:PickTsl (A::L) ad α enc sz E cap xs (A::R):=⟨(h.perm.cons A).trans (List.Perm.swap _ _ _)⟩
def pS{P:Program}(w:World)(t ty e:TypeId)(i:TypeInfo)(ht:P.underlying t=some (.slice e))(hi:P.info? e=some i)
  (g off a1 a2:Nat) (a3:Array Value) (hg:w.heap[g]? = some (.cells a3 e (0,0)))
  (a:Addr) (m c:Nat) (a0:LV) (hl:a0.length=m*i.size) (a4:∀j u,a0[j]? = some u→w.cell? (a.add j)=some u) (h1:∀u∈a0,u.oneCell' = true)
  (a5:a1+m≤a2) (a6:off+a1*i.size+a0.length≤a3.size) :
  (Builtin.append_ #[t,t] ty #[.slice (some ⟨g,off,none⟩) a1 a2,.slice (some a) m c]).run P w =
   .ok (.slice (some ⟨g,off,none⟩) (a1+m) a2) (w.setRow g (a3.toList.take (off+a1*i.size)++a0++a3.toList.drop (off+a1*i.size+a0.length)).toArray):=by
 have hf:=run_firstCells_some (P:=P) w i.size m a m c a0 hl a4;have a7:=run_storeCells_at P g (off+a1*i.size) e a0 0 a3 w hg (by simpa using a6) h1;simp only[eA] at a7;simp[Builtin.append_,run_underlying ht,sizeOf,typeInfo,hi,Builtin.lenOf,a5,hf,Addr.add_lit,a7]
section ops
variable {P:Program}{N:Nat}{env:Env}{L:LH}{ty:TypeId}
def Ef.j9{t:TypeId}{x y:Operand}{α:Type}{enc:α→LV}{ad b4:OA}{n c n2 c2 sz E bb cap:Nat}{xs ys:List α}{z:LV}{R1:LH}[ht:TySl P t E sz bb z][hp:PickTsl L ad α enc sz E cap xs R1][hq:Rds R1 b4 α enc sz ys]
  (hx:evE env x=some (.slice ad n c)) (hy:evE env y=some (.slice b4 n2 c2)) (hn:n=xs.length) (hc:c=cap) (d0:n2=ys.length) (h1:∀e∈ys,∀u∈enc e,u.oneCell' = true) (hb:(xs.length+ys.length)*bb≤140737488355328) (hm:xs.length+ys.length≤9223372036854775807)
  : Ef P L env (.call { callee:=.builtin .append,args:=#[x,y],argTypes:=#[t,t] }) ty (fun v L'=>∃a3 a0,v=.slice a3 (xs++ys).length a0∧L' = tsl enc sz E a3 a0 (xs++ys)::R1) :=
 Ef.val (fun θ R a w ea s d4 pos af g=>by
  subst hn hc d0;have s1:Sat θ (tsl enc sz E ad c xs::(R1++R)) w:=s.perm (hp.perm.append_right R);have a7:=s1.tsl_len;have hrd:=s1.tsl_rd;obtain⟨g1,g2⟩:=hq.rd θ R w s1.tail;obtain⟨ii,z0,i1,i2,i3,i4,i5⟩:=ht.parts
  have b7 : ∀u∈ys.flatMap enc,u.oneCell' = true:=fun u hu=>by
   obtain⟨e,he,hu⟩:=List.mem_flatMap.1 hu;exact h1 e he u hu
  by_cases b6:ys=[]
  ·subst b6;refine⟨.slice ad xs.length c,w,_,?_,⟨ad,c,by simp,rfl⟩,by simpa using s1⟩;cases b4 with
   | none =>
    simp[execOp,resolve,invoke,builtin,aL ea hx,aL ea hy,Builtin.append_,run_underlying ht.under,sizeOf,typeInfo,i1,Builtin.lenOf,a7,Builtin.firstCells];cases ad<;>simp[storeCells]
   | some a2 =>
    have hf:=run_firstCells_some (P:=P) w ii.size 0 a2 0 c2 [] cc cc;simp[execOp,resolve,invoke,builtin,aL ea hx,aL ea hy,Builtin.append_,run_underlying ht.under,sizeOf,typeInfo,i1,Builtin.lenOf,a7,hf];cases ad<;>simp[storeCells]
  have e2:0<ys.length:=List.length_pos_iff.2 b6
  obtain⟨a2,rfl,g3⟩:∃a2,b4=some a2∧∀i v,(ys.flatMap enc)[i]? = some v→w.cell? (a2.add i)=some v:=by
   rcases g2 with g2|g2
   ·exact absurd g2 b6
   ·exact g2
  have b3:(ys.flatMap enc).length=ys.length*ii.size:=by rw[i4];exact dm g1
  obtain⟨p,ad0,cap0,⟨q1,q2⟩,s2⟩:=s1.tsl_parts;obtain⟨o1,o2,o3,o4⟩:=s2.osl_parts;rw[aj] at o2
  have a6:∀x∈xs++ys,(enc x).length=sz:=fun x hx=>by
   rcases List.mem_append.1 hx with hx|hx
   ·exact o1 x (bK _ hx)
   ·exact g1 x hx
  have a9:¬xs.length+ys.length≤c→∃v' w',(Builtin.append_ #[t,t] ty #[.slice ad xs.length c,.slice (some a2) ys.length c2]).run P w=.ok v' w'∧∃a3 a0,v' = .slice a3 (xs++ys).length a0∧Sat θ (osl enc sz E a3 a0 (xs++ys)::(R1++R)) w':=fun a1=>by
   have d3:(xs.flatMap enc).length=xs.length*sz:=dm fun x hx=>o1 x (bK _ hx);cases a5:ad with
   | none =>
    have d2:xs=[]:=by
     rcases hrd.2 with h|⟨b,h2,_⟩
     ·exact h
     ·rw[a5] at h2;cases h2
    have b9:c=0:=by
     refine Classical.byContradiction fun hc=>?_;have h9:=q1.resolve_left hc;rw[a5] at h9;rcases o4 with⟨_,h⟩|⟨gb,a4,rfl,_⟩
     ·omega
     ·unfold advA at h9;split at h9<;>cases h9
    subst d2 b9;have s3:Sat θ (osl enc sz E none 0 ([]:List α)::(R1++R)) w:=Sat.d7 enc sz E s1.tail;obtain⟨v',w',hr,h2,h3,_,h5⟩:=run_append_own_at (P:=P) w 0 t ty E ii z0 sz bb ht.under i1 i2 i4 i5 (by rw[←ht.zlen,←i3];simp) ht.pos _ _ _ (rU s3) a2 ys.length c2 (ys.flatMap enc) (dm g1) g3 b7 (by simp only[maxLen];simp at hm ⊢;omega) (by simpa using hb) (aw _);obtain⟨a3,a0,rfl,s4⟩:=qc (ys:=ys) s3 g1 h2 h3 (lT _ hr) h5;exact⟨_,w',hr,a3,a0,rfl,s4⟩
   | some b =>
    have hold:∀j u,(xs.flatMap enc)[j]? = some u→w.cell? (b.add j)=some u:=by
     rcases hrd.2 with h|⟨b',h2,h3⟩
     ·rw[h];simp
     ·rw[a5] at h2;cases h2;exact h3
    obtain⟨v',w',b1,ho,hg⟩:=run_append_arg_grows (P:=P) (w:=w) t ty E ii z0 sz bb ht.under i1 i2 i4 i5 (by rw[←ht.zlen,←i3];simp) ht.pos b xs.length c (xs.flatMap enc) d3 hold a2 ys.length c2 (ys.flatMap enc) (dm g1) g3 ab (by simp only[maxLen];omega) hb;obtain⟨c6,ho⟩:=ho;rcases ho with⟨_,hn⟩|⟨g',a0,b5,rfl,c4,c5,d5,c0,c1,b2⟩
    ·omega
    have c3:=lT _ b1;have ok:θ.ok w':=⟨by rw[hg.tape];exact s.1.tape,by rw[hg.os];exact s.1.os,by rw[hg.output];exact s.1.output,aP s.1.drawn c3⟩;have b8:(xs++ys).length=xs.length+ys.length:=by simp
    have s3:Sat θ (own g' (.cells b5 E (0,0))::(R1++R)) w':=s1.tail.fresh ok c4 c5 (fun k x hk=>by rw[hg.block k (Array.getElem?_eq_some_iff.1 hk).1 cc];exact hk);have s4:=Sat.osl_mk (cap:=a0) s3 a6 ab c0 c1 (by rw[b8,b2];simp);exact⟨_,w',b1,some ⟨g',0,none⟩,a0,by rw[b8],s4⟩
  by_cases a1:xs.length+ys.length≤c
  case neg =>
   obtain⟨v',w',hr,a3,a0,rfl,s4⟩:=a9 a1;refine⟨_,w',_,?_,⟨a3,a0,rfl,rfl⟩,Ent.k9 θ R w' s4⟩;simp[execOp,resolve,invoke,builtin,aL ea hx,aL ea hy,hr]
  rcases o4 with⟨rfl,rfl⟩|⟨gb,a4,rfl,f1,f2,f3⟩
  ·omega
  have d1:¬cap0=p.length:=ab
  have a5:ad=some ⟨gb,p.length*sz,none⟩:=by
   rw[q1.resolve_left ab];unfold advA;rw[if_neg d1];simp[Addr.add_lit]
  subst a5;have e0:(p.length+xs.length+ys.length)*sz≤cap0*sz:=bj _ ab;have d6:p.length*sz+xs.length*sz+ys.length*sz=(p.length+xs.length+ys.length)*sz:=by rw[dc,dc]
  have hr:=pS (P:=P) (ty:=ty) w t E ii ht.under i1 gb (p.length*sz) xs.length c a4 f3.own_heap a2 ys.length c2 (ys.flatMap enc) b3 g3 b7 a1 (by rw[i4,dm g1,f1];omega);have b0:(p.length*sz+xs.length*sz)=(p++xs).length*sz:=by rw[aj,dc]
  have s5:Sat θ (osl enc sz E (some ⟨gb,0,none⟩) cap0 (p++(xs++ys))::(R1++R)) (w.setRow gb (a4.toList.take (p.length*sz+xs.length*ii.size)++ys.flatMap enc++a4.toList.drop (p.length*sz+xs.length*ii.size+(ys.flatMap enc).length)).toArray):=by
   refine Sat.osl_mk (L:=R1++R) (Sat.update f3 ⟨s.1.tape,s.1.os,s.1.output,s.1.drawn⟩ (setRow_heap w gb _ _ E _ f3.own_heap) (fun k x hk hx=>by rw[setRow_other w gb k _ hk];exact hx)) (fun x hx=>?_) ?_ o3 ?_ ?_
   ·rcases List.mem_append.1 hx with hx|hx
    ·exact o1 x (bM _ hx)
    ·exact a6 x hx
   ·rw[aj,aj];omega
   ·rw[i4];simp only[hZ,aj,aK,bY,ep,f1,dm g1];omega
   ·rw[i4,b0];simp only[];rw[←aB p xs ys,cl,←f2]
    have e1:((p++xs++ys).length*sz)=(a4.toList.take ((p++xs).length*sz)++ys.flatMap enc).length:=by
     simp only[aj,aK,ep,f1,dm g1,dc];omega
    rw[e1,List.take_left]
  generalize (w.setRow gb (a4.toList.take (p.length*sz+xs.length*ii.size)++ys.flatMap enc++a4.toList.drop (p.length*sz+xs.length*ii.size+(ys.flatMap enc).length)).toArray)=W at hr s5;refine⟨.slice (some ⟨gb,p.length*sz,none⟩) (xs.length+ys.length) c,W,_,?_,⟨some ⟨gb,p.length*sz,none⟩,c,by rw[aj],rfl⟩,Sat.d9 (L:=R1++R) (p:=p) (ad0:=some ⟨gb,0,none⟩) (cap0:=cap0) ⟨q1,q2⟩ s5⟩;simp[execOp,resolve,invoke,builtin,aL ea hx,aL ea hy,hr])
