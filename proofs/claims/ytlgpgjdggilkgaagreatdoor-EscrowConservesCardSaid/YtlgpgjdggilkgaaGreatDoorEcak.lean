/- Lemmas. -/
import Derived.Test.YtlgpgjdggilkgaaGreatDoorEcaj
set_option linter.all false
set_option maxHeartbeats 1000000
namespace Go.Proofs.YtlgpgjdggilkgaaGreatDoor
section
open Go.V
attribute [local irreducible] G GO GP GPW GPK Ev Ef EfR Ent CB GB Enters
def fuR(l:LL)(m:Int):Nat→Int
 | 0=>m
 | k+1=>fuR l m k - min (fuR l m k) l[k]!.2.2
def fuC(l:LL)(m:Int)(k:Nat):Int:=min (fuR l m k) l[k]!.2.2
def yu{l:LL}{m:Int}(h0:0≤m)(hw:∀x∈l,LotW x):∀k,k≤l.length→0≤fuR l m k∧fuR l m k≤m
 | 0,_=>⟨h0,bq _⟩
 | k+1,hk=>by
  have ih:=yu h0 hw k ab;have:=hw _ (aV (ab:k<l.length))
  unfold LotW at this;simp only[fuR];omega
def qx{l:LL}{m:Int}(h0:0≤m)(hw:∀x∈l,LotW x)(k:Nat)(hk:k<l.length):0≤fuC l m k∧fuC l m k≤l[k]!.2.2:=by
 have h1:=yu h0 hw k ab;have:=hw _ (aV hk)
 unfold LotW at this;unfold fuC;omega
abbrev tInt:Nat:=3
def fuA(bn bl:Nat)(ad:OA)(c:Nat)(l:LL)(m:Int)(k:Nat):LH:=[obj bn tInt [ac (fuR l m k)],obj bl gz [ag ad l.length c],isl aG 3 ad l]
abbrev CF:=XC []
def vz(bn bl:Nat)(ad:OA)(c:Nat)(l:LL)(m:Int)(hm:l.length≤1000000)(h0:0≤m)(h1:m≤1099511627776)(hw:∀x∈l,LotW x) :
  ud 318 [ax bn,ax bl] l.length (fuC l m) (fun k=>cm (fuA bn bl ad c l m k)):=by
 intro k hk L;have a1:(k:Int).toNat=k:=ab;have hb:=yu h0 hw k ab;have a0:=qx h0 hw k hk;have a2:=hw _ (aV hk);unfold LotW at a2;unfold fuC at a0;rw[←a1] at a2 a0;rw[a1] at a0;refine Tri.bd (args:=[ac (k:Int),ax bn,ax bl]) ?_;refine G.ent Ent.openS ?_;simp only[fuA,al,ak];repeat first|refine aa ?_|intro _|((with_reducible apply G.a8);first|refine G.dr 17 1 CF ?_)
 rw[a1];exact KX.a8 aA (Ent.f9 (A:=[_,_,_]) (L:=L)) ⟨rfl,rfl⟩
def jy{L:LH}(ad:OA)(n c:Nat)(xs:LL)[Rds L ad Lot aG 3 xs](hn:n=xs.length)(hb:xs.length≤4096)(hx:∀l∈xs,LotOk l) :
  Tri Tryz.prog 17 #[ag ad n c] L (rtQ (ac (lsum xs)) L):=by
 refine Tri.bd ?_;refine Ks ?_;intros;refine GO.ca (gF ad n c xs hn hb hx) ?_;rintro _ L ⟨rfl,rfl⟩;refine Ks ?_;intros;refine GO.ca (nR ad n c xs hn hb hx) ?_;rintro _ L ⟨rfl,rfl⟩;refine Ks ?_;intros;exact KX.en ⟨rfl,rfl⟩
def gU{φ ψ:Prop}(k:ψ)(h:Hid ψ→φ:=by intro k;first|refine GO.ci (f:=311) (Hid.out k)|refine GPW.ci (f:=311) (Hid.out k)|refine GO.cf (f:=311) rfl (Hid.out k)|refine GPW.cf (f:=311) rfl (Hid.out k)|refine KX.inA (Hid.out k)):φ:=h ⟨k⟩
def Xu{φ ψ:Prop}(k:ψ)(h:Hid ψ→φ:=by intro k;(repeat (first|refine aa ?_|intro zzz|refine gU ?_));(repeat revert zzz);exact Hid.out k):φ:=h ⟨k⟩
def Cm{L:LH}(ad:OA)(c:Nat)(xs:LL)(n:Int)(mixed:Bool)(a3:mixed=false)(hb:xs.length≤4096)(hx:∀l∈xs,LotOk l)(a2:0≤n)(a4:n≤1099511627776) :
  Tri Tryz.prog 300 #[ag ad xs.length c,ac n,.bool mixed] (isl aG 3 ad xs::L) (fun v L' =>
   (lsum xs<n∧v=.tuple #[ag none 0 0,ag none 0 0,ac 10]∧L' = isl aG 3 ad xs::L) ∨
   (n≤lsum xs∧∃a0 c1 a1 c2,v=.tuple #[ag a0 (divF xs (fuC xs n) xs.length).length c1,ag a1 (divR xs (fuC xs n) xs.length).length c2,ac 0]∧L' = osl aG 3 tLot a0 c1 (divF xs (fuC xs n) xs.length)::osl aG 3 tLot a1 c2 (divR xs (fuC xs n) xs.length)::isl aG 3 ad xs::L)):=by
 subst a3;have hw:∀x∈xs,LotW x:=fun x h=>(hx x h).w;refine Tri.bd ?_;refine Xu ?_;intros;refine GO.cr (gF ad xs.length c xs rfl hb hx) ?_;refine Xu ?_;intros;refine GO.cr (jy ad xs.length c xs rfl hb hx) ?_;by_cases hs:lsum xs<n
 ·refine Xu ?_;intros;exact KX.a8 aA (Ent.refl _) (.inl ⟨hs,rfl,rfl⟩)
 refine Xu ?_;intros;rename_i bl bn;refine GO.ent (L':=cm (fuA bn bl ad c xs n 0)::isl aG 3 ad xs::isl aG 3 ad xs::L) ?_ ?_
 ·refine Ent.trans ?_ Ent.f9;simp only[fuA,fuR,al,ak];refine(Ent.at (A:=isl aG 3 ad xs) (Ent.dup (lw _ _ _ _))).trans ?_;refine(Ent.dup (lw _ _ _ _)).trans ?_;exact ah
 (first|refine GO.ef (Ef.call (nY _ _ ad c xs (fuC xs n) (fun k=>cm (fuA bn bl ad c xs n k)) ab hw (qx a2 hw) (vz bn bl ad c xs n ab a2 a4 hw)) rfl dd) ae ?_);rintro _ _⟨_,⟨a0,c1,a1,c2,rfl,rfl⟩,hL⟩;simp only[al,ak] at hL;subst hL;refine Xu ?_;intros;exact KX.a8 aA (Ent.refl _) (.inr ⟨ab,a0,c1,a1,c2,rfl,rfl⟩)
structure MvM where
 frm:Int
 to:Int
 item:Int
 n:Int
 parts:LL
 deriving Inhabited,DecidableEq
structure MvV where
 m:MvM
 pad:OA
 pcap:Nat
 deriving Inhabited
def cj(m:MvV):LV:=[ac m.m.frm,ac m.m.to,ac m.m.item,ac m.m.n,ag m.pad m.m.parts.length m.pcap]
def mA(t:MvV):∀u∈cj t,u.oneCell' = true:=by simp[cj,Value.oneCell']
instance:EncC cj:=⟨mA⟩
abbrev mvP(m:MvV):HP:=isl aG 3 m.pad m.m.parts
def kl(m:MvV):PersM (mvP m):=bO _ _ _ _
abbrev tMv:Nat:=134
def mv0:MvV:=⟨⟨0,0,0,0,[]⟩,none,0⟩
def yR{L:LH}(m:MvV)(hl:m.m.parts.length≤1000000) :
  Tri Tryz.prog 192 #[aU (cj m)] (mvP m::L) (fun v L'=>∃m',v=aU (cj m')∧m'.m=m.m∧L' = mvP m'::mvP m::L):=by
 obtain⟨⟨frm,to,item,n,parts⟩,pad,pcap⟩:=m;dsimp only at hl;refine Tri.bd (args:=[aU (cj ⟨⟨frm,to,item,n,parts⟩,pad,pcap⟩)]) ?_;refine Ks ?_;intros;refine GO.ca (iv pad parts.length pcap parts rfl ab) ?_;rintro _ _⟨a1,a0,rfl,rfl⟩;refine Ks ?_;intros;refine KX.a8 (by exact ResOk.cell rfl aQ (ResOk.nil)) ?_ ⟨⟨⟨frm,to,item,n,parts⟩,a1,a0⟩,rfl,rfl,rfl⟩;refine(Ent.frz a1).trans ?_;exact ah
def dV{α:Type}[Inhabited α]{l:List α}{i:Nat}{x:α}(h:i<l.length):(l.set i x).take (i+1)=l.take i++[x]:=by
 rw[az (by simpa using h),List.take_set_of_le (aq _)];simp
def yH{L:LH}(ad:OA)(c:Nat)(ms:List MvV)(hl:ms.length≤64)(hp:∀m∈ms,m.m.parts.length≤1000000) :
  Tri Tryz.prog 191 #[ag ad ms.length c,.func (.func 192) #[] #[]] (isl cj 5 ad ms::allP mvP ms::L) (fun v L'=>∃a3 c' a1,v=ag a3 a1.length c'∧a1.map (·.m)=ms.map (·.m)∧L' = isl cj 5 a3 a1::allP mvP a1::isl cj 5 ad ms::allP mvP ms::L):=by
 refine Tri.bd ?_;by_cases h0:ms.length=0
 ·have e:ms=[]:=aZ h0;subst e;refine Ks ?_;intros;exact KX.a8 aA ((Ent.c7 mvP).trans (Ent.d9 cj 5 none)) ⟨none,0,[],rfl,rfl,rfl⟩
 refine Ks ?_;intros;refine GO.ef (Ef.f9 cj mv0 rfl rfl rfl ab ab ab ab) ae ?_;rintro _ _⟨bs,rfl,rfl⟩;rw[show(ms.length:Int).toNat=ms.length by omega];refine Ks ?_;intros
 refine G.loop (α:=Nat×List MvV) (fun z=>z.1≤ms.length∧z.2.length=ms.length∧(z.2.take z.1).map (·.m)=(ms.take z.1).map (·.m)) (fun z=>[(1,.func (.func 192) #[] #[]),(5,ag (some ⟨bs,0,none⟩) ms.length ms.length),(14,ag ad ms.length c),(15,ac (ms.length:Int)),(16,ac (z.1:Int))])
  (fun z=>osl cj 5 tMv (some ⟨bs,0,none⟩) ms.length z.2::allP mvP (z.2.take z.1)::isl cj 5 ad ms::allP mvP ms::L) (fun z=>ms.length - z.1) (0,List.replicate ms.length mv0) ⟨aw _,by simp,by simp⟩ aC ?_ ?_
 ·dsimp only;rw[aR];refine(Ent.c7 mvP).trans ?_;exact ah
 rintro⟨i,zs⟩ ⟨hi,a6,a0⟩;dsimp only at hi a6 a0 ⊢;by_cases a2:i<ms.length
 case neg =>
  have a7:i=ms.length:=ab;subst a7;rw[aD ab,aD ab] at a0;rw[aD (ab:zs.length≤ms.length)];refine Ks ?_;intros;refine KX.a8 aA (Ent.freezeSl) ⟨some ⟨bs,0,none⟩,ms.length,zs,by rw[a6];rfl,a0,rfl⟩
 have a4:(i:Int).toNat=i:=ab;have a5:ms[i]!∈ms:=aV a2;refine Ks ?_;intros;rw[a4];refine GO.ent (Ent.at (A:=allP mvP ms) (Ent.c9 (x:=ms[i]!) a5)) ?_;refine GO.ef (Ef.c7 rfl rfl (yR ms[i]! (hp _ a5))) ae ?_;rintro _ _⟨m',rfl,a9,rfl⟩;refine Ks ?_;intros;refine GO.efu (Ef.f8 (e:=m') rfl rfl aQ aQ (mA _) ab) ?_;rintro _ _ rfl;rw[a4];refine Ks ?_;intros;refine⟨(i+1,zs.set i m'),⟨by dsimp only;omega,by dsimp only;simp;omega,?_⟩,by dsimp only;omega,?_,?_⟩
 ·dsimp only;rw[dV ab,az a2,aJ,aJ,a0,←getElem!_of a2];simp[a9]
 ·dsimp only;rw[bh i];exact aC
 ·dsimp only;rw[dV ab];refine Ent.a8 ?_;refine Ent.trans (B:=allP mvP (zs.take i)::mvP m'::isl cj 5 ad ms::allP mvP ms::L) ah ?_;exact(Ent.a8 (Ent.d8 kl)).trans (Ent.d7 kl)
structure StM where
 id:Int
 kind:Int
 actor:Int
 tick:Int
 rule:Int
 times:Int
 moves:List MvM
 deriving Inhabited
structure StV where
 id:Int
 kind:Int
 actor:Int
 tick:Int
 rule:Int
 times:Int
 moves:List MvV
 mad:OA
 mcap:Nat
 deriving Inhabited
def StV.m(s:StV):StM:=⟨s.id,s.kind,s.actor,s.tick,s.rule,s.times,s.moves.map (·.m)⟩
def dQ(s:StV):LV:=[ac s.id,ac s.kind,ac s.actor,ac s.tick,ac s.rule,ac s.times,ag s.mad s.moves.length s.mcap]
def tS(t:StV):∀u∈dQ t,u.oneCell' = true:=by simp[dQ,Value.oneCell']
abbrev stM(s:StV):HP:=isl cj 5 s.mad s.moves
abbrev stP(s:StV):HP:=allP mvP s.moves
def Cp(s:StV):PersM (stM s):=bO _ _ _ _
def yQ{L:LH}(s:StV)(hl:s.moves.length≤64)(hp:∀m∈s.moves,m.m.parts.length≤1000000) :
  Tri Tryz.prog 133 #[aU (dQ s)] (stM s::stP s::L) (fun v L'=>∃s',v=aU (dQ s')∧s'.m=s.m∧L' = stM s'::stP s'::stM s::stP s::L):=by
 obtain⟨i0,i1,i2,i3,i4,i5,ms,mad,mcap⟩:=s;dsimp only at hl hp;refine Tri.bd (args:=[aU (dQ ⟨i0,i1,i2,i3,i4,i5,ms,mad,mcap⟩)]) ?_;refine Ks ?_;intros;refine GO.ent (Ent.at (A:=isl cj 5 mad ms) (Ent.a8 (Ent.at (A:=allP mvP ms) (Ent.refl _)))) ?_;refine GO.ca (yH mad mcap ms hl hp) ?_;rintro _ _⟨a0,c',a2,rfl,a1,rfl⟩;refine Ks ?_;intros;refine KX.a8 (by exact ResOk.cell rfl aQ (ResOk.nil)) ?_ ⟨⟨i0,i1,i2,i3,i4,i5,a2,a0,c'⟩,rfl,by simp only[StV.m,a1],rfl⟩;exact ah
structure AmS where
 l:List (Int×Int)
 ad:OA
 cap:Nat
 deriving Inhabited
def AmS.v(a:AmS):Value:=ag a.ad a.l.length a.cap
abbrev amS(a:AmS):HP:=isl cy 2 a.ad a.l
def mE(a:AmS):PersM (amS a):=bO _ _ _ _
def jO{L:LH}(ad:OA)(n c:Nat)(xs:List (Int×Int))[Rds L ad (Int×Int) cy 2 xs](hn:n=xs.length)(hb:n≤1000000) :
  Tri Tryz.prog 168 #[ag ad n c] L (fun v L'=>∃a1 a0,v=ag a1 xs.length a0∧L' = osl cy 2 67 a1 a0 xs::L):=by
 refine Tri.bd ?_;repeat' first|refine aa ?_|intro _|with_reducible refine CB.dec (fun _=>?_) (fun _=>?_)|with_reducible refine GB.dec (fun _=>?_) (fun _=>?_)|with_reducible refine CB.bool (fun _=>?_) (fun _=>?_)|with_reducible refine GB.bool (fun _=>?_) (fun _=>?_)
 ·have h:ad=none:=by assumption
  subst h;refine KX.f7 (.inl rfl) (mI (L:=L) (xs:=xs)) ?_;intro hx;subst hx;refine KX.a8 aA (Ent.c8 cy 2 67) ⟨_,_,rfl,rfl⟩
 ·refine GO.ent (Ent.f7 (enc:=cy) (sz:=2) (xs:=[]) rfl rfl cc cc) ?_;refine GO.ef (Ef.d7 rfl rfl rfl rfl hn (fun e _=>kI e) gJ gJ) ae ?_;rintro _ _⟨a1,a0,rfl,rfl⟩;refine Ks ?_;intros;refine KX.a8 aA (Ent.refl _) ⟨a1,a0,rfl,rfl⟩
structure ItG where
 name:ByteArray
 obj:Bool
 mixed:Bool
 coin:Bool
 wear:Int
 bind:Int
 level:Int
 deriving Inhabited
def dL(i:ItG):LV:=[.string i.name,.bool i.obj,.bool i.mixed,.bool i.coin,ac i.wear,ac i.bind,ac i.level]
def tT(t:ItG):∀u∈dL t,u.oneCell' = true:=by simp[dL,Value.oneCell']
instance:EncC dL:=⟨tT⟩
def vV{L:LH}(ad:OA)(n c:Nat)(xs:List ItG)[Rds L ad ItG dL 7 xs](hn:n=xs.length)(hb:n≤1000000) :
  Tri Tryz.prog 159 #[ag ad n c] L (fun v L'=>∃a1 a0,v=ag a1 xs.length a0∧L' = osl dL 7 214 a1 a0 xs::L):=by
 refine Tri.bd ?_;repeat' first|refine aa ?_|intro _|with_reducible refine CB.dec (fun _=>?_) (fun _=>?_)|with_reducible refine GB.dec (fun _=>?_) (fun _=>?_)|with_reducible refine CB.bool (fun _=>?_) (fun _=>?_)|with_reducible refine GB.bool (fun _=>?_) (fun _=>?_)
 ·have h:ad=none:=by assumption
  subst h;refine KX.f7 (.inl rfl) (mI (L:=L) (xs:=xs)) ?_;intro hx;subst hx;refine KX.a8 aA (Ent.c8 dL 7 214) ⟨_,_,rfl,rfl⟩
 ·refine GO.ent (Ent.f7 (enc:=dL) (sz:=7) (xs:=[]) rfl rfl cc cc) ?_;refine GO.ef (Ef.d7 rfl rfl rfl rfl hn (fun e _=>tT e) gJ gJ) ae ?_;rintro _ _⟨a1,a0,rfl,rfl⟩;refine Ks ?_;intros;refine KX.a8 aA (Ent.refl _) ⟨a1,a0,rfl,rfl⟩
structure RuM where
 name:ByteArray
 spawn:Bool
 level:Int
 time:Int
 chance:Int
 of_:Int
 take:List (Int×Int)
 give:List (Int×Int)
 back:List (Int×Int)
 deriving Inhabited
structure RuV where
 name:ByteArray
 spawn:Bool
 level:Int
 time:Int
 chance:Int
 of_:Int
 take:AmS
 give:AmS
 back:AmS
 deriving Inhabited
def RuV.m(r:RuV):RuM:=⟨r.name,r.spawn,r.level,r.time,r.chance,r.of_,r.take.l,r.give.l,r.back.l⟩
def dE(r:RuV):LV:=[.string r.name,.bool r.spawn,ac r.level,ac r.time,ac r.chance,ac r.of_,ag r.take.ad r.take.l.length r.take.cap,ag r.give.ad r.give.l.length r.give.cap,ag r.back.ad r.back.l.length r.back.cap]
def vE(t:RuV):∀u∈dE t,u.oneCell' = true:=by simp[dE,Value.oneCell']
instance:EncC dE:=⟨vE⟩
def ruP(r:RuV):HP:=andP (amS r.take) (andP (amS r.give) (amS r.back))
def mq(r:RuV):PersM (ruP r):=(mE _).and ((mE _).and (mE _))
def ru0:RuV:=⟨⟨#[]⟩,false,0,0,0,0,⟨[],none,0⟩,⟨[],none,0⟩,⟨[],none,0⟩⟩
def RuV.B(r:RuV):Prop:=r.take.l.length≤64∧r.give.l.length≤64∧r.back.l.length≤64
abbrev CD:List Stp:=[.ev 0,.ev 1,.ev 3,.ev 4,.ev 6,.ev 7,.ef 2,.ev 9,.ef 5,.ef 8,.ef 10,.ev 11,.ef 12,.ev 13,.ef 14]
def KB{φ ψ:Prop}(k:ψ)(h:Hid ψ→φ:=by intro k;(repeat (first|refine aa ?_|intro zzz|refine G.dr 16 1 CD ?_));(repeat revert zzz);exact Hid.out k):φ:=h ⟨k⟩
def AT{L:LH}(r:RuV)(hb:r.B) :
  Tri Tryz.prog 161 #[aU (dE r)] (ruP r::L) (fun v L'=>∃r',v=aU (dE r')∧r'.m=r.m∧L' = ruP r'::ruP r::L):=by
 obtain⟨name,spawn,level,time,chance,of_,⟨tl,tad,tcap⟩,⟨gl,gad,gcap⟩,⟨bl,a7,a4⟩⟩:=r;obtain⟨a9,b0,b1⟩:=hb;dsimp only at a9 b0 b1;refine Tri.bd (args:=[aU (dE ⟨name,spawn,level,time,chance,of_,⟨tl,tad,tcap⟩,⟨gl,gad,gcap⟩,⟨bl,a7,a4⟩⟩)]) ?_;refine G.ent ((Ent.dup (mq _).pers).trans (Ent.andE.trans (Ent.a8 Ent.andE))) ?_;simp only[amS];refine KB ?_;intros;refine GPW.ca (jO tad tl.length tcap tl rfl ab) ?_;rintro _ _⟨a6,a2,rfl,rfl⟩;refine KB ?_;intros;refine GPW.ca (jO gad gl.length gcap gl rfl ab) ?_;rintro _ _⟨a5,a1,rfl,rfl⟩;refine KB ?_;intros;refine GPW.ca (jO a7 bl.length a4 bl rfl ab) ?_;rintro _ _⟨a3,a0,rfl,rfl⟩;refine KB ?_;intros;refine KX.a8 (by exact ResOk.cell rfl aQ (ResOk.nil)) ?_ ⟨⟨name,spawn,level,time,chance,of_,⟨tl,a6,a2⟩,⟨gl,a5,a1⟩,⟨bl,a3,a0⟩⟩,rfl,rfl,rfl⟩;refine(Ent.frz a3).trans ((Ent.a8 (Ent.frz a5)).trans ((Ent.a8 (Ent.a8 (Ent.frz a6))).trans ?_));refine Ent.trans (B:=amS ⟨tl,a6,a2⟩::amS ⟨gl,a5,a1⟩::amS ⟨bl,a3,a0⟩::ruP ⟨name,spawn,level,time,chance,of_,⟨tl,tad,tcap⟩,⟨gl,gad,gcap⟩,⟨bl,a7,a4⟩⟩::L) (by simp only[amS];exact ah) ?_;exact(Ent.a8 (Ent.f8 (mE _) (mE _))).trans (Ent.f8 (mE _) ((mE _).and (mE _)))
def AO{L:LH}(ad:OA)(c:Nat)(ms:List RuV)(hl:ms.length≤64)(hp:∀m∈ms,RuV.B m) :
  Tri Tryz.prog 160 #[ag ad ms.length c,.func (.func 161) #[] #[]] (isl dE 9 ad ms::allP ruP ms::L) (fun v L'=>∃a3 c' a1,v=ag a3 a1.length c'∧a1.map RuV.m=ms.map RuV.m∧L' = isl dE 9 a3 a1::allP ruP a1::isl dE 9 ad ms::allP ruP ms::L):=by
 refine Tri.bd ?_;by_cases h0:ms.length=0
 ·have e:ms=[]:=aZ h0;subst e;refine Ks ?_;intros;exact KX.a8 aA ((Ent.c7 ruP).trans (Ent.d9 dE 9 none)) ⟨none,0,[],rfl,rfl,rfl⟩
 refine Ks ?_;intros;refine GO.ef (Ef.f9 dE ru0 rfl rfl rfl ab ab ab ab) ae ?_;rintro _ _⟨bs,rfl,rfl⟩;rw[show(ms.length:Int).toNat=ms.length by omega];refine Ks ?_;intros
 refine G.loop (α:=Nat×List RuV) (fun z=>z.1≤ms.length∧z.2.length=ms.length∧(z.2.take z.1).map RuV.m=(ms.take z.1).map RuV.m) (fun z=>[(1,.func (.func 161) #[] #[]),(5,ag (some ⟨bs,0,none⟩) ms.length ms.length),(14,ag ad ms.length c),(15,ac (ms.length:Int)),(16,ac (z.1:Int))])
  (fun z=>osl dE 9 267 (some ⟨bs,0,none⟩) ms.length z.2::allP ruP (z.2.take z.1)::isl dE 9 ad ms::allP ruP ms::L) (fun z=>ms.length - z.1) (0,List.replicate ms.length ru0) ⟨aw _,by simp,by simp⟩ aC ?_ ?_
 ·dsimp only;rw[aR];refine(Ent.c7 ruP).trans ?_;exact ah
 rintro⟨i,zs⟩ ⟨hi,a6,a0⟩;dsimp only at hi a6 a0 ⊢;by_cases a2:i<ms.length
 case neg =>
  have a7:i=ms.length:=ab;subst a7;rw[aD ab,aD ab] at a0;rw[aD (ab:zs.length≤ms.length)];refine Ks ?_;intros;refine KX.a8 aA (Ent.freezeSl) ⟨some ⟨bs,0,none⟩,ms.length,zs,by rw[a6];rfl,a0,rfl⟩
 have a4:(i:Int).toNat=i:=ab;have a5:ms[i]!∈ms:=aV a2;refine Ks ?_;intros;rw[a4];refine GO.ent (Ent.at (A:=allP ruP ms) (Ent.c9 (x:=ms[i]!) a5)) ?_;refine GO.ef (Ef.c7 rfl rfl (AT ms[i]! (hp _ a5))) ae ?_;rintro _ _⟨m',rfl,a9,rfl⟩;refine Ks ?_;intros;refine GO.efu (Ef.f8 (e:=m') rfl rfl aQ aQ (vE _) ab) ?_;rintro _ _ rfl;rw[a4];refine Ks ?_;intros;refine⟨(i+1,zs.set i m'),⟨by dsimp only;omega,by dsimp only;simp;omega,?_⟩,by dsimp only;omega,?_,?_⟩
 ·dsimp only;rw[dV ab,az a2,aJ,aJ,a0,←getElem!_of a2];simp[a9]
 ·dsimp only;rw[bh i];exact aC
 ·dsimp only;rw[dV ab];refine Ent.a8 ?_;refine Ent.trans (B:=allP ruP (zs.take i)::ruP m'::isl dE 9 ad ms::allP ruP ms::L) ah ?_;exact(Ent.a8 (Ent.d8 mq)).trans (Ent.d7 mq)
structure RwM where
 weight:Int
 give:List (Int×Int)
 deriving Inhabited
structure RwV where
 weight:Int
 give:AmS
 deriving Inhabited
def RwV.m(r:RwV):RwM:=⟨r.weight,r.give.l⟩
def fR(r:RwV):LV:=[ac r.weight,ag r.give.ad r.give.l.length r.give.cap]
def vD(t:RwV):∀u∈fR t,u.oneCell' = true:=by simp[fR,Value.oneCell']
instance:EncC fR:=⟨vD⟩
abbrev rwP(r:RwV):HP:=amS r.give
def vY(r:RwV):PersM (rwP r):=mE _
def rw0:RwV:=⟨0,⟨[],none,0⟩⟩
def RwV.B(r:RwV):Prop:=r.give.l.length≤64
def AS{L:LH}(r:RwV)(hb:r.B) :
  Tri Tryz.prog 245 #[aU (fR r)] (rwP r::L) (fun v L'=>∃r',v=aU (fR r')∧r'.m=r.m∧L' = rwP r'::rwP r::L):=by
 obtain⟨weight,⟨gl,gad,gcap⟩⟩:=r;unfold RwV.B at hb;dsimp only at hb;refine Tri.bd (args:=[aU (fR ⟨weight,⟨gl,gad,gcap⟩⟩)]) ?_;simp only[rwP,amS];refine Ks ?_;intros;refine GO.ca (jO gad gl.length gcap gl rfl ab) ?_;rintro _ _⟨a0,a1,rfl,rfl⟩;refine Ks ?_;intros;refine KX.a8 (by exact ResOk.cell rfl aQ (ResOk.nil)) ?_ ⟨⟨weight,⟨gl,a0,a1⟩⟩,rfl,rfl,rfl⟩;refine(Ent.frz a0).trans ?_;exact ah
def AN{L:LH}(ad:OA)(c:Nat)(ms:List RwV)(hl:ms.length≤64)(hp:∀m∈ms,RwV.B m) :
  Tri Tryz.prog 244 #[ag ad ms.length c,.func (.func 245) #[] #[]] (isl fR 2 ad ms::allP rwP ms::L) (fun v L'=>∃a3 c' a1,v=ag a3 a1.length c'∧a1.map RwV.m=ms.map RwV.m∧L' = isl fR 2 a3 a1::allP rwP a1::isl fR 2 ad ms::allP rwP ms::L):=by
 refine Tri.bd ?_;by_cases h0:ms.length=0
 ·have e:ms=[]:=aZ h0;subst e;refine Ks ?_;intros;exact KX.a8 aA ((Ent.c7 rwP).trans (Ent.d9 fR 2 none)) ⟨none,0,[],rfl,rfl,rfl⟩
 refine Ks ?_;intros;refine GO.ef (Ef.f9 fR rw0 rfl rfl rfl ab ab ab ab) ae ?_;rintro _ _⟨bs,rfl,rfl⟩;rw[show(ms.length:Int).toNat=ms.length by omega];refine Ks ?_;intros
 refine G.loop (α:=Nat×List RwV) (fun z=>z.1≤ms.length∧z.2.length=ms.length∧(z.2.take z.1).map RwV.m=(ms.take z.1).map RwV.m) (fun z=>[(1,.func (.func 245) #[] #[]),(5,ag (some ⟨bs,0,none⟩) ms.length ms.length),(14,ag ad ms.length c),(15,ac (ms.length:Int)),(16,ac (z.1:Int))])
  (fun z=>osl fR 2 334 (some ⟨bs,0,none⟩) ms.length z.2::allP rwP (z.2.take z.1)::isl fR 2 ad ms::allP rwP ms::L) (fun z=>ms.length - z.1) (0,List.replicate ms.length rw0) ⟨aw _,by simp,by simp⟩ aC ?_ ?_
 ·dsimp only;rw[aR];refine(Ent.c7 rwP).trans ?_;exact ah
 rintro⟨i,zs⟩ ⟨hi,a6,a0⟩;dsimp only at hi a6 a0 ⊢;by_cases a2:i<ms.length
 case neg =>
  have a7:i=ms.length:=ab;subst a7;rw[aD ab,aD ab] at a0;rw[aD (ab:zs.length≤ms.length)];refine Ks ?_;intros;refine KX.a8 aA (Ent.freezeSl) ⟨some ⟨bs,0,none⟩,ms.length,zs,by rw[a6];rfl,a0,rfl⟩
 have a4:(i:Int).toNat=i:=ab;have a5:ms[i]!∈ms:=aV a2;refine Ks ?_;intros;rw[a4];refine GO.ent (Ent.at (A:=allP rwP ms) (Ent.c9 (x:=ms[i]!) a5)) ?_;refine GO.ef (Ef.c7 rfl rfl (AS ms[i]! (hp _ a5))) ae ?_;rintro _ _⟨m',rfl,a9,rfl⟩;refine Ks ?_;intros;refine GO.efu (Ef.f8 (e:=m') rfl rfl aQ aQ (vD _) ab) ?_;rintro _ _ rfl;rw[a4];refine Ks ?_;intros;refine⟨(i+1,zs.set i m'),⟨by dsimp only;omega,by dsimp only;simp;omega,?_⟩,by dsimp only;omega,?_,?_⟩
 ·dsimp only;rw[dV ab,az a2,aJ,aJ,a0,←getElem!_of a2];simp[a9]
 ·dsimp only;rw[bh i];exact aC
 ·dsimp only;rw[dV ab];refine Ent.a8 ?_;refine Ent.trans (B:=allP rwP (zs.take i)::rwP m'::isl fR 2 ad ms::allP rwP ms::L) ah ?_;exact(Ent.a8 (Ent.d8 vY)).trans (Ent.d7 vY)
structure TbM where
 name:ByteArray
 rows:List RwM
 deriving Inhabited
structure TbV where
 name:ByteArray
 rows:List RwV
 ad:OA
 cap:Nat
 deriving Inhabited
def TbV.m(t:TbV):TbM:=⟨t.name,t.rows.map RwV.m⟩
def eh(t:TbV):LV:=[.string t.name,ag t.ad t.rows.length t.cap]
def vC(t:TbV):∀u∈eh t,u.oneCell' = true:=by simp[eh,Value.oneCell']
instance:EncC eh:=⟨vC⟩
def tbP(t:TbV):HP:=andP (isl fR 2 t.ad t.rows) (allP rwP t.rows)
def lE(t:TbV):PersM (tbP t):=(bO _ _ _ _).and (cH vY)
def tb0:TbV:=⟨⟨#[]⟩,[],none,0⟩
def TbV.B(t:TbV):Prop:=t.rows.length≤64∧∀r∈t.rows,RwV.B r
def AR{L:LH}(t:TbV)(hb:t.B) :
  Tri Tryz.prog 163 #[aU (eh t)] (tbP t::L) (fun v L'=>∃t',v=aU (eh t')∧t'.m=t.m∧L' = tbP t'::tbP t::L):=by
 obtain⟨name,rows,ad,cap⟩:=t;obtain⟨a3,a4⟩:=hb;dsimp only at a3 a4;refine Tri.bd (args:=[aU (eh ⟨name,rows,ad,cap⟩)]) ?_;refine G.ent ((Ent.dup (lE _).pers).trans Ent.andE) ?_;refine Ks ?_;intros;refine GO.ent (Ent.at (A:=isl fR 2 ad rows) (Ent.a8 (Ent.at (A:=allP rwP rows) (Ent.refl _)))) ?_;refine GO.ca (AN ad cap rows a3 a4) ?_;rintro _ _⟨a2,c',a0,rfl,a1,rfl⟩;refine Ks ?_;intros;refine KX.a8 (by exact ResOk.cell rfl aQ (ResOk.nil)) ?_ ⟨⟨name,a0,a2,c'⟩,rfl,by simp only[TbV.m,a1],rfl⟩;refine Ent.trans (B:=isl fR 2 a2 a0::allP rwP a0::tbP ⟨name,rows,ad,cap⟩::L) ah ?_;exact Ent.f8 (bO _ _ _ _) (cH vY)
def AM{L:LH}(ad:OA)(c:Nat)(ms:List TbV)(hl:ms.length≤64)(hp:∀m∈ms,TbV.B m) :
  Tri Tryz.prog 162 #[ag ad ms.length c,.func (.func 163) #[] #[]] (isl eh 2 ad ms::allP tbP ms::L) (fun v L'=>∃a3 c' a1,v=ag a3 a1.length c'∧a1.map TbV.m=ms.map TbV.m∧L' = isl eh 2 a3 a1::allP tbP a1::isl eh 2 ad ms::allP tbP ms::L):=by
 refine Tri.bd ?_;by_cases h0:ms.length=0
 ·have e:ms=[]:=aZ h0;subst e;refine Ks ?_;intros;exact KX.a8 aA ((Ent.c7 tbP).trans (Ent.d9 eh 2 none)) ⟨none,0,[],rfl,rfl,rfl⟩
 refine Ks ?_;intros;refine GO.ef (Ef.f9 eh tb0 rfl rfl rfl ab ab ab ab) ae ?_;rintro _ _⟨bs,rfl,rfl⟩;rw[show(ms.length:Int).toNat=ms.length by omega];refine Ks ?_;intros
 refine G.loop (α:=Nat×List TbV) (fun z=>z.1≤ms.length∧z.2.length=ms.length∧(z.2.take z.1).map TbV.m=(ms.take z.1).map TbV.m) (fun z=>[(1,.func (.func 163) #[] #[]),(5,ag (some ⟨bs,0,none⟩) ms.length ms.length),(14,ag ad ms.length c),(15,ac (ms.length:Int)),(16,ac (z.1:Int))])
  (fun z=>osl eh 2 272 (some ⟨bs,0,none⟩) ms.length z.2::allP tbP (z.2.take z.1)::isl eh 2 ad ms::allP tbP ms::L) (fun z=>ms.length - z.1) (0,List.replicate ms.length tb0) ⟨aw _,by simp,by simp⟩ aC ?_ ?_
 ·dsimp only;rw[aR];refine(Ent.c7 tbP).trans ?_;exact ah
 rintro⟨i,zs⟩ ⟨hi,a6,a0⟩;dsimp only at hi a6 a0 ⊢;by_cases a2:i<ms.length
 case neg =>
  have a7:i=ms.length:=ab;subst a7;rw[aD ab,aD ab] at a0;rw[aD (ab:zs.length≤ms.length)];refine Ks ?_;intros;refine KX.a8 aA (Ent.freezeSl) ⟨some ⟨bs,0,none⟩,ms.length,zs,by rw[a6];rfl,a0,rfl⟩
 have a4:(i:Int).toNat=i:=ab;have a5:ms[i]!∈ms:=aV a2;refine Ks ?_;intros;rw[a4];refine GO.ent (Ent.at (A:=allP tbP ms) (Ent.c9 (x:=ms[i]!) a5)) ?_;refine GO.ef (Ef.c7 rfl rfl (AR ms[i]! (hp _ a5))) ae ?_;rintro _ _⟨m',rfl,a9,rfl⟩;refine Ks ?_;intros;refine GO.efu (Ef.f8 (e:=m') rfl rfl aQ aQ (vC _) ab) ?_;rintro _ _ rfl;rw[a4];refine Ks ?_;intros;refine⟨(i+1,zs.set i m'),⟨by dsimp only;omega,by dsimp only;simp;omega,?_⟩,by dsimp only;omega,?_,?_⟩
 ·dsimp only;rw[dV ab,az a2,aJ,aJ,a0,←getElem!_of a2];simp[a9]
 ·dsimp only;rw[bh i];exact aC
 ·dsimp only;rw[dV ab];refine Ent.a8 ?_;refine Ent.trans (B:=allP tbP (zs.take i)::tbP m'::isl eh 2 ad ms::allP tbP ms::L) ah ?_;exact(Ent.a8 (Ent.d8 lE)).trans (Ent.d7 lE)
structure TxM where
 name:ByteArray
 brs:List (Int×Int)
 deriving Inhabited
structure TxV where
 name:ByteArray
 brs:List (Int×Int)
 ad:OA
 cap:Nat
 deriving Inhabited
def TxV.m(t:TxV):TxM:=⟨t.name,t.brs⟩
def eg(t:TxV):LV:=[.string t.name,ag t.ad t.brs.length t.cap]
def vB(t:TxV):∀u∈eg t,u.oneCell' = true:=by simp[eg,Value.oneCell']
instance:EncC eg:=⟨vB⟩
def txP(t:TxV):HP:=isl cy 2 t.ad t.brs
def nj(t:TxV):PersM (txP t):=bO _ _ _ _
def tx0:TxV:=⟨⟨#[]⟩,[],none,0⟩
def TxV.B(t:TxV):Prop:=t.brs.length≤64
def yT{L:LH}(ad:OA)(n c:Nat)(xs:List (Int×Int))[Rds L ad (Int×Int) cy 2 xs](hn:n=xs.length)(hb:n≤1000000) :
  Tri Tryz.prog 246 #[ag ad n c] L (fun v L'=>∃a1 a0,v=ag a1 xs.length a0∧L' = osl cy 2 342 a1 a0 xs::L):=by
 refine Tri.bd ?_;repeat' first|refine aa ?_|intro _|with_reducible refine CB.dec (fun _=>?_) (fun _=>?_)|with_reducible refine GB.dec (fun _=>?_) (fun _=>?_)|with_reducible refine CB.bool (fun _=>?_) (fun _=>?_)|with_reducible refine GB.bool (fun _=>?_) (fun _=>?_)
 ·have h:ad=none:=by assumption
  subst h;refine KX.f7 (.inl rfl) (mI (L:=L) (xs:=xs)) ?_;intro hx;subst hx;refine KX.a8 aA (Ent.c8 cy 2 342) ⟨_,_,rfl,rfl⟩
 ·refine GO.ent (Ent.f7 (enc:=cy) (sz:=2) (xs:=[]) rfl rfl cc cc) ?_;refine GO.ef (Ef.d7 rfl rfl rfl rfl hn (fun e _=>kI e) gJ gJ) ae ?_;rintro _ _⟨a1,a0,rfl,rfl⟩;refine Ks ?_;intros;refine KX.a8 aA (Ent.refl _) ⟨a1,a0,rfl,rfl⟩
def AQ{L:LH}(t:TxV)(hb:t.B) :
  Tri Tryz.prog 165 #[aU (eg t)] (txP t::L) (fun v L'=>∃t',v=aU (eg t')∧t'.m=t.m∧L' = txP t'::txP t::L):=by
 obtain⟨name,brs,ad,cap⟩:=t;unfold TxV.B at hb;dsimp only at hb;refine Tri.bd (args:=[aU (eg ⟨name,brs,ad,cap⟩)]) ?_;simp only[txP];refine Ks ?_;intros;refine GO.ca (yT ad brs.length cap brs rfl ab) ?_;rintro _ _⟨a1,a0,rfl,rfl⟩;refine Ks ?_;intros;refine KX.a8 (by exact ResOk.cell rfl aQ (ResOk.nil)) ?_ ⟨⟨name,brs,a1,a0⟩,rfl,rfl,rfl⟩;refine(Ent.frz a1).trans ?_;exact ah
def AL{L:LH}(ad:OA)(c:Nat)(ms:List TxV)(hl:ms.length≤64)(hp:∀m∈ms,TxV.B m) :
  Tri Tryz.prog 164 #[ag ad ms.length c,.func (.func 165) #[] #[]] (isl eg 2 ad ms::allP txP ms::L) (fun v L'=>∃a3 c' a1,v=ag a3 a1.length c'∧a1.map TxV.m=ms.map TxV.m∧L' = isl eg 2 a3 a1::allP txP a1::isl eg 2 ad ms::allP txP ms::L):=by
 refine Tri.bd ?_;by_cases h0:ms.length=0
 ·have e:ms=[]:=aZ h0;subst e;refine Ks ?_;intros;exact KX.a8 aA ((Ent.c7 txP).trans (Ent.d9 eg 2 none)) ⟨none,0,[],rfl,rfl,rfl⟩
 refine Ks ?_;intros;refine GO.ef (Ef.f9 eg tx0 rfl rfl rfl ab ab ab ab) ae ?_;rintro _ _⟨bs,rfl,rfl⟩;rw[show(ms.length:Int).toNat=ms.length by omega];refine Ks ?_;intros
 refine G.loop (α:=Nat×List TxV) (fun z=>z.1≤ms.length∧z.2.length=ms.length∧(z.2.take z.1).map TxV.m=(ms.take z.1).map TxV.m) (fun z=>[(1,.func (.func 165) #[] #[]),(5,ag (some ⟨bs,0,none⟩) ms.length ms.length),(14,ag ad ms.length c),(15,ac (ms.length:Int)),(16,ac (z.1:Int))])
  (fun z=>osl eg 2 277 (some ⟨bs,0,none⟩) ms.length z.2::allP txP (z.2.take z.1)::isl eg 2 ad ms::allP txP ms::L) (fun z=>ms.length - z.1) (0,List.replicate ms.length tx0) ⟨aw _,by simp,by simp⟩ aC ?_ ?_
 ·dsimp only;rw[aR];refine(Ent.c7 txP).trans ?_;exact ah
 rintro⟨i,zs⟩ ⟨hi,a6,a0⟩;dsimp only at hi a6 a0 ⊢;by_cases a2:i<ms.length
 case neg =>
  have a7:i=ms.length:=ab;subst a7;rw[aD ab,aD ab] at a0;rw[aD (ab:zs.length≤ms.length)];refine Ks ?_;intros;refine KX.a8 aA (Ent.freezeSl) ⟨some ⟨bs,0,none⟩,ms.length,zs,by rw[a6];rfl,a0,rfl⟩
 have a4:(i:Int).toNat=i:=ab;have a5:ms[i]!∈ms:=aV a2;refine Ks ?_;intros;rw[a4];refine GO.ent (Ent.at (A:=allP txP ms) (Ent.c9 (x:=ms[i]!) a5)) ?_;refine GO.ef (Ef.c7 rfl rfl (AQ ms[i]! (hp _ a5))) ae ?_;rintro _ _⟨m',rfl,a9,rfl⟩;refine Ks ?_;intros;refine GO.efu (Ef.f8 (e:=m') rfl rfl aQ aQ (vB _) ab) ?_;rintro _ _ rfl;rw[a4];refine Ks ?_;intros;refine⟨(i+1,zs.set i m'),⟨by dsimp only;omega,by dsimp only;simp;omega,?_⟩,by dsimp only;omega,?_,?_⟩
 ·dsimp only;rw[dV ab,az a2,aJ,aJ,a0,←getElem!_of a2];simp[a9]
 ·dsimp only;rw[bh i];exact aC
 ·dsimp only;rw[dV ab];refine Ent.a8 ?_;refine Ent.trans (B:=allP txP (zs.take i)::txP m'::isl eg 2 ad ms::allP txP ms::L) ah ?_;exact(Ent.a8 (Ent.d8 nj)).trans (Ent.d7 nj)
structure CatM where
 items:List ItG
 rules:List RuM
 tables:List TbM
 taxes:List TxM
structure CatV where
 items:List ItG
 iad:OA
 icap:Nat
 rules:List RuV
 rad:OA
 rcap:Nat
 tables:List TbV
 tad:OA
 tcap:Nat
 taxes:List TxV
 xad:OA
 xcap:Nat
def CatV.m(c:CatV):CatM:=⟨c.items,c.rules.map RuV.m,c.tables.map TbV.m,c.taxes.map TxV.m⟩
def CatV.cells(c:CatV):LV:=[ag c.iad c.items.length c.icap,ag c.rad c.rules.length c.rcap,ag c.tad c.tables.length c.tcap,ag c.xad c.taxes.length c.xcap]
def catI(c:CatV):HP:=isl dL 7 c.iad c.items
def catR(c:CatV):HP:=andP (isl dE 9 c.rad c.rules) (allP ruP c.rules)
def catT(c:CatV):HP:=andP (isl eh 2 c.tad c.tables) (allP tbP c.tables)
def catX(c:CatV):HP:=andP (isl eg 2 c.xad c.taxes) (allP txP c.taxes)
def catP(c:CatV):HP:=andP (catI c) (andP (catR c) (andP (catT c) (catX c)))
def Gc(c:CatV):PersM (catI c):=bO _ _ _ _
def yU(c:CatV):PersM (catR c):=(bO _ _ _ _).and (cH mq)
def tV(c:CatV):PersM (catT c):=(bO _ _ _ _).and (cH lE)
def tU(c:CatV):PersM (catX c):=(bO _ _ _ _).and (cH nj)
def tW(c:CatV):PersM (catP c):=(Gc c).and ((yU c).and ((tV c).and (tU c)))
structure CatV.B (c:CatV):Prop where
 items:c.items.length≤64
 rules:c.rules.length≤64
 tables:c.tables.length≤64
 taxes:c.taxes.length≤64
 ru:∀r∈c.rules,RuV.B r
 tb:∀r∈c.tables,TbV.B r
 tx:∀r∈c.taxes,TxV.B r
abbrev CE:List Stp:=[.ev 0,.ev 1,.ev 3,.ev 4,.ev 6,.ev 7,.ev 9,.ev 10,.ef 2,.ef 5,.ef 8,.ef 11,.ev 12,.ef 13]
def KF{φ ψ:Prop}(k:ψ)(h:Hid ψ→φ:=by intro k;(repeat (first|refine aa ?_|intro zzz|refine G.dr 16 1 CE ?_));(repeat revert zzz);exact Hid.out k):φ:=h ⟨k⟩
def pG{L:LH}(c:CatV)(hb:c.B) :
  Tri Tryz.prog 108 #[aU c.cells] (catP c::L) (fun v L'=>∃c',v=.agg c'.cells.toArray∧c'.m=c.m∧L' = catP c'::catP c::L):=by
 obtain⟨items,iad,icap,rules,rad,rcap,tables,tad,tcap,taxes,xad,xcap⟩:=c;obtain⟨c1,b5,b6,b7,b8,b9,c0⟩:=hb;dsimp only at c1 b5 b6 b7 b8 b9 c0;refine Tri.bd (args:=[aU (CatV.cells ⟨items,iad,icap,rules,rad,rcap,tables,tad,tcap,taxes,xad,xcap⟩)]) ?_;refine G.ent ((Ent.dup (tW _).pers).trans (Ent.andE.trans (Ent.a8 (Ent.andE.trans (Ent.a8 Ent.andE))))) ?_;simp only[catI,catR,catT,catX];refine G.ent (Ent.a8 (Ent.andE.trans (Ent.a8 (Ent.a8 (Ent.andE.trans (Ent.a8 (Ent.a8 Ent.andE))))))) ?_;refine KF ?_;intros;refine GPW.ca (vV iad items.length icap items rfl ab) ?_;rintro _ _⟨a6,a7,rfl,rfl⟩;refine KF ?_;intros;refine GPW.ent (Ent.at (A:=isl dE 9 rad rules) (Ent.a8 (Ent.at (A:=allP ruP rules) (Ent.refl _)))) ?_;refine GPW.ca (AO rad rcap rules b5 b8) ?_;rintro _ _⟨a9,b0,a1,rfl,a4,rfl⟩;refine KF ?_;intros;refine GPW.ent (Ent.at (A:=isl eh 2 tad tables) (Ent.a8 (Ent.at (A:=allP tbP tables) (Ent.refl _)))) ?_;refine GPW.ca (AM tad tcap tables b6 b9) ?_;rintro _ _⟨b1,b2,a0,rfl,a3,rfl⟩;refine KF ?_;intros;refine GPW.ent (Ent.at (A:=isl eg 2 xad taxes) (Ent.a8 (Ent.at (A:=allP txP taxes) (Ent.refl _)))) ?_;refine GPW.ca (AL xad xcap taxes b7 c0) ?_;rintro _ _⟨b3,b4,a2,rfl,a5,rfl⟩;refine KF ?_;intros;refine KX.a8 (by exact ResOk.cell rfl aQ (ResOk.nil)) ?_ ⟨⟨items,a6,a7,a1,a9,b0,a0,b1,b2,a2,b3,b4⟩,rfl,by simp only[CatV.m,a4,a3,a5],rfl⟩;refine(Ent.frz a6).trans ?_;refine Ent.trans (B:=isl dL 7 a6 items::isl dE 9 a9 a1::allP ruP a1::isl eh 2 b1 a0::allP tbP a0::isl eg 2 b3 a2::allP txP a2::catP ⟨items,iad,icap,rules,rad,rcap,tables,tad,tcap,taxes,xad,xcap⟩::L) ah ?_;refine(Ent.a8 ((Ent.f8 (bO _ _ _ _) (cH mq)).trans (Ent.a8 ((Ent.f8 (bO _ _ _ _) (cH lE)).trans (Ent.a8 (Ent.f8 (bO _ _ _ _) (cH nj))))))).trans ?_;refine(Ent.a8 (Ent.a8 (Ent.f8 ((bO _ _ _ _).and (cH lE)) ((bO _ _ _ _).and (cH nj))))).trans ?_;refine(Ent.a8 (Ent.f8 ((bO _ _ _ _).and (cH mq)) (((bO _ _ _ _).and (cH lE)).and ((bO _ _ _ _).and (cH nj))))).trans ?_;exact Ent.f8 (bO _ _ _ _) (((bO _ _ _ _).and (cH mq)).and (((bO _ _ _ _).and (cH lE)).and ((bO _ _ _ _).and (cH nj))))
