/- Lemmas. -/
import Derived.Test.YtlgpgjdggilkgaaGreatDoorEcbh
set_option linter.all false
set_option maxHeartbeats 8000000
namespace Go.Proofs.YtlgpgjdggilkgaaGreatDoor
open Go.V
abbrev tKy:Nat:=157
instance keyLeg:KeyT Tryz.prog 157 kvP:=keyP
def pQ{κ:Type}[DecidableEq κ](k:κ):∀l:List κ,((List.lookup k (l.map fun g=>(g,true))).map bT).getD (.bool false)=.bool (dB (k∈l))
 | []=>by rw[aW (fun h=>absurd h ay)];rfl
 | g::l=>by
  by_cases h:k=g
  ·subst h;rw[bE av];simp[bT]
  ·have h2:(k == g)=false:=by simpa using h
   have ih:=pQ k l;rw[show dB (k∈g::l)=dB (k∈l) by rw[dK,dK];simp[h],←ih,aF,cx];simp only[h2]
def Ip{k:Int×Int}{l:List (Int×Int)}(h:k∈l):((@List.lookup _ _ instBEqOfDecidableEq k (tfK l)).map bT).getD (.bool false)=.bool true :=
 (pQ k l).trans (congrArg Value.bool (by rw[dK];simp[h]))
def GG{k:Int×Int}{l:List (Int×Int)}(h:k∉l):((@List.lookup _ _ instBEqOfDecidableEq k (tfK l)).map bT).getD (.bool false)=.bool false :=
 (pQ k l).trans (congrArg Value.bool (by rw[dK];simp[h]))
def Ii{l:List (Int×Int)}{k:Int×Int}(h:k∉l):gins (tfK l) k true=tfK (l++[k]):=by
 cases hg:glk (tfK l) k with
 | some b =>
  obtain⟨g,h1,h2⟩:=List.mem_map.1 (cu hg);have:g=k:=congrArg Prod.fst h2;exact absurd (this▸h1) h
 | none =>
  rw[sr hg];unfold tfK;rw[aJ];rfl
def wg(to:Int)(p:(Int×Int)×Int):MvM:=⟨0,to,p.1.1,p.1.2,[(p.2,0,p.1.2)]⟩
def impM(to:Int)(am:List (Int×Int))(fl:List Int):List MvM:=(am.zip fl).map (wg to)
def oZ{to:Int}{am:List (Int×Int)}{fl:List Int}(h:fl.length=am.length):(impM to am fl).length=am.length:=by
 unfold impM;rw[an,List.length_zip,h,Nat.min_self]
def IR{to:Int}{am:List (Int×Int)}{fl:List Int}(h:fl.length=am.length){i:Nat}(hi:i<am.length):(impM to am fl)[i]'(by rw[oZ h];exact hi)=wg to (am[i]!,fl[i]!):=by
 unfold impM;rw[eC,List.getElem_zip,getElem!_of hi,getElem!_of ab]
def rV{to:Int}:∀{am:List (Int×Int)} {fl:List Int},fl.length=am.length→mvK (impM to am fl)=2*am.length
 | [],[],_=>rfl
 | a::am,f::fl,h=>by
  have ih:=rV (to:=to) (am:=am) (fl:=fl) (by simpa using h);show(1+1)+mvK (impM to am fl)=_;rw[ih,aM];omega
 | a::am,[],h=>by simp at h
 | [],f::fl,h=>by simp at h
structure ImpIn (to:Int) (am:List (Int×Int)) (fl:List Int) (i:Nat) (zs:List MvV):Prop where
 le:i≤am.length
 len:zs.length=am.length
 ms:zs.map MvV.m=(impM to am fl).take i++(mvsN 0 to am).drop i
 cap:∀m∈zs,m.m.parts.length≤m.pcap
def ImpIn.zero{to:Int}{am:List (Int×Int)}{fl:List Int}:ImpIn to am fl 0 (mvsA 0 to am):=by
 refine⟨aw _,?_,?_,fun m hm=>?_⟩
 ·unfold mvsA;rw[an]
 ·rw[kf];rfl
 ·obtain⟨a,_,rfl⟩:=List.mem_map.1 hm;exact aq _
def ImpIn.at{to:Int}{am:List (Int×Int)}{fl:List Int}{i:Nat}{zs:List MvV}(h:ImpIn to am fl i zs)(hf:fl.length=am.length)(hi:i<am.length):zs[i]!.m=⟨0,to,am[i]!.1,am[i]!.2,[]⟩:=by
 have hl:=oZ (to:=to) hf;have e:=gw (f:=MvV.m) (l:=zs) (i:=i) (by rw[h.len];exact hi);have a0:(mvsN 0 to am).length=am.length:=by unfold mvsN;rw[an]
 rw[←e,h.ms,getElem!_of (by rw[aj,aK,bY];omega),cM (by rw[aK];omega),fu];unfold mvsN;rw[eC];simp only[aK,hl,dp h.le];rw[getElem!_of hi];simp
def ImpIn.next{to:Int}{am:List (Int×Int)}{fl:List Int}{i:Nat}{zs:List MvV}(h:ImpIn to am fl i zs)(hf:fl.length=am.length)(hi:i<am.length){z:MvV}(hz:z.m=wg to (am[i]!,fl[i]!))(hc:1≤z.pcap):ImpIn to am fl (i+1) (zs.set i z):=by
 have hl:=oZ (to:=to) hf;have a0:(mvsN 0 to am).length=am.length:=by unfold mvsN;rw[an]
 refine⟨hi,by rw[bH];exact h.len,?_,fun m hm=>?_⟩
 ·rw[List.map_set,h.ms,eN _ _ (by rw[aK];omega),aK,hl,dp h.le,Nat.sub_self,bV ab,fX,az ab,IR hf hi,hz,aB];rfl
 ·rcases dj hm with q|rfl
  ·exact h.cap m q
  ·rw[hz];exact hc
noncomputable def gC(sh from_:Int)(m:CtM)(tick:Int)(N:NdM)(S:LedM):HRes :=
 if(m.id,m.index)∈N.recv then([⟨sh,from_,ct0 6 m.id m.index false⟩],N,S)
 else if m.legs.length=1∧m.flows.length=m.legs[0]!.am.length then
  if gOk S 5 tick (impM m.legs[0]!.to m.legs[0]!.am m.flows)=true then([⟨sh,from_,ct0 6 m.id m.index false⟩],{ N with recv:=N.recv++[(m.id,m.index)] },gAft S 5 tick (impM m.legs[0]!.to m.legs[0]!.am m.flows)) else([],N,S)
 else([],N,S)
attribute [local irreducible] G GO GP GPW GPK GF GE Ev Ef EfR Ent CB GB V.Enters
abbrev Ad:=XB [.ev 6]
abbrev Ac:=XE [.ev 13,.ev 14,.ev 15]
abbrev Ab:=XD [.ef 10,.ev 11]
abbrev Aa:=XE [.ef 13,.ev 14,.ev 15,.ef 16]
abbrev xw:=XA [.ev 4,.ef 5]
def Uv{φ ψ:Prop}(k:ψ)(h:Hid ψ→φ:=by intro k;(repeat (first|refine aa ?_|intro zzz|refine G.dr 98 2 Ad ?_|refine G.dr 98 3 Ac ?_|refine G.dr 98 5 Ab ?_|refine G.dr 98 9 Aa ?_|refine G.dr 98 14 xw ?_));(repeat revert zzz);exact Hid.out k):φ:=h ⟨k⟩
def tw{L:LH}(nb lb:Nat)(sh shs:Int)(n:NdV)(S:LedM)(cat:CatM)(hS:LdI sh cat (kOf S) S)(from_ tick:Int)(c:CtV)(hc:CtOk c.m)(hk:∀l∈c.m.legs,kOf S+2*l.am.length≤2000) :
  Tri Tryz.prog 141 #[ax nb,ac from_,aU (eW c),ac tick] (ctP c::ndL nb lb sh shs n (aS lb S::L)) (lN nb lb sh shs (gC sh from_ c.m tick n.m S) L):=by
 have a6:I64 c.id:=hc.num.2.1;have a7:I64 c.index:=hc.num.2.2;refine Tri.bd ?_;simp only[ndL,ndC];refine G.ent yP ?_;have c0:c.m.legs.length=c.legs.length:=an _;refine Uv ?_;intros;refine GPW.evL (Ev.f9 (k:=(c.id,c.index)) rfl rfl) ae ?_;by_cases hin:(c.id,c.index)∈n.recv
 ·rw[Ip hin];have hr:gC sh from_ c.m tick n.m S=([⟨sh,from_,ct0 6 c.id c.index false⟩],n.m,S):=if_pos hin;refine Uv ?_;intros;refine GO.ent (L':=obj nb tNd [ax lb,ac sh,ac shs,ac n.cnt,ac n.hl,.map (some n.mb),.map (some n.mp),.map (some n.mr)]::ctP (ct0V 6 c.id c.index false)::(gmap kvI cJ n.mb n.begun::bigO exF n.begun::gmap kvI cL n.mp n.parts::bigO ptF n.parts::gmap kvP bT n.mr (tfK n.recv)::aS lb S::L)) ((ct0_P (kind:=6) (id:=c.id) (index:=c.index) (yes:=false)).trans ah) ?_;refine GO.ca (fB nb lb sh shs n.cnt n.hl n.mb n.mp n.mr from_ (ct0V 6 c.id c.index false) (ju (kind:=6) (by unfold I64;omega) a6 a7)) ?_;rintro _ _⟨y,rfl,hy,rfl⟩;simp only[ndC];refine Uv ?_;intros;rename_i a1;rw[hr];refine KX.a8 aA ?_ ⟨some ⟨a1,0,none⟩,1,[y],({ n with recv:=n.recv }:NdV),rfl,by rw[aF,bG,hy];rfl,rfl,rfl⟩;refine(Ent.at (A:=msP y) (Ent.d8 (f:=msP) fq)).trans ?_;refine(Ent.at (A:=obj a1 tMs [ac y.m.frm,ac y.m.to,ag y.ad (ctB y.m.ct).length y.cap]) (Ent.f7 (enc:=bC) (sz:=3) (xs:=[y]) (n:=1) (by simp only[aO,cW,aH];rfl) rfl (by intro x hx;rfl) ae)).trans ?_;simp only[ndL,ndC];exact ah
 ·rw[GG hin];by_cases h1:c.legs.length=1
  ·have a3:c.m.legs[0]! = c.legs[0]!.m:=gw ab;by_cases h2:(c.flows.length:Int)=(c.legs[Int.toNat 0]!.m.am.length:Int)
   ·have a2 : c.flows.length=c.legs[0]!.m.am.length:=by
     rw[show Int.toNat 0=0 from rfl] at h2;omega
    have a0:c.legs[0]!∈c.legs:=by rw[getElem!_of ab];exact bR ab
    have b3:lM c.legs[0]!.m:=hc.lg _ (alStd0List_mem_map_of_mem a0);have b8:=b3.2.1;have c3:kOf S+2*c.legs[0]!.m.am.length≤2000:=hk _ (alStd0List_mem_map_of_mem a0);have c1:=hc.fl;have b1:=hc.fn
    have b0:gC sh from_ c.m tick n.m S=if gOk S 5 tick (impM c.legs[0]!.m.to c.legs[0]!.m.am c.flows)=true then([⟨sh,from_,ct0 6 c.id c.index false⟩],{ n.m with recv:=n.recv++[(c.id,c.index)] },gAft S 5 tick (impM c.legs[0]!.m.to c.legs[0]!.m.am c.flows)) else([],n.m,S):=by
     unfold gC;rw[if_neg (show ¬(c.m.id,c.m.index)∈n.m.recv from hin),if_pos (show c.m.legs.length=1∧c.m.flows.length=c.m.legs[0]!.am.length from⟨ab,by rw[a3];exact a2⟩),a3];rfl
    refine Uv ?_;intros;refine GPW.ent (Ent.at (A:=allP legP c.legs) (Ent.c9 (f:=legP) a0)) ?_;rw[show Int.toNat 0=0 from rfl];refine GPW.ca (jB c.legs[0]!.ad _ _ c.legs[0]!.m.am rfl ab 0 c.legs[0]!.m.to) ?_;rintro _ _⟨mad,mcap,rfl,rfl⟩;refine Uv ?_;intros;rename_i b6 b9;refine G.loop (α:=Nat×List MvV) (fun g=>ImpIn c.legs[0]!.m.to c.legs[0]!.m.am c.flows g.1 g.2) (fun g=>[(0,ax nb),(1,ac from_),(3,ac tick),(6,ax b6),(9,ax b9),(10,ag mad g.2.length mcap),(54,ac (c.legs[0]!.m.am.length:Int)),(55,ac (g.1:Int))]) (fun g=>osl cj 5 tMv mad mcap g.2::allP mvP g.2::isl (encZ .i64) 1 c.fad c.flows::legP c.legs[0]!::obj b9 tKy [ac c.id,ac c.index]::obj b6 tCt (eW c)::obj nb tNd [ax lb,ac sh,ac shs,ac n.cnt,ac n.hl,.map (some n.mb),.map (some n.mp),.map (some n.mr)]::gmap kvI cJ n.mb n.begun::bigO exF n.begun::gmap kvI cL n.mp n.parts::bigO ptF n.parts::gmap kvP bT n.mr (tfK n.recv)::aS lb S::L) (fun g=>c.legs[0]!.m.am.length - g.1) (0,mvsA 0 c.legs[0]!.m.to c.legs[0]!.m.am) ImpIn.zero (by dsimp only;rw[show(mvsA 0 c.legs[0]!.m.to c.legs[0]!.m.am).length=c.legs[0]!.m.am.length by unfold mvsA;rw[an]];exact aC) ((Ent.j8 0 c.legs[0]!.m.to c.legs[0]!.m.am).trans (by dsimp only;exact ah)) ?_;rintro⟨i,zs⟩ hI;dsimp only at hI ⊢;have c5:=hI.len;have c4:=hI.le;by_cases a9:i<c.legs[0]!.m.am.length
    case neg =>
     have c2:=oZ (to:=c.legs[0]!.m.to) a2
     have a4:zs.map MvV.m=(impM c.legs[0]!.m.to c.legs[0]!.m.am c.flows):=by
      rw[hI.ms,aD ab,bQ (by unfold mvsN;rw[an];omega),aH]
     have b4:mvK (impM c.legs[0]!.m.to c.legs[0]!.m.am c.flows)=2*c.legs[0]!.m.am.length:=rV a2
     have b7:StInG (estp 5 tick zs mad mcap):=by
      have hm:∀m∈zs,∃a f,f∈c.flows∧m.m=wg c.legs[0]!.m.to (a,f):=fun m hm=>by
       have h3:m.m∈(impM c.legs[0]!.m.to c.legs[0]!.m.am c.flows):=by rw[←a4];exact alStd0List_mem_map_of_mem hm
       unfold impM at h3;obtain⟨⟨a,f⟩,h4,h5⟩:=List.mem_map.1 h3;exact⟨a,f,(List.of_mem_zip h4).2,h5.symm⟩
      refine⟨show zs.length≤1000000 by omega,by show I64 (-1);unfold I64;omega,fun m h=>?_,hI.cap,fun m h p hp=>?_⟩
      ·obtain⟨a,f,_,e⟩:=hm m h;rw[e];exact(show(1:Nat)≤9223372036854775807 by decide)
      ·obtain⟨a,f,hf,e⟩:=hm m h;rw[e] at hp;obtain rfl:=List.mem_singleton.1 hp;exact(b1 f hf).2
     refine Uv ?_;intros;refine GO.ent (L':=osl cj 5 tMv mad mcap zs::allP mvP zs::obj nb tNd [ax lb,ac sh,ac shs,ac n.cnt,ac n.hl,.map (some n.mb),.map (some n.mp),.map (some n.mr)]::aS lb S::(obj b9 tKy [ac c.id,ac c.index]::obj b6 tCt (eW c)::gmap kvI cJ n.mb n.begun::bigO exF n.begun::gmap kvI cL n.mp n.parts::bigO ptF n.parts::gmap kvP bT n.mr (tfK n.recv)::L)) ah ?_;refine GO.ca (jx nb lb sh shs n.cnt n.hl n.mb n.mp n.mr cat (kOf S) S hS 5 tick zs mad mcap b7 (by rw[a4,b4];omega)) ?_;rw[a4];rintro _ _⟨fad,fcap,rfl,rfl⟩;simp only[ndC];cases hgo:gOk S 5 tick (impM c.legs[0]!.m.to c.legs[0]!.m.am c.flows) with
     | true =>
      have hr:=b0;rw[if_pos hgo] at hr;refine Uv ?_;intros;refine GPW.efu (Ef.c9 (k:=(c.id,c.index)) (enc:=bT) true rfl rfl rfl rfl) ?_;rintro _ _ rfl;rw[Ii hin];refine Uv ?_;intros;refine GO.ent (L':=obj nb tNd [ax lb,ac sh,ac shs,ac n.cnt,ac n.hl,.map (some n.mb),.map (some n.mp),.map (some n.mr)]::ctP (ct0V 6 c.id c.index false)::(gmap kvI cJ n.mb n.begun::bigO exF n.begun::gmap kvI cL n.mp n.parts::bigO ptF n.parts::gmap kvP bT n.mr (tfK (n.recv++[(c.id,c.index)]))::aS lb (gAft S 5 tick (impM c.legs[0]!.m.to c.legs[0]!.m.am c.flows))::L)) ((ct0_P (kind:=6) (id:=c.id) (index:=c.index) (yes:=false)).trans ah) ?_;refine GO.ca (fB nb lb sh shs n.cnt n.hl n.mb n.mp n.mr from_ (ct0V 6 c.id c.index false) (ju (kind:=6) (by unfold I64;omega) a6 a7)) ?_;rintro _ _⟨y,rfl,hy,rfl⟩;simp only[ndC];refine Uv ?_;intros;rename_i a1;rw[hr];refine KX.a8 aA ?_ ⟨some ⟨a1,0,none⟩,1,[y],({ n with recv:=(n.recv++[(c.id,c.index)]) }:NdV),rfl,by rw[aF,bG,hy];rfl,rfl,rfl⟩;refine(Ent.at (A:=msP y) (Ent.d8 (f:=msP) fq)).trans ?_;refine(Ent.at (A:=obj a1 tMs [ac y.m.frm,ac y.m.to,ag y.ad (ctB y.m.ct).length y.cap]) (Ent.f7 (enc:=bC) (sz:=3) (xs:=[y]) (n:=1) (by simp only[aO,cW,aH];rfl) rfl (by intro x hx;rfl) ae)).trans ?_;simp only[ndL,ndC];exact ah
     | false =>
      have hr:=b0;rw[if_neg (by rw[hgo];exact cS)] at hr;have b5:=mL hgo;rw[b5];refine Uv ?_;intros;rw[hr];refine KX.a8 aA ?_ ⟨none,0,[],n,rfl,rfl,rfl,rfl⟩;refine(Ent.c8 bC 3 tMs).trans ((Ent.c7 msP).trans ?_);simp only[ndL,ndC];exact ah
    have b2:(i:Int).toNat=i:=ab;have a5:=hI.at a2 a9;refine Uv ?_;intros;rename_i bl;rw[b2,show zs[i]!.m.n=c.legs[0]!.m.am[i]!.2 by rw[a5]];refine GPW.efu (Ef.f7 (enc:=cj) (e:=(⟨⟨0,c.legs[0]!.m.to,c.legs[0]!.m.am[i]!.1,c.legs[0]!.m.am[i]!.2,[(c.flows[i]!,0,c.legs[0]!.m.am[i]!.2)]⟩,some ⟨bl,0,none⟩,1⟩:MvV)) rfl rfl (by rw[show cj zs[i]! = [ac zs[i]!.m.frm,ac zs[i]!.m.to,ac zs[i]!.m.item,ac zs[i]!.m.n,ag zs[i]!.pad zs[i]!.m.parts.length zs[i]!.pcap] from rfl,a5];rfl) rfl ab ae) ?_;rintro _ _ rfl;refine Uv ?_;intros;refine⟨(i+1,zs.set i (⟨⟨0,c.legs[0]!.m.to,c.legs[0]!.m.am[i]!.1,c.legs[0]!.m.am[i]!.2,[(c.flows[i]!,0,c.legs[0]!.m.am[i]!.2)]⟩,some ⟨bl,0,none⟩,1⟩:MvV)),hI.next a2 a9 rfl (aq _),by dsimp only;omega,?_,?_⟩
    ·dsimp only;rw[bH,bh i];exact aC
    ·dsimp only;refine(Ent.at (A:=obj bl tLot [ac c.flows[i]!,ac 0,ac c.legs[0]!.m.am[i]!.2]) (Ent.f7 (enc:=aG) (sz:=3) (xs:=[((c.flows[i]!,0,c.legs[0]!.m.am[i]!.2):Lot)]) (n:=1) aQ rfl (by intro x hx;rfl) ae)).trans ?_;refine Ent.freezeSl.trans ?_;refine(Ent.at (A:=allP mvP zs) (Ent.refl _)).trans ?_;refine(Ent.at (A:=isl aG 3 (some ⟨bl,0,none⟩) [((c.flows[i]!,0,c.legs[0]!.m.am[i]!.2):Lot)]) (Ent.j6 (f:=mvP) (l:=zs) (i:=i) (x:=(⟨⟨0,c.legs[0]!.m.to,c.legs[0]!.m.am[i]!.1,c.legs[0]!.m.am[i]!.2,[(c.flows[i]!,0,c.legs[0]!.m.am[i]!.2)]⟩,some ⟨bl,0,none⟩,1⟩:MvV)) kl)).trans ?_;exact ah
   ·have hr:gC sh from_ c.m tick n.m S=([],n.m,S):=by
     unfold gC
     rw[if_neg (show ¬(c.m.id,c.m.index)∈n.m.recv from hin),if_neg (fun q=>h2 (by
      have q2:=q.2;rw[a3] at q2;rw[show Int.toNat 0=0 from rfl];have q3:c.flows.length=c.legs[0]!.m.am.length:=q2;omega))]
    refine Uv ?_;intros;rw[hr];refine KX.a8 aA ?_ ⟨none,0,[],n,rfl,rfl,rfl,rfl⟩;refine(Ent.c8 bC 3 tMs).trans ((Ent.c7 msP).trans ?_);simp only[ndL,ndC];exact ah
  ·have hr:gC sh from_ c.m tick n.m S=([],n.m,S):=by
    unfold gC;rw[if_neg (show ¬(c.m.id,c.m.index)∈n.m.recv from hin),if_neg (fun q=>h1 ab)]
   refine Uv ?_;intros;rw[hr];refine KX.a8 aA ?_ ⟨none,0,[],n,rfl,rfl,rfl,rfl⟩;refine(Ent.c8 bC 3 tMs).trans ((Ent.c7 msP).trans ?_);simp only[ndL,ndC];exact ah
end Go.Proofs.YtlgpgjdggilkgaaGreatDoor
namespace Go.V
section
variable {P:Program}{env:Env}{L:LH}{ty:TypeId}{κ α:Type}[DecidableEq κ]
def Ef.insG{t:TypeId}{x y z' : Operand}{b K E:Nat}{z v a0:Value}{kv:κ→Value}{enc:α→Value}{m:List (κ×α)}{Rest:LH}{k:κ}(e:α)[ht:TyG P t K E z][hk:KeyT P K kv][hp:PickG L b κ α kv enc m Rest](hx:evE env x=some (.map (some b)))(hy:evE env y=some a0)(hz:evE env z' = some v)[a3:KeyVal kv a0 k](hv:v=enc e)
  : Ef P L env (.insert t x y z') ty (fun _ L'=>L' = gmap kv enc b (gins m k e)::Rest):=by
 rintro θ R a w ⟨a2,a4,a1,pos,af,g⟩ next Q ha s rfl rfl hn
 exact Ef.c9 (ty:=a1) e hx hy hz hv θ R a w ⟨a2,.mapUpdate t x y z',a1,pos,af,g⟩ next Q ha s rfl rfl hn
end
end Go.V
namespace Go.Proofs.YtlgpgjdggilkgaaGreatDoor
open Go.V
def jY(f:Nat):Value:=.func (.func f) #[] #[]
def hTab:List (Int×Nat):=[(1,137),(2,138),(3,139),(4,140),(5,141),(6,142)]
noncomputable def bZ(sh from_:Int)(m:CtM)(tick:Int)(N:NdM)(S:LedM):HRes :=
 if m.kind=1 then iq sh m tick N S
 else if m.kind=2 then gy sh from_ m tick N S
 else if m.kind=3 then fF sh m tick N S
 else if m.kind=4 then jD from_ m N S
 else if m.kind=5 then gC sh from_ m tick N S
 else if m.kind=6 then gotM m N S
 else([],N,S)
def pot(N:NdM):Nat:=(N.parts.map fun p=>de p.2.legs).sum
def amT(ls:List LegM):Nat:=(ls.map fun l=>l.am.length).sum
def ug{α:Type}{f:α→Nat}:∀{l:List α} {x:α},x∈l→f x≤(l.map f).sum
 | y::l,x,h=>by
  rw[aF,cq];rcases List.mem_cons.1 h with rfl|h
  ·omega
  ·have:=ug (f:=f) h;omega
def qU{N:NdM}{p:Int×PtM}(h:p∈N.parts):de p.2.legs≤pot N:=ug (f:=fun p:Int×PtM=>de p.2.legs) h
def uP{ls:List LegM}{l:LegM}(h:l∈ls):l.am.length≤amT ls:=ug (f:=fun l:LegM=>l.am.length) h
def ur(sh:Int):∀(k:Int) (ls:List LegM),de (ownM sh k ls)≤amT ls
 | _,[]=>aq _
 | k,l::ls=>by
  have ih:=ur sh (k+1) ls;have e:amT (l::ls)=l.am.length+amT ls:=by unfold amT;rw[aF,cq]
  rw[e];unfold ownM;split
  ·have e2:∀(a:OwM) (q:List OwM),de (a::q)=fL a+de q:=fun a q=>by unfold de;rw[aF,cq]
   rw[e2,show fL ⟨l,k,0,[]⟩=l.am.length from if_pos rfl];omega
  ·omega
structure HIn (cat:CatM) (sh:Int) (N:NdM) (S:LedM):Prop where
 led:LdI sh cat (kOf S) S
 hl:0≤N.hl∧N.hl≤kOf S
 nd:(N.parts.map (·.1)).Nodup
 giv:∀p∈N.begun,p.2.givers.length≤100
 pts:∀p∈N.parts,PtOk p.2
def HIn.givV{cat:CatM}{sh:Int}{n:NdV}{S:LedM}(h:HIn cat sh n.m S):∀p∈n.begun,p.2.givers.length≤100:=fun p hp=>h.giv (p.1,p.2.m) (List.mem_map.2 ⟨p,hp,rfl⟩)
def HIn.ptsV{cat:CatM}{sh:Int}{n:NdV}{S:LedM}(h:HIn cat sh n.m S):∀p∈n.parts,p.2.legs.length≤1000:=fun p hp=>by
 have:=(h.pts (p.1,p.2.m) (List.mem_map.2 ⟨p,hp,rfl⟩)).legs
 simp only[PtV.m,an] at this;omega
attribute [local irreducible] G GO GP GPW GPK GF GE Ev Ef EfR Ent CB GB V.Enters
def rB{L:LH}(nb lb:Nat)(sh shs:Int)(n:NdV)(S:LedM)(cat:CatM)(x:MsV)(a1:CtOk x.m.ct)(hN:HIn cat sh n.m S)(hk:kOf S+pot n.m+2*amT x.m.ct.legs≤2000)(tick:Int) :
  Tri Tryz.prog 87 #[ax nb,aU (bC x),ac tick] (msP x::ndL nb lb sh shs n (aS lb S::L)) (lN nb lb sh shs (bZ sh x.m.frm x.m.ct tick n.m S) L):=by
 refine Tri.bd ?_;refine Ks ?_;intros;refine GO.ef (Ef.d8 kvI jY (.inl rfl)) ae ?_;rintro _ _⟨bm,rfl,rfl⟩;refine GO.efu (Ef.insG (enc:=jY) 137 rfl rfl rfl rfl) ?_;rintro _ _ rfl;refine GO.efu (Ef.insG (enc:=jY) 138 rfl rfl rfl rfl) ?_;rintro _ _ rfl;refine GO.efu (Ef.insG (enc:=jY) 139 rfl rfl rfl rfl) ?_;rintro _ _ rfl;refine GO.efu (Ef.insG (enc:=jY) 140 rfl rfl rfl rfl) ?_;rintro _ _ rfl;refine GO.efu (Ef.insG (enc:=jY) 141 rfl rfl rfl rfl) ?_;rintro _ _ rfl;refine GO.efu (Ef.insG (enc:=jY) 142 rfl rfl rfl rfl) ?_;rintro _ _ rfl;rw[show(gins (gins (gins (gins (gins (gins ([]:List (Int×Nat)) 1 137) 2 138) 3 139) 4 140) 5 141) 6 142)=hTab from rfl];refine Ks ?_;intros;refine GO.ca (AP x.ad (ctB x.m.ct).length x.cap x.m.ct a1 rfl) ?_;rintro _ _⟨c,rfl,hc,rfl⟩;have a0:CtOk c.m:=by rw[hc];exact a1
 rw[←hc] at hk;refine Ks ?_;intros;by_cases h1:c.kind=1
 ·have hr:bZ sh x.m.frm x.m.ct tick n.m S=iq sh x.m.ct tick n.m S:=by
   unfold bZ;rw[if_pos (show x.m.ct.kind=1 by rw[←hc];exact h1)]
  refine GO.ev (Ev.a8 rfl rfl) ae ?_;rw[show List.lookup c.kind hTab=some 137 by rw[h1];rfl];dsimp only[Option.map,Option.getD,Option.isSome,jY];refine Ks ?_;intros;refine GO.ent (L':=ctP c::ndL nb lb sh shs n (aS lb S::L)) ah ?_;refine GO.ef (Ef.c8 (first:=[]) (cap:=[]) (vs:=[ax nb,ac x.m.frm,aU (eW c),ac tick]) (uu nb lb sh shs n S cat hN.led ⟨hN.hl.1,by have h:=hN.hl.2;have e:n.m.hl=n.hl:=rfl;omega⟩ x.m.frm tick c a0 (by have:=ur sh 0 c.m.legs;omega)) rfl rfl) ae ?_;intro v L' hv;refine Ks ?_;intros;rw[hr,←hc];refine KX.a8 aA (Ent.refl _) ?_;exact hv
 by_cases h2:c.kind=2
 ·have hr:bZ sh x.m.frm x.m.ct tick n.m S=gy sh x.m.frm x.m.ct tick n.m S:=by
   unfold bZ;rw[if_neg (show ¬x.m.ct.kind=1 by rw[←hc];exact h1),if_pos (show x.m.ct.kind=2 by rw[←hc];exact h2)]
  refine GO.ev (Ev.a8 rfl rfl) ae ?_;rw[show List.lookup c.kind hTab=some 138 by rw[h2];rfl];dsimp only[Option.map,Option.getD,Option.isSome,jY];refine Ks ?_;intros;refine GO.ent (L':=ctP c::ndL nb lb sh shs n (aS lb S::L)) ah ?_;refine GO.ef (Ef.c8 (first:=[]) (cap:=[]) (vs:=[ax nb,ac x.m.frm,aU (eW c),ac tick]) (Tri.pre (L:=ctP c::ndL nb lb sh shs n (aS lb S::L)) (AC nb lb sh shs n S x.m.frm tick c a0.num.2.1 hN.givV) Ent.drop) rfl rfl) ae ?_;intro v L' hv;refine Ks ?_;intros;rw[hr,←hc];refine KX.a8 aA (Ent.refl _) ?_;exact hv
 by_cases h3:c.kind=3
 ·have hr:bZ sh x.m.frm x.m.ct tick n.m S=fF sh x.m.ct tick n.m S:=by
   unfold bZ;rw[if_neg (show ¬x.m.ct.kind=1 by rw[←hc];exact h1),if_neg (show ¬x.m.ct.kind=2 by rw[←hc];exact h2),if_pos (show x.m.ct.kind=3 by rw[←hc];exact h3)]
  refine GO.ev (Ev.a8 rfl rfl) ae ?_;rw[show List.lookup c.kind hTab=some 139 by rw[h3];rfl];dsimp only[Option.map,Option.getD,Option.isSome,jY];refine Ks ?_;intros;refine GO.ent (L':=ctP c::ndL nb lb sh shs n (aS lb S::L)) ah ?_;refine GO.ef (Ef.c8 (first:=[]) (cap:=[]) (vs:=[ax nb,ac x.m.frm,aU (eW c),ac tick]) (Tri.pre (L:=ctP c::ndL nb lb sh shs n (aS lb S::L)) (vR nb lb sh shs n S cat hN.led x.m.frm tick c a0.num.2.1 hN.pts (fun p hp=>by have:=qU hp;omega)) Ent.drop) rfl rfl) ae ?_;intro v L' hv;refine Ks ?_;intros;rw[hr,←hc];refine KX.a8 aA (Ent.refl _) ?_;exact hv
 by_cases h4:c.kind=4
 ·have hr:bZ sh x.m.frm x.m.ct tick n.m S=jD x.m.frm x.m.ct n.m S:=by
   unfold bZ;rw[if_neg (show ¬x.m.ct.kind=1 by rw[←hc];exact h1),if_neg (show ¬x.m.ct.kind=2 by rw[←hc];exact h2),if_neg (show ¬x.m.ct.kind=3 by rw[←hc];exact h3),if_pos (show x.m.ct.kind=4 by rw[←hc];exact h4)]
  refine GO.ev (Ev.a8 rfl rfl) ae ?_;rw[show List.lookup c.kind hTab=some 140 by rw[h4];rfl];dsimp only[Option.map,Option.getD,Option.isSome,jY];refine Ks ?_;intros;refine GO.ent (L':=ctP c::ndL nb lb sh shs n (aS lb S::L)) ah ?_;refine GO.ef (Ef.c8 (first:=[]) (cap:=[]) (vs:=[ax nb,ac x.m.frm,aU (eW c),ac tick]) (Tri.pre (L:=ctP c::ndL nb lb sh shs n (aS lb S::L)) (AD nb lb sh shs n S x.m.frm tick c) Ent.drop) rfl rfl) ae ?_;intro v L' hv;refine Ks ?_;intros;rw[hr,←hc];refine KX.a8 aA (Ent.refl _) ?_;exact hv
 by_cases h5:c.kind=5
 ·have hr:bZ sh x.m.frm x.m.ct tick n.m S=gC sh x.m.frm x.m.ct tick n.m S:=by
   unfold bZ;rw[if_neg (show ¬x.m.ct.kind=1 by rw[←hc];exact h1),if_neg (show ¬x.m.ct.kind=2 by rw[←hc];exact h2),if_neg (show ¬x.m.ct.kind=3 by rw[←hc];exact h3),if_neg (show ¬x.m.ct.kind=4 by rw[←hc];exact h4),if_pos (show x.m.ct.kind=5 by rw[←hc];exact h5)]
  refine GO.ev (Ev.a8 rfl rfl) ae ?_;rw[show List.lookup c.kind hTab=some 141 by rw[h5];rfl];dsimp only[Option.map,Option.getD,Option.isSome,jY];refine Ks ?_;intros;refine GO.ent (L':=ctP c::ndL nb lb sh shs n (aS lb S::L)) ah ?_;refine GO.ef (Ef.c8 (first:=[]) (cap:=[]) (vs:=[ax nb,ac x.m.frm,aU (eW c),ac tick]) (tw nb lb sh shs n S cat hN.led x.m.frm tick c a0 (fun l hl=>by have:=uP hl;omega)) rfl rfl) ae ?_;intro v L' hv;refine Ks ?_;intros;rw[hr,←hc];refine KX.a8 aA (Ent.refl _) ?_;exact hv
 by_cases h6:c.kind=6
 ·have hr:bZ sh x.m.frm x.m.ct tick n.m S=gotM x.m.ct n.m S:=by
   unfold bZ;rw[if_neg (show ¬x.m.ct.kind=1 by rw[←hc];exact h1),if_neg (show ¬x.m.ct.kind=2 by rw[←hc];exact h2),if_neg (show ¬x.m.ct.kind=3 by rw[←hc];exact h3),if_neg (show ¬x.m.ct.kind=4 by rw[←hc];exact h4),if_neg (show ¬x.m.ct.kind=5 by rw[←hc];exact h5),if_pos (show x.m.ct.kind=6 by rw[←hc];exact h6)]
  refine GO.ev (Ev.a8 rfl rfl) ae ?_;rw[show List.lookup c.kind hTab=some 142 by rw[h6];rfl];dsimp only[Option.map,Option.getD,Option.isSome,jY];refine Ks ?_;intros;refine GO.ent (L':=ctP c::ndL nb lb sh shs n (aS lb S::L)) ah ?_;refine GO.ef (Ef.c8 (first:=[]) (cap:=[]) (vs:=[ax nb,ac x.m.frm,aU (eW c),ac tick]) (Tri.pre (L:=ctP c::ndL nb lb sh shs n (aS lb S::L)) (Du nb lb sh shs n S x.m.frm tick c hN.ptsV) Ent.drop) rfl rfl) ae ?_;intro v L' hv;refine Ks ?_;intros;rw[hr,←hc];refine KX.a8 aA (Ent.refl _) ?_;exact hv
 have hr:bZ sh x.m.frm x.m.ct tick n.m S=([],n.m,S):=by
  unfold bZ;rw[if_neg (show ¬x.m.ct.kind=1 by rw[←hc];exact h1),if_neg (show ¬x.m.ct.kind=2 by rw[←hc];exact h2),if_neg (show ¬x.m.ct.kind=3 by rw[←hc];exact h3),if_neg (show ¬x.m.ct.kind=4 by rw[←hc];exact h4),if_neg (show ¬x.m.ct.kind=5 by rw[←hc];exact h5),if_neg (show ¬x.m.ct.kind=6 by rw[←hc];exact h6)]
 refine GO.ev (Ev.a8 rfl rfl) ae ?_
 rw[show List.lookup c.kind hTab=none by
  unfold hTab;simp only[cx,show(c.kind == 1)=false by simpa using h1,show(c.kind == 2)=false by simpa using h2,show(c.kind == 3)=false by simpa using h3,show(c.kind == 4)=false by simpa using h4,show(c.kind == 5)=false by simpa using h5,show(c.kind == 6)=false by simpa using h6];rfl]
 dsimp only[Option.map,Option.getD,Option.isSome];refine Ks ?_;intros;rw[hr];refine KX.a8 aA ?_ ⟨none,0,[],n,rfl,rfl,rfl,rfl⟩;refine(Ent.c8 bC 3 tMs).trans ((Ent.c7 msP).trans ?_);simp only[ndL,ndC];exact ah
