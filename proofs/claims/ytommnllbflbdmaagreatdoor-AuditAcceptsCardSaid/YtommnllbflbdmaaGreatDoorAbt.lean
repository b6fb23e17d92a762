/- Lemmas. -/
import Derived.Test.YtommnllbflbdmaaGreatDoorAbs
set_option linter.all false
set_option maxHeartbeats 1000000
namespace Go.Proofs.YtommnllbflbdmaaGreatDoor
section
open Go.V
attribute [local irreducible] G GO GP GPW GPK GF GE Ev Ef EfR Ent CB GB V.Enters
end
section
open Go.V
def SpL(ss a0 : List StV):Prop:=a0 = ss∨∃k s',k<ss.length∧StSp s'∧a0 = ss.set k s'
def SpL.len{ss a0 : List StV}(h:SpL ss a0):a0.length=ss.length:=by
 rcases h with rfl|⟨k,s',_,_,rfl⟩
 ·rfl
 ·exact cu
def StSp.at{s:StV}(h:StSp s)(id:Int):StSp { s with id:=id }:=⟨⟨h.inp.len,h.inp.rule,h.inp.parts,h.inp.cap,h.inp.bd⟩,h.cap,h.k⟩
attribute [local irreducible] G GO GP GPW GPK GF GE Ev Ef EfR Ent CB GB V.Enters
end
section
open Go.V
def Ent.m5{A B:HP}{L:LH}:Ent (A::B::L) (cR [A,B]::L):=fun θ R w s=>Sat.d7 (A:=[A,B]) s
def Ent.unstars2{A B:HP}{L:LH}:Ent (cR [A,B]::L) (A::B::L):=fun θ R w s=>Sat.ofStars (A:=[A,B]) s
def flO(f:FlV):HP:=cR [osl aj 3 tLot f.pad f.pcap f.m.parts,osl (encZ .i64) 1 tInt f.mad f.mcap f.m.made]
def stO(s:StV):HP:=cR [osl aM 5 tMv s.mad s.mcap s.moves,allP mvP s.moves]
def fl0:FlV:=⟨⟨0,0,0,0,0,0,0,0,0,[],[]⟩,none,0,none,0⟩
def st0:StV:=⟨0,0,0,0,0,0,[],none,0⟩
def Hn{f:FlV}{L:LH}:Ent (flP f::L) (isl aj 3 f.pad f.m.parts::isl (encZ .i64) 1 f.mad f.m.made::flP f::L):=(Ent.dup (kG f).pers).trans Ent.andE
attribute [local irreducible] G GO GP GPW GPK Ev Ef EfR Ent CB GB V.Enters
abbrev DD:List Stp:=[.ev 0,.ev 1,.ev 3,.ev 4,.ef 2,.ev 6,.ef 5,.ef 7,.ev 8,.ef 9]
def ad7{φ ψ:Prop}(k:ψ)(h:Hid ψ→φ:=by intro k;(repeat (first|refine aa ?_|intro zzz|refine G.dr 12 1 DD ?_));(repeat revert zzz);exact Hid.out k):φ:=h ⟨k⟩
def yF{L:LH}(f:FlV)(h1:f.m.parts.length≤1000000)(h2:f.m.made.length≤1000000) :
  Tri ai 70 #[aN (bL f)] (flP f::L) (fun v L'=>∃f',v=aN (bL f')∧f'.m=f.m∧L' = flO f'::flP f::L):=by
 obtain⟨⟨i1,i2,i3,i4,i5,i6,i7,i8,i9,parts,made⟩,pad,pcap,mad,mcap⟩:=f;dsimp only at h1 h2;refine Tri.bd (args:=[aN (bL ⟨⟨i1,i2,i3,i4,i5,i6,i7,i8,i9,parts,made⟩,pad,pcap,mad,mcap⟩)]) ?_;refine G.ent Hn ?_;dsimp only;refine ad7 ?_;intros;refine GPW.ca (ig pad parts.length pcap parts rfl h1) ?_;rintro _ _⟨a2,a1,rfl,rfl⟩;refine ad7 ?_;intros;refine GPW.ca (iZ mad made.length mcap made rfl h2) ?_;rintro _ _⟨ad2,a0,rfl,rfl⟩;refine ad7 ?_;intros;refine KX.d7 (by exact ResOk.cell rfl aK (ResOk.nil)) ?_ ⟨⟨⟨i1,i2,i3,i4,i5,i6,i7,i8,i9,parts,made⟩,a2,a1,ad2,a0⟩,rfl,rfl,rfl⟩;refine Ent.trans (B:=osl aj 3 tLot a2 a1 parts::osl (encZ .i64) 1 tInt ad2 a0 made::flP ⟨⟨i1,i2,i3,i4,i5,i6,i7,i8,i9,parts,made⟩,pad,pcap,mad,mcap⟩::L) ae ?_;exact Ent.m5
def yy{L:LH}(ad:OA)(c:Nat)(ms:List FlV)(hl:ms.length≤100000)(hp:∀m∈ms,m.m.parts.length≤1000000∧m.m.made.length≤1000000) :
  Tri ai 69 #[ah ad ms.length c,.func (.func 70) #[] #[]] (asl bL 11 cz ad c ms::allP flP ms::L) (fun v L'=>∃a3 c' a0,v=ah a3 a0.length c'∧a0.map (·.m)=ms.map (·.m)∧L' = osl bL 11 cz a3 c' a0::bigO flO a0::asl bL 11 cz ad c ms::allP flP ms::L):=by
 refine Tri.bd ?_;by_cases h0:ms.length=0
 ·have e:ms=[]:=aX h0;subst e;refine Jq ?_;intros;exact KX.d7 al ((Ent.l0 flO).trans (Ent.d8 bL 11 cz)) ⟨none,0,[],rfl,rfl,rfl⟩
 refine Jq ?_;intros;refine GO.ef (Ef.e9 bL fl0 rfl rfl rfl ab ab ab ab) ag ?_;rintro _ _⟨bs,rfl,rfl⟩;rw[show(ms.length:Int).toNat=ms.length by omega];refine Jq ?_;intros
 refine G.loop (α:=Nat×List FlV) (fun z=>z.1≤ms.length∧z.2.length=ms.length∧(z.2.take z.1).map (·.m)=(ms.take z.1).map (·.m)) (fun z=>[(1,.func (.func 70) #[] #[]),(5,ah (some ⟨bs,0,none⟩) ms.length ms.length),(14,ah ad ms.length c),(15,ac (ms.length:Int)),(16,ac (z.1:Int))])
  (fun z=>osl bL 11 cz (some ⟨bs,0,none⟩) ms.length z.2::bigO flO (z.2.take z.1)::asl bL 11 cz ad c ms::allP flP ms::L) (fun z=>ms.length - z.1) (0,List.replicate ms.length fl0) ⟨aw _,by simp,by simp⟩ av ?_ ?_
 ·dsimp only;rw[bH];refine(Ent.l0 flO).trans ?_;exact ae
 rintro⟨i,zs⟩ ⟨hi,a4,a1⟩;dsimp only at hi a4 a1 ⊢;by_cases a2:i<ms.length
 case neg =>
  have a8:i=ms.length:=ab;subst a8;rw[aF ab,aF ab] at a1;rw[aF (ab:zs.length≤ms.length)];refine Jq ?_;intros;refine KX.d7 al (Ent.refl _) ⟨some ⟨bs,0,none⟩,ms.length,zs,by rw[a4];rfl,a1,rfl⟩
 have a7:(i:Int).toNat=i:=ab;have a5:ms[i]!∈ms:=aI a2;have a6:=hp _ a5;refine Jq ?_;intros;rw[a7];refine GO.ent (Ent.at (A:=allP flP ms) (Ent.e7 (x:=ms[i]!) a5)) ?_;refine GO.ef (Ef.d8 rfl rfl (yF ms[i]! a6.1 a6.2)) ag ?_;rintro _ _⟨m',rfl,a9,rfl⟩;refine Jq ?_;intros;refine GO.efu (Ef.e8 (e:=m') rfl rfl aK aK (jf _) ab) ?_;rintro _ _ rfl;rw[a7];refine Jq ?_;intros;refine⟨(i+1,zs.set i m'),⟨by dsimp only;omega,by dsimp only;simp;omega,?_⟩,by dsimp only;omega,?_,?_⟩
 ·dsimp only;rw[de ab,aD a2,aW,aW,a1,←getElem!_of a2];simp[a9]
 ·dsimp only;rw[aV i];exact av
 ·dsimp only;rw[de ab];refine Ent.d7 ?_;refine Ent.trans (B:=flO m'::bigO flO (zs.take i)::asl bL 11 cz ad c ms::allP flP ms::L) ae ?_;exact Ent.l8
def rI{L:LH}(b:Nat)(S:LedM)(hS:∀f∈S.flows,f.parts.length≤1000000∧f.made.length≤1000000)(a4:S.flows.length≤100000) :
  Tri ai 26 #[ax b] (LedR b S::L) (fun v L'=>∃ad cap fs,v=ah ad fs.length cap∧fs.map FlV.m=S.flows∧L' = osl bL 11 cz ad cap fs::bigO flO fs::LedR b S::L):=by
 refine Tri.bd ?_;refine G.e7 (f:=ledA b S) ?_;intro x;simp only[ledA,ledL,bJ,ao,an];refine G.e8 ?_;intro hF;have a3:x.flows.length=S.flows.length:=by rw[←hF.flows];simp
 have a2:∀m∈x.flows,m.m.parts.length≤1000000∧m.m.made.length≤1000000:=fun m hm=>by
  have:=hS m.m (by rw[←hF.flows];exact alStd0List_mem_map_of_mem hm)
  omega
 refine Jq ?_;intros;refine GO.ent (Ent.at (A:=asl bL 11 cz x.fad x.fcap x.flows) (Ent.d7 (Ent.at (A:=allP flP x.flows) (Ent.refl _)))) ?_;refine GO.ca (yy x.fad x.fcap x.flows ab a2) ?_;rintro _ _⟨a0,c',fs,rfl,a1,rfl⟩;refine Jq ?_;intros;refine KX.d7 al ?_ ⟨a0,c',fs,rfl,a1.trans hF.flows,rfl⟩;refine Ent.trans ?_ (Ent.d7 (Ent.d7 (jL x hF)));simp only[ledL];exact ae
def yv{L:LH}(ad:OA)(c:Nat)(ms:List MvV)(hl:ms.length≤64)(hp:∀m∈ms,m.m.parts.length≤1000000) :
  Tri ai 125 #[ah ad ms.length c,.func (.func 126) #[] #[]] (isl aM 5 ad ms::allP mvP ms::L) (fun v L'=>∃a3 c' a0,v=ah a3 a0.length c'∧a0.map (·.m)=ms.map (·.m)∧L' = osl aM 5 tMv a3 c' a0::allP mvP a0::isl aM 5 ad ms::allP mvP ms::L):=by
 refine Tri.bd ?_;by_cases h0:ms.length=0
 ·have e:ms=[]:=aX h0;subst e;refine Jq ?_;intros;exact KX.d7 al ((Ent.d9 mvP).trans (Ent.d8 aM 5 tMv)) ⟨none,0,[],rfl,rfl,rfl⟩
 refine Jq ?_;intros;refine GO.ef (Ef.e9 aM mv0 rfl rfl rfl ab ab ab ab) ag ?_;rintro _ _⟨bs,rfl,rfl⟩;rw[show(ms.length:Int).toNat=ms.length by omega];refine Jq ?_;intros
 refine G.loop (α:=Nat×List MvV) (fun z=>z.1≤ms.length∧z.2.length=ms.length∧(z.2.take z.1).map (·.m)=(ms.take z.1).map (·.m)) (fun z=>[(1,.func (.func 126) #[] #[]),(5,ah (some ⟨bs,0,none⟩) ms.length ms.length),(14,ah ad ms.length c),(15,ac (ms.length:Int)),(16,ac (z.1:Int))])
  (fun z=>osl aM 5 tMv (some ⟨bs,0,none⟩) ms.length z.2::allP mvP (z.2.take z.1)::isl aM 5 ad ms::allP mvP ms::L) (fun z=>ms.length - z.1) (0,List.replicate ms.length mv0) ⟨aw _,by simp,by simp⟩ av ?_ ?_
 ·dsimp only;rw[bH];refine(Ent.d9 mvP).trans ?_;exact ae
 rintro⟨i,zs⟩ ⟨hi,a4,a1⟩;dsimp only at hi a4 a1 ⊢;by_cases a2:i<ms.length
 case neg =>
  have a7:i=ms.length:=ab;subst a7;rw[aF ab,aF ab] at a1;rw[aF (ab:zs.length≤ms.length)];refine Jq ?_;intros;refine KX.d7 al (Ent.refl _) ⟨some ⟨bs,0,none⟩,ms.length,zs,by rw[a4];rfl,a1,rfl⟩
 have a6:(i:Int).toNat=i:=ab;have a5:ms[i]!∈ms:=aI a2;refine Jq ?_;intros;rw[a6];refine GO.ent (Ent.at (A:=allP mvP ms) (Ent.e7 (x:=ms[i]!) a5)) ?_;refine GO.ef (Ef.d8 rfl rfl (qG ms[i]! (hp _ a5))) ag ?_;rintro _ _⟨m',rfl,a8,rfl⟩;refine Jq ?_;intros;refine GO.efu (Ef.e8 (e:=m') rfl rfl aK aK (jN _) ab) ?_;rintro _ _ rfl;rw[a6];refine Jq ?_;intros;refine⟨(i+1,zs.set i m'),⟨by dsimp only;omega,by dsimp only;simp;omega,?_⟩,by dsimp only;omega,?_,?_⟩
 ·dsimp only;rw[de ab,aD a2,aW,aW,a1,←getElem!_of a2];simp[a8]
 ·dsimp only;rw[aV i];exact av
 ·dsimp only;rw[de ab];refine Ent.d7 ?_;refine Ent.trans (B:=allP mvP (zs.take i)::mvP m'::isl aM 5 ad ms::allP mvP ms::L) ae ?_;exact(Ent.d7 (Ent.f8 iP)).trans (Ent.g7 iP)
def yC{L:LH}(s:StV)(hl:s.moves.length≤64)(hp:∀m∈s.moves,m.m.parts.length≤1000000) :
  Tri ai 68 #[aN (aT s)] (stM s::stP s::L) (fun v L'=>∃s',v=aN (aT s')∧s'.m=s.m∧L' = stO s'::stM s::stP s::L):=by
 obtain⟨i0,i1,i2,i3,i4,i5,ms,mad,mcap⟩:=s;dsimp only at hl hp;refine Tri.bd (args:=[aN (aT ⟨i0,i1,i2,i3,i4,i5,ms,mad,mcap⟩)]) ?_;refine Jq ?_;intros;refine GO.ent (Ent.at (A:=isl aM 5 mad ms) (Ent.d7 (Ent.at (A:=allP mvP ms) (Ent.refl _)))) ?_;refine GO.ca (yv mad mcap ms hl hp) ?_;rintro _ _⟨a1,c',a0,rfl,a2,rfl⟩;refine Jq ?_;intros;refine KX.d7 (by exact ResOk.cell rfl aK (ResOk.nil)) ?_ ⟨⟨i0,i1,i2,i3,i4,i5,a0,a1,c'⟩,rfl,by simp only[StV.m,a2],rfl⟩;refine Ent.trans (B:=osl aM 5 tMv a1 c' a0::allP mvP a0::isl aM 5 mad ms::allP mvP ms::L) ae ?_;exact Ent.m5
def yr{L:LH}(ad:OA)(c:Nat)(ms:List StV)(hl:ms.length≤100000)(hp:∀m∈ms,m.moves.length≤64∧∀u∈m.moves,u.m.parts.length≤1000000) :
  Tri ai 67 #[ah ad ms.length c,.func (.func 68) #[] #[]] (asl aT 7 be ad c ms::allP cC ms::L) (fun v L'=>∃a3 c' a0,v=ah a3 a0.length c'∧a0.map (·.m)=ms.map (·.m)∧L' = osl aT 7 be a3 c' a0::bigO stO a0::asl aT 7 be ad c ms::allP cC ms::L):=by
 refine Tri.bd ?_;by_cases h0:ms.length=0
 ·have e:ms=[]:=aX h0;subst e;refine Jq ?_;intros;exact KX.d7 al ((Ent.l0 stO).trans (Ent.d8 aT 7 be)) ⟨none,0,[],rfl,rfl,rfl⟩
 refine Jq ?_;intros;refine GO.ef (Ef.e9 aT st0 rfl rfl rfl ab ab ab ab) ag ?_;rintro _ _⟨bs,rfl,rfl⟩;rw[show(ms.length:Int).toNat=ms.length by omega];refine Jq ?_;intros
 refine G.loop (α:=Nat×List StV) (fun z=>z.1≤ms.length∧z.2.length=ms.length∧(z.2.take z.1).map (·.m)=(ms.take z.1).map (·.m)) (fun z=>[(1,.func (.func 68) #[] #[]),(5,ah (some ⟨bs,0,none⟩) ms.length ms.length),(14,ah ad ms.length c),(15,ac (ms.length:Int)),(16,ac (z.1:Int))])
  (fun z=>osl aT 7 be (some ⟨bs,0,none⟩) ms.length z.2::bigO stO (z.2.take z.1)::asl aT 7 be ad c ms::allP cC ms::L) (fun z=>ms.length - z.1) (0,List.replicate ms.length st0) ⟨aw _,by simp,by simp⟩ av ?_ ?_
 ·dsimp only;rw[bH];refine(Ent.l0 stO).trans ?_;exact ae
 rintro⟨i,zs⟩ ⟨hi,a4,a1⟩;dsimp only at hi a4 a1 ⊢;by_cases a2:i<ms.length
 case neg =>
  have a8:i=ms.length:=ab;subst a8;rw[aF ab,aF ab] at a1;rw[aF (ab:zs.length≤ms.length)];refine Jq ?_;intros;refine KX.d7 al (Ent.refl _) ⟨some ⟨bs,0,none⟩,ms.length,zs,by rw[a4];rfl,a1,rfl⟩
 have a7:(i:Int).toNat=i:=ab;have a5:ms[i]!∈ms:=aI a2;have a6:=hp _ a5;refine Jq ?_;intros;rw[a7];refine GO.ent (Ent.at (A:=allP cC ms) ((Ent.e7 (f:=cC) (x:=ms[i]!) a5).trans Ent.andE)) ?_;refine GO.ef (Ef.d8 rfl rfl (yC ms[i]! a6.1 a6.2)) ag ?_;rintro _ _⟨m',rfl,a9,rfl⟩;refine Jq ?_;intros;refine GO.efu (Ef.e8 (e:=m') rfl rfl aK aK (jM _) ab) ?_;rintro _ _ rfl;rw[a7];refine Jq ?_;intros;refine⟨(i+1,zs.set i m'),⟨by dsimp only;omega,by dsimp only;simp;omega,?_⟩,by dsimp only;omega,?_,?_⟩
 ·dsimp only;rw[de ab,aD a2,aW,aW,a1,←getElem!_of a2];simp[a9]
 ·dsimp only;rw[aV i];exact av
 ·dsimp only;rw[de ab];refine Ent.d7 ?_;refine Ent.trans (B:=stO m'::bigO stO (zs.take i)::asl aT 7 be ad c ms::allP cC ms::L) ae ?_;exact Ent.l8
def yW{L:LH}(b:Nat)(S:LedM)(hS:∀s∈S.steps,s.moves.length≤64∧∀u∈s.moves,u.parts.length≤1000000)(a4:S.steps.length≤100000) :
  Tri ai 25 #[ax b] (LedR b S::L) (fun v L'=>∃ad cap ss,v=ah ad ss.length cap∧ss.map StV.m=S.steps∧L' = osl aT 7 be ad cap ss::bigO stO ss::LedR b S::L):=by
 refine Tri.bd ?_;refine G.e7 (f:=ledA b S) ?_;intro x;simp only[ledA,ledL,bJ,ao,an];refine G.e8 ?_;intro hF;have a3:x.steps.length=S.steps.length:=by rw[←hF.steps];simp
 have a2:∀m∈x.steps,m.moves.length≤64∧∀u∈m.moves,u.m.parts.length≤1000000:=fun m hm=>by
  have h1:=hS m.m (by rw[←hF.steps];exact alStd0List_mem_map_of_mem hm);exact⟨by have:=h1.1;simpa [StV.m] using this,fun u hu=>h1.2 u.m (alStd0List_mem_map_of_mem hu)⟩
 refine Jq ?_;intros;refine GO.ent (Ent.at (A:=asl aT 7 be x.sad x.scap x.steps) (Ent.d7 (Ent.at (A:=allP cC x.steps) (Ent.refl _)))) ?_;refine GO.ca (yr x.sad x.scap x.steps ab a2) ?_;rintro _ _⟨a0,c',fs,rfl,a1,rfl⟩;refine Jq ?_;intros;refine KX.d7 al ?_ ⟨a0,c',fs,rfl,a1.trans hF.steps,rfl⟩;refine Ent.trans ?_ (Ent.d7 (Ent.d7 (jL x hF)));simp only[ledL];exact ae
end
section
open Go.V
def it22:List ItG:=[⟨⟨#[103,111,108,100]⟩,false,false,true,0,0,0⟩,⟨⟨#[111,114,101]⟩,false,false,false,0,0,0⟩,⟨⟨#[100,117,115,116]⟩,false,true,false,0,0,0⟩,⟨⟨#[103,101,109]⟩,false,false,false,0,0,0⟩]
def cat22:CatM:=⟨it22,[],[],[]⟩
def Ep:CatGood cat22:=by
 refine⟨by decide,by decide,by decide,by decide,?_,?_,?_,?_,by decide,by decide,by decide,by decide⟩
 ·intro x hx;simp only[cat22,it22,bj,aU,or_false] at hx;rcases hx with rfl|rfl|rfl|rfl<;>exact⟨mj (by decide +kernel),by decide,by decide⟩
 ·intro r hr;cases hr
 ·intro r hr;cases hr
 ·intro r hr;cases hr
def sH:cat22.Ok:=⟨(fun r hr=>by cases hr),(fun r hr=>by cases hr),(fun r hr=>by cases hr)⟩
def jU(bi:Nat):CatV:=⟨it22,some ⟨bi,0,none⟩,4,[],none,0,[],none,0,[],none,0⟩
def Hu(bi:Nat):(jU bi).B:=by
 refine⟨az rfl,az rfl,az rfl,az rfl,?_,?_,?_⟩<;>intro r hr<;>cases hr
attribute [local irreducible] G GO GP GPW GPK GF GE Ev Ef EfR Ent CB GB V.Enters
def uJ{L:LH}:Tri ai 51 #[] L (fun v L'=>∃c:CatV,v=aN c.cells∧(c.m=cat22∧c.B)∧L' = catP c::L):=by
 refine Tri.bd ?_;refine Jq ?_;intros;rename_i b0 bi;refine KX.d7 (vs:=[.agg (jU bi).cells.toArray]) (ResOk.cell rfl aK ResOk.nil) ?_ ⟨jU bi,rfl,⟨rfl,Hu bi⟩,rfl⟩;refine(Ent.g8 (b:=bi) (enc:=dE) (sz:=7) it22 rfl (fun _ _=>rfl) (az rfl)).trans ?_;refine(Ent.d9 txP).trans ((Ent.e8 eC 2 none).trans (Ent.trans (Ent.e9 (bN _ _ _ _) (cT lO)) ?_));refine(Ent.d9 tbP).trans ((Ent.e8 eD 2 none).trans (Ent.trans (Ent.e9 (bN _ _ _ _) (cT kC)) ?_));refine(Ent.e9 (nk (jU bi)) (nj (jU bi))).trans ?_;refine(Ent.d9 ruP).trans ((Ent.e8 cY 9 none).trans (Ent.trans (Ent.e9 (bN _ _ _ _) (cT jH)) ?_));refine(Ent.e9 (qJ (jU bi)) ((nk (jU bi)).and (nj (jU bi)))).trans ?_;refine(Ent.swap.trans (Ent.e9 (yH (jU bi)) ((qJ (jU bi)).and ((nk (jU bi)).and (nj (jU bi)))))).trans ?_;exact Ent.d7 Ent.drop
def DM{L:LH}(sh:Int)(c:CatV)(a1:0≤sh∧sh<12)(hB:c.B)(h:CatGood c.m):Tri ai 23 #[ac sh,aN c.cells] (catP c::cA::L) (fun v L'=>∃b,v=.tuple #[ax b,ac 0]∧L' = LedR b (led0 sh c.m)::catP c::cA::L):=by
 obtain⟨h1,h2⟩:=a1;refine Tri.bd ?_;simp only[CatV.cells];refine Jq ?_;intros;rename_i b3;refine GO.ent (L':=catP c::cA::obj b3 tCat c.cells::L) (by simp only[CatV.cells];exact ae) ?_;refine GO.cr (vF c hB h) ?_;simp only[CatV.cells];refine Jq ?_;intros;refine GO.ent (L':=catP c::cA::obj b3 tCat c.cells::L) (by simp only[CatV.cells];exact ae) ?_;refine GO.ca (pJ c hB) ?_;rintro _ _⟨c',rfl,a0,rfl⟩;simp only[CatV.cells];refine GO.ef (Ef.d9 kvP Stk.v (.inl rfl)) ag ?_;rintro _ _⟨b1,rfl,rfl⟩;refine GO.ef (Ef.d9 kvI encN (.inl rfl)) ag ?_;rintro _ _⟨b2,rfl,rfl⟩;refine GO.ef (Ef.d9 kvI Stk.v (.inl rfl)) ag ?_;rintro _ _⟨b4,rfl,rfl⟩;refine GO.ef (Ef.d9 kvI Stk.v (.inl rfl)) ag ?_;rintro _ _⟨b5,rfl,rfl⟩;refine Jq ?_;intros;rename_i b6;refine KX.d7 al ?_ ⟨b6,rfl,rfl⟩;refine Ent.trans ?_ (jL (S:=led0 sh c.m) ⟨c',b1,b2,b4,b5,[],[],[],[],[],none,0,[],none,0⟩ ⟨a0,CatV.d7 a0 hB,fun _ _=>rfl,(fun _ h=>by cases h),fun _=>rfl,rfl,rfl,fun _=>rfl,fun _=>rfl⟩);simp only[ledL,bJ,led0];refine(Ent.d8 aT 7 be).trans (Ent.ofOsl.trans ((Ent.d8 bL 11 cz).trans (Ent.ofOsl.trans ?_)));refine(Ent.d9 (fun p:(Int×Int)×Stk=>stkP p.2)).trans ((Ent.d9 cC).trans ((Ent.d9 flP).trans ((Ent.d9 (fun p:Int×Stk=>stkP p.2)).trans ((Ent.d9 (fun p:Int×Stk=>stkP p.2)).trans ?_))));exact ae
def EN{L:LH}(b:Nat)(S:LedM)(i:Int):Tri ai 27 #[ax b,ac i] (LedR b S::L) (fun v L'=>v=ac (S.tot i)∧L' = LedR b S::L):=by
 refine Tri.bd ?_;refine G.e7 (f:=ledA b S) ?_;intro x;simp only[ledA,ledL,bJ,ao,an];refine G.e8 ?_;intro hF;have ht:=hF.tot i;refine Jq ?_;intros;refine GO.ev (Ev.e8 rfl rfl) ag ?_;rw[Ch,ht];refine Jq ?_;intros;refine KX.d7 al ?_ ⟨rfl,rfl⟩;exact jL x hF
