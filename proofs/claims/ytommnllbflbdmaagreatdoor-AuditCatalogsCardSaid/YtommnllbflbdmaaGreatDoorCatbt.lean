/- Lemmas. -/
import Derived.Test.YtommnllbflbdmaaGreatDoorCatbs
set_option linter.all false
set_option maxHeartbeats 16000000
namespace Go.V
def DB(M:Env→LH→Prop):Post:=fun e env L=>match e with
 | .normal=>M env L
 | _=>False
instance {M:Env→LH→Prop}:NoP (DB M):=⟨fun _ _ _ h=>h,fun _ _ h=>h⟩
section
variable {P:Program}{N:Nat}{env:Env}{L:LH}{K:Post}
def KX.l9{M:Env→LH→Prop}(h:M env L):DB M .normal env L:=h
def G.l6{α:Type}{x y:Code}(Inv:α→Prop)(e:α→Env)(l:α→LH)(h:G P N x env L (DB fun env' L'=>∃g,Inv g∧EnvSub env' (e g)∧Ent L' (l g)))(h' : ∀g,Inv g→G P N y (e g) (l g) K):G P N (.seq x y) env L K :=
 G.seq (G.mono h (fun ex env' L' hx=>by
  cases ex with
  | normal=>obtain⟨g,h1,h2,h3⟩:=hx;exact(h' g h1).conseq h2 h3
  | _=>exact False.elim hx))
def Ent.under{A:LH}{p:HP}(h:Ent L (p::L)):Ent (A++L) (p::(A++L)) :=
 (Ent.append (Ent.refl A) h).trans (Ent.perm fZ)
end
end Go.V
namespace Go.Proofs.YtommnllbflbdmaaGreatDoor
section
open Go.V
attribute [local irreducible] G GO GP GPW GPK GF GE Ev Ef EfR Ent CB GB V.Enters
end
section
open Go.V
def SpL(ss a0 : List StV):Prop:=a0 = ss∨∃k s',k<ss.length∧StSp s'∧a0 = ss.set k s'
def SpL.len{ss a0 : List StV}(h:SpL ss a0):a0.length=ss.length:=by
 rcases h with rfl|⟨k,s',_,_,rfl⟩
 ·rfl
 ·exact bJ
def StSp.at{s:StV}(h:StSp s)(id:Int):StSp { s with id:=id }:=⟨⟨h.inp.len,h.inp.rule,h.inp.parts,h.inp.cap,h.inp.bd⟩,h.cap,h.k⟩
attribute [local irreducible] G GO GP GPW GPK GF GE Ev Ef EfR Ent CB GB V.Enters
end
section
open Go.V
attribute [local irreducible] G GO GP GPW GPK Ev Ef EfR Ent CB GB V.Enters th
structure AudS (ss:List StV):Prop where
 len:ss.length≤60000
 inp:∀s∈ss,StInG s∧s.moves.length≤s.mcap
 k:stK (ss.map StV.m)≤2000
 l:∀a i,stL a i (ss.map StV.m)≤19
structure AudFl (fs:List FlV):Prop where
 len:fs.length≤1000000000
 fl:∀f∈fs,f.m.parts.length≤1000000000∧f.m.made.length≤1000000000
abbrev zp:=ar8 [.ev 17,.ef 18,.ev 19,.ev 20]
abbrev zo:=ar5 []
def cD{φ ψ:Prop}(k:ψ)(h:Hid ψ→φ:=by intro k;(with_reducible apply G.d7);first|refine G.dr 105 14 zp (Hid.out k)|refine G.dr 105 17 zo (Hid.out k)):φ:=h ⟨k⟩
def Ut{φ ψ:Prop}(k:ψ)(h:Hid ψ→φ:=by intro k;(repeat (first|refine aa ?_|intro zzz|refine cD ?_));(repeat revert zzz);exact Hid.out k):φ:=h ⟨k⟩
def xg{L:LH}(b4 b5 b6 b7:Nat)(sh:Int)(c:CatV)(hB:c.B)(hc:c.m.Ok)(sad:OA)(n scap:Nat)(ss:List StV)[f4:Rds L sad StV aX 7 ss](hn:n=ss.length)(hS:AudS ss)(d6:∀s∈ss,Ent L (cR s::L))(fad:OA)(n2 fcap:Nat)(fs:List FlV)[f3:Rds L fad FlV bT 11 fs](d4:n2=fs.length)(hF:AudFl fs)(d0:fs.length≤fcap)(c9:∀f∈fs,Ent L (flP f::L)) :
  TriE ai 44 ([aq b4,aq b5,aq b6,aq b7]:LV).toArray
   (obj b4 tInt [ac sh]::obj b5 33 c.cells::obj b6 26 [ae sad n scap]::obj b7 35 [ae fad n2 fcap]::catP c::L)
   (fun _ L'=>audF sh c.m (ss.map StV.m) (fs.map FlV.m)=(0,0,0)∧L' = L) (fun ch L'=>∃x,ch=pnc x∧x=audF sh c.m (ss.map StV.m) (fs.map FlV.m)∧L' = L):=by
 subst hn d4;have e0:=hS.len;refine TriE.body 105 en44 Tryz.func44 rfl rfl rfl bH ?_;by_cases h1:0≤sh∧sh<12
 case neg =>
  have e:audF sh c.m (ss.map StV.m) (fs.map FlV.m)=(1,sh,0):=if_neg h1;rw[e];by_cases h0:0≤sh
  ·have h2:¬sh<12:=fun q=>h1 ⟨h0,q⟩;refine Ut ?_;intros;refine GO.ev (Ev.l5 rfl) ag ?_;refine GO.panic rfl ?_;repeat first|with_reducible apply KX.e8|with_reducible apply KX.d9
   exact KX.e9 ah ⟨(1,sh,0),rfl,rfl,rfl⟩
  ·skip;refine Ut ?_;intros;refine GO.ev (Ev.l5 rfl) ag ?_;refine GO.panic rfl ?_;repeat first|with_reducible apply KX.e8|with_reducible apply KX.d9
   exact KX.e9 ah ⟨(1,sh,0),rfl,rfl,rfl⟩
 have e:audF sh c.m (ss.map StV.m) (fs.map FlV.m)=audG (fs.map FlV.m) 0 (led0 sh c.m) (ss.map StV.m):=if_pos h1;rw[e];have c8:=xi h1 c.m;obtain⟨e5,e6⟩:=h1;refine Ut ?_;intros;refine GO.ent (L':=catP c::obj b4 tInt [ac sh]::obj b5 33 c.cells::obj b6 26 [ae sad ss.length scap]::obj b7 35 [ae fad fs.length fcap]::L) ah ?_;refine GO.ca (vd sh c) ?_;rintro _ _⟨b,ms,mt,mi,mr,rfl,rfl⟩;have a8:BkR (led0 sh c.m) (bk0 c ms mt mi mr):=⟨rfl,hB,rfl,rfl,rfl,fun _ _=>rfl,fun _ _=>aI _,fun _=>rfl,⟨List.nodup_nil,fun _=>rfl⟩,⟨List.nodup_nil,fun _=>rfl⟩⟩;simp only[bkL,bP];refine Ut ?_;intros
 refine G.loop (α:=Nat×BkX×LedM) (fun g=>g.1≤ss.length∧BkR g.2.2 g.2.1∧LedA (stK ((ss.map StV.m).take g.1)) g.2.2∧g.2.2.shard=sh∧g.2.2.cat=c.m∧(∀a j,(g.2.2.stk a j).length+stL a j ((ss.map StV.m).drop g.1)≤19)∧stK ((ss.map StV.m).take g.1)+stK ((ss.map StV.m).drop g.1)≤2000∧audG (fs.map FlV.m) 0 (led0 sh c.m) (ss.map StV.m)=audG (fs.map FlV.m) g.1 g.2.2 ((ss.map StV.m).drop g.1))
  (fun g=>[(0,aq b4),(1,aq b5),(2,aq b6),(3,aq b7),(4,aq b),(23,ae sad ss.length scap),(24,ac ss.length),(25,ac (g.1:Int))]) (fun g=>obj b4 tInt [ac sh]::obj b5 33 c.cells::obj b6 26 [ae sad ss.length scap]::obj b7 35 [ae fad fs.length fcap]::bkL b sh g.2.1 L) (fun g=>ss.length - g.1) (0,bk0 c ms mt mi mr,led0 sh c.m) ⟨az _,a8,c8,rfl,rfl,fun a j=>by have:=hS.l a j;show 0+_≤19;rw[List.drop_zero];omega,by have:=hS.k;rw[List.drop_zero,bC];show 0+_≤_;omega,rfl⟩ an (by simp only[bkL,bP];exact ah) ?_
 rintro⟨i,x,S⟩ ⟨hi,hx,hA,c6,a9,hL,hK,ha⟩;dsimp only at hi hx hA c6 a9 hL hK ha ⊢;subst c6;have d2:=hA.g.flows;have e2:=hA.g.steps
 have e4:x.flows.length=S.flows.length:=by
  have:=congrArg List.length hx.flows
  rwa [aA] at this
 have b0:(fs.map FlV.m).length=fs.length:=aA _;simp only[bkL,bP];by_cases c4:i<ss.length
 case neg =>
  obtain rfl:i=ss.length:=ab;have a6:(ss.map StV.m).drop ss.length=[]:=bM (by rw[aA];exact aI _);rw[a6,oQ,b0] at ha;repeat first|refine G.sn 17 ?_|refine bF ?_|intro _|refine cD ?_
  refine G.l6 (α:=Unit) (fun _=>True) (fun _=>[(0,aq b4),(2,aq b6),(96,.bool (dB ((x.flows.length:Int)<(fs.length:Int))))]) (fun _=>obj b4 tInt [ac S.shard]::obj b5 33 c.cells::obj b6 26 [ae sad ss.length scap]::obj b7 35 [ae fad fs.length fcap]::bkL b S.shard x L) ?_ ?_
  ·refine Ut ?_;intros;exact KX.l9 ⟨(),trivial,an,by simp only[bkL,bP];exact ah⟩
  rintro _ _;simp only[bkL,bP];by_cases hq:S.flows.length<fs.length
  ·rw[if_pos hq] at ha;rw[ha];have d5:(x.flows.length:Int)<(fs.length:Int):=ab;refine Ut ?_;intros;refine GO.ev (Ev.o6 rfl rfl ab ab) ag ?_;refine Ut ?_;intros;refine GO.ev (Ev.l5 rfl) ag ?_;refine GO.panic rfl ?_;repeat first|with_reducible apply KX.e8|with_reducible apply KX.d9
   exact KX.e9 ah ⟨(20,S.shard,S.shard*4294967296+(ss.length:Int)),rfl,rfl,rfl⟩
  ·rw[if_neg hq] at ha;rw[ha];have d5:¬(x.flows.length:Int)<(fs.length:Int):=ab;refine Ut ?_;intros;exact KX.m6 av ah ⟨rfl,rfl⟩
 have d3:(i:Int).toNat=i:=aD i;have b3 : (i:Int).toNat<ss.length:=ab;have c3:i<(ss.map StV.m).length:=by rw[aA];exact c4
 have c2:(ss.map StV.m)[i]! = ss[(i:Int).toNat]!.m:=by rw[d3];exact eD StV.m c4
 have a6:(ss.map StV.m).drop i=ss[(i:Int).toNat]!.m::(ss.map StV.m).drop (i+1):=by rw[←c2];exact fA c3
 have e3:stK ((ss.map StV.m).take (i+1))=stK ((ss.map StV.m).take i)+mvK ss[(i:Int).toNat]!.m.moves:=by
  rw[FJ c3,c2]
 rw[a6,jY] at ha;rw[a6] at hL hK;have a5:=aL b3;obtain⟨b1,b2⟩:=hS.inp _ a5;have b8:=d6 _ a5;refine G.ent (L':=stM ss[(i:Int).toNat]!::stP ss[(i:Int).toNat]!::obj b4 tInt [ac S.shard]::obj b5 33 c.cells::obj b6 26 [ae sad ss.length scap]::obj b7 35 [ae fad fs.length fcap]::bkL b S.shard x L) ((Ent.under (A:=obj b4 tInt [ac S.shard]::obj b5 33 c.cells::obj b6 26 [ae sad ss.length scap]::obj b7 35 [ae fad fs.length fcap]::bkL b S.shard x []) b8).trans Ent.andE) ?_;simp only[bkL,bP];refine Ut ?_;intros;refine GO.ev (Ev.o6 rfl rfl ab ab) ag ?_;refine Ut ?_;intros;generalize ss[(i:Int).toNat]! = s at *;have f0:stK (s.m::(ss.map StV.m).drop (i+1))=mvK s.m.moves+stK ((ss.map StV.m).drop (i+1)):=rfl;have c0:∀a j,stL a j (s.m::(ss.map StV.m).drop (i+1))=lotsIn a j s.m.moves+stL a j ((ss.map StV.m).drop (i+1)):=fun _ _=>rfl;obtain⟨a7,a4⟩:=qA (s:=s.m) hA ab;obtain⟨z,hz⟩:=kr S s.m;have f5:(cS S s.m).flows.length=S.flows.length+z.length:=by rw[hz,ax]
 have d1:=a7.g.flows;have e1:=a7.g.steps;by_cases c1:s.id=S.shard*4294967296+i
 case neg =>
  rw[if_pos (show s.m.id≠S.shard*4294967296+(i:Int) from c1)] at ha;rw[ha];refine Ut ?_;intros;refine GO.ev (Ev.l5 rfl) ag ?_;refine GO.panic rfl ?_;repeat first|with_reducible apply KX.e8|with_reducible apply KX.d9
  exact KX.e9 ah ⟨(1,S.shard,S.shard*4294967296+(i:Int)),rfl,rfl,rfl⟩
 rw[if_neg (show ¬(s.m.id≠S.shard*4294967296+(i:Int)) from fun q=>q c1)] at ha;refine Ut ?_;intros;rename_i a0;refine GO.ent (L':=bkL b S.shard x (stM s::stP s::obj a0 cQ (aX s)::obj b4 tInt [ac S.shard]::obj b5 33 c.cells::obj b6 26 [ae sad ss.length scap]::obj b7 35 [ae fad fs.length fcap]::L)) (by simp only[bkL,bP];exact ah) ?_;refine GO.ca (Dx b S (stK ((ss.map StV.m).take i)) hA (a9▸hc) s b1 b2 ab (fun a j=>by have:=hL a j;have:=c0 a j;omega) x hx) ?_;rintro _ _⟨rfl,(⟨he,x',b9,rfl⟩|⟨he,rfl⟩)⟩
 case inr =>
  rw[if_pos he] at ha;rw[ha];generalize (gTry S s.m).1=er at *;refine Ut ?_;intros;refine GO.ev (Ev.l5 rfl) ag ?_;refine GO.panic rfl ?_;repeat first|with_reducible apply KX.e8|with_reducible apply KX.d9
  exact KX.e9 ah ⟨(er,S.shard,S.shard*4294967296+(i:Int)),rfl,rfl,rfl⟩
 rw[if_neg (fun q=>q he)] at ha;rw[he]
 have a2 : x'.flows.length=(cS S s.m).flows.length:=by
  have:=congrArg List.length b9.flows
  rwa [aA] at this
 simp only[bkL,bP];repeat first|refine G.sn 14 ?_|refine bF ?_|intro _|refine cD ?_
 refine G.e8 (gg (ad:=x'.fad) (cap:=x'.fcap) (xs:=x'.flows) (enc:=bT) (sz:=11) (E:=dz)) ?_;rintro⟨a3,_⟩
 have c5:(x'.flows.drop x.flows.length).map FlV.m=((fs.drop x.flows.length).take (x'.flows.length - x.flows.length)).map FlV.m↔(cS S s.m).flows.drop S.flows.length=((fs.map FlV.m).drop S.flows.length).take ((cS S s.m).flows.length - S.flows.length):=by
  rw[List.map_drop,List.map_take,List.map_drop,b9.flows,e4,a2]
 refine G.l6 (α:=Bool) (fun r=>r=true↔((fs.map FlV.m).length<(cS S s.m).flows.length∨(cS S s.m).flows.drop S.flows.length≠((fs.map FlV.m).drop S.flows.length).take ((cS S s.m).flows.length - S.flows.length))) (fun r=>[(0,aq b4),(1,aq b5),(2,aq b6),(3,aq b7),(4,aq b),(7,ac (S.shard*4294967296+(i:Int))),(23,ae sad ss.length scap),(24,ac ss.length),(25,ac (i:Int)),(83,.bool r)]) (fun _=>bkL b S.shard x' (stM s::stP s::obj a0 cQ (aX s)::obj b4 tInt [ac S.shard]::obj b5 33 c.cells::obj b6 26 [ae sad ss.length scap]::obj b7 35 [ae fad fs.length fcap]::L)) ?_ ?_
 ·by_cases q1:fs.length<x'.flows.length
  ·have f6 : (fs.length:Int)<(x'.flows.length:Int):=ab;refine Ut ?_;intros;exact KX.l9 ⟨true,⟨fun _=>.inl (by rw[b0,←a2];exact q1),fun _=>rfl⟩,an,by simp only[bkL,bP];exact ah⟩
  have c7:∀f∈x'.flows.drop x.flows.length,Ent (bkL b S.shard x' (stM s::stP s::obj a0 cQ (aX s)::obj b4 tInt [ac S.shard]::obj b5 33 c.cells::obj b6 26 [ae sad ss.length scap]::obj b7 35 [ae fad fs.length fcap]::L)) (flP f::bkL b S.shard x' (stM s::stP s::obj a0 cQ (aX s)::obj b4 tInt [ac S.shard]::obj b5 33 c.cells::obj b6 26 [ae sad ss.length scap]::obj b7 35 [ae fad fs.length fcap]::L)):=fun f hf=>by
   simp only[bkL,bP];refine(Ent.at (A:=allP flP x'.flows) (Ent.d9 (f:=flP) (gD hf))).trans ?_;exact ah
  have a8:∀f∈(fs.drop x.flows.length).take (x'.flows.length - x.flows.length),Ent (bkL b S.shard x' (stM s::stP s::obj a0 cQ (aX s)::obj b4 tInt [ac S.shard]::obj b5 33 c.cells::obj b6 26 [ae sad ss.length scap]::obj b7 35 [ae fad fs.length fcap]::L)) (flP f::bkL b S.shard x' (stM s::stP s::obj a0 cQ (aX s)::obj b4 tInt [ac S.shard]::obj b5 33 c.cells::obj b6 26 [ae sad ss.length scap]::obj b7 35 [ae fad fs.length fcap]::L)):=fun f hf=>Ent.under (A:=bkL b S.shard x' (stM s::stP s::obj a0 cQ (aX s)::obj b4 tInt [ac S.shard]::obj b5 33 c.cells::obj b6 26 [ae sad ss.length scap]::obj b7 35 [ae fad fs.length fcap]::[])) (c9 f (gD (cz hf)));have f1:Rds (bkL b S.shard x' (stM s::stP s::obj a0 cQ (aX s)::obj b4 tInt [ac S.shard]::obj b5 33 c.cells::obj b6 26 [ae sad ss.length scap]::obj b7 35 [ae fad fs.length fcap]::L)) (advA x'.fad x'.fcap 11 x.flows.length) FlV bT 11 (x'.flows.drop x.flows.length):=Rds.drop inferInstance a3 _;have f2:Rds (bkL b S.shard x' (stM s::stP s::obj a0 cQ (aX s)::obj b4 tInt [ac S.shard]::obj b5 33 c.cells::obj b6 26 [ae sad ss.length scap]::obj b7 35 [ae fad fs.length fcap]::L)) (advA fad fcap 11 x.flows.length) FlV bT 11 ((fs.drop x.flows.length).take (x'.flows.length - x.flows.length)):=Rds.take (Rds.drop inferInstance d0 _) _;refine Ut ?_;intros;rw[show(Int.toNat (x.flows.length:Int))=x.flows.length from aD _,show(Int.toNat (x'.flows.length:Int))=x'.flows.length from aD _];refine GPW.cr (Fc (advA x'.fad x'.fcap 11 x.flows.length) (advA fad fcap 11 x.flows.length) (x'.flows.length - x.flows.length) (x'.flows.length - x.flows.length) (x'.fcap - x.flows.length) (fcap - x.flows.length) (x'.flows.drop x.flows.length) ((fs.drop x.flows.length).take (x'.flows.length - x.flows.length)) (by rw[dQ]) (by rw[bg,dQ];omega) (by have:=hF.len;rw[bg,dQ];omega) (fun f hf=>hF.fl f (gD (cz hf))) c7 a8) ?_;by_cases q2:(x'.flows.drop x.flows.length).map FlV.m=((fs.drop x.flows.length).take (x'.flows.length - x.flows.length)).map FlV.m
  ·rw[aZ q2];refine Ut ?_;intros;refine KX.l9 ⟨false,⟨fun q=>absurd q ag,fun q=>?_⟩,an,by simp only[bkL,bP];exact ah⟩;rcases q with q|q
   ·rw[b0,←a2] at q;exact absurd q q1
   ·exact absurd (c5.1 q2) q
  ·rw[aM q2];refine Ut ?_;intros;exact KX.l9 ⟨true,⟨fun _=>.inr (fun q=>q2 (c5.2 q)),fun _=>rfl⟩,an,by simp only[bkL,bP];exact ah⟩
 intro r hr;simp only[bkL,bP];by_cases a1:((fs.map FlV.m).length<(cS S s.m).flows.length∨(cS S s.m).flows.drop S.flows.length≠((fs.map FlV.m).drop S.flows.length).take ((cS S s.m).flows.length - S.flows.length))
 ·rw[if_pos a1] at ha;rw[ha];obtain rfl:=hr.2 a1;refine Ut ?_;intros;refine GO.ev (Ev.l5 rfl) ag ?_;refine GO.panic rfl ?_;repeat first|with_reducible apply KX.e8|with_reducible apply KX.d9
  exact KX.e9 ah ⟨(20,S.shard,S.shard*4294967296+(i:Int)),rfl,rfl,rfl⟩
 rw[if_neg a1] at ha
 obtain rfl:r=false:=by
  cases r with
  | false=>rfl
  | true=>exact absurd (hr.1 rfl) a1
 refine Ut ?_;intros;refine⟨(i+1,x',cS S s.m),⟨by dsimp only;omega,b9,by dsimp only;rw[e3];exact a7,qV S s.m,(nr S s.m).trans a9,fun a j=>?_,by dsimp only;omega,ha⟩,by dsimp only;omega,?_,?_⟩
 ·have g1:=hL a j;have g2:=c0 a j;have g3:=a4 a j;dsimp only;omega
 ·dsimp only;rw[aU i];exact an
 ·exact ah
end
section
open Go.V
def Ent.m8{A B:HP}{L:LH}:Ent (A::B::L) (cY [A,B]::L):=fun θ R w s=>Sat.d7 (A:=[A,B]) s
def Ent.unstars2{A B:HP}{L:LH}:Ent (cY [A,B]::L) (A::B::L):=fun θ R w s=>Sat.ofStars (A:=[A,B]) s
def flO(f:FlV):HP:=cY [osl ay 3 tLot f.pad f.pcap f.m.parts,osl (encZ .i64) 1 tInt f.mad f.mcap f.m.made]
def stO(s:StV):HP:=cY [osl aT 5 tMv s.mad s.mcap s.moves,allP mvP s.moves]
def fl0:FlV:=⟨⟨0,0,0,0,0,0,0,0,0,[],[]⟩,none,0,none,0⟩
def st0:StV:=⟨0,0,0,0,0,0,[],none,0⟩
def flP_open{f:FlV}{L:LH}:Ent (flP f::L) (isl ay 3 f.pad f.m.parts::isl (encZ .i64) 1 f.mad f.m.made::flP f::L):=(Ent.dup (lr f).pers).trans Ent.andE
attribute [local irreducible] G GO GP GPW GPK Ev Ef EfR Ent CB GB V.Enters
abbrev Ct:List Stp:=[.ev 0,.ev 1,.ev 3,.ev 4,.ef 2,.ev 6,.ef 5,.ef 7,.ev 8,.ef 9]
def UM{φ ψ:Prop}(k:ψ)(h:Hid ψ→φ:=by intro k;(repeat (first|refine aa ?_|intro zzz|refine G.dr 12 1 Ct ?_));(repeat revert zzz);exact Hid.out k):φ:=h ⟨k⟩
def xX{L:LH}(f:FlV)(h1:f.m.parts.length≤1000000)(h2:f.m.made.length≤1000000) :
  Tri ai 70 #[aN (bT f)] (flP f::L) (fun v L'=>∃f',v=aN (bT f')∧f'.m=f.m∧L' = flO f'::flP f::L):=by
 obtain⟨⟨i1,i2,i3,i4,i5,i6,i7,i8,i9,parts,made⟩,pad,pcap,mad,mcap⟩:=f;dsimp only at h1 h2;refine Tri.bd (args:=[aN (bT ⟨⟨i1,i2,i3,i4,i5,i6,i7,i8,i9,parts,made⟩,pad,pcap,mad,mcap⟩)]) ?_;refine G.ent flP_open ?_;dsimp only;refine UM ?_;intros;refine GPW.ca (gV pad parts.length pcap parts rfl h1) ?_;rintro _ _⟨a2,a0,rfl,rfl⟩;refine UM ?_;intros;refine GPW.ca (iN mad made.length mcap made rfl h2) ?_;rintro _ _⟨a3,a1,rfl,rfl⟩;refine UM ?_;intros;refine KX.d7 (by exact ResOk.cell rfl aJ (ResOk.nil)) ?_ ⟨⟨⟨i1,i2,i3,i4,i5,i6,i7,i8,i9,parts,made⟩,a2,a0,a3,a1⟩,rfl,rfl,rfl⟩;refine Ent.trans (B:=osl ay 3 tLot a2 a0 parts::osl (encZ .i64) 1 tInt a3 a1 made::flP ⟨⟨i1,i2,i3,i4,i5,i6,i7,i8,i9,parts,made⟩,pad,pcap,mad,mcap⟩::L) ah ?_;exact Ent.m8
def xQ{L:LH}(ad:OA)(c:Nat)(ms:List FlV)(hl:ms.length≤100000)(hp:∀m∈ms,m.m.parts.length≤1000000∧m.m.made.length≤1000000) :
  Tri ai 69 #[ae ad ms.length c,.func (.func 70) #[] #[]] (asl bT 11 dz ad c ms::allP flP ms::L) (fun v L'=>∃a3 c' a1,v=ae a3 a1.length c'∧a1.map (·.m)=ms.map (·.m)∧L' = osl bT 11 dz a3 c' a1::bigO flO a1::asl bT 11 dz ad c ms::allP flP ms::L):=by
 refine Tri.bd ?_;by_cases h0:ms.length=0
 ·have e:ms=[]:=aW h0;subst e;refine IF ?_;intros;exact KX.d7 av ((Ent.l8 flO).trans (Ent.d8 bT 11 dz)) ⟨none,0,[],rfl,rfl,rfl⟩
 refine IF ?_;intros;refine GO.ef (Ef.f8 bT fl0 rfl rfl rfl ab ab ab ab) ag ?_;rintro _ _⟨bs,rfl,rfl⟩;rw[show(ms.length:Int).toNat=ms.length by omega];refine IF ?_;intros
 refine G.loop (α:=Nat×List FlV) (fun z=>z.1≤ms.length∧z.2.length=ms.length∧(z.2.take z.1).map (·.m)=(ms.take z.1).map (·.m)) (fun z=>[(1,.func (.func 70) #[] #[]),(5,ae (some ⟨bs,0,none⟩) ms.length ms.length),(14,ae ad ms.length c),(15,ac (ms.length:Int)),(16,ac (z.1:Int))])
  (fun z=>osl bT 11 dz (some ⟨bs,0,none⟩) ms.length z.2::bigO flO (z.2.take z.1)::asl bT 11 dz ad c ms::allP flP ms::L) (fun z=>ms.length - z.1) (0,List.replicate ms.length fl0) ⟨az _,by simp,by simp⟩ an ?_ ?_
 ·dsimp only;rw[bC];refine(Ent.l8 flO).trans ?_;exact ah
 rintro⟨i,zs⟩ ⟨hi,a7,a0⟩;dsimp only at hi a7 a0 ⊢;by_cases a2:i<ms.length
 case neg =>
  have a8:i=ms.length:=ab;subst a8;rw[aB ab,aB ab] at a0;rw[aB (ab:zs.length≤ms.length)];refine IF ?_;intros;refine KX.d7 av (Ent.refl _) ⟨some ⟨bs,0,none⟩,ms.length,zs,by rw[a7];rfl,a0,rfl⟩
 have a4:(i:Int).toNat=i:=ab;have a5:ms[i]!∈ms:=aL a2;have a6:=hp _ a5;refine IF ?_;intros;rw[a4];refine GO.ent (Ent.at (A:=allP flP ms) (Ent.d9 (x:=ms[i]!) a5)) ?_;refine GO.ef (Ef.d8 rfl rfl (xX ms[i]! a6.1 a6.2)) ag ?_;rintro _ _⟨m',rfl,a9,rfl⟩;refine IF ?_;intros;refine GO.efu (Ef.e7 (e:=m') rfl rfl aJ aJ (jT _) ab) ?_;rintro _ _ rfl;rw[a4];refine IF ?_;intros;refine⟨(i+1,zs.set i m'),⟨by dsimp only;omega,by dsimp only;simp;omega,?_⟩,by dsimp only;omega,?_,?_⟩
 ·dsimp only;rw[dp ab,aC a2,aR,aR,a0,←getElem!_of a2];simp[a9]
 ·dsimp only;rw[aU i];exact an
 ·dsimp only;rw[dp ab];refine Ent.d7 ?_;refine Ent.trans (B:=flO m'::bigO flO (zs.take i)::asl bT 11 dz ad c ms::allP flP ms::L) ah ?_;exact Ent.m6
def nE{L:LH}(b:Nat)(S:LedM)(hS:∀f∈S.flows,f.parts.length≤1000000∧f.made.length≤1000000)(a3:S.flows.length≤100000) :
  Tri ai 26 #[aq b] (LedR b S::L) (fun v L'=>∃ad cap fs,v=ae ad fs.length cap∧fs.map FlV.m=S.flows∧L' = osl bT 11 dz ad cap fs::bigO flO fs::LedR b S::L):=by
 refine Tri.bd ?_;refine G.e7 (f:=ledA b S) ?_;intro x;simp only[ledA,ledL,bS,ak,aj];refine G.e9 ?_;intro hF;have a4:x.flows.length=S.flows.length:=by rw[←hF.flows];simp
 have a2:∀m∈x.flows,m.m.parts.length≤1000000∧m.m.made.length≤1000000:=fun m hm=>by
  have:=hS m.m (by rw[←hF.flows];exact alStd0List_mem_map_of_mem hm)
  omega
 refine IF ?_;intros;refine GO.ent (Ent.at (A:=asl bT 11 dz x.fad x.fcap x.flows) (Ent.d7 (Ent.at (A:=allP flP x.flows) (Ent.refl _)))) ?_;refine GO.ca (xQ x.fad x.fcap x.flows ab a2) ?_;rintro _ _⟨a0,c',fs,rfl,a1,rfl⟩;refine IF ?_;intros;refine KX.d7 av ?_ ⟨a0,c',fs,rfl,a1.trans hF.flows,rfl⟩;refine Ent.trans ?_ (Ent.d7 (Ent.d7 (jP x hF)));simp only[ledL];exact ah
def xN{L:LH}(ad:OA)(c:Nat)(ms:List MvV)(hl:ms.length≤64)(hp:∀m∈ms,m.m.parts.length≤1000000) :
  Tri ai 125 #[ae ad ms.length c,.func (.func 126) #[] #[]] (isl aT 5 ad ms::allP mvP ms::L) (fun v L'=>∃a3 c' a1,v=ae a3 a1.length c'∧a1.map (·.m)=ms.map (·.m)∧L' = osl aT 5 tMv a3 c' a1::allP mvP a1::isl aT 5 ad ms::allP mvP ms::L):=by
 refine Tri.bd ?_;by_cases h0:ms.length=0
 ·have e:ms=[]:=aW h0;subst e;refine IF ?_;intros;exact KX.d7 av ((Ent.e7 mvP).trans (Ent.d8 aT 5 tMv)) ⟨none,0,[],rfl,rfl,rfl⟩
 refine IF ?_;intros;refine GO.ef (Ef.f8 aT mv0 rfl rfl rfl ab ab ab ab) ag ?_;rintro _ _⟨bs,rfl,rfl⟩;rw[show(ms.length:Int).toNat=ms.length by omega];refine IF ?_;intros
 refine G.loop (α:=Nat×List MvV) (fun z=>z.1≤ms.length∧z.2.length=ms.length∧(z.2.take z.1).map (·.m)=(ms.take z.1).map (·.m)) (fun z=>[(1,.func (.func 126) #[] #[]),(5,ae (some ⟨bs,0,none⟩) ms.length ms.length),(14,ae ad ms.length c),(15,ac (ms.length:Int)),(16,ac (z.1:Int))])
  (fun z=>osl aT 5 tMv (some ⟨bs,0,none⟩) ms.length z.2::allP mvP (z.2.take z.1)::isl aT 5 ad ms::allP mvP ms::L) (fun z=>ms.length - z.1) (0,List.replicate ms.length mv0) ⟨az _,by simp,by simp⟩ an ?_ ?_
 ·dsimp only;rw[bC];refine(Ent.e7 mvP).trans ?_;exact ah
 rintro⟨i,zs⟩ ⟨hi,a6,a0⟩;dsimp only at hi a6 a0 ⊢;by_cases a2:i<ms.length
 case neg =>
  have a7:i=ms.length:=ab;subst a7;rw[aB ab,aB ab] at a0;rw[aB (ab:zs.length≤ms.length)];refine IF ?_;intros;refine KX.d7 av (Ent.refl _) ⟨some ⟨bs,0,none⟩,ms.length,zs,by rw[a6];rfl,a0,rfl⟩
 have a4:(i:Int).toNat=i:=ab;have a5:ms[i]!∈ms:=aL a2;refine IF ?_;intros;rw[a4];refine GO.ent (Ent.at (A:=allP mvP ms) (Ent.d9 (x:=ms[i]!) a5)) ?_;refine GO.ef (Ef.d8 rfl rfl (qb ms[i]! (hp _ a5))) ag ?_;rintro _ _⟨m',rfl,a8,rfl⟩;refine IF ?_;intros;refine GO.efu (Ef.e7 (e:=m') rfl rfl aJ aJ (km _) ab) ?_;rintro _ _ rfl;rw[a4];refine IF ?_;intros;refine⟨(i+1,zs.set i m'),⟨by dsimp only;omega,by dsimp only;simp;omega,?_⟩,by dsimp only;omega,?_,?_⟩
 ·dsimp only;rw[dp ab,aC a2,aR,aR,a0,←getElem!_of a2];simp[a8]
 ·dsimp only;rw[aU i];exact an
 ·dsimp only;rw[dp ab];refine Ent.d7 ?_;refine Ent.trans (B:=allP mvP (zs.take i)::mvP m'::isl aT 5 ad ms::allP mvP ms::L) ah ?_;exact(Ent.d7 (Ent.l0 iQ)).trans (Ent.j0 iQ)
def xU{L:LH}(s:StV)(hl:s.moves.length≤64)(hp:∀m∈s.moves,m.m.parts.length≤1000000) :
  Tri ai 68 #[aN (aX s)] (stM s::stP s::L) (fun v L'=>∃s',v=aN (aX s')∧s'.m=s.m∧L' = stO s'::stM s::stP s::L):=by
 obtain⟨i0,i1,i2,i3,i4,i5,ms,mad,mcap⟩:=s;dsimp only at hl hp;refine Tri.bd (args:=[aN (aX ⟨i0,i1,i2,i3,i4,i5,ms,mad,mcap⟩)]) ?_;refine IF ?_;intros;refine GO.ent (Ent.at (A:=isl aT 5 mad ms) (Ent.d7 (Ent.at (A:=allP mvP ms) (Ent.refl _)))) ?_;refine GO.ca (xN mad mcap ms hl hp) ?_;rintro _ _⟨a1,c',a0,rfl,a2,rfl⟩;refine IF ?_;intros;refine KX.d7 (by exact ResOk.cell rfl aJ (ResOk.nil)) ?_ ⟨⟨i0,i1,i2,i3,i4,i5,a0,a1,c'⟩,rfl,by simp only[StV.m,a2],rfl⟩;refine Ent.trans (B:=osl aT 5 tMv a1 c' a0::allP mvP a0::isl aT 5 mad ms::allP mvP ms::L) ah ?_;exact Ent.m8
def xL{L:LH}(ad:OA)(c:Nat)(ms:List StV)(hl:ms.length≤100000)(hp:∀m∈ms,m.moves.length≤64∧∀u∈m.moves,u.m.parts.length≤1000000) :
  Tri ai 67 #[ae ad ms.length c,.func (.func 68) #[] #[]] (asl aX 7 cQ ad c ms::allP cR ms::L) (fun v L'=>∃a3 c' a1,v=ae a3 a1.length c'∧a1.map (·.m)=ms.map (·.m)∧L' = osl aX 7 cQ a3 c' a1::bigO stO a1::asl aX 7 cQ ad c ms::allP cR ms::L):=by
 refine Tri.bd ?_;by_cases h0:ms.length=0
 ·have e:ms=[]:=aW h0;subst e;refine IF ?_;intros;exact KX.d7 av ((Ent.l8 stO).trans (Ent.d8 aX 7 cQ)) ⟨none,0,[],rfl,rfl,rfl⟩
 refine IF ?_;intros;refine GO.ef (Ef.f8 aX st0 rfl rfl rfl ab ab ab ab) ag ?_;rintro _ _⟨bs,rfl,rfl⟩;rw[show(ms.length:Int).toNat=ms.length by omega];refine IF ?_;intros
 refine G.loop (α:=Nat×List StV) (fun z=>z.1≤ms.length∧z.2.length=ms.length∧(z.2.take z.1).map (·.m)=(ms.take z.1).map (·.m)) (fun z=>[(1,.func (.func 68) #[] #[]),(5,ae (some ⟨bs,0,none⟩) ms.length ms.length),(14,ae ad ms.length c),(15,ac (ms.length:Int)),(16,ac (z.1:Int))])
  (fun z=>osl aX 7 cQ (some ⟨bs,0,none⟩) ms.length z.2::bigO stO (z.2.take z.1)::asl aX 7 cQ ad c ms::allP cR ms::L) (fun z=>ms.length - z.1) (0,List.replicate ms.length st0) ⟨az _,by simp,by simp⟩ an ?_ ?_
 ·dsimp only;rw[bC];refine(Ent.l8 stO).trans ?_;exact ah
 rintro⟨i,zs⟩ ⟨hi,a7,a0⟩;dsimp only at hi a7 a0 ⊢;by_cases a2:i<ms.length
 case neg =>
  have a8:i=ms.length:=ab;subst a8;rw[aB ab,aB ab] at a0;rw[aB (ab:zs.length≤ms.length)];refine IF ?_;intros;refine KX.d7 av (Ent.refl _) ⟨some ⟨bs,0,none⟩,ms.length,zs,by rw[a7];rfl,a0,rfl⟩
 have a4:(i:Int).toNat=i:=ab;have a5:ms[i]!∈ms:=aL a2;have a6:=hp _ a5;refine IF ?_;intros;rw[a4];refine GO.ent (Ent.at (A:=allP cR ms) ((Ent.d9 (f:=cR) (x:=ms[i]!) a5).trans Ent.andE)) ?_;refine GO.ef (Ef.d8 rfl rfl (xU ms[i]! a6.1 a6.2)) ag ?_;rintro _ _⟨m',rfl,a9,rfl⟩;refine IF ?_;intros;refine GO.efu (Ef.e7 (e:=m') rfl rfl aJ aJ (lu _) ab) ?_;rintro _ _ rfl;rw[a4];refine IF ?_;intros;refine⟨(i+1,zs.set i m'),⟨by dsimp only;omega,by dsimp only;simp;omega,?_⟩,by dsimp only;omega,?_,?_⟩
 ·dsimp only;rw[dp ab,aC a2,aR,aR,a0,←getElem!_of a2];simp[a9]
 ·dsimp only;rw[aU i];exact an
 ·dsimp only;rw[dp ab];refine Ent.d7 ?_;refine Ent.trans (B:=stO m'::bigO stO (zs.take i)::asl aX 7 cQ ad c ms::allP cR ms::L) ah ?_;exact Ent.m6
def yr{L:LH}(b:Nat)(S:LedM)(hS:∀s∈S.steps,s.moves.length≤64∧∀u∈s.moves,u.parts.length≤1000000)(a3:S.steps.length≤100000) :
  Tri ai 25 #[aq b] (LedR b S::L) (fun v L'=>∃ad cap ss,v=ae ad ss.length cap∧ss.map StV.m=S.steps∧L' = osl aX 7 cQ ad cap ss::bigO stO ss::LedR b S::L):=by
 refine Tri.bd ?_;refine G.e7 (f:=ledA b S) ?_;intro x;simp only[ledA,ledL,bS,ak,aj];refine G.e9 ?_;intro hF;have a4:x.steps.length=S.steps.length:=by rw[←hF.steps];simp
 have a2:∀m∈x.steps,m.moves.length≤64∧∀u∈m.moves,u.m.parts.length≤1000000:=fun m hm=>by
  have h1:=hS m.m (by rw[←hF.steps];exact alStd0List_mem_map_of_mem hm);exact⟨by have:=h1.1;simpa [StV.m] using this,fun u hu=>h1.2 u.m (alStd0List_mem_map_of_mem hu)⟩
 refine IF ?_;intros;refine GO.ent (Ent.at (A:=asl aX 7 cQ x.sad x.scap x.steps) (Ent.d7 (Ent.at (A:=allP cR x.steps) (Ent.refl _)))) ?_;refine GO.ca (xL x.sad x.scap x.steps ab a2) ?_;rintro _ _⟨a0,c',fs,rfl,a1,rfl⟩;refine IF ?_;intros;refine KX.d7 av ?_ ⟨a0,c',fs,rfl,a1.trans hF.steps,rfl⟩;refine Ent.trans ?_ (Ent.d7 (Ent.d7 (jP x hF)));simp only[ledL];exact ah
end
section
open Go.V
def it22:List ItG:=[⟨⟨#[103,111,108,100]⟩,false,false,true,0,0,0⟩,⟨⟨#[111,114,101]⟩,false,false,false,0,0,0⟩,⟨⟨#[100,117,115,116]⟩,false,true,false,0,0,0⟩,⟨⟨#[103,101,109]⟩,false,false,false,0,0,0⟩]
def cat22:CatM:=⟨it22,[],[],[]⟩
def Ds:CatGood cat22:=by
 refine⟨by decide,by decide,by decide,by decide,?_,?_,?_,?_,by decide,by decide,by decide,by decide⟩
 ·intro x hx;simp only[cat22,it22,bh,aH,or_false] at hx;rcases hx with rfl|rfl|rfl|rfl<;>exact⟨fJ (by decide +kernel),by decide,by decide⟩
 ·intro r hr;cases hr
 ·intro r hr;cases hr
 ·intro r hr;cases hr
def rM:cat22.Ok:=⟨(fun r hr=>by cases hr),(fun r hr=>by cases hr),(fun r hr=>by cases hr)⟩
def jF(bi:Nat):CatV:=⟨it22,some ⟨bi,0,none⟩,4,[],none,0,[],none,0,[],none,0⟩
def Gv(bi:Nat):(jF bi).B:=by
 refine⟨ao rfl,ao rfl,ao rfl,ao rfl,?_,?_,?_⟩<;>intro r hr<;>cases hr
attribute [local irreducible] G GO GP GPW GPK GF GE Ev Ef EfR Ent CB GB V.Enters
def tU{L:LH}:Tri ai 51 #[] L (fun v L'=>∃c:CatV,v=aN c.cells∧(c.m=cat22∧c.B)∧L' = catP c::L):=by
 refine Tri.bd ?_;refine IF ?_;intros;rename_i b0 bi;refine KX.d7 (vs:=[.agg (jF bi).cells.toArray]) (ResOk.cell rfl aJ ResOk.nil) ?_ ⟨jF bi,rfl,⟨rfl,Gv bi⟩,rfl⟩;refine(Ent.l5 (b:=bi) (enc:=be) (sz:=7) it22 rfl (fun _ _=>rfl) (ao rfl)).trans ?_;refine(Ent.e7 txP).trans ((Ent.f8 bN 2 none).trans (Ent.trans (Ent.e8 (bI _ _ _ _) (cG ka)) ?_));refine(Ent.e7 tbP).trans ((Ent.f8 bK 2 none).trans (Ent.trans (Ent.e8 (bI _ _ _ _) (cG jn)) ?_));refine(Ent.e8 (kw (jF bi)) (ku (jF bi))).trans ?_;refine(Ent.e7 ruP).trans ((Ent.f8 bj 9 none).trans (Ent.trans (Ent.e8 (bI _ _ _ _) (cG jp)) ?_));refine(Ent.e8 (mX (jF bi)) ((kw (jF bi)).and (ku (jF bi)))).trans ?_;refine(Ent.swap.trans (Ent.e8 (sY (jF bi)) ((mX (jF bi)).and ((kw (jF bi)).and (ku (jF bi)))))).trans ?_;exact Ent.d7 Ent.drop
def CO{L:LH}(sh:Int)(c:CatV)(a1:0≤sh∧sh<12)(hB:c.B)(h:CatGood c.m):Tri ai 23 #[ac sh,aN c.cells] (catP c::cn::L) (fun v L'=>∃b,v=.tuple #[aq b,ac 0]∧L' = LedR b (led0 sh c.m)::catP c::cn::L):=by
 obtain⟨h1,h2⟩:=a1;refine Tri.bd ?_;simp only[CatV.cells];refine IF ?_;intros;rename_i b3;refine GO.ent (L':=catP c::cn::obj b3 tCat c.cells::L) (by simp only[CatV.cells];exact ah) ?_;refine GO.cr (uN c hB h) ?_;simp only[CatV.cells];refine IF ?_;intros;refine GO.ent (L':=catP c::cn::obj b3 tCat c.cells::L) (by simp only[CatV.cells];exact ah) ?_;refine GO.ca (oZ c hB) ?_;rintro _ _⟨c',rfl,a0,rfl⟩;simp only[CatV.cells];refine GO.ef (Ef.e8 kvP Stk.v (.inl rfl)) ag ?_;rintro _ _⟨b1,rfl,rfl⟩;refine GO.ef (Ef.e8 kvI encN (.inl rfl)) ag ?_;rintro _ _⟨b2,rfl,rfl⟩;refine GO.ef (Ef.e8 kvI Stk.v (.inl rfl)) ag ?_;rintro _ _⟨b4,rfl,rfl⟩;refine GO.ef (Ef.e8 kvI Stk.v (.inl rfl)) ag ?_;rintro _ _⟨b5,rfl,rfl⟩;refine IF ?_;intros;rename_i b6;refine KX.d7 av ?_ ⟨b6,rfl,rfl⟩;refine Ent.trans ?_ (jP (S:=led0 sh c.m) ⟨c',b1,b2,b4,b5,[],[],[],[],[],none,0,[],none,0⟩ ⟨a0,CatV.d7 a0 hB,fun _ _=>rfl,(fun _ h=>by cases h),fun _=>rfl,rfl,rfl,fun _=>rfl,fun _=>rfl⟩);simp only[ledL,bS,led0];refine(Ent.d8 aX 7 cQ).trans (Ent.ofOsl.trans ((Ent.d8 bT 11 dz).trans (Ent.ofOsl.trans ?_)));refine(Ent.e7 (fun p:(Int×Int)×Stk=>stkP p.2)).trans ((Ent.e7 cR).trans ((Ent.e7 flP).trans ((Ent.e7 (fun p:Int×Stk=>stkP p.2)).trans ((Ent.e7 (fun p:Int×Stk=>stkP p.2)).trans ?_))));exact ah
end
section
open Go.V
attribute [local irreducible] G GO GP GPW GPK Ev Ef EfR Ent CB GB V.Enters th
def oX{L:LH}(sh:Int)(c:CatV)(hB:c.B)(hc:c.m.Ok)(sad:OA)(n scap:Nat)(ss:List StV)[a6:Rds L sad StV aX 7 ss](hn:n=ss.length)(hS:AudS ss)(a4:∀s∈ss,Ent L (cR s::L))(fad:OA)(n2 fcap:Nat)(fs:List FlV)[a5:Rds L fad FlV bT 11 fs](a3:n2=fs.length)(hF:AudFl fs)(a2:fs.length≤fcap)(a1:∀f∈fs,Ent L (flP f::L)) :
  Tri ai 14 #[ac sh,aN c.cells,ae sad n scap,ae fad n2 fcap] (catP c::L) (rtQ (aN (gk (audF sh c.m (ss.map StV.m) (fs.map FlV.m)))) L):=by
 refine Tri.bd ?_;refine IF ?_;intros;rename_i b4 b5 b6 b7 b8;refine GO.ent (L':=obj b4 tInt [ac sh]::obj b5 33 c.cells::obj b6 26 [ae sad n scap]::obj b7 35 [ae fad n2 fcap]::catP c::obj b8 tFnd [ac 0,ac 0,ac 0]::L) ah ?_;refine GO.ca (Do 44 [aq b4,aq b5,aq b6,aq b7] (fun L'=>audF sh c.m (ss.map StV.m) (fs.map FlV.m)=(0,0,0)∧L' = obj b8 tFnd [ac 0,ac 0,ac 0]::L) (fun x L'=>x=audF sh c.m (ss.map StV.m) (fs.map FlV.m)∧L' = obj b8 tFnd [ac 0,ac 0,ac 0]::L) (xg (L:=obj b8 tFnd [ac 0,ac 0,ac 0]::L) b4 b5 b6 b7 sh c hB hc sad n scap ss hn hS (fun s hs=>Ent.under (A:=[obj b8 tFnd [ac 0,ac 0,ac 0]]) (a4 s hs)) fad n2 fcap fs a3 hF a2 (fun f hf=>Ent.under (A:=[obj b8 tFnd [ac 0,ac 0,ac 0]]) (a1 f hf)))) ?_;rintro _ _⟨x,rfl,hx⟩;rcases hx with⟨a0,h1,rfl⟩|⟨a0,rfl⟩
 ·subst a0;rw[h1];refine IF ?_;intros;exact KX.d7 (by exact ResOk.cell rfl aJ (ResOk.nil)) ah ⟨rfl,rfl⟩
 rw[←a0];clear a0;refine IF ?_;intros;exact KX.d7 (by exact ResOk.cell rfl aJ (ResOk.nil)) ah ⟨rfl,rfl⟩
end
section
open Go.V
def exS:StM:=⟨0,0,0,0,-1,0,[⟨0,1,0,5,[]⟩]⟩
def exT(n:Int):StM:=⟨0,2,0,0,-1,0,[⟨1,2,0,n,[]⟩]⟩
def exF0:FlM:=⟨0,0,0,0,0,0,1,0,5,[],[]⟩
def exF1(a:Int):FlM:=⟨1,1,2,0,0,1,2,0,3,[(0,a,3)],[]⟩
def exW1:Wk:=⟨upd2 (fun _ _=>[]) 1 0 [(0,0,5)],upd (fun _=>0) 0 5,[exF0],[]⟩
def exL1:LedM:={ led0 0 cat22 with stk:=exW1.stk,tot:=exW1.tot,steps:=[exS],flows:=[exF0] }
def exW2:Wk:=⟨upd2 (upd2 exW1.stk 1 0 [(0,3,2)]) 2 0 [(1,0,3)],upd exW1.tot 0 5,[exF1 0],[]⟩
def exL2:LedM:={ exL1 with stk:=exW2.stk,tot:=exW2.tot,steps:=[exS,(exT 3).at 1],flows:=[exF0,exF1 0] }
def exM1:iK 0 0 (cu cat22) exS (wk0 (led0 0 cat22)) exS.moves=(0,exW1):=rfl
def exG1:ew 0 [] (cu cat22) exS (wk0 (led0 0 cat22)) exS.moves=(0,exW1):=rfl
def exM2:iK 0 1 (cu cat22) ((exT 3).at 1) (wk0 exL1) (exT 3).moves=(0,exW2):=rfl
def exG2:ew 0 [exF0] (cu cat22) ((exT 3).at 1) (wk0 exL1) (exT 3).moves=(0,exW2):=rfl
def exG3:(ew 0 [exF0] (cu cat22) ((exT 6).at 1) (wk0 exL1) (exT 6).moves).1=10:=rfl
def DZ{k:Int}(h:¬(k=5∨k=7∨k=9)):kM k=false:=by unfold kM;exact aM h
def exP(now:Int)(h:now=0){s:StM}(hs:s=exS∨s=exT 3∨s=exT 6):gu cat22 now s∧mA cat22 now s:=by
 subst h;rcases hs with rfl|rfl|rfl
 all_goals
  refine⟨⟨⟨by decide,by decide⟩,⟨by decide,by decide⟩,⟨by decide,by decide⟩,⟨by decide,by decide⟩,fun m hm=>?_,?_⟩,⟨⟨by decide,by decide⟩,⟨by decide,by decide,by decide⟩,⟨by decide,by decide⟩,fun m hm=>?_,?_⟩⟩
  ·rw[List.mem_singleton.1 hm]
   refine⟨⟨⟨by decide,by decide⟩,⟨by decide,by decide⟩,by decide,by decide,by decide,by decide,by decide⟩,?_⟩
   rw[DZ ag,if_neg ag]
   rfl
  ·refine⟨fun m hm=>?_,rfl,rfl⟩
   rw[List.mem_singleton.1 hm]
   decide
  ·rw[List.mem_singleton.1 hm]
   refine aZ ⟨⟨by decide,by decide⟩,⟨by decide,by decide⟩,⟨by decide,by decide⟩,⟨by decide,by decide⟩,by decide,?_,?_,rfl⟩
   ·unfold nk
    first|exact aZ ag|(rw[if_pos ag];exact aZ ag)|(rw[if_neg ag,if_neg ag];exact aZ ag)
   ·unfold kTo
    rw[if_neg ag,if_neg ag]
    exact aZ ag
  ·show jC _ _
   unfold jC
   rw[if_neg ag]
   exact⟨rfl,rfl⟩
def AD{S:LedM}{s:StM}(h1:¬65536≤S.steps.length)(h2:mA S.cat S.now s):tryM S s=iK S.shard S.flows.length (cu S.cat) (s.at (bu S)) (wk0 S) s.moves:=by
 unfold tryM;rw[if_neg h1,if_neg (not_not_intro h2)]
def tO{S:LedM}{s:StM}(h1:¬65536≤S.steps.length)(h2:gu S.cat S.now s):gTry S s=ew S.shard S.flows (cu S.cat) (s.at (bu S)) (wk0 S) s.moves:=by
 unfold gTry;rw[if_neg h1,if_neg (not_not_intro h2)]
def EY:tryM (led0 0 cat22) exS=(0,exW1):=(AD (by show ¬65536≤0;decide) (exP 0 rfl (.inl rfl)).2).trans exM1
def Dc:gTry (led0 0 cat22) exS=(0,exW1):=(tO (by show ¬65536≤0;decide) (exP 0 rfl (.inl rfl)).1).trans exG1
def EX:tryM exL1 (exT 3)=(0,exW2):=(AD (by show ¬65536≤1;decide) (exP 0 rfl (.inr (.inl rfl))).2).trans exM2
def vr:gTry exL1 (exT 3)=(0,exW2):=(tO (by show ¬65536≤1;decide) (exP 0 rfl (.inr (.inl rfl))).1).trans exG2
def GK:(gTry exL1 (exT 6)).1=10:=(congrArg Prod.fst (tO (by show ¬65536≤1;decide) (exP 0 rfl (.inr (.inr rfl))).1)).trans exG3
def mI(S:LedM)(s:StM)(id:Int):gTry S (s.at id)=gTry S s:=rfl
def AY:ll (led0 0 cat22) exS=exL1:=by
 have e:(tryM (led0 0 cat22) exS).1=0:=by rw[EY]
 unfold ll;rw[if_pos e];unfold my;rw[EY];rfl
def HF:ll exL1 (exT 3)=exL2:=by
 have e:(tryM exL1 (exT 3)).1=0:=by rw[EX]
 unfold ll;rw[if_pos e];unfold my;rw[EX];rfl
def Ix:cS (led0 0 cat22) exS=exL1:=by
 have e:(gTry (led0 0 cat22) exS).1=0:=by rw[Dc]
 unfold cS;rw[if_pos e];unfold gZ;rw[Dc];rfl
def GL:cS exL1 ((exT 3).at 1)=exL2:=by
 have e:(gTry exL1 ((exT 3).at 1)).1=0:=by rw[mI,vr]
 unfold cS;rw[if_pos e];unfold gZ;rw[mI,vr];rfl
def xG(fl:List FlM)(s:StM)(h:fl=[exF0,exF1 0]∨fl=[exF0,exF1 1]):audF 0 cat22 [exS,s] fl=audG fl 1 exL1 [s]:=by
 unfold audF;rw[if_pos ag,jY,if_neg ag,if_neg (by rw[Dc];decide),Ix];rw[if_neg];rintro (q|q)
 ·rcases h with rfl|rfl
  ·exact absurd q (by show ¬2<1;decide)
  ·exact absurd q (by show ¬2<1;decide)
 ·rcases h with rfl|rfl
  ·exact q rfl
  ·exact q rfl
def Ii:audF 0 cat22 [exS,(exT 3).at 1] [exF0,exF1 0]=(0,0,0):=by
 rw[xG _ _ (.inl rfl),jY,if_neg ag,if_neg (by rw[mI,vr];decide),GL,if_neg,oQ,if_neg ag];rintro (q|q)
 ·exact absurd q (by show ¬2<2;decide)
 ·exact q rfl
def Ih:audF 0 cat22 [exS,(exT 3).at 1] [exF0,exF1 1]=(20,0,1):=by
 rw[xG _ _ (.inr rfl),jY,if_neg ag,if_neg (by rw[mI,vr];decide),GL,if_pos]
 ·rfl
 ·refine .inr fun q=>?_;have e:exF1 0=exF1 1:=List.cons.inj q |>.1;have e2:((exF1 0).parts.head!).2.1=((exF1 1).parts.head!).2.1:=by rw[e]
  exact absurd e2 ag
def Ig:audF 0 cat22 [exS,(exT 6).at 1] [exF0,exF1 1]=(10,0,1):=by
 rw[xG _ _ (.inr rfl),jY,if_neg ag,if_pos (by rw[mI,GK];decide),mI,GK];rfl
end
section
open Go.V
attribute [local irreducible] G GO GP GPW GPK Ev Ef EfR Ent CB GB V.Enters
structure AllI (f:Int→Int→Int) (l:List Hd):Prop where
 srt:l.Pairwise klt
 val:∀h∈l,h.2.2=f h.1 h.2.1
 all:∀a i,f a i≠0→(a,i,f a i)∈l
def Dh{l:List Hd}{k:Nat}(h:k<l.length):l=l.take k++l[k]!::l.drop (k+1):=by
 conv=>lhs;rw[←dq k l,fA h]
def AllI.rep{f:Int→Int→Int}{l:List Hd}(h:AllI f l){k:Nat}(hk:k<l.length){n:Int}:AllI (updH f l[k]!.1 l[k]!.2.1 n) (l.take k++[(l[k]!.1,l[k]!.2.1,n)]++l.drop (k+1)):=by
 have hs:=h.srt;have hv:=h.val;have ha:=h.all;rw[Dh hk] at hs hv ha;generalize l[k]! = y at *;generalize l.take k=p at *;generalize l.drop (k+1)=q at *;rw[aF,List.singleton_append];obtain⟨s1,s2,s3⟩:=List.pairwise_append.1 hs;obtain⟨t1,t2⟩:=List.pairwise_cons.1 s2;have a2:∀x∈p,klt x y:=fun x hx=>s3 x hx y au;refine⟨List.pairwise_append.2 ⟨s1,List.pairwise_cons.2 ⟨fun z hz=>t1 z hz,t2⟩,fun x hx z hz=>?_⟩,fun x hx=>?_,fun a i a1=>?_⟩
 ·rcases List.mem_cons.1 hz with e|hz
  ·rw[e];exact a2 x hx
  ·exact s3 x hx z (aw _ hz)
 ·have a0:∀z,klt z y∨klt y z→updH f y.1 y.2.1 n z.1 z.2.1=f z.1 z.2.1:=fun z hz=>by
   unfold updH;rw[if_neg (fun e=>by unfold klt at hz;omega)]
  rcases List.mem_append.1 hx with hx|hx
  ·rw[a0 x (.inl (a2 x hx))];exact hv x (bQ _ hx)
  ·rcases List.mem_cons.1 hx with e|hx
   ·rw[e];unfold updH;rw[if_pos ⟨rfl,rfl⟩]
   ·rw[a0 x (.inr (t1 x hx))];exact hv x (bD _ (aw _ hx))
 ·by_cases e:a=y.1∧i=y.2.1
  ·obtain⟨rfl,rfl⟩:=e;unfold updH;rw[if_pos ⟨rfl,rfl⟩];exact bD _ au
  ·have e2:updH f y.1 y.2.1 n a i=f a i:=if_neg e;rw[e2] at a1 ⊢;rcases List.mem_append.1 (ha a i a1) with hx|hx
   ·exact bQ _ hx
   ·rcases List.mem_cons.1 hx with e3|hx
    ·exact absurd ⟨by rw[←e3],by rw[←e3]⟩ e
    ·exact bD _ (aw _ hx)
def AllI.hold{f:Int→Int→Int}{l:List Hd}(h:AllI f l)(hI:HldI f):HoldL f (l.filter (fun x=>decide (0<x.2.2))):=by
 refine⟨h.srt.sublist gO,fun x=>?_⟩;rw[List.mem_filter];constructor
 ·rintro⟨h1,h2⟩;have h2:=of_decide_eq_true h2;exact⟨h.val x h1,ab⟩
 ·rintro⟨e1,e2⟩;have h3:=h.all x.1 x.2.1 (by rw[←e1];exact e2);have h4:=(hI.bd x.1 x.2.1).1;rw[←e1] at h3 h4;exact⟨h3,decide_eq_true ab⟩
abbrev Eo:=ar3 [.ev 5,.ev 6,.ev 7,.ev 8,.ef 4,.ef 9,.ef 10,.ef 11,.ev 12]
def UP{φ ψ:Prop}(k:ψ)(h:Hid ψ→φ:=by intro k;(repeat (first|refine aa ?_|intro zzz|refine G.dr 17 1 Eo ?_));(repeat revert zzz);exact Hid.out k):φ:=h ⟨k⟩
def Ai{L:LH}(x y:Hd):Tri ai 57 #[aN (hU x),aN (hU y)] L (rtQ (ac (hdC x y)) L):=by
 refine Tri.bd ?_;refine UP ?_;intros;refine GPW.cr (jm x.1 y.1) ?_;refine UP ?_;intros;refine GPW.cr (jm x.2.1 y.2.1) ?_;refine UP ?_;intros;rename_i bc;refine GPW.ent (Ent.e9 (enc:=encZ .i64) (sz:=1) (xs:=[cmpI x.1 y.1,cmpI x.2.1 y.2.1]) rfl rfl (fun _ _=>rfl) bH) ?_;refine GPW.cr (mB (some ⟨bc,0,none⟩) 2 (cmpI x.1 y.1) (cmpI x.2.1 y.2.1)) ?_;refine UP ?_;intros;exact KX.en ⟨rfl,rfl⟩
def vU{E cap:Nat}{ad:OA}{xs:List Hd}(a0:xs.length<4611686018427387904) :
  Tri ai 56 #[ae ad xs.length cap,.func (.func 57) #[] #[]] [osl hU 3 E ad cap xs] (fun v L'=>v=.tuple #[]∧∃ys,eX hdC xs ys∧L' = [osl hU 3 E ad cap ys]) :=
 Tri.d7 (ρ:=Tryz.sortH_ren) Tryz.sortH (k:=3) Tryz.isAgg112 Tryz.sizeOf112 (fun _=>rfl) uJ (Lc:=[]) hdC tN en56 en57.1 (fun _ _ _=>trivial) (fun x y=>(Ai (L:=[]) x y).mono (fun _ _ h=>h.1)) a0
def tL{c:Prop}[Decidable c]{A:Prop}(h:¬c):if c then A else([]:List Hd)=[]:=by
 rw[if_neg h]
def hdX(p:(Int×Int)×Int):Hd:=(p.1.1,p.1.2,p.2)
def EL{m:List ((Int×Int)×Int)}(hn:(m.map (·.1)).Nodup){xs ys:List Hd}(hx:xs.Perm ((m.filter (fun p=>decide (0<p.2))).map hdX))(hI:HldI (gFn m))(hy:eX hdC xs ys):HoldL (gFn m) ys:=by
 have a2:∀p∈m,gFn m p.1.1 p.1.2=p.2:=fun p hp=>by
  unfold gFn glk;rw[lH hn hp];rfl
 have a0:=hy.1.trans hx
 have a1:(ys.map (fun h=>(h.1,h.2.1))).Nodup:=by
  refine((a0.map _).nodup_iff).2 ?_;rw[eM];exact(List.Sublist.map (fun p:(Int×Int)×Int=>p.1) gO).nodup hn
 constructor
 ·have h2:=List.pairwise_map.1 a1;refine(List.pairwise_and_iff.2 ⟨hy.2,h2⟩).imp (fun {a b} h=>?_);obtain⟨q1,q2⟩:=h;rw[mS] at q1;have q3:¬(a.1=b.1∧a.2.1=b.2.1):=fun e=>q2 (by rw[e.1,e.2]);unfold klt at q1 ⊢;omega
 ·intro h;rw[a0.mem_iff,List.mem_map];constructor
  ·rintro⟨p,hp,rfl⟩;obtain⟨h1,h2⟩:=List.mem_filter.1 hp;have h2:=of_decide_eq_true h2;refine⟨(a2 p h1).symm,?_⟩;show p.2≠0;omega
  ·rintro⟨e1,e2⟩;obtain⟨a,i,n⟩:=h;dsimp only at e1 e2;have hb:=(hI.bd a i).1;cases hg:glk m (a,i) with
   | none =>
    unfold gFn at e1;rw[hg] at e1;exact absurd e1 e2
   | some k =>
    have hk:gFn m a i=k:=by
     unfold gFn;rw[hg];rfl
    refine⟨((a,i),k),List.mem_filter.2 ⟨jl hg,?_⟩,?_⟩
    ·refine decide_eq_true ?_;show 0<k;omega
    ·show(a,i,k)=(a,i,n);rw[e1,hk]
def sM{L:LH}(items:Int)(ad:OA)(n c:Nat)(ss:List StV)[hr:Rds L ad StV aX 7 ss](hn:n=ss.length)(hl:ss.length≤1000000)(hm:(gd ss).length≤100000) :
  Tri ai 19 #[ac items,ae ad n c] (allP cR ss::L) (fun v L'=>∃b0 a4 hs,v=.tuple #[ae b0 hs.length a4,ac (resH items ss).1]∧(hs.length≤200000∧if(resH items ss).1=0 then HoldL (resH items ss).2 hs else hs=[])∧L' = osl hU 3 tHd b0 a4 hs::allP cR ss::L):=by
 subst hn;refine Tri.bd ?_;by_cases c1:0≤items
 case neg =>
  have e:resH items ss=(1,fun _ _=>0):=if_pos (fun q=>c1 q.1);rw[e];refine IF ?_;intros;exact KX.d7 av (Ent.d8 hU 3 tHd) ⟨none,0,[],rfl,⟨by decide,rfl⟩,rfl⟩
 by_cases c2:items≤64
 case neg =>
  have e:resH items ss=(1,fun _ _=>0):=if_pos (fun q=>c2 q.2);rw[e];refine IF ?_;intros;exact KX.d7 av (Ent.d8 hU 3 tHd) ⟨none,0,[],rfl,⟨by decide,rfl⟩,rfl⟩
 have e:resH items ss=hldF items (gd ss) (fun _ _=>0):=if_neg (fun q=>q ⟨c1,c2⟩);rw[e];refine IF ?_;intros;refine GO.ef (Ef.e8 kvP encN (.inl rfl)) ag ?_;rintro _ _⟨bm,rfl,rfl⟩;refine IF ?_;intros;rename_i bc;have b8:gFn []=fun _ _=>0:=rfl;rw[←b8];refine G.loop (α:=Nat×List ((Int×Int)×Int)) (fun g=>g.1≤ss.length∧HldI (gFn g.2)∧g.2.length+2*(gd (ss.drop g.1)).length≤2*(gd ss).length∧hldF items (gd ss) (gFn [])=hldF items (gd (ss.drop g.1)) (gFn g.2)) (fun g=>[(0,ac items),(6,aq bc),(7,.func (.func 55) #[] #[aq bc]),(25,ae ad ss.length c),(26,ac ss.length),(27,ac (g.1:Int))]) (fun g=>obj bc 115 [.map (some bm)]::gmap kvP encN bm g.2::allP cR ss::L) (fun g=>ss.length - g.1) (0,[]) ⟨az _,hld0,Nat.le_of_eq (dj _),rfl⟩ an (Ent.refl _) ?_;rintro⟨i,m⟩ ⟨hi,a1,a3,a0⟩;dsimp only at hi a1 a3 a0 ⊢;by_cases b1:i<ss.length
 case neg =>
  have e0:ss.drop i=[]:=bM ab;rw[e0] at a0;have e1:hldF items (gd ss) (gFn [])=(0,gFn m):=a0;rw[e1];refine G.e8 (lq (b:=bm) (m:=m) (kv:=kvP) (enc:=encN)) ?_;intro c8;refine IF ?_;intros;refine GO.ef (Ef.m5 rfl) ag ?_;rintro _ _⟨r,rfl,rfl⟩;refine IF ?_;intros;refine G.loop (α:=OA×Nat×List ((Int×Int)×Int)) (fun z=>z.2.2.length≤m.length) (fun z=>[(14,ae z.1 ((z.2.2.filter (fun p=>decide (0<p.2))).map hdX).length z.2.1),(68,aq r)]) (fun z=>jv kvP encN bm m r z.2.2::osl hU 3 tHd z.1 z.2.1 ((z.2.2.filter (fun p=>decide (0<p.2))).map hdX)::allP cR ss::L) (fun z=>m.length - z.2.2.length) (none,0,[]) (az _) an (show Ent _ (jv kvP encN bm m r []::osl hU 3 tHd none 0 []::allP cR ss::L) from(Ent.d8 hU 3 tHd).trans ah) ?_;rintro⟨a8,a2,done⟩ b6;dsimp only at b6 ⊢
  have d1:((done.filter (fun p=>decide (0<p.2))).map hdX).length≤done.length:=by
   rw[aA];exact List.length_filter_le _ _
  have c7:m.length≤200000:=ab;refine IF ?_;intros;refine GO.ef (Ef.m7 rfl) ag ?_;rintro _ _ (⟨rfl,rfl,hp⟩|⟨p,rfl,rfl,d3,d4,d2⟩)
  ·have b7:=hp.length_eq;refine IF ?_;intros;(first|refine GO.ef (Ef.call (vU (E:=tHd) (ad:=a8) (cap:=a2) (xs:=(done.filter (fun p=>decide (0<p.2))).map hdX) ab) rfl cT) ag ?_);rintro _ _⟨_,⟨rfl,ys,b4,rfl⟩,hL⟩;simp only[ak,aj] at hL;subst hL;refine IF ?_;intros;have c9:=b4.1.length_eq;refine KX.d7 av ?_ ⟨a8,a2,ys,by rw[c9];rfl,⟨ab,?_⟩,rfl⟩
   ·exact ah
   ·rw[if_pos rfl];exact EL c8 ((hp.filter _).map hdX) a1 b4
  ·refine IF ?_;intros;refine GO.ev (Ev.m7 (done:=done) rfl rfl) ag ?_;obtain⟨⟨a,it⟩,n⟩:=p;simp only[kvP,encN,bY,fk];by_cases b3:0<n
   ·have a5:(done++[((a,it),n)]).filter (fun p=>decide (0<p.2))=done.filter (fun p=>decide (0<p.2))++[((a,it),n)]:=by
     rw[dG,cO (by simpa using b3)];rfl
    refine IF ?_;intros;refine GO.ef (Ef.d7 (enc:=hU) (e:=(a,it,n)) rfl rfl rfl rfl rfl aJ (uJ _) ab ab) ag ?_;rintro _ _⟨b5,a9,rfl,rfl⟩;refine IF ?_;intros;refine⟨(b5,a9,done++[((a,it),n)]),by dsimp only;simp;omega,by dsimp only;simp;omega,?_,?_⟩
    ·dsimp only;rw[a5,aR];exact an
    ·dsimp only;rw[a5,aR,show List.map hdX [((a,it),n)]=[(a,it,n)] from rfl];exact ah
   ·have a5:(done++[((a,it),n)]).filter (fun p=>decide (0<p.2))=done.filter (fun p=>decide (0<p.2)):=by
     rw[dG,cP (by simpa using b3),List.filter_nil,aO]
    refine IF ?_;intros;refine⟨(a8,a2,done++[((a,it),n)]),by dsimp only;simp;omega,by dsimp only;simp;omega,?_,?_⟩
    ·dsimp only;rw[a5];exact an
    ·dsimp only;rw[a5];exact ah
 have b9:(i:Int).toNat=i:=aD i;have c5 : (i:Int).toNat<ss.length:=ab;rw[fA b1,sC] at a0 a3;rw[ax,aA] at a3;refine IF ?_;intros;refine G.ent (Ent.at (A:=allP cR ss) (pq b1)) ?_;rw[b9];generalize ss[i]! = s at *;refine G.loop (α:=Nat×List ((Int×Int)×Int)) (fun g=>g.1≤s.moves.length∧HldI (gFn g.2)∧g.2.length+2*((s.moves.length - g.1)+(gd (ss.drop (i+1))).length)≤2*(gd ss).length∧hldF items (gd ss) (gFn [])=hldF items ((s.moves.drop g.1).map MvV.m++gd (ss.drop (i+1))) (gFn g.2)) (fun g=>[(0,ac items),(6,aq bc),(7,.func (.func 55) #[] #[aq bc]),(25,ae ad ss.length c),(26,ac ss.length),(27,ac (i:Int)),(32,ae s.mad s.moves.length s.mcap),(33,ac s.moves.length),(34,ac (g.1:Int))]) (fun g=>isl aT 5 s.mad s.moves::obj bc 115 [.map (some bm)]::gmap kvP encN bm g.2::allP cR ss::L) (fun g=>s.moves.length - g.1) (0,m) ⟨az _,a1,by dsimp only;omega,a0⟩ an ah ?_;have d5:s.moves.length≤100000:=ab;clear a1 a3 a0;rintro⟨j,m⟩ ⟨hj,a1,a3,a0⟩;dsimp only at hj a1 a3 a0 ⊢;by_cases c3:j<s.moves.length
 case neg =>
  have e0:s.moves.drop j=[]:=bM ab;rw[e0] at a0;refine IF ?_;intros;refine⟨(i+1,m),⟨by dsimp only;omega,a1,by dsimp only;omega,a0⟩,by dsimp only;omega,?_,by exact ah⟩;dsimp only;rw[aU i];exact an
 have c0:(j:Int).toNat=j:=aD j;have c4 : (j:Int).toNat<s.moves.length:=ab;rw[wX c3,EM] at a0;refine IF ?_;intros;rw[c0];rename_i d0;generalize s.moves[j]! = mv at *;refine GO.cr (qR items mv) ?_;by_cases a6:lN items mv.m
 case neg =>
  have es:kQ items (gFn m) mv.m=(1,gFn m):=if_pos a6;rw[es,if_neg (show ¬(1:Int)=0 by decide)] at a0;rw[aM a6,a0];refine IF ?_;intros;exact KX.d7 av (Ent.trans ah (Ent.d8 hU 3 tHd)) ⟨none,0,[],rfl,⟨by decide,tL (show ¬(1:Int)=0 by decide)⟩,rfl⟩
 have es:kQ items (gFn m) mv.m=if(chgH (gFn m) mv.m.frm mv.m.item (-mv.m.n)).1=0 then chgH (chgH (gFn m) mv.m.frm mv.m.item (-mv.m.n)).2 mv.m.to mv.m.item mv.m.n else((chgH (gFn m) mv.m.frm mv.m.item (-mv.m.n)).1,gFn m):=if_neg (fun q=>q a6);rw[aZ a6];obtain⟨⟨k1,k2⟩,⟨k3,k4⟩,k5,k6⟩:=a6;obtain⟨⟨frm,to,item,mn,parts⟩,pad,pcap⟩:=mv;dsimp only at k1 k2 k3 k4 k5 k6 es a0 ⊢;simp only[aT];refine IF ?_;intros;(first|refine GO.ef (Ef.n5 rfl rfl (rg (L:=[]) bc bm m frm item (-mn) a1 ab) cT) ag ?_);rintro _ _⟨_,⟨m1,rfl,⟨e1,l1⟩,rfl⟩,hL⟩;simp only[ak,aj] at hL;subst hL;by_cases hc:(chgH (gFn m) frm item (-mn)).1=0
 case neg =>
  rw[if_neg hc] at es;rw[es,if_neg (show ¬(chgH (gFn m) frm item (-mn)).1=0 from hc)] at a0;rw[a0];generalize (chgH (gFn m) frm item (-mn)).1=ec at *;refine IF ?_;intros;exact KX.d7 av (Ent.trans ah (Ent.d8 hU 3 tHd)) ⟨none,0,[],rfl,⟨by decide,tL (show ¬ec=0 from hc)⟩,rfl⟩
 rw[if_pos hc,←e1] at es;have b2:HldI (gFn m1):=by rw[e1];exact a1.chg
 rw[hc];refine IF ?_;intros;(first|refine GO.ef (Ef.n5 rfl rfl (rg (L:=[]) bc bm m1 to item mn b2 ab) cT) ag ?_);rintro _ _⟨_,⟨m2,rfl,⟨e2,l2⟩,rfl⟩,hL⟩;simp only[ak,aj] at hL;subst hL;by_cases a7:(chgH (gFn m1) to item mn).1=0
 case neg =>
  rw[es,if_neg (show ¬(chgH (gFn m1) to item mn).1=0 from a7)] at a0;rw[a0];generalize (chgH (gFn m1) to item mn).1=ec at *;refine IF ?_;intros;exact KX.d7 av (Ent.trans ah (Ent.d8 hU 3 tHd)) ⟨none,0,[],rfl,⟨by decide,tL (show ¬ec=0 from a7)⟩,rfl⟩
 rw[es,if_pos (show(chgH (gFn m1) to item mn).1=0 from a7),←e2] at a0;have c6:HldI (gFn m2):=by rw[e2];exact b2.chg
 rw[a7];refine IF ?_;intros;refine⟨(j+1,m2),⟨by dsimp only;omega,c6,by dsimp only;omega,a0⟩,by dsimp only;omega,?_,by exact ah⟩;dsimp only;rw[aU j];exact an
end
section
open Go.V
abbrev exVS(p0:OA)(c0:Nat)(a0:OA)(k0:Nat):StV:=⟨0,0,0,0,-1,0,[⟨⟨0,1,0,5,[]⟩,p0,c0⟩],a0,k0⟩
abbrev exVT(n:Int)(p1:OA)(c1:Nat)(a1:OA)(k1:Nat):StV:=⟨1,2,0,0,-1,0,[⟨⟨1,2,0,n,[]⟩,p1,c1⟩],a1,k1⟩
def Hi{ss:List StV}(h:ss.map StV.m=exL2.steps):∃p0 c0 a0 k0 p1 c1 a1 k1,ss=[exVS p0 c0 a0 k0,exVT 3 p1 c1 a1 k1]:=by
 have h' : ss.map StV.m=[exS,(exT 3).at 1]:=h;obtain⟨s0,l1,rfl,e0,h1⟩:=List.map_eq_cons_iff.1 h';obtain⟨s1,l2,rfl,e1,h2⟩:=List.map_eq_cons_iff.1 h1;obtain rfl:l2=[]:=List.map_eq_nil_iff.1 h2
 have one:∀{ms:List MvV} {m:MvM},ms.map MvV.m=[m]→∃p c,ms=[⟨m,p,c⟩]:=fun {ms m} q=>by
  obtain⟨⟨u,p,c⟩,l,rfl,e,h3⟩:=List.map_eq_cons_iff.1 q;obtain rfl:l=[]:=List.map_eq_nil_iff.1 h3;obtain rfl:u=m:=e;exact⟨p,c,rfl⟩
 obtain⟨x1,x2,x3,x4,x5,x6,a2,a0,k0⟩:=s0;obtain⟨y1,y2,y3,y4,y5,y6,a3,a1,k1⟩:=s1;have g0:=StM.mk.inj e0;have g1:=StM.mk.inj e1;obtain⟨p0,c0,rfl⟩:=one g0.2.2.2.2.2.2;obtain⟨p1,c1,rfl⟩:=one g1.2.2.2.2.2.2;obtain⟨rfl,rfl,rfl,rfl,rfl,rfl,_⟩:=g0;obtain⟨rfl,rfl,rfl,rfl,rfl,rfl,_⟩:=g1;exact⟨p0,c0,a0,k0,p1,c1,a1,k1,rfl⟩
def HB{fs:List FlV}(h:fs.map FlV.m=exL2.flows):∃p0 c0 m0 k0 p1 c1 m1 k1,fs=[⟨exF0,p0,c0,m0,k0⟩,⟨exF1 0,p1,c1,m1,k1⟩]:=by
 have h' : fs.map FlV.m=[exF0,exF1 0]:=h;obtain⟨⟨u0,p0,c0,m0,k0⟩,l1,rfl,e0,h1⟩:=List.map_eq_cons_iff.1 h';obtain⟨⟨u1,p1,c1,m1,k1⟩,l2,rfl,e1,h2⟩:=List.map_eq_cons_iff.1 h1;obtain rfl:l2=[]:=List.map_eq_nil_iff.1 h2;obtain rfl:u0=exF0:=e0;obtain rfl:u1=exF1 0:=e1;exact⟨p0,c0,m0,k0,p1,c1,m1,k1,rfl⟩
def HE{p0 c0 a0 k0}(hk:1≤k0):StInG (exVS p0 c0 a0 k0)∧(exVS p0 c0 a0 k0).moves.length≤(exVS p0 c0 a0 k0).mcap :=
 ⟨⟨by show 1≤1000000;decide,by unfold I64;show -9223372036854775808≤-1∧(-1:Int)≤9223372036854775807;decide,fun m hm=>by rw[List.mem_singleton.1 hm];exact az _,fun m hm=>by rw[List.mem_singleton.1 hm];exact az _,fun m hm p hp=>by rw[List.mem_singleton.1 hm] at hp;cases hp⟩,hk⟩
def HD{n p1 c1 a1 k1}(hk:1≤k1):StInG (exVT n p1 c1 a1 k1)∧(exVT n p1 c1 a1 k1).moves.length≤(exVT n p1 c1 a1 k1).mcap :=
 ⟨⟨by show 1≤1000000;decide,by unfold I64;show -9223372036854775808≤-1∧(-1:Int)≤9223372036854775807;decide,fun m hm=>by rw[List.mem_singleton.1 hm];exact az _,fun m hm=>by rw[List.mem_singleton.1 hm];exact az _,fun m hm p hp=>by rw[List.mem_singleton.1 hm] at hp;cases hp⟩,hk⟩
def Ea(a i:Int):∀l:List StM,stL a i l≤stK l
 | []=>aI _
 | s::l=>by
  have h1:=Ea a i l;have h2:=uu a i s.moves;show lotsIn a i s.moves+stL a i l≤mvK s.moves+stK l;omega
def EZ{n p0 c0 a0 k0 p1 c1 a1 k1}(h0:1≤k0)(h1:1≤k1):AudS [exVS p0 c0 a0 k0,exVT n p1 c1 a1 k1]:=by
 have e:stK ([exVS p0 c0 a0 k0,exVT n p1 c1 a1 k1].map StV.m)=2:=rfl;refine⟨by show 2≤60000;decide,fun s hs=>?_,by rw[e];decide,fun a i=>cN (Ea a i _) (by rw[e];decide)⟩;rcases List.mem_cons.1 hs with rfl|hs
 ·exact HE h0
 ·rw[List.mem_singleton.1 hs];exact HD h1
def AZ{a p0 c0 m0 k0 p1 c1 m1 k1}:AudFl [⟨exF0,p0,c0,m0,k0⟩,⟨exF1 a,p1,c1,m1,k1⟩]:=by
 refine⟨by show 2≤1000000000;decide,fun s hs=>?_⟩;rcases List.mem_cons.1 hs with rfl|hs
 ·exact⟨by show 0≤1000000000;decide,by show 0≤1000000000;decide⟩
 ·rw[List.mem_singleton.1 hs];exact⟨by show 1≤1000000000;decide,by show 0≤1000000000;decide⟩
def GJ{p0 c0 a0 k0 p1 c1 a1 k1}:gd [exVS p0 c0 a0 k0,exVT 3 p1 c1 a1 k1]=[⟨0,1,0,5,[]⟩,⟨1,2,0,3,[]⟩]:=rfl
def Iu{p0 c0 a0 k0 p1 c1 a1 k1}:resT 4 [exVS p0 c0 a0 k0,exVT 3 p1 c1 a1 k1]=(0,[5,0,0,0]):=by
 unfold resT;rw[GJ];rfl
def Iw{p0 c0 a0 k0 p1 c1 a1 k1}:(resH 4 [exVS p0 c0 a0 k0,exVT 3 p1 c1 a1 k1]).1=0∧HoldL (resH 4 [exVS p0 c0 a0 k0,exVT 3 p1 c1 a1 k1]).2 [(1,0,2),(2,0,3)]:=by
 have e:resH 4 [exVS p0 c0 a0 k0,exVT 3 p1 c1 a1 k1]=(0,updH (updH (updH (fun _ _=>0) 1 0 5) 1 0 2) 2 0 3):=by
  unfold resH;rw[GJ];rfl
 rw[e];refine⟨rfl,⟨?_,fun h=>?_⟩⟩
 ·refine List.pairwise_cons.2 ⟨fun y hy=>?_,bq _ _⟩;rw[List.mem_singleton.1 hy];exact .inl ag
 ·obtain⟨a,i,n⟩:=h;simp only[updH,bh,aH,or_false,Prod.mk.injEq];constructor
  ·rintro (⟨rfl,rfl,rfl⟩|⟨rfl,rfl,rfl⟩)
   ·exact⟨rfl,by decide⟩
   ·exact⟨rfl,by decide⟩
  ·rintro⟨q1,q2⟩;by_cases g1:a=2∧i=0
   ·rw[if_pos g1] at q1;exact .inr ⟨g1.1,g1.2,q1⟩
   ·rw[if_neg g1] at q1;by_cases g2:a=1∧i=0
    ·rw[if_pos g2] at q1;exact .inl ⟨g2.1,g2.2,q1⟩
    ·rw[if_neg g2,if_neg g2] at q1;exact absurd q1 q2
end
end Go.Proofs.YtommnllbflbdmaaGreatDoor
namespace Go.V
section
open Go.Sort Go.Proofs
def Frz(L L' : LH):Prop:=∀ι h,Hp.disj ι h→Stars L ι h→Stars L' (Hp.d9 ι h) Hp.emp
def Frz.nil:Frz [] []:=fun _ _ _ _=>trivial
def sJ{ι h:Hp}(hd:Hp.disj ι h){b:Nat}{o:Obj}(hb:h b=some o):Hp.d9 ι h b=some o:=by
 unfold Hp.d9;cases hi:ι b with
 | none=>exact hb
 | some x=>have:=hd b x hi;rw[hb] at this;cases this
def uy{ι h h2:Hp}(hs:Hp.sub h2 h):Hp.sub (Hp.d9 ι h2) (Hp.d9 ι h):=fun k o hk=>by
 unfold Hp.d9 at hk ⊢;cases hi:ι k with
 | some x=>rw[hi] at hk;exact hk
 | none=>rw[hi] at hk;exact hs k o hk
def oL{ι h h2:Hp}(hd:Hp.disj ι h)(hs:Hp.sub h2 h):Hp.disj ι h2:=fun k o hk=>by
 have h5:=hd k o hk;cases h6:h2 k with
 | none=>rfl
 | some o2=>rw[hs k o2 h6] at h5;cases h5
def Frz.cons{p p' : HP}{L L' : LH}(hp:∀ι₀ ι h₁ h,Hp.disj ι h→Hp.sub h₁ h→p ι₀ h₁→p' (Hp.d9 ι h) Hp.emp)(hL:Frz L L'):Frz (p::L) (p'::L'):=by
 rintro ι h hd ⟨ι₀,h₁,h₂,a,b,c,d,e,f⟩;exact⟨Hp.d9 ι h,Hp.emp,Hp.emp,Hp.sub.refl _,Hp.d8 _,Hp.sub.refl _,Hp.sub.refl _,hp ι₀ ι h₁ h hd c e,(hL ι h₂ (oL hd d) f).mono (uy d) (Hp.sub.refl _)⟩
abbrev encL(l:LV):LV:=l
def Frz.obj{b T n:Nat}{cs:LV}{L L' : LH}(hn:cs.length=n)(hL:Frz L L'):Frz (V.obj b T cs::L) (isl encL n (some ⟨b,0,none⟩) [cs]::L') :=
 Frz.cons (fun _ ι h₁ h hd hs hp=>by
  refine⟨fun x hx=>by rw[List.mem_singleton.1 hx];exact hn,.inr ⟨b,0,cs.toArray,T,(0,0),rfl,sJ hd (hs b _ hp),fun i v hv=>?_⟩⟩;simpa using hv) hL
def Frz.osl{α:Type}{enc:α→LV}{sz E:Nat}{ad:OA}{cap:Nat}{xs:List α}{L L' : LH}(hL:Frz L L'):Frz (V.osl enc sz E ad cap xs::L) (isl enc sz ad xs::L') :=
 Frz.cons (fun _ ι h₁ h hd hs hp=>by
  obtain⟨h1,h2,h3,h4⟩:=hp;refine⟨h1,?_⟩;rcases h4 with⟨_,h5⟩|⟨g,a0,h5,h6,h7,h8⟩
  ·exact .inl (aW ab)
  ·refine .inr ⟨g,0,a0,E,(0,0),h5,sJ hd (hs g _ h6),fun i v hv=>?_⟩;rw[←h8,List.getElem?_take] at hv;split at hv
   ·rw[dj];simpa using hv
   ·cases hv) hL
end
section
open Go.Proofs
def held(a b:Hp):HP:=fun ι h=>Hp.sub a ι∧Hp.sub b h
def Frz.pers{p:HP}{L L' : LH}(hm:∀ι ι' h,Hp.sub ι ι'→p ι h→p ι' Hp.emp)(hL:Frz L L'):Frz (p::L) (p::L'):=by
 rintro ι h hd ⟨ι₀,h₁,h₂,a,b,c,d,e,f⟩;exact⟨Hp.d9 ι h,Hp.emp,Hp.emp,Hp.sub.refl _,Hp.d8 _,Hp.sub.refl _,Hp.sub.refl _,hm ι₀ _ h₁ (a.trans (Hp.e7 _ _)) e,(hL ι h₂ (oL hd d) f).mono (uy d) (Hp.sub.refl _)⟩
def Stars.d8{p:HP}(hp:∀ι ι' h,p ι h→p ι' h){ι ι' h:Hp}(s:Stars [p] ι h):Stars [p] ι' h:=by
 obtain⟨ι₀,x1,x2,_,n2,n3,n4,e,_⟩:=s;exact⟨ι',x1,x2,Hp.sub.refl _,n2,n3,n4,hp _ _ _ e,trivial⟩
def Ent.o0{α:Type}{enc:α→LV}{sz:Nat}{ad:OA}{xs ys:List α}{L:LH}(h:xs.map enc=ys.map enc):Ent (isl enc sz ad xs::L) (isl enc sz ad ys::L):=by
 have e:isl enc sz ad xs=isl enc sz ad ys:=by
  have h1:xs.flatMap enc=ys.flatMap enc:=by rw[List.flatMap_def,List.flatMap_def,h]
  have h2:∀p:LV→Prop,(∀x∈xs,p (enc x))↔(∀x∈ys,p (enc x)):=fun p=>by
   have g:∀l:List α,(∀x∈l,p (enc x))↔∀u∈l.map enc,p u:=fun l=>by simp
   rw[g,g,h]
  have h3:xs=[]↔ys=[]:=by
   rw[←List.map_eq_nil_iff (f:=enc),h,List.map_eq_nil_iff]
  unfold isl;funext i w;rw[h1,h3,propext (h2 (fun l=>l.length=sz))]
 rw[e];exact Ent.refl _
def Tri.reads{P:Program}{f:FuncId}{args:Array Value}{α:Type}{φ:Value→α→Prop}{Res:α→LH}{L Lf M:LH}(a1:∀x ι ι' h,Stars (Res x) ι h→Stars (Res x) ι' h)
  (h:Tri P f args Lf (fun v L'=>∃x X,φ v x∧L' = Res x++X)) (a7:Frz L Lf):Tri P f args (L++M) (fun v L'=>∃x,φ v x∧L' = Res x++(L++M)):=by
 refine⟨h.enters,fun θ R w s=>?_⟩;obtain⟨ok,ι,hp,a,b,c,st⟩:=s;rw[aF] at st;obtain⟨h1,h2,d1,d2,d3,s1,s2⟩:=Stars.split st;have a0:Hp.disj ι h1:=oL a d2;have a4:Hp.disj ι h2:=oL a d3;have hf:Stars Lf (Hp.d9 ι h1) Hp.emp:=a7 ι h1 a0 s1;have hX:Stars [held (Hp.d9 ι h1) h2] (Hp.d9 ι h1) h2:=⟨Hp.d9 ι h1,h2,Hp.emp,Hp.sub.refl _,(Hp.d8 _).symm,Hp.sub.refl _,Hp.d7 _,⟨Hp.sub.refl _,Hp.sub.refl _⟩,trivial⟩;have s0:Sat θ (Lf++[held (Hp.d9 ι h1) h2]) w:=⟨ok,Hp.d9 ι h1,h2,(Hp.e9 a4.symm d1.symm).symm,Hp.f8 b (d2.trans c),d3.trans c,Stars.d7 (Hp.d8 _) (Hp.d7 _) (Hp.sub.refl _) hf hX⟩;refine(h.calls θ _ w s0).mono ?_;rintro e w' ⟨v,L',rfl,⟨x,X,hφ,rfl⟩,s'⟩;obtain⟨a9,ι',a8,a',b',c',a5⟩:=s';rw[aF] at a5;obtain⟨g1,g2,e1,e2,e3,sr,b0⟩:=Stars.split a5;obtain⟨k1,k2,_,_,m3,_,sX⟩:=Stars.split b0;obtain⟨ι₀,x1,x2,n1,n2,n3,n4,⟨X1,X2⟩,_⟩:=sX;have hj:Hp.sub (Hp.d9 ι h1) ι':=X1.trans n1;have hi:Hp.sub ι ι':=(Hp.e7 _ _).trans hj;have a2:Hp.sub h1 ι':=(Hp.e8 a0).trans hj;have a3:Hp.sub h2 g2:=(X2.trans n3).trans m3;have a6:Hp.sub h2 a8:=a3.trans e3;have z1:Hp.disj g1 h1:=(a'.mono a2 e2).symm;have z2:Hp.disj g1 h2:=e1.mono (Hp.sub.refl _) a3;have z3:Hp.disj g1 (Hp.d9 h1 h2):=Hp.e9 z1 z2;refine⟨v,Res x++(L++M),rfl,⟨x,hφ,rfl⟩,a9,ι,Hp.d9 g1 (Hp.d9 h1 h2),?_,hi.trans b',?_,?_⟩
 ·exact Hp.e9 (a'.mono hi e2) (Hp.e9 a0 a4)
 ·exact Hp.f8 (e2.trans c') (Hp.f8 (a2.trans b') (a6.trans c'))
 ·rw[aF,aF];exact Stars.d7 z3 (Hp.e7 _ _) (Hp.e8 z3) (a1 x ι' ι g1 sr) (Stars.d7 d1 (Hp.e7 _ _) (Hp.e8 d1) s1 s2)
end
section
def Frz.d7{p:HP}{L L' : LH}(pm:PersM p)(hL:Frz L L'):Frz (p::L) (p::L'):=Frz.pers (fun ι ι' h hi hp=>pm.mono ι ι' _ hi (pm.pers _ _ hp)) hL
end
end Go.V
namespace Go.Proofs.YtommnllbflbdmaaGreatDoor
open Go.V
abbrev Iv(c:CatV)(sad fad:OA)(s0 s1:StV)(f0 f1:FlV):LH :=
 [osl aT 5 tMv s1.mad s1.mcap s1.moves,osl ay 3 tLot f1.pad f1.pcap f1.m.parts,isl aX 7 sad [s0,s1],isl bT 11 fad [f0,f1],isl aT 5 s0.mad s0.moves,stP s0,stP s1,isl ay 3 f0.pad f0.m.parts,isl (encZ .i64) 1 f0.mad f0.m.made,isl (encZ .i64) 1 f1.mad f1.m.made,catP c]
abbrev iS(c:CatV)(sad fad:OA)(s0 s1:StV)(f0 f1:FlV)(M:LH):LH :=
 osl aT 5 tMv s1.mad s1.mcap s1.moves::osl ay 3 tLot f1.pad f1.pcap f1.m.parts::isl aX 7 sad [s0,s1]::isl bT 11 fad [f0,f1]::isl aT 5 s0.mad s0.moves::stP s0::stP s1::isl ay 3 f0.pad f0.m.parts::isl (encZ .i64) 1 f0.mad f0.m.made::isl (encZ .i64) 1 f1.mad f1.m.made::catP c::M
abbrev Dd(c:CatV)(sad fad:OA)(s0 s1:StV)(f0 f1:FlV):LH :=
 [isl aT 5 s1.mad s1.moves,isl ay 3 f1.pad f1.m.parts,isl aX 7 sad [s0,s1],isl bT 11 fad [f0,f1],isl aT 5 s0.mad s0.moves,stP s0,stP s1,isl ay 3 f0.pad f0.m.parts,isl (encZ .i64) 1 f0.mad f0.m.made,isl (encZ .i64) 1 f1.mad f1.m.made,catP c]
def rG(c:CatV)(sad fad:OA)(s0 s1:StV)(f0 f1:FlV):Frz (Iv c sad fad s0 s1 f0 f1) (Dd c sad fad s0 s1 f0 f1) :=
 Frz.osl (Frz.osl (Frz.d7 (bI _ _ _ _) (Frz.d7 (bI _ _ _ _) (Frz.d7 (bI _ _ _ _) (Frz.d7 (cG iQ) (Frz.d7 (cG iQ) (Frz.d7 (bI _ _ _ _) (Frz.d7 (bI _ _ _ _) (Frz.d7 (bI _ _ _ _) (Frz.d7 (mY c) Frz.nil))))))))))
def rF(c:CatV)(sad fad:OA)(s0 s1:StV)(f0 f1:FlV):Ent (Dd c sad fad s0 s1 f0 f1) [allP cR [s0,s1],isl aX 7 sad [s0,s1],isl bT 11 fad [f0,f1],isl ay 3 f1.pad f1.m.parts,isl ay 3 f0.pad f0.m.parts,isl (encZ .i64) 1 f0.mad f0.m.made,isl (encZ .i64) 1 f1.mad f1.m.made,catP c]:=by
 refine Ent.trans (B:=stM s1::stP s1::[stM s0,stP s0,isl aX 7 sad [s0,s1],isl bT 11 fad [f0,f1],isl ay 3 f1.pad f1.m.parts,isl ay 3 f0.pad f0.m.parts,isl (encZ .i64) 1 f0.mad f0.m.made,isl (encZ .i64) 1 f1.mad f1.m.made,catP c]) ah ?_;refine(Ent.e8 (sj s1) (cG iQ)).trans ((Ent.l0 (f:=cR) lC).trans ?_);refine Ent.trans (B:=stM s0::stP s0::[allP cR [s1],isl aX 7 sad [s0,s1],isl bT 11 fad [f0,f1],isl ay 3 f1.pad f1.m.parts,isl ay 3 f0.pad f0.m.parts,isl (encZ .i64) 1 f0.mad f0.m.made,isl (encZ .i64) 1 f1.mad f1.m.made,catP c]) ah ?_;exact(Ent.e8 (sj s0) (cG iQ)).trans (Ent.g9 (f:=cR) lC)
def Gr(c:CatV)(sad fad:OA)(s0 s1:StV)(f0 f1:FlV):Ent (Dd c sad fad s0 s1 f0 f1) [catP c,allP flP [f0,f1],allP cR [s0,s1],isl aX 7 sad [s0,s1],isl bT 11 fad [f0,f1]]:=by
 refine(rF c sad fad s0 s1 f0 f1).trans ?_;refine Ent.trans (B:=isl ay 3 f1.pad f1.m.parts::isl (encZ .i64) 1 f1.mad f1.m.made::[isl ay 3 f0.pad f0.m.parts,isl (encZ .i64) 1 f0.mad f0.m.made,catP c,allP cR [s0,s1],isl aX 7 sad [s0,s1],isl bT 11 fad [f0,f1]]) ah ?_;refine Ent.trans (Ent.e8 (bI _ _ _ _) (bI _ _ _ _)) ((Ent.l0 (f:=flP) (x:=f1) lr).trans ?_);refine Ent.trans (B:=isl ay 3 f0.pad f0.m.parts::isl (encZ .i64) 1 f0.mad f0.m.made::[allP flP [f1],catP c,allP cR [s0,s1],isl aX 7 sad [s0,s1],isl bT 11 fad [f0,f1]]) ah ?_;refine Ent.trans (Ent.e8 (bI _ _ _ _) (bI _ _ _ _)) ((Ent.g9 (f:=flP) (x:=f0) lr).trans ah)
def ql{M:LH}(c:CatV)(hB:c.B)(hc:c.m.Ok)(sad fad:OA)(scap fcap:Nat)(s0 s1:StV)(f0 f1:FlV)(hS:AudS [s0,s1])(hF:AudFl [f0,f1])(a0:2≤fcap) :
  Tri ai 14 #[ac 0,aN c.cells,ae sad 2 scap,ae fad 2 fcap] (iS c sad fad s0 s1 f0 f1 M) (rtQ (aN (gk (audF 0 c.m [s0.m,s1.m] [f0.m,f1.m]))) (iS c sad fad s0 s1 f0 f1 M)):=by
 have h:=oX (L:=[allP flP [f0,f1],allP cR [s0,s1],isl aX 7 sad [s0,s1],isl bT 11 fad [f0,f1]]) 0 c hB hc sad 2 scap [s0,s1] rfl hS (fun s hs=>(Ent.at (A:=allP cR [s0,s1]) (Ent.d9 (f:=cR) hs)).trans ah) fad 2 fcap [f0,f1] rfl hF a0 (fun f hf=>Ent.d9 (f:=flP) hf |>.trans ah);have h2:=(h.pre (Gr c sad fad s0 s1 f0 f1)).mono (post':=fun v L'=>∃(x:Unit) (X:LH),v=aN (gk (audF 0 c.m [s0.m,s1.m] [f0.m,f1.m]))∧L' = ([]:LH)++X) (fun v L' q=>⟨(),L',q.1,rfl⟩);exact(Tri.reads (Res:=fun _:Unit=>[]) (M:=M) (fun _ _ _ _ _=>trivial) h2 (rG c sad fad s0 s1 f0 f1)).mono (fun v L' ⟨_,q1,q2⟩=>⟨q1,q2⟩)
def Br{M:LH}(items:Int)(c:CatV)(sad fad:OA)(scap:Nat)(s0 s1:StV)(f0 f1:FlV)(hm:∀s∈[s0,s1],s.moves.length≤1000000) :
  Tri ai 17 #[ac items,ae sad 2 scap] (iS c sad fad s0 s1 f0 f1 M) (fun v L'=>∃x:OA×Nat,v=.tuple #[ae x.1 (resT items [s0,s1]).2.length x.2,ac (resT items [s0,s1]).1]∧L' = osl (encZ .i64) 1 tInt x.1 x.2 (resT items [s0,s1]).2::(iS c sad fad s0 s1 f0 f1 M)):=by
 have h:=uW (L:=[isl aX 7 sad [s0,s1],isl bT 11 fad [f0,f1],isl ay 3 f1.pad f1.m.parts,isl ay 3 f0.pad f0.m.parts,isl (encZ .i64) 1 f0.mad f0.m.made,isl (encZ .i64) 1 f1.mad f1.m.made,catP c]) items sad 2 scap [s0,s1] rfl (by show 2≤1000000;decide) hm;have h2:=(h.pre (rF c sad fad s0 s1 f0 f1)).mono (post':=fun v L'=>∃(x:OA×Nat) (X:LH),v=.tuple #[ae x.1 (resT items [s0,s1]).2.length x.2,ac (resT items [s0,s1]).1]∧L' = [osl (encZ .i64) 1 tInt x.1 x.2 (resT items [s0,s1]).2]++X) (fun v L' ⟨a1,a0,q1,q2⟩=>⟨(a1,a0),_,q1,q2⟩);exact Tri.reads (Res:=fun x:OA×Nat=>[osl (encZ .i64) 1 tInt x.1 x.2 (resT items [s0,s1]).2]) (M:=M) (fun _ _ _ _ q=>Stars.d8 (fun _ _ _ z=>z) q) h2 (rG c sad fad s0 s1 f0 f1)
def xo{M:LH}(items:Int)(c:CatV)(sad fad:OA)(scap:Nat)(s0 s1:StV)(f0 f1:FlV)(hm:(gd [s0,s1]).length≤100000) :
  Tri ai 19 #[ac items,ae sad 2 scap] (iS c sad fad s0 s1 f0 f1 M) (fun v L'=>∃x:OA×Nat×List Hd,(v=.tuple #[ae x.1 x.2.2.length x.2.1,ac (resH items [s0,s1]).1]∧(x.2.2.length≤200000∧if(resH items [s0,s1]).1=0 then HoldL (resH items [s0,s1]).2 x.2.2 else x.2.2=[]))∧L' = osl hU 3 tHd x.1 x.2.1 x.2.2::(iS c sad fad s0 s1 f0 f1 M)):=by
 have h:=sM (L:=[isl aX 7 sad [s0,s1],isl bT 11 fad [f0,f1],isl ay 3 f1.pad f1.m.parts,isl ay 3 f0.pad f0.m.parts,isl (encZ .i64) 1 f0.mad f0.m.made,isl (encZ .i64) 1 f1.mad f1.m.made,catP c]) items sad 2 scap [s0,s1] rfl (by show 2≤1000000;decide) hm;have h2:=(h.pre (rF c sad fad s0 s1 f0 f1)).mono (post':=fun v L'=>∃(x:OA×Nat×List Hd) (X:LH),(v=.tuple #[ae x.1 x.2.2.length x.2.1,ac (resH items [s0,s1]).1]∧(x.2.2.length≤200000∧if(resH items [s0,s1]).1=0 then HoldL (resH items [s0,s1]).2 x.2.2 else x.2.2=[]))∧L' = [osl hU 3 tHd x.1 x.2.1 x.2.2]++X) (fun v L' ⟨a1,a0,hs,q1,q2,q3⟩=>⟨(a1,a0,hs),_,⟨q1,q2⟩,q3⟩);exact Tri.reads (Res:=fun x:OA×Nat×List Hd=>[osl hU 3 tHd x.1 x.2.1 x.2.2]) (M:=M) (fun _ _ _ _ q=>Stars.d8 (fun _ _ _ z=>z) q) h2 (rG c sad fad s0 s1 f0 f1)
def Da{s0 s1:StV}{L:LH}:Ent (bigO stO [s0,s1]::L) (osl aT 5 tMv s0.mad s0.mcap s0.moves::stP s0::osl aT 5 tMv s1.mad s1.mcap s1.moves::stP s1::L) :=
 Ent.bigO_uncons.trans ((Ent.unstars2 (A:=osl aT 5 tMv s0.mad s0.mcap s0.moves) (B:=stP s0)).trans (Ent.d7 (Ent.d7 (Ent.bigO_uncons.trans ((Ent.unstars2 (A:=osl aT 5 tMv s1.mad s1.mcap s1.moves) (B:=stP s1)).trans (Ent.d7 (Ent.d7 Ent.drop)))))))
def Db{f0 f1:FlV}{L:LH}:Ent (bigO flO [f0,f1]::L) (osl ay 3 tLot f0.pad f0.pcap f0.m.parts::osl (encZ .i64) 1 tInt f0.mad f0.mcap f0.m.made::osl ay 3 tLot f1.pad f1.pcap f1.m.parts::osl (encZ .i64) 1 tInt f1.mad f1.mcap f1.m.made::L) :=
 Ent.bigO_uncons.trans ((Ent.unstars2 (A:=osl ay 3 tLot f0.pad f0.pcap f0.m.parts) (B:=osl (encZ .i64) 1 tInt f0.mad f0.mcap f0.m.made)).trans (Ent.d7 (Ent.d7 (Ent.bigO_uncons.trans ((Ent.unstars2 (A:=osl ay 3 tLot f1.pad f1.pcap f1.m.parts) (B:=osl (encZ .i64) 1 tInt f1.mad f1.mcap f1.m.made)).trans (Ent.d7 (Ent.d7 Ent.drop)))))))
def EW{c:CatV}{sad fad:OA}{sc fc:Nat}{s0 s1:StV}{f0 f1:FlV}{L:LH}:Ent (osl aT 5 tMv s0.mad s0.mcap s0.moves::stP s0::osl aT 5 tMv s1.mad s1.mcap s1.moves::stP s1::osl ay 3 tLot f0.pad f0.pcap f0.m.parts::osl (encZ .i64) 1 tInt f0.mad f0.mcap f0.m.made::osl ay 3 tLot f1.pad f1.pcap f1.m.parts::osl (encZ .i64) 1 tInt f1.mad f1.mcap f1.m.made::osl aX 7 cQ sad sc [s0,s1]::osl bT 11 dz fad fc [f0,f1]::catP c::L) (iS c sad fad s0 s1 f0 f1 L):=by
 refine Ent.freezeSl.trans ?_;refine(Ent.at (A:=osl ay 3 tLot f0.pad f0.pcap f0.m.parts) Ent.freezeSl).trans ?_;refine(Ent.at (A:=osl (encZ .i64) 1 tInt f0.mad f0.mcap f0.m.made) Ent.freezeSl).trans ?_;refine(Ent.at (A:=osl (encZ .i64) 1 tInt f1.mad f1.mcap f1.m.made) Ent.freezeSl).trans ?_;refine(Ent.at (A:=osl aX 7 cQ sad sc [s0,s1]) Ent.freezeSl).trans ?_;refine(Ent.at (A:=osl bT 11 dz fad fc [f0,f1]) Ent.freezeSl).trans ?_;exact ah
