/- Lemmas. -/
import Derived.Test.YtommnllbflbdmaaGreatDoorIbw
set_option linter.all false
set_option maxHeartbeats 16000000
namespace Go.Proofs.YtommnllbflbdmaaGreatDoor
section
open Go.V
attribute [local irreducible] G GO GP GPW GPK Ev Ef EfR Ent CB GB V.Enters
abbrev yK:List Stp:=[.ev 0,.ev 1,.ev 2,.ev 3,.ev 4,.ev 5,.ev 6,.ev 7,.ev 8]
def YX{φ ψ:Prop}(k:ψ)(h:Hid ψ→φ:=by intro k;(repeat (first|refine aa ?_|intro zzz|((with_reducible apply G.d8);first|refine G.d7 (N:=26) (id:=6) yK mixed aw ?_)));(repeat revert zzz);exact Hid.out k):φ:=h ⟨k⟩
def vc{L:LH}(a0 ad2:OA)(n1 n2 c1 c2:Nat)(xs ys:LL)[Rds L a0 Lot ao 3 xs][Rds L ad2 Lot ao 3 ys](h1:n1=xs.length)(h2:n2=ys.length)(hl:ys.length≤1000000000) :
  Tri ag 107 #[.slice a0 n1 c1,.slice ad2 n2 c2] L (fun v L'=>v=.bool (dB (xs=ys))∧L' = L):=by
 subst h1 h2;refine Tri.bd ?_;by_cases he:xs.length=ys.length
 case neg =>
  rw[aH (fun h:xs=ys=>he (by rw[h]))];refine YX ?_;intros;exact KX.en ⟨rfl,rfl⟩
 have a8:xs.length≤1000000000:=ab;refine YX ?_;intros;refine G.loop (α:=Nat) (fun i=>i≤xs.length∧xs.take i=ys.take i) (fun i=>[(0,.slice a0 xs.length c1),(1,.slice ad2 ys.length c2),(5,ac (i:Int))]) (fun _=>L) (fun i=>xs.length - i) 0 ⟨aj _,by simp⟩ ai (Ent.refl _) ?_;rintro i ⟨hi,ht⟩;by_cases a4:i<xs.length
 case neg =>
  have e:xs=ys:=by
   rw[aF ab,aF ab] at ht;exact ht
  rw[aT e];refine YX ?_;intros;exact KX.en ⟨rfl,rfl⟩
 have a5:(i:Int).toNat=i:=ab;obtain⟨x,hx⟩:∃x,xs[i]! = x:=⟨_,rfl⟩;obtain⟨y,hy⟩:∃y,ys[i]! = y:=⟨_,rfl⟩;have a6:xs[(i:Int).toNat]! = x:=by rw[a5];exact hx
 have a7:ys[(i:Int).toNat]! = y:=by rw[a5];exact hy
 refine YX ?_;intros;rw[a6,a7];refine GPW.evP (Ev.q6 (xs:=[x.1,x.2.1,x.2.2]) (ys:=[y.1,y.2.1,y.2.2]) (cs:=ao x) (ds:=ao y) (hc:=⟨rfl⟩) (hd:=⟨rfl⟩) rfl rfl rfl rfl) ah ?_;by_cases e:x=y
 ·rw[aH (fun h:¬ [x.1,x.2.1,x.2.2]=[y.1,y.2.1,y.2.2]=>h (by rw[e]))];refine YX ?_;intros;refine⟨i+1,⟨ab,?_⟩,ab,?_,Ent.refl _⟩
  ·rw[aC a4,aC ab,ht];rw[getElem!_of a4] at hx;rw[getElem!_of ab] at hy;rw[hx,hy,e]
  ·rw[aK i];exact ai
 ·have e2:¬ [x.1,x.2.1,x.2.2]=[y.1,y.2.1,y.2.2]:=fun h=>e (by
   obtain⟨a1,a2,a3⟩:=x;obtain⟨b1,b2,b3⟩:=y;simpa using h)
  rw[aT e2,aH (fun h:xs=ys=>e (by rw[←hx,←hy,h]))];refine YX ?_;intros;exact KX.en ⟨rfl,rfl⟩
abbrev BK:List Stp:=[.ev 0,.ev 1,.ev 2,.ev 3,.ev 4,.ev 5,.ev 6,.ev 7,.ev 8,.ev 9,.ev 10]
def Zd{φ ψ:Prop}(k:ψ)(h:Hid ψ→φ:=by intro k;(repeat (first|refine aa ?_|intro zzz|((with_reducible apply G.d8);first|refine G.d7 (N:=102) (id:=7) BK mixed aw ?_)));(repeat revert zzz);exact Hid.out k):φ:=h ⟨k⟩
def xa{L:LH}(f g:FlV)[Rds L f.pad Lot ao 3 f.m.parts][Rds L g.pad Lot ao 3 g.m.parts][Rds L f.mad Int (encZ .i64) 1 f.m.made][Rds L g.mad Int (encZ .i64) 1 g.m.made](h1:g.m.parts.length≤1000000000)(h2:g.m.made.length≤1000000000) :
  Tri ag 50 #[.agg (aM f).toArray,.agg (aM g).toArray] L (fun v L'=>v=.bool (dB (f.m=g.m))∧L' = L):=by
 refine Tri.bd ?_;have a0:∀{p:Prop},¬p→(f.m=g.m→p)→dB (f.m=g.m)=false:=fun h q=>aH (fun r=>h (q r));simp only[aM];refine Zd ?_;intros;rename_i b2 b3;refine GO.cr (vc f.pad g.pad f.m.parts.length g.m.parts.length f.pcap g.pcap f.m.parts g.m.parts rfl rfl h1) ?_;by_cases cp:f.m.parts=g.m.parts
 case neg =>
  rw[aH cp];refine Zd ?_;intros;exact KX.d7 an ae ⟨by rw[a0 cp (fun q=>by rw[q])];rfl,rfl⟩
 rw[aT cp];by_cases cl:f.m.made.length=g.m.made.length
 case neg =>
  refine Zd ?_;intros;exact KX.d7 an ae ⟨by rw[a0 cl (fun q=>by rw[q])];rfl,rfl⟩
 refine Zd ?_;intros;refine G.loop (α:=Nat) (fun i=>i≤f.m.made.length∧f.m.made.take i=g.m.made.take i) (fun i=>[(2,av b2),(3,av b3),(6,ac (i:Int))]) (fun _=>obj b2 bY (aM f)::obj b3 bY (aM g)::L) (fun i=>f.m.made.length - i) 0 ⟨aj _,by simp⟩ ai (by simp only[aM];exact ae) ?_;rintro i ⟨hi,ht⟩;simp only[aM];by_cases a1:i<f.m.made.length
 case pos =>
  have a2:(i:Int).toNat=i:=ab;by_cases e:f.m.made[(i:Int).toNat]! = g.m.made[(i:Int).toNat]!
  ·refine Zd ?_;intros;refine⟨i+1,⟨ab,?_⟩,ab,?_,by exact ae⟩
   ·rw[a2] at e;rw[aC a1,aC ab,ht];rw[getElem!_of a1,getElem!_of (show i<g.m.made.length by omega)] at e;rw[e]
   ·rw[aK i];exact ai
  ·refine Zd ?_;intros;exact KX.d7 an ae ⟨by rw[a0 e (fun q=>by rw[q])];rfl,rfl⟩
 have cm:f.m.made=g.m.made:=by
  rw[aF ab,aF ab] at ht;exact ht
 by_cases c0:f.m.id=g.m.id
 case neg =>
  refine Zd ?_;intros;exact KX.d7 an ae ⟨by rw[a0 c0 (fun q=>by rw[q])];first|rfl|(rw[aH c0];rfl),rfl⟩
 by_cases c1:f.m.step=g.m.step
 case neg =>
  refine Zd ?_;intros;exact KX.d7 an ae ⟨by rw[a0 c1 (fun q=>by rw[q])];first|rfl|(rw[aH c1];rfl),rfl⟩
 by_cases c2:f.m.kind=g.m.kind
 case neg =>
  refine Zd ?_;intros;exact KX.d7 an ae ⟨by rw[a0 c2 (fun q=>by rw[q])];first|rfl|(rw[aH c2];rfl),rfl⟩
 by_cases c3:f.m.tick=g.m.tick
 case neg =>
  refine Zd ?_;intros;exact KX.d7 an ae ⟨by rw[a0 c3 (fun q=>by rw[q])];first|rfl|(rw[aH c3];rfl),rfl⟩
 by_cases c4:f.m.actor=g.m.actor
 case neg =>
  refine Zd ?_;intros;exact KX.d7 an ae ⟨by rw[a0 c4 (fun q=>by rw[q])];first|rfl|(rw[aH c4];rfl),rfl⟩
 by_cases c5:f.m.frm=g.m.frm
 case neg =>
  refine Zd ?_;intros;exact KX.d7 an ae ⟨by rw[a0 c5 (fun q=>by rw[q])];first|rfl|(rw[aH c5];rfl),rfl⟩
 by_cases c6:f.m.to=g.m.to
 case neg =>
  refine Zd ?_;intros;exact KX.d7 an ae ⟨by rw[a0 c6 (fun q=>by rw[q])];first|rfl|(rw[aH c6];rfl),rfl⟩
 by_cases c7:f.m.item=g.m.item
 case neg =>
  refine Zd ?_;intros;exact KX.d7 an ae ⟨by rw[a0 c7 (fun q=>by rw[q])];first|rfl|(rw[aH c7];rfl),rfl⟩
 by_cases c8:f.m.n=g.m.n
 case neg =>
  refine Zd ?_;intros;exact KX.d7 an ae ⟨by rw[a0 c8 (fun q=>by rw[q])];first|rfl|(rw[aH c8];rfl),rfl⟩
 have e:f.m=g.m:=by
  obtain⟨m,_,_,_,_⟩:=f;obtain⟨m',_,_,_,_⟩:=g;cases m;cases m';simp only at c0 c1 c2 c3 c4 c5 c6 c7 c8 cp cm ⊢;subst c0 c1 c2 c3 c4 c5 c6 c7 c8 cp cm;rfl
 refine Zd ?_;intros;exact KX.d7 an ae ⟨by rw[aT e,aT c8];rfl,rfl⟩
end
section
open Go.V
abbrev rl0A(sh:Int)(c:CatV):LV:=[ac sh,.slice c.iad c.items.length c.icap,.slice c.rad c.rules.length c.rcap,.slice c.tad c.tables.length c.tcap,.slice c.xad c.taxes.length c.xcap,.slice none 0 0,.slice none 0 0,.slice none 0 0]
def Cb{A B:List FlM}{n:Nat}(hn:n≤A.length)(hb:n≤B.length)(h:∀j,n≤j→j<A.length→j<B.length∧A[j]! = B[j]!):¬(B.length<A.length∨A.drop n≠(B.drop n).take (A.length - n)):=by
 have hl:A.length≤B.length:=by
  by_cases h2:n=A.length
  ·omega
  ·have:=(h (A.length - 1) ab ab).1
   omega
 rintro (q|q)
 ·omega
 ·refine q (du ?_ fun j h1 h2=>?_)
  ·rw[bh,cH,cH];omega
  ·rw[cH] at h1;rw[dY,eK,eK];have:=(h (n+j) ab ab).2
   rwa [getElem!_of ab,getElem!_of ab] at this
def ux{A B:List FlM}{n j:Nat}(h1:n≤j)(h2:j<A.length)(h3:B.length≤j∨A[j]!≠B[j]!):B.length<A.length∨A.drop n≠(B.drop n).take (A.length - n):=by
 by_cases hl:B.length<A.length
 ·exact .inl hl
 refine .inr fun q=>?_;rcases h3 with h3|h3
 ·omega
 refine h3 ?_;have e:(A.drop n)[j - n]! = ((B.drop n).take (A.length - n))[j - n]!:=by rw[←q]
 rw[getElem!_of (by rw[cH];omega),getElem!_of (by rw[bh,cH];omega),dY,eK,eK] at e;rw[getElem!_of h2,getElem!_of ab];have e2:n+(j - n)=j:=ab;simpa only[e2] using e
attribute [local irreducible] G GO GP GPW GPK GF GE Ev Ef EfR Ent CB GB V.Enters
def AP{L:LH}(sh:Int)(c:CatV)(hI:I64 sh)(hB:c.B)(h:CatGood c.m):Tri ag 49 #[ac sh,.agg c.cells.toArray] (catP c::L) (fun v L'=>(¬(0≤sh∧sh<12)∧v=.tuple #[.pointer none,ac 1]∧L' = L)∨((0≤sh∧sh<12)∧∃b,v=.tuple #[av b,ac 0]∧L' = obj b tRL (rl0A sh c)::catP c::L)):=by
 refine Tri.bd ?_;simp only[CatV.cells];by_cases h1:0≤sh
 case neg =>
  refine Hz ?_;intros;exact KX.en (.inl ⟨fun q=>h1 q.1,rfl,rfl⟩)
 by_cases h2:11<sh
 ·refine Hz ?_;intros;exact KX.d7 an ae (.inl ⟨fun q=>by omega,rfl,rfl⟩)
 refine Hz ?_;intros;rename_i b3;refine GO.ent (L':=catP c::obj b3 tCat [.slice c.iad c.items.length c.icap,.slice c.rad c.rules.length c.rcap,.slice c.tad c.tables.length c.tcap,.slice c.xad c.taxes.length c.xcap]::L) ae ?_;refine GO.ent catS_open ?_;refine GO.cr (CL c hB h) ?_;simp only[catS];refine Hz ?_;intros;rename_i b;exact KX.d7 an ae (.inr ⟨⟨h1,ab⟩,b,rfl,rfl⟩)
abbrev fJ:Nat:=44
abbrev yJ:List Stp:=[.ev 0,.ev 1,.ev 2,.ev 3,.ev 4,.ev 5,.ev 6,.ev 7,.ev 8,.ev 9,.ev 10,.ev 11,.ev 12,.ev 13,.ev 14,.ev 15,.ef 16,.ev 17,.ev 18]
def Zt{φ ψ:Prop}(k:ψ)(h:Hid ψ→φ:=by intro k;(repeat (first|refine aa ?_|intro zzz|((with_reducible apply G.d8);first|refine G.d7 (N:=105) (id:=16) yJ mixed aw ?_)));(repeat revert zzz);exact Hid.out k):φ:=h ⟨k⟩
def tm{L:LH}(sh:Int)(hI:I64 sh)(c:CatV)(hB:c.B)(hg:CatGood c.m)(hc:c.m.Ok)(sad:OA)(n scap:Nat)(ss:List StV)[hrs:Rds L sad StV aL 7 ss](hn:n=ss.length)(hS:AudS ss)(d4:∀s∈ss,Ent L (bK s::L))(fad:OA)(n2 fcap:Nat)(fs:List FlV)[hrf:Rds L fad FlV aM 11 fs](c6:n2=fs.length)(hF:AudFl fs)(d1:∀f∈fs,Ent L (flP f::L)) :
  Tri ag 15 #[ac sh,.agg c.cells.toArray,.slice sad n scap,.slice fad n2 fcap] (catP c::L) (fun v L'=>v=.agg (cX (audF sh c.m (ss.map StV.m) (fs.map FlV.m))).toArray∧L' = L):=by
 subst hn c6;have c5:=hS.len;refine Tri.bd ?_;simp only[CatV.cells];refine Zt ?_;intros;rename_i b5 b8;refine GO.ent (L':=catP c::obj b5 tCat c.cells::obj b8 fJ [ac 0,ac 0,ac 0]::L) (by simp only[CatV.cells];exact ae) ?_;refine GO.ca (AP sh c hI hB hg) ?_;rintro _ _ (⟨h1,rfl,rfl⟩|⟨h1,b,rfl,rfl⟩)
 ·have e:audF sh c.m (ss.map StV.m) (fs.map FlV.m)=(1,sh,0):=if_neg h1;rw[e];refine Zt ?_;intros;exact KX.d7 (ResOk.cell rfl (by rfl) ResOk.nil) ae ⟨rfl,rfl⟩
 have e:audF sh c.m (ss.map StV.m) (fs.map FlV.m)=audG (fs.map FlV.m) 0 (led0 sh c.m) (ss.map StV.m):=if_pos h1;rw[e];have d5:=wI h1 c.m;obtain⟨f4,f1⟩:=h1;refine Zt ?_;intros
 refine G.loop (α:=Nat×RLX×LedM) (fun g=>g.1≤ss.length∧RF g.2.2 g.2.1∧LedA (stK ((ss.map StV.m).take g.1)) g.2.2∧g.2.2.shard=sh∧g.2.2.cat=c.m∧g.2.2.flows.length≤fs.length∧stK ((ss.map StV.m).take g.1)+stK ((ss.map StV.m).drop g.1)≤2000∧audG (fs.map FlV.m) 0 (led0 sh c.m) (ss.map StV.m)=audG (fs.map FlV.m) g.1 g.2.2 ((ss.map StV.m).drop g.1))
  (fun g=>[(0,ac sh),(2,.slice sad ss.length scap),(3,.slice fad fs.length fcap),(8,av b8),(9,av b),(11,ac g.2.2.flows.length),(12,ac (g.1:Int))]) (fun g=>rlL b sh g.2.1 (obj b8 fJ [ac 0,ac 0,ac 0]::L)) (fun g=>ss.length - g.1) (0,⟨c,[],none,0,[],none,0,[],none,0⟩,led0 sh c.m) ⟨aj _,⟨rfl,hB,rfl,rfl,fun _ _=>rfl,fun _=>rfl,(fun s hs=>by cases hs),aB _,List.nodup_nil,(fun f hf=>by cases hf),bj _⟩,d5,rfl,rfl,aj _,by have:=hS.k;show 0+stK (ss.map StV.m)≤2000;omega,rfl⟩ ai ?_ ?_
 ·refine(Ent.e7 rsP).trans ((Ent.e7 flP).trans ((Ent.e7 bK).trans ((Ent.d9 gT 3 tRS).trans ((Ent.d9 aM 11 bY).trans ((Ent.d9 aL 7 bB).trans ?_)))));simp only[rlL,aI];exact ae
 rintro⟨i,x,S⟩ ⟨hi,hx,hA,c2,a2,c3,hK,ha⟩;dsimp only at hi hx hA c2 a2 c3 hK ha ⊢;subst c2;have d2:=hA.g.flows;have c8:=hA.g.steps;have b4:(fs.map FlV.m).length=fs.length:=aA _;simp only[rlL,aI];by_cases b3:i<ss.length
 case neg =>
  obtain rfl:i=ss.length:=ab;have a3:(ss.map StV.m).drop ss.length=[]:=bg (by rw[aA];exact aB _);rw[a3,rE,b4] at ha;rw[ha];by_cases hq:S.flows.length<fs.length
  ·rw[if_pos hq];have e1:(S.flows.length:Int)<(fs.length:Int):=ab;refine Zt ?_;intros;exact KX.d7 (ResOk.cell rfl (by rfl) ResOk.nil) ae ⟨rfl,rfl⟩
  ·rw[if_neg hq];have e1:¬(S.flows.length:Int)<(fs.length:Int):=ab;refine Zt ?_;intros;exact KX.d7 (ResOk.cell rfl (by rfl) ResOk.nil) ae ⟨rfl,rfl⟩
 have d3:(i:Int).toNat=i:=ay i;have b0 : (i:Int).toNat<ss.length:=ab;have c0:i<(ss.map StV.m).length:=by rw[aA];exact b3
 have b9:(ss.map StV.m)[i]! = ss[(i:Int).toNat]!.m:=by rw[d3];exact dP StV.m b3
 have a3:(ss.map StV.m).drop i=ss[(i:Int).toNat]!.m::(ss.map StV.m).drop (i+1):=by rw[←b9];exact dF c0
 have c9:stK ((ss.map StV.m).take (i+1))=stK ((ss.map StV.m).take i)+mvK ss[(i:Int).toNat]!.m.moves:=by
  rw[vL c0,b9]
 rw[a3,kK] at ha;rw[a3] at hK;have a1:=aG b0;obtain⟨a5,e4⟩:=hS.inp _ a1;have a4:=d4 _ a1;refine G.ent (L':=stM ss[(i:Int).toNat]!::stP ss[(i:Int).toNat]!::rlL b S.shard x (obj b8 fJ [ac 0,ac 0,ac 0]::L)) ((Ent.under (A:=rlL b S.shard x [obj b8 fJ [ac 0,ac 0,ac 0]]) a4).trans Ent.andE) ?_;simp only[rlL,aI];refine Zt ?_;intros;generalize hse:ss[(i:Int).toNat]! = s at *;have f0:stK (s.m::(ss.map StV.m).drop (i+1))=mvK s.m.moves+stK ((ss.map StV.m).drop (i+1)):=rfl;by_cases c1:s.id=S.shard*4294967296+(i:Int)
 case neg =>
  rw[if_pos (show s.m.id≠S.shard*4294967296+(i:Int) from c1)] at ha;rw[ha];refine Zt ?_;intros;exact KX.d7 (ResOk.cell rfl (by rfl) ResOk.nil) ae ⟨rfl,rfl⟩
 rw[if_neg (show ¬(s.m.id≠S.shard*4294967296+(i:Int)) from fun q=>q c1)] at ha;obtain⟨a7,_⟩:=tH (s:=s.m) hA ab;obtain⟨z,hz⟩:=qH S s.m;have f2:(cR S s.m).flows.length=S.flows.length+z.length:=by rw[hz,aD]
 have d0:=a7.g.flows;have c7:=a7.g.steps;refine Zt ?_;intros;refine GO.ent (L':=rlL b S.shard x (stM s::stP s::obj b8 fJ [ac 0,ac 0,ac 0]::L)) (by simp only[rlL,aI];exact ae) ?_;rw[hse];refine GO.ca (qx b S (stK ((ss.map StV.m).take i)) hA.g (a2▸hc) (a2▸hg) s a5 ab x hx) ?_;rintro _ _⟨rfl,x',a9,_,_,_,rfl⟩;by_cases he:(gTry S s.m).1=0
 case neg =>
  rw[if_pos he] at ha;rw[ha];generalize (gTry S s.m).1=er at *;simp only[rlL,aI];refine Zt ?_;intros;exact KX.d7 (ResOk.cell rfl (by rfl) ResOk.nil) ae ⟨rfl,rfl⟩
 rw[if_neg (fun q=>q he)] at ha;rw[he]
 have d6 : x'.flows.length=(cR S s.m).flows.length:=by
  have:=congrArg List.length a9.flows
  rwa [aA] at this
 simp only[rlL,aI];refine Zt ?_;intros
 refine G.loop (α:=Nat) (fun k=>S.flows.length≤k∧k≤x'.flows.length∧(∀j,S.flows.length≤j→j<k→j<fs.length∧(cR S s.m).flows[j]! = (fs.map FlV.m)[j]!))
  (fun k=>[(0,ac S.shard),(2,.slice sad ss.length scap),(3,.slice fad fs.length fcap),(8,av b8),(9,av b),(11,ac (k:Int)),(12,ac (i:Int)),(13,ac (S.shard*4294967296+(i:Int)))]) (fun _=>rlL b S.shard x' (obj b8 fJ [ac 0,ac 0,ac 0]::L)) (fun k=>x'.flows.length - k) S.flows.length ⟨aB _,ab,fun j h1 h2=>absurd h2 ab⟩ ai (by simp only[rlL,aI];exact ae) ?_
 rintro k ⟨b1,f3,b2⟩;simp only[rlL,aI];by_cases hk:k<x'.flows.length
 case neg =>
  have a0:=Cb (A:=(cR S s.m).flows) (B:=fs.map FlV.m) (n:=S.flows.length) ab ab (fun j h1 h2=>by
   have:=b2 j h1 ab
   exact⟨ab,this.2⟩)
  rw[if_neg a0] at ha;have e3:k=(cR S s.m).flows.length:=ab
  have a8:(cR S s.m).flows.length≤fs.length:=by
   by_cases q:fs.length<(cR S s.m).flows.length
   ·exact absurd (.inl (by rw[b4];exact q)) a0
   ·omega
  refine Zt ?_;intros;refine⟨(i+1,x',cR S s.m),⟨by dsimp only;omega,a9,by dsimp only;rw[c9];exact a7,nt S s.m,(pF S s.m).trans a2,a8,by dsimp only;omega,ha⟩,by dsimp only;omega,?_,?_⟩
  ·dsimp only;rw[aK i,←e3];exact ai
  ·simp only[rlL,aI];exact ae
 have b6:(k:Int).toNat=k:=ay k;have e2 : (k:Int).toNat<x'.flows.length:=ab;by_cases q1:k<fs.length
 case neg =>
  rw[if_pos (ux (j:=k) b1 ab (.inl ab))] at ha;rw[ha];refine Zt ?_;intros;exact KX.d7 (ResOk.cell rfl (by rfl) ResOk.nil) ae ⟨rfl,rfl⟩
 have e6 : (k:Int).toNat<fs.length:=ab;have e5:=aG e2;have b7:=aG e6;have eA:(cR S s.m).flows[k]! = x'.flows[(k:Int).toNat]!.m:=by rw[←a9.flows,b6];exact dP FlV.m hk
 have eB:(fs.map FlV.m)[k]! = fs[(k:Int).toNat]!.m:=by rw[b6];exact dP FlV.m q1
 obtain⟨c4,e0⟩:=hF.fl _ b7;have a6:=d1 _ b7;refine G.ent (L':=isl ao 3 fs[(k:Int).toNat]!.pad fs[(k:Int).toNat]!.m.parts::isl (encZ .i64) 1 fs[(k:Int).toNat]!.mad fs[(k:Int).toNat]!.m.made::isl ao 3 x'.flows[(k:Int).toNat]!.pad x'.flows[(k:Int).toNat]!.m.parts::isl (encZ .i64) 1 x'.flows[(k:Int).toNat]!.mad x'.flows[(k:Int).toNat]!.m.made::rlL b S.shard x' (obj b8 fJ [ac 0,ac 0,ac 0]::L)) ?_ ?_
 ·refine((Ent.under (A:=rlL b S.shard x' [obj b8 fJ [ac 0,ac 0,ac 0]]) a6).trans Ent.andE).trans (Ent.d7 (Ent.d7 ?_));show Ent (rlL b S.shard x' (obj b8 fJ [ac 0,ac 0,ac 0]::L)) _;refine(Ent.at (A:=allP flP x'.flows) ((Ent.d8 (f:=flP) e5).trans Ent.andE)).trans ?_;simp only[rlL,aI];exact ae
 simp only[rlL,aI];refine Zt ?_;intros;refine GPW.cr (xa x'.flows[(k:Int).toNat]! fs[(k:Int).toNat]! c4 e0) ?_;by_cases q2:x'.flows[(k:Int).toNat]!.m=fs[(k:Int).toNat]!.m
 ·rw[aT q2];refine Zt ?_;intros;refine⟨k+1,⟨ab,ab,fun j h1 h2=>?_⟩,ab,?_,by(try simp only[rlL,aI]);exact ae⟩
  ·by_cases hj:j<k
   ·exact b2 j h1 hj
   ·obtain rfl:j=k:=ab;exact⟨q1,by rw[eA,eB];exact q2⟩
  ·rw[aK k];exact ai
 ·rw[aH q2];rw[if_pos (ux (j:=k) b1 ab (.inr (by rw[eA,eB];exact q2)))] at ha;rw[ha];refine Zt ?_;intros;exact KX.d7 (ResOk.cell rfl (by rfl) ResOk.nil) ae ⟨rfl,rfl⟩
end
section
open Go.V
def wH{sh:Int}{c:CatM}(h:0≤sh∧sh<12):(led0 sh c).Ok:=⟨h,aj _,aj _,fun _ _=>⟨aj _,(fun _ hx=>by cases hx)⟩,fun _=>by show -(((0:Nat):Int)*1099511627776)≤(0:Int)∧(0:Int)≤1099511627776;omega⟩
def Al{s:StV}(hk:s.kind=0∨s.kind=2)(hm:∃u,u.m.parts=[]∧s.moves=[u])(hc:1≤s.mcap)(hr:s.rule = -1):StIn s:=by
 obtain⟨u,hu,hm⟩:=hm;refine⟨?_,by rw[hm];show 1≤1000000;decide,by rw[hm];exact hc,by rw[hr];unfold I64;decide,fun m h=>?_⟩
 ·rcases hk with h|h
  ·exact .inl h
  ·exact .inr (.inr (.inr (.inl h)))
 ·rw[hm] at h;rw[List.mem_singleton.1 h,hu];decide
def exMv_ent{b:Nat}{f t n:Int}{L:LH}:Ent (obj b tMv [ac f,ac t,ac 0,ac n,.slice none 0 0]::L) (isl aQ 5 (some ⟨b,0,none⟩) [(⟨⟨f,t,0,n,[]⟩,none,0⟩:MvV)]::allP mvP [(⟨⟨f,t,0,n,[]⟩,none,0⟩:MvV)]::L) :=
 (Ent.g7 (enc:=aQ) (sz:=5) (xs:=[(⟨⟨f,t,0,n,[]⟩,none,0⟩:MvV)]) (n:=1) rfl rfl (fun _ _=>rfl) ah).trans (Ent.freezeSl.trans (Ent.d7 ((Ent.f7 ao 3 none).trans (Ent.g9 (f:=mvP) (x:=(⟨⟨f,t,0,n,[]⟩,none,0⟩:MvV)) iI))))
attribute [local irreducible] G GO GP GPW GPK GF GE Ev Ef EfR Ent CB GB V.Enters
def wF{L:LH}:Tri ag 16 #[] (bX::L) (fun v L'=>v=.bool true∧L' = bX::L):=by
 refine Tri.bd ?_;refine Hz ?_;intros;refine GO.ca (tO) ?_;rintro _ _⟨c,rfl,⟨hc,hB⟩,rfl⟩;have d4:CatGood c.m:=hc▸Ct;simp only[CatV.cells];refine Hz ?_;intros;rename_i b1;refine GO.ent (L':=catP c::bX::obj b1 tCat c.cells::L) (by simp only[CatV.cells];exact ae) ?_;refine GO.ca (BS 0 c ah hB d4) ?_;rintro _ _⟨lb,rfl,rfl⟩;rw[hc];refine Hz ?_;intros;rename_i a7;refine GO.ent (L':=LedR lb (led0 0 cat22)::stM (exVS none 0 (some ⟨a7,0,none⟩) 1)::stP (exVS none 0 (some ⟨a7,0,none⟩) 1)::catP c::bX::obj b1 tCat c.cells::L) (exMv_ent.trans ae) ?_;refine GO.cr (uc lb (led0 0 cat22) (wH ah) rB (exVS none 0 (some ⟨a7,0,none⟩) 1) (Al (.inl rfl) ⟨_,rfl,rfl⟩ (aB _) rfl) AH) ?_;rw[show kP (led0 0 cat22) (exVS none 0 (some ⟨a7,0,none⟩) 1).m=exL1 from Am];refine GO.ent (L':=LedR lb exL1::catP c::bX::obj b1 tCat c.cells::L) ae ?_;refine Hz ?_;intros;rename_i a8;refine GO.ent (L':=LedR lb exL1::stM (exVT 3 none 0 (some ⟨a8,0,none⟩) 1)::stP (exVT 3 none 0 (some ⟨a8,0,none⟩) 1)::catP c::bX::obj b1 tCat c.cells::L) (exMv_ent.trans ae) ?_;have a9:exL1.Ok:=by rw[←Am];exact EK (wH ah) AH
 refine GO.cr (uc lb exL1 a9 rB ({ exVT 3 none 0 (some ⟨a8,0,none⟩) 1 with id:=0 }:StV) (Al (.inr rfl) ⟨_,rfl,rfl⟩ (aB _) rfl) AH) ?_;rw[show kP exL1 ({ exVT 3 none 0 (some ⟨a8,0,none⟩) 1 with id:=0 }:StV).m=exL2 from Gu];refine GO.ent (L':=LedR lb exL2::catP c::bX::obj b1 tCat c.cells::L) ae ?_;refine Hz ?_;intros
 have b0:∀s∈exL2.steps,s.moves.length≤64∧∀u∈s.moves,u.parts.length≤1000000:=by
  intro s hs;rcases List.mem_cons.1 hs with rfl|hs
  ·exact⟨by show 1≤64;decide,fun u hu=>by rw[List.mem_singleton.1 hu];show 0≤1000000;decide⟩
  ·rw[List.mem_singleton.1 hs];exact⟨by show 1≤64;decide,fun u hu=>by rw[List.mem_singleton.1 hu];show 0≤1000000;decide⟩
 have b3:∀f∈exL2.flows,f.parts.length≤1000000∧f.made.length≤1000000:=by
  intro f hf;rcases List.mem_cons.1 hf with rfl|hf
  ·exact⟨by show 0≤1000000;decide,by show 0≤1000000;decide⟩
  ·rw[List.mem_singleton.1 hf];exact⟨by show 1≤1000000;decide,by show 0≤1000000;decide⟩
 refine GO.ca (xK lb exL2 b0 (by show 2≤100000;decide)) ?_;rintro _ _⟨sad,scap,ss,rfl,c2,rfl⟩;have e4:ss.length=2:=by rw[←aA (f:=StV.m),c2];rfl
 rw[e4];refine Hz ?_;intros;refine GO.ent (L':=LedR lb exL2::osl aL 7 bB sad scap ss::bigO stO ss::catP c::bX::obj b1 tCat c.cells::L) ae ?_;refine GO.ca (zC lb exL2 b3 (by show 2≤100000;decide)) ?_;rintro _ _⟨fad,fcap,fs,rfl,b9,rfl⟩;have b6:fs.length=2:=by rw[←aA (f:=FlV.m),b9];rfl
 rw[b6];refine GO.d9 (fX (ad:=fad) (cap:=fcap) (xs:=fs) (enc:=aM) (sz:=11) (E:=bY)) ?_;rintro⟨a6,_⟩;rw[b6] at a6;obtain⟨p0,c0,a0,k0,p1,c1,a1,k1,rfl⟩:=FQ c2;obtain⟨q0,d0,m0,e0,q1,d1,m1,e1,rfl⟩:=Gq b9;generalize hs0:exVS p0 c0 a0 k0=s0 at *;generalize hs1:exVT 3 p1 c1 a1 k1=s1 at *;generalize hf0:(⟨exF0,q0,d0,m0,e0⟩:FlV)=f0 at *;generalize hf1:(⟨exF1 0,q1,d1,m1,e1⟩:FlV)=f1 at *;refine GO.ent (L':=osl aQ 5 tMv s0.mad s0.mcap s0.moves::stP s0::osl aQ 5 tMv s1.mad s1.mcap s1.moves::stP s1::osl ao 3 tLot f0.pad f0.pcap f0.m.parts::osl (encZ .i64) 1 tInt f0.mad f0.mcap f0.m.made::osl ao 3 tLot f1.pad f1.pcap f1.m.parts::osl (encZ .i64) 1 tInt f1.mad f1.mcap f1.m.made::osl aL 7 bB sad scap [s0,s1]::osl aM 11 bY fad fcap [f0,f1]::catP c::(bX::obj b1 tCat c.cells::L)) ?_ ?_
 ·refine(Ent.at (A:=bigO stO [s0,s1]) Ce).trans ?_;refine(Ent.at (A:=bigO flO [f0,f1]) Cf).trans ?_;exact ae
 refine GO.d9 (fX (ad:=s0.mad) (cap:=s0.mcap) (xs:=s0.moves) (enc:=aQ) (sz:=5) (E:=tMv)) ?_;rintro⟨c3,_⟩;refine GO.d9 (fX (ad:=s1.mad) (cap:=s1.mcap) (xs:=s1.moves) (enc:=aQ) (sz:=5) (E:=tMv)) ?_;rintro⟨b8,_⟩;refine GO.ent DY ?_;have b2:AudS [s0,s1]:=by subst hs0 hs1;exact Eb c3 b8
 have d6:AudFl [f0,f1]:=by subst hf0 hf1;exact An
 have d2:f1.m.parts.length=1:=by subst hf1;rfl
 have c4:s1.moves.length=1:=by subst hs1;rfl
 refine Hz ?_;intros;have b4:c.m.Ok:=hc▸rB;have c8:∀s∈[s0,s1],s.moves.length≤1000000:=fun s hs=>(b2.inp s hs).1.len;refine GO.cr (pX c hB b4 sad fad scap fcap s0 s1 f0 f1 b2 d6 a6) ?_;rw[show audF 0 c.m [s0.m,s1.m] [f0.m,f1.m]=(0,0,0) by subst hs0 hs1 hf0 hf1;rw[hc];exact Hc];simp only[cX];refine GO.e8 rfl rfl ?_;refine GO.ev (Ev.C5 (off:=0) (fs:=Tryz.prog.fieldsOf tFnd) (fd:=(Tryz.prog.fieldsOf tFnd)[0]!) aw aw aw (fun _=>by kernel_rfl) rfl rfl) ah ?_;refine Hz ?_;intros;refine GO.ca (AF 4 c sad fad scap s0 s1 f0 f1 c8) ?_;rintro _ _⟨⟨tad,tcap⟩,rfl,rfl⟩;rw[show resT 4 [s0,s1]=(0,[5,0,0,0]) by subst hs0 hs1;exact Ho];dsimp only;refine Hz ?_;intros;refine GO.ent (L':=iK c sad fad s0 s1 f0 f1 (osl (encZ .i64) 1 tInt tad tcap [5,0,0,0]::bX::obj b1 tCat c.cells::L)) (by simp only[iK];exact ae) ?_;refine GO.ca (wP 4 c sad fad scap s0 s1 f0 f1 (by subst hs0 hs1;show 2≤100000;decide)) ?_;rintro _ _⟨⟨b7,a5,hs⟩,⟨rfl,_,hh⟩,rfl⟩;have hH:=@Hr p0 c0 a0 k0 p1 c1 a1 k1;rw[hs0,hs1] at hH;rw[if_pos hH.1] at hh;obtain rfl:hs=[(1,0,2),(2,0,3)]:=hh.unique hH.2 (fun _ _=>rfl);dsimp only;rw[hH.1];refine Hz ?_;intros;have eF:([f0,f1]:List FlV)[Int.toNat 1]! = f1:=rfl;have eT:([5,0,0,0]:List Int).length=4:=rfl;have eH:([(1,0,2),(2,0,3)]:List Hd).length=2:=rfl;rw[eF];simp only[eT,eH];refine Hz ?_;intros;have d5:(Int.toNat 0)<f1.m.parts.length:=by rw[d2];decide
 refine GO.efu (Ef.g7 (e:=((f1.m.parts[Int.toNat 0]!.1,1,f1.m.parts[Int.toNat 0]!.2.2):Lot)) rfl rfl (by rfl) rfl d5 ah) ?_;rintro _ _ rfl;obtain⟨f2,a2⟩:∃f,(⟨exF1 1,q1,d1,m1,e1⟩:FlV)=f:=⟨_,rfl⟩;have g1:f2.pad=f1.pad:=by subst hf1 a2;rfl
 have g2:f2.pcap=f1.pcap:=by subst hf1 a2;rfl
 have g3:f2.m.parts=f1.m.parts.set (Int.toNat 0) (f1.m.parts[Int.toNat 0]!.1,1,f1.m.parts[Int.toNat 0]!.2.2):=by subst hf1 a2;rfl
 have g4:f2.mad=f1.mad:=by subst hf1 a2;rfl
 have g5:f2.m.made=f1.m.made:=by subst hf1 a2;rfl
 have g6:[f0,f1].map aM=[f0,f2].map aM:=by subst hf1 a2;rfl
 have a4:AudFl [f0,f2]:=by subst hf0 a2;exact An
 refine GO.ent (L':=iK c sad fad s0 s1 f0 f2 (osl (encZ .i64) 1 tInt tad tcap [5,0,0,0]::osl gU 3 tHd b7 a5 [(1,0,2),(2,0,3)]::bX::obj b1 tCat c.cells::L)) ?_ ?_
 ·simp only[iK];rw[g1,g2,g3,g4,g5];refine(Ent.at (A:=isl aM 11 fad [f0,f1]) (Ent.o0 g6)).trans ?_;exact ae
 refine Hz ?_;intros;refine GO.cr (pX c hB b4 sad fad scap fcap s0 s1 f0 f2 b2 a4 a6) ?_;rw[show audF 0 c.m [s0.m,s1.m] [f0.m,f2.m]=(20,0,1) by subst hs0 hs1 hf0 a2;rw[hc];exact Hb];simp only[cX];refine Hz ?_;intros;rename_i c5;have eS:([s0,s1]:List StV)[Int.toNat 1]! = s1:=rfl;rw[eS];have e3:(Int.toNat 0)<s1.moves.length:=by rw[c4];decide
 refine Hz ?_;intros;refine GO.efu (Ef.g7 (e:=(⟨⟨s1.moves[Int.toNat 0]!.m.frm,s1.moves[Int.toNat 0]!.m.to,s1.moves[Int.toNat 0]!.m.item,6,s1.moves[Int.toNat 0]!.m.parts⟩,s1.moves[Int.toNat 0]!.pad,s1.moves[Int.toNat 0]!.pcap⟩:MvV)) rfl rfl (by rfl) rfl e3 ah) ?_;rintro _ _ rfl;obtain⟨s2,a3⟩:∃s,exVT 6 p1 c1 a1 k1=s:=⟨_,rfl⟩;have d3:s2.mad=s1.mad:=by subst hs1 a3;rfl
 have c9:s2.mcap=s1.mcap:=by subst hs1 a3;rfl
 have c6:s2.moves=s1.moves.set (Int.toNat 0) ⟨⟨s1.moves[Int.toNat 0]!.m.frm,s1.moves[Int.toNat 0]!.m.to,s1.moves[Int.toNat 0]!.m.item,6,s1.moves[Int.toNat 0]!.m.parts⟩,s1.moves[Int.toNat 0]!.pad,s1.moves[Int.toNat 0]!.pcap⟩:=by subst hs1 a3;rfl
 have c7:[s0,s1].map aL=[s0,s2].map aL:=by subst hs1 a3;rfl
 have e2:∀y∈s2.moves,∃x∈s1.moves,mvP y=mvP x:=by
  subst hs1 a3;intro y hy;rw[List.mem_singleton.1 hy];exact⟨_,au,rfl⟩
 have b5:AudS [s0,s2]:=by subst hs0 hs1 a3;exact Eb c3 b8
 refine GO.ent (L':=iK c sad fad s0 s2 f0 f2 (osl (encZ .i64) 1 tInt tad tcap [5,0,0,0]::osl gU 3 tHd b7 a5 [(1,0,2),(2,0,3)]::bX::obj c5 tFnd [ac 20,ac 0,ac 1]::obj b1 tCat c.cells::L)) ?_ ?_
 ·simp only[iK];refine(Ent.at (A:=isl aL 7 sad [s0,s1]) (Ent.o0 c7)).trans ?_;refine(Ent.at (A:=allP mvP s1.moves) (Ent.m8 e2)).trans ?_;rw[←c6,d3,c9];exact ae
 refine Hz ?_;intros;refine GO.cr (pX c hB b4 sad fad scap fcap s0 s2 f0 f2 b5 a4 a6) ?_;rw[show audF 0 c.m [s0.m,s2.m] [f0.m,f2.m]=(10,0,1) by subst hs0 a3 hf0 a2;rw[hc];exact Ha];simp only[cX];refine Hz ?_;intros;rename_i e5;exact KX.d7 an (by simp only[iK];exact ae) ⟨by rw[aT (show([(1,0,2),(2,0,3)]:List Hd)[Int.toNat 1]!.2.2=3 from rfl)];rfl,rfl⟩
