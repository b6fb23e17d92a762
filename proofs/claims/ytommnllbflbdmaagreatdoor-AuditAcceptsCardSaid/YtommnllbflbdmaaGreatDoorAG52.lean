/- The law of package audit: nothing is found in what a ledger has posted (AuditAccepts). -/
import Derived.Test.YtommnllbflbdmaaGreatDoorAci
set_option linter.all false
set_option maxHeartbeats 16000000
namespace Go.Proofs.YtommnllbflbdmaaGreatDoor
open Go.V
def HZ(s:StV)(L:LH):Ent (stO s::L) (cC s::L):=Ent.unstars2.trans (Ent.freezeSl.trans (Ent.e9 (bN _ _ _ _) (cT iP)))
def Iv(f:FlV)(L:LH):Ent (flO f::L) (flP f::L):=Ent.unstars2.trans (Ent.freezeSl.trans (Ent.swap.trans (Ent.freezeSl.trans (Ent.swap.trans (Ent.e9 (bN _ _ _ _) (bN _ _ _ _))))))
def rT(ss:List StV){L:LH}:Ent (bigO stO ss::L) (allP cC ss::L):=Ent.l7 kQ HZ ss L
def Hm(fs:List FlV){L:LH}:Ent (bigO flO fs::L) (allP flP fs::L):=Ent.l7 kG Iv fs L
def so{α β:Type}{f:α→β}{xs ys:List α}(e:ys.map f=xs.map f){y:α}(h:y∈ys):∃x∈xs,f x=f y:=by
 have h1:f y∈xs.map f:=by rw[←e];exact alStd0List_mem_map_of_mem h
 obtain⟨x,hx,q⟩:=List.mem_map.1 h1;exact⟨x,hx,q⟩
def Gk{xs ss:List StV}(h:AudS xs)(e:ss.map StV.m=xs.map StV.m)(hc:∀s∈ss,stC s):AudS ss:=by
 have hl:=congrArg List.length e;rw[aA,aA] at hl;refine⟨by rw[hl];exact h.len,fun s hs=>?_,by rw[e];exact h.k,fun a i=>by rw[e];exact h.l a i⟩;obtain⟨u,hu,q⟩:=so e hs;obtain⟨hi,_⟩:=h.inp u hu;have hm:u.moves.map MvV.m=s.moves.map MvV.m:=congrArg StM.moves q;have a0:=congrArg List.length hm;rw[aA,aA] at a0;have hr:u.rule=s.rule:=congrArg StM.rule q;refine⟨⟨by have:=hi.len;omega,hr▸hi.rule,fun m hq=>?_,fun m hq=>(hc s hs).2 m hq,fun m hq=>?_⟩,(hc s hs).1⟩
 ·obtain⟨m',h1,h2⟩:=so hm.symm hq;rw[←h2];exact hi.parts m' h1
 ·obtain⟨m',h1,h2⟩:=so hm.symm hq;rw[←h2];exact hi.bd m' h1
def AccL.inv{S S' : LedM}{s:StM}{ss:List StM}(h:AccL S (s::ss) S'):(gTry S s).1=0∧s.id=aO S∧AccL (cS S s) ss S':=by
 cases h with
 | cons h1 h2 h3=>exact⟨h1,h2,h3⟩
def AccL.end{S S' : LedM}(h:AccL S [] S'):S=S':=by cases h;rfl
attribute [local irreducible] G GO GP GPW GPK GF GE Ev Ef EfR Ent CB GB V.Enters
abbrev DC:=ay4 [.ev 6,.ef 7,.ef 8,.ev 9,.ev 10,.ev 11,.ev 12,.ev 13]
abbrev DB:=ay4 [.ev 6,.ef 7,.ef 8,.ev 9,.ev 10,.ev 11,.ev 12,.ev 13]
abbrev DA:=ay4 [.ev 7,.ev 10,.ef 6,.ef 8,.ef 9,.ev 11,.ev 12,.ev 13,.ev 14,.ev 15,.ev 16,.ev 17,.ev 18,.ev 19,.ev 20,.ev 21,.ev 22,.ev 23,.ev 24,.ev 25,.ev 26,.ev 27,.ev 28,.ev 29,.ev 30]
abbrev Dz:=ay4 [.ef 6,.ev 7]
def aw3{φ ψ:Prop}(k:ψ)(h:Hid ψ→φ:=by intro k;(repeat (first|refine aa ?_|intro zzz|refine G.dr 136 12 DC ?_|refine G.dr 136 13 DB ?_|refine G.dr 136 14 DA ?_|refine G.dr 136 19 Dz ?_));(repeat revert zzz);exact Hid.out k):φ:=h ⟨k⟩
def rn{L:LH}(ad:OA)(n c:Nat)(xs:List Int)[j8:Rds L ad Int (encZ .i64) 1 xs](hn:n=xs.length)(hm:n≤9223372036854775807)(hx:∀x∈xs,I64 x)(shard:Int)(g6:I64 shard) :
  Tri ai 5 #[ah ad n c,ac shard] (cA::L) (fun v L'=>v=.bool true∧L' = L):=by
 refine Tri.bd ?_;refine aw3 ?_;intros;refine GO.ca (Es shard 12 g6 ag ag) ?_;rintro _ _⟨p,rfl,⟨b8,b9⟩,rfl⟩;refine aw3 ?_;intros;refine GO.ca (Cs p ⟨b8,b9⟩ ad n c xs hn hx 14 ag) ?_;rintro _ _⟨b,S,x,rfl,hg,rfl⟩;obtain⟨e1,e2,e3,e4⟩:=hg.lens;have e5:=hg.steps;obtain⟨k4,j4⟩:=hg.flB ag;have c4:x.cat.m=cat16:=hg.rf.cat.trans hg.cat;have h7:CatGood x.cat.m:=c4▸cat16_good;have i3:x.cat.m.Ok:=c4▸pt;have f2:x.cat.B:=hg.rf.catB;have b7:AudS x.steps:=hg.audS ag;have b4:=hg.rep.acc;have c8:S.steps=x.steps.map StV.m:=hg.rf.steps.symm;have j6:stK S.steps≤2000:=by rw[c8];exact b7.k
 simp only[rlL,aL];refine aw3 ?_;intros;refine GO.ent (L':=catP x.cat::cA::(obj b tRL (aL p x)::osl aT 7 be x.tad x.tcap x.steps::allP cC x.steps::catP x.cat::L)) ((Ent.at (A:=catP x.cat) (Ent.dup (mo x.cat).pers)).trans (by simp only[aL];exact ae)) ?_;refine GO.ca (DL p x.cat ⟨b8,b9⟩ f2 h7) ?_;rintro _ _⟨lb,rfl,rfl⟩;rw[c4];simp only[aL];refine aw3 ?_;intros;refine G.loop (α:=Nat×LedM×Nat) (fun g=>g.1≤x.steps.length∧AccL g.2.1 (S.steps.drop g.1) S∧LedA g.2.2 g.2.1∧g.2.2+stK (S.steps.drop g.1)≤2000∧0≤g.2.1.now∧g.2.1.cat=cat16) (fun g=>[(5,ac p),(6,ax b),(7,ax lb),(9,ac (g.1:Int))]) (fun g=>rh lb g.2.1::obj b tRL (aL p x)::osl aT 7 be x.tad x.tcap x.steps::allP cC x.steps::catP x.cat::cA::L) (fun g=>x.steps.length - g.1) (0,led0 p cat16,0) ⟨aw _,b4,tL ⟨b8,b9⟩ cat16,by dsimp only;rw[List.drop_zero];omega,bg _,rfl⟩ av (by simp only[aL];exact ae) ?_;rintro⟨i,T,k⟩ ⟨hi,hT,c7,f3,e0,d5⟩;dsimp only at hi hT c7 f3 e0 d5 ⊢;simp only[aL];by_cases d2:i<x.steps.length
 case pos =>
  have d6:(i:Int).toNat=i:=ab;have c1 : (i:Int).toNat<x.steps.length:=ab;have j5:i<S.steps.length:=ab;have i0:S.steps[i]! = x.steps[(i:Int).toNat]!.m:=by rw[c8,el StV.m d2,d6]
  have i2:S.steps.drop i=x.steps[(i:Int).toNat]!.m::S.steps.drop (i+1):=by rw[←i0];exact eZ j5
  rw[i2] at hT f3;obtain⟨a1,a2,a3⟩:=hT.inv;have k2:stK (x.steps[(i:Int).toNat]!.m::S.steps.drop (i+1))=mvK x.steps[(i:Int).toNat]!.m.moves+stK (S.steps.drop (i+1)):=rfl;have f9:=hg.st _ (aI c1);have i5:=kZ a1;have c9:=vu i5 e0;have j3:cS T x.steps[(i:Int).toNat]!.m=gt T x.steps[(i:Int).toNat]!.m:=if_pos a1;have d4:=(rb (s:=x.steps[(i:Int).toNat]!.m) c7 ab).1;have f4:=fun M:LH=>Cz (L:=M) lb T k c7 (d5▸pt) e0 x.steps[(i:Int).toNat]! f9.inp f9.cap ab we;have i8:(cS T x.steps[(i:Int).toNat]!.m).cat=cat16:=(nw _ _).trans d5;have e6:=fun M:LH=>pR (L:=M) c1;generalize hse:x.steps[(i:Int).toNat]! = s at *;rw[a1] at f4;refine aw3 ?_;intros;rw[hse];refine GO.ent (L':=rh lb T::stM s::stP s::(obj b tRL (aL p x)::osl aT 7 be x.tad x.tcap x.steps::allP cC x.steps::catP x.cat::cA::L)) ((Ent.at (A:=allP cC x.steps) (e6 _)).trans (by simp only[aL];exact ae)) ?_;refine GO.cr (f4 _) ?_;simp only[aL];refine aw3 ?_;intros;refine⟨(i+1,cS T s.m,k+mvK s.m.moves),⟨by dsimp only;omega,a3,d4,by dsimp only;omega,by dsimp only;rw[j3];exact c9,i8⟩,by dsimp only;omega,?_,by simp only[aL];exact ae⟩;dsimp only;rw[aV i];exact av
 obtain rfl:i=x.steps.length:=ab;rw[bC ab] at hT;have g5:=hT.end;subst g5;obtain⟨b6,t5,f5,q1,q2,a6⟩:=BU (n:=5) b4 (tL ⟨b8,b9⟩ cat16) ab rfl (GY p cat16) (GZ p cat16 5);refine G.e7 (f:=qY lb T) ?_;intro y;simp only[qY,ledL,ao,an];refine G.e8 ?_;intro hF;refine G.ent (L':=LedR lb (T.asX y)::obj b tRL (aL p x)::catP x.cat::cA::L) (Ent.trans (B:=ledL lb T.shard y (obj b tRL (aL p x)::catP x.cat::cA::L)) (by simp only[ledL,aL];exact ae) (jL (S:=T.asX y) y hF.toF)) ?_;have g1:(T.asX y).steps=T.steps:=rfl;have g2:(T.asX y).flows=T.flows:=rfl;have g3:(T.asX y).tot=T.tot:=rfl;have g4:(T.asX y).stk=T.stk:=rfl;have c2:=c7.g.ok ab;have i6:(T.asX y).Ok:=⟨c2.shard,c2.steps,c2.flows,c2.stk,c2.tot⟩;generalize T.asX y=U at *
 have f0:(x.cat.items.length:Int)=5:=by
  have h1:x.cat.m.items.length=x.cat.items.length:=by simp[CatV.m]
  rw[←h1,c4];rfl
 have a9:∀s∈U.steps,s.moves.length≤64∧∀u∈s.moves,u.parts.length≤1000000:=fun s hs=>by
  rw[g1,c8] at hs;obtain⟨u,hu,rfl⟩:=List.mem_map.1 hs;have k3:u.m.moves.length=u.moves.length:=aA _;rcases (hg.st u hu).form with⟨w1,w2⟩|⟨w1,w2⟩
  ·refine⟨ab,fun m hm=>?_⟩;obtain⟨v,hv,rfl⟩:=List.mem_map.1 (show m∈u.moves.map MvV.m from hm);have:=w2 v hv
   omega
  ·refine⟨ab,fun m hm=>?_⟩;obtain⟨v,hv,rfl⟩:=List.mem_map.1 (show m∈u.moves.map MvV.m from hm);rw[w2 v hv];decide
 have c6:∀f∈U.flows,f.parts.length≤1000000∧f.made.length≤1000000:=fun f hf=>by
  rw[g2,←hg.rf.flows] at hf;obtain⟨u,hu,rfl⟩:=List.mem_map.1 hf;have:=j4 u hu
  omega
 have k1:U.steps.length≤17:=by rw[g1];exact e5
 have j7:U.flows.length≤6400:=by rw[g2];omega
 have j1:∀ss:List StV,ss.map StV.m=U.steps→(∀s∈ss,stC s)→AudS ss:=fun ss h hc=>Gk b7 (by rw[h,g1,c8]) hc;have f1:∀ss:List StV,ss.map StV.m=U.steps→fD ss=mvsM T.steps:=fun ss h=>by rw[vf,h,g1]
 have i9:∀ss:List StV,ss.map StV.m=U.steps→resT 5 ss=(0,t5):=fun ss h=>by
  unfold resT;rw[if_neg ag,f1 ss h,show totF 5 (mvsM T.steps) (List.replicate (Int.toNat 5) 0)=(0,t5) from q1];exact if_pos rfl
 have i1:∀ss:List StV,ss.map StV.m=U.steps→resH 5 ss=(0,f5):=fun ss h=>by
  unfold resH;rw[if_neg ag,f1 ss h];exact q2
 have c3:∀ss:List StV,ss.map StV.m=U.steps→(ss.length≤17∧(∀s∈ss,s.moves.length≤64))∧(fD ss).length≤64*ss.length:=fun ss h=>by
  have hl:=congrArg List.length h;rw[aA] at hl
  have h2:∀s∈ss,s.moves.length≤64:=fun s hs=>by
   have h3:=(a9 s.m (by rw[←h];exact alStd0List_mem_map_of_mem hs)).1;have h4:s.m.moves.length=s.moves.length:=aA _;omega
  exact⟨⟨ab,h2⟩,qh h2⟩
 have hL:∀(sad:OA) (scap:Nat) (ss:List StV) (fad:OA) (fcap:Nat) (fs:List FlV),ss.map StV.m=U.steps→(∀s∈ss,stC s)→fs.map FlV.m=U.flows→fs.length≤fcap→∀M:LH,Tri ai 14 #[ac p,aN x.cat.cells,ah sad ss.length scap,ah fad fs.length fcap] (catP x.cat::allP cC ss::isl aT 7 sad ss::allP flP fs::isl bL 11 fad fs::M) (fun v L'=>v=aN (gA (0,0,0))∧L' = allP cC ss::isl aT 7 sad ss::allP flP fs::isl bL 11 fad fs::M):=by
  intro sad scap ss fad fcap fs h1 h2 h3 h4 M;have i7:=congrArg List.length h3;rw[aA] at i7
  have h9:AudFl fs:=⟨ab,fun f hf=>by
   have:=c6 f.m (by rw[←h3];exact alStd0List_mem_map_of_mem hf)
   omega⟩
  have h5:=pH (L:=allP cC ss::isl aT 7 sad ss::allP flP fs::isl bL 11 fad fs::M) p x.cat f2 i3 sad ss.length scap ss rfl (j1 ss h1 h2) (fun s hs=>Ent.e7 (f:=cC) hs) fad fs.length fcap fs rfl h9 h4 (fun f hf=>(Ent.at (A:=allP flP fs) (Ent.e7 (f:=flP) hf)).trans ae)
  have h6:audF p x.cat.m (ss.map StV.m) (fs.map FlV.m)=(0,0,0):=by
   rw[h1,h3,g1,g2,c4];unfold audF;rw[if_pos ⟨b8,b9⟩];exact yK b4
  rw[h6] at h5;exact h5
 simp only[aL];refine aw3 ?_;intros;rw[f0];refine GPW.ca (nJ lb U a9 ab) ?_;rintro _ _⟨sad,scap,ss,rfl,⟨f6,k6⟩,rfl⟩;obtain⟨⟨m1,m2⟩,m3⟩:=c3 ss f6;refine aw3 ?_;intros;refine GPW.ent (L':=allP cC ss::isl aT 7 sad ss::(LedR lb U::obj b tRL (aL p x)::catP x.cat::cA::L)) ((Ent.at (A:=bigO stO ss) (rT ss)).trans ((Ent.at (A:=osl aT 7 be sad scap ss) Ent.freezeSl).trans (by simp only[aL];exact ae))) ?_;refine GPW.ca (pB 5 sad ss.length scap ss rfl ab (fun s hs=>by have:=m2 s hs;omega)) ?_;rintro _ _⟨tad,tcap,rfl,rfl⟩;rw[i9 ss f6];dsimp only;simp only[aL];refine aw3 ?_;intros;rw[f0];refine GPW.ent (L':=LedR lb U::osl (encZ .i64) 1 tInt tad tcap t5::obj b tRL (aL p x)::catP x.cat::cA::L) (by simp only[aL];exact ae) ?_;refine GPW.ca (nJ lb U a9 ab) ?_;rintro _ _⟨b3,b0,a8,rfl,⟨c5,h8⟩,rfl⟩;obtain⟨⟨n1,n2⟩,n3⟩:=c3 a8 c5;refine aw3 ?_;intros;refine GPW.ent (L':=allP cC a8::isl aT 7 b3 a8::(LedR lb U::osl (encZ .i64) 1 tInt tad tcap t5::obj b tRL (aL p x)::catP x.cat::cA::L)) ((Ent.at (A:=bigO stO a8) (rT a8)).trans ((Ent.at (A:=osl aT 7 be b3 b0 a8) Ent.freezeSl).trans (by simp only[aL];exact ae))) ?_;refine GPW.ca (nu 5 b3 a8.length b0 a8 rfl ab ab) ?_;rintro _ _⟨b5,a4,hs,rfl,⟨i4,hh⟩,rfl⟩;rw[i1 a8 c5] at hh ⊢;rw[if_pos rfl] at hh;dsimp only at hh ⊢;simp only[aL];refine aw3 ?_;intros;refine GPW.ent (L':=LedR lb U::osl (encZ .i64) 1 tInt tad tcap t5::osl fj 3 tHd b5 a4 hs::obj b tRL (aL p x)::catP x.cat::cA::L) (by simp only[aL];exact ae) ?_;refine GPW.ca (nJ lb U a9 ab) ?_;rintro _ _⟨a7,a5,b1,rfl,⟨d1,d3⟩,rfl⟩;refine aw3 ?_;intros;refine GPW.ent (L':=LedR lb U::osl aT 7 be a7 a5 b1::bigO stO b1::osl (encZ .i64) 1 tInt tad tcap t5::osl fj 3 tHd b5 a4 hs::obj b tRL (aL p x)::catP x.cat::cA::L) (by simp only[aL];exact ae) ?_;refine GPW.ca (rI lb U c6 ab) ?_;rintro _ _⟨fad,fcap,fs,rfl,j2,rfl⟩;refine aw3 ?_;intros;refine GPW.fct (iq (ad:=fad) (cap:=fcap) (xs:=fs) (enc:=bL) (sz:=11) (E:=cz)) ?_;rintro⟨h0,_⟩;refine GPW.ent (L':=catP x.cat::allP cC b1::isl aT 7 a7 b1::allP flP fs::isl bL 11 fad fs::(LedR lb U::osl (encZ .i64) 1 tInt tad tcap t5::osl fj 3 tHd b5 a4 hs::obj b tRL (aL p x)::cA::L)) ?_ ?_
 ·refine(Ent.at (A:=bigO stO b1) (rT b1)).trans ?_;refine(Ent.at (A:=osl aT 7 be a7 a5 b1) Ent.freezeSl).trans ?_;refine(Ent.at (A:=bigO flO fs) (Hm fs)).trans ?_;refine(Ent.at (A:=osl bL 11 cz fad fcap fs) Ent.freezeSl).trans ?_;simp only[aL];exact ae
 refine GPW.cr (hL a7 a5 b1 fad fcap fs d1 d3 j2 h0 _) ?_;simp only[gA,aL];have k5:(t5.length:Int)=x.cat.items.length:=by rw[a6.len];exact f0.symm
 refine aw3 ?_;intros;refine G.loop (α:=Nat) (fun i=>i≤t5.length) (fun i=>[(7,ax lb),(12,ah tad t5.length tcap),(14,ah b5 hs.length a4),(16,ac (i:Int))]) (fun _=>LedR lb U::osl (encZ .i64) 1 tInt tad tcap t5::osl fj 3 tHd b5 a4 hs::cA::L) (fun i=>t5.length - i) 0 (aw _) av ae ?_;intro i hi;by_cases d2:i<t5.length
 case pos =>
  have d6:(i:Int).toNat=i:=ab;have j9:t5[(i:Int).toNat]! = U.tot (i:Int):=by rw[d6,g3];exact a6.t i (by rw[←a6.len];exact d2)
  refine aw3 ?_;intros;refine GPW.cr (EN lb U (i:Int)) ?_;refine aw3 ?_;intros;refine⟨i+1,ab,ab,?_,by exact ae⟩;rw[aV i];exact av
 refine aw3 ?_;intros;refine GO.ca (vZ lb U i6 (by rw[g4,g2];exact b6.src) ab) ?_;rintro _ _⟨d0,c0,b2,rfl,⟨g0,_⟩,rfl⟩
 obtain rfl:b2=hs:=g0.unique hh (fun a i=>by
  rw[a6.f];unfold balF;rw[g4];by_cases a0:a=0
  ·rw[if_pos a0,a0,b6.wld];rfl
  ·rw[if_neg a0])
 refine aw3 ?_;intros;refine GO.cr (zb b5 d0 b2.length b2.length a4 c0 b2 b2 rfl rfl ab) ?_;rw[aS (rfl:b2=b2)];refine aw3 ?_;intros;refine GO.ent (L':=cA::L) ae ?_;refine GO.cr (xR) ?_;refine aw3 ?_;intros;exact KX.en ⟨rfl,rfl⟩
