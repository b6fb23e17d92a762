/- Lemmas. -/
import Derived.Test.YtommnllbflbdmaaGreatDoorAal
set_option linter.all false
set_option maxHeartbeats 2000000
namespace Go.Proofs.YtommnllbflbdmaaGreatDoor
section
open Go.V
attribute [local irreducible] G GO GP GPW GPK Ev Ef EfR Ent CB GB Enters
structure FlM where
 id:Int
 step:Int
 kind:Int
 tick:Int
 actor:Int
 frm:Int
 to:Int
 item:Int
 n:Int
 parts:LL
 made:List Int
 deriving Inhabited,DecidableEq
structure FlV where
 m:FlM
 pad:OA
 pcap:Nat
 mad:OA
 mcap:Nat
 deriving Inhabited
def bL(f:FlV):LV:=[ac f.m.id,ac f.m.step,ac f.m.kind,ac f.m.tick,ac f.m.actor,ac f.m.frm,ac f.m.to,ac f.m.item,ac f.m.n,ah f.pad f.m.parts.length f.pcap,ah f.mad f.m.made.length f.mcap]
def jf(t:FlV):∀u∈bL t,u.oneCell' = true:=by simp[bL,Value.oneCell']
instance:EncC bL:=⟨jf⟩
def flP(f:FlV):HP:=andP (isl aj 3 f.pad f.m.parts) (isl (encZ .i64) 1 f.mad f.m.made)
def kG(f:FlV):PersM (flP f):=(bN _ _ _ _).and (bN _ _ _ _)
def cC(s:StV):HP:=andP (stM s) (stP s)
def kQ(s:StV):PersM (cC s):=(oF s).and (cT iP)
structure LedM where
 shard:Int
 cat:CatM
 stk:Int→Int→LL
 tot:Int→Int
 steps:List StM
 flows:List FlM
 imp:Int→LL
 ret:Int→LL
structure LedX where
 cat:CatV
 ms:Nat
 mt:Nat
 mi:Nat
 mr:Nat
 stk:List ((Int×Int)×Stk)
 tot:List (Int×Int)
 imp:List (Int×Stk)
 ret:List (Int×Stk)
 steps:List StV
 sad:OA
 scap:Nat
 flows:List FlV
 fad:OA
 fcap:Nat
abbrev tLed:Nat:=126
abbrev be:Nat:=65
abbrev cz:Nat:=89
def eA{κ:Type}[DecidableEq κ](m:List (κ×Stk))(k:κ):Stk:=(glk m k).getD ⟨none,0,[]⟩
structure LedF (S:LedM) (x:LedX):Prop where
 cat:x.cat.m=S.cat
 catB:x.cat.B
 stk:∀a i,(eA x.stk (a,i)).lots=S.stk a i
 full:∀p∈x.stk,p.2.lots≠[]
 tot:∀i,(glk x.tot i).getD 0=S.tot i
 steps:x.steps.map StV.m=S.steps
 flows:x.flows.map (·.m)=S.flows
 imp:∀i,(eA x.imp i).lots=S.imp i
 ret:∀i,(eA x.ret i).lots=S.ret i
structure LedM.Ok (S:LedM):Prop where
 shard:0≤S.shard∧S.shard<12
 steps:S.steps.length≤65536
 flows:S.flows.length≤64*S.steps.length
 stk:∀a i,(S.stk a i).length≤4096∧∀l∈S.stk a i,LotOk l
 tot:∀i,-((S.flows.length:Int)*1099511627776)≤S.tot i∧S.tot i≤1099511627776
abbrev bJ(sh:Int)(x:LedX):LV:=[ac sh,ah x.cat.iad x.cat.items.length x.cat.icap,ah x.cat.rad x.cat.rules.length x.cat.rcap,ah x.cat.tad x.cat.tables.length x.cat.tcap,ah x.cat.xad x.cat.taxes.length x.cat.xcap,.map (some x.ms),.map (some x.mt),ah x.sad x.steps.length x.scap,ah x.fad x.flows.length x.fcap,.map (some x.mi),.map (some x.mr)]
abbrev ledL(b:Nat)(sh:Int)(x:LedX)(L:LH):LH :=
 obj b tLed (bJ sh x)::gmap kvP Stk.v x.ms x.stk::gmap kvI encN x.mt x.tot::asl aT 7 be x.sad x.scap x.steps::asl bL 11 cz x.fad x.fcap x.flows::gmap kvI Stk.v x.mi x.imp::gmap kvI Stk.v x.mr x.ret::catP x.cat::allP (fun p:(Int×Int)×Stk=>stkP p.2) x.stk::allP cC x.steps::allP flP x.flows::allP (fun p:Int×Stk=>stkP p.2) x.imp::allP (fun p:Int×Stk=>stkP p.2) x.ret::L
def ledA(b:Nat)(S:LedM)(x:LedX):LH:=dz (LedF S x)::ledL b S.shard x []
def LedR(b:Nat)(S:LedM):HP:=hex fun x=>cR (ledA b S x)
def jL{b:Nat}{S:LedM}{L:LH}(x:LedX)(h:LedF S x):Ent (ledL b S.shard x L) (LedR b S::L) :=
 Ent.j0 (f:=ledA b S) x (Ent.pure h (Ent.refl _))
def led0(sh:Int)(c:CatM):LedM:=⟨sh,c,fun _ _=>[],fun _=>0,[],[],fun _=>[],fun _=>[]⟩
def LedM.now(S:LedM):Int:=(S.steps.getLast?.map (·.tick)).getD 0
abbrev CQ:=ay7 [.ev 13]
def JJ{φ ψ:Prop}(k:ψ)(h:Hid ψ→φ:=by intro k;(repeat (first|refine aa ?_|intro zzz|refine G.dr 22 3 CQ ?_));(repeat revert zzz);exact Hid.out k):φ:=h ⟨k⟩
def vj{L R:LH}{b:Nat}{sh:Int}{x:LedX}[hp:PickObj L b tLed (bJ sh x) R][hr:Rds L x.sad StV aT 7 x.steps](hl:x.steps.length≤100000) :
  Tri ai 213 #[ax b] L (fun v L'=>v=ac ((x.steps.getLast?.map (·.tick)).getD 0)∧L' = L):=by
 refine Tri.bd ?_;by_cases h0:x.steps.length=0
 ·refine JJ ?_;intros;exact KX.d7 al (Ent.refl _) ⟨by rw[aX h0];rfl,rfl⟩
 ·refine JJ ?_;intros;refine KX.d7 al (Ent.refl _) ⟨?_,rfl⟩
  have e:x.steps.getLast? = some x.steps[((x.steps.length:Int) - 1).toNat]!:=by
   rw[show((x.steps.length:Int) - 1).toNat=x.steps.length - 1 by omega,List.getLast?_eq_getElem?,getElem!_of ab,List.getElem?_eq_getElem]
  rw[e];rfl
def IL{S:LedM}{x:LedX}(h:LedF S x):(x.steps.getLast?.map (·.tick)).getD 0=S.now:=by
 unfold LedM.now;rw[←h.steps,List.getLast?_map,Option.map_map];rfl
def accP(n:Int):Prop:=0≤n∧n≤1073741824
instance:DecidablePred accP:=fun n=>by unfold accP;infer_instance
def kl{L:LH}(n:Int):Tri ai 212 #[ac n] L (fun v L'=>v=.bool (dB (accP n))∧L' = L):=by
 refine Tri.bd ?_;by_cases h1:0≤n
 ·by_cases h2:n≤1073741824
  ·refine Jq ?_;intros;exact KX.d7 al (Ent.refl _) ⟨by rw[aS h2,aS (show accP n from⟨h1,h2⟩)];rfl,rfl⟩
  ·refine Jq ?_;intros;exact KX.d7 al (Ent.refl _) ⟨by rw[aG h2,aG (fun h:accP n=>h2 h.2)];rfl,rfl⟩
 ·refine Jq ?_;intros;exact KX.d7 al (Ent.refl _) ⟨by rw[aG (fun h:accP n=>h1 h.1)];rfl,rfl⟩
def Asks(f:FuncId)(p:Int→Bool):Prop:=∀(n:Int) (L:LH),Tri ai f #[ac n] L (fun v L'=>v=.bool (p n)∧L' = L)
def kg:Asks 255 (fun n=>dB (n=0)):=by
 intro n L;refine Tri.bd (args:=[ac n]) ?_;refine Jq ?_;intros;exact KX.en ⟨rfl,rfl⟩
def fg:Asks 256 (fun n=>dB (¬n=0)):=by
 intro n L;refine Tri.bd (args:=[ac n]) ?_;refine Jq ?_;intros;exact KX.en ⟨rfl,rfl⟩
def li:Asks 258 (fun _=>true):=by
 intro n L;refine Tri.bd (args:=[ac n]) ?_;refine Jq ?_;intros;exact KX.en ⟨rfl,rfl⟩
def iY(k:Nat)(fp tp:Int→Bool)(m:MvM):Bool :=
 dB ((0≤m.item∧m.item<k)∧(1≤m.n∧m.n≤1099511627776)∧accP m.frm∧accP m.to∧m.frm≠m.to∧fp m.frm=true∧tp m.to=true∧m.parts.length=0)
abbrev CP:=ay8 [.ev 17,.ev 18,.ev 19,.ev 20,.ev 21,.ev 22,.ev 23,.ev 24,.ev 25,.ev 26,.ef 27,.ev 28,.ev 29,.ev 30,.ev 31,.ev 32,.ef 33,.ev 34,.ev 35,.ev 36,.ev 37,.ev 38,.ev 39,.ev 40,.ev 41,.ev 42,.ev 43,.ev 44,.ev 45,.ev 46,.ev 47,.ef 48,.ev 49,.ev 50,.ev 51,.ev 52,.ev 53,.ev 54,.ev 55,.ef 56,.ev 57,.ev 58]
abbrev CO:List Stp:=[.ev 0,.ev 1,.ef 2,.ev 3,.ev 4,.ev 5,.ev 7,.ev 8,.ef 6,.ev 9,.ev 10,.ev 11,.ev 12,.ev 13,.ev 16,.ev 17,.ef 14,.ef 15,.ev 18,.ev 19,.ev 20]
def JL{φ ψ:Prop}(k:ψ)(h:Hid ψ→φ:=by intro k;(repeat (first|refine aa ?_|intro zzz|refine G.dr 93 1 CP ?_|refine G.dr 93 5 CO ?_));(repeat revert zzz);exact Hid.out k):φ:=h ⟨k⟩
def FT{L R:LH}{b:Nat}{sh:Int}{x:LedX}[hp:PickObj L b tLed (bJ sh x) R](ff tf wf:FuncId)(fp tp:Int→Bool)(hf:Asks ff fp)(ht:Asks tf tp)(m:MvV)(hl:x.cat.items.length≤64) :
  Tri ai 214 #[ax b,aN (aM m),.agg #[.func (.func ff) #[] #[],.func (.func tf) #[] #[],.bool false,.func (.func wf) #[] #[]]] L (fun v L'=>v=.bool (iY x.cat.items.length fp tp m.m)∧L' = L):=by
 obtain⟨⟨frm,to,item,n,parts⟩,pad,pcap⟩:=m;refine Tri.bd (args:=[ax b,aN (aM ⟨⟨frm,to,item,n,parts⟩,pad,pcap⟩),.agg #[.func (.func ff) #[] #[],.func (.func tf) #[] #[],.bool false,.func (.func wf) #[] #[]]]) ?_;by_cases h1:0≤item
 case neg =>
  refine JL ?_;intros;exact KX.d7 al ae ⟨by unfold iY;rw[aG (fun h=>h1 h.1.1)];rfl,rfl⟩
 by_cases h2:item<x.cat.items.length
 case neg =>
  refine JL ?_;intros;exact KX.d7 al ae ⟨by unfold iY;rw[aG (fun h=>h2 h.1.2)];rfl,rfl⟩
 by_cases h3:1≤n
 case neg =>
  refine JL ?_;intros;exact KX.d7 al ae ⟨by unfold iY;rw[aG (fun h=>h3 h.2.1.1)];rfl,rfl⟩
 by_cases h4:n≤1099511627776
 case neg =>
  refine JL ?_;intros;exact KX.d7 al ae ⟨by unfold iY;rw[aG (fun h=>h4 h.2.1.2)];rfl,rfl⟩
 refine JL ?_;intros;refine GPW.cr (kl frm) ?_;by_cases h5:accP frm
 case neg =>
  rw[aG h5];refine JL ?_;intros;exact KX.d7 al ae ⟨by unfold iY;rw[aG (fun h=>h5 h.2.2.1)];rfl,rfl⟩
 rw[aS h5];refine JL ?_;intros;refine GPW.cr (kl to) ?_;by_cases h6:accP to
 case neg =>
  rw[aG h6];refine JL ?_;intros;exact KX.d7 al ae ⟨by unfold iY;rw[aG (fun h=>h6 h.2.2.2.1)];rfl,rfl⟩
 rw[aS h6];by_cases h7:frm=to
 case pos =>
  refine JL ?_;intros;exact KX.d7 al ae ⟨by unfold iY;rw[aG (fun h=>h.2.2.2.2.1 h7)];rfl,rfl⟩
 refine JL ?_;intros;refine GPW.ef (Ef.d8 rfl rfl (hf frm _)) ag ?_;rintro _ _⟨rfl,rfl⟩;cases h8:fp frm with
 | false =>
  refine JL ?_;intros;exact KX.d7 al ae ⟨by unfold iY;rw[aG (fun h=>by have:=h.2.2.2.2.2.1;dsimp only at this;rw[h8] at this;cases this)];rfl,rfl⟩
 | true =>
  refine JL ?_;intros;refine GPW.ef (Ef.d8 rfl rfl (ht to _)) ag ?_;rintro _ _⟨rfl,rfl⟩;cases h9:tp to with
  | false =>
   refine JL ?_;intros;exact KX.d7 al ae ⟨by unfold iY;rw[aG (fun h=>by have:=h.2.2.2.2.2.2.1;dsimp only at this;rw[h9] at this;cases this)];rfl,rfl⟩
  | true =>
   refine JL ?_;intros;refine KX.d7 al ae ⟨?_,rfl⟩;unfold iY;by_cases a0:parts.length=0
   ·rw[aS (ab:((parts.length:Nat):Int)=0),aS ⟨⟨h1,h2⟩,⟨h3,h4⟩,h5,h6,h7,h8,h9,a0⟩];rfl
   ·rw[aG (ab:¬((parts.length:Nat):Int)=0),aG (fun h=>a0 h.2.2.2.2.2.2.2)];rfl
def pq{c:CatV}{L:LH}:Ent (catP c::L) (isl dE 7 c.iad c.items::catP c::L) :=
 (Ent.dup (mo c).pers).trans (Ent.andE.trans (Ent.d7 Ent.drop))
def catOpenR{c:CatV}{L:LH}:Ent (catP c::L) (isl cY 9 c.rad c.rules::allP ruP c.rules::catP c::L) :=
 (Ent.dup (mo c).pers).trans (Ent.andE.trans (Ent.drop.trans (Ent.andE.trans ((Ent.d7 Ent.drop).trans Ent.andE))))
def ruOpen{r:RuV}{L:LH}:Ent (ruP r::L) (amS r.take::amS r.give::amS r.back::L):=Ent.andE.trans (Ent.d7 Ent.andE)
def iz(n:Int):Prop:=1≤n∧n≤1048576
instance:DecidablePred iz:=fun n=>by unfold iz;infer_instance
def qm{L:LH}(n:Int):Tri ai 281 #[ac n] L (fun v L'=>v=.bool (dB (iz n))∧L' = L):=by
 refine Tri.bd ?_;by_cases h1:1≤n
 ·by_cases h2:n≤1048576
  ·refine Jq ?_;intros;exact KX.d7 al (Ent.refl _) ⟨by rw[aS h2,aS (show iz n from⟨h1,h2⟩)];rfl,rfl⟩
  ·refine Jq ?_;intros;exact KX.d7 al (Ent.refl _) ⟨by rw[aG h2,aG (fun h:iz n=>h2 h.2)];rfl,rfl⟩
 ·refine Jq ?_;intros;exact KX.d7 al (Ent.refl _) ⟨by rw[aG (fun h:iz n=>h1 h.1)];rfl,rfl⟩
def jD(rule times:Int):Prop:=rule = -1∧times=0
instance (a b:Int):Decidable (jD a b):=by unfold jD;infer_instance
def qn{L:LH}(b:Nat)(s:StV):Tri ai 257 #[ax b,aN (aT s)] L (fun v L'=>v=.bool (dB (jD s.rule s.times))∧L' = L):=by
 refine Tri.bd ?_;by_cases h1:s.rule = -1
 ·by_cases h2:s.times=0
  ·refine Jq ?_;intros;exact KX.d7 al ae ⟨by rw[aS h2,aS (show jD s.rule s.times from⟨h1,h2⟩)];rfl,rfl⟩
  ·refine Jq ?_;intros;exact KX.d7 al ae ⟨by rw[aG h2,aG (fun h:jD s.rule s.times=>h2 h.2)];rfl,rfl⟩
 ·refine Jq ?_;intros;exact KX.d7 al ae ⟨by rw[aG (fun h:jD s.rule s.times=>h1 h.1)];rfl,rfl⟩
def AmB(l:List (Int×Int)):Prop:=∀a∈l,0≤a.2∧a.2≤1099511627776
structure CatM.Ok (c:CatM):Prop where
 take:∀r∈c.rules,AmB r.take
 give:∀r∈c.rules,AmB r.give
 back:∀r∈c.rules,AmB r.back
def aR(rule:Int):Int:=if rule < -1 then -2 - rule else rule
def qt(r:RuM)(rule:Int):List (Int×Int):=if rule < -1 then r.back else r.give
def lk(ms:List MvM)(times:Int)(a:Int×Int)(m:MvM):Prop:=m.frm=ms[0]!.frm∧m.to=0∧m.item=a.1∧m.n=a.2*times
def ls(t0 times:Int)(a:Int×Int)(m:MvM):Prop:=m.frm=0∧m.to=t0∧m.item=a.1∧m.n=a.2*times
def fP(rules:List RuM)(rule times:Int)(ms:List MvM):Prop :=
 (0≤aR rule∧aR rule<rules.length)∧iz times∧rules[(aR rule).toNat]!.spawn=false∧¬(rule < -1∧rules[(aR rule).toNat]!.chance ≥ rules[(aR rule).toNat]!.of_) ∧
 ms.length=rules[(aR rule).toNat]!.take.length+(qt rules[(aR rule).toNat]! rule).length ∧
 (∀i:Nat,i<rules[(aR rule).toNat]!.take.length→lk ms times rules[(aR rule).toNat]!.take[i]! ms[i]!) ∧
 (∀i:Nat,i<(qt rules[(aR rule).toNat]! rule).length→ls (ms[rules[(aR rule).toNat]!.take.length]!).to times (qt rules[(aR rule).toNat]! rule)[i]! ms[rules[(aR rule).toNat]!.take.length+i]!)
noncomputable instance (a b c d):Decidable (fP a b c d):=Classical.propDecidable _
def RuV.given(r:RuV)(rule:Int):AmS:=if rule < -1 then r.back else r.give
def sA(r:RuV)(rule:Int):(r.given rule).l=qt r.m rule:=by unfold RuV.given qt;split<;>rfl
abbrev tRu:Nat:=79
instance:Inhabited MvM:=inferInstance
def jT(ms:List MvV){i:Nat}(h:i<ms.length):(ms.map MvV.m)[i]! = ms[i]!.m:=el _ h
abbrev CN:=ay4 [.ev 6]
abbrev zw:=ay8 [.ev 17,.ev 18,.ev 19,.ev 20,.ev 21,.ev 22,.ev 23,.ev 24,.ev 25,.ev 26,.ev 27,.ev 28,.ev 29]
abbrev zv:=ay8 [.ev 17,.ev 18,.ev 19,.ev 20,.ev 21,.ev 22,.ev 23,.ev 24,.ev 25,.ev 26,.ev 27,.ev 28]
def bD{φ ψ:Prop}(k:ψ)(h:Hid ψ→φ:=by intro k;(with_reducible apply G.d7);first|refine G.dr 171 1 CN (Hid.out k)|refine G.dr 171 16 zw (Hid.out k)|refine G.dr 171 24 zv (Hid.out k)):φ:=h ⟨k⟩
def JZ{φ ψ:Prop}(k:ψ)(h:Hid ψ→φ:=by intro k;(repeat (first|refine aa ?_|intro zzz|refine G.dr 171 1 CN ?_|refine G.dr 171 16 zw ?_|refine G.dr 171 24 zv ?_));(repeat revert zzz);exact Hid.out k):φ:=h ⟨k⟩
def qp{L R:LH}{b:Nat}{sh:Int}{x:LedX}[hp:PickObj L b tLed (bJ sh x) R](s:StV)[d5:Rds L s.mad MvV aM 5 s.moves](hc:x.cat.m.Ok)(hB:x.cat.B)(f1:s.moves.length≤64)(c1:s.moves.length≤s.mcap)(hI:I64 s.rule) :
  Tri ai 259 #[ax b,aN (aT s)] (catP x.cat::L) (fun v L'=>v=.bool (dB (fP x.cat.m.rules s.rule s.times (s.moves.map MvV.m)))∧L' = catP x.cat::L):=by
 obtain⟨f2,e5⟩:=hI;have f0:=hB.rules;have d3:x.cat.m.rules.length=x.cat.rules.length:=by simp[CatV.m]
 refine Tri.bd ?_;repeat first|((fail_if_success (with_reducible refine G.d9 2 ?_));(with_reducible apply G.seq))|refine bW ?_|intro _|refine bD ?_
 rename_i b3;refine G.d8 (α:=Unit) (fun _=>True) (fun _=>[(0,ax b),(3,ax b3),(4,.bool false),(5,ac (aR s.rule)),(6,.bool (dB (s.rule < -1)))]) (fun _=>obj b3 be (aT s)::catP x.cat::L) ?_ ?_
 ·by_cases hf:s.rule < -1
  ·refine JZ ?_;intros;refine⟨(),trivial,?_,by exact ae⟩;unfold aR;rw[if_pos hf];exact av
  ·refine JZ ?_;intros;refine⟨(),trivial,?_,by exact ae⟩;unfold aR;rw[if_neg hf];exact av
 rintro _ _;by_cases h1:0≤aR s.rule
 case neg =>
  refine JZ ?_;intros;exact KX.d7 al ae ⟨by rw[aG (fun h=>h1 h.1.1)];rfl,rfl⟩
 by_cases h2:aR s.rule<x.cat.rules.length
 case neg =>
  refine JZ ?_;intros;exact KX.d7 al ae ⟨by rw[aG (fun h=>h2 (by have:=h.1.2;omega))];rfl,rfl⟩
 refine JZ ?_;intros;refine GO.cr (qm s.times) ?_;by_cases h3:iz s.times
 case neg =>
  rw[aG h3];refine JZ ?_;intros;exact KX.d7 al ae ⟨by rw[aG (fun h=>h3 h.2.1)];rfl,rfl⟩
 rw[aS h3];have c3:(aR s.rule).toNat<x.cat.rules.length:=ab;have a1:x.cat.rules[(aR s.rule).toNat]!∈x.cat.rules:=aI c3;have a8 : x.cat.m.rules[(aR s.rule).toNat]! = x.cat.rules[(aR s.rule).toNat]!.m:=el RuV.m c3;have b5:x.cat.rules[(aR s.rule).toNat]!.m∈x.cat.m.rules:=alStd0List_mem_map_of_mem a1;refine GO.ent (Ent.at (A:=catP x.cat) catOpenR) ?_;refine GO.ent (Ent.at (A:=allP ruP x.cat.rules) ((Ent.e7 (f:=ruP) a1).trans ruOpen)) ?_;have e0:=hB.ru _ a1;have c4:=hc.take _ b5;have c7:=hc.give _ b5;have d2:=hc.back _ b5
 have a5:fP x.cat.m.rules s.rule s.times (s.moves.map MvV.m)↔(x.cat.rules[(aR s.rule).toNat]!.spawn=false∧¬(s.rule < -1∧x.cat.rules[(aR s.rule).toNat]!.chance ≥ x.cat.rules[(aR s.rule).toNat]!.of_)∧s.moves.length=x.cat.rules[(aR s.rule).toNat]!.take.l.length+(x.cat.rules[(aR s.rule).toNat]!.given s.rule).l.length ∧
   (∀i:Nat,i<x.cat.rules[(aR s.rule).toNat]!.take.l.length→lk (s.moves.map MvV.m) s.times x.cat.rules[(aR s.rule).toNat]!.take.l[i]! (s.moves.map MvV.m)[i]!) ∧
   (∀i:Nat,i<(x.cat.rules[(aR s.rule).toNat]!.given s.rule).l.length→ls ((s.moves.map MvV.m)[x.cat.rules[(aR s.rule).toNat]!.take.l.length]!).to s.times (x.cat.rules[(aR s.rule).toNat]!.given s.rule).l[i]! (s.moves.map MvV.m)[x.cat.rules[(aR s.rule).toNat]!.take.l.length+i]!)):=by
  unfold fP;rw[a8,sA,aA];exact⟨fun h=>h.2.2,fun h=>⟨⟨h1,ab⟩,h3,h⟩⟩
 obtain⟨f5,d0⟩:=h3;obtain⟨e6,e2,d6⟩:=e0;simp only[AmB,RuV.m] at c4 c7 d2;have e4:(x.cat.rules[(aR s.rule).toNat]!.given s.rule).l.length≤64:=by unfold RuV.given;split<;>assumption
 have d4:∀a∈(x.cat.rules[(aR s.rule).toNat]!.given s.rule).l,0≤a.2∧a.2≤1099511627776:=by unfold RuV.given;split<;>assumption
 refine GO.ent (L':=amS (x.cat.rules[(aR s.rule).toNat]!.given s.rule)::amS x.cat.rules[(aR s.rule).toNat]!.take::isl cY 9 x.cat.rad x.cat.rules::catP x.cat::obj b3 be (aT s)::L) ?_ ?_
 ·unfold RuV.given;split
  ·exact ae
  ·exact ae
 repeat first|((fail_if_success (with_reducible refine G.d9 8 ?_));(with_reducible apply G.seq))|refine bW ?_|intro _|refine bD ?_
 rename_i b7;have c9:∀h:s.rule < -1,x.cat.rules[(aR s.rule).toNat]!.given s.rule=x.cat.rules[(aR s.rule).toNat]!.back:=fun h=>if_pos h;have c6:∀h:¬s.rule < -1,x.cat.rules[(aR s.rule).toNat]!.given s.rule=x.cat.rules[(aR s.rule).toNat]!.give:=fun h=>if_neg h;clear a8 a1 b5 c7 d2 e2 d6 c3;generalize x.cat.rules[(aR s.rule).toNat]! = r at *;generalize r.given s.rule=gv at *;refine G.d8 (α:=Unit) (fun _=>True) (fun _=>[(0,ax b),(3,ax b3),(4,.bool false),(6,.bool (dB (s.rule < -1))),(7,ax b7),(8,ah gv.ad gv.l.length gv.cap)]) (fun _=>obj b7 tRu (cY r)::obj b3 be (aT s)::amS gv::amS r.take::catP x.cat::L) ?_ ?_
 ·by_cases hf:s.rule < -1
  ·rw[c9 hf];refine JZ ?_;intros;exact⟨(),trivial,av,by exact ae⟩
  ·rw[c6 hf];refine JZ ?_;intros;exact⟨(),trivial,av,by exact ae⟩
 rintro _ _;clear c9 c6;cases h4:r.spawn with
 | true =>
  refine JZ ?_;intros;rw[h4];refine JZ ?_;intros;exact KX.d7 al ae ⟨by rw[aG (fun h=>by have:=(a5.1 h).1;rw[h4] at this;cases this)];rfl,rfl⟩
 | false =>
 by_cases h5:s.rule < -1∧r.chance ≥ r.of_
 case pos =>
  obtain⟨b1,b8⟩:=h5;refine JZ ?_;intros;rw[h4];refine JZ ?_;intros;exact KX.d7 al ae ⟨by rw[aG (fun h=>(a5.1 h).2.1 ⟨b1,b8⟩)];rfl,rfl⟩
 by_cases h6:s.moves.length=r.take.l.length+gv.l.length
 case neg =>
  by_cases b1:s.rule < -1
  ·have b8:¬r.chance ≥ r.of_:=fun h=>h5 ⟨b1,h⟩;refine JZ ?_;intros;rw[h4];refine JZ ?_;intros;exact KX.d7 al ae ⟨by rw[aG (fun h=>h6 (a5.1 h).2.2.1)];rfl,rfl⟩
  ·refine JZ ?_;intros;rw[h4];refine JZ ?_;intros;exact KX.d7 al ae ⟨by rw[aG (fun h=>h6 (a5.1 h).2.2.1)];rfl,rfl⟩
 refine G.d8 (α:=Unit) (fun _=>True) (fun _=>[(0,ax b),(3,ax b3),(4,.bool false),(7,ax b7),(8,ah gv.ad gv.l.length gv.cap)]) (fun _=>obj b7 tRu (cY r)::obj b3 be (aT s)::amS gv::amS r.take::catP x.cat::L) ?_ ?_
 ·by_cases b1:s.rule < -1
  ·have b8:¬r.chance ≥ r.of_:=fun h=>h5 ⟨b1,h⟩;refine JZ ?_;intros;rw[h4];refine JZ ?_;intros;exact⟨(),trivial,av,by exact ae⟩
  ·refine JZ ?_;intros;rw[h4];refine JZ ?_;intros;exact⟨(),trivial,av,by exact ae⟩
 rintro _ _;have f3:r.take.l.length≤s.moves.length:=ab;have e3:(s.moves.map MvV.m)[0]! = (s.moves.map MvV.m)[(0:Int).toNat]!:=rfl;refine JZ ?_;intros;refine G.loop (α:=Nat) (fun i=>i≤r.take.l.length∧∀j:Nat,j<i→lk (s.moves.map MvV.m) s.times r.take.l[j]! (s.moves.map MvV.m)[j]!) (fun i=>[(0,ax b),(3,ax b3),(4,.bool false),(7,ax b7),(8,ah gv.ad gv.l.length gv.cap),(81,ah r.take.ad r.take.l.length r.take.cap),(82,ac (r.take.l.length:Int)),(83,ac (i:Int))]) (fun _=>obj b7 tRu (cY r)::obj b3 be (aT s)::amS gv::amS r.take::catP x.cat::L) (fun i=>r.take.l.length - i) 0 ⟨aw _,fun j h=>absurd h ab⟩ av (Ent.refl _) ?_;rintro i ⟨hi,d1⟩;by_cases c8:i<r.take.l.length
 case neg =>
  have b6:i=r.take.l.length:=ab;subst b6;haveI hrd:=Rds.drop d5 c1 r.take.l.length
  have e1:(s.moves.drop r.take.l.length).length=gv.l.length:=by rw[dQ];omega
  have b4:∀j:Nat,j<gv.l.length→(s.moves.map MvV.m)[r.take.l.length+j]! = (s.moves.drop r.take.l.length)[j]!.m:=by
   intro j hj;rw[jT _ ab,getElem!_of (ab:j<(s.moves.drop r.take.l.length).length),getElem!_of (ab:r.take.l.length+j<s.moves.length),List.getElem_drop]
  refine JZ ?_;intros;rw[aC,show s.moves.length - r.take.l.length=(s.moves.drop r.take.l.length).length by simp];generalize advA s.mad s.mcap 5 r.take.l.length=ad2 at hrd ⊢;generalize hq:s.moves.drop r.take.l.length=ms2 at hrd e1 b4 ⊢;generalize s.mcap - r.take.l.length=cap2;refine G.loop (α:=Nat) (fun i=>i≤gv.l.length∧∀j:Nat,j<i→ls ms2[0]!.m.to s.times gv.l[j]! ms2[j]!.m) (fun i=>[(0,ax b),(3,ax b3),(4,.bool false),(7,ax b7),(12,ah ad2 ms2.length cap2),(130,ah gv.ad gv.l.length gv.cap),(131,ac (gv.l.length:Int)),(132,ac (i:Int))]) (fun _=>obj b7 tRu (cY r)::obj b3 be (aT s)::amS gv::amS r.take::catP x.cat::L) (fun i=>gv.l.length - i) 0 ⟨aw _,fun j h=>absurd h ab⟩ av (Ent.refl _) ?_;rintro i ⟨hi,b2⟩;by_cases a3:i<gv.l.length
  case neg =>
   have b6:i=gv.l.length:=ab;subst b6
   have b9:fP x.cat.m.rules s.rule s.times (s.moves.map MvV.m):=by
    refine a5.2 ⟨h4,h5,h6,d1,fun j hj=>?_⟩;rw[b4 j hj,show r.take.l.length=r.take.l.length+0 from rfl,b4 0 ab];exact b2 j hj
   refine JZ ?_;intros;exact KX.d7 al ae ⟨by rw[aS b9];rfl,rfl⟩
  have a0:(i:Int).toNat=i:=ab;obtain⟨a9,b0⟩:=d4 _ (aI a3);have a7:0≤gv.l[i]!.2*s.times∧gv.l[i]!.2*s.times≤1099511627776*1048576:=⟨dI a9 ab,fH b0 d0 ab ab⟩;rw[show gv.l[i]! = gv.l[(i:Int).toNat]! by rw[a0]] at a7 a9 b0;obtain⟨c0,c2⟩:=a7
  have a2:¬ls ms2[0]!.m.to s.times gv.l[i]! ms2[i]!.m→dB (fP x.cat.m.rules s.rule s.times (s.moves.map MvV.m))=false:=fun h=>aG (fun h'=>h (by
   have h2:=(a5.1 h').2.2.2.2 i a3;rw[b4 i a3] at h2;have h3:=b4 0 ab;rw[Nat.add_zero] at h3;rw[h3] at h2;exact h2))
  by_cases h7:ms2[(i:Int).toNat]!.m.frm=0
  case neg =>
   refine JZ ?_;intros;exact KX.d7 al ae ⟨by rw[a2 (fun h=>h7 (by have:=h.1;rw[a0];exact this))];rfl,rfl⟩
  by_cases h8:ms2[(i:Int).toNat]!.m.to=ms2[(0:Int).toNat]!.m.to
  case neg =>
   refine JZ ?_;intros;exact KX.d7 al ae ⟨by rw[a2 (fun h=>h8 (by have:=h.2.1;rw[a0];exact this))];rfl,rfl⟩
  by_cases h9:ms2[(i:Int).toNat]!.m.item=gv.l[(i:Int).toNat]!.1
  case neg =>
   refine JZ ?_;intros;exact KX.d7 al ae ⟨by rw[a2 (fun h=>h9 (by have:=h.2.2.1;rw[a0];exact this))];rfl,rfl⟩
  by_cases a4:ms2[(i:Int).toNat]!.m.n=gv.l[(i:Int).toNat]!.2*s.times
  case neg =>
   refine JZ ?_;intros;exact KX.d7 al ae ⟨by rw[a2 (fun h=>a4 (by have:=h.2.2.2;rw[a0];exact this))];rfl,rfl⟩
  refine JZ ?_;intros;refine⟨i+1,⟨ab,?_⟩,ab,?_,by exact ae⟩
  ·intro j hj;rcases cc j i with h|h
   ·exact b2 j h
   ·obtain rfl:j=i:=ab;rw[a0] at h7 h8 h9 a4;exact⟨h7,h8,h9,a4⟩
  ·rw[aV i];exact av
 have a0:(i:Int).toNat=i:=ab;have a6:(s.moves.map MvV.m)[i]! = s.moves[(i:Int).toNat]!.m:=by rw[jT _ ab,a0]
 have c5:(s.moves.map MvV.m)[0]! = s.moves[(0:Int).toNat]!.m:=jT _ ab;obtain⟨a9,b0⟩:=c4 _ (aI c8);have a7:0≤r.take.l[i]!.2*s.times∧r.take.l[i]!.2*s.times≤1099511627776*1048576:=⟨dI a9 ab,fH b0 d0 ab ab⟩;rw[show r.take.l[i]! = r.take.l[(i:Int).toNat]! by rw[a0]] at a7 a9 b0;obtain⟨c0,c2⟩:=a7;have a2:¬lk (s.moves.map MvV.m) s.times r.take.l[i]! (s.moves.map MvV.m)[i]!→dB (fP x.cat.m.rules s.rule s.times (s.moves.map MvV.m))=false:=fun h=>aG (fun h'=>h ((a5.1 h').2.2.2.1 i c8));have f4:(s.moves.map MvV.m).length=s.moves.length:=aA ..;by_cases h7:s.moves[(i:Int).toNat]!.m.frm=s.moves[(0:Int).toNat]!.m.frm
 case neg =>
  refine JZ ?_;intros;exact KX.d7 al ae ⟨by rw[a2 (fun h=>h7 (by have:=h.1;rw[a6,c5] at this;exact this))];rfl,rfl⟩
 by_cases h8:s.moves[(i:Int).toNat]!.m.to=0
 case neg =>
  refine JZ ?_;intros;exact KX.d7 al ae ⟨by rw[a2 (fun h=>h8 (by have:=h.2.1;rw[a6] at this;exact this))];rfl,rfl⟩
 by_cases h9:s.moves[(i:Int).toNat]!.m.item=r.take.l[(i:Int).toNat]!.1
 case neg =>
  refine JZ ?_;intros;exact KX.d7 al ae ⟨by rw[a2 (fun h=>h9 (by have:=h.2.2.1;rw[a6] at this;rw[a0] at this ⊢;exact this))];rfl,rfl⟩
 by_cases a4:s.moves[(i:Int).toNat]!.m.n=r.take.l[(i:Int).toNat]!.2*s.times
 case neg =>
  refine JZ ?_;intros;exact KX.d7 al ae ⟨by rw[a2 (fun h=>a4 (by have:=h.2.2.2;rw[a6] at this;rw[a0] at this ⊢;exact this))];rfl,rfl⟩
 refine JZ ?_;intros;refine⟨i+1,⟨ab,?_⟩,ab,?_,by exact ae⟩
 ·intro j hj;rcases cc j i with h|h
  ·exact d1 j h
  ·obtain rfl:j=i:=ab;rw[a6];rw[a0] at h7 h8 h9 a4 ⊢;exact⟨by rw[c5];exact h7,h8,h9,a4⟩
 ·rw[aV i];exact av
