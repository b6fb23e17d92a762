/- Lemmas. -/
import Derived.Test.YtommnllbflbdmaaGreatDoorIal
set_option linter.all false
set_option maxHeartbeats 2000000
namespace Go.Proofs.YtommnllbflbdmaaGreatDoor
section
open Go.V
attribute [local irreducible] G GO GP GPW GPK Ev Ef EfR Ent CB GB Enters
structure FlM where
 id:Int
 step:Int
 kind:Int
 tick:Int
 actor:Int
 frm:Int
 to:Int
 item:Int
 n:Int
 parts:LL
 made:List Int
 deriving Inhabited,DecidableEq
structure FlV where
 m:FlM
 pad:OA
 pcap:Nat
 mad:OA
 mcap:Nat
 deriving Inhabited
def aM(f:FlV):LV:=[ac f.m.id,ac f.m.step,ac f.m.kind,ac f.m.tick,ac f.m.actor,ac f.m.frm,ac f.m.to,ac f.m.item,ac f.m.n,.slice f.pad f.m.parts.length f.pcap,.slice f.mad f.m.made.length f.mcap]
def jf(t:FlV):∀u∈aM t,u.oneCell' = true:=by simp[aM,Value.oneCell']
instance:EncC aM:=⟨jf⟩
def flP(f:FlV):HP:=andP (isl ao 3 f.pad f.m.parts) (isl (encZ .i64) 1 f.mad f.m.made)
def lw(f:FlV):PersM (flP f):=(bQ _ _ _ _).and (bQ _ _ _ _)
def bK(s:StV):HP:=andP (stM s) (stP s)
def ky(s:StV):PersM (bK s):=(nZ s).and (cB iI)
structure LedM where
 shard:Int
 cat:CatM
 stk:Int→Int→LL
 tot:Int→Int
 steps:List StM
 flows:List FlM
 imp:Int→LL
 ret:Int→LL
structure LedX where
 cat:CatV
 ms:Nat
 mt:Nat
 mi:Nat
 mr:Nat
 stk:List ((Int×Int)×Stk)
 tot:List (Int×Int)
 imp:List (Int×Stk)
 ret:List (Int×Stk)
 steps:List StV
 sad:OA
 scap:Nat
 flows:List FlV
 fad:OA
 fcap:Nat
abbrev tLed:Nat:=126
abbrev bB:Nat:=65
abbrev bY:Nat:=89
def fW{κ:Type}[DecidableEq κ](m:List (κ×Stk))(k:κ):Stk:=(glk m k).getD ⟨none,0,[]⟩
structure LedF (S:LedM) (x:LedX):Prop where
 cat:x.cat.m=S.cat
 catB:x.cat.B
 stk:∀a i,(fW x.stk (a,i)).lots=S.stk a i
 full:∀p∈x.stk,p.2.lots≠[]
 tot:∀i,(glk x.tot i).getD 0=S.tot i
 steps:x.steps.map StV.m=S.steps
 flows:x.flows.map (·.m)=S.flows
 imp:∀i,(fW x.imp i).lots=S.imp i
 ret:∀i,(fW x.ret i).lots=S.ret i
structure LedM.Ok (S:LedM):Prop where
 shard:0≤S.shard∧S.shard<12
 steps:S.steps.length≤65536
 flows:S.flows.length≤64*S.steps.length
 stk:∀a i,(S.stk a i).length≤4096∧∀l∈S.stk a i,LotOk l
 tot:∀i,-((S.flows.length:Int)*1099511627776)≤S.tot i∧S.tot i≤1099511627776
abbrev fw(sh:Int)(x:LedX):LV:=[ac sh,.slice x.cat.iad x.cat.items.length x.cat.icap,.slice x.cat.rad x.cat.rules.length x.cat.rcap,.slice x.cat.tad x.cat.tables.length x.cat.tcap,.slice x.cat.xad x.cat.taxes.length x.cat.xcap,.map (some x.ms),.map (some x.mt),.slice x.sad x.steps.length x.scap,.slice x.fad x.flows.length x.fcap,.map (some x.mi),.map (some x.mr)]
abbrev ledL(b:Nat)(sh:Int)(x:LedX)(L:LH):LH :=
 obj b tLed (fw sh x)::gmap kvP Stk.v x.ms x.stk::gmap kvI encN x.mt x.tot::asl aL 7 bB x.sad x.scap x.steps::asl aM 11 bY x.fad x.fcap x.flows::gmap kvI Stk.v x.mi x.imp::gmap kvI Stk.v x.mr x.ret::catP x.cat::allP (fun p:(Int×Int)×Stk=>stkP p.2) x.stk::allP bK x.steps::allP flP x.flows::allP (fun p:Int×Stk=>stkP p.2) x.imp::allP (fun p:Int×Stk=>stkP p.2) x.ret::L
def ledA(b:Nat)(S:LedM)(x:LedX):LH:=dv (LedF S x)::ledL b S.shard x []
def LedR(b:Nat)(S:LedM):HP:=hex fun x=>cM (ledA b S x)
def mE{b:Nat}{S:LedM}{L:LH}(x:LedX)(h:LedF S x):Ent (ledL b S.shard x L) (LedR b S::L) :=
 Ent.l7 (f:=ledA b S) x (Ent.pure h (Ent.refl _))
def led0(sh:Int)(c:CatM):LedM:=⟨sh,c,fun _ _=>[],fun _=>0,[],[],fun _=>[],fun _=>[]⟩
def LedM.now(S:LedM):Int:=(S.steps.getLast?.map (·.tick)).getD 0
abbrev Bl:List Stp:=[.ev 0,.ev 1,.ev 2,.ev 3,.ev 4,.ev 5,.ev 6,.ev 7,.ev 8,.ev 9,.ev 10,.ev 11,.ev 12,.ev 13]
def HS{φ ψ:Prop}(k:ψ)(h:Hid ψ→φ:=by intro k;(repeat (first|refine aa ?_|intro zzz|((with_reducible apply G.d8);first|refine G.d7 (N:=22) (id:=3) Bl mixed aw ?_)));(repeat revert zzz);exact Hid.out k):φ:=h ⟨k⟩
def Dw{L R:LH}{b:Nat}{sh:Int}{x:LedX}[hp:PickObj L b tLed (fw sh x) R][hr:Rds L x.sad StV aL 7 x.steps](hl:x.steps.length≤100000) :
  Tri ag 213 #[av b] L (fun v L'=>v=ac ((x.steps.getLast?.map (·.tick)).getD 0)∧L' = L):=by
 refine Tri.bd ?_;by_cases h0:x.steps.length=0
 ·refine HS ?_;intros;exact KX.d7 an (Ent.refl _) ⟨by rw[aW h0];rfl,rfl⟩
 ·refine HS ?_;intros;refine KX.d7 an (Ent.refl _) ⟨?_,rfl⟩
  have e:x.steps.getLast? = some x.steps[((x.steps.length:Int) - 1).toNat]!:=by
   rw[show((x.steps.length:Int) - 1).toNat=x.steps.length - 1 by omega,List.getLast?_eq_getElem?,getElem!_of ab,List.getElem?_eq_getElem]
  rw[e];rfl
def GK{S:LedM}{x:LedX}(h:LedF S x):(x.steps.getLast?.map (·.tick)).getD 0=S.now:=by
 unfold LedM.now;rw[←h.steps,List.getLast?_map,Option.map_map];rfl
def accP(n:Int):Prop:=0≤n∧n≤1073741824
instance:DecidablePred accP:=fun n=>by unfold accP;infer_instance
def oE{L:LH}(n:Int):Tri ag 212 #[ac n] L (fun v L'=>v=.bool (dB (accP n))∧L' = L):=by
 refine Tri.bd ?_;by_cases h1:0≤n
 ·by_cases h2:n≤1073741824
  ·refine Hz ?_;intros;exact KX.d7 an (Ent.refl _) ⟨by rw[aT h2,aT (show accP n from⟨h1,h2⟩)];rfl,rfl⟩
  ·refine Hz ?_;intros;exact KX.d7 an (Ent.refl _) ⟨by rw[aH h2,aH (fun h:accP n=>h2 h.2)];rfl,rfl⟩
 ·refine Hz ?_;intros;exact KX.d7 an (Ent.refl _) ⟨by rw[aH (fun h:accP n=>h1 h.1)];rfl,rfl⟩
def Asks(f:FuncId)(p:Int→Bool):Prop:=∀(n:Int) (L:LH),Tri ag f #[ac n] L (fun v L'=>v=.bool (p n)∧L' = L)
def pY:Asks 255 (fun n=>dB (n=0)):=by
 intro n L;refine Tri.bd (args:=[ac n]) ?_;refine Hz ?_;intros;exact KX.en ⟨rfl,rfl⟩
def iM:Asks 256 (fun n=>dB (¬n=0)):=by
 intro n L;refine Tri.bd (args:=[ac n]) ?_;refine Hz ?_;intros;exact KX.en ⟨rfl,rfl⟩
def Ar:Asks 258 (fun _=>true):=by
 intro n L;refine Tri.bd (args:=[ac n]) ?_;refine Hz ?_;intros;exact KX.en ⟨rfl,rfl⟩
def iH(k:Nat)(fp tp:Int→Bool)(m:MvM):Bool :=
 dB ((0≤m.item∧m.item<k)∧(1≤m.n∧m.n≤1099511627776)∧accP m.frm∧accP m.to∧m.frm≠m.to∧fp m.frm=true∧tp m.to=true∧m.parts.length=0)
abbrev Bk:List Stp:=[.ev 0,.ev 1,.ev 2,.ev 3,.ev 4,.ev 5,.ev 6,.ev 7,.ev 8,.ev 9,.ev 10,.ev 11,.ev 12,.ev 13,.ev 14,.ev 15,.ev 16,.ev 17,.ev 18,.ev 19,.ev 20,.ev 21,.ev 22,.ev 23,.ev 24,.ev 25,.ev 26,.ef 27,.ev 28,.ev 29,.ev 30,.ev 31,.ev 32,.ef 33,.ev 34,.ev 35,.ev 36,.ev 37,.ev 38,.ev 39,.ev 40,.ev 41,.ev 42,.ev 43,.ev 44,.ev 45,.ev 46,.ev 47,.ef 48,.ev 49,.ev 50,.ev 51,.ev 52,.ev 53,.ev 54,.ev 55,.ef 56,.ev 57,.ev 58]
abbrev Bj:List Stp:=[.ev 0,.ev 1,.ef 2,.ev 3,.ev 4,.ev 5,.ev 7,.ev 8,.ef 6,.ev 9,.ev 10,.ev 11,.ev 12,.ev 13,.ev 16,.ev 17,.ef 14,.ef 15,.ev 18,.ev 19,.ev 20]
def HU{φ ψ:Prop}(k:ψ)(h:Hid ψ→φ:=by intro k;(repeat (first|refine aa ?_|intro zzz|((with_reducible apply G.d8);first|refine G.d7 (N:=93) (id:=1) Bk mixed aw ?_|refine G.d7 (N:=93) (id:=5) Bj mixed aw ?_)));(repeat revert zzz);exact Hid.out k):φ:=h ⟨k⟩
def DU{L R:LH}{b:Nat}{sh:Int}{x:LedX}[hp:PickObj L b tLed (fw sh x) R](ff tf wf:FuncId)(fp tp:Int→Bool)(hf:Asks ff fp)(ht:Asks tf tp)(m:MvV)(hl:x.cat.items.length≤64) :
  Tri ag 214 #[av b,.agg (aQ m).toArray,.agg #[.func (.func ff) #[] #[],.func (.func tf) #[] #[],.bool false,.func (.func wf) #[] #[]]] L (fun v L'=>v=.bool (iH x.cat.items.length fp tp m.m)∧L' = L):=by
 obtain⟨⟨frm,to,item,n,parts⟩,pad,pcap⟩:=m;refine Tri.bd (args:=[av b,.agg (aQ ⟨⟨frm,to,item,n,parts⟩,pad,pcap⟩).toArray,.agg #[.func (.func ff) #[] #[],.func (.func tf) #[] #[],.bool false,.func (.func wf) #[] #[]]]) ?_;by_cases h1:0≤item
 case neg =>
  refine HU ?_;intros;exact KX.d7 an ae ⟨by unfold iH;rw[aH (fun h=>h1 h.1.1)];rfl,rfl⟩
 by_cases h2:item<x.cat.items.length
 case neg =>
  refine HU ?_;intros;exact KX.d7 an ae ⟨by unfold iH;rw[aH (fun h=>h2 h.1.2)];rfl,rfl⟩
 by_cases h3:1≤n
 case neg =>
  refine HU ?_;intros;exact KX.d7 an ae ⟨by unfold iH;rw[aH (fun h=>h3 h.2.1.1)];rfl,rfl⟩
 by_cases h4:n≤1099511627776
 case neg =>
  refine HU ?_;intros;exact KX.d7 an ae ⟨by unfold iH;rw[aH (fun h=>h4 h.2.1.2)];rfl,rfl⟩
 refine HU ?_;intros;refine GPW.cr (oE frm) ?_;by_cases h5:accP frm
 case neg =>
  rw[aH h5];refine HU ?_;intros;exact KX.d7 an ae ⟨by unfold iH;rw[aH (fun h=>h5 h.2.2.1)];rfl,rfl⟩
 rw[aT h5];refine HU ?_;intros;refine GPW.cr (oE to) ?_;by_cases h6:accP to
 case neg =>
  rw[aH h6];refine HU ?_;intros;exact KX.d7 an ae ⟨by unfold iH;rw[aH (fun h=>h6 h.2.2.2.1)];rfl,rfl⟩
 rw[aT h6];by_cases h7:frm=to
 case pos =>
  refine HU ?_;intros;exact KX.d7 an ae ⟨by unfold iH;rw[aH (fun h=>h.2.2.2.2.1 h7)];rfl,rfl⟩
 refine HU ?_;intros;refine GPW.ef (Ef.d8 rfl rfl (hf frm _)) ah ?_;rintro _ _⟨rfl,rfl⟩;cases h8:fp frm with
 | false =>
  refine HU ?_;intros;exact KX.d7 an ae ⟨by unfold iH;rw[aH (fun h=>by have:=h.2.2.2.2.2.1;dsimp only at this;rw[h8] at this;cases this)];rfl,rfl⟩
 | true =>
  refine HU ?_;intros;refine GPW.ef (Ef.d8 rfl rfl (ht to _)) ah ?_;rintro _ _⟨rfl,rfl⟩;cases h9:tp to with
  | false =>
   refine HU ?_;intros;exact KX.d7 an ae ⟨by unfold iH;rw[aH (fun h=>by have:=h.2.2.2.2.2.2.1;dsimp only at this;rw[h9] at this;cases this)];rfl,rfl⟩
  | true =>
   refine HU ?_;intros;refine KX.d7 an ae ⟨?_,rfl⟩;unfold iH;by_cases a0:parts.length=0
   ·rw[aT (show((parts.length:Nat):Int)=0 by omega),aT ⟨⟨h1,h2⟩,⟨h3,h4⟩,h5,h6,h7,h8,h9,a0⟩];rfl
   ·rw[aH (show ¬((parts.length:Nat):Int)=0 by omega),aH (fun h=>a0 h.2.2.2.2.2.2.2)];rfl
def rA{c:CatV}{L:LH}:Ent (catP c::L) (isl bU 7 c.iad c.items::catP c::L) :=
 (Ent.dup (gQ c).pers).trans (Ent.andE.trans (Ent.d7 Ent.drop))
def catOpenR{c:CatV}{L:LH}:Ent (catP c::L) (isl bR 9 c.rad c.rules::allP ruP c.rules::catP c::L) :=
 (Ent.dup (gQ c).pers).trans (Ent.andE.trans (Ent.drop.trans (Ent.andE.trans ((Ent.d7 Ent.drop).trans Ent.andE))))
def ruOpen{r:RuV}{L:LH}:Ent (ruP r::L) (amS r.take::amS r.give::amS r.back::L):=Ent.andE.trans (Ent.d7 Ent.andE)
def iy(n:Int):Prop:=1≤n∧n≤1048576
instance:DecidablePred iy:=fun n=>by unfold iy;infer_instance
def wK{L:LH}(n:Int):Tri ag 281 #[ac n] L (fun v L'=>v=.bool (dB (iy n))∧L' = L):=by
 refine Tri.bd ?_;by_cases h1:1≤n
 ·by_cases h2:n≤1048576
  ·refine Hz ?_;intros;exact KX.d7 an (Ent.refl _) ⟨by rw[aT h2,aT (show iy n from⟨h1,h2⟩)];rfl,rfl⟩
  ·refine Hz ?_;intros;exact KX.d7 an (Ent.refl _) ⟨by rw[aH h2,aH (fun h:iy n=>h2 h.2)];rfl,rfl⟩
 ·refine Hz ?_;intros;exact KX.d7 an (Ent.refl _) ⟨by rw[aH (fun h:iy n=>h1 h.1)];rfl,rfl⟩
def jZ(rule times:Int):Prop:=rule = -1∧times=0
instance (a b:Int):Decidable (jZ a b):=by unfold jZ;infer_instance
def wL{L:LH}(b:Nat)(s:StV):Tri ag 257 #[av b,.agg (aL s).toArray] L (fun v L'=>v=.bool (dB (jZ s.rule s.times))∧L' = L):=by
 refine Tri.bd ?_;by_cases h1:s.rule = -1
 ·by_cases h2:s.times=0
  ·refine Hz ?_;intros;exact KX.d7 an ae ⟨by rw[aT h2,aT (show jZ s.rule s.times from⟨h1,h2⟩)];rfl,rfl⟩
  ·refine Hz ?_;intros;exact KX.d7 an ae ⟨by rw[aH h2,aH (fun h:jZ s.rule s.times=>h2 h.2)];rfl,rfl⟩
 ·refine Hz ?_;intros;exact KX.d7 an ae ⟨by rw[aH (fun h:jZ s.rule s.times=>h1 h.1)];rfl,rfl⟩
def AmB(l:List (Int×Int)):Prop:=∀a∈l,0≤a.2∧a.2≤1099511627776
structure CatM.Ok (c:CatM):Prop where
 take:∀r∈c.rules,AmB r.take
 give:∀r∈c.rules,AmB r.give
 back:∀r∈c.rules,AmB r.back
def aO(rule:Int):Int:=if rule < -1 then -2 - rule else rule
def pE(r:RuM)(rule:Int):List (Int×Int):=if rule < -1 then r.back else r.give
def kN(ms:List MvM)(times:Int)(a:Int×Int)(m:MvM):Prop:=m.frm=ms[0]!.frm∧m.to=0∧m.item=a.1∧m.n=a.2*times
def kS(t0 times:Int)(a:Int×Int)(m:MvM):Prop:=m.frm=0∧m.to=t0∧m.item=a.1∧m.n=a.2*times
def fC(rules:List RuM)(rule times:Int)(ms:List MvM):Prop :=
 (0≤aO rule∧aO rule<rules.length)∧iy times∧rules[(aO rule).toNat]!.spawn=false∧¬(rule < -1∧rules[(aO rule).toNat]!.chance ≥ rules[(aO rule).toNat]!.of_) ∧
 ms.length=rules[(aO rule).toNat]!.take.length+(pE rules[(aO rule).toNat]! rule).length ∧
 (∀i:Nat,i<rules[(aO rule).toNat]!.take.length→kN ms times rules[(aO rule).toNat]!.take[i]! ms[i]!) ∧
 (∀i:Nat,i<(pE rules[(aO rule).toNat]! rule).length→kS (ms[rules[(aO rule).toNat]!.take.length]!).to times (pE rules[(aO rule).toNat]! rule)[i]! ms[rules[(aO rule).toNat]!.take.length+i]!)
noncomputable instance (a b c d):Decidable (fC a b c d):=Classical.propDecidable _
def RuV.given(r:RuV)(rule:Int):AmS:=if rule < -1 then r.back else r.give
def rp(r:RuV)(rule:Int):(r.given rule).l=pE r.m rule:=by unfold RuV.given pE;split<;>rfl
abbrev tRu:Nat:=79
instance:Inhabited MvM:=inferInstance
def jw(ms:List MvV){i:Nat}(h:i<ms.length):(ms.map MvV.m)[i]! = ms[i]!.m:=dP _ h
abbrev Bi:List Stp:=[.ev 0,.ev 1,.ev 2,.ev 3,.ev 4,.ev 5,.ev 6]
abbrev yh:List Stp:=[.ev 0,.ev 1,.ev 2,.ev 3,.ev 4,.ev 5,.ev 6,.ev 7,.ev 8,.ev 9,.ev 10,.ev 11,.ev 12,.ev 13,.ev 14,.ev 15,.ev 16,.ev 17,.ev 18,.ev 19,.ev 20,.ev 21,.ev 22,.ev 23,.ev 24,.ev 25,.ev 26,.ev 27,.ev 28,.ev 29]
abbrev yg:List Stp:=[.ev 0,.ev 1,.ev 2,.ev 3,.ev 4,.ev 5,.ev 6,.ev 7,.ev 8,.ev 9,.ev 10,.ev 11,.ev 12,.ev 13,.ev 14,.ev 15,.ev 16,.ev 17,.ev 18,.ev 19,.ev 20,.ev 21,.ev 22,.ev 23,.ev 24,.ev 25,.ev 26,.ev 27,.ev 28]
def bC{φ ψ:Prop}(k:ψ)(h:Hid ψ→φ:=by intro k;(with_reducible apply G.d8);first|refine G.d7 (N:=171) (id:=1) Bi mixed aw (Hid.out k)|refine G.d7 (N:=171) (id:=16) yh mixed aw (Hid.out k)|refine G.d7 (N:=171) (id:=24) yg mixed aw (Hid.out k)):φ:=h ⟨k⟩
def Ii{φ ψ:Prop}(k:ψ)(h:Hid ψ→φ:=by intro k;(repeat (first|refine aa ?_|intro zzz|((with_reducible apply G.d8);first|refine G.d7 (N:=171) (id:=1) Bi mixed aw ?_|refine G.d7 (N:=171) (id:=16) yh mixed aw ?_|refine G.d7 (N:=171) (id:=24) yg mixed aw ?_)));(repeat revert zzz);exact Hid.out k):φ:=h ⟨k⟩
def wM{L R:LH}{b:Nat}{sh:Int}{x:LedX}[hp:PickObj L b tLed (fw sh x) R](s:StV)[d3:Rds L s.mad MvV aQ 5 s.moves](hc:x.cat.m.Ok)(hB:x.cat.B)(f3:s.moves.length≤64)(c2:s.moves.length≤s.mcap)(hI:I64 s.rule) :
  Tri ag 259 #[av b,.agg (aL s).toArray] (catP x.cat::L) (fun v L'=>v=.bool (dB (fC x.cat.m.rules s.rule s.times (s.moves.map MvV.m)))∧L' = catP x.cat::L):=by
 obtain⟨e4,f0⟩:=hI;have f1:=hB.rules;have e2:x.cat.m.rules.length=x.cat.rules.length:=by simp[CatV.m]
 refine Tri.bd ?_;repeat first|((fail_if_success (with_reducible refine G.e7 2 ?_));(with_reducible apply G.seq))|refine bA ?_|intro _|refine bC ?_
 rename_i b3;refine G.d9 (α:=Unit) (fun _=>True) (fun _=>[(0,av b),(3,av b3),(4,.bool false),(5,ac (aO s.rule)),(6,.bool (dB (s.rule < -1)))]) (fun _=>obj b3 bB (aL s)::catP x.cat::L) ?_ ?_
 ·by_cases hf:s.rule < -1
  ·refine Ii ?_;intros;refine⟨(),trivial,?_,by exact ae⟩;unfold aO;rw[if_pos hf];exact ai
  ·refine Ii ?_;intros;refine⟨(),trivial,?_,by exact ae⟩;unfold aO;rw[if_neg hf];exact ai
 rintro _ _;by_cases h1:0≤aO s.rule
 case neg =>
  refine Ii ?_;intros;exact KX.d7 an ae ⟨by rw[aH (fun h=>h1 h.1.1)];rfl,rfl⟩
 by_cases h2:aO s.rule<x.cat.rules.length
 case neg =>
  refine Ii ?_;intros;exact KX.d7 an ae ⟨by rw[aH (fun h=>h2 (by have:=h.1.2;omega))];rfl,rfl⟩
 refine Ii ?_;intros;refine GO.cr (wK s.times) ?_;by_cases h3:iy s.times
 case neg =>
  rw[aH h3];refine Ii ?_;intros;exact KX.d7 an ae ⟨by rw[aH (fun h=>h3 h.2.1)];rfl,rfl⟩
 rw[aT h3];have b9:(aO s.rule).toNat<x.cat.rules.length:=ab;have a1:x.cat.rules[(aO s.rule).toNat]!∈x.cat.rules:=aG b9;have a9 : x.cat.m.rules[(aO s.rule).toNat]! = x.cat.rules[(aO s.rule).toNat]!.m:=dP RuV.m b9;have b5:x.cat.rules[(aO s.rule).toNat]!.m∈x.cat.m.rules:=alStd0List_mem_map_of_mem a1;refine GO.ent (Ent.at (A:=catP x.cat) catOpenR) ?_;refine GO.ent (Ent.at (A:=allP ruP x.cat.rules) ((Ent.d8 (f:=ruP) a1).trans ruOpen)) ?_;have d5:=hB.ru _ a1;have c8:=hc.take _ b5;have c9:=hc.give _ b5;have d1:=hc.back _ b5
 have a5:fC x.cat.m.rules s.rule s.times (s.moves.map MvV.m)↔(x.cat.rules[(aO s.rule).toNat]!.spawn=false∧¬(s.rule < -1∧x.cat.rules[(aO s.rule).toNat]!.chance ≥ x.cat.rules[(aO s.rule).toNat]!.of_)∧s.moves.length=x.cat.rules[(aO s.rule).toNat]!.take.l.length+(x.cat.rules[(aO s.rule).toNat]!.given s.rule).l.length ∧
   (∀i:Nat,i<x.cat.rules[(aO s.rule).toNat]!.take.l.length→kN (s.moves.map MvV.m) s.times x.cat.rules[(aO s.rule).toNat]!.take.l[i]! (s.moves.map MvV.m)[i]!) ∧
   (∀i:Nat,i<(x.cat.rules[(aO s.rule).toNat]!.given s.rule).l.length→kS ((s.moves.map MvV.m)[x.cat.rules[(aO s.rule).toNat]!.take.l.length]!).to s.times (x.cat.rules[(aO s.rule).toNat]!.given s.rule).l[i]! (s.moves.map MvV.m)[x.cat.rules[(aO s.rule).toNat]!.take.l.length+i]!)):=by
  unfold fC;rw[a9,rp,aA];exact⟨fun h=>h.2.2,fun h=>⟨⟨h1,ab⟩,h3,h⟩⟩
 obtain⟨f4,c6⟩:=h3;obtain⟨e6,d6,e1⟩:=d5;simp only[AmB,RuV.m] at c8 c9 d1;have f2:(x.cat.rules[(aO s.rule).toNat]!.given s.rule).l.length≤64:=by unfold RuV.given;split<;>assumption
 have e0:∀a∈(x.cat.rules[(aO s.rule).toNat]!.given s.rule).l,0≤a.2∧a.2≤1099511627776:=by unfold RuV.given;split<;>assumption
 refine GO.ent (L':=amS (x.cat.rules[(aO s.rule).toNat]!.given s.rule)::amS x.cat.rules[(aO s.rule).toNat]!.take::isl bR 9 x.cat.rad x.cat.rules::catP x.cat::obj b3 bB (aL s)::L) ?_ ?_
 ·unfold RuV.given;split
  ·exact ae
  ·exact ae
 repeat first|((fail_if_success (with_reducible refine G.e7 8 ?_));(with_reducible apply G.seq))|refine bA ?_|intro _|refine bC ?_
 rename_i b7;have c4:∀h:s.rule < -1,x.cat.rules[(aO s.rule).toNat]!.given s.rule=x.cat.rules[(aO s.rule).toNat]!.back:=fun h=>if_pos h;have d0:∀h:¬s.rule < -1,x.cat.rules[(aO s.rule).toNat]!.given s.rule=x.cat.rules[(aO s.rule).toNat]!.give:=fun h=>if_neg h;clear a9 a1 b5 c9 d1 d6 e1 b9;generalize x.cat.rules[(aO s.rule).toNat]! = r at *;generalize r.given s.rule=gv at *;refine G.d9 (α:=Unit) (fun _=>True) (fun _=>[(0,av b),(3,av b3),(4,.bool false),(6,.bool (dB (s.rule < -1))),(7,av b7),(8,.slice gv.ad gv.l.length gv.cap)]) (fun _=>obj b7 tRu (bR r)::obj b3 bB (aL s)::amS gv::amS r.take::catP x.cat::L) ?_ ?_
 ·by_cases hf:s.rule < -1
  ·rw[c4 hf];refine Ii ?_;intros;exact⟨(),trivial,ai,by exact ae⟩
  ·rw[d0 hf];refine Ii ?_;intros;exact⟨(),trivial,ai,by exact ae⟩
 rintro _ _;clear c4 d0;cases h4:r.spawn with
 | true =>
  refine Ii ?_;intros;rw[h4];refine Ii ?_;intros;exact KX.d7 an ae ⟨by rw[aH (fun h=>by have:=(a5.1 h).1;rw[h4] at this;cases this)];rfl,rfl⟩
 | false =>
 by_cases h5:s.rule < -1∧r.chance ≥ r.of_
 case pos =>
  obtain⟨a6,c0⟩:=h5;refine Ii ?_;intros;rw[h4];refine Ii ?_;intros;exact KX.d7 an ae ⟨by rw[aH (fun h=>(a5.1 h).2.1 ⟨a6,c0⟩)];rfl,rfl⟩
 by_cases h6:s.moves.length=r.take.l.length+gv.l.length
 case neg =>
  by_cases a6:s.rule < -1
  ·have c0:¬r.chance ≥ r.of_:=fun h=>h5 ⟨a6,h⟩;refine Ii ?_;intros;rw[h4];refine Ii ?_;intros;exact KX.d7 an ae ⟨by rw[aH (fun h=>h6 (a5.1 h).2.2.1)];rfl,rfl⟩
  ·refine Ii ?_;intros;rw[h4];refine Ii ?_;intros;exact KX.d7 an ae ⟨by rw[aH (fun h=>h6 (a5.1 h).2.2.1)];rfl,rfl⟩
 refine G.d9 (α:=Unit) (fun _=>True) (fun _=>[(0,av b),(3,av b3),(4,.bool false),(7,av b7),(8,.slice gv.ad gv.l.length gv.cap)]) (fun _=>obj b7 tRu (bR r)::obj b3 bB (aL s)::amS gv::amS r.take::catP x.cat::L) ?_ ?_
 ·by_cases a6:s.rule < -1
  ·have c0:¬r.chance ≥ r.of_:=fun h=>h5 ⟨a6,h⟩;refine Ii ?_;intros;rw[h4];refine Ii ?_;intros;exact⟨(),trivial,ai,by exact ae⟩
  ·refine Ii ?_;intros;rw[h4];refine Ii ?_;intros;exact⟨(),trivial,ai,by exact ae⟩
 rintro _ _;have e5:r.take.l.length≤s.moves.length:=ab;have f5:(s.moves.map MvV.m)[0]! = (s.moves.map MvV.m)[(0:Int).toNat]!:=rfl;refine Ii ?_;intros;refine G.loop (α:=Nat) (fun i=>i≤r.take.l.length∧∀j:Nat,j<i→kN (s.moves.map MvV.m) s.times r.take.l[j]! (s.moves.map MvV.m)[j]!) (fun i=>[(0,av b),(3,av b3),(4,.bool false),(7,av b7),(8,.slice gv.ad gv.l.length gv.cap),(81,.slice r.take.ad r.take.l.length r.take.cap),(82,ac (r.take.l.length:Int)),(83,ac (i:Int))]) (fun _=>obj b7 tRu (bR r)::obj b3 bB (aL s)::amS gv::amS r.take::catP x.cat::L) (fun i=>r.take.l.length - i) 0 ⟨aj _,fun j h=>absurd h ab⟩ ai (Ent.refl _) ?_;rintro i ⟨hi,d2⟩;by_cases c7:i<r.take.l.length
 case neg =>
  have b6:i=r.take.l.length:=ab;subst b6;haveI hrd:=Rds.drop d3 c2 r.take.l.length
  have d4:(s.moves.drop r.take.l.length).length=gv.l.length:=by rw[cH];omega
  have b2:∀j:Nat,j<gv.l.length→(s.moves.map MvV.m)[r.take.l.length+j]! = (s.moves.drop r.take.l.length)[j]!.m:=by
   intro j hj;rw[jw _ ab,getElem!_of (show j<(s.moves.drop r.take.l.length).length by omega),getElem!_of (show r.take.l.length+j<s.moves.length by omega),eK]
  refine Ii ?_;intros;rw[ay,show s.moves.length - r.take.l.length=(s.moves.drop r.take.l.length).length by simp];generalize advA s.mad s.mcap 5 r.take.l.length=ad2 at hrd ⊢;generalize hq:s.moves.drop r.take.l.length=ms2 at hrd d4 b2 ⊢;generalize s.mcap - r.take.l.length=cap2;refine G.loop (α:=Nat) (fun i=>i≤gv.l.length∧∀j:Nat,j<i→kS ms2[0]!.m.to s.times gv.l[j]! ms2[j]!.m) (fun i=>[(0,av b),(3,av b3),(4,.bool false),(7,av b7),(12,.slice ad2 ms2.length cap2),(130,.slice gv.ad gv.l.length gv.cap),(131,ac (gv.l.length:Int)),(132,ac (i:Int))]) (fun _=>obj b7 tRu (bR r)::obj b3 bB (aL s)::amS gv::amS r.take::catP x.cat::L) (fun i=>gv.l.length - i) 0 ⟨aj _,fun j h=>absurd h ab⟩ ai (Ent.refl _) ?_;rintro i ⟨hi,b4⟩;by_cases a3:i<gv.l.length
  case neg =>
   have b6:i=gv.l.length:=ab;subst b6
   have c1:fC x.cat.m.rules s.rule s.times (s.moves.map MvV.m):=by
    refine a5.2 ⟨h4,h5,h6,d2,fun j hj=>?_⟩;rw[b2 j hj,show r.take.l.length=r.take.l.length+0 from rfl,b2 0 ab];exact b4 j hj
   refine Ii ?_;intros;exact KX.d7 an ae ⟨by rw[aT c1];rfl,rfl⟩
  have a0:(i:Int).toNat=i:=ab;obtain⟨b0,b1⟩:=e0 _ (aG a3);have a8:0≤gv.l[i]!.2*s.times∧gv.l[i]!.2*s.times≤1099511627776*1048576:=⟨dy b0 ab,eQ b1 c6 ab ab⟩;rw[show gv.l[i]! = gv.l[(i:Int).toNat]! by rw[a0]] at a8 b0 b1;obtain⟨c3,b8⟩:=a8
  have a2:¬kS ms2[0]!.m.to s.times gv.l[i]! ms2[i]!.m→dB (fC x.cat.m.rules s.rule s.times (s.moves.map MvV.m))=false:=fun h=>aH (fun h'=>h (by
   have h2:=(a5.1 h').2.2.2.2 i a3;rw[b2 i a3] at h2;have h3:=b2 0 ab;rw[Nat.add_zero] at h3;rw[h3] at h2;exact h2))
  by_cases h7:ms2[(i:Int).toNat]!.m.frm=0
  case neg =>
   refine Ii ?_;intros;exact KX.d7 an ae ⟨by rw[a2 (fun h=>h7 (by have:=h.1;rw[a0];exact this))];rfl,rfl⟩
  by_cases h8:ms2[(i:Int).toNat]!.m.to=ms2[(0:Int).toNat]!.m.to
  case neg =>
   refine Ii ?_;intros;exact KX.d7 an ae ⟨by rw[a2 (fun h=>h8 (by have:=h.2.1;rw[a0];exact this))];rfl,rfl⟩
  by_cases h9:ms2[(i:Int).toNat]!.m.item=gv.l[(i:Int).toNat]!.1
  case neg =>
   refine Ii ?_;intros;exact KX.d7 an ae ⟨by rw[a2 (fun h=>h9 (by have:=h.2.2.1;rw[a0];exact this))];rfl,rfl⟩
  by_cases a4:ms2[(i:Int).toNat]!.m.n=gv.l[(i:Int).toNat]!.2*s.times
  case neg =>
   refine Ii ?_;intros;exact KX.d7 an ae ⟨by rw[a2 (fun h=>a4 (by have:=h.2.2.2;rw[a0];exact this))];rfl,rfl⟩
  refine Ii ?_;intros;refine⟨i+1,⟨ab,?_⟩,ab,?_,by exact ae⟩
  ·intro j hj;rcases ce j i with h|h
   ·exact b4 j h
   ·obtain rfl:j=i:=ab;rw[a0] at h7 h8 h9 a4;exact⟨h7,h8,h9,a4⟩
  ·rw[aK i];exact ai
 have a0:(i:Int).toNat=i:=ab;have a7:(s.moves.map MvV.m)[i]! = s.moves[(i:Int).toNat]!.m:=by rw[jw _ ab,a0]
 have c5:(s.moves.map MvV.m)[0]! = s.moves[(0:Int).toNat]!.m:=jw _ ab;obtain⟨b0,b1⟩:=c8 _ (aG c7);have a8:0≤r.take.l[i]!.2*s.times∧r.take.l[i]!.2*s.times≤1099511627776*1048576:=⟨dy b0 ab,eQ b1 c6 ab ab⟩;rw[show r.take.l[i]! = r.take.l[(i:Int).toNat]! by rw[a0]] at a8 b0 b1;obtain⟨c3,b8⟩:=a8;have a2:¬kN (s.moves.map MvV.m) s.times r.take.l[i]! (s.moves.map MvV.m)[i]!→dB (fC x.cat.m.rules s.rule s.times (s.moves.map MvV.m))=false:=fun h=>aH (fun h'=>h ((a5.1 h').2.2.2.1 i c7));have e3:(s.moves.map MvV.m).length=s.moves.length:=aA ..;by_cases h7:s.moves[(i:Int).toNat]!.m.frm=s.moves[(0:Int).toNat]!.m.frm
 case neg =>
  refine Ii ?_;intros;exact KX.d7 an ae ⟨by rw[a2 (fun h=>h7 (by have:=h.1;rw[a7,c5] at this;exact this))];rfl,rfl⟩
 by_cases h8:s.moves[(i:Int).toNat]!.m.to=0
 case neg =>
  refine Ii ?_;intros;exact KX.d7 an ae ⟨by rw[a2 (fun h=>h8 (by have:=h.2.1;rw[a7] at this;exact this))];rfl,rfl⟩
 by_cases h9:s.moves[(i:Int).toNat]!.m.item=r.take.l[(i:Int).toNat]!.1
 case neg =>
  refine Ii ?_;intros;exact KX.d7 an ae ⟨by rw[a2 (fun h=>h9 (by have:=h.2.2.1;rw[a7] at this;rw[a0] at this ⊢;exact this))];rfl,rfl⟩
 by_cases a4:s.moves[(i:Int).toNat]!.m.n=r.take.l[(i:Int).toNat]!.2*s.times
 case neg =>
  refine Ii ?_;intros;exact KX.d7 an ae ⟨by rw[a2 (fun h=>a4 (by have:=h.2.2.2;rw[a7] at this;rw[a0] at this ⊢;exact this))];rfl,rfl⟩
 refine Ii ?_;intros;refine⟨i+1,⟨ab,?_⟩,ab,?_,by exact ae⟩
 ·intro j hj;rcases ce j i with h|h
  ·exact d2 j h
  ·obtain rfl:j=i:=ab;rw[a7];rw[a0] at h7 h8 h9 a4 ⊢;exact⟨by rw[c5];exact h7,h8,h9,a4⟩
 ·rw[aK i];exact ai
