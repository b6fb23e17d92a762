/- Lemmas. -/
import Derived.Test.YtommnllbflbdmaaGreatDoorLal
set_option linter.all false
set_option maxHeartbeats 2000000
namespace Go.Proofs.YtommnllbflbdmaaGreatDoor
section
open Go.V
attribute [local irreducible] G GO GP GPW GPK Ev Ef EfR Ent CB GB Enters
structure FlM where
 id:Int
 step:Int
 kind:Int
 tick:Int
 actor:Int
 frm:Int
 to:Int
 item:Int
 n:Int
 parts:LL
 made:List Int
 deriving Inhabited,DecidableEq
structure FlV where
 m:FlM
 pad:OA
 pcap:Nat
 mad:OA
 mcap:Nat
 deriving Inhabited
def aL(f:FlV):LV:=[ab f.m.id,ab f.m.step,ab f.m.kind,ab f.m.tick,ab f.m.actor,ab f.m.frm,ab f.m.to,ab f.m.item,ab f.m.n,.slice f.pad f.m.parts.length f.pcap,.slice f.mad f.m.made.length f.mcap]
theorem fP(t:FlV):∀u∈aL t,u.oneCell' = true:=by simp[aL,Value.oneCell']
instance:EncC aL:=⟨fP⟩
def flP(f:FlV):HP:=andP (isl an 3 f.pad f.m.parts) (isl (encZ .i64) 1 f.mad f.m.made)
theorem lK(f:FlV):PersM (flP f):=(bT _ _ _ _).and (bT _ _ _ _)
def bA(s:StV):HP:=andP (stM s) (stP s)
theorem lR(s:StV):PersM (bA s):=(nz s).and (cQ iA)
structure LedM where
 shard:Int
 cat:CatM
 stk:Int→Int→LL
 tot:Int→Int
 steps:List StM
 flows:List FlM
 imp:Int→LL
 ret:Int→LL
structure LedX where
 cat:CatV
 ms:Nat
 mt:Nat
 mi:Nat
 mr:Nat
 stk:List ((Int×Int)×Stk)
 tot:List (Int×Int)
 imp:List (Int×Stk)
 ret:List (Int×Stk)
 steps:List StV
 sad:OA
 scap:Nat
 flows:List FlV
 fad:OA
 fcap:Nat
abbrev tLed:Nat:=126
abbrev bh:Nat:=65
abbrev bz:Nat:=89
def fU{κ:Type}[DecidableEq κ](m:List (κ×Stk))(k:κ):Stk:=(glk m k).getD ⟨none,0,[]⟩
structure LedF (S:LedM) (x:LedX):Prop where
 cat:x.cat.m=S.cat
 catB:x.cat.B
 stk:∀a i,(fU x.stk (a,i)).lots=S.stk a i
 full:∀p∈x.stk,p.2.lots≠[]
 tot:∀i,(glk x.tot i).getD 0=S.tot i
 steps:x.steps.map StV.m=S.steps
 flows:x.flows.map (·.m)=S.flows
 imp:∀i,(fU x.imp i).lots=S.imp i
 ret:∀i,(fU x.ret i).lots=S.ret i
structure LedM.Ok (S:LedM):Prop where
 shard:0≤S.shard∧S.shard<12
 steps:S.steps.length≤65536
 flows:S.flows.length≤64*S.steps.length
 stk:∀a i,(S.stk a i).length≤4096∧∀l∈S.stk a i,LotOk l
 tot:∀i,-((S.flows.length:Int)*1099511627776)≤S.tot i∧S.tot i≤1099511627776
abbrev fm(sh:Int)(x:LedX):LV:=[ab sh,.slice x.cat.iad x.cat.items.length x.cat.icap,.slice x.cat.rad x.cat.rules.length x.cat.rcap,.slice x.cat.tad x.cat.tables.length x.cat.tcap,.slice x.cat.xad x.cat.taxes.length x.cat.xcap,.map (some x.ms),.map (some x.mt),.slice x.sad x.steps.length x.scap,.slice x.fad x.flows.length x.fcap,.map (some x.mi),.map (some x.mr)]
abbrev ledL(b:Nat)(sh:Int)(x:LedX)(L:LH):LH :=
 obj b tLed (fm sh x)::gmap kvP Stk.v x.ms x.stk::gmap kvI encN x.mt x.tot::asl aJ 7 bh x.sad x.scap x.steps::asl aL 11 bz x.fad x.fcap x.flows::gmap kvI Stk.v x.mi x.imp::gmap kvI Stk.v x.mr x.ret::catP x.cat::allP (fun p:(Int×Int)×Stk=>stkP p.2) x.stk::allP bA x.steps::allP flP x.flows::allP (fun p:Int×Stk=>stkP p.2) x.imp::allP (fun p:Int×Stk=>stkP p.2) x.ret::L
def ledA(b:Nat)(S:LedM)(x:LedX):LH:=dy (LedF S x)::ledL b S.shard x []
def LedR(b:Nat)(S:LedM):HP:=hex fun x=>cL (ledA b S x)
theorem mf{b:Nat}{S:LedM}{L:LH}(x:LedX)(h:LedF S x):Ent (ledL b S.shard x L) (LedR b S::L) :=
 Ent.l5 (f:=ledA b S) x (Ent.pure h (Ent.refl _))
def led0(sh:Int)(c:CatM):LedM:=⟨sh,c,fun _ _=>[],fun _=>0,[],[],fun _=>[],fun _=>[]⟩
def LedM.now(S:LedM):Int:=(S.steps.getLast?.map (·.tick)).getD 0
abbrev AN:List Stp:=[.ev 0,.ev 1,.ev 2,.ev 3,.ev 4,.ev 5,.ev 6,.ev 7,.ev 8,.ev 9,.ev 10,.ev 11,.ev 12,.ev 13]
theorem lB{φ ψ:Prop}(k:ψ)(h:Hid ψ→φ:=by intro k;(with_reducible apply G.d8);first|refine G.d7 (N:=22) (id:=3) AN mixed ap (Hid.out k)):φ:=h ⟨k⟩
theorem CX{L R:LH}{b:Nat}{sh:Int}{x:LedX}[hp:PickObj L b tLed (fm sh x) R][hr:Rds L x.sad StV aJ 7 x.steps](hl:x.steps.length≤100000) :
  Tri ah 213 #[au b] L (fun v L'=>v=ab ((x.steps.getLast?.map (·.tick)).getD 0)∧L' = L):=by
 refine Tri.body (args:=[au b]) 22 Iw Tryz.func213 rfl rfl rfl (by simp) ?_;by_cases h0:x.steps.length=0
 ·repeat first|refine aa ?_|intro _|refine lB ?_
  exact KX.d7 ai (Ent.refl _) ⟨by rw[aW h0];rfl,rfl⟩
 ·repeat first|refine aa ?_|intro _|refine lB ?_
  refine KX.d7 ai (Ent.refl _) ⟨?_,rfl⟩
  have e:x.steps.getLast? = some x.steps[((x.steps.length:Int) - 1).toNat]!:=by
   rw[show((x.steps.length:Int) - 1).toNat=x.steps.length - 1 by omega,List.getLast?_eq_getElem?,getElem!_of ac,List.getElem?_eq_getElem]
  rw[e];rfl
theorem Gr{S:LedM}{x:LedX}(h:LedF S x):(x.steps.getLast?.map (·.tick)).getD 0=S.now:=by
 unfold LedM.now;rw[←h.steps,List.getLast?_map,Option.map_map];rfl
def accP(n:Int):Prop:=0≤n∧n≤1073741824
instance:DecidablePred accP:=fun n=>by unfold accP;infer_instance
theorem nT{L:LH}(n:Int):Tri ah 212 #[ab n] L (fun v L'=>v=.bool (dB (accP n))∧L' = L):=by
 refine Tri.body (args:=[ab n]) 9 Ix Tryz.func212 rfl rfl rfl (by simp) ?_;by_cases h1:0≤n
 ·by_cases h2:n≤1073741824
  ·repeat first|refine aa ?_|intro
   exact KX.d7 ai (Ent.refl _) ⟨by rw[aU h2,aU (show accP n from⟨h1,h2⟩)];rfl,rfl⟩
  ·repeat first|refine aa ?_|intro
   exact KX.d7 ai (Ent.refl _) ⟨by rw[aF h2,aF (fun h:accP n=>h2 h.2)];rfl,rfl⟩
 ·repeat first|refine aa ?_|intro
  exact KX.d7 ai (Ent.refl _) ⟨by rw[aF (fun h:accP n=>h1 h.1)];rfl,rfl⟩
def Asks(f:FuncId)(p:Int→Bool):Prop:=∀(n:Int) (L:LH),Tri ah f #[ab n] L (fun v L'=>v=.bool (p n)∧L' = L)
theorem pE:Asks 255 (fun n=>dB (n=0)):=by
 intro n L;refine Tri.body (args:=[ab n]) 5 HM Tryz.func255 rfl rfl rfl (by simp) ?_;repeat first|refine aa ?_|intro
 exact KX.d7 ai (Ent.refl _) ⟨rfl,rfl⟩
theorem iF:Asks 256 (fun n=>dB (¬n=0)):=by
 intro n L;refine Tri.body (args:=[ab n]) 5 HL Tryz.func256 rfl rfl rfl (by simp) ?_;repeat first|refine aa ?_|intro
 exact KX.d7 ai (Ent.refl _) ⟨rfl,rfl⟩
theorem zR:Asks 258 (fun _=>true):=by
 intro n L;refine Tri.body (args:=[ab n]) 3 HJ Tryz.func258 rfl rfl rfl (by simp) ?_;repeat first|refine aa ?_|intro
 exact KX.d7 ai (Ent.refl _) ⟨rfl,rfl⟩
def iz(k:Nat)(fp tp:Int→Bool)(m:MvM):Bool :=
 dB ((0≤m.item∧m.item<k)∧(1≤m.n∧m.n≤1099511627776)∧accP m.frm∧accP m.to∧m.frm≠m.to∧fp m.frm=true∧tp m.to=true∧m.parts.length=0)
abbrev AM:List Stp:=[.ev 0,.ev 1,.ev 2,.ev 3,.ev 4,.ev 5,.ev 6,.ev 7,.ev 8,.ev 9,.ev 10,.ev 11,.ev 12,.ev 13,.ev 14,.ev 15,.ev 16,.ev 17,.ev 18,.ev 19,.ev 20,.ev 21,.ev 22,.ev 23,.ev 24,.ev 25,.ev 26,.ef 27,.ev 28,.ev 29,.ev 30,.ev 31,.ev 32,.ef 33,.ev 34,.ev 35,.ev 36,.ev 37,.ev 38,.ev 39,.ev 40,.ev 41,.ev 42,.ev 43,.ev 44,.ev 45,.ev 46,.ev 47,.ef 48,.ev 49,.ev 50,.ev 51,.ev 52,.ev 53,.ev 54,.ev 55,.ef 56,.ev 57,.ev 58]
abbrev AL:List Stp:=[.ev 0,.ev 1,.ef 2,.ev 3,.ev 4,.ev 5,.ev 7,.ev 8,.ef 6,.ev 9,.ev 10,.ev 11,.ev 12,.ev 13,.ev 16,.ev 17,.ef 14,.ef 15,.ev 18,.ev 19,.ev 20]
theorem dF{φ ψ:Prop}(k:ψ)(h:Hid ψ→φ:=by intro k;(with_reducible apply G.d8);first|refine G.d7 (N:=93) (id:=1) AM mixed ap (Hid.out k)|refine G.d7 (N:=93) (id:=5) AL mixed ap (Hid.out k)):φ:=h ⟨k⟩
theorem Du{L R:LH}{b:Nat}{sh:Int}{x:LedX}[hp:PickObj L b tLed (fm sh x) R](ff tf wf:FuncId)(fp tp:Int→Bool)(hf:Asks ff fp)(ht:Asks tf tp)(m:MvV)(hl:x.cat.items.length≤64) :
  Tri ah 214 #[au b,.agg (aM m).toArray,.agg #[.func (.func ff) #[] #[],.func (.func tf) #[] #[],.bool false,.func (.func wf) #[] #[]]] L (fun v L'=>v=.bool (iz x.cat.items.length fp tp m.m)∧L' = L):=by
 obtain⟨⟨frm,to,item,n,parts⟩,pad,pcap⟩:=m;refine Tri.body (args:=[au b,.agg (aM ⟨⟨frm,to,item,n,parts⟩,pad,pcap⟩).toArray,.agg #[.func (.func ff) #[] #[],.func (.func tf) #[] #[],.bool false,.func (.func wf) #[] #[]]]) 93 Iv Tryz.func214 rfl rfl rfl (by simp) ?_;by_cases h1:0≤item
 case neg =>
  repeat first|refine aa ?_|intro _|refine dF ?_
  exact KX.d7 ai ag ⟨by unfold iz;rw[aF (fun h=>h1 h.1.1)];rfl,rfl⟩
 by_cases h2:item<x.cat.items.length
 case neg =>
  repeat first|refine aa ?_|intro _|refine dF ?_
  exact KX.d7 ai ag ⟨by unfold iz;rw[aF (fun h=>h2 h.1.2)];rfl,rfl⟩
 by_cases h3:1≤n
 case neg =>
  repeat first|refine aa ?_|intro _|refine dF ?_
  exact KX.d7 ai ag ⟨by unfold iz;rw[aF (fun h=>h3 h.2.1.1)];rfl,rfl⟩
 by_cases h4:n≤1099511627776
 case neg =>
  repeat first|refine aa ?_|intro _|refine dF ?_
  exact KX.d7 ai ag ⟨by unfold iz;rw[aF (fun h=>h4 h.2.1.2)];rfl,rfl⟩
 repeat first|refine aa ?_|intro _|refine dF ?_
 refine GPW.ef (Ef.d7 (nT frm) rfl) ae ?_;rintro _ _⟨rfl,rfl⟩;by_cases h5:accP frm
 case neg =>
  rw[aF h5];repeat first|refine aa ?_|intro _|refine dF ?_
  exact KX.d7 ai ag ⟨by unfold iz;rw[aF (fun h=>h5 h.2.2.1)];rfl,rfl⟩
 rw[aU h5];repeat first|refine aa ?_|intro _|refine dF ?_
 refine GPW.ef (Ef.d7 (nT to) rfl) ae ?_;rintro _ _⟨rfl,rfl⟩;by_cases h6:accP to
 case neg =>
  rw[aF h6];repeat first|refine aa ?_|intro _|refine dF ?_
  exact KX.d7 ai ag ⟨by unfold iz;rw[aF (fun h=>h6 h.2.2.2.1)];rfl,rfl⟩
 rw[aU h6];by_cases h7:frm=to
 case pos =>
  repeat first|refine aa ?_|intro _|refine dF ?_
  exact KX.d7 ai ag ⟨by unfold iz;rw[aF (fun h=>h.2.2.2.2.1 h7)];rfl,rfl⟩
 repeat first|refine aa ?_|intro _|refine dF ?_
 refine GPW.ef (Ef.d9 rfl rfl (hf frm _)) ae ?_;rintro _ _⟨rfl,rfl⟩;cases h8:fp frm with
 | false =>
  repeat first|refine aa ?_|intro _|refine dF ?_
  exact KX.d7 ai ag ⟨by unfold iz;rw[aF (fun h=>by have:=h.2.2.2.2.2.1;dsimp only at this;rw[h8] at this;cases this)];rfl,rfl⟩
 | true =>
  repeat first|refine aa ?_|intro _|refine dF ?_
  refine GPW.ef (Ef.d9 rfl rfl (ht to _)) ae ?_;rintro _ _⟨rfl,rfl⟩;cases h9:tp to with
  | false =>
   repeat first|refine aa ?_|intro _|refine dF ?_
   exact KX.d7 ai ag ⟨by unfold iz;rw[aF (fun h=>by have:=h.2.2.2.2.2.2.1;dsimp only at this;rw[h9] at this;cases this)];rfl,rfl⟩
  | true =>
   repeat first|refine aa ?_|intro _|refine dF ?_
   refine KX.d7 ai ag ⟨?_,rfl⟩;unfold iz;by_cases h10:parts.length=0
   ·rw[aU (show((parts.length:Nat):Int)=0 by omega),aU ⟨⟨h1,h2⟩,⟨h3,h4⟩,h5,h6,h7,h8,h9,h10⟩];rfl
   ·rw[aF (show ¬((parts.length:Nat):Int)=0 by omega),aF (fun h=>h10 h.2.2.2.2.2.2.2)];rfl
theorem rg{c:CatV}{L:LH}:Ent (catP c::L) (isl bS 7 c.iad c.items::catP c::L) :=
 (Ent.dup (jQ c).pers).trans (Ent.andE.trans (Ent.d7 Ent.drop))
theorem catOpenR{c:CatV}{L:LH}:Ent (catP c::L) (isl bQ 9 c.rad c.rules::allP ruP c.rules::catP c::L) :=
 (Ent.dup (jQ c).pers).trans (Ent.andE.trans (Ent.drop.trans (Ent.andE.trans ((Ent.d7 Ent.drop).trans Ent.andE))))
theorem ruOpen{r:RuV}{L:LH}:Ent (ruP r::L) (amS r.take::amS r.give::amS r.back::L):=Ent.andE.trans (Ent.d7 Ent.andE)
def io(n:Int):Prop:=1≤n∧n≤1048576
instance:DecidablePred io:=fun n=>by unfold io;infer_instance
theorem wo{L:LH}(n:Int):Tri ah 281 #[ab n] L (fun v L'=>v=.bool (dB (io n))∧L' = L):=by
 refine Tri.body (args:=[ab n]) 9 Hv Tryz.func281 rfl rfl rfl (by simp) ?_;by_cases h1:1≤n
 ·by_cases h2:n≤1048576
  ·repeat first|refine aa ?_|intro
   exact KX.d7 ai (Ent.refl _) ⟨by rw[aU h2,aU (show io n from⟨h1,h2⟩)];rfl,rfl⟩
  ·repeat first|refine aa ?_|intro
   exact KX.d7 ai (Ent.refl _) ⟨by rw[aF h2,aF (fun h:io n=>h2 h.2)];rfl,rfl⟩
 ·repeat first|refine aa ?_|intro
  exact KX.d7 ai (Ent.refl _) ⟨by rw[aF (fun h:io n=>h1 h.1)];rfl,rfl⟩
def jN(rule times:Int):Prop:=rule = -1∧times=0
instance (a b:Int):Decidable (jN a b):=by unfold jN;infer_instance
theorem wq{L:LH}(b:Nat)(s:StV):Tri ah 257 #[au b,.agg (aJ s).toArray] L (fun v L'=>v=.bool (dB (jN s.rule s.times))∧L' = L):=by
 refine Tri.body (args:=[au b,.agg (aJ s).toArray]) 13 HK Tryz.func257 rfl rfl rfl (by simp) ?_;by_cases h1:s.rule = -1
 ·by_cases h2:s.times=0
  ·repeat first|refine aa ?_|intro
   exact KX.d7 ai ag ⟨by rw[aU h2,aU (show jN s.rule s.times from⟨h1,h2⟩)];rfl,rfl⟩
  ·repeat first|refine aa ?_|intro
   exact KX.d7 ai ag ⟨by rw[aF h2,aF (fun h:jN s.rule s.times=>h2 h.2)];rfl,rfl⟩
 ·repeat first|refine aa ?_|intro
  exact KX.d7 ai ag ⟨by rw[aF (fun h:jN s.rule s.times=>h1 h.1)];rfl,rfl⟩
def AmB(l:List (Int×Int)):Prop:=∀a∈l,0≤a.2∧a.2≤1099511627776
structure CatM.Ok (c:CatM):Prop where
 take:∀r∈c.rules,AmB r.take
 give:∀r∈c.rules,AmB r.give
 back:∀r∈c.rules,AmB r.back
def aN(rule:Int):Int:=if rule < -1 then -2 - rule else rule
def oW(r:RuM)(rule:Int):List (Int×Int):=if rule < -1 then r.back else r.give
def ky(ms:List MvM)(times:Int)(a:Int×Int)(m:MvM):Prop:=m.frm=ms[0]!.frm∧m.to=0∧m.item=a.1∧m.n=a.2*times
def kD(t0 times:Int)(a:Int×Int)(m:MvM):Prop:=m.frm=0∧m.to=t0∧m.item=a.1∧m.n=a.2*times
def fw(rules:List RuM)(rule times:Int)(ms:List MvM):Prop :=
 (0≤aN rule∧aN rule<rules.length)∧io times∧rules[(aN rule).toNat]!.spawn=false∧¬(rule < -1∧rules[(aN rule).toNat]!.chance ≥ rules[(aN rule).toNat]!.of_) ∧
 ms.length=rules[(aN rule).toNat]!.take.length+(oW rules[(aN rule).toNat]! rule).length ∧
 (∀i:Nat,i<rules[(aN rule).toNat]!.take.length→ky ms times rules[(aN rule).toNat]!.take[i]! ms[i]!) ∧
 (∀i:Nat,i<(oW rules[(aN rule).toNat]! rule).length→kD (ms[rules[(aN rule).toNat]!.take.length]!).to times (oW rules[(aN rule).toNat]! rule)[i]! ms[rules[(aN rule).toNat]!.take.length+i]!)
noncomputable instance (a b c d):Decidable (fw a b c d):=Classical.propDecidable _
def RuV.given(r:RuV)(rule:Int):AmS:=if rule < -1 then r.back else r.give
theorem qV(r:RuV)(rule:Int):(r.given rule).l=oW r.m rule:=by unfold RuV.given oW;split<;>rfl
abbrev tRu:Nat:=79
instance:Inhabited MvM:=inferInstance
theorem jl(ms:List MvV){i:Nat}(h:i<ms.length):(ms.map MvV.m)[i]! = ms[i]!.m:=eo _ h
abbrev AK:List Stp:=[.ev 0,.ev 1,.ev 2,.ev 3,.ev 4,.ev 5,.ev 6]
abbrev xG:List Stp:=[.ev 0,.ev 1,.ev 2,.ev 3,.ev 4,.ev 5,.ev 6,.ev 7,.ev 8,.ev 9,.ev 10,.ev 11,.ev 12,.ev 13,.ev 14,.ev 15,.ev 16,.ev 17,.ev 18,.ev 19,.ev 20,.ev 21,.ev 22,.ev 23,.ev 24,.ev 25,.ev 26,.ev 27,.ev 28,.ev 29]
abbrev xF:List Stp:=[.ev 0,.ev 1,.ev 2,.ev 3,.ev 4,.ev 5,.ev 6,.ev 7,.ev 8,.ev 9,.ev 10,.ev 11,.ev 12,.ev 13,.ev 14,.ev 15,.ev 16,.ev 17,.ev 18,.ev 19,.ev 20,.ev 21,.ev 22,.ev 23,.ev 24,.ev 25,.ev 26,.ev 27,.ev 28]
theorem bE{φ ψ:Prop}(k:ψ)(h:Hid ψ→φ:=by intro k;(with_reducible apply G.d8);first|refine G.d7 (N:=171) (id:=1) AK mixed ap (Hid.out k)|refine G.d7 (N:=171) (id:=16) xG mixed ap (Hid.out k)|refine G.d7 (N:=171) (id:=24) xF mixed ap (Hid.out k)):φ:=h ⟨k⟩
theorem wr{L R:LH}{b:Nat}{sh:Int}{x:LedX}[hp:PickObj L b tLed (fm sh x) R](s:StV)[hrm:Rds L s.mad MvV aM 5 s.moves](hc:x.cat.m.Ok)(hB:x.cat.B)(hms:s.moves.length≤64)(hcap:s.moves.length≤s.mcap)(hI:I64 s.rule) :
  Tri ah 259 #[au b,.agg (aJ s).toArray] (catP x.cat::L) (fun v L'=>v=.bool (dB (fw x.cat.m.rules s.rule s.times (s.moves.map MvV.m)))∧L' = catP x.cat::L):=by
 obtain⟨hI1,hI2⟩:=hI;have hrl:=hB.rules;have hlen:x.cat.m.rules.length=x.cat.rules.length:=by simp[CatV.m]
 refine Tri.body (args:=[au b,.agg (aJ s).toArray]) 171 HI Tryz.func259 rfl rfl rfl (by simp) ?_;repeat first|((fail_if_success (with_reducible refine G.e7 2 ?_));(with_reducible apply G.seq))|refine bB ?_|intro _|refine bE ?_
 rename_i b3;refine G.d9 (α:=Unit) (fun _=>True) (fun _=>[(0,au b),(3,au b3),(4,.bool false),(5,ab (aN s.rule)),(6,.bool (dB (s.rule < -1)))]) (fun _=>obj b3 bh (aJ s)::catP x.cat::L) ?_ ?_
 ·by_cases hf:s.rule < -1
  ·repeat first|refine aa ?_|intro _|refine bE ?_
   refine⟨(),trivial,?_,by exact ag⟩;unfold aN;rw[if_pos hf];exact aj
  ·repeat first|refine aa ?_|intro _|refine bE ?_
   refine⟨(),trivial,?_,by exact ag⟩;unfold aN;rw[if_neg hf];exact aj
 rintro _ _;by_cases h1:0≤aN s.rule
 case neg =>
  repeat first|refine aa ?_|intro _|refine bE ?_
  exact KX.d7 ai ag ⟨by rw[aF (fun h=>h1 h.1.1)];rfl,rfl⟩
 by_cases h2:aN s.rule<x.cat.rules.length
 case neg =>
  repeat first|refine aa ?_|intro _|refine bE ?_
  exact KX.d7 ai ag ⟨by rw[aF (fun h=>h2 (by have:=h.1.2;omega))];rfl,rfl⟩
 repeat first|refine aa ?_|intro _|refine bE ?_
 refine GO.ef (Ef.d7 (wo s.times) rfl) ae ?_;rintro _ _⟨rfl,rfl⟩;by_cases h3:io s.times
 case neg =>
  rw[aF h3];repeat first|refine aa ?_|intro _|refine bE ?_
  exact KX.d7 ai ag ⟨by rw[aF (fun h=>h3 h.2.1)];rfl,rfl⟩
 rw[aU h3];have hix:(aN s.rule).toNat<x.cat.rules.length:=ac;have hmem:x.cat.rules[(aN s.rule).toNat]!∈x.cat.rules:=aI hix;have hrm' : x.cat.m.rules[(aN s.rule).toNat]! = x.cat.rules[(aN s.rule).toNat]!.m:=eo RuV.m hix;have hmm:x.cat.rules[(aN s.rule).toNat]!.m∈x.cat.m.rules:=alStd0List_mem_map_of_mem hmem;refine GO.ent (Ent.at (A:=catP x.cat) catOpenR) ?_;refine GO.ent (Ent.at (A:=allP ruP x.cat.rules) ((Ent.d9 (f:=ruP) hmem).trans ruOpen)) ?_;have hru:=hB.ru _ hmem;have hct:=hc.take _ hmm;have hcg:=hc.give _ hmm;have hcb:=hc.back _ hmm
 have hcr:fw x.cat.m.rules s.rule s.times (s.moves.map MvV.m)↔(x.cat.rules[(aN s.rule).toNat]!.spawn=false∧¬(s.rule < -1∧x.cat.rules[(aN s.rule).toNat]!.chance ≥ x.cat.rules[(aN s.rule).toNat]!.of_)∧s.moves.length=x.cat.rules[(aN s.rule).toNat]!.take.l.length+(x.cat.rules[(aN s.rule).toNat]!.given s.rule).l.length ∧
   (∀i:Nat,i<x.cat.rules[(aN s.rule).toNat]!.take.l.length→ky (s.moves.map MvV.m) s.times x.cat.rules[(aN s.rule).toNat]!.take.l[i]! (s.moves.map MvV.m)[i]!) ∧
   (∀i:Nat,i<(x.cat.rules[(aN s.rule).toNat]!.given s.rule).l.length→kD ((s.moves.map MvV.m)[x.cat.rules[(aN s.rule).toNat]!.take.l.length]!).to s.times (x.cat.rules[(aN s.rule).toNat]!.given s.rule).l[i]! (s.moves.map MvV.m)[x.cat.rules[(aN s.rule).toNat]!.take.l.length+i]!)):=by
  unfold fw;rw[hrm',qV,aG];exact⟨fun h=>h.2.2,fun h=>⟨⟨h1,ac⟩,h3,h⟩⟩
 obtain⟨hT1,hT2⟩:=h3;obtain⟨hr1,hr2,hr3⟩:=hru;simp only[AmB,RuV.m] at hct hcg hcb;have hgl:(x.cat.rules[(aN s.rule).toNat]!.given s.rule).l.length≤64:=by unfold RuV.given;split<;>assumption
 have hgb:∀a∈(x.cat.rules[(aN s.rule).toNat]!.given s.rule).l,0≤a.2∧a.2≤1099511627776:=by unfold RuV.given;split<;>assumption
 refine GO.ent (L':=amS (x.cat.rules[(aN s.rule).toNat]!.given s.rule)::amS x.cat.rules[(aN s.rule).toNat]!.take::isl bQ 9 x.cat.rad x.cat.rules::catP x.cat::obj b3 bh (aJ s)::L) ?_ ?_
 ·unfold RuV.given;split
  ·exact ag
  ·exact ag
 repeat first|((fail_if_success (with_reducible refine G.e7 8 ?_));(with_reducible apply G.seq))|refine bB ?_|intro _|refine bE ?_
 rename_i b7;have hg1:∀h:s.rule < -1,x.cat.rules[(aN s.rule).toNat]!.given s.rule=x.cat.rules[(aN s.rule).toNat]!.back:=fun h=>if_pos h;have hg2:∀h:¬s.rule < -1,x.cat.rules[(aN s.rule).toNat]!.given s.rule=x.cat.rules[(aN s.rule).toNat]!.give:=fun h=>if_neg h;clear hrm' hmem hmm hcg hcb hr2 hr3 hix;generalize x.cat.rules[(aN s.rule).toNat]! = r at *;generalize r.given s.rule=gv at *;refine G.d9 (α:=Unit) (fun _=>True) (fun _=>[(0,au b),(3,au b3),(4,.bool false),(6,.bool (dB (s.rule < -1))),(7,au b7),(8,.slice gv.ad gv.l.length gv.cap)]) (fun _=>obj b7 tRu (bQ r)::obj b3 bh (aJ s)::amS gv::amS r.take::catP x.cat::L) ?_ ?_
 ·by_cases hf:s.rule < -1
  ·rw[hg1 hf];repeat first|refine aa ?_|intro _|refine bE ?_
   exact⟨(),trivial,aj,by exact ag⟩
  ·rw[hg2 hf];repeat first|refine aa ?_|intro _|refine bE ?_
   exact⟨(),trivial,aj,by exact ag⟩
 rintro _ _;clear hg1 hg2;cases h4:r.spawn with
 | true =>
  repeat first|refine aa ?_|intro _|refine bE ?_
  rw[h4];repeat first|refine aa ?_|intro _|refine bE ?_
  exact KX.d7 ai ag ⟨by rw[aF (fun h=>by have:=(hcr.1 h).1;rw[h4] at this;cases this)];rfl,rfl⟩
 | false =>
 by_cases h5:s.rule < -1∧r.chance ≥ r.of_
 case pos =>
  obtain⟨h51,h52⟩:=h5;repeat first|refine aa ?_|intro _|refine bE ?_
  rw[h4];repeat first|refine aa ?_|intro _|refine bE ?_
  exact KX.d7 ai ag ⟨by rw[aF (fun h=>(hcr.1 h).2.1 ⟨h51,h52⟩)];rfl,rfl⟩
 by_cases h6:s.moves.length=r.take.l.length+gv.l.length
 case neg =>
  by_cases h51:s.rule < -1
  ·have h52:¬r.chance ≥ r.of_:=fun h=>h5 ⟨h51,h⟩;repeat first|refine aa ?_|intro _|refine bE ?_
   rw[h4];repeat first|refine aa ?_|intro _|refine bE ?_
   exact KX.d7 ai ag ⟨by rw[aF (fun h=>h6 (hcr.1 h).2.2.1)];rfl,rfl⟩
  ·repeat first|refine aa ?_|intro _|refine bE ?_
   rw[h4];repeat first|refine aa ?_|intro _|refine bE ?_
   exact KX.d7 ai ag ⟨by rw[aF (fun h=>h6 (hcr.1 h).2.2.1)];rfl,rfl⟩
 refine G.d9 (α:=Unit) (fun _=>True) (fun _=>[(0,au b),(3,au b3),(4,.bool false),(7,au b7),(8,.slice gv.ad gv.l.length gv.cap)]) (fun _=>obj b7 tRu (bQ r)::obj b3 bh (aJ s)::amS gv::amS r.take::catP x.cat::L) ?_ ?_
 ·by_cases h51:s.rule < -1
  ·have h52:¬r.chance ≥ r.of_:=fun h=>h5 ⟨h51,h⟩;repeat first|refine aa ?_|intro _|refine bE ?_
   rw[h4];repeat first|refine aa ?_|intro _|refine bE ?_
   exact⟨(),trivial,aj,by exact ag⟩
  ·repeat first|refine aa ?_|intro _|refine bE ?_
   rw[h4];repeat first|refine aa ?_|intro _|refine bE ?_
   exact⟨(),trivial,aj,by exact ag⟩
 rintro _ _;have htl:r.take.l.length≤s.moves.length:=ac;have hm0:(s.moves.map MvV.m)[0]! = (s.moves.map MvV.m)[(0:Int).toNat]!:=rfl;repeat first|refine aa ?_|intro _|refine bE ?_
 refine G.loop (α:=Nat) (fun i=>i≤r.take.l.length∧∀j:Nat,j<i→ky (s.moves.map MvV.m) s.times r.take.l[j]! (s.moves.map MvV.m)[j]!) (fun i=>[(0,au b),(3,au b3),(4,.bool false),(7,au b7),(8,.slice gv.ad gv.l.length gv.cap),(81,.slice r.take.ad r.take.l.length r.take.cap),(82,ab (r.take.l.length:Int)),(83,ab (i:Int))]) (fun _=>obj b7 tRu (bQ r)::obj b3 bh (aJ s)::amS gv::amS r.take::catP x.cat::L) (fun i=>r.take.l.length - i) 0 ⟨ao _,fun j h=>absurd h ac⟩ aj (Ent.refl _) ?_;rintro i ⟨hi,hdo⟩;by_cases hlt:i<r.take.l.length
 case neg =>
  have hie:i=r.take.l.length:=ac;subst hie;haveI hrd:=Rds.drop hrm hcap r.take.l.length
  have hdl:(s.moves.drop r.take.l.length).length=gv.l.length:=by rw[bR];omega
  have hdg:∀j:Nat,j<gv.l.length→(s.moves.map MvV.m)[r.take.l.length+j]! = (s.moves.drop r.take.l.length)[j]!.m:=by
   intro j hj;rw[jl _ ac,getElem!_of (show j<(s.moves.drop r.take.l.length).length by omega),getElem!_of (show r.take.l.length+j<s.moves.length by omega),eG]
  repeat first|refine aa ?_|intro _|refine bE ?_
  rw[aA,show s.moves.length - r.take.l.length=(s.moves.drop r.take.l.length).length by simp];generalize advA s.mad s.mcap 5 r.take.l.length=ad2 at hrd ⊢;generalize hq:s.moves.drop r.take.l.length=ms2 at hrd hdl hdg ⊢;generalize s.mcap - r.take.l.length=cap2;refine G.loop (α:=Nat) (fun i=>i≤gv.l.length∧∀j:Nat,j<i→kD ms2[0]!.m.to s.times gv.l[j]! ms2[j]!.m) (fun i=>[(0,au b),(3,au b3),(4,.bool false),(7,au b7),(12,.slice ad2 ms2.length cap2),(130,.slice gv.ad gv.l.length gv.cap),(131,ab (gv.l.length:Int)),(132,ab (i:Int))]) (fun _=>obj b7 tRu (bQ r)::obj b3 bh (aJ s)::amS gv::amS r.take::catP x.cat::L) (fun i=>gv.l.length - i) 0 ⟨ao _,fun j h=>absurd h ac⟩ aj (Ent.refl _) ?_;rintro i ⟨hi,hdo2⟩;by_cases hlt2:i<gv.l.length
  case neg =>
   have hie:i=gv.l.length:=ac;subst hie
   have hyes:fw x.cat.m.rules s.rule s.times (s.moves.map MvV.m):=by
    refine hcr.2 ⟨h4,h5,h6,hdo,fun j hj=>?_⟩;rw[hdg j hj,show r.take.l.length=r.take.l.length+0 from rfl,hdg 0 ac];exact hdo2 j hj
   repeat first|refine aa ?_|intro _|refine bE ?_
   exact KX.d7 ai ag ⟨by rw[aU hyes];rfl,rfl⟩
  have hii:(i:Int).toNat=i:=ac;obtain⟨ha1,ha2⟩:=hgb _ (aI hlt2);have hmu:0≤gv.l[i]!.2*s.times∧gv.l[i]!.2*s.times≤1099511627776*1048576:=⟨dC ha1 ac,eN ha2 hT2 ac ac⟩;rw[show gv.l[i]! = gv.l[(i:Int).toNat]! by rw[hii]] at hmu ha1 ha2;obtain⟨hmu1,hmu2⟩:=hmu
  have hno:¬kD ms2[0]!.m.to s.times gv.l[i]! ms2[i]!.m→dB (fw x.cat.m.rules s.rule s.times (s.moves.map MvV.m))=false:=fun h=>aF (fun h'=>h (by
   have h2:=(hcr.1 h').2.2.2.2 i hlt2;rw[hdg i hlt2] at h2;have h3:=hdg 0 ac;rw[Nat.add_zero] at h3;rw[h3] at h2;exact h2))
  by_cases h7:ms2[(i:Int).toNat]!.m.frm=0
  case neg =>
   repeat first|refine aa ?_|intro _|refine bE ?_
   exact KX.d7 ai ag ⟨by rw[hno (fun h=>h7 (by have:=h.1;rw[hii];exact this))];rfl,rfl⟩
  by_cases h8:ms2[(i:Int).toNat]!.m.to=ms2[(0:Int).toNat]!.m.to
  case neg =>
   repeat first|refine aa ?_|intro _|refine bE ?_
   exact KX.d7 ai ag ⟨by rw[hno (fun h=>h8 (by have:=h.2.1;rw[hii];exact this))];rfl,rfl⟩
  by_cases h9:ms2[(i:Int).toNat]!.m.item=gv.l[(i:Int).toNat]!.1
  case neg =>
   repeat first|refine aa ?_|intro _|refine bE ?_
   exact KX.d7 ai ag ⟨by rw[hno (fun h=>h9 (by have:=h.2.2.1;rw[hii];exact this))];rfl,rfl⟩
  by_cases h10:ms2[(i:Int).toNat]!.m.n=gv.l[(i:Int).toNat]!.2*s.times
  case neg =>
   repeat first|refine aa ?_|intro _|refine bE ?_
   exact KX.d7 ai ag ⟨by rw[hno (fun h=>h10 (by have:=h.2.2.2;rw[hii];exact this))];rfl,rfl⟩
  repeat first|refine aa ?_|intro _|refine bE ?_
  refine⟨i+1,⟨ac,?_⟩,ac,?_,by exact ag⟩
  ·intro j hj;rcases cg j i with h|h
   ·exact hdo2 j h
   ·obtain rfl:j=i:=ac;rw[hii] at h7 h8 h9 h10;exact⟨h7,h8,h9,h10⟩
  ·rw[aP i];exact aj
 have hii:(i:Int).toNat=i:=ac;have hmi:(s.moves.map MvV.m)[i]! = s.moves[(i:Int).toNat]!.m:=by rw[jl _ ac,hii]
 have hmz:(s.moves.map MvV.m)[0]! = s.moves[(0:Int).toNat]!.m:=jl _ ac;obtain⟨ha1,ha2⟩:=hct _ (aI hlt);have hmu:0≤r.take.l[i]!.2*s.times∧r.take.l[i]!.2*s.times≤1099511627776*1048576:=⟨dC ha1 ac,eN ha2 hT2 ac ac⟩;rw[show r.take.l[i]! = r.take.l[(i:Int).toNat]! by rw[hii]] at hmu ha1 ha2;obtain⟨hmu1,hmu2⟩:=hmu;have hno:¬ky (s.moves.map MvV.m) s.times r.take.l[i]! (s.moves.map MvV.m)[i]!→dB (fw x.cat.m.rules s.rule s.times (s.moves.map MvV.m))=false:=fun h=>aF (fun h'=>h ((hcr.1 h').2.2.2.1 i hlt));have hsz:(s.moves.map MvV.m).length=s.moves.length:=aG ..;by_cases h7:s.moves[(i:Int).toNat]!.m.frm=s.moves[(0:Int).toNat]!.m.frm
 case neg =>
  repeat first|refine aa ?_|intro _|refine bE ?_
  exact KX.d7 ai ag ⟨by rw[hno (fun h=>h7 (by have:=h.1;rw[hmi,hmz] at this;exact this))];rfl,rfl⟩
 by_cases h8:s.moves[(i:Int).toNat]!.m.to=0
 case neg =>
  repeat first|refine aa ?_|intro _|refine bE ?_
  exact KX.d7 ai ag ⟨by rw[hno (fun h=>h8 (by have:=h.2.1;rw[hmi] at this;exact this))];rfl,rfl⟩
 by_cases h9:s.moves[(i:Int).toNat]!.m.item=r.take.l[(i:Int).toNat]!.1
 case neg =>
  repeat first|refine aa ?_|intro _|refine bE ?_
  exact KX.d7 ai ag ⟨by rw[hno (fun h=>h9 (by have:=h.2.2.1;rw[hmi] at this;rw[hii] at this ⊢;exact this))];rfl,rfl⟩
 by_cases h10:s.moves[(i:Int).toNat]!.m.n=r.take.l[(i:Int).toNat]!.2*s.times
 case neg =>
  repeat first|refine aa ?_|intro _|refine bE ?_
  exact KX.d7 ai ag ⟨by rw[hno (fun h=>h10 (by have:=h.2.2.2;rw[hmi] at this;rw[hii] at this ⊢;exact this))];rfl,rfl⟩
 repeat first|refine aa ?_|intro _|refine bE ?_
 refine⟨i+1,⟨ac,?_⟩,ac,?_,by exact ag⟩
 ·intro j hj;rcases cg j i with h|h
  ·exact hdo j h
  ·obtain rfl:j=i:=ac;rw[hmi];rw[hii] at h7 h8 h9 h10 ⊢;exact⟨by rw[hmz];exact h7,h8,h9,h10⟩
 ·rw[aP i];exact aj
