/- Lemmas. -/
import Derived.Test.YtommnllbflbdmaaGreatDoorCatal
set_option linter.all false
set_option maxHeartbeats 2000000
namespace Go.Proofs.YtommnllbflbdmaaGreatDoor
section
open Go.V
attribute [local irreducible] G GO GP GPW GPK Ev Ef EfR Ent CB GB Enters
def lp(k:Int):Prop:=k=0∨k=1∨k=6∨k=2∨k=3∨k=8∨k=4
def nk(k:Int):Int→Bool:=if k=0 then(fun n=>dB (n=0)) else if k=4 then(fun _=>true) else(fun n=>dB (¬n=0))
def kTo(k:Int):Int→Bool:=if k=1∨k=6 then(fun n=>dB (n=0)) else if k=4 then(fun _=>true) else(fun n=>dB (¬n=0))
def mR(k:Int):FuncId:=if k=4 then 259 else 257
abbrev Is(ff tf wf:FuncId):Value:=.agg #[.func (.func ff) #[] #[],.func (.func tf) #[] #[],.bool false,.func (.func wf) #[] #[]]
def Aj{L:LH}(k:Int)(hk:lp k):Tri ai 211 #[ac k] L (fun v L'=>∃ff tf,v=.tuple #[Is ff tf (mR k),.bool true]∧(Asks ff (nk k)∧Asks tf (kTo k))∧L' = L):=by
 rcases hk with rfl|rfl|rfl|rfl|rfl|rfl|rfl
 ·refine Tri.bd (args:=[ac 0]) ?_;refine IF ?_;intros;exact KX.d7 (by exact ResOk.cell rfl aJ (ResOk.tmp rfl (ResOk.nil))) ah ⟨_,_,rfl,⟨jZ,eK⟩,rfl⟩
 ·refine Tri.bd (args:=[ac 1]) ?_;refine IF ?_;intros;exact KX.d7 (by exact ResOk.cell rfl aJ (ResOk.tmp rfl (ResOk.nil))) ah ⟨_,_,rfl,⟨eK,jZ⟩,rfl⟩
 ·refine Tri.bd (args:=[ac 6]) ?_;refine IF ?_;intros;exact KX.d7 (by exact ResOk.cell rfl aJ (ResOk.tmp rfl (ResOk.nil))) ah ⟨_,_,rfl,⟨eK,jZ⟩,rfl⟩
 ·refine Tri.bd (args:=[ac 2]) ?_;refine IF ?_;intros;exact KX.d7 (by exact ResOk.cell rfl aJ (ResOk.tmp rfl (ResOk.nil))) ah ⟨_,_,rfl,⟨eK,eK⟩,rfl⟩
 ·refine Tri.bd (args:=[ac 3]) ?_;refine IF ?_;intros;exact KX.d7 (by exact ResOk.cell rfl aJ (ResOk.tmp rfl (ResOk.nil))) ah ⟨_,_,rfl,⟨eK,eK⟩,rfl⟩
 ·refine Tri.bd (args:=[ac 8]) ?_;refine IF ?_;intros;exact KX.d7 (by exact ResOk.cell rfl aJ (ResOk.tmp rfl (ResOk.nil))) ah ⟨_,_,rfl,⟨eK,eK⟩,rfl⟩
 ·refine Tri.bd (args:=[ac 4]) ?_;refine IF ?_;intros;exact KX.d7 (by exact ResOk.cell rfl aJ (ResOk.tmp rfl (ResOk.nil))) ah ⟨_,_,rfl,⟨lg,lg⟩,rfl⟩
def jC(rules:List RuM)(s:StM):Prop:=if s.kind=4 then gS rules s.rule s.times s.moves else ju s.rule s.times
noncomputable instance (a b):Decidable (jC a b):=Classical.propDecidable _
def mA(c:CatM)(now:Int)(s:StM):Prop :=
 accP s.actor∧(0≤s.tick∧s.tick≤1099511627776∧now≤s.tick)∧(1≤s.moves.length∧s.moves.length≤64) ∧
 (∀m∈s.moves,iM c.items.length (nk s.kind) (kTo s.kind) m=true)∧jC c.rules s
noncomputable instance (a b c):Decidable (mA a b c):=Classical.propDecidable _
def xnow(x:LedX):Int:=(x.steps.getLast?.map (·.tick)).getD 0
abbrev Bz:Nat:=267
abbrev BQ:=ar3 [.ev 4,.ef 5,.ev 6,.ev 7,.ev 8,.ev 9,.ev 10,.ev 11,.ev 12,.ev 13,.ev 14,.ev 15,.ev 16,.ev 17,.ev 18,.ev 19,.ev 20,.ev 21,.ef 22,.ev 23,.ev 24,.ev 25,.ev 26,.ev 27,.ev 28,.ev 29,.ev 30,.ev 31,.ev 32,.ev 33,.ev 34,.ev 35,.ev 36]
def JV{φ ψ:Prop}(k:ψ)(h:Hid ψ→φ:=by intro k;(repeat (first|refine aa ?_|intro zzz|refine G.dr 70 2 BQ ?_));(repeat revert zzz);exact Hid.out k):φ:=h ⟨k⟩
def El{L R:LH}{b:Nat}{sh:Int}{x:LedX}[hp:PickObj L b tLed (bS sh x) R][hr:Rds L x.sad StV aX 7 x.steps](s:StV)[b4:Rds L s.mad MvV aT 5 s.moves](hk:lp s.kind)(hc:x.cat.m.Ok)(hB:x.cat.B)(b6:x.steps.length≤65536)(b1:s.moves.length≤1000000)(a2:s.moves.length≤s.mcap)(hI:I64 s.rule) :
  Tri ai 123 #[aq b,aN (aX s)] (catP x.cat::L) (rtQ (.bool (dB (mA x.cat.m (xnow x) s.m))) (catP x.cat::L)):=by
 have a8:=hB.items;have b2:s.m.moves.length=s.moves.length:=by simp[StV.m]
 refine Tri.bd ?_;refine JV ?_;intros;rename_i b3;refine GO.ca (Aj s.kind hk) ?_;rintro _ _⟨ff,tf,rfl,⟨a5,b0⟩,rfl⟩;refine JV ?_;intros;rename_i b5;refine GPW.cr (kg s.actor) ?_;by_cases h1:accP s.actor
 case neg =>
  rw[aM h1];refine JV ?_;intros;exact KX.d7 av ah ⟨by rw[aM (fun h=>h1 h.1)];rfl,rfl⟩
 rw[aZ h1];by_cases h2:0≤s.tick
 case neg =>
  refine JV ?_;intros;exact KX.d7 av ah ⟨by rw[aM (fun h=>h2 h.2.1.1)];rfl,rfl⟩
 by_cases h3:s.tick≤1099511627776
 case neg =>
  refine JV ?_;intros;exact KX.d7 av ah ⟨by rw[aM (fun h=>h3 h.2.1.2.1)];rfl,rfl⟩
 refine JV ?_;intros;refine GPW.cr (uv (b:=b) (sh:=sh) (x:=x) ab) ?_;rw[show(x.steps.getLast?.map (·.tick)).getD 0=xnow x from rfl];by_cases h4:xnow x≤s.tick
 case neg =>
  refine JV ?_;intros;exact KX.d7 av ah ⟨by rw[aM (fun h=>h4 h.2.1.2.2)];rfl,rfl⟩
 by_cases h5:1≤s.moves.length
 case neg =>
  refine JV ?_;intros;exact KX.d7 av ah ⟨by rw[aM (fun h=>h5 (by have:=h.2.2.1.1;omega))];rfl,rfl⟩
 by_cases h6:s.moves.length≤64
 case neg =>
  refine JV ?_;intros;exact KX.d7 av ah ⟨by rw[aM (fun h=>h6 (by have:=h.2.2.1.2;omega))];rfl,rfl⟩
 refine JV ?_;intros;refine G.loop (α:=Nat) (fun i=>i≤s.moves.length∧∀j:Nat,j<i→iM x.cat.items.length (nk s.kind) (kTo s.kind) s.moves[j]!.m=true) (fun i=>[(0,aq b),(3,aq b3),(4,.bool false),(5,aq b5),(53,ae s.mad s.moves.length s.mcap),(54,ac (s.moves.length:Int)),(55,ac (i:Int))]) (fun _=>obj b5 Bz [.func (.func ff) #[] #[],.func (.func tf) #[] #[],.bool false,.func (.func (mR s.kind)) #[] #[]]::obj b3 cQ (aX s)::catP x.cat::L) (fun i=>s.moves.length - i) 0 ⟨az _,fun j h=>absurd h ab⟩ an (Ent.refl _) ?_;rintro i ⟨hi,a4⟩;by_cases a9:i<s.moves.length
 case neg =>
  have a6:i=s.moves.length:=ab;subst a6
  have a1:∀m∈s.m.moves,iM x.cat.m.items.length (nk s.m.kind) (kTo s.m.kind) m=true:=by
   intro m hm;obtain⟨v,hv,rfl⟩:=List.mem_map.1 (show m∈s.moves.map MvV.m from hm);obtain⟨j,hj,rfl⟩:=List.mem_iff_getElem.1 hv;have:=a4 j hj
   rw[getElem!_of hj] at this;exact this
  have a3:dB (mA x.cat.m (xnow x) s.m)=dB (jC x.cat.m.rules s.m):=by
   by_cases hw:jC x.cat.m.rules s.m
   ·rw[aZ hw,aZ ⟨h1,⟨h2,h3,h4⟩,⟨ab,ab⟩,a1,hw⟩]
   ·rw[aM hw,aM (fun h=>hw h.2.2.2.2)]
  rw[a3];refine JV ?_;intros;by_cases a0:s.kind=4
  ·have e1:mR s.kind=259:=by unfold mR;rw[if_pos a0]
   have e2:dB (jC x.cat.m.rules s.m)=dB (gS x.cat.m.rules s.rule s.times (s.moves.map MvV.m)):=by
    have e:jC x.cat.m.rules s.m=gS x.cat.m.rules s.rule s.times (s.moves.map MvV.m):=by unfold jC;exact if_pos a0
    by_cases hw:gS x.cat.m.rules s.rule s.times (s.moves.map MvV.m)
    ·rw[aZ hw,aZ (e▸hw)]
    ·rw[aM hw,aM (e▸hw)]
   rw[e1,e2];refine GO.ent (Ent.at (A:=catP x.cat) (Ent.refl _)) ?_;refine GO.ef (Ef.d8 rfl rfl (pK (b:=b) (sh:=sh) (x:=x) s hc hB h6 a2 hI)) ag ?_;rintro _ _⟨rfl,rfl⟩;refine JV ?_;intros;exact KX.en ⟨rfl,rfl⟩
  ·have e1:mR s.kind=257:=by unfold mR;rw[if_neg a0]
   have e2:dB (jC x.cat.m.rules s.m)=dB (ju s.rule s.times):=by
    have e:jC x.cat.m.rules s.m=ju s.rule s.times:=by unfold jC;exact if_neg a0
    by_cases hw:ju s.rule s.times
    ·rw[aZ hw,aZ (e▸hw)]
    ·rw[aM hw,aM (e▸hw)]
   rw[e1,e2];refine GO.ef (Ef.d8 rfl rfl (pI b s)) ag ?_;rintro _ _⟨rfl,rfl⟩;refine JV ?_;intros;exact KX.en ⟨rfl,rfl⟩
 have a7:(i:Int).toNat=i:=ab;refine JV ?_;intros;rw[a7];refine GO.cr (ES (b:=b) (sh:=sh) (x:=x) ff tf (mR s.kind) (nk s.kind) (kTo s.kind) a5 b0 s.moves[i]! a8) ?_;cases h7:iM x.cat.items.length (nk s.kind) (kTo s.kind) s.moves[i]!.m with
 | false =>
  refine JV ?_;intros;refine KX.d7 av ah ⟨?_,rfl⟩;rw[aM]
  ·rfl
  intro h;have h8:=h.2.2.2.1 s.moves[i]!.m (alStd0List_mem_map_of_mem (aL a9));rw[show iM x.cat.m.items.length (nk s.m.kind) (kTo s.m.kind) s.moves[i]!.m=false from h7] at h8;cases h8
 | true =>
  refine JV ?_;intros;refine⟨i+1,⟨ab,?_⟩,ab,?_,by exact ah⟩
  ·intro j hj;rcases dl j i with h|h
   ·exact a4 j h
   ·obtain rfl:j=i:=ab;exact h7
  ·rw[aU i];exact an
def rx{l:LL1}{x:Lot}(h:∀y∈l,LotOk y)(hx:LotW x):∀y∈ba l x,LotOk y:=by
 intro y hy;unfold ba at hy;unfold LotW at hx;split at hy
 ·exact h y hy
 rename_i h0;split at hy
 ·rename_i h1;obtain⟨h1,h2⟩:=h1;rcases bX hy with hy|rfl
  ·exact h y hy
  ·have h3:=lcont_iff.1 h2;have h4:=h _ (aL (ab:l.length - 1<l.length));unfold LotOk at h4 ⊢;dsimp only;omega
 ·rcases List.mem_append.1 hy with hy|hy
  ·exact h y hy
  ·simp at hy;subst hy;unfold LotOk;omega
def lI{xs:LL1}:∀{l:LL1},(∀y∈l,LotOk y)→(∀y∈xs,LotW y)→∀y∈xs.foldl ba l,LotOk y:=by
 induction xs with
 | nil=>intro l h _;exact h
 | cons x xs ih=>intro l h hx;exact ih (rx h (hx x (au ..))) (fun y hy=>hx y (aw _ hy))
def sT{l:LL1}{cs:Nat→Int}(hw:∀x∈l,LotOk x)(hc:∀k,k<l.length→0≤cs k∧cs k≤l[k]!.2.2):(∀x∈divF l cs l.length,LotOk x)∧∀x∈divR l cs l.length,LotOk x:=by
 refine⟨lI bH ?_,lI bH ?_⟩
 all_goals
  intro y hy
  obtain⟨k,hk,rfl⟩:=List.mem_map.1 hy
  have hk:=List.mem_range.1 hk
 ·exact(pc_w hk (fun x h=>(hw x h).w) (hc k hk)).1
 ·exact(pc_w hk (fun x h=>(hw x h).w) (hc k hk)).2
abbrev BN:List Stp:=[.ev 0,.ev 2,.ef 1,.ef 3,.ev 4]
def iu{φ ψ:Prop}(k:ψ)(h:Hid ψ→φ:=by intro k;first|refine GO.ci (f:=267) (Hid.out k)|refine GPW.ci (f:=267) (Hid.out k)|refine GO.cf (f:=267) rfl (Hid.out k)|refine GPW.cf (f:=267) rfl (Hid.out k)|refine KX.inA (Hid.out k)):φ:=h ⟨k⟩
def ir{φ ψ:Prop}(k:ψ)(h:Hid ψ→φ:=by intro k;(with_reducible apply G.d7);first|refine G.dr 17 3 BN (Hid.out k)):φ:=h ⟨k⟩
def aq8{φ ψ:Prop}(k:ψ)(h:Hid ψ→φ:=by intro k;(repeat (first|refine aa ?_|intro zzz|refine ir ?_|refine iu ?_));(repeat revert zzz);exact Hid.out k):φ:=h ⟨k⟩
def ux{L:LH}(ad:OA)(cap:Nat)(xs:LL1)(x:Lot)(hl:xs.length≤4096)(a4:∀l∈xs,LotOk l)(hx:LotOk x) :
  Tri ai 217 #[ae ad xs.length cap,aN (ay x)] (isl ay 3 ad xs::L) (fun v L'=>∃a3 a0,v=ae a3 (ba xs x).length a0∧L' = osl ay 3 tLot a3 a0 (ba xs x)::isl ay 3 ad xs::L):=by
 have a7:=hx;obtain⟨o1,o2,o3,o4,o5⟩:=a7;refine Tri.bd ?_;refine aq8 ?_;intros;refine GO.cr (hD ad xs.length cap xs rfl hl a4) ?_;refine aq8 ?_;intros;rw[aZ o5];refine aq8 ?_;intros;refine GPW.ca (gV ad xs.length cap xs rfl ab) ?_;rintro _ _⟨a5,a1,rfl,rfl⟩;refine aq8 ?_;intros;refine GPW.ca (pM a5 a1 xs x ab (fun y h=>(a4 y h).w) hx.w) ?_;rintro _ _⟨a6,a2,rfl,rfl⟩;refine aq8 ?_;intros;exact KX.en ⟨a6,a2,rfl,rfl⟩
def shQ(l:LL1)(n:Int)(k:Nat):Int:=n*l[k]!.2.2 / lsum l
def shR(l:LL1)(n:Int)(k:Nat):Int:=n*l[k]!.2.2 % lsum l
def GA(l:LL1)(n:Int)(k:Nat):Nat:=((List.range l.length).filter (fun j=>decide (shR l n k<shR l n j∨(shR l n j=shR l n k∧j<k)))).length
def iI(l:LL1)(n:Int):Int:=n - (List.range l.length).foldl (fun s k=>s+shQ l n k) 0
def shC(l:LL1)(n:Int)(k:Nat):Int:=shQ l n k+(if(GA l n k:Int)<iI l n then 1 else 0)
def tkC(mixed:Bool)(l:LL1)(n:Int):Nat→Int:=if mixed=true∧0<n then shC l n else fuC l n
def iO(mixed:Bool)(l:LL1)(n:Int):LL1:=divF l (tkC mixed l n) l.length
def fV(mixed:Bool)(l:LL1)(n:Int):LL1:=divR l (tkC mixed l n) l.length
structure TakeC (mixed:Bool):Prop where
 bd:∀(l:LL1) (n:Int),(∀x∈l,LotOk x)→0≤n→n≤lsum l→∀k,k<l.length→0≤tkC mixed l n k∧tkC mixed l n k≤l[k]!.2.2
 tri:∀(L:LH) (ad:OA) (c:Nat) (xs:LL1) (n:Int),xs.length≤4096→(∀l∈xs,LotOk l)→0≤n→n≤1099511627776 →
  Tri ai 284 #[ae ad xs.length c,ac n,.bool mixed] (isl ay 3 ad xs::L) (fun v L' =>
   (lsum xs<n∧v=.tuple #[ae none 0 0,ae none 0 0,ac 10]∧L' = isl ay 3 ad xs::L) ∨
   (n≤lsum xs∧∃ad1 c1 ad2 c2,v=.tuple #[ae ad1 (iO mixed xs n).length c1,ae ad2 (fV mixed xs n).length c2,ac 0]∧L' = osl ay 3 tLot ad1 c1 (iO mixed xs n)::osl ay 3 tLot ad2 c2 (fV mixed xs n)::isl ay 3 ad xs::L))
def yp:TakeC false where
 bd:=fun l n hl h0 _ k hk=>pS h0 (fun x h=>(hl x h).w) k hk
 tri:=fun _ ad c xs n h1 h2 h3 h4=>Bw ad c xs n false rfl h1 h2 h3 h4
structure ChX where
 cs:Nat
 ct:Nat
 ci:Nat
 cr:Nat
 stk:List ((Int×Int)×Stk)
 tot:List (Int×Int)
 flows:List FlV
 fad:OA
 fcap:Nat
 sunk:List Int
 kad:OA
 kcap:Nat
abbrev tCh:Nat:=131
abbrev fX(b:Nat)(s:StV)(z:ChX):LV:=[aq b,ac s.id,ac s.kind,ac s.actor,ac s.tick,ac s.rule,ac s.times,ae s.mad s.moves.length s.mcap,.map (some z.cs),.map (some z.ct),.map (some z.ci),.map (some z.cr),ae z.fad z.flows.length z.fcap,ae z.kad z.sunk.length z.kcap]
abbrev chL(b bc:Nat)(s:StV)(z:ChX)(L:LH):LH :=
 obj bc tCh (fX b s z)::gmap kvP Stk.v z.cs z.stk::gmap kvI encN z.ct z.tot::gmap kvI Stk.v z.ci []::gmap kvI Stk.v z.cr []::osl bT 11 dz z.fad z.fcap z.flows::osl (encZ .i64) 1 tInt z.kad z.kcap z.sunk::allP (fun p:(Int×Int)×Stk=>stkP p.2) z.stk::allP flP z.flows::L
def curS(x:LedX)(z:ChX)(k:Int×Int):Stk:=(glk z.stk k).getD (eU x.stk k)
def nM{κ:Type}[DecidableEq κ](m:List (κ×Stk))(k:κ):((@List.lookup _ _ instBEqOfDecidableEq k m).map Stk.v).getD (ae none 0 0)=(eU m k).v:=by
 unfold eU glk;cases @List.lookup _ _ instBEqOfDecidableEq k m<;>rfl
def na{κ:Type}[DecidableEq κ]{m:List (κ×Stk)}(k:κ){L:LH}:Ent (allP (fun p:κ×Stk=>stkP p.2) m::L) (stkP (eU m k)::allP (fun p:κ×Stk=>stkP p.2) m::L):=by
 unfold eU;cases h:glk m k with
 | none=>exact Ent.f8 ay 3 none
 | some s=>exact Ent.d9 (f:=fun p:κ×Stk=>stkP p.2) (x:=(k,s)) (jl h)
abbrev BP:=ar6 [.ev 10]
abbrev BO:=ar6 []
def Kl{φ ψ:Prop}(k:ψ)(h:Hid ψ→φ:=by intro k;(repeat (first|refine aa ?_|intro zzz|refine G.dr 33 2 BP ?_|refine G.dr 33 5 BO ?_));(repeat revert zzz);exact Hid.out k):φ:=h ⟨k⟩
def qg{L R1 R2 R3 R4:LH}{b bc:Nat}{sh:Int}{x:LedX}{s:StV}{z:ChX}[a0:PickObj L b tLed (bS sh x) R1][a1:PickObj L bc tCh (fX b s z) R2][a2:PickG L z.cs (Int×Int) Stk kvP Stk.v z.stk R3][a3:PickG L x.ms (Int×Int) Stk kvP Stk.v x.stk R4](a i:Int) :
  Tri ai 216 #[aq bc,ac a,ac i] L (rtQ ((curS x z (a,i)).v) L):=by
 refine Tri.bd ?_;refine Kl ?_;intros;refine GPW.evL (Ev.m6 rfl rfl) ag ?_;cases h:@List.lookup _ _ instBEqOfDecidableEq (a,i) z.stk with
 | some k =>
  simp only[eZ,fY,Option.isSome_some];refine Kl ?_;intros;refine KX.d7 av ah ⟨?_,rfl⟩;unfold curS glk;rw[h];rfl
 | none =>
  simp only[ez,dW,Option.isSome_none];refine Kl ?_;intros;refine GPW.evL (Ev.d8 rfl rfl) ag ?_;rw[nM];refine Kl ?_;intros;refine KX.d7 av ah ⟨?_,rfl⟩;unfold curS glk;rw[h];rfl
def xT{x:LedX}{z:ChX}(k:Int×Int){L:LH}:Ent (allP (fun p:(Int×Int)×Stk=>stkP p.2) z.stk::allP (fun p:(Int×Int)×Stk=>stkP p.2) x.stk::L) (stkP (curS x z k)::allP (fun p:(Int×Int)×Stk=>stkP p.2) z.stk::allP (fun p:(Int×Int)×Stk=>stkP p.2) x.stk::L):=by
 unfold curS;cases h:glk z.stk k with
 | none=>exact(Ent.d7 (na k)).trans Ent.swap
 | some s=>exact Ent.d9 (f:=fun p:(Int×Int)×Stk=>stkP p.2) (x:=(k,s)) (jl h)
def jj{m:List ((Int×Int)×Stk)}{k:Int×Int}{s:Stk}{L:LH}:Ent (stkP s::allP (fun p:(Int×Int)×Stk=>stkP p.2) m::L) (allP (fun p:(Int×Int)×Stk=>stkP p.2) (gins m k s)::L) :=
 (Ent.g9 (f:=fun p:(Int×Int)×Stk=>stkP p.2) (fun p=>nL p.2) (x:=(k,s)) (l:=m)).trans (Ent.l6 (l':=gins m k s) oG)
def xS{x:LedX}{z:ChX}{k q:Int×Int}{s:Stk}:curS x { z with stk:=gins z.stk k s } q=if q=k then s else curS x z q:=by
 unfold curS glk;dsimp only;have h:=hJ (m:=z.stk) (k:=k) (q:=q) (a:=s);by_cases hq:q=k
 ·rw[if_pos hq] at h ⊢;exact(congrArg (fun o:Option Stk=>o.getD (eU x.stk q)) h)
 ·rw[if_neg hq] at h ⊢;exact(congrArg (fun o:Option Stk=>o.getD (eU x.stk q)) h)
structure WdOk (x:LedX) (z:ChX) (m:MvM):Prop where
 item:0≤m.item∧m.item<x.cat.items.length
 n:0≤m.n∧m.n≤1099511627776
 parts:m.parts.length=0
 len:(curS x z (m.frm,m.item)).lots.length≤4096
 lots:∀l∈(curS x z (m.frm,m.item)).lots,LotOk l
def bO(x:LedX)(i:Int):Bool:=x.cat.items[i.toNat]!.mixed
abbrev BM:=ar7 [.ev 13,.ev 14,.ev 15,.ef 16,.ev 17,.ev 18,.ev 19,.ev 20,.ev 21,.ev 22,.ev 23]
abbrev BL:=ar4 [.ef 6]
abbrev yC:=ar5 [.ef 8,.ef 9]
def Kp{φ ψ:Prop}(k:ψ)(h:Hid ψ→φ:=by intro k;(repeat (first|refine aa ?_|intro zzz|refine G.dr 73 4 BM ?_|refine G.dr 73 7 BL ?_|refine G.dr 73 11 yC ?_));(repeat revert zzz);exact Hid.out k):φ:=h ⟨k⟩
def uU{L:LH}(b bc:Nat)(sh:Int)(x:LedX)(s:StV)(z:ChX)(m:MvV)(h:WdOk x z m.m)(hT:TakeC (bO x m.m.item))(a7:x.cat.items.length≤64) :
  Tri ai 264 #[aq bc,aN (aT m)] (chL b bc s z (ledL b sh x L)) (fun v L' =>
   (lsum (curS x z (m.m.frm,m.m.item)).lots<m.m.n∧v=.tuple #[ae none 0 0,ac 10]∧L' = chL b bc s z (ledL b sh x L)) ∨
   (m.m.n≤lsum (curS x z (m.m.frm,m.m.item)).lots∧∃pad pcap sk,v=.tuple #[ae pad (iO (bO x m.m.item) (curS x z (m.m.frm,m.m.item)).lots m.m.n).length pcap,ac 0]∧sk.lots=fV (bO x m.m.item) (curS x z (m.m.frm,m.m.item)).lots m.m.n ∧
    L' = isl ay 3 pad (iO (bO x m.m.item) (curS x z (m.m.frm,m.m.item)).lots m.m.n)::chL b bc s { z with stk:=gins z.stk (m.m.frm,m.m.item) sk } (ledL b sh x L))):=by
 obtain⟨⟨a5,a6⟩,⟨a2,a3⟩,hp,hl,a4⟩:=h;refine Tri.bd ?_;refine G.ent (L':=stkP (curS x z (m.m.frm,m.m.item))::isl be 7 x.cat.iad x.cat.items::chL b bc s z (ledL b sh x L)) ?_ ?_
 ·simp only[chL,ledL];refine(Ent.at (A:=catP x.cat) rL).trans ?_;refine(Ent.at (A:=allP (fun p:(Int×Int)×Stk=>stkP p.2) z.stk) (Ent.refl _)).trans ?_;refine(Ent.d7 (Ent.at (A:=allP (fun p:(Int×Int)×Stk=>stkP p.2) x.stk) (Ent.refl _))).trans ?_;refine(xT (m.m.frm,m.m.item)).trans ?_;exact ah
 simp only[chL,ledL];refine Kp ?_;intros;refine GO.cr (qg (b:=b) (sh:=sh) (x:=x) (s:=s) (z:=z) m.m.frm m.m.item) ?_;generalize hsk:curS x z (m.m.frm,m.m.item)=sk at *;simp only[Stk.v];refine Kp ?_;intros;refine GPW.ent (Ent.at (A:=stkP sk) (Ent.refl _)) ?_;refine GPW.ca (hT.tri _ sk.ad sk.cap sk.lots m.m.n hl a4 a2 a3) ?_;rintro _ _ (⟨h1,rfl,rfl⟩|⟨h1,a1,c1,a0,c2,rfl,rfl⟩)
 ·refine Kp ?_;intros;exact KX.en (.inl ⟨h1,rfl,rfl⟩)
 ·refine Kp ?_;intros;refine GPW.efu (Ef.e9 (enc:=Stk.v) (e:=(⟨a0,c2,fV (bO x m.m.item) sk.lots m.m.n⟩:Stk)) rfl rfl rfl rfl) ?_;rintro _ _ rfl;refine Kp ?_;intros;refine KX.d7 av ?_ (.inr ⟨h1,a1,c1,⟨a0,c2,fV (bO x m.m.item) sk.lots m.m.n⟩,rfl,rfl,rfl⟩);refine(Ent.frz a1).trans ((Ent.frz a0).trans ?_);refine(Ent.at (A:=allP (fun p:(Int×Int)×Stk=>stkP p.2) z.stk) (Ent.refl _)).trans ?_;refine(Ent.at (A:=stkP ⟨a0,c2,fV (bO x m.m.item) sk.lots m.m.n⟩) (jj (k:=(m.m.frm,m.m.item)))).trans ?_;exact ah
structure Wk where
 stk:Int→Int→LL1
 tot:Int→Int
 flows:List FlM
 sunk:List Int
def upd2{α:Type}(f:Int→Int→α)(a i:Int)(v:α):Int→Int→α:=fun a' i'=>if a' = a∧i' = i then v else f a' i'
def gA(mix:Int→Bool)(W:Wk)(m:MvM):Int→Int→LL1:=if m.frm=0 then W.stk else upd2 W.stk m.frm m.item (fV (mix m.item) (W.stk m.frm m.item) m.n)
def jt(mix:Int→Bool)(W:Wk)(m:MvM):LL1:=if m.frm=0 then[] else iO (mix m.item) (W.stk m.frm m.item) m.n
def cX(W:Wk)(m:MvM):Int:=W.tot m.item+(if m.frm=0 then m.n else 0) - (if m.to=0 then m.n else 0)
def db(sh:Int)(nf:Nat)(W:Wk):Int:=sh*4294967296+nf+W.flows.length
def eW(s:StM)(W:Wk)(m:MvM):List Int:=if m.frm=0∧(s.kind=4∨s.kind=10) then W.sunk else[]
def kO(sh:Int)(nf:Nat)(mix:Int→Bool)(s:StM)(W:Wk)(m:MvM):FlM:=⟨db sh nf W,s.id,s.kind,s.tick,s.actor,m.frm,m.to,m.item,m.n,jt mix W m,eW s W m⟩
def gW(sh:Int)(nf:Nat)(mix:Int→Bool)(s:StM)(W:Wk)(m:MvM):Int×Wk :=
 if m.frm≠0∧lsum (W.stk m.frm m.item)<m.n then(10,W)
 else if cX W m>1099511627776 then(4,W)
 else if m.to=0 then(0,⟨gA mix W m,upd W.tot m.item (cX W m),W.flows++[kO sh nf mix s W m],W.sunk++[db sh nf W]⟩)
 else if 4096≤(gA mix W m m.to m.item).length then(4,W)
 else(0,⟨upd2 (gA mix W m) m.to m.item (ba (gA mix W m m.to m.item) (db sh nf W,0,m.n)),upd W.tot m.item (cX W m),W.flows++[kO sh nf mix s W m],W.sunk⟩)
structure WkF (x:LedX) (z:ChX) (W:Wk):Prop where
 stk:∀a i,(curS x z (a,i)).lots=W.stk a i
 tot:∀i,(glk z.tot i).getD ((glk x.tot i).getD 0)=W.tot i
 flows:z.flows.map FlV.m=W.flows
 sunk:z.sunk=W.sunk
structure Wk.Ok (nf:Nat) (W:Wk):Prop where
 stk:∀a i,(W.stk a i).length≤4096∧∀l∈W.stk a i,LotOk l
 tot:∀i,-(((nf:Int)+W.flows.length)*1099511627776)≤W.tot i∧W.tot i≤1099511627776
 sunk:W.sunk.length≤W.flows.length
def iN{L:LH}(ad:OA)(n c:Nat)(xs:List Int)[Rds L ad Int (encZ .i64) 1 xs](hn:n=xs.length)(hb:n≤1000000) :
  Tri ai 103 #[ae ad n c] L (fun v L'=>∃a1 a0,v=ae a1 xs.length a0∧L' = osl (encZ .i64) 1 tInt a1 a0 xs::L):=by
 refine Tri.bd ?_;repeat' first|refine aa ?_|intro _|with_reducible refine CB.dec (fun _=>?_) (fun _=>?_)|with_reducible refine GB.dec (fun _=>?_) (fun _=>?_)|with_reducible refine CB.bool (fun _=>?_) (fun _=>?_)|with_reducible refine GB.bool (fun _=>?_) (fun _=>?_)
 ·have h:ad=none:=by assumption
  subst h;refine KX.l7 (.inl rfl) (nO (L:=L) (xs:=xs)) ?_;intro hx;subst hx;refine KX.d7 av (Ent.d8 (encZ .i64) 1 tInt) ⟨_,_,rfl,rfl⟩
 ·refine GO.ent (Ent.e9 (enc:=encZ .i64) (sz:=1) (xs:=[]) rfl rfl bH bH) ?_;refine GO.ef (Ef.j0 rfl rfl rfl rfl hn (fun e _=>by simp[encZ,Value.oneCell']) fy fy) ag ?_;rintro _ _⟨a1,a0,rfl,rfl⟩;refine IF ?_;intros;refine KX.d7 av (Ent.refl _) ⟨a1,a0,rfl,rfl⟩
structure MvFit (x:LedX) (m:MvM):Prop where
 item:0≤m.item∧m.item<x.cat.items.length
 n:1≤m.n∧m.n≤1099511627776
 frm:accP m.frm
 to:accP m.to
 ne:m.frm≠m.to
 parts:m.parts.length=0
abbrev yQ:List Stp:=[.ev 0,.ev 1,.ev 3,.ev 4,.ef 2,.ef 5,.ev 6,.ev 7]
abbrev yP:List Stp:=[.ev 0,.ev 1,.ev 3,.ev 4,.ef 2,.ef 5,.ev 6,.ev 7]
def Ku{φ ψ:Prop}(k:ψ)(h:Hid ψ→φ:=by intro k;(repeat (first|refine aa ?_|intro zzz|refine G.dr 35 5 yQ ?_|refine G.dr 35 7 yP ?_));(repeat revert zzz);exact Hid.out k):φ:=h ⟨k⟩
def Aw{L:LH}(b bc:Nat)(sh:Int)(x:LedX)(s:StV)(z:ChX)(m:MvV)(W:Wk)(hW:WkF x z W)(hO:W.Ok x.flows.length)(h:MvFit x m.m)(hk:lp s.kind)(hT:∀mx,TakeC mx)(a2:x.cat.items.length≤64) :
  Tri ai 215 #[aq bc,aN (aT m)] (chL b bc s z (ledL b sh x L)) (fun v L' =>
   ((m.m.frm≠0∧lsum (W.stk m.m.frm m.m.item)<m.m.n)∧v=.tuple #[ae none 0 0,ac 10]∧L' = chL b bc s z (ledL b sh x L)) ∨
   (¬(m.m.frm≠0∧lsum (W.stk m.m.frm m.m.item)<m.m.n)∧∃pad pcap a1,v=.tuple #[ae pad (jt (bO x) W m.m).length pcap,ac 0]∧(∀a i,(curS x { z with stk:=a1 } (a,i)).lots=gA (bO x) W m.m a i) ∧
    L' = isl ay 3 pad (jt (bO x) W m.m)::chL b bc s { z with stk:=a1 } (ledL b sh x L))):=by
 have a4:s.kind≠5:=by unfold lp at hk;omega
 have a5:s.kind≠9:=by unfold lp at hk;omega
 have a0:=hW.stk m.m.frm m.m.item;refine Tri.bd ?_;by_cases h0:m.m.frm=0
 ·simp only[chL,ledL];refine Ku ?_;intros;refine KX.d7 av ?_ (.inr ⟨fun h=>h.1 h0,none,0,z.stk,?_,?_,rfl⟩)
  ·rw[show jt (bO x) W m.m=[] by unfold jt;rw[if_pos h0]];refine Ent.trans ?_ (Ent.f8 ay 3 none);exact ah
  ·rw[show jt (bO x) W m.m=[] by unfold jt;rw[if_pos h0]];rfl
  ·intro a i;unfold gA;rw[if_pos h0];exact hW.stk a i
 ·refine Ku ?_;intros;refine GO.ent Ent.drop ?_;refine GO.ca (uU b bc sh x s z m ⟨h.item,⟨by have:=h.n;omega,h.n.2⟩,h.parts,by rw[a0];exact(hO.stk _ _).1,by rw[a0];exact(hO.stk _ _).2⟩ (hT _) a2) ?_;rw[a0];rintro _ _ (⟨h1,rfl,rfl⟩|⟨h1,pad,pcap,sk,rfl,a3,rfl⟩)
  ·refine Ku ?_;intros;exact KX.d7 av (Ent.refl _) (.inl ⟨⟨h0,h1⟩,rfl,rfl⟩)
  ·have e:jt (bO x) W m.m=iO (bO x m.m.item) (W.stk m.m.frm m.m.item) m.m.n:=by unfold jt;rw[if_neg h0]
   rw[e];refine Ku ?_;intros;refine KX.d7 av (Ent.refl _) (.inr ⟨fun h=>by omega,pad,pcap,gins z.stk (m.m.frm,m.m.item) sk,rfl,?_,rfl⟩);intro a i;rw[xS];unfold gA upd2;rw[if_neg h0];by_cases hq:a=m.m.frm∧i=m.m.item
   ·obtain⟨rfl,rfl⟩:=hq;rw[if_pos rfl,if_pos ⟨rfl,rfl⟩,a3]
   ·rw[if_neg (fun h=>hq (by simpa using h)),if_neg hq];exact hW.stk a i
end
section
open Go.V
attribute [local irreducible] G GO GP GPW GPK Ev Ef EfR Ent CB GB V.Enters
def kindsL:List Int:=[0,0,0,0,0,0,0,0,0,1,1,0,0,0,0,0,0,0,0,0,0,0,0,0,0,0,0,0,0,0,0,0,1,0,0,2,0,0,0,0,7,7,0,7,7,6,7,0,4,4,4,4,4,4,4,4,4,4,7,7,7,7,7,0,0,0,0,0,0,0,0,0,0,0,0,0,0,0,0,0,0,0,0,0,0,0,0,0,0,0,0,0,0,0,0,5,0,3,3,3,3,3,3,3,3,3,3,3,3,3,3,3,3,3,3,3,3,3,3,3,3,3,3,7,0,7,0,0]
abbrev cn:HP:=isl (encZ .u8) 1 (some ⟨2,0,none⟩) kindsL
def sI:kindsL.length=128:=krStd0
def fQ(s:ByteArray)(i:Int):Int:=if i<s.size∧(cW s)[i.toNat]! < 128 then kindsL[((cW s)[i.toNat]!).toNat]! else 0
def lP{L:LH}(s:ByteArray)(i:Int)(h0:0≤i)(hs:s.size≤1000000)[Rds L (some ⟨2,0,none⟩) Int (encZ .u8) 1 kindsL] :
  Tri ai 310 #[.string s,ac i] L (rtQ (.int .u8 (fQ s i)) L):=by
 have a1:=sI;refine Tri.bd ?_;by_cases h1:i<s.size
 case neg =>
  have e:fQ s i=0:=if_neg fun h=>h1 h.1;rw[e];repeat first|refine run ?_|intro
  exact KX.en ⟨rfl,rfl⟩
 have hb:=un s _ (aL (show i.toNat<(cW s).length by rw[oz];omega));by_cases h2:(cW s)[i.toNat]! < 128
 case neg =>
  have e:fQ s i=0:=if_neg fun h=>h2 h.2;rw[e];repeat first|refine run ?_|intro
  exact KX.en ⟨rfl,rfl⟩
 have e:fQ s i=kindsL[((cW s)[i.toNat]!).toNat]!:=if_pos ⟨h1,h2⟩;rw[e];obtain⟨c,hc⟩:∃c,(cW s)[i.toNat]! = c:=⟨_,rfl⟩;rw[hc] at hb h2 ⊢;have hm:((cW s)[i.toNat]!).toNat*1=c.toNat*1+0:=by rw[hc];omega
 have a0:0+((cW s)[i.toNat]!).toNat*1=c.toNat*1+0:=by rw[hc];omega
 repeat first|refine run ?_|intro
 refine GO.ev (Ev.q8 (j:=c.toNat) (o:=0) rfl a0 ab ag rfl) ag ?_;repeat first|refine run ?_|intro
 exact KX.en ⟨rfl,rfl⟩
structure IsWord (s:ByteArray):Prop where
 size:1≤s.size∧s.size≤16
 first:fQ s 0=3
 rest:∀i:Nat,i<s.size→fQ s i=3∨fQ s i=4∨fQ s i=5
def EE(s:ByteArray):fQ s s.size=0:=if_neg fun h=>absurd h.1 ab
def uf{L:LH}(s:ByteArray)(i:Int)(h0:0≤i)(hs:s.size≤1000000)(hk:i<s.size→fQ s i≠1∧fQ s i≠2)[Rds L (some ⟨2,0,none⟩) Int (encZ .u8) 1 kindsL] :
  Tri ai 296 #[.string s,ac i] L (rtQ (ac i) L):=by
 refine Tri.bd ?_;repeat first|refine run ?_|intro
 refine G.d9 1 (GR.step ?_);by_cases h1:i<s.size
 case neg =>
  repeat first|refine run ?_|intro
  exact KX.en ⟨rfl,rfl⟩
 obtain⟨a0,a1⟩:=hk h1;repeat first|refine run ?_|intro
 refine GO.cr (lP s i h0 hs) ?_;repeat first|refine run ?_|intro
 exact KX.en ⟨rfl,rfl⟩
structure Tok where
 kind:Int
 text:ByteArray
 n:Int
 pos:Int
 deriving Inhabited
def encT(t:Tok):LV:=[ac t.kind,.string t.text,ac t.n,ac t.pos]
def mW(t:Tok):∀u∈encT t,u.oneCell' = true:=by simp[encT,Value.oneCell']
instance:EncC encT:=⟨mW⟩
def iL(s:ByteArray):Tok:=⟨0,s,0,0⟩
abbrev tTok:Nat:=303
abbrev yR:=ar6 [.ef 10]
def gL{φ ψ:Prop}(k:ψ)(h:Hid ψ→φ:=by intro k;(with_reducible apply G.d7);first|refine G.dr 99 20 yR (Hid.out k)):φ:=h ⟨k⟩
def Es{L:LH}(s:ByteArray)(hw:IsWord s)[Rds L (some ⟨2,0,none⟩) Int (encZ .u8) 1 kindsL] :
  Tri ai 297 #[.string s,ac 0] L (rtQ (.tuple #[aN (encT (iL s)),ac 0]) L):=by
 have a5:=hw.size;refine Tri.bd ?_;repeat first|refine run ?_|intro _|refine gL ?_
 rename_i b4 b6;refine GO.cr (lP s 0 ag ab) ?_;rw[hw.first];repeat first|refine run ?_|intro _|refine gL ?_
 refine GO.cr (lP s (0+1) ag ab) ?_;repeat first|refine run ?_|intro _|refine gL ?_
 refine G.loop (α:=Nat) (fun e=>1≤e∧e≤s.size) (fun e=>[(0,.string s),(1,ac 0),(4,aq b4),(6,aq b6),(7,ac (e:Int)),(8,.int .u8 (fQ s (e:Int)))])
  (fun _=>obj b6 tTok [ac 0,.string ⟨#[]⟩,ac 0,ac 0]::obj b4 tTok [ac 0,.string ⟨#[]⟩,ac 0,ac 0]::L) (fun e=>s.size - e) 1 ⟨ab,ab⟩ an (Ent.refl _) ?_
 rintro e ⟨a3,a4⟩;by_cases a2:e<s.size
 case neg =>
  have a0:e=s.size:=ab;subst a0;rw[EE];repeat first|refine run ?_|intro _|refine gL ?_
  rw[dJ,aD,nI];exact KX.d7 (by exact ResOk.cell rfl aJ (ResOk.tmp rfl (ResOk.nil))) (Ent.trans Ent.drop Ent.drop) ⟨rfl,rfl⟩
 have hr:=hw.rest e a2
 have a1:∀{q:Prop},(fQ s (e:Int)=3→q)→(fQ s (e:Int)≠3→fQ s (e:Int)=4→q)→(fQ s (e:Int)≠3→fQ s (e:Int)≠4→fQ s (e:Int)=5→q)→q:=by
  intro q a b c;rcases hr with h|h|h
  ·exact a h
  ·exact b ab h
  ·exact c ab ab h
 refine a1 ?_ ?_ ?_<;>intros
 all_goals
  repeat first|refine run ?_|intro _|refine gL ?_
  refine GO.cr (lP s ((e:Int)+1) ab ab) ?_
  repeat first|refine run ?_|intro _|refine gL ?_
  refine⟨e+1,⟨ab,ab⟩,ab,?_,Ent.refl _⟩
  rw[aU e]
  exact an
def Gw{L0:LH}(bx:Nat)(s:ByteArray)(hw:IsWord s)[hrd:Rds L0 (some ⟨2,0,none⟩) Int (encZ .u8) 1 kindsL] :
  Iter ai 295 [aq bx] [[aN (encT (iL s)),ac 0]] (obj bx 9 [.string s]::L0):=by
 have a2:=hw.size;have a1:=hw.first;have a3:(iL s).text.size=s.size:=rfl;intro l J Jx hy;have a0:=hy 0 bH;simp only[List.getElem_cons_zero] at a0;show Tri _ _ _ _ (fun _ L'=>L' = J 1::_∨_);refine Tri.bd (args:=[.func (.yield l) #[] #[],aq bx]) ?_;repeat first|refine run ?_|intro
 refine GO.cr (uf s 0 ag ab (fun _=>by rw[a1];decide)) ?_;repeat first|refine run ?_|intro
 refine G.d9 2 (GR.step ?_);repeat first|refine run ?_|intro
 refine GO.cr (Es s hw) ?_;repeat first|refine run ?_|intro _
 ((with_reducible apply GO.d7);refine GO.efR (EfR.yield (a0) rfl rfl cT) ag ?_);rintro _ _⟨_,(⟨rfl,rfl⟩|⟨rfl,rfl⟩),hL⟩
 ·simp only[ak,aj] at hL;subst hL;repeat first|refine run ?_|intro
  refine GO.cr (uf s (0+((iL s).text.size:Int)) ab ab (fun h=>absurd h ab)) ?_;repeat first|refine run ?_|intro
  refine GR.step ?_;repeat first|refine run ?_|intro
  exact KX.e7 av (Ent.d7 Ent.drop) (.inl rfl)
 ·simp only[ak,aj] at hL;subst hL;repeat first|refine run ?_|intro
  exact KX.d7 av (Ent.d7 Ent.drop) (.inr ⟨0,rfl⟩)
abbrev Cd:List Stp:=[.ev 0,.ev 1,.ev 2,.ef 3,.ef 4,.ef 5]
def ip{φ ψ:Prop}(k:ψ)(h:Hid ψ→φ:=by intro k;first|refine GO.ci (f:=280) (Hid.out k)|refine GPW.ci (f:=280) (Hid.out k)|refine GO.cf (f:=280) rfl (Hid.out k)|refine GPW.cf (f:=280) rfl (Hid.out k)|refine KX.inA (Hid.out k)):φ:=h ⟨k⟩
def io{φ ψ:Prop}(k:ψ)(h:Hid ψ→φ:=by intro k;(with_reducible apply G.d7);first|refine G.dr 25 8 Cd (Hid.out k)):φ:=h ⟨k⟩
def yn{L:LH}(s:ByteArray)(hw:IsWord s)[Rds L (some ⟨2,0,none⟩) Int (encZ .u8) 1 kindsL] :
  Tri ai 251 #[.string s] L (fun v L'=>∃ad cap,v=.tuple #[ae ad 1 cap,ac 0,ac 0]∧L' = osl encT 4 tTok ad cap [iL s]::L):=by
 have a3:=hw.size;refine Tri.bd ?_;repeat first|refine run ?_|intro _|refine io ?_|refine ip ?_
 rename_i b2 b3 b4 b5 bx;refine G.rangeFunc (Gw (L0:=L) bx s hw) rfl en295.1 ag bH (fun k=>if k=0 then[obj b5 300 [ae none 0 0],obj b2 300 [ae none 0 0],obj b3 3 [ac 0],obj b4 42 [ac 0]] else[hex fun x:OA×Nat=>cY [obj b5 300 [ae x.1 1 x.2],osl encT 4 tTok x.1 x.2 [iL s]],obj b2 300 [ae none 0 0],obj b3 3 [ac 0],obj b4 42 [ac 0]]) ?_ ?_ ?_
 ·simp only[if_true,ak,aj];exact ah
 ·intro k hk;have a2:k=0:=by simpa using hk
  subst a2;simp only[if_true,List.getElem_cons_zero,dj,Nat.one_ne_zero,if_false];show G _ _ _ ((14,ac 0)::(13,aN (encT (iL s)))::_) _ _;repeat first|refine run ?_|intro _|refine io ?_|refine ip ?_
  refine GO.ent (Ent.d8 encT 4 tTok) ?_;refine GO.ef (Ef.d7 (enc:=encT) (e:=iL s) rfl rfl rfl rfl rfl aJ (mW _) bH bH) ag ?_;rintro _ _⟨a1,a0,rfl,rfl⟩;repeat first|refine run ?_|intro _|refine io ?_|refine ip ?_
  refine KX.round ?_;refine Ent.trans ?_ (Ent.l7 (a1,a0) (Ent.refl _));simp only[ak,aj];exact ah
 simp only[bE,cU,dj,Nat.one_ne_zero,if_false,ak,aj];refine KX.d8 ?_;repeat first|refine run ?_|intro _|refine io ?_|refine ip ?_
 refine GO.l5 (f:=fun x:OA×Nat=>[obj b5 300 [ae x.1 1 x.2],osl encT 4 tTok x.1 x.2 [iL s]]) ?_;rintro⟨a1,a0⟩;simp only[ak,aj];repeat first|refine run ?_|intro _|refine io ?_|refine ip ?_
 refine KX.d7 (by exact ResOk.d7 rfl (ResOk.d7 rfl (ResOk.d7 rfl (ResOk.nil)))) ?_ ⟨a1,a0,rfl,rfl⟩;exact ah
def mD{L:LH}(s:ByteArray)(hw:IsWord s)[Rds L (some ⟨2,0,none⟩) Int (encZ .u8) 1 kindsL] :
  Tri ai 176 #[.string s] L (rtQ (.bool true) L):=by
 have a2:([iL s]).length=1:=rfl;refine Tri.bd ?_;repeat first|refine run ?_|intro
 refine GO.ca (yn s hw) ?_;rintro _ _⟨ad,cap,rfl,rfl⟩;have a0:([iL s]:List Tok)[(0:Int).toNat]! = iL s:=rfl;have a1:(iL s).kind=0:=rfl;repeat first|refine run ?_|intro
 rw[a0];repeat first|refine run ?_|intro
 refine KX.d7 av Ent.drop ⟨?_,rfl⟩;rw[aZ (show(iL s).text=s from rfl)];rfl
end
section
open Go.V
def noP{α:Type}(_:α):HP:=dy True
def nQ{α:Type}(l:List α){L:LH}:Ent L (allP noP l::L):=fun θ R w s=>by
 obtain⟨ok,ι,h,a,b1,c,d⟩:=s;exact⟨ok,ι,h,a,b1,c,Hp.emp,Hp.emp,h,Hp.d7 _,Hp.d8 _,Hp.d7 _,Hp.sub.refl _,fun _ _=>trivial,d⟩
attribute [local irreducible] G GO GP GPW GPK Ev Ef EfR Ent CB GB V.Enters
def fG{α:Type}(f:FuncId)(cap:LV)(enc:α→LV)(p:α→HP)(C:HP)(x:α):Prop:=∀L:LH,Tri ai f (([]++[Value.agg (enc x).toArray]++cap:LV)).toArray (C::p x::L) (rtQ (.bool true) (C::p x::L))
def pV{L:LH}(f:FuncId)(cap:LV)(C:HP)(ad:OA)(c:Nat)(xs:List ItG)(hl:xs.length≤64)(hf:∀x∈xs,fG f cap be noP C x) :
  Tri ai 174 #[ae ad xs.length c,.func (.func f) #[] cap.toArray] (C::allP noP xs::isl be 7 ad xs::L) (rtQ (.bool true) (C::allP noP xs::isl be 7 ad xs::L)):=by
 refine Tri.bd ?_;refine IF ?_;intros;refine G.loop (α:=Nat) (fun i=>i≤xs.length) (fun i=>[(0,ae ad xs.length c),(1,.func (.func f) #[] cap.toArray),(7,ae ad xs.length c),(8,ac xs.length),(9,ac (i:Int))]) (fun _=>C::allP noP xs::isl be 7 ad xs::L) (fun i=>xs.length - i) 0 (az _) an (Ent.refl _) ?_;intro i hi;by_cases a2:i<xs.length
 case neg =>
  refine IF ?_;intros;exact KX.en ⟨rfl,rfl⟩
 have a1:(i:Int).toNat=i:=ab;have a0:=aL a2;refine IF ?_;intros;rw[a1];refine GO.ent (Ent.drop.trans ((Ent.d7 (Ent.d9 (f:=noP) a0)).trans (Ent.refl _))) ?_;refine GO.ef (Ef.d8 rfl rfl (hf _ a0 _)) ag ?_;rintro _ _⟨rfl,rfl⟩;refine IF ?_;intros;refine⟨i+1,ab,ab,?_,by exact ah⟩;rw[aU i];exact an
def nu{L:LH}(f:FuncId)(cap:LV)(C:HP)(ad:OA)(c:Nat)(xs:List RuV)(hl:xs.length≤64)(hf:∀x∈xs,fG f cap bj ruP C x) :
  Tri ai 168 #[ae ad xs.length c,.func (.func f) #[] cap.toArray] (C::allP ruP xs::isl bj 9 ad xs::L) (rtQ (.bool true) (C::allP ruP xs::isl bj 9 ad xs::L)):=by
 refine Tri.bd ?_;refine IF ?_;intros;refine G.loop (α:=Nat) (fun i=>i≤xs.length) (fun i=>[(0,ae ad xs.length c),(1,.func (.func f) #[] cap.toArray),(7,ae ad xs.length c),(8,ac xs.length),(9,ac (i:Int))]) (fun _=>C::allP ruP xs::isl bj 9 ad xs::L) (fun i=>xs.length - i) 0 (az _) an (Ent.refl _) ?_;intro i hi;by_cases a2:i<xs.length
 case neg =>
  refine IF ?_;intros;exact KX.en ⟨rfl,rfl⟩
 have a1:(i:Int).toNat=i:=ab;have a0:=aL a2;refine IF ?_;intros;rw[a1];refine GO.ent (Ent.drop.trans ((Ent.d7 (Ent.d9 (f:=ruP) a0)).trans (Ent.refl _))) ?_;refine GO.ef (Ef.d8 rfl rfl (hf _ a0 _)) ag ?_;rintro _ _⟨rfl,rfl⟩;refine IF ?_;intros;refine⟨i+1,ab,ab,?_,by exact ah⟩;rw[aU i];exact an
def nt{L:LH}(f:FuncId)(cap:LV)(C:HP)(ad:OA)(c:Nat)(xs:List TbV)(hl:xs.length≤64)(hf:∀x∈xs,fG f cap bK tbP C x) :
  Tri ai 170 #[ae ad xs.length c,.func (.func f) #[] cap.toArray] (C::allP tbP xs::isl bK 2 ad xs::L) (rtQ (.bool true) (C::allP tbP xs::isl bK 2 ad xs::L)):=by
 refine Tri.bd ?_;refine IF ?_;intros;refine G.loop (α:=Nat) (fun i=>i≤xs.length) (fun i=>[(0,ae ad xs.length c),(1,.func (.func f) #[] cap.toArray),(7,ae ad xs.length c),(8,ac xs.length),(9,ac (i:Int))]) (fun _=>C::allP tbP xs::isl bK 2 ad xs::L) (fun i=>xs.length - i) 0 (az _) an (Ent.refl _) ?_;intro i hi;by_cases a2:i<xs.length
 case neg =>
  refine IF ?_;intros;exact KX.en ⟨rfl,rfl⟩
 have a1:(i:Int).toNat=i:=ab;have a0:=aL a2;refine IF ?_;intros;rw[a1];refine GO.ent (Ent.drop.trans ((Ent.d7 (Ent.d9 (f:=tbP) a0)).trans (Ent.refl _))) ?_;refine GO.ef (Ef.d8 rfl rfl (hf _ a0 _)) ag ?_;rintro _ _⟨rfl,rfl⟩;refine IF ?_;intros;refine⟨i+1,ab,ab,?_,by exact ah⟩;rw[aU i];exact an
def ns{L:LH}(f:FuncId)(cap:LV)(C:HP)(ad:OA)(c:Nat)(xs:List TxV)(hl:xs.length≤64)(hf:∀x∈xs,fG f cap bN txP C x) :
  Tri ai 172 #[ae ad xs.length c,.func (.func f) #[] cap.toArray] (C::allP txP xs::isl bN 2 ad xs::L) (rtQ (.bool true) (C::allP txP xs::isl bN 2 ad xs::L)):=by
 refine Tri.bd ?_;refine IF ?_;intros;refine G.loop (α:=Nat) (fun i=>i≤xs.length) (fun i=>[(0,ae ad xs.length c),(1,.func (.func f) #[] cap.toArray),(7,ae ad xs.length c),(8,ac xs.length),(9,ac (i:Int))]) (fun _=>C::allP txP xs::isl bN 2 ad xs::L) (fun i=>xs.length - i) 0 (az _) an (Ent.refl _) ?_;intro i hi;by_cases a2:i<xs.length
 case neg =>
  refine IF ?_;intros;exact KX.en ⟨rfl,rfl⟩
 have a1:(i:Int).toNat=i:=ab;have a0:=aL a2;refine IF ?_;intros;rw[a1];refine GO.ent (Ent.drop.trans ((Ent.d7 (Ent.d9 (f:=txP) a0)).trans (Ent.refl _))) ?_;refine GO.ef (Ef.d8 rfl rfl (hf _ a0 _)) ag ?_;rintro _ _⟨rfl,rfl⟩;refine IF ?_;intros;refine⟨i+1,ab,ab,?_,by exact ah⟩;rw[aU i];exact an
def pU{L:LH}(f:FuncId)(cap:LV)(C:HP)(ad:OA)(c:Nat)(xs:List RwV)(hl:xs.length≤64)(hf:∀x∈xs,fG f cap du rwP C x) :
  Tri ai 194 #[ae ad xs.length c,.func (.func f) #[] cap.toArray] (C::allP rwP xs::isl du 2 ad xs::L) (rtQ (.bool true) (C::allP rwP xs::isl du 2 ad xs::L)):=by
 refine Tri.bd ?_;refine IF ?_;intros;refine G.loop (α:=Nat) (fun i=>i≤xs.length) (fun i=>[(0,ae ad xs.length c),(1,.func (.func f) #[] cap.toArray),(7,ae ad xs.length c),(8,ac xs.length),(9,ac (i:Int))]) (fun _=>C::allP rwP xs::isl du 2 ad xs::L) (fun i=>xs.length - i) 0 (az _) an (Ent.refl _) ?_;intro i hi;by_cases a2:i<xs.length
 case neg =>
  refine IF ?_;intros;exact KX.en ⟨rfl,rfl⟩
 have a1:(i:Int).toNat=i:=ab;have a0:=aL a2;refine IF ?_;intros;rw[a1];refine GO.ent (Ent.drop.trans ((Ent.d7 (Ent.d9 (f:=rwP) a0)).trans (Ent.refl _))) ?_;refine GO.ef (Ef.d8 rfl rfl (hf _ a0 _)) ag ?_;rintro _ _⟨rfl,rfl⟩;refine IF ?_;intros;refine⟨i+1,ab,ab,?_,by exact ah⟩;rw[aU i];exact an
def Fb{L:LH}(f:FuncId)(cap:LV)(C:HP)(ad:OA)(c:Nat)(xs:List (Int×Int))(hl:xs.length≤64)(hf:∀x∈xs,fG f cap aV noP C x) :
  Tri ai 198 #[ae ad xs.length c,.func (.func f) #[] cap.toArray] (C::allP noP xs::isl aV 2 ad xs::L) (rtQ (.bool true) (C::allP noP xs::isl aV 2 ad xs::L)):=by
 refine Tri.bd ?_;refine IF ?_;intros;refine G.loop (α:=Nat) (fun i=>i≤xs.length) (fun i=>[(0,ae ad xs.length c),(1,.func (.func f) #[] cap.toArray),(7,ae ad xs.length c),(8,ac xs.length),(9,ac (i:Int))]) (fun _=>C::allP noP xs::isl aV 2 ad xs::L) (fun i=>xs.length - i) 0 (az _) an (Ent.refl _) ?_;intro i hi;by_cases a2:i<xs.length
 case neg =>
  refine IF ?_;intros;exact KX.en ⟨rfl,rfl⟩
 have a1:(i:Int).toNat=i:=ab;have a0:=aL a2;refine IF ?_;intros;rw[a1];refine GO.ent (Ent.drop.trans ((Ent.d7 (Ent.d9 (f:=noP) a0)).trans (Ent.refl _))) ?_;refine GO.ef (Ef.d8 rfl rfl (hf _ a0 _)) ag ?_;rintro _ _⟨rfl,rfl⟩;refine IF ?_;intros;refine⟨i+1,ab,ab,?_,by exact ah⟩;rw[aU i];exact an
def Fa{L:LH}(f:FuncId)(cap:LV)(C:HP)(ad:OA)(c:Nat)(xs:List (Int×Int))(hl:xs.length≤64)(hf:∀x∈xs,fG f cap aV noP C x) :
  Tri ai 253 #[ae ad xs.length c,.func (.func f) #[] cap.toArray] (C::allP noP xs::isl aV 2 ad xs::L) (rtQ (.bool true) (C::allP noP xs::isl aV 2 ad xs::L)):=by
 refine Tri.bd ?_;refine IF ?_;intros;refine G.loop (α:=Nat) (fun i=>i≤xs.length) (fun i=>[(0,ae ad xs.length c),(1,.func (.func f) #[] cap.toArray),(7,ae ad xs.length c),(8,ac xs.length),(9,ac (i:Int))]) (fun _=>C::allP noP xs::isl aV 2 ad xs::L) (fun i=>xs.length - i) 0 (az _) an (Ent.refl _) ?_;intro i hi;by_cases a2:i<xs.length
 case neg =>
  refine IF ?_;intros;exact KX.en ⟨rfl,rfl⟩
 have a1:(i:Int).toNat=i:=ab;have a0:=aL a2;refine IF ?_;intros;rw[a1];refine GO.ent (Ent.drop.trans ((Ent.d7 (Ent.d9 (f:=noP) a0)).trans (Ent.refl _))) ?_;refine GO.ef (Ef.d8 rfl rfl (hf _ a0 _)) ag ?_;rintro _ _⟨rfl,rfl⟩;refine IF ?_;intros;refine⟨i+1,ab,ab,?_,by exact ah⟩;rw[aU i];exact an
def encB(b:Bool):Value:=.bool b
def qQ{L:LH}(x:ItG):Tri ai 181 #[aN (be x)] L (fun u L'=>u=.string x.name∧L' = L):=by
 refine Tri.bd ?_;refine IF ?_;intros;exact KX.d7 av Ent.drop ⟨rfl,rfl⟩
def Dn{L:LH}(ad:OA)(c:Nat)(xs:List ItG)(hl:xs.length≤64)(hd:(xs.map (·.name)).Nodup) :
  Tri ai 180 #[ae ad xs.length c,.func (.func 181) #[] #[]] (isl be 7 ad xs::L) (rtQ (.bool true) (isl be 7 ad xs::L)):=by
 refine Tri.bd ?_;refine IF ?_;intros;refine GO.ef (Ef.e8 kvS encB (.inr ⟨_,_,_,rfl,rfl,ab⟩)) ag ?_;rintro _ _⟨bm,rfl,rfl⟩;refine IF ?_;intros;refine G.loop (α:=Nat×List (ByteArray×Bool)) (fun x=>x.1≤xs.length∧∀j,x.1≤j→j<xs.length→@List.lookup ByteArray Bool instBEqOfDecidableEq xs[j]!.name x.2=none) (fun x=>[(0,ae ad xs.length c),(1,.func (.func 181) #[] #[]),(5,.map (some bm)),(11,ae ad xs.length c),(12,ac xs.length),(13,ac (x.1:Int))]) (fun x=>gmap kvS encB bm x.2::isl be 7 ad xs::L) (fun x=>xs.length - x.1) (0,[]) ⟨az _,fun _ _ _=>rfl⟩ an (Ent.refl _) ?_;rintro⟨i,m⟩ ⟨hi,hm⟩;dsimp only at hi hm ⊢;by_cases a2:i<xs.length
 case neg =>
  refine IF ?_;intros;exact KX.d7 av Ent.drop ⟨rfl,rfl⟩
 have a1:(i:Int).toNat=i:=ab;refine IF ?_;intros;rw[a1];refine GO.ef (Ef.l0 (first:=[]) (cap:=[]) (vs:=[aN (be xs[i]!)]) (qQ xs[i]!) rfl rfl) ag ?_;rintro _ _⟨rfl,rfl⟩;refine GO.ev (Ev.d8 (k:=xs[i]!.name) rfl rfl) ag ?_;rw[hm i (aI _) a2];simp only[ez,dW];refine IF ?_;intros;refine GO.ef (Ef.l0 (first:=[]) (cap:=[]) (vs:=[aN (be xs[i]!)]) (qQ xs[i]!) rfl rfl) ag ?_;rintro _ _⟨rfl,rfl⟩;refine GO.efu (Ef.e9 (k:=xs[i]!.name) (e:=true) rfl rfl rfl rfl) ?_;rintro _ _ rfl;refine IF ?_;intros;refine⟨(i+1,gins m xs[i]!.name true),⟨by dsimp only;omega,?_⟩,by dsimp only;omega,?_,Ent.d7 Ent.drop⟩
 ·intro j hj a0;dsimp only at hj ⊢;rw[hJ,if_neg,hm j ab a0];intro e
  have h1:(xs.map (·.name))[j]'(by simpa using a0)=(xs.map (·.name))[i]'(by simp;omega):=by
   rw[getElem!_of a0,getElem!_of ab] at e;simpa using e
  have:=(fm hd).1 h1
  omega
 ·dsimp only;rw[aU i];exact an
def qM{L:LH}(x:RuV):Tri ai 183 #[aN (bj x)] L (fun u L'=>u=.string x.name∧L' = L):=by
 refine Tri.bd ?_;refine IF ?_;intros;exact KX.d7 av Ent.drop ⟨rfl,rfl⟩
def Dm{L:LH}(ad:OA)(c:Nat)(xs:List RuV)(hl:xs.length≤64)(hd:(xs.map (·.name)).Nodup) :
  Tri ai 182 #[ae ad xs.length c,.func (.func 183) #[] #[]] (isl bj 9 ad xs::L) (rtQ (.bool true) (isl bj 9 ad xs::L)):=by
 refine Tri.bd ?_;refine IF ?_;intros;refine GO.ef (Ef.e8 kvS encB (.inr ⟨_,_,_,rfl,rfl,ab⟩)) ag ?_;rintro _ _⟨bm,rfl,rfl⟩;refine IF ?_;intros;refine G.loop (α:=Nat×List (ByteArray×Bool)) (fun x=>x.1≤xs.length∧∀j,x.1≤j→j<xs.length→@List.lookup ByteArray Bool instBEqOfDecidableEq xs[j]!.name x.2=none) (fun x=>[(0,ae ad xs.length c),(1,.func (.func 183) #[] #[]),(5,.map (some bm)),(11,ae ad xs.length c),(12,ac xs.length),(13,ac (x.1:Int))]) (fun x=>gmap kvS encB bm x.2::isl bj 9 ad xs::L) (fun x=>xs.length - x.1) (0,[]) ⟨az _,fun _ _ _=>rfl⟩ an (Ent.refl _) ?_;rintro⟨i,m⟩ ⟨hi,hm⟩;dsimp only at hi hm ⊢;by_cases a2:i<xs.length
 case neg =>
  refine IF ?_;intros;exact KX.d7 av Ent.drop ⟨rfl,rfl⟩
 have a1:(i:Int).toNat=i:=ab;refine IF ?_;intros;rw[a1];refine GO.ef (Ef.l0 (first:=[]) (cap:=[]) (vs:=[aN (bj xs[i]!)]) (qM xs[i]!) rfl rfl) ag ?_;rintro _ _⟨rfl,rfl⟩;refine GO.ev (Ev.d8 (k:=xs[i]!.name) rfl rfl) ag ?_;rw[hm i (aI _) a2];simp only[ez,dW];refine IF ?_;intros;refine GO.ef (Ef.l0 (first:=[]) (cap:=[]) (vs:=[aN (bj xs[i]!)]) (qM xs[i]!) rfl rfl) ag ?_;rintro _ _⟨rfl,rfl⟩;refine GO.efu (Ef.e9 (k:=xs[i]!.name) (e:=true) rfl rfl rfl rfl) ?_;rintro _ _ rfl;refine IF ?_;intros;refine⟨(i+1,gins m xs[i]!.name true),⟨by dsimp only;omega,?_⟩,by dsimp only;omega,?_,Ent.d7 Ent.drop⟩
 ·intro j hj a0;dsimp only at hj ⊢;rw[hJ,if_neg,hm j ab a0];intro e
  have h1:(xs.map (·.name))[j]'(by simpa using a0)=(xs.map (·.name))[i]'(by simp;omega):=by
   rw[getElem!_of a0,getElem!_of ab] at e;simpa using e
  have:=(fm hd).1 h1
  omega
 ·dsimp only;rw[aU i];exact an
def pj{L:LH}(x:TbV):Tri ai 185 #[aN (bK x)] L (fun u L'=>u=.string x.name∧L' = L):=by
 refine Tri.bd ?_;refine IF ?_;intros;exact KX.d7 av Ent.drop ⟨rfl,rfl⟩
def Dl{L:LH}(ad:OA)(c:Nat)(xs:List TbV)(hl:xs.length≤64)(hd:(xs.map (·.name)).Nodup) :
  Tri ai 184 #[ae ad xs.length c,.func (.func 185) #[] #[]] (isl bK 2 ad xs::L) (rtQ (.bool true) (isl bK 2 ad xs::L)):=by
 refine Tri.bd ?_;refine IF ?_;intros;refine GO.ef (Ef.e8 kvS encB (.inr ⟨_,_,_,rfl,rfl,ab⟩)) ag ?_;rintro _ _⟨bm,rfl,rfl⟩;refine IF ?_;intros;refine G.loop (α:=Nat×List (ByteArray×Bool)) (fun x=>x.1≤xs.length∧∀j,x.1≤j→j<xs.length→@List.lookup ByteArray Bool instBEqOfDecidableEq xs[j]!.name x.2=none) (fun x=>[(0,ae ad xs.length c),(1,.func (.func 185) #[] #[]),(5,.map (some bm)),(11,ae ad xs.length c),(12,ac xs.length),(13,ac (x.1:Int))]) (fun x=>gmap kvS encB bm x.2::isl bK 2 ad xs::L) (fun x=>xs.length - x.1) (0,[]) ⟨az _,fun _ _ _=>rfl⟩ an (Ent.refl _) ?_;rintro⟨i,m⟩ ⟨hi,hm⟩;dsimp only at hi hm ⊢;by_cases a2:i<xs.length
 case neg =>
  refine IF ?_;intros;exact KX.d7 av Ent.drop ⟨rfl,rfl⟩
 have a1:(i:Int).toNat=i:=ab;refine IF ?_;intros;rw[a1];refine GO.ef (Ef.l0 (first:=[]) (cap:=[]) (vs:=[aN (bK xs[i]!)]) (pj xs[i]!) rfl rfl) ag ?_;rintro _ _⟨rfl,rfl⟩;refine GO.ev (Ev.d8 (k:=xs[i]!.name) rfl rfl) ag ?_;rw[hm i (aI _) a2];simp only[ez,dW];refine IF ?_;intros;refine GO.ef (Ef.l0 (first:=[]) (cap:=[]) (vs:=[aN (bK xs[i]!)]) (pj xs[i]!) rfl rfl) ag ?_;rintro _ _⟨rfl,rfl⟩;refine GO.efu (Ef.e9 (k:=xs[i]!.name) (e:=true) rfl rfl rfl rfl) ?_;rintro _ _ rfl;refine IF ?_;intros;refine⟨(i+1,gins m xs[i]!.name true),⟨by dsimp only;omega,?_⟩,by dsimp only;omega,?_,Ent.d7 Ent.drop⟩
 ·intro j hj a0;dsimp only at hj ⊢;rw[hJ,if_neg,hm j ab a0];intro e
  have h1:(xs.map (·.name))[j]'(by simpa using a0)=(xs.map (·.name))[i]'(by simp;omega):=by
   rw[getElem!_of a0,getElem!_of ab] at e;simpa using e
  have:=(fm hd).1 h1
  omega
 ·dsimp only;rw[aU i];exact an
def rX{L:LH}(x:TxV):Tri ai 187 #[aN (bN x)] L (fun u L'=>u=.string x.name∧L' = L):=by
 refine Tri.bd ?_;refine IF ?_;intros;exact KX.d7 av Ent.drop ⟨rfl,rfl⟩
def Dk{L:LH}(ad:OA)(c:Nat)(xs:List TxV)(hl:xs.length≤64)(hd:(xs.map (·.name)).Nodup) :
  Tri ai 186 #[ae ad xs.length c,.func (.func 187) #[] #[]] (isl bN 2 ad xs::L) (rtQ (.bool true) (isl bN 2 ad xs::L)):=by
 refine Tri.bd ?_;refine IF ?_;intros;refine GO.ef (Ef.e8 kvS encB (.inr ⟨_,_,_,rfl,rfl,ab⟩)) ag ?_;rintro _ _⟨bm,rfl,rfl⟩;refine IF ?_;intros;refine G.loop (α:=Nat×List (ByteArray×Bool)) (fun x=>x.1≤xs.length∧∀j,x.1≤j→j<xs.length→@List.lookup ByteArray Bool instBEqOfDecidableEq xs[j]!.name x.2=none) (fun x=>[(0,ae ad xs.length c),(1,.func (.func 187) #[] #[]),(5,.map (some bm)),(11,ae ad xs.length c),(12,ac xs.length),(13,ac (x.1:Int))]) (fun x=>gmap kvS encB bm x.2::isl bN 2 ad xs::L) (fun x=>xs.length - x.1) (0,[]) ⟨az _,fun _ _ _=>rfl⟩ an (Ent.refl _) ?_;rintro⟨i,m⟩ ⟨hi,hm⟩;dsimp only at hi hm ⊢;by_cases a2:i<xs.length
 case neg =>
  refine IF ?_;intros;exact KX.d7 av Ent.drop ⟨rfl,rfl⟩
 have a1:(i:Int).toNat=i:=ab;refine IF ?_;intros;rw[a1];refine GO.ef (Ef.l0 (first:=[]) (cap:=[]) (vs:=[aN (bN xs[i]!)]) (rX xs[i]!) rfl rfl) ag ?_;rintro _ _⟨rfl,rfl⟩;refine GO.ev (Ev.d8 (k:=xs[i]!.name) rfl rfl) ag ?_;rw[hm i (aI _) a2];simp only[ez,dW];refine IF ?_;intros;refine GO.ef (Ef.l0 (first:=[]) (cap:=[]) (vs:=[aN (bN xs[i]!)]) (rX xs[i]!) rfl rfl) ag ?_;rintro _ _⟨rfl,rfl⟩;refine GO.efu (Ef.e9 (k:=xs[i]!.name) (e:=true) rfl rfl rfl rfl) ?_;rintro _ _ rfl;refine IF ?_;intros;refine⟨(i+1,gins m xs[i]!.name true),⟨by dsimp only;omega,?_⟩,by dsimp only;omega,?_,Ent.d7 Ent.drop⟩
 ·intro j hj a0;dsimp only at hj ⊢;rw[hJ,if_neg,hm j ab a0];intro e
  have h1:(xs.map (·.name))[j]'(by simpa using a0)=(xs.map (·.name))[i]'(by simp;omega):=by
   rw[getElem!_of a0,getElem!_of ab] at e;simpa using e
  have:=(fm hd).1 h1
  omega
 ·dsimp only;rw[aU i];exact an
