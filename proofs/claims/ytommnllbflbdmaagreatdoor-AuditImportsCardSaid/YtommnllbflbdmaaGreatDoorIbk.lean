/- Lemmas. -/
import Derived.Test.YtommnllbflbdmaaGreatDoorIbj
set_option linter.all false
set_option maxHeartbeats 4000000
namespace Go.Proofs.YtommnllbflbdmaaGreatDoor
open Go.V
attribute [local irreducible] G GO GP GPW GPK Ev Ef EfR Ent CB GB V.Enters
def fm(k:Int)(m:MvM):Prop :=
 if k=0 then m.frm=0∧m.parts.length=0 else if k=1∨k=6 then m.to=0∧m.parts.length=0 else if k=2∨k=3∨k=8 then m.frm≠0∧m.to≠0∧m.parts.length=0
 else if k=5 then m.frm=0∧gt m.parts m.n else if k=7 then m.frm≠0∧gt m.parts m.n else if k=9 then m.to≠0∧gt m.parts m.n else m.parts.length=0
instance (k:Int)(m:MvM):Decidable (fm k m):=by unfold fm;infer_instance
def fT{p q:Prop}[Decidable p][Decidable q](h:p↔q):dB p=dB q:=by
 by_cases c:p
 ·rw[aT c,aT (h.1 c)]
 ·rw[aH c,aH (fun x=>c (h.2 x))]
abbrev zf:List Stp:=[.ev 0,.ev 1,.ev 2,.ev 3,.ev 4,.ev 5,.ev 6,.ev 7]
def TR{φ ψ:Prop}(k:ψ)(h:Hid ψ→φ:=by intro k;(repeat (first|refine aa ?_|intro zzz|((with_reducible apply G.d8);first|refine G.d7 (N:=85) (id:=1) zf mixed aw ?_)));(repeat revert zzz);exact Hid.out k):φ:=h ⟨k⟩
def CA{L:LH}(k:Int)(m:MvV)[hr:Rds L m.pad Lot ao 3 m.m.parts](hm:m.m.parts.length≤9223372036854775807):Tri ag 148 #[ac k,.agg (aQ m).toArray] L (fun v L'=>v=.bool (dB (fm k m.m))∧L' = L):=by
 obtain⟨⟨frm,to,item,mn,parts⟩,pad,pcap⟩:=m;dsimp only at hr hm ⊢;refine Tri.bd (args:=[ac k,.agg (aQ ⟨⟨frm,to,item,mn,parts⟩,pad,pcap⟩).toArray]) ?_;simp only[aQ];have a0:((parts.length:Int)=0)↔parts.length=0:=ab;by_cases k0:k=0
 ·subst k0;have e:fm 0 ⟨frm,to,item,mn,parts⟩↔frm=0∧parts.length=0:=Iff.rfl;by_cases c1:frm=0
  ·refine TR ?_;intros;exact KX.d7 an ae ⟨by rw[fT (e.trans ⟨fun q=>q.2,fun q=>⟨c1,q⟩⟩),←fT a0];rfl,rfl⟩
  ·skip;refine TR ?_;intros;exact KX.d7 an ae ⟨by rw[aH (show ¬fm _ ⟨frm,to,item,mn,parts⟩ from fun q=>c1 (e.1 q).1)];rfl,rfl⟩
 by_cases k1:k=1
 ·subst k1;have e:fm 1 ⟨frm,to,item,mn,parts⟩↔to=0∧parts.length=0:=Iff.rfl;by_cases c1:to=0
  ·refine TR ?_;intros;exact KX.d7 an ae ⟨by rw[fT (e.trans ⟨fun q=>q.2,fun q=>⟨c1,q⟩⟩),←fT a0];rfl,rfl⟩
  ·skip;refine TR ?_;intros;exact KX.d7 an ae ⟨by rw[aH (show ¬fm _ ⟨frm,to,item,mn,parts⟩ from fun q=>c1 (e.1 q).1)];rfl,rfl⟩
 by_cases k6:k=6
 ·subst k6;have e:fm 6 ⟨frm,to,item,mn,parts⟩↔to=0∧parts.length=0:=Iff.rfl;by_cases c1:to=0
  ·refine TR ?_;intros;exact KX.d7 an ae ⟨by rw[fT (e.trans ⟨fun q=>q.2,fun q=>⟨c1,q⟩⟩),←fT a0];rfl,rfl⟩
  ·skip;refine TR ?_;intros;exact KX.d7 an ae ⟨by rw[aH (show ¬fm _ ⟨frm,to,item,mn,parts⟩ from fun q=>c1 (e.1 q).1)];rfl,rfl⟩
 by_cases k2:k=2
 ·subst k2;have e:fm 2 ⟨frm,to,item,mn,parts⟩↔frm≠0∧to≠0∧parts.length=0:=Iff.rfl;by_cases c1:frm=0
  ·skip;refine TR ?_;intros;exact KX.d7 an ae ⟨by rw[aH (show ¬fm _ ⟨frm,to,item,mn,parts⟩ from fun q=>(e.1 q).1 c1)];rfl,rfl⟩
  by_cases c2:to=0
  ·skip;refine TR ?_;intros;exact KX.d7 an ae ⟨by rw[aH (show ¬fm _ ⟨frm,to,item,mn,parts⟩ from fun q=>(e.1 q).2.1 c2)];rfl,rfl⟩
  refine TR ?_;intros;exact KX.d7 an ae ⟨by rw[fT (e.trans ⟨fun q=>q.2.2,fun q=>⟨c1,c2,q⟩⟩),←fT a0];rfl,rfl⟩
 by_cases k3:k=3
 ·subst k3;have e:fm 3 ⟨frm,to,item,mn,parts⟩↔frm≠0∧to≠0∧parts.length=0:=Iff.rfl;by_cases c1:frm=0
  ·skip;refine TR ?_;intros;exact KX.d7 an ae ⟨by rw[aH (show ¬fm _ ⟨frm,to,item,mn,parts⟩ from fun q=>(e.1 q).1 c1)];rfl,rfl⟩
  by_cases c2:to=0
  ·skip;refine TR ?_;intros;exact KX.d7 an ae ⟨by rw[aH (show ¬fm _ ⟨frm,to,item,mn,parts⟩ from fun q=>(e.1 q).2.1 c2)];rfl,rfl⟩
  refine TR ?_;intros;exact KX.d7 an ae ⟨by rw[fT (e.trans ⟨fun q=>q.2.2,fun q=>⟨c1,c2,q⟩⟩),←fT a0];rfl,rfl⟩
 by_cases k8:k=8
 ·subst k8;have e:fm 8 ⟨frm,to,item,mn,parts⟩↔frm≠0∧to≠0∧parts.length=0:=Iff.rfl;by_cases c1:frm=0
  ·skip;refine TR ?_;intros;exact KX.d7 an ae ⟨by rw[aH (show ¬fm _ ⟨frm,to,item,mn,parts⟩ from fun q=>(e.1 q).1 c1)];rfl,rfl⟩
  by_cases c2:to=0
  ·skip;refine TR ?_;intros;exact KX.d7 an ae ⟨by rw[aH (show ¬fm _ ⟨frm,to,item,mn,parts⟩ from fun q=>(e.1 q).2.1 c2)];rfl,rfl⟩
  refine TR ?_;intros;exact KX.d7 an ae ⟨by rw[fT (e.trans ⟨fun q=>q.2.2,fun q=>⟨c1,c2,q⟩⟩),←fT a0];rfl,rfl⟩
 by_cases k5:k=5
 ·subst k5;have e:fm 5 ⟨frm,to,item,mn,parts⟩↔frm=0∧gt parts mn:=Iff.rfl;by_cases c1:frm=0
  ·skip;refine TR ?_;intros;refine GO.cr (ko pad parts.length pcap parts mn rfl hm) ?_;refine TR ?_;intros;exact KX.d7 an ae ⟨by rw[fT (e.trans ⟨fun q=>q.2,fun q=>⟨c1,q⟩⟩)];rfl,rfl⟩
  ·skip;refine TR ?_;intros;exact KX.d7 an ae ⟨by rw[aH (show ¬fm _ ⟨frm,to,item,mn,parts⟩ from fun q=>c1 (e.1 q).1)];rfl,rfl⟩
 by_cases k7:k=7
 ·subst k7;have e:fm 7 ⟨frm,to,item,mn,parts⟩↔frm≠0∧gt parts mn:=Iff.rfl;by_cases c1:frm=0
  ·skip;refine TR ?_;intros;exact KX.d7 an ae ⟨by rw[aH (show ¬fm _ ⟨frm,to,item,mn,parts⟩ from fun q=>(e.1 q).1 c1)];rfl,rfl⟩
  ·skip;refine TR ?_;intros;refine GO.cr (ko pad parts.length pcap parts mn rfl hm) ?_;refine TR ?_;intros;exact KX.d7 an ae ⟨by rw[fT (e.trans ⟨fun q=>q.2,fun q=>⟨c1,q⟩⟩)];rfl,rfl⟩
 by_cases k9:k=9
 ·subst k9;have e:fm 9 ⟨frm,to,item,mn,parts⟩↔to≠0∧gt parts mn:=Iff.rfl;by_cases c1:to=0
  ·skip;refine TR ?_;intros;exact KX.d7 an ae ⟨by rw[aH (show ¬fm _ ⟨frm,to,item,mn,parts⟩ from fun q=>(e.1 q).1 c1)];rfl,rfl⟩
  ·skip;refine TR ?_;intros;refine GO.cr (ko pad parts.length pcap parts mn rfl hm) ?_;refine TR ?_;intros;exact KX.d7 an ae ⟨by rw[fT (e.trans ⟨fun q=>q.2,fun q=>⟨c1,q⟩⟩)];rfl,rfl⟩
 have e:fm k ⟨frm,to,item,mn,parts⟩↔parts.length=0:=by
  unfold fm;rw[if_neg k0,if_neg ab,if_neg ab,if_neg k5,if_neg k7,if_neg k9]
 refine TR ?_;intros;exact KX.d7 an ae ⟨by rw[fT e,←fT a0];rfl,rfl⟩
end Go.Proofs.YtommnllbflbdmaaGreatDoor
namespace Go.V
section gf
variable {P:Program}{N:Nat}{ops:Array Oper}{done done' : List Nat}{n:Nat}{pend:List PE}{env env' : Env}{L L' : LH}{K:Post}
def GF.conseq(hd:(dV ops.size done == dV ops.size done')=true)(he:EnvSub env env')(hL:Ent L L')(h:GF P N ops done' n pend env' L' K):GF P N ops done n pend env L K:=by
 have e:=eq_of_beq hd;intro hK hs a0 θ Y a w S i a1 a2;rw[e] at a0 ⊢;exact h hK hs a0 θ Y a w S (i.less he hL) a1 a2
def GF.ent(hL:Ent L L')(h:GF P N ops done n pend env L' K):GF P N ops done n pend env L K:=fun hK hs a2 θ Y a w S i a0 a1=>h hK hs a2 θ Y a w S (i.less (EnvSub.refl _) hL) a0 a1
end gf
end Go.V
namespace Go.Proofs.YtommnllbflbdmaaGreatDoor
section
open Go.V
attribute [local irreducible] G GO GP GPW GPK Ev Ef EfR Ent CB GB V.Enters
def oW{L:LH}(t:Int):Tri ag 235 #[ac t] L (fun v L'=>v=.bool (dB (iy t))∧L' = L):=by
 refine Tri.bd ?_;by_cases h1:1≤t
 ·refine Hz ?_;intros;exact KX.d7 an (Ent.refl _) ⟨by rw[fT (show iy t↔t≤1048576 from⟨fun q=>q.2,fun q=>⟨h1,q⟩⟩)];rfl,rfl⟩
 ·refine Hz ?_;intros;exact KX.d7 an (Ent.refl _) ⟨by rw[aH (show ¬iy t from fun q=>h1 q.1)];rfl,rfl⟩
instance (s:StM):Decidable (jn s):=by unfold jn;infer_instance
def qo{L:LH}(s:StV)[hr:Rds L s.mad MvV aQ 5 s.moves](hn:∀m∈s.moves,0≤m.m.n)(hl:s.moves.length≤1000000) :
  Tri ag 150 #[.agg (aL s).toArray] L (fun v L'=>v=.bool (dB (jn s.m))∧L' = L):=by
 have a0:s.m.moves.length=s.moves.length:=by show(s.moves.map MvV.m).length=_;rw[aA]
 refine Tri.bd ?_;simp only[aL];by_cases c1:s.rule = -1
 case neg =>
  rw[aH (show ¬jn s.m from fun q=>c1 q.1)];refine Hz ?_;intros;exact KX.en ⟨rfl,rfl⟩
 refine Hz ?_;intros;refine GO.cr (oW s.times) ?_;by_cases c2:iy s.times
 case neg =>
  rw[aH c2,aH (show ¬jn s.m from fun q=>c2 q.2.1)];refine Hz ?_;intros;exact KX.en ⟨rfl,rfl⟩
 rw[aT c2];by_cases c3:s.moves.length=2
 case neg =>
  rw[aH (show ¬jn s.m from fun q=>c3 (a0.symm.trans q.2.2.1))];refine Hz ?_;intros;exact KX.en ⟨rfl,rfl⟩
 have e0:s.m.moves[0]! = s.moves[0]!.m:=dP _ (show 0<s.moves.length by omega);have e1:s.m.moves[1]! = s.moves[1]!.m:=dP _ (show 1<s.moves.length by omega);have n0:=hn _ (aG (show 0<s.moves.length by omega));have n1:=hn _ (aG (show 1<s.moves.length by omega))
 have e:jn s.m↔s.moves[0]!.m.to=0∧s.moves[1]!.m.frm=0∧s.moves[1]!.m.to=s.moves[0]!.m.frm∧s.moves[0]!.m.n % s.times=0∧s.moves[1]!.m.n % s.times=0:=by
  unfold jn;rw[e0,e1];exact⟨fun q=>q.2.2.2,fun q=>⟨c1,c2,a0.trans c3,q⟩⟩
 unfold iy at c2;have t0:(0:Int).toNat=0:=rfl;have t1:(1:Int).toNat=1:=rfl;have i0:(0:Int).toNat<s.moves.length:=ab;have i1:(1:Int).toNat<s.moves.length:=ab;rw[←t0] at e n0;rw[←t1] at e n1;rw[fT e];clear e0 e1 e;repeat first|((fail_if_success (with_reducible refine G.atS 3 ?_));(with_reducible apply G.seq))|refine bA ?_|intro
 rename_i b1;refine G.d9 (α:=Nat×Nat) (fun _=>True) (fun g=>[(1,av b1),(3,.pointer (some ⟨g.1,0,none⟩)),(4,.pointer (some ⟨g.2,0,none⟩))]) (fun g=>obj g.1 tMv (aQ s.moves[(0:Int).toNat]!)::obj g.2 tMv (aQ s.moves[(1:Int).toNat]!)::obj b1 bB [ac s.id,ac s.kind,ac s.actor,ac s.tick,ac s.rule,ac s.times,.slice s.mad s.moves.length s.mcap]::L) ?_ ?_
 ·refine G.g7 mixed aw ?_;refine GF.evP (i:=0) rfl aw (Ev.fieldAddr rfl) ah ?_;refine GF.evL (i:=1) rfl aw (Ev.d9 rfl rfl) ah ?_;refine GF.evL (i:=2) rfl aw (Ev.indexAddr rfl rfl ab ab ab) ah ?_;refine GF.evL (i:=3) rfl aw (Ev.e7 rfl ab) ah ?_;refine GF.evP (i:=4) rfl aw (Ev.fieldAddr rfl) ah ?_;refine GF.evL (i:=5) rfl aw (Ev.d9 rfl rfl) ah ?_;refine GF.evL (i:=6) rfl aw (Ev.indexAddr rfl rfl ab ab ab) ah ?_;refine GF.evL (i:=7) rfl aw (Ev.e7 rfl ab) ah ?_;refine GF.d7 8 9 aw ?_ ?_
  ·refine GE.ef rfl Ef.alloc ah ?_;rintro _ _⟨b3,rfl,rfl⟩;refine⟨(by intro pe hp;simp only[bz,aV,or_false] at hp;rcases hp with rfl|rfl|rfl|rfl|rfl|rfl<;>first|exact Ev.d9 rfl rfl|exact Ev.indexAddr rfl rfl ab ab ab|exact Ev.e7 rfl ab),?_⟩;refine GF.plan [.ef 9,.ef 10,.ef 11] aw rfl ?_;refine Hz ?_;intros;exact⟨(b3,_),trivial,ai,by exact ae⟩
  ·refine GE.ef rfl Ef.alloc ah ?_;rintro _ _⟨b4,rfl,rfl⟩;refine⟨(by intro pe hp;simp only[bz,aV,or_false] at hp;rcases hp with rfl|rfl|rfl|rfl|rfl|rfl<;>first|exact Ev.d9 rfl rfl|exact Ev.indexAddr rfl rfl ab ab ab|exact Ev.e7 rfl ab),?_⟩;refine GF.plan [.ef 8,.ef 10,.ef 11] aw rfl ?_;refine Hz ?_;intros;exact⟨(_,b4),trivial,ai,by exact ae⟩
 rintro⟨b3,b4⟩ _;generalize s.moves[(0:Int).toNat]! = m0 at *;generalize s.moves[(1:Int).toNat]! = m1 at *;simp only[aQ];by_cases d1:m0.m.to=0
 case neg =>
  refine Hz ?_;intros;exact KX.d7 an ae ⟨by rw[aH (fun h=>d1 h.1)];rfl,rfl⟩
 by_cases d2:m1.m.frm=0
 case neg =>
  refine Hz ?_;intros;exact KX.d7 an ae ⟨by rw[aH (fun h=>d2 h.2.1)];rfl,rfl⟩
 by_cases d3:m1.m.to=m0.m.frm
 case neg =>
  refine Hz ?_;intros;exact KX.d7 an ae ⟨by rw[aH (fun h=>d3 h.2.2.1)];rfl,rfl⟩
 by_cases d4:m0.m.n % s.times=0
 case neg =>
  refine Hz ?_;intros;exact KX.d7 an ae ⟨by rw[aH (fun h=>d4 h.2.2.2.1)];rfl,rfl⟩
 refine Hz ?_;intros;refine KX.d7 an ae ⟨?_,rfl⟩;by_cases d5:m1.m.n % s.times=0
 ·rw[aT d5,aT ⟨d1,d2,d3,d4,d5⟩];rfl
 ·rw[aH d5,aH (fun h=>d5 h.2.2.2.2)];rfl
def mtP(pa po:MvM→Int)(times:Int)(ms:List MvV)(am:List (Int×Int)):Prop:=∀i:Nat,i<ms.length→po ms[i]!.m=0∧pa ms[i]!.m=pa ms[0]!.m∧ms[i]!.m.item=am[i]!.1∧ms[i]!.m.n=am[i]!.2*times
noncomputable instance (pa po t ms am):Decidable (mtP pa po t ms am):=Classical.propDecidable _
def AskM(f:FuncId)(p:MvM→Int):Prop:=∀(m:MvV) (L:LH),Tri ag f #[.agg (aQ m).toArray] L (fun v L'=>v=ac (p m.m)∧L' = L)
def Eq:AskM 237 (fun m=>m.frm):=by
 intro m L;refine Tri.bd (args:=[.agg (aQ m).toArray]) ?_;refine Hz ?_;intros;exact KX.en ⟨rfl,rfl⟩
def FD:AskM 238 (fun m=>m.to):=by
 intro m L;refine Tri.bd (args:=[.agg (aQ m).toArray]) ?_;refine Hz ?_;intros;exact KX.en ⟨rfl,rfl⟩
abbrev ze:List Stp:=[.ev 0,.ev 1,.ef 2,.ev 3,.ev 4,.ev 5,.ev 6,.ev 8,.ev 9,.ev 10,.ev 11,.ef 7,.ef 12,.ev 13,.ev 14,.ev 15,.ev 16,.ev 17,.ev 18,.ev 19,.ev 20,.ev 21,.ev 22,.ev 23,.ev 24,.ev 25,.ev 26,.ev 27,.ev 28,.ev 29,.ev 30,.ev 31,.ev 32,.ev 33,.ev 34,.ev 35,.ev 36,.ev 37]
def Uq{φ ψ:Prop}(k:ψ)(h:Hid ψ→φ:=by intro k;(repeat (first|refine aa ?_|intro zzz|((with_reducible apply G.d8);first|refine G.d7 (N:=58) (id:=4) ze mixed aw ?_)));(repeat revert zzz);exact Hid.out k):φ:=h ⟨k⟩
def pz{L:LH}(b:Nat)(s:StV)(ht:iy s.times)(fa fo:FuncId)(pa po:MvM→Int)(ha:AskM fa pa)(ho:AskM fo po)(ad:OA)(n c:Nat)(ms:List MvV)[hr:Rds L ad MvV aQ 5 ms](a2:OA)(n2 c2:Nat)(am:List (Int×Int))[b6:Rds L a2 (Int×Int) bM 2 am](hn:n=ms.length)(a8:n2=am.length)(hl:ms.length=am.length)(b5:am.length≤64)(hb:AmB am) :
  Tri ag 236 #[.slice ad n c,.slice a2 n2 c2,.func (.func fa) #[] #[],.func (.func fo) #[] #[],av b] (obj b bB (aL s)::L) (fun v L'=>v=.bool (dB (mtP pa po s.times ms am))∧L' = obj b bB (aL s)::L):=by
 subst hn a8;obtain⟨b4,b2⟩:=ht;refine Tri.bd ?_;refine Uq ?_;intros;refine G.loop (α:=Nat) (fun i=>i≤ms.length∧∀j:Nat,j<i→po ms[j]!.m=0∧pa ms[j]!.m=pa ms[0]!.m∧ms[j]!.m.item=am[j]!.1∧ms[j]!.m.n=am[j]!.2*s.times) (fun i=>[(0,.slice ad ms.length c),(1,.slice a2 am.length c2),(2,.func (.func fa) #[] #[]),(3,.func (.func fo) #[] #[]),(4,av b),(12,.slice ad ms.length c),(13,ac ms.length),(14,ac (i:Int))]) (fun _=>obj b bB (aL s)::L) (fun i=>ms.length - i) 0 ⟨aj _,fun j h=>absurd h (bJ j)⟩ ai (Ent.refl _) ?_;rintro i ⟨hi,a4⟩;by_cases b1:i<ms.length
 case neg =>
  refine Uq ?_;intros;exact KX.d7 an ae ⟨by rw[aT (show mtP pa po s.times ms am from fun j hj=>a4 j ab)];rfl,rfl⟩
 have a3:(i:Int).toNat=i:=ay i;have a0:∀{p:Prop},¬p→(po ms[i]!.m=0∧pa ms[i]!.m=pa ms[0]!.m∧ms[i]!.m.item=am[i]!.1∧ms[i]!.m.n=am[i]!.2*s.times→p)→dB (mtP pa po s.times ms am)=false:=fun h q=>aH (fun r=>h (q (r i b1)));obtain⟨b3,a5⟩:=hb _ (aG (show i<am.length by omega));have a1:0≤am[i]!.2*s.times∧am[i]!.2*s.times≤1099511627776*1048576:=⟨dy b3 ab,eQ a5 b2 ab ab⟩;have t0:ms[0]! = ms[(0:Int).toNat]!:=rfl;rw[t0] at a0;rw[←a3] at a1 a0;obtain⟨b0,a7⟩:=a1;have a6 : (i:Int).toNat<ms.length:=ab;have a9:(i:Int).toNat<am.length:=ab;refine Uq ?_;intros;refine GPW.ef (Ef.d8 rfl rfl (ho ms[(i:Int).toNat]! _)) ah ?_;rintro _ _⟨rfl,rfl⟩;by_cases c1:po ms[(i:Int).toNat]!.m=0
 case neg =>
  refine Uq ?_;intros;exact KX.d7 an ae ⟨by rw[a0 c1 (fun q=>q.1)];rfl,rfl⟩
 refine Uq ?_;intros;refine GPW.ef (Ef.d8 rfl rfl (ha ms[(i:Int).toNat]! _)) ah ?_;rintro _ _⟨rfl,rfl⟩;refine Uq ?_;intros;refine GPW.ef (Ef.d8 rfl rfl (ha ms[(0:Int).toNat]! _)) ah ?_;rintro _ _⟨rfl,rfl⟩;by_cases c2:pa ms[(i:Int).toNat]!.m=pa ms[(0:Int).toNat]!.m
 case neg =>
  refine Uq ?_;intros;exact KX.d7 an ae ⟨by rw[a0 c2 (fun q=>q.2.1)];rfl,rfl⟩
 by_cases c3:ms[(i:Int).toNat]!.m.item=am[(i:Int).toNat]!.1
 case neg =>
  refine Uq ?_;intros;exact KX.d7 an ae ⟨by rw[a0 c3 (fun q=>q.2.2.1)];rfl,rfl⟩
 by_cases c4:ms[(i:Int).toNat]!.m.n=am[(i:Int).toNat]!.2*s.times
 case neg =>
  refine Uq ?_;intros;exact KX.d7 an ae ⟨by rw[a0 c4 (fun q=>q.2.2.2)];rfl,rfl⟩
 refine Uq ?_;intros;refine⟨i+1,⟨ab,fun j hj=>?_⟩,ab,?_,by exact ae⟩
 ·rcases ce j i with h|h
  ·exact a4 j h
  ·obtain rfl:j=i:=ab;rw[t0];rw[a3] at c1 c2 c3 c4;exact⟨c1,c2,c3,c4⟩
 ·rw[aK i];exact ai
abbrev wq:List Stp:=[.ev 0,.ev 1,.ev 2,.ev 3,.ev 4,.ev 5,.ev 6,.ev 7,.ev 8,.ev 9,.ev 10,.ef 11,.ev 12,.ev 13,.ev 14,.ev 15,.ev 16,.ev 17,.ev 18,.ev 19,.ev 20,.ev 21,.ev 22,.ef 23,.ev 24,.ev 25]
def cC{φ ψ:Prop}(k:ψ)(h:Hid ψ→φ:=by intro k;(with_reducible apply G.d8);first|refine G.d7 (N:=97) (id:=17) wq mixed aw (Hid.out k)):φ:=h ⟨k⟩
def UA{φ ψ:Prop}(k:ψ)(h:Hid ψ→φ:=by intro k;(repeat (first|refine aa ?_|intro zzz|((with_reducible apply G.d8);first|refine G.d7 (N:=97) (id:=17) wq mixed aw ?_)));(repeat revert zzz);exact Hid.out k):φ:=h ⟨k⟩
def vk{L R:LH}{b:Nat}{sh:Int}{x:BkX}[hp:PickObj L b tBk (bI sh x) R](s:StV)[b5:Rds L s.mad MvV aQ 5 s.moves](hc:x.cat.m.Ok)(hB:x.cat.B)(c8:s.moves.length≤64)(a4:s.moves.length≤s.mcap)(hI:I64 s.rule) :
  Tri ag 149 #[av b,.agg (aL s).toArray] (catP x.cat::L) (fun v L'=>v=.bool (dB (fC x.cat.m.rules s.rule s.times (s.moves.map MvV.m)))∧L' = catP x.cat::L):=by
 obtain⟨c6,c7⟩:=hI;have c9:=hB.rules;have b9:x.cat.m.rules.length=x.cat.rules.length:=by simp[CatV.m]
 refine Tri.bd ?_;repeat first|((fail_if_success (with_reducible refine G.e7 2 ?_));(with_reducible apply G.seq))|refine bA ?_|intro _|refine cC ?_
 rename_i b3;refine G.d9 (α:=Unit) (fun _=>True) (fun _=>[(0,av b),(3,av b3),(5,ac (aO s.rule))]) (fun _=>obj b3 bB (aL s)::catP x.cat::L) ?_ ?_
 ·by_cases hf:s.rule < -1
  ·refine UA ?_;intros;refine⟨(),trivial,?_,by exact ae⟩;unfold aO;rw[if_pos hf];exact ai
  ·refine UA ?_;intros;refine⟨(),trivial,?_,by exact ae⟩;unfold aO;rw[if_neg hf];exact ai
 rintro _ _;by_cases h1:0≤aO s.rule
 case neg =>
  refine UA ?_;intros;exact KX.d7 an ae ⟨by rw[aH (fun h=>h1 h.1.1)];rfl,rfl⟩
 by_cases h2:aO s.rule<x.cat.rules.length
 case neg =>
  refine UA ?_;intros;exact KX.d7 an ae ⟨by rw[aH (fun h=>h2 (by have:=h.1.2;omega))];rfl,rfl⟩
 refine UA ?_;intros;refine GO.cr (oW s.times) ?_;by_cases h3:iy s.times
 case neg =>
  rw[aH h3];refine UA ?_;intros;exact KX.d7 an ae ⟨by rw[aH (fun h=>h3 h.2.1)];rfl,rfl⟩
 rw[aT h3];have a5:(aO s.rule).toNat<x.cat.rules.length:=ab;have a0:x.cat.rules[(aO s.rule).toNat]!∈x.cat.rules:=aG a5;have a2 : x.cat.m.rules[(aO s.rule).toNat]! = x.cat.rules[(aO s.rule).toNat]!.m:=dP RuV.m a5;have a3:x.cat.rules[(aO s.rule).toNat]!.m∈x.cat.m.rules:=alStd0List_mem_map_of_mem a0;refine GO.ent (Ent.at (A:=catP x.cat) catOpenR) ?_;refine GO.ent (Ent.at (A:=allP ruP x.cat.rules) ((Ent.d8 (f:=ruP) a0).trans ruOpen)) ?_;have c0:=hB.ru _ a0;have a9:=hc.take _ a3;have b4:=hc.give _ a3;have b2:=hc.back _ a3
 have a1:fC x.cat.m.rules s.rule s.times (s.moves.map MvV.m)↔(x.cat.rules[(aO s.rule).toNat]!.spawn=false∧¬(s.rule < -1∧x.cat.rules[(aO s.rule).toNat]!.chance ≥ x.cat.rules[(aO s.rule).toNat]!.of_)∧s.moves.length=x.cat.rules[(aO s.rule).toNat]!.take.l.length+(x.cat.rules[(aO s.rule).toNat]!.given s.rule).l.length ∧
   (∀i:Nat,i<x.cat.rules[(aO s.rule).toNat]!.take.l.length→kN (s.moves.map MvV.m) s.times x.cat.rules[(aO s.rule).toNat]!.take.l[i]! (s.moves.map MvV.m)[i]!) ∧
   (∀i:Nat,i<(x.cat.rules[(aO s.rule).toNat]!.given s.rule).l.length→kS ((s.moves.map MvV.m)[x.cat.rules[(aO s.rule).toNat]!.take.l.length]!).to s.times (x.cat.rules[(aO s.rule).toNat]!.given s.rule).l[i]! (s.moves.map MvV.m)[x.cat.rules[(aO s.rule).toNat]!.take.l.length+i]!)):=by
  unfold fC;rw[a2,rp,aA];exact⟨fun h=>h.2.2,fun h=>⟨⟨h1,ab⟩,h3,h⟩⟩
 obtain⟨c3,c5,b8⟩:=c0;simp only[AmB,RuV.m] at a9 b4 b2;have c4:(x.cat.rules[(aO s.rule).toNat]!.given s.rule).l.length≤64:=by unfold RuV.given;split<;>assumption
 have b7:∀a∈(x.cat.rules[(aO s.rule).toNat]!.given s.rule).l,0≤a.2∧a.2≤1099511627776:=by unfold RuV.given;split<;>assumption
 refine GO.ent (L':=amS (x.cat.rules[(aO s.rule).toNat]!.given s.rule)::amS x.cat.rules[(aO s.rule).toNat]!.take::isl bR 9 x.cat.rad x.cat.rules::catP x.cat::obj b3 bB (aL s)::L) ?_ ?_
 ·unfold RuV.given;split
  ·exact ae
  ·exact ae
 repeat first|((fail_if_success (with_reducible refine G.e7 8 ?_));(with_reducible apply G.seq))|refine bA ?_|intro _|refine cC ?_
 rename_i b6;have a7:∀h:s.rule < -1,x.cat.rules[(aO s.rule).toNat]!.given s.rule=x.cat.rules[(aO s.rule).toNat]!.back:=fun h=>if_pos h;have a6:∀h:¬s.rule < -1,x.cat.rules[(aO s.rule).toNat]!.given s.rule=x.cat.rules[(aO s.rule).toNat]!.give:=fun h=>if_neg h;clear a2 a0 a3 b4 b2 c5 b8 a5;generalize x.cat.rules[(aO s.rule).toNat]! = r at *;generalize r.given s.rule=gv at *;by_cases h5:s.rule < -1∧r.chance ≥ r.of_
 case pos =>
  obtain⟨c2,a8⟩:=h5;refine UA ?_;intros;exact KX.d7 an ae ⟨by rw[aH (fun h=>(a1.1 h).2.1 ⟨c2,a8⟩)];rfl,rfl⟩
 refine G.d9 (α:=Unit) (fun _=>True) (fun _=>[(0,av b),(3,av b3),(6,av b6),(7,.slice gv.ad gv.l.length gv.cap)]) (fun _=>obj b6 tRu (bR r)::obj b3 bB (aL s)::amS gv::amS r.take::catP x.cat::L) ?_ ?_
 ·by_cases hf:s.rule < -1
  ·have a8:¬r.chance ≥ r.of_:=fun h=>h5 ⟨hf,h⟩;rw[a7 hf];refine UA ?_;intros;exact⟨(),trivial,ai,by exact ae⟩
  ·rw[a6 hf];refine UA ?_;intros;exact⟨(),trivial,ai,by exact ae⟩
 rintro _ _;clear a7 a6;cases h4:r.spawn with
 | true =>
  refine UA ?_;intros;rw[h4];refine UA ?_;intros;exact KX.d7 an ae ⟨by rw[aH (fun h=>by have:=(a1.1 h).1;rw[h4] at this;cases this)];rfl,rfl⟩
 | false =>
 by_cases h6:s.moves.length=r.take.l.length+gv.l.length
 case neg =>
  refine UA ?_;intros;rw[h4];refine UA ?_;intros;exact KX.d7 an ae ⟨by rw[aH (fun h=>h6 (a1.1 h).2.2.1)];rfl,rfl⟩
 have c1:r.take.l.length≤s.moves.length:=ab
 have b1:mtP (fun m=>m.frm) (fun m=>m.to) s.times (s.moves.take r.take.l.length) r.take.l↔∀i:Nat,i<r.take.l.length→kN (s.moves.map MvV.m) s.times r.take.l[i]! (s.moves.map MvV.m)[i]!:=by
  have e:∀i,i<r.take.l.length→(s.moves.take r.take.l.length)[i]! = s.moves[i]!:=fun i hi=>by rw[getElem!_of (by rw[bh];omega),getElem!_of ab,dY]
  unfold mtP kN;rw[bh,Nat.min_eq_left c1];constructor
  ·intro h i hi;obtain⟨g1,g2,g3,g4⟩:=h i hi;rw[e i hi] at g1 g2 g3 g4;rw[e 0 ab] at g2;rw[jw _ ab,jw _ ab];exact⟨g2,g1,g3,g4⟩
  ·intro h i hi;obtain⟨g1,g2,g3,g4⟩:=h i hi;rw[jw _ ab] at g1 g2 g3 g4;rw[jw _ ab] at g1;rw[e i hi,e 0 ab];exact⟨g2,g1,g3,g4⟩
 have b0:mtP (fun m=>m.to) (fun m=>m.frm) s.times (s.moves.drop r.take.l.length) gv.l↔∀i:Nat,i<gv.l.length→kS ((s.moves.map MvV.m)[r.take.l.length]!).to s.times gv.l[i]! (s.moves.map MvV.m)[r.take.l.length+i]!:=by
  have e:∀i,i<gv.l.length→(s.moves.drop r.take.l.length)[i]! = s.moves[r.take.l.length+i]!:=fun i hi=>by rw[getElem!_of (by rw[cH];omega),getElem!_of ab,eK]
  unfold mtP kS;rw[cH,show s.moves.length - r.take.l.length=gv.l.length by omega];constructor
  ·intro h i hi;obtain⟨g1,g2,g3,g4⟩:=h i hi;rw[e i hi] at g1 g2 g3 g4;rw[e 0 ab] at g2;rw[jw _ ab,jw _ ab];exact⟨g1,g2,g3,g4⟩
  ·intro h i hi;obtain⟨g1,g2,g3,g4⟩:=h i hi;rw[jw _ ab] at g1 g2 g3 g4;rw[jw _ ab] at g2;rw[e i hi,e 0 ab];exact⟨g1,g2,g3,g4⟩
 haveI hrt:=Rds.take b5 r.take.l.length
 haveI hrd:=Rds.drop b5 a4 r.take.l.length
 refine UA ?_;intros;rw[h4];refine UA ?_;intros;refine GPW.ent (L':=obj b3 bB (aL s)::obj b6 tRu (bR r)::amS gv::amS r.take::catP x.cat::L) ae ?_;rw[show((Int.toNat (r.take.l.length:Int)))=r.take.l.length from ay _];refine GPW.ef (Ef.d8 rfl rfl (pz (L:=obj b6 tRu (bR r)::amS gv::amS r.take::catP x.cat::L) b3 s h3 237 238 (fun m=>m.frm) (fun m=>m.to) Eq FD s.mad r.take.l.length s.mcap (s.moves.take r.take.l.length) (hr:=inferInstance) r.take.ad r.take.l.length r.take.cap r.take.l (by rw[bh];omega) rfl (by rw[bh];omega) c3 a9)) ah ?_;rintro _ _⟨rfl,rfl⟩;by_cases q1:mtP (fun m=>m.frm) (fun m=>m.to) s.times (s.moves.take r.take.l.length) r.take.l
 case neg =>
  rw[aH q1];refine UA ?_;intros;exact KX.d7 an ae ⟨by rw[aH (fun h=>q1 (b1.2 (a1.1 h).2.2.2.1))];rfl,rfl⟩
 rw[aT q1];refine UA ?_;intros;rw[show((Int.toNat (r.take.l.length:Int)))=r.take.l.length from ay _];refine GPW.ef (Ef.d8 rfl rfl (pz (L:=obj b6 tRu (bR r)::amS gv::amS r.take::catP x.cat::L) b3 s h3 238 237 (fun m=>m.to) (fun m=>m.frm) FD Eq (advA s.mad s.mcap 5 r.take.l.length) (s.moves.length - r.take.l.length) (s.mcap - r.take.l.length) (s.moves.drop r.take.l.length) (hr:=inferInstance) gv.ad gv.l.length gv.cap gv.l (by rw[cH]) rfl (by rw[cH];omega) c4 b7)) ah ?_;rintro _ _⟨rfl,rfl⟩;refine UA ?_;intros;refine KX.d7 an ae ⟨?_,rfl⟩;by_cases q2:mtP (fun m=>m.to) (fun m=>m.frm) s.times (s.moves.drop r.take.l.length) gv.l
 ·rw[aT q2,aT (a1.2 ⟨h4,h5,h6,b1.1 q1,b0.1 q2⟩)];rfl
 ·rw[aH q2,aH (fun h=>q2 (b0.2 (a1.1 h).2.2.2.2))];rfl
