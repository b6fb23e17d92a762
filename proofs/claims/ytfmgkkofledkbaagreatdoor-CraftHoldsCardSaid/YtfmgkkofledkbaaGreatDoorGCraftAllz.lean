/- Lemmas and contracts of functions, in the order: B7, B8, B12. -/
import Derived.Test.YtfmgkkofledkbaaGreatDoorGCraftAlls
import Derived.Test.YtfmgkkofledkbaaGreatDoorGCraftAllk
set_option linter.all false
namespace Go.Proofs.YtfmgkkofledkbaaGreatDoor
open Go.V
def absF (S:LedM):AbsB:=⟨fun a i=>lsum (S.stk a i),S.tot⟩
structure LotsI (S:LedM):Prop where
 ok:S.Ok
 len:∀ a i,(S.stk a i).length≤S.flows.length
 steps:S.steps.length≤S.flows.length
theorem LotsI.abs {S:LedM} (h:LotsI S):AbsR S (absF S):=⟨fun _ _=>rfl,fun _=>rfl,h.len⟩
theorem DD {sh:Int} {nf:Nat} {mix:Int→Bool} {s:StM} {W:Wk} {m:MvM} {A:AbsB} {k:Nat} (h:WAbs W A k) (he:(bh sh nf mix s W m).1=0):A.can m:=by
 unfold bh at he
 by_cases h1:m.frm≠0∧lsum (W.stk m.frm m.item)<m.n
 ·rw [if_pos h1] at he;exact absurd (show (10:Int)=0 from he) ab
 rw [if_neg h1] at he
 by_cases h2:bY W m>1099511627776
 ·rw [if_pos h2] at he;exact absurd (show (4:Int)=0 from he) ab
 have hnt:=qI h.tot m
 refine ⟨?_,by rw [← hnt];omega⟩
 by_cases h0:m.frm=0
 ·exact .inl h0
 ·right
  rw [← h.bal]
  exact Classical.byContradiction (fun q=>h1 ⟨h0,ab⟩)
theorem sE {sh:Int} {nf:Nat} {mix:Int→Bool} {s:StM} (hsh:0≤sh):∀ (ms:List MvM) {W:Wk} {A:AbsB} {k:Nat},W.Ok nf→WAbs W A k→k+ms.length≤4096→(∀ m∈ms,1≤m.n∧m.n≤1099511627776)→(bL sh nf mix s W ms).1=0→A.cans ms
 | [],_,_,_,_,_,_,_,_=>trivial
 | m::ms,W,A,k,hO,h,hk,hn,he=>by
  simp only [List.length_cons] at hk
  have hn1:=hn m List.mem_cons_self
  have e:bL sh nf mix s W (m::ms)=if (bh sh nf mix s W m).1=0 then bL sh nf mix s (bh sh nf mix s W m).2 ms else ((bh sh nf mix s W m).1,W):=rfl
  rw [e] at he
  by_cases h1:(bh sh nf mix s W m).1=0
  ·rw [if_pos h1] at he
   have hc:=DD h h1
   obtain ⟨_,h2⟩:=pB (sh:=sh) (mix:=mix) (s:=s) hO h ab hn1.1 hc
   obtain ⟨hO1,_⟩:=iv hO dF hn1 hsh h1
   exact ⟨hc,sE hsh ms hO1 h2 ab (fun x hx=>hn x (List.mem_cons_of_mem _ hx)) he⟩
  ·rw [if_neg h1] at he
   exact absurd he h1
structure PostE (S:LedM) (s:StM) (S' : LedM):Prop where
 bal:∀ a i,lsum (S'.stk a i)=((absF S).mvs s.moves).bal a i
 tot:∀ i,S'.tot i=((absF S).mvs s.moves).tot i
 lots:LotsI S'
 flows:S'.flows.length=S.flows.length+s.moves.length
 now:S'.now=s.tick
 cat:S'.cat=S.cat
theorem yE {S:LedM} {s:StM} (h:LotsI S) (hf:S.flows.length+s.moves.length≤4096) (hp:eC S.cat S.now s) (hc:(absF S).cans s.moves):(tryM S s).1=0∧PostE S s (aI S s):=by
 have hst:=h.steps
 obtain ⟨e1,e2,e3,e4,e5⟩:=pu h.ok h.abs ab hf hp hc
 have h1:=hp.2.2.1.1
 have h2:=oU (S:=S) (s:=s)
 exact ⟨e1,e3.bal,e3.tot,⟨fj h.ok dF,e3.len,ab⟩,e5,e4,sw _ _⟩
theorem mo {S:LedM} {s:StM} (h:LotsI S) (hf:S.flows.length+64≤4096):((tryM S s).1≠0∧aI S s=S)∨((tryM S s).1=0∧PostE S s (aI S s)):=by
 by_cases he:(tryM S s).1=0
 case neg =>
  left
  refine ⟨he,?_⟩
  unfold aI
  rw [if_neg he]
 right
 obtain ⟨h1,h2,h3,h4⟩:=iC h.ok dF he
 have hf:S.flows.length+s.moves.length≤4096:=by have:=h2.2.2.1.2;omega
 have hn:∀ m∈s.moves,1≤m.n∧m.n≤1099511627776:=fun m hm=>by
  have h4:=h2.2.2.2.1 m hm
  unfold dv at h4
  rw [cu] at h4
  exact (of_decide_eq_true h4).2.1
 have e:tryM S s=bL S.shard S.flows.length (bP S.cat) (s.at (aC S)) (wk0 S) s.moves:=by
  unfold tryM
  rw [if_neg ab,if_neg (fun q=>q h2)]
 rw [e] at he
 have hc:=sE h.ok.shard.1 s.moves (W:=wk0 S) (A:=absF S) (k:=S.flows.length) (km h.ok) ⟨h.abs.bal,h.abs.tot,h.abs.len⟩ hf hn he
 exact yE h hf h2 hc
theorem rr {S:LedM} (h:S.Ok) (a i:Int):0≤lsum (S.stk a i):=by
 have h1:=fg (h.stk a i).2 (S.stk a i).length (Nat.le_refl _)
 rw [fk] at h1
 exact h1.1
theorem nD {a:Int} (i:Int):∀ (ms:List MvM) (A:AbsB),(∀ m∈ms,m.frm≠a∧m.to≠a)→(A.mvs ms).bal a i=A.bal a i
 | [],_,_=>rfl
 | m::ms,A,h=>by
  obtain ⟨h1,h2⟩:=h m List.mem_cons_self
  have ih:=nD i ms (A.mv m) (fun x hx=>h x (List.mem_cons_of_mem _ hx))
  show ((A.mv m).mvs ms).bal a i=_
  rw [ih]
  show A.bal a i - (if m.frm≠0∧a=m.frm∧i=m.item then m.n else 0)+(if m.to≠0∧a=m.to∧i=m.item then m.n else 0)=_
  rw [if_neg (fun q=>h1 q.2.1.symm),if_neg (fun q=>h2 q.2.1.symm)]
  omega
theorem Ct {a:Int} (i:Int):∀ (ms:List MvM) (A:AbsB),(∀ m∈ms,0≤m.n∧m.to≠a)→(A.mvs ms).bal a i≤A.bal a i
 | [],_,_=>Int.le_refl _
 | m::ms,A,h=>by
  obtain ⟨h1,h2⟩:=h m List.mem_cons_self
  have ih:=Ct i ms (A.mv m) (fun x hx=>h x (List.mem_cons_of_mem _ hx))
  show ((A.mv m).mvs ms).bal a i≤_
  have e:(A.mv m).bal a i=A.bal a i - (if m.frm≠0∧a=m.frm∧i=m.item then m.n else 0)+(if m.to≠0∧a=m.to∧i=m.item then m.n else 0):=rfl
  rw [if_neg (c:=m.to≠0∧a=m.to∧i=m.item) (fun q=>h2 q.2.1.symm)] at e
  split at e<;>omega
def dp (l:List (Int×Int)) (times i:Int):Int:=l.foldl (fun s a=>s+(if i=a.1 then a.2*times else 0)) 0
theorem nO (f:Int×Int→Int):∀ (l:List (Int×Int)) (s:Int),l.foldl (fun s a=>s+f a) s=s+l.foldl (fun s a=>s+f a) 0
 | [],s=>by simp
 | a::l,s=>by
  simp only [List.foldl_cons]
  rw [nO f l (s+f a),nO f l (0+f a)]
  omega
theorem lT (a:Int×Int) (l:List (Int×Int)) (times i:Int):dp (a::l) times i=(if i=a.1 then a.2*times else 0)+dp l times i:=by
 unfold dp
 simp only [List.foldl_cons]
 rw [nO (fun a=>if i=a.1 then a.2*times else 0)]
 omega
theorem pA {frm to times:Int} (hf:frm≠0) (ht:to≠0) (hne:frm≠to) (a i:Int):∀ (l:List (Int×Int)) (A:AbsB),(A.mvs (l.map (mkMv times frm to))).bal a i=A.bal a i+(if a=to then dp l times i else 0) - (if a=frm then dp l times i else 0)
 | [],A=>by
  show A.bal a i=A.bal a i+(if a=to then 0 else 0) - (if a=frm then 0 else 0)
  simp
 | x::l,A=>by
  have ih:=pA (times:=times) hf ht hne a i l (A.mv (mkMv times frm to x))
  show ((A.mv (mkMv times frm to x)).mvs (l.map (mkMv times frm to))).bal a i=_
  rw [ih,lT]
  have e:(A.mv (mkMv times frm to x)).bal a i=A.bal a i - (if frm≠0∧a=frm∧i=x.1 then x.2*times else 0)+(if to≠0∧a=to∧i=x.1 then x.2*times else 0):=rfl
  rw [e]
  obtain ⟨y,hy⟩:∃ y,x.2*times=y:=⟨_,rfl⟩
  rw [hy]
  by_cases h1:a=to
  ·have h2:a≠frm:=fun q=>hne (q.symm.trans h1)
   rw [if_pos h1,if_pos h1,if_neg h2,if_neg h2,if_neg (fun q=>h2 q.2.1)]
   by_cases h3:i=x.1
   ·rw [if_pos ⟨ht,h1,h3⟩,if_pos h3];omega
   ·rw [if_neg (fun q=>h3 q.2.2),if_neg h3];omega
  ·rw [if_neg h1,if_neg h1,if_neg (c:=to≠0∧a=to∧i=x.1) (fun q=>h1 q.2.1)]
   by_cases h2:a=frm
   ·rw [if_pos h2,if_pos h2]
    by_cases h3:i=x.1
    ·rw [if_pos ⟨hf,h2,h3⟩,if_pos h3];omega
    ·rw [if_neg (fun q=>h3 q.2.2),if_neg h3];omega
   ·rw [if_neg h2,if_neg h2,if_neg (fun q=>h2 q.2.1)];omega
theorem FS {acc hold:Int} (hh:hold≠0) (ha:acc≠0) (hne:hold≠acc) (A:AbsB) (j a i:Int):(A.gb acc hold j).bal a i=if i=j then (if a=hold then 0 else if a=acc then A.bal a i+A.bal hold i else A.bal a i) else A.bal a i:=by
 unfold AbsB.gb
 by_cases h0:A.bal hold j=0
 ·rw [if_pos h0]
  by_cases hi:i=j
  ·subst hi
   rw [if_pos rfl]
   by_cases h1:a=hold
   ·rw [if_pos h1,h1,h0]
   ·rw [if_neg h1]
    by_cases h2:a=acc
    ·rw [if_pos h2,h0];omega
    ·rw [if_neg h2]
  ·rw [if_neg hi]
 ·rw [if_neg h0]
  have e:(A.mv ⟨hold,acc,j,A.bal hold j,[]⟩).bal a i=A.bal a i - (if hold≠0∧a=hold∧i=j then A.bal hold j else 0)+(if acc≠0∧a=acc∧i=j then A.bal hold j else 0):=rfl
  rw [e]
  by_cases hi:i=j
  ·subst hi
   rw [if_pos rfl]
   by_cases h1:a=hold
   ·rw [if_pos h1,if_pos ⟨hh,h1,rfl⟩,if_neg (fun q=>hne (h1.symm.trans q.2.1)),h1];omega
   ·rw [if_neg h1,if_neg (fun q=>h1 q.2.1)]
    by_cases h2:a=acc
    ·rw [if_pos h2,if_pos ⟨ha,h2,rfl⟩];omega
    ·rw [if_neg h2,if_neg (fun q=>h2 q.2.1)];omega
  ·rw [if_neg hi,if_neg (fun q=>hi q.2.2),if_neg (fun q=>hi q.2.2)];omega
theorem FR {acc hold:Int} (hh:hold≠0) (ha:acc≠0) (A:AbsB) (j i:Int):(A.gb acc hold j).tot i=A.tot i:=by
 unfold AbsB.gb
 split
 ·rfl
 ·show A.tot i+(if i=j then (if hold=0 then A.bal hold j else 0) - (if acc=0 then A.bal hold j else 0) else 0)=_
  rw [if_neg hh,if_neg ha]
  split<;>omega
theorem ow {acc hold:Int} (hh:hold≠0) (ha:acc≠0) (hne:hold≠acc) (A:AbsB) (a i:Int):∀ k:Nat,(A.gbs acc hold k).bal a i=(if 0≤i∧i<k then (if a=hold then 0 else if a=acc then A.bal a i+A.bal hold i else A.bal a i) else A.bal a i)∧(A.gbs acc hold k).tot i=A.tot i
 | 0=>by
  rw [if_neg ab]
  exact ⟨rfl,rfl⟩
 | k+1=>by
  obtain ⟨h1,h2⟩:=ow hh ha hne A a i k
  have h3:=(ow hh ha hne A hold i k).1
  rw [AbsB.a6,FR hh ha,FS hh ha hne,h1,h2,h3]
  refine ⟨?_,rfl⟩
  by_cases hi:i=(k:Int)
  ·have hn:¬(0≤i∧i<(k:Int)):=ab
   have hp:0≤i∧i<((k+1:Nat):Int):=ab
   rw [if_pos hi,if_neg hn,if_neg hn,if_pos hp]
  ·rw [if_neg hi]
   by_cases hk:0≤i∧i<(k:Int)
   ·have hp:0≤i∧i<((k+1:Nat):Int):=ab
    rw [if_pos hk,if_pos hp]
   ·have hp:¬(0≤i∧i<((k+1:Nat):Int)):=ab
    rw [if_neg hk,if_neg hp]
structure BackE (S:LedM) (acc hold tick:Int) (S' : LedM):Prop where
 bal:∀ a i,lsum (S'.stk a i)=if 0≤i∧i<S.cat.items.length then (if a=hold then 0 else if a=acc then lsum (S.stk a i)+lsum (S.stk hold i) else lsum (S.stk a i)) else lsum (S.stk a i)
 lots:LotsI S'
 flows:S'.flows.length≤S.flows.length+S.cat.items.length
 now:S'.now=S.now∨S'.now=tick
 cat:S'.cat=S.cat
theorem rR {S:LedM} (h:LotsI S) {acc hold tick:Int} (ha:aM acc) (hh:536870912≤hold∧hold≤536871000) (ht:0≤tick∧tick≤1099511627776) (hn:S.now≤tick) (hf:S.flows.length+S.cat.items.length≤4096) (hb:∀ i:Int,0≤i→i<S.cat.items.length→lsum (S.stk hold i)≤1099511627776):BackE S acc hold tick (gbM acc tick hold S S.cat.items.length):=by
 have ha1:accP acc∧acc≠0:=by unfold aM at ha;unfold accP;omega
 have hh1:accP hold∧hold≠0:=by unfold accP;omega
 have hne:hold≠acc:=by unfold aM at ha;omega
 have main:∀ k,k≤S.cat.items.length→(gbM acc tick hold S k).now≤tick∧((gbM acc tick hold S k).now=S.now∨(gbM acc tick hold S k).now=tick)∧LotsI (gbM acc tick hold S k)∧(gbM acc tick hold S k).cat=S.cat∧(gbM acc tick hold S k).flows.length≤S.flows.length+k∧AbsR (gbM acc tick hold S k) ((absF S).gbs acc hold k):=by
  intro k
  induction k with
  | zero=>intro _;exact ⟨hn,.inl rfl,h,rfl,Nat.le_refl _,h.abs⟩
  | succ k ih =>
   intro hk
   obtain ⟨i1,i2,i3,i4,i5,i6⟩:=ih ab
   rw [jo]
   generalize hG:gbM acc tick hold S k=G at *
   have hB:=ow hh1.2 ha1.2 hne (absF S) hold (k:Int) k
   rw [if_neg ab] at hB
   have hst:=h.steps
   have hst3:=i3.steps
   have hbn:=rr h.ok hold (k:Int)
   have hbk:=hb (k:Int) ab ab
   have htk:=(h.ok.tot (k:Int)).2
   have hAt:AtL G S.cat ((absF S).gbs acc hold k) G.now G.steps.length G.flows.length:=⟨i3.ok,i4,i6,rfl,Nat.le_refl _,Nat.le_refl _⟩
   have hs:lsum (G.stk hold (k:Int))=lsum (S.stk hold (k:Int)):=by rw [i6.bal,hB.1];rfl
   unfold gbS
   rw [AbsB.a6]
   by_cases h0:lsum (G.stk hold (k:Int))=0
   ·rw [if_pos h0]
    have e:((absF S).gbs acc hold k).gb acc hold (k:Int)=(absF S).gbs acc hold k:=by
     unfold AbsB.gb
     rw [if_pos (by rw [← i6.bal];exact h0)]
    rw [e]
    exact ⟨i1,i2,i3,i4,ab,i6⟩
   ·rw [if_neg h0]
    have e:((absF S).gbs acc hold k).gb acc hold (k:Int)=((absF S).gbs acc hold k).mv ⟨hold,acc,k,lsum (G.stk hold (k:Int)),[]⟩:=by
     unfold AbsB.gb
     rw [if_neg (by rw [← i6.bal];exact h0),← i6.bal]
    have hp:eC G.cat G.now (gbT acc tick hold (k:Int) (lsum (G.stk hold (k:Int)))):=by
     refine rG ac ha1.1 ht i1 (by simp) ?_
     intro x hx
     rw [List.mem_singleton.1 hx,i4]
     exact hJ (by dsimp only;omega) ⟨show (1:Int)≤lsum (G.stk hold (k:Int)) by omega,show lsum (G.stk hold (k:Int))≤_ by omega⟩ hh1.1 ha1.1 hne (kz hh1.2) (kTo2 ha1.2) rfl
    have hc:(absF G).cans (gbT acc tick hold (k:Int) (lsum (G.stk hold (k:Int)))).moves:=by
     refine ⟨⟨.inr (Int.le_refl _),?_⟩,trivial⟩
     show G.tot (k:Int)+(if (k:Int)=(k:Int) then (if hold=0 then lsum (G.stk hold (k:Int)) else 0) - (if acc=0 then lsum (G.stk hold (k:Int)) else 0) else 0)≤_
     rw [if_pos rfl,if_neg hh1.2,if_neg ha1.2]
     have:=(i3.ok.tot (k:Int)).2
     omega
    obtain ⟨_,p⟩:=yE (s:=gbT acc tick hold (k:Int) (lsum (G.stk hold (k:Int)))) i3 (show G.flows.length+1≤4096 by omega) hp hc
    have hp2:=pu (s:=gbT acc tick hold (k:Int) (lsum (G.stk hold (k:Int)))) i3.ok i6 ab (show G.flows.length+1≤4096 by omega) hp (by
     refine ⟨⟨.inr (by show lsum (G.stk hold (k:Int))≤_;rw [← i6.bal];exact Int.le_refl _),?_⟩,trivial⟩
     show ((absF S).gbs acc hold k).tot (k:Int)+(if (k:Int)=(k:Int) then (if hold=0 then lsum (G.stk hold (k:Int)) else 0) - (if acc=0 then lsum (G.stk hold (k:Int)) else 0) else 0)≤_
     rw [if_pos rfl,if_neg hh1.2,if_neg ha1.2,hB.2]
     show S.tot (k:Int)+(0 - 0)≤_
     omega)
    rw [e]
    refine ⟨by rw [p.now];exact Int.le_refl _,.inr p.now,p.lots,p.cat.trans i4,?_,hp2.2.2.1⟩
    rw [p.flows]
    show G.flows.length+1≤_
    omega
 obtain ⟨i1,i2,i3,i4,i5,i6⟩:=main S.cat.items.length (Nat.le_refl _)
 refine ⟨fun a i=>?_,i3,i5,i2,i4⟩
 rw [i6.bal,(ow hh1.2 ha1.2 hne (absF S) a i _).1]
 rfl
end Go.Proofs.YtfmgkkofledkbaaGreatDoor
namespace Go.Proofs.YtfmgkkofledkbaaGreatDoor
open Go.V
attribute [local irreducible] tryM cL da dc dg dp
structure RulesB (c:CatM):Prop where
 sum:∀ r∈c.rules,∀ t i:Int,0≤t→t≤1000→0≤dp r.take t i∧dp r.take t i≤1099511627776
 few:∀ r∈c.rules,r.take.length+r.give.length≤3∧r.take.length+r.back.length≤3
 items:c.items.length=5
 am:c.Ok
 ch:∀ r∈c.rules,1≤r.chance∧r.chance≤r.of_
def my (rs:List RuM) (j:JobM) (i:Int):Int:=if j.done=true then 0 else dp rs[j.rule.toNat]!.take j.times i
structure HoldI (S:LedM) (js:List JobM):Prop where
 lots:LotsI S
 hold:∀ k,k<js.length→∀ i:Int,0≤i→i<S.cat.items.length→lsum (S.stk (536870912+(k:Int)) i)=my S.cat.rules js[k]! i
 free:∀ a,536870912+(js.length:Int)≤a→∀ i:Int,0≤i→i<S.cat.items.length→lsum (S.stk a i)=0
theorem HoldI.post {S:LedM} {js:List JobM} (h:HoldI S js) {s:StM} (hf:S.flows.length+64≤4096) (hm:∀ m∈s.moves,m.frm<536870912∧m.to<536870912):HoldI (aI S s) js∧(aI S s).flows.length≤S.flows.length+64:=by
 rcases mo (s:=s) h.lots hf with ⟨_,e⟩|⟨he,p⟩
 ·rw [e]
  exact ⟨h,Nat.le_add_right _ _⟩
 ·have hl:=(iC h.lots.ok dF he).2.1.2.2.1.2
  have ho:∀ a i,536870912≤a→lsum ((aI S s).stk a i)=lsum (S.stk a i):=fun a i ha=>by
   rw [p.bal,nD i s.moves (absF S) (fun m hm'=>by have:=hm m hm';omega)]
   rfl
  refine ⟨⟨p.lots,fun k hk i h0 h1=>?_,fun a ha i h0 h1=>?_⟩,by rw [p.flows];omega⟩
  ·rw [ho _ i ab,p.cat]
   rw [p.cat] at h1
   exact h.hold k hk i h0 h1
  ·rw [ho _ i ab]
   rw [p.cat] at h1
   exact h.free a ha i h0 h1
structure PartE (S:LedM) (j:JobM) (tick:Int) (d:Nat) (S' : LedM):Prop where
 lots:LotsI S'
 cat:S'.cat=S.cat
 flows:S'.flows.length≤S.flows.length+d
 now:S'.now≤tick
 other:∀ a,a≠0→a≠j.hold→a≠j.acc→∀ i,lsum (S'.stk a i)=lsum (S.stk a i)
 hold:∀ i,lsum (S'.stk j.hold i)≤lsum (S.stk j.hold i)
theorem uQ {S:LedM} (h:LotsI S) {j:JobM} (hne:j.hold≠0∧j.hold≠j.acc) {times:Int} (ht:0≤times) {take give:List (Int×Int)} (hl:take.length+give.length≤3) (hA:AmB take∧AmB give) {rule tick:Int} (hn:S.now≤tick) (hf:S.flows.length+64≤4096):PartE S j tick 3 (dH S j times take give rule tick).2:=by
 have e:(dH S j times take give rule tick).2=aI S (gn j.acc j.hold take give times rule tick):=rfl
 rw [e]
 have hm:∀ m∈(gn j.acc j.hold take give times rule tick).moves,0≤m.n∧((m.frm=j.hold∧m.to=0)∨(m.frm=0∧m.to=j.acc)):=by
  intro m hm
  rcases List.mem_append.1 hm with hm|hm
  ·obtain ⟨x,hx,rfl⟩:=List.mem_map.1 hm
   exact ⟨Int.mul_nonneg (hA.1 x hx).1 ht,.inl ⟨rfl,rfl⟩⟩
  ·obtain ⟨x,hx,rfl⟩:=List.mem_map.1 hm
   exact ⟨Int.mul_nonneg (hA.2 x hx).1 ht,.inr ⟨rfl,rfl⟩⟩
 have hml:(gn j.acc j.hold take give times rule tick).moves.length≤3:=by
  show (take.map _++give.map _).length≤3
  rw [List.length_append,List.length_map,List.length_map]
  exact hl
 rcases mo (s:=gn j.acc j.hold take give times rule tick) h hf with ⟨_,e⟩|⟨_,p⟩
 ·rw [e]
  exact ⟨h,rfl,Nat.le_add_right _ _,hn,fun _ _ _ _ _=>rfl,fun _=>Int.le_refl _⟩
 ·refine ⟨p.lots,p.cat,by rw [p.flows];omega,by rw [p.now];exact Int.le_refl _,fun a h0 h1 h2 i=>?_,fun i=>?_⟩
  ·rw [p.bal,nD i _ (absF S) (fun m hm'=>by
    rcases (hm m hm').2 with ⟨q1,q2⟩|⟨q1,q2⟩
    ·exact ⟨fun q=>h1 (q.symm.trans q1),fun q=>h0 (q.symm.trans q2)⟩
    ·exact ⟨fun q=>h0 (q.symm.trans q1),fun q=>h2 (q.symm.trans q2)⟩)]
   rfl
  ·rw [p.bal]
   exact Ct i _ (absF S) (fun m hm'=>⟨(hm m hm').1,by
    rcases (hm m hm').2 with ⟨q1,q2⟩|⟨q1,q2⟩
    ·exact fun q=>hne.1 (q.symm.trans q2)
    ·exact fun q=>hne.2 (q.symm.trans q2)⟩)
theorem Fs {S:LedM} (h:LotsI S) (hB:RulesB S.cat) {j:JobM} (ha:aM j.acc) (hh:536870912≤j.hold∧j.hold≤536871000) (hj:cn j.times) (hr:dG S.cat.rules j.rule false) (seed:List Int) {tick:Int} (ht:0≤tick∧tick≤1099511627776) (hn:S.now≤tick) (hf:S.flows.length+100≤4096) (hb:∀ i:Int,0≤i→i<S.cat.items.length→lsum (S.stk j.hold i)≤1099511627776) :
  PartE S j tick 11 (endJ S seed j tick).1∧∀ i:Int,0≤i→i<S.cat.items.length→lsum ((endJ S seed j tick).1.stk j.hold i)=0:=by
 have hne:j.hold≠0∧j.hold≠j.acc:=by unfold aM at ha;omega
 have hm:=ap (show j.rule.toNat<S.cat.rules.length by have:=hr.1;have:=hr.2.1;omega)
 obtain ⟨r,hr'⟩:∃ r,S.cat.rules[j.rule.toNat]! = r:=⟨_,rfl⟩
 rw [hr'] at hm
 have hfew:=hB.few r hm
 have hs:=lU (seed:=seed) (id:=j.id) (times:=j.times) (hB.ch r hm) (by have:=hj.1;omega)
 have e:(endJ S seed j tick).1=gbM j.acc tick j.hold (dH (dH S j (da seed j.id j.times r.chance r.of_) r.take r.give j.rule tick).2 j (j.times - da seed j.id j.times r.chance r.of_) r.take r.back (-2 - j.rule) tick).2 S.cat.items.length:=by
  unfold endJ
  dsimp only
  rw [hr']
 rw [e]
 obtain ⟨won,hw⟩:∃ w,da seed j.id j.times r.chance r.of_=w:=⟨_,rfl⟩
 rw [hw] at hs ⊢
 have p1:=uQ (j:=j) h hne hs.1 hfew.1 ⟨hB.am.take r hm,hB.am.give r hm⟩ (rule:=j.rule) hn ab
 generalize (dH S j won r.take r.give j.rule tick).2=S1 at *
 have hf1:=p1.flows
 have p2:=uQ (j:=j) (S:=S1) p1.lots hne (show 0≤j.times - won by omega) hfew.2 ⟨hB.am.take r hm,hB.am.back r hm⟩ (rule:=-2 - j.rule) p1.now ab
 generalize (dH S1 j (j.times - won) r.take r.back (-2 - j.rule) tick).2=S2 at *
 have hf2:=p2.flows
 have hc2:S2.cat=S.cat:=p2.cat.trans p1.cat
 have hit:=hB.items
 have g:=rR (S:=S2) p2.lots ha hh ht p2.now (by rw [hc2];omega) (fun i h0 h1=>by
  have h2:=p1.hold i
  have h3:=p2.hold i
  have h4:=hb i h0 (by rw [hc2] at h1;exact h1)
  omega)
 rw [hc2] at g
 generalize gbM j.acc tick j.hold S2 S.cat.items.length=S3 at *
 have hbal:=g.bal
 rw [hc2] at hbal
 have hg:=g.flows
 rw [hc2] at hg
 refine ⟨⟨g.lots,g.cat.trans hc2,ab,?_,fun a h0 h1 h2 i=>?_,fun i=>?_⟩,fun i h0 h1=>?_⟩
 ·rcases g.now with q|q
  ·rw [q];exact p2.now
  ·rw [q];exact Int.le_refl _
 ·rw [hbal,if_neg h1,if_neg h2,p2.other a h0 h1 h2,p1.other a h0 h1 h2]
  split<;>rfl
 ·rw [hbal,if_pos rfl]
  have h2:=p1.hold i
  have h3:=p2.hold i
  have h4:=rr h.ok j.hold i
  split<;>omega
 ·rw [hbal,if_pos ⟨h0,h1⟩,if_pos rfl]
theorem HoldI.end {S:LedM} {Y:YardM} (h:HoldI S Y.jobs) (hB:RulesB S.cat) (hY:Y.Ok) (hR:RulesJ S Y.jobs) {tick:Int} (ht:0≤tick∧tick≤1099511627776) (hn:S.now≤tick) (hf:S.flows.length+100≤4096) {k:Nat} (hk:k<Y.jobs.length) :
  HoldI (endM tick (S,Y) k).1 (endM tick (S,Y) k).2.jobs∧(endM tick (S,Y) k).1.flows.length≤S.flows.length+11∧(endM tick (S,Y) k).1.now≤tick:=by
 obtain ⟨n1,n2,n3,n4⟩:=hY.num k hk
 obtain ⟨i1,i2⟩:=hY.id k hk
 have hlen:=hY.len
 have hhk:=h.hold k hk
 obtain ⟨e1,e2⟩:=jO S Y.seed Y.jobs[k]! tick
 have hm:=ap (show Y.jobs[k]!.rule.toNat<S.cat.rules.length by have:=(hR k hk).1;have:=(hR k hk).2.1;omega)
 have hE:=Fs (j:=Y.jobs[k]!) h.lots hB n1 (by rw [i2];omega) n2 (hR k hk) Y.seed ht hn hf (fun i h0 h1=>by
  have:=hhk i h0 h1
  rw [i2,this]
  unfold my
  split
  ·omega
  ·exact (hB.sum _ hm _ i (by have:=n2.1;omega) n2.2).2)
 show HoldI (endJ S Y.seed Y.jobs[k]! tick).1 (Y.jobs.set k (endJ S Y.seed Y.jobs[k]! tick).2)∧(endJ S Y.seed Y.jobs[k]! tick).1.flows.length≤_∧(endJ S Y.seed Y.jobs[k]! tick).1.now≤tick
 generalize endJ S Y.seed Y.jobs[k]! tick=q at *
 obtain ⟨p,hz⟩:=hE
 rw [i2] at hz
 have ho:∀ a:Int,536870912≤a→a≠536870912+(k:Int)→∀ i,lsum (q.1.stk a i)=lsum (S.stk a i):=fun a ha hne i=>p.other a ab (by rw [i2];exact hne) (by unfold aM at n1;omega) i
 refine ⟨⟨p.lots,fun k' hk' i h0 h1=>?_,fun a ha i h0 h1=>?_⟩,p.flows,p.now⟩
 ·rw [List.length_set] at hk'
  rw [p.cat] at h1 ⊢
  rw [dj hk']
  by_cases e:k' = k
  ·rw [if_pos e,e]
   unfold my
   rw [if_pos e2]
   exact hz i h0 h1
  ·rw [if_neg e,ho _ ab ab]
   exact h.hold k' hk' i h0 h1
 ·rw [List.length_set] at ha
  rw [p.cat] at h1
  rw [ho _ ab ab]
  exact h.free a ha i h0 h1
theorem CU {α:Type} [Inhabited α] {l:List α} {g:Nat} (h:g<l.length):l.drop g=l[g]!::l.drop (g+1):=by
 rw [List.drop_eq_getElem_cons h,getElem!_of h]
theorem HoldI.adv {n:Nat} {S:LedM} {Y:YardM} (hI:RunI n S Y) (hn:n≤17) (h:HoldI S Y.jobs) (hB:RulesB S.cat) (hf:S.flows.length≤200*n) (tick:Int):HoldI (advM S Y tick).2.1 (advM S Y tick).2.2.jobs∧(advM S Y tick).2.1.flows.length≤200*(n+1):=by
 by_cases ht:aV Y.tick S.now tick
 case neg =>
  rw [eA ht]
  exact ⟨h,by show S.flows.length≤_;omega⟩
 obtain ⟨ids,hids⟩:=eR Y.jobs tick
 rw [ga ht hids]
 have hil:=hids.len
 have hjl:=hI.len
 have hb:=fK hI.yok ht
 have main:∀ g,g≤ids.length→HoldI (advS S Y tick ids g).1 (advS S Y tick ids g).2.jobs∧(advS S Y tick ids g).1.flows.length≤S.flows.length+11*g∧(advS S Y tick ids g).1.now≤tick:=by
  intro g
  induction g with
  | zero =>
   intro _
   rw [lf]
   exact ⟨h,Nat.le_refl _,ht.2.1⟩
  | succ g ih =>
   intro hg
   obtain ⟨j1,j2,j3⟩:=ih ab
   have hA:=iy hI.sok hI.yok hI.rul hb hids g
   rw [CU (show g<ids.length by omega)] at hA
   obtain ⟨_,hk,_⟩:=hA.due.head
   rw [ol ab]
   generalize advS S Y tick ids g=q at *
   obtain ⟨S',Y'⟩:=q
   obtain ⟨r1,r2,r3⟩:=HoldI.end (S:=S') (Y:=Y') j1 (by rw [show S'.cat=S.cat from hA.cat];exact hB) hA.yok (hA.rul.cat hA.cat) hb j3 (by dsimp only at j2;omega) hk
   exact ⟨r1,by dsimp only at j2;omega,r3⟩
 obtain ⟨j1,j2,j3⟩:=main ids.length (Nat.le_refl _)
 exact ⟨j1,by show (advS S Y tick ids ids.length).1.flows.length≤_;omega⟩
theorem HoldI.start {n:Nat} {S:LedM} {Y:YardM} (hI:RunI n S Y) (hn:n≤17) (h:HoldI S Y.jobs) (hf:S.flows.length≤200*n) (acc level rule times tick:Int):HoldI (bC S Y acc level rule times tick).2.1 (bC S Y acc level rule times tick).2.2.jobs∧(bC S Y acc level rule times tick).2.1.flows.length≤200*(n+1):=by
 rcases eF S Y acc level rule times tick with ⟨e,_⟩|⟨h1,h2,h3,h4,h5,e⟩
 ·rw [e]
  exact ⟨h,by show S.flows.length≤_;omega⟩
 rw [e]
 dsimp only
 obtain ⟨r,hr⟩:∃ r,S.cat.rules[rule.toNat]! = r:=⟨_,rfl⟩
 rw [hr] at h5 ⊢
 have hE:∃ S',(if r.take.length=0 then S else aI S (eE acc r.take times tick (536870912+Y.jobs.length)))=S'∧LotsI S'∧S'.cat=S.cat∧S'.flows.length≤S.flows.length+64∧∀ a i,lsum (S'.stk a i)=lsum (S.stk a i)+(if a=536870912+(Y.jobs.length:Int) then dp r.take times i else 0) - (if a=acc then dp r.take times i else 0):=by
  refine ⟨_,rfl,?_⟩
  by_cases h0:r.take.length=0
  ·rw [if_pos h0,List.length_eq_zero_iff.1 h0]
   refine ⟨h.lots,rfl,Nat.le_add_right _ _,fun a i=>?_⟩
   have:dp [] times i=0:=by unfold dp;rfl
   rw [this]
   split<;>split<;>omega
  ·rw [if_neg h0]
   have hok:=h5.resolve_left h0
   rcases mo (s:=eE acc r.take times tick (536870912+Y.jobs.length)) h.lots ab with ⟨q,_⟩|⟨_,p⟩
   ·exact absurd hok q
   ·refine ⟨p.lots,p.cat,?_,fun a i=>?_⟩
    ·rw [p.flows]
     have:=(iC h.lots.ok dF hok).2.1.2.2.1.2
     omega
    ·rw [p.bal]
     exact pA (frm:=acc) (to:=536870912+(Y.jobs.length:Int)) (by unfold aM at h1;omega) ab (by unfold aM at h1;omega) a i r.take (absF S)
 obtain ⟨S',e',q1,q2,q3,q4⟩:=hE
 rw [e']
 unfold aM at h1
 refine ⟨⟨q1,fun k hk i h0 h6=>?_,fun a ha i h0 h6=>?_⟩,ab⟩
 ·rw [List.length_append,List.length_singleton] at hk
  rw [q2] at h6 ⊢
  rw [q4,fa hk]
  by_cases e2:k=Y.jobs.length
  ·rw [if_pos e2,if_pos ab,if_neg ab,h.free _ ab i h0 h6]
   unfold my
   dsimp only
   rw [if_neg (by simp),hr]
   omega
  ·rw [if_neg e2,if_neg ab,if_neg ab,h.hold k ab i h0 h6]
   omega
 ·rw [List.length_append,List.length_singleton] at ha
  rw [q2] at h6
  rw [q4,if_neg ab,if_neg ab,h.free a ab i h0 h6]
  omega
theorem HoldI.cancel {n:Nat} {S:LedM} {Y:YardM} (hI:RunI n S Y) (hn:n≤17) (h:HoldI S Y.jobs) (hB:RulesB S.cat) (hf:S.flows.length≤200*n) (acc job tick:Int):HoldI (ba S Y acc job tick).2.1 (ba S Y acc job tick).2.2.jobs∧(ba S Y acc job tick).2.1.flows.length≤200*(n+1):=by
 have hsame:HoldI S Y.jobs∧S.flows.length≤200*(n+1):=⟨h,ab⟩
 unfold ba
 split
 ·exact hsame
 ·rename_i h1
  have h1':=Classical.not_not.1 h1
  split
  ·exact hsame
  ·rename_i h2
   have h2':=Classical.not_not.1 h2
   split
   ·exact hsame
   ·split
    ·exact hsame
    ·have hk:job.toNat<Y.jobs.length:=ab
     have hb:=fK hI.yok h1'.2
     obtain ⟨i1,i2⟩:=hI.yok.id _ hk
     obtain ⟨n1,n2,_⟩:=hI.yok.num _ hk
     have hm:=ap (show Y.jobs[job.toNat]!.rule.toNat<S.cat.rules.length by have:=(hI.rul _ hk).1;have:=(hI.rul _ hk).2.1;omega)
     have hlen:=hI.yok.len
     have g:=rR (acc:=acc) (hold:=Y.jobs[job.toNat]!.hold) (tick:=tick) h.lots h1'.1 (by rw [i2];omega) hb h1'.2.2.1 (by rw [hB.items];omega) (fun i h0 h5=>by
      rw [i2,h.hold _ hk i h0 h5]
      unfold my
      split
      ·omega
      ·exact (hB.sum _ hm _ i (by have:=n2.1;omega) n2.2).2)
     rw [i2] at g ⊢
     dsimp only
     generalize gbM acc tick (536870912+(job.toNat:Int)) S S.cat.items.length=S' at *
     have hgf:=g.flows
     rw [hB.items] at hgf
     have hpl:=h1'.1
     unfold aM at hpl
     refine ⟨⟨g.lots,fun k hk2 i h0 h5=>?_,fun a ha i h0 h5=>?_⟩,ab⟩
     ·have hk3:k<Y.jobs.length:=by
       have hk4:k<(Y.jobs.set job.toNat (finJ Y.jobs[job.toNat]!)).length:=hk2
       rw [List.length_set] at hk4
       exact hk4
      show _=my S'.cat.rules (Y.jobs.set job.toNat (finJ Y.jobs[job.toNat]!))[k]! i
      rw [g.cat] at h5 ⊢
      rw [dj hk3,g.bal,if_pos ⟨h0,h5⟩]
      by_cases e:k=job.toNat
      ·rw [if_pos e,if_pos ab]
       rfl
      ·rw [if_neg e,if_neg ab,if_neg ab]
       exact h.hold k hk3 i h0 h5
     ·have ha' : 536870912+(Y.jobs.length:Int)≤a:=by
       have ha4:536870912+((Y.jobs.set job.toNat (finJ Y.jobs[job.toNat]!)).length:Int)≤a:=ha
       rw [List.length_set] at ha4
       exact ha4
      rw [g.cat] at h5
      rw [g.bal,if_pos ⟨h0,h5⟩,if_neg ab,if_neg ab]
      exact h.free a ha' i h0 h5
theorem qi {acc times tick:Int} (h:aM acc) (l:List (Int×Int)):∀ m∈(cK acc l times tick).moves,m.frm<536870912∧m.to<536870912:=by
 intro m hm
 obtain ⟨x,_,rfl⟩:=List.mem_map.1 hm
 unfold aM at h
 exact ⟨show (0:Int)<_ by omega,show acc<_ by omega⟩
theorem HoldI.spawn {n:Nat} {S:LedM} {Y:YardM} (hn:n≤17) (h:HoldI S Y.jobs) (hf:S.flows.length≤200*n) (acc rule times tick:Int):HoldI (bI S Y acc rule times tick).2.1 (bI S Y acc rule times tick).2.2.jobs∧(bI S Y acc rule times tick).2.1.flows.length≤200*(n+1):=by
 have hsame:HoldI S Y.jobs∧S.flows.length≤200*(n+1):=⟨h,ab⟩
 unfold bI
 split
 ·exact hsame
 ·rename_i h1
  have h1':=Classical.not_not.1 h1
  split
  ·exact hsame
  ·dsimp only
   obtain ⟨p1,p2⟩:=h.post (s:=cK acc S.cat.rules[rule.toNat]!.give times tick) ab (qi h1'.1 _)
   refine ⟨?_,ab⟩
   split
   ·exact p1
   ·exact p1
theorem HoldI.loot {n:Nat} {S:LedM} {Y:YardM} (hn:n≤17) (h:HoldI S Y.jobs) (hf:S.flows.length≤200*n) (acc table tick:Int):HoldI (bW S Y acc table tick).2.1 (bW S Y acc table tick).2.2.jobs∧(bW S Y acc table tick).2.1.flows.length≤200*(n+1):=by
 have hsame:HoldI S Y.jobs∧S.flows.length≤200*(n+1):=⟨h,ab⟩
 by_cases h1:aM acc∧aV Y.tick S.now tick
 case neg =>
  rw [fm h1]
  exact hsame
 by_cases h2:0≤table∧table<S.cat.tables.length
 case neg =>
  rw [eH h1.1 h1.2 h2]
  exact hsame
 obtain ⟨p,hp⟩:∃ p,p=dg (dc Y.seed Y.loots) (S.cat.tables[table.toNat]!.rows.map (·.weight)) 0:=⟨_,rfl⟩
 rw [fO h1.1 h1.2 h2 rfl rfl hp]
 clear hp
 generalize S.cat.tables[table.toNat]!.rows[p.1.toNat]!.give=gv
 by_cases h3:p.2.1=0
 case neg =>
  rw [if_pos h3]
  exact hsame
 rw [if_neg (fun q=>q h3)]
 by_cases h4:gv.length=0
 case pos =>
  rw [if_pos h4]
  exact hsame
 rw [if_neg h4]
 by_cases h5:(tryM S (cK acc gv 1 tick)).1=0
 case neg =>
  rw [if_pos h5]
  exact hsame
 rw [if_neg (fun q=>q h5)]
 obtain ⟨p1,p2⟩:=h.post (s:=cK acc gv 1 tick) ab (qi h1.1 _)
 exact ⟨p1,by show (aI S (cK acc gv 1 tick)).flows.length≤_;omega⟩
attribute [local irreducible] bW advM bC ba bI
theorem HoldI.step {n:Nat} {S:LedM} {Y:YardM} (hI:RunI n S Y) (hn:n≤17) (h:HoldI S Y.jobs) (hB:RulesB S.cat) (hf:S.flows.length≤200*n) {o:OpM} (ho:OpOk o):HoldI (doM S Y o).2.1 (doM S Y o).2.2.jobs∧(doM S Y o).2.1.flows.length≤200*(n+1):=by
 unfold doM
 split
 ·exact HoldI.start hI hn h hf _ _ _ _ _
 ·split
  ·exact HoldI.cancel hI hn h hB hf _ _ _
  ·split
   ·exact HoldI.adv hI hn h hB hf _
   ·split
    ·exact HoldI.spawn hn h hf _ _ _ _
    ·split
     ·exact HoldI.loot hn h hf _ _ _
     ·have hoa:=ho.acc
      obtain ⟨p1,p2⟩:=h.post (s:=fB o) ab (by
       intro m hm
       rw [List.mem_singleton.1 hm]
       exact ⟨show o.acc<_ by omega,show (5:Int)<_ by omega⟩)
      exact ⟨p1,by show (aI S (fB o)).flows.length≤_;omega⟩
attribute [local irreducible] doM
theorem kM {S:LedM} {Y:YardM} (h:RunI 0 S Y) (hh:HoldI S Y.jobs) (hf:S.flows.length=0) (hB:RulesB S.cat) {ops:List OpM} (hl:ops.length≤18) (ho:∀ o∈ops,OpOk o):∀ n,n≤ops.length→HoldI (runS S Y ops n).1 (runS S Y ops n).2.jobs∧(runS S Y ops n).1.flows.length≤200*n
 | 0,_=>⟨hh,by show S.flows.length≤_;omega⟩
 | n+1,hn=>by
  have hI:=fM h ab ho n ab
  have hcat:=gJ h ab ho n ab
  obtain ⟨i1,i2⟩:=kM h hh hf hB hl ho n ab
  rw [gc ab]
  generalize runS S Y ops n=q at *
  exact HoldI.step hI ab i1 (by rw [hcat];exact hB) i2 (ho _ (ap ab))
end Go.Proofs.YtfmgkkofledkbaaGreatDoor
namespace Go.Proofs.YtfmgkkofledkbaaGreatDoor
open Go.V
theorem cat16_rulesB:RulesB cat16:=by
 refine ⟨?_,fun r hr=>?_,rfl,mQ,fun r hr=>?_⟩
 ·intro r hr t i h0 h1
  simp only [cat16,List.mem_cons,List.not_mem_nil,or_false] at hr
  rcases hr with rfl|rfl|rfl|rfl|rfl<;>simp only [dp,List.foldl_cons,List.foldl_nil]<;>(repeat' split)<;>omega
 ·have h:(cat16.rules.all fun r=>decide (r.take.length+r.give.length≤3∧r.take.length+r.back.length≤3))=true:=by decide
  exact of_decide_eq_true (List.all_eq_true.1 h r hr)
 ·have h:(cat16.rules.all fun r=>decide (1≤r.chance∧r.chance≤r.of_))=true:=by decide
  exact of_decide_eq_true (List.all_eq_true.1 h r hr)
theorem Ba (n:Int):HoldI (led0 3 cat16) (bO (aR n)).jobs:=⟨⟨jk ac,fun _ _=>Nat.le_refl _,Nat.le_refl _⟩,fun k hk=>absurd hk (Nat.not_lt_zero k),fun _ _ _ _ _=>rfl⟩
end Go.Proofs.YtfmgkkofledkbaaGreatDoor
