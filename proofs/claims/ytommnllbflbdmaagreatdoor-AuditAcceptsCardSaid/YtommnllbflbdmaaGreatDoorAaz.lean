/- Lemmas. -/
import Derived.Test.YtommnllbflbdmaaGreatDoorAay
import Derived.Test.YtommnllbflbdmaaGreatDoorAau
set_option linter.all false
set_option maxHeartbeats 1000000
namespace Go.Proofs.YtommnllbflbdmaaGreatDoor
section
open Go.V
attribute [local irreducible] G GO GP GPW GPK Ev Ef EfR Ent CB GB V.Enters
def wD(bv:Nat)(ad:OA)(c:Nat)(l:LL)(cs:Nat→Int)(hm:l.length≤1000000) :
  ud 301 [ax bv] l.length cs (fun _=>cR [obj bv 22 [ah ad l.length c],isl (encZ .i64) 1 ad ((List.range l.length).map cs)]):=by
 intro k hk L;have a0:(k:Int).toNat=k:=ab;have hl:((List.range l.length).map cs).length=l.length:=by simp
 refine Tri.bd (args:=[ac (k:Int),ax bv]) ?_;refine G.ent Ent.openS ?_;simp only[ao,an];refine Jq ?_;intros;rw[a0,ie hk];exact KX.d7 al (Ent.l6 (A:=[_,_]) (L:=L)) ⟨rfl,rfl⟩
def dK{φ ψ:Prop}(k:ψ)(h:Hid ψ→φ:=by intro k;first|refine GO.ci (f:=299) (Hid.out k)|refine GPW.ci (f:=299) (Hid.out k)|refine GO.cf (f:=299) rfl (Hid.out k)|refine GPW.cf (f:=299) rfl (Hid.out k)|refine KX.inA (Hid.out k)):φ:=h ⟨k⟩
def Cl{L:LH}(ad:OA)(c:Nat)(xs:LL)(hb:xs.length≤4096)(hx:∀l∈xs,LotOk l) :
  Tri ai 284 #[ah ad xs.length c,ac 0,.bool true] (isl aj 3 ad xs::L) (fun v L' =>
   (lsum xs<0∧v=.tuple #[ah none 0 0,ah none 0 0,ac 10]∧L' = isl aj 3 ad xs::L) ∨
   (0≤lsum xs∧∃a0 c1 ad2 c2,v=.tuple #[ah a0 (divF xs (fuC xs 0) xs.length).length c1,ah ad2 (divR xs (fuC xs 0) xs.length).length c2,ac 0]∧L' = osl aj 3 tLot a0 c1 (divF xs (fuC xs 0) xs.length)::osl aj 3 tLot ad2 c2 (divR xs (fuC xs 0) xs.length)::isl aj 3 ad xs::L)):=by
 have hw:∀x∈xs,LotW x:=fun x h=>(hx x h).w;have a1:=gV hx xs.length (aB _);rw[iu] at a1;refine Tri.bd ?_;repeat first|refine aa ?_|intro _|refine dK ?_
 refine GO.cr (iv ad xs.length c xs rfl hb hx) ?_;repeat first|refine aa ?_|intro _|refine dK ?_
 refine GO.cr (lQ ad xs.length c xs rfl hb hx) ?_;repeat first|refine aa ?_|intro _|refine dK ?_
 rename_i bl bn;refine GO.ent (L':=cR (fuA bn bl ad c xs 0 0)::isl aj 3 ad xs::isl aj 3 ad xs::L) ?_ ?_
 ·refine Ent.trans ?_ Ent.l6;simp only[fuA,fuR,ao,an];refine(Ent.at (A:=isl aj 3 ad xs) (Ent.dup (lH _ _ _ _))).trans ?_;refine(Ent.dup (lH _ _ _ _)).trans ?_;exact ae
 (first|refine GO.ef (Ef.call (nV _ _ ad c xs (fuC xs 0) (fun k=>cR (fuA bn bl ad c xs 0 k)) ab hw (ou (bg _) hw) (vy bn bl ad c xs 0 ab (bg _) ag hw)) rfl cJ) ag ?_);rintro _ _⟨_,⟨a0,c1,ad2,c2,rfl,rfl⟩,hL⟩;simp only[ao,an] at hL;subst hL;repeat first|refine aa ?_|intro _|refine dK ?_
 exact KX.d7 al (Ent.refl _) (.inr ⟨ab,a0,c1,ad2,c2,rfl,rfl⟩)
def Cm{L:LH}(ad:OA)(c:Nat)(xs:LL)(n:Int)(hb:xs.length≤4096)(hx:∀l∈xs,LotOk l)(a8:0<n)(a4:n≤1099511627776) :
  Tri ai 284 #[ah ad xs.length c,ac n,.bool true] (isl aj 3 ad xs::L) (fun v L' =>
   (lsum xs<n∧v=.tuple #[ah none 0 0,ah none 0 0,ac 10]∧L' = isl aj 3 ad xs::L) ∨
   (n≤lsum xs∧∃a1 c1 ad2 c2,v=.tuple #[ah a1 (divF xs (shC xs n) xs.length).length c1,ah ad2 (divR xs (shC xs n) xs.length).length c2,ac 0]∧L' = osl aj 3 tLot a1 c1 (divF xs (shC xs n) xs.length)::osl aj 3 tLot ad2 c2 (divR xs (shC xs n) xs.length)::isl aj 3 ad xs::L)):=by
 have hw:∀x∈xs,LotW x:=fun x h=>(hx x h).w;refine Tri.bd ?_;repeat first|refine aa ?_|intro _|refine dK ?_
 refine GO.cr (iv ad xs.length c xs rfl hb hx) ?_;repeat first|refine aa ?_|intro _|refine dK ?_
 refine GO.cr (lQ ad xs.length c xs rfl hb hx) ?_;by_cases hs:lsum xs<n
 ·repeat first|refine aa ?_|intro _|refine dK ?_
  exact KX.d7 al (Ent.refl _) (.inl ⟨hs,rfl,rfl⟩)
 have a3:xs≠[]:=by
  rintro rfl;simp[lsum] at hs;omega
 repeat first|refine aa ?_|intro _|refine dK ?_
 rename_i bl bn;refine GO.ent Ent.drop (GO.ent Ent.drop ?_);refine GO.ef (Ef.makeSlice (encZ .i64) 0 rfl rfl rfl ab ab ab) ag ?_;rintro _ _⟨bw,rfl,rfl⟩;rw[aC,←ko xs.length (fun k=>xs[k]!.2.2)];repeat first|((fail_if_success (with_reducible refine G.d9 8 ?_));(with_reducible apply G.seq))|refine bW ?_|intro _|refine GO.ci (f:=299) ?_|refine GPW.ci (f:=299) ?_|refine GO.cf (f:=299) rfl ?_|refine GPW.cf (f:=299) rfl ?_|refine KX.inA ?_
 refine G.d8 (α:=Unit) (fun _=>True) (fun _=>[(0,ah ad xs.length c),(1,ac n),(10,ah (some ⟨bw,0,none⟩) xs.length xs.length)]) (fun _=>isl (encZ .i64) 1 (some ⟨bw,0,none⟩) (wts xs)::isl aj 3 ad xs::L) ?_ ?_
 ·repeat first|refine aa ?_|intro _|refine dK ?_
  refine G.loop (α:=Nat) (fun i=>i≤xs.length) (fun i=>[(0,ah ad xs.length c),(1,ac n),(10,ah (some ⟨bw,0,none⟩) xs.length xs.length),(43,ah ad xs.length c),(44,ac xs.length),(45,ac (i:Int))])
   (fun i=>osl (encZ .i64) 1 tInt (some ⟨bw,0,none⟩) xs.length (gx xs.length i (fun k=>xs[k]!.2.2))::isl aj 3 ad xs::L) (fun i=>xs.length - i) 0 (aw _) av ae ?_
  intro i hi;have a7:=kf xs.length i (fun k=>xs[k]!.2.2);by_cases a2:i<xs.length
  case neg =>
   have a5:i=xs.length:=ab;subst a5
   have e:gx xs.length xs.length (fun k=>xs[k]!.2.2)=wts xs:=by
    rw[lc];apply dS
    ·simp[wts]
    ·intro k h1 h2;have hk:k<xs.length:=by simpa using h1
     simp[wts,hk]
   rw[e];repeat first|refine aa ?_|intro _|refine dK ?_
   exact⟨(),trivial,av,(Ent.frz (some ⟨bw,0,none⟩))⟩
  have a6:(i:Int).toNat=i:=ab;have h3:(gx xs.length i (fun k=>xs[k]!.2.2)).set i xs[i]!.2.2=gx xs.length (i+1) (fun k=>xs[k]!.2.2):=la _ a2;repeat first|refine aa ?_|intro _|refine dK ?_
  rw[a6,h3];refine⟨i+1,ab,ab,?_,by exact ae⟩;rw[aV i];exact av
 rintro _ _;repeat first|refine aa ?_|intro _|refine dK ?_
 refine GO.ca (Cr (some ⟨bw,0,none⟩) xs.length xs n hb hx a3 ab ab a4) ?_;rintro _ _⟨a0,c3,rfl,rfl⟩;repeat first|refine aa ?_|intro _|refine dK ?_
 rename_i bv;refine GO.ent (L':=cR [obj bv 22 [ah a0 xs.length c3],isl (encZ .i64) 1 a0 ((List.range xs.length).map (shC xs n))]::isl aj 3 ad xs::isl aj 3 ad xs::L) ?_ ?_
 ·refine(Ent.frz a0).trans ?_;refine Ent.trans ?_ Ent.l6;simp only[ao,an];refine(Ent.at (A:=isl aj 3 ad xs) (Ent.dup (lH _ _ _ _))).trans ?_;exact ae
 (first|refine GO.ef (Ef.call (nV _ _ ad c xs (shC xs n) (fun _=>cR [obj bv 22 [ah a0 xs.length c3],isl (encZ .i64) 1 a0 ((List.range xs.length).map (shC xs n))]) ab hw (EW hx ab ab) (wD bv a0 c3 xs (shC xs n) ab)) rfl cJ) ag ?_);rintro _ _⟨_,⟨a1,c1,ad2,c2,rfl,rfl⟩,hL⟩;simp only[ao,an] at hL;subst hL;repeat first|refine aa ?_|intro _|refine dK ?_
 exact KX.d7 al (Ent.refl _) (.inr ⟨ab,a1,c1,ad2,c2,rfl,rfl⟩)
def we(mixed:Bool):TakeC mixed:=by
 cases mixed with
 | false=>exact yV
 | true =>
  refine⟨fun l n hl h0 h1 k hk=>nX true l n hl h0 h1 k hk,?_⟩;intro L ad c xs n h1 h2 h3 h4;rcases Int.lt_or_eq_of_le h3 with h5|h5
  ·have e:tkC true xs n=shC xs n:=if_pos ⟨rfl,h5⟩;unfold gS eN;rw[e];exact Cm ad c xs n h1 h2 h5 h4
  ·subst h5;have e:tkC true xs 0=fuC xs 0:=if_neg (fun h=>absurd h.2 ab);unfold gS eN;rw[e];exact Cl ad c xs h1 h2
structure StrS where
 l:List ByteArray
 ad:OA
 cap:Nat
 deriving Inhabited
structure NmOk (x:StrS):Prop where
 len:x.l.length≤64
 cap:x.l.length≤x.cap
 word:∀s∈x.l,IsWord s
 nd:x.l.Nodup
abbrev tRL:Nat:=37
structure RStk where
 acc:Int
 item:Int
 stk:Stk
 deriving Inhabited
def gU(s:RStk):LV:=[ac s.acc,ac s.item,ah s.stk.ad s.stk.lots.length s.stk.cap]
def qB(s:RStk):∀u∈gU s,u.oneCell' = true:=by simp[gU,Value.oneCell']
instance:EncC gU:=⟨qB⟩
abbrev rsP(s:RStk):HP:=stkP s.stk
def HB(s:RStk):PersM (rsP s):=mR s.stk
abbrev tRS:Nat:=186
abbrev RStk.is(s:RStk)(a i:Int):Prop:=s.acc=a∧s.item=i
def stk0:Stk:=⟨none,0,[]⟩
def dO:List RStk→Int→Int→Stk
 | [],_,_=>stk0
 | s::l,a,i=>if s.is a i then s.stk else dO l a i
def rset:List RStk→Int→Int→Stk→List RStk
 | [],a,i,t=>[⟨a,i,t⟩]
 | s::l,a,i,t=>if s.is a i then⟨s.acc,s.item,t⟩::l else s::rset l a i t
def rsum:List RStk→Int→Int
 | [],_=>0
 | s::l,i=>(if s.item=i then lsum s.stk.lots else 0)+rsum l i
def oL:∀(l:List RStk) (a i:Int) (t:Stk) (a' i' : Int),dO (rset l a i t) a' i' = if a' = a∧i' = i then t else dO l a' i'
 | [],a,i,t,a',i'=>by
  unfold rset dO dO;by_cases h:a' = a∧i' = i
  ·rw[if_pos h,if_pos ⟨h.1.symm,h.2.symm⟩]
  ·rw[if_neg h,if_neg (fun q=>h ⟨q.1.symm,q.2.symm⟩)]
 | s::l,a,i,t,a',i'=>by
  unfold rset;by_cases h:s.is a i
  ·rw[if_pos h];unfold dO;by_cases h2:a' = a∧i' = i
   ·rw[if_pos h2,if_pos (show s.acc=a'∧s.item=i' from⟨h.1.trans h2.1.symm,h.2.trans h2.2.symm⟩)]
   ·rw[if_neg h2,if_neg (show ¬(s.acc=a'∧s.item=i') from fun q=>h2 ⟨q.1.symm.trans h.1,q.2.symm.trans h.2⟩),if_neg (show ¬s.is a' i' from fun q=>h2 ⟨q.1.symm.trans h.1,q.2.symm.trans h.2⟩)]
  ·rw[if_neg h];unfold dO;by_cases h3:s.is a' i'
   ·rw[if_pos h3,if_pos h3,if_neg (fun q=>h ⟨h3.1.trans q.1,h3.2.trans q.2⟩)]
   ·rw[if_neg h3,if_neg h3,oL l a i t a' i']
def pV:∀(l:List RStk) (a i:Int) (t:Stk) (j:Int),rsum (rset l a i t) j=rsum l j+(if j=i then lsum t.lots - lsum (dO l a i).lots else 0)
 | [],a,i,t,j=>by
  show(if i=j then lsum t.lots else 0)+0=0+(if j=i then lsum t.lots - 0 else 0);by_cases h:j=i
  ·rw[if_pos h,if_pos h.symm];omega
  ·rw[if_neg h,if_neg (fun q=>h q.symm)]
 | s::l,a,i,t,j=>by
  unfold rset dO;by_cases h:s.is a i
  ·rw[if_pos h,if_pos h];show(if s.item=j then lsum t.lots else 0)+rsum l j=((if s.item=j then lsum s.stk.lots else 0)+rsum l j)+_;rw[h.2];by_cases h2:j=i
   ·rw[if_pos h2.symm,if_pos h2.symm,if_pos h2];omega
   ·rw[if_neg (fun q=>h2 q.symm),if_neg (fun q=>h2 q.symm),if_neg h2];omega
  ·rw[if_neg h,if_neg h];show(if s.item=j then lsum s.stk.lots else 0)+rsum (rset l a i t) j=((if s.item=j then lsum s.stk.lots else 0)+rsum l j)+_;rw[pV l a i t j];omega
def rZ:∀{l:List RStk} {a i:Int} {k:Nat},k<l.length→l[k]!.is a i→(∀j,j<k→¬l[j]!.is a i)→dO l a i=l[k]!.stk∧∀t,rset l a i t=l.set k ⟨l[k]!.acc,l[k]!.item,t⟩
 | [],_,_,_,h,_,_=>by simp at h
 | s::l,a,i,0,_,h1,_=>by
  have a0 : s.is a i:=h1;refine⟨?_,fun t=>?_⟩
  ·unfold dO;rw[if_pos a0];rfl
  ·unfold rset;rw[if_pos a0];rfl
 | s::l,a,i,k+1,h,h1,h2=>by
  have h0:¬s.is a i:=h2 0 (Nat.zero_lt_succ _);obtain⟨e1,e2⟩:=rZ (l:=l) (a:=a) (i:=i) (k:=k) (by simpa using h) h1 (fun j hj=>h2 (j+1) ab);refine⟨?_,fun t=>?_⟩
  ·unfold dO;rw[if_neg h0,e1];rfl
  ·unfold rset;rw[if_neg h0,e2 t];rfl
def rY:∀{l:List RStk} {a i:Int},(∀j,j<l.length→¬l[j]!.is a i)→dO l a i=stk0∧∀t,rset l a i t=l++[⟨a,i,t⟩]
 | [],_,_,_=>⟨rfl,fun _=>rfl⟩
 | s::l,a,i,h=>by
  have h0:¬s.is a i:=h 0 (Nat.zero_lt_succ _);obtain⟨e1,e2⟩:=rY (l:=l) (a:=a) (i:=i) (fun j hj=>h (j+1) (by simp only[bh];omega));refine⟨?_,fun t=>?_⟩
  ·unfold dO;rw[if_neg h0,e1]
  ·unfold rset;rw[if_neg h0,e2 t];rfl
def rX:∀(l:List RStk) (a i:Int) (t:Stk),(rset l a i t).length≤l.length+1
 | [],_,_,_=>aB _
 | s::l,a,i,t=>by
  unfold rset;split
  ·simp
  ·have:=rX l a i t
   simp only[bh];omega
def rW:∀{l:List RStk} {a i:Int} {t:Stk} {s:RStk},s∈rset l a i t→s∈l∨s.stk=t
 | [],_,_,_,_,h=>by
  obtain rfl:=List.mem_singleton.1 h;exact .inr rfl
 | u::l,a,i,t,s,h=>by
  unfold rset at h;split at h
  ·rcases List.mem_cons.1 h with h|h
   ·exact .inr (by rw[h])
   ·exact .inl (au _ h)
  ·rcases List.mem_cons.1 h with h|h
   ·exact .inl (by rw[h];exact aq ..)
   ·rcases rW h with h|h
    ·exact .inl (au _ h)
    ·exact .inr h
def pY:∀(l:List RStk) (a i:Int),dO l a i=stk0∨∃s∈l,dO l a i=s.stk
 | [],_,_=>.inl rfl
 | s::l,a,i=>by
  unfold dO;split
  ·exact .inr ⟨s,aq ..,rfl⟩
  ·rcases pY l a i with h|⟨u,hu,h⟩
   ·exact .inl h
   ·exact .inr ⟨u,au _ hu,h⟩
def oe:∀(l:List RStk) (i:Int) {k:Nat},k<l.length→rsum (l.take (k+1)) i=rsum (l.take k) i+(if l[k]!.item=i then lsum l[k]!.stk.lots else 0)
 | [],_,_,h=>by simp at h
 | s::l,i,0,_=>by
  show(if s.item=i then lsum s.stk.lots else 0)+0=0+_;rw[da,Int.zero_add];rfl
 | s::l,i,k+1,h=>by
  have:=oe l i (k:=k) (by simpa using h)
  show(if s.item=i then lsum s.stk.lots else 0)+rsum (l.take (k+1)) i=((if s.item=i then lsum s.stk.lots else 0)+rsum (l.take k) i)+_;rw[this];show _+(_+(if l[k]!.item=i then lsum l[k]!.stk.lots else 0))=_+(if l[k]!.item=i then lsum l[k]!.stk.lots else 0);omega
def rOk(l:List RStk):Prop:=∀s∈l,s.stk.lots.length≤4096∧∀x∈s.stk.lots,LotOk x
def mP{l:LL}(h:∀x∈l,LotOk x):0≤lsum l:=by
 have:=(gV h l.length (aB _)).1
 rw[iu] at this;exact this
def un:∀{l:List RStk} (i:Int),rOk l→0≤rsum l i
 | [],_,_=>bg _
 | s::l,i,h=>by
  have h1:=un (l:=l) i (fun u hu=>h u (au _ hu));have h2:=mP (h s aq).2;unfold rsum;split<;>omega
def mY:∀{l:List RStk} (i:Int) (k:Nat),rOk l→rsum (l.take k) i≤rsum l i
 | [],_,k,_=>by simp
 | s::l,i,0,h=>un i h
 | s::l,i,k+1,h=>by
  have:=mY (l:=l) i k (fun u hu=>h u (au _ hu))
  show(if s.item=i then lsum s.stk.lots else 0)+rsum (l.take k) i≤(if s.item=i then lsum s.stk.lots else 0)+rsum l i;omega
structure RLX where
 cat:CatV
 stks:List RStk
 sad:OA
 scap:Nat
 flows:List FlV
 fad:OA
 fcap:Nat
 steps:List StV
 tad:OA
 tcap:Nat
abbrev aL(sh:Int)(x:RLX):LV:=[ac sh,ah x.cat.iad x.cat.items.length x.cat.icap,ah x.cat.rad x.cat.rules.length x.cat.rcap,ah x.cat.tad x.cat.tables.length x.cat.tcap,ah x.cat.xad x.cat.taxes.length x.cat.xcap,ah x.sad x.stks.length x.scap,ah x.fad x.flows.length x.fcap,ah x.tad x.steps.length x.tcap]
abbrev rlL(b:Nat)(sh:Int)(x:RLX)(L:LH):LH :=
 obj b tRL (aL sh x)::osl gU 3 tRS x.sad x.scap x.stks::osl bL 11 cz x.fad x.fcap x.flows::osl aT 7 be x.tad x.tcap x.steps::catP x.cat::allP rsP x.stks::allP flP x.flows::allP cC x.steps::L
abbrev CE:=ay7 [.ev 13]
def Pa{φ ψ:Prop}(k:ψ)(h:Hid ψ→φ:=by intro k;(repeat (first|refine aa ?_|intro zzz|refine G.dr 22 3 CE ?_));(repeat revert zzz);exact Hid.out k):φ:=h ⟨k⟩
def Cv{L R:LH}{b:Nat}{sh:Int}{x:RLX}[hp:PickObj L b tRL (aL sh x) R][hr:Rds L x.tad StV aT 7 x.steps](hl:x.steps.length≤100000) :
  Tri ai 133 #[ax b] L (fun v L'=>v=ac ((x.steps.getLast?.map (·.tick)).getD 0)∧L' = L):=by
 refine Tri.bd ?_;by_cases h0:x.steps.length=0
 ·refine Pa ?_;intros;exact KX.d7 al (Ent.refl _) ⟨by rw[aX h0];rfl,rfl⟩
 ·refine Pa ?_;intros;refine KX.d7 al (Ent.refl _) ⟨?_,rfl⟩
  have e:x.steps.getLast? = some x.steps[((x.steps.length:Int) - 1).toNat]!:=by
   rw[show((x.steps.length:Int) - 1).toNat=x.steps.length - 1 by omega,List.getLast?_eq_getElem?,getElem!_of ab,List.getElem?_eq_getElem]
  rw[e];rfl
def tA{L R:LH}{b:Nat}{sh:Int}{x:RLX}[hp:PickObj L b tRL (aL sh x) R][hr:Rds L x.sad RStk gU 3 x.stks](a i:Int)(hl:x.stks.length≤100000000) :
  Tri ai 229 #[ax b,ac a,ac i] L (fun v L'=>((v=ac (-1)∧∀j,j<x.stks.length→¬x.stks[j]!.is a i)∨∃k:Nat,v=ac (k:Int)∧k<x.stks.length∧x.stks[k]!.is a i∧∀j,j<k→¬x.stks[j]!.is a i)∧L' = L):=by
 refine Tri.bd ?_;refine Jq ?_;intros;refine G.loop (α:=Nat) (fun k=>k≤x.stks.length∧∀j,j<k→¬x.stks[j]!.is a i) (fun k=>[(0,ax b),(1,ac a),(2,ac i),(7,ac (k:Int))]) (fun _=>L) (fun k=>x.stks.length - k) 0 ⟨aw _,fun j hj=>absurd hj (cl j)⟩ av (Ent.refl _) ?_;rintro k ⟨hk,hb⟩;by_cases a1:k<x.stks.length
 case neg =>
  obtain rfl:k=x.stks.length:=ab;refine Jq ?_;intros;exact KX.en ⟨.inl ⟨rfl,hb⟩,rfl⟩
 have a0:(k:Int).toNat=k:=aC k;have a2 : (k:Int).toNat<x.stks.length:=ab
 have next:¬x.stks[k]!.is a i→k+1≤x.stks.length∧∀j,j<k+1→¬x.stks[j]!.is a i:=fun hn=>⟨ab,fun j hj=>by
  rcases cc j k with h|h
  ·exact hb j h
  ·obtain rfl:j=k:=ab;exact hn⟩
 by_cases h1:x.stks[(k:Int).toNat]!.acc=a
 ·by_cases h2:x.stks[(k:Int).toNat]!.item=i
  ·refine Jq ?_;intros;rw[a0] at h1 h2;exact KX.en ⟨.inr ⟨k,rfl,a1,⟨h1,h2⟩,hb⟩,rfl⟩
  ·refine Jq ?_;intros;rw[a0] at h1 h2;refine⟨k+1,next (fun q=>h2 q.2),ab,?_,Ent.refl _⟩;rw[aV k];exact av
 ·refine Jq ?_;intros;rw[a0] at h1;refine⟨k+1,next (fun q=>h1 q.1),ab,?_,Ent.refl _⟩;rw[aV k];exact av
def nK{L R:LH}{b:Nat}{sh:Int}{x:RLX}[hp:PickObj L b tRL (aL sh x) R][hr:Rds L x.sad RStk gU 3 x.stks](a i:Int)(hl:x.stks.length≤100000000) :
  Tri ai 141 #[ax b,ac a,ac i] L (fun v L'=>v=ah (dO x.stks a i).ad (dO x.stks a i).lots.length (dO x.stks a i).cap∧L' = L):=by
 refine Tri.bd ?_;refine Jq ?_;intros;refine GO.ca (tA (b:=b) (sh:=sh) (x:=x) a i hl) ?_;rintro _ L ⟨⟨rfl,hn⟩|⟨k,rfl,hk,h1,h2⟩,rfl⟩
 ·rw[(rY hn).1];refine Jq ?_;intros;exact KX.en ⟨rfl,rfl⟩
 ·have a0:(k:Int).toNat=k:=aC k;rw[(rZ hk h1 h2).1];refine Jq ?_;intros;rw[a0];refine Jq ?_;intros;exact KX.en ⟨rfl,rfl⟩
def Hy{α:Type}{f:α→HP}(hf:∀x,PersM (f x)){l:List α}{k:Nat}{e:α}{L:LH}:Ent (f e::allP f l::L) (allP f (l.set k e)::L) :=
 (Ent.g9 hf).trans (Ent.l5 (fun _ hx=>by
  rcases ee hx with h|h
  ·exact au _ h
  ·rw[h];exact aq ..))
def nF{α:Type}{f:α→HP}(hf:∀x,PersM (f x)){l:List α}{e:α}{L:LH}:Ent (f e::allP f l::L) (allP f (l++[e])::L) :=
 (Ent.g9 hf).trans (Ent.l5 (fun x hx=>by
  rcases List.mem_append.1 hx with h|h
  ·exact au _ h
  ·rw[List.mem_singleton.1 h];exact aq ..))
def oK{L:LH}(b:Nat)(sh:Int)(x:RLX)(a i:Int)(t:Stk)(hl:x.stks.length≤10000000) :
  Tri ai 142 #[ax b,ac a,ac i,ah t.ad t.lots.length t.cap] (rlL b sh x (stkP t::L)) (fun _ L'=>∃a4 a3,L' = rlL b sh { x with stks:=rset x.stks a i t,sad:=a4,scap:=a3 } L):=by
 refine Tri.bd ?_;simp only[rlL];refine Jq ?_;intros;refine GO.ca (tA (b:=b) (sh:=sh) (x:=x) a i ab) ?_;rintro _ _⟨⟨rfl,hn⟩|⟨k,rfl,hk,h1,h2⟩,rfl⟩
 ·have e:=(rY hn).2 t;have a6:([ac a,ac i,ah t.ad t.lots.length t.cap]:LV)=gU ⟨a,i,t⟩:=rfl;refine Jq ?_;intros;refine GO.ef (Ef.d7 (enc:=gU) (⟨a,i,t⟩:RStk) rfl rfl rfl rfl rfl aK (qB _) ab ab) ag ?_;rintro _ _⟨a1,a0,rfl,rfl⟩;refine Jq ?_;intros;refine KX.d7 al ?_ ⟨a1,a0,rfl⟩;rw[e];simp only[rlL,aL];refine Ent.trans (B:=rsP ⟨a,i,t⟩::allP rsP x.stks::obj b tRL (aL sh { x with stks:=x.stks++[⟨a,i,t⟩],sad:=a1,scap:=a0 })::osl gU 3 tRS a1 a0 (x.stks++[⟨a,i,t⟩])::osl bL 11 cz x.fad x.fcap x.flows::osl aT 7 be x.tad x.tcap x.steps::catP x.cat::allP flP x.flows::allP cC x.steps::L) ?_ ((nF HB).trans ?_)
  ·simp only[rsP];exact ae
  ·exact ae
 ·have e:=(rZ hk h1 h2).2 t;have a5:(k:Int).toNat=k:=aC k;have a7 : (k:Int).toNat<x.stks.length:=ab;refine Jq ?_;intros;rw[a5];refine GO.efu (Ef.g9 (enc:=gU) (⟨x.stks[k]!.acc,x.stks[k]!.item,t⟩:RStk) rfl rfl rfl rfl hk ag) ?_;rintro _ _ rfl;refine Jq ?_;intros;refine KX.e7 al ?_ ⟨x.sad,x.scap,rfl⟩;rw[e];have a2:(x.stks.set k ⟨x.stks[k]!.acc,x.stks[k]!.item,t⟩).length=x.stks.length:=cu ..;simp only[rlL,aL];rw[a2];refine Ent.trans (B:=rsP ⟨x.stks[k]!.acc,x.stks[k]!.item,t⟩::allP rsP x.stks::obj b tRL (aL sh x)::osl gU 3 tRS x.sad x.scap (x.stks.set k ⟨x.stks[k]!.acc,x.stks[k]!.item,t⟩)::osl bL 11 cz x.fad x.fcap x.flows::osl aT 7 be x.tad x.tcap x.steps::catP x.cat::allP flP x.flows::allP cC x.steps::L) ?_ ((Hy HB (k:=k)).trans ?_)
  ·simp only[rsP];exact ae
  ·exact ae
def oM{l:List RStk}(h:rOk l)(a i:Int):(dO l a i).lots.length≤4096∧∀x∈(dO l a i).lots,LotOk x:=by
 rcases pY l a i with e|⟨s,hs,e⟩
 ·rw[e];exact⟨aw _,fun x hx=>by cases hx⟩
 ·rw[e];exact h s hs
def pZ{l:List RStk}(a i:Int){L:LH}:Ent (allP rsP l::L) (stkP (dO l a i)::allP rsP l::L):=by
 rcases pY l a i with e|⟨s,hs,e⟩
 ·rw[e];exact Ent.e8 aj 3 none
 ·rw[e];exact Ent.e7 (f:=rsP) hs
def qe{L:LH}(b:Nat)(sh:Int)(x:RLX)(a i:Int)(hl:x.stks.length≤10000000)(hO:rOk x.stks) :
  Tri ai 132 #[ax b,ac a,ac i] (rlL b sh x L) (fun v L'=>v=ac (lsum (dO x.stks a i).lots)∧L' = rlL b sh x L):=by
 obtain⟨o1,o2⟩:=oM hO a i;refine Tri.bd ?_;simp only[rlL];refine Jq ?_;intros;refine GO.cr (nK (b:=b) (sh:=sh) (x:=x) a i ab) ?_;refine GO.ent (Ent.at (A:=allP rsP x.stks) (pZ a i)) ?_;refine Jq ?_;intros;refine GO.cr (jQ (dO x.stks a i).ad (dO x.stks a i).lots.length (dO x.stks a i).cap (dO x.stks a i).lots rfl o1 o2) ?_;refine Jq ?_;intros;exact KX.en ⟨rfl,rfl⟩
def EY{L:LH}(b:Nat)(sh:Int)(x:RLX)(i:Int)(hl:x.stks.length≤10000000)(hO:rOk x.stks)(hs:rsum x.stks i≤1099511627776) :
  Tri ai 139 #[ax b,ac i] (rlL b sh x L) (fun v L'=>v=ac (rsum x.stks i)∧L' = rlL b sh x L):=by
 refine Tri.bd ?_;simp only[rlL];refine Jq ?_;intros;refine G.loop (α:=Nat) (fun k=>k≤x.stks.length) (fun k=>[(0,ax b),(1,ac i),(5,ac (rsum (x.stks.take k) i)),(6,ac (k:Int))]) (fun _=>rlL b sh x L) (fun k=>x.stks.length - k) 0 (aw _) av (Ent.refl _) ?_;intro k hk;simp only[rlL];by_cases a4:k<x.stks.length
 case neg =>
  obtain rfl:k=x.stks.length:=ab;rw[bu];refine Jq ?_;intros;exact KX.en ⟨rfl,rfl⟩
 have a2:(k:Int).toNat=k:=aC k;have a5 : (k:Int).toNat<x.stks.length:=ab;have a1:=oe x.stks i a4;have a9:=mY i k hO;have a8:=mY i (k+1) hO;have a7:0≤rsum (x.stks.take k) i:=un i (fun u hu=>hO u (dv hu));have a0:=aI a4;obtain⟨o1,o2⟩:=hO _ a0;have a6:=mP o2;by_cases h1:x.stks[(k:Int).toNat]!.item=i
 ·have a3 : x.stks[k]!.item=i:=by rw[←a2];exact h1
  rw[if_pos a3] at a1;refine Jq ?_;intros;rw[a2];refine GO.ent (Ent.at (A:=allP rsP x.stks) (Ent.e7 (f:=rsP) a0)) ?_;refine GO.cr (jQ x.stks[k]!.stk.ad x.stks[k]!.stk.lots.length x.stks[k]!.stk.cap x.stks[k]!.stk.lots rfl o1 o2) ?_;refine Jq ?_;intros;refine⟨k+1,ab,ab,?_,by exact ae⟩;rw[aV k,a1];exact av
 ·have a3 : ¬x.stks[k]!.item=i:=by rw[←a2];exact h1
  rw[if_neg a3,da] at a1;refine Jq ?_;intros;refine⟨k+1,ab,ab,?_,by exact ae⟩;rw[aV k,a1];exact av
abbrev Fj:=ay5 [.ev 8,.ef 9,.ev 10]
abbrev Fi:=ay5 [.ev 8,.ef 9,.ev 10,.ev 11,.ef 12]
abbrev Fh:=ay5 [.ev 8,.ef 9,.ev 10,.ev 11,.ef 12]
abbrev Fg:=ay5 [.ev 8,.ef 9,.ev 10,.ev 11,.ef 12]
def Pc{φ ψ:Prop}(k:ψ)(h:Hid ψ→φ:=by intro k;(repeat (first|refine aa ?_|intro zzz|refine G.dr 51 1 Fj ?_|refine G.dr 51 2 Fi ?_|refine G.dr 51 3 Fh ?_|refine G.dr 51 4 Fg ?_));(repeat revert zzz);exact Hid.out k):φ:=h ⟨k⟩
def zk{L:LH}(b:Nat)(sh:Int)(x:RLX)(h1:x.stks.length≤10000000)(h2:x.flows.length≤10000000)(h3:x.steps.length≤10000000) :
  Tri ai 93 #[ax b] (rlL b sh x L) (fun v L'=>∃b' x',v=.pointer (some ⟨b',0,none⟩)∧(x'.cat=x.cat∧x'.stks=x.stks∧x'.flows=x.flows∧x'.steps=x.steps)∧L' = obj b' tRL (aL sh x')::osl gU 3 tRS x'.sad x'.scap x'.stks::osl bL 11 cz x'.fad x'.fcap x'.flows::rlL b sh x L):=by
 refine Tri.bd ?_;simp only[rlL];refine Pc ?_;intros;rename_i b3;refine GPW.ent (Ent.d8 gU 3 tRS) ?_;refine GPW.ef (Ef.g8 (xs:=[]) rfl rfl rfl rfl rfl (fun e _=>qB e) fW fW) ag ?_;rintro _ _⟨a1,c1,rfl,rfl⟩;simp only[an];refine Pc ?_;intros;refine GPW.ent (Ent.d8 bL 11 cz) ?_;refine GPW.ef (Ef.g8 (xs:=[]) rfl rfl rfl rfl rfl (fun e _=>jf e) fW fW) ag ?_;rintro _ _⟨a2,c2,rfl,rfl⟩;simp only[an];refine Pc ?_;intros;refine GPW.ent (Ent.d8 aT 7 be) ?_;refine GPW.ef (Ef.g8 (xs:=[]) rfl rfl rfl rfl rfl (fun e _=>jM e) fW fW) ag ?_;rintro _ _⟨a3,c3,rfl,rfl⟩;simp only[an];refine Pc ?_;intros;refine KX.d7 al ?_ ⟨b3,⟨x.cat,x.stks,a1,c1,x.flows,a2,c2,x.steps,a3,c3⟩,rfl,⟨rfl,rfl,rfl,rfl⟩,rfl⟩;simp only[rlL,aL];exact ae
