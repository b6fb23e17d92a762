/- Lemmas. -/
import Derived.Test.YtommnllbflbdmaaGreatDoorIay
import Derived.Test.YtommnllbflbdmaaGreatDoorIau
set_option linter.all false
set_option maxHeartbeats 4000000
namespace Go.Proofs.YtommnllbflbdmaaGreatDoor
section
open Go.V
attribute [local irreducible] G GO GP GPW GPK Ev Ef EfR Ent CB GB V.Enters
def vI(bv:Nat)(ad:OA)(c:Nat)(l:LL)(cs:Nat→Int)(hm:l.length≤1000000) :
  sV 301 [av bv] l.length cs (fun _=>cM [obj bv 22 [.slice ad l.length c],isl (encZ .i64) 1 ad ((List.range l.length).map cs)]):=by
 intro k hk L;have a0:(k:Int).toNat=k:=ab;have hl:((List.range l.length).map cs).length=l.length:=by simp
 refine Tri.bd (args:=[ac (k:Int),av bv]) ?_;refine G.ent Ent.openS ?_;simp only[ax,ap];refine Hz ?_;intros;rw[a0,gL hk];exact KX.d7 an (Ent.l6 (A:=[_,_]) (L:=L)) ⟨rfl,rfl⟩
def dA{φ ψ:Prop}(k:ψ)(h:Hid ψ→φ:=by intro k;first|refine GO.ci (f:=299) (Hid.out k)|refine GPW.ci (f:=299) (Hid.out k)|refine GO.cf (f:=299) rfl (Hid.out k)|refine GPW.cf (f:=299) rfl (Hid.out k)|refine KX.inA (Hid.out k)):φ:=h ⟨k⟩
def AI{L:LH}(ad:OA)(c:Nat)(xs:LL)(hb:xs.length≤4096)(hx:∀l∈xs,LotOk l) :
  Tri ag 284 #[.slice ad xs.length c,ac 0,.bool true] (isl ao 3 ad xs::L) (fun v L' =>
   (lsum xs<0∧v=.tuple #[.slice none 0 0,.slice none 0 0,ac 10]∧L' = isl ao 3 ad xs::L) ∨
   (0≤lsum xs∧∃a0 c1 ad2 c2,v=.tuple #[.slice a0 (divF xs (fuC xs 0) xs.length).length c1,.slice ad2 (divR xs (fuC xs 0) xs.length).length c2,ac 0]∧L' = osl ao 3 tLot a0 c1 (divF xs (fuC xs 0) xs.length)::osl ao 3 tLot ad2 c2 (divR xs (fuC xs 0) xs.length)::isl ao 3 ad xs::L)):=by
 have hw:∀x∈xs,LotW x:=fun x h=>(hx x h).w;have a1:=gD hx xs.length (aB _);rw[gS] at a1;refine Tri.bd ?_;repeat first|refine aa ?_|intro _|refine dA ?_
 refine GO.cr (ka ad xs.length c xs rfl hb hx) ?_;repeat first|refine aa ?_|intro _|refine dA ?_
 refine GO.cr (nq ad xs.length c xs rfl hb hx) ?_;repeat first|refine aa ?_|intro _|refine dA ?_
 rename_i bl bn;refine GO.ent (L':=cM (fuA bn bl ad c xs 0 0)::isl ao 3 ad xs::isl ao 3 ad xs::L) ?_ ?_
 ·refine Ent.trans ?_ Ent.l6;simp only[fuA,fuR,ax,ap];refine(Ent.at (A:=isl ao 3 ad xs) (Ent.dup (lg _ _ _ _))).trans ?_;refine(Ent.dup (lg _ _ _ _)).trans ?_;exact ae
 (first|refine GO.ef (Ef.call (nx _ _ ad c xs (fuC xs 0) (fun k=>cM (fuA bn bl ad c xs 0 k)) ab hw (nQ (bj _) hw) (uv bn bl ad c xs 0 ab (bj _) ah hw)) rfl (by repeat (first|exact Ent.refl _|apply Ent.take))) ah ?_);rintro _ _⟨_,⟨a0,c1,ad2,c2,rfl,rfl⟩,hL⟩;simp only[ax,ap] at hL;subst hL;repeat first|refine aa ?_|intro _|refine dA ?_
 exact KX.d7 an (Ent.refl _) (.inr ⟨ab,a0,c1,ad2,c2,rfl,rfl⟩)
def AJ{L:LH}(ad:OA)(c:Nat)(xs:LL)(n:Int)(hb:xs.length≤4096)(hx:∀l∈xs,LotOk l)(a7:0<n)(a3:n≤1099511627776) :
  Tri ag 284 #[.slice ad xs.length c,ac n,.bool true] (isl ao 3 ad xs::L) (fun v L' =>
   (lsum xs<n∧v=.tuple #[.slice none 0 0,.slice none 0 0,ac 10]∧L' = isl ao 3 ad xs::L) ∨
   (n≤lsum xs∧∃a1 c1 ad2 c2,v=.tuple #[.slice a1 (divF xs (shC xs n) xs.length).length c1,.slice ad2 (divR xs (shC xs n) xs.length).length c2,ac 0]∧L' = osl ao 3 tLot a1 c1 (divF xs (shC xs n) xs.length)::osl ao 3 tLot ad2 c2 (divR xs (shC xs n) xs.length)::isl ao 3 ad xs::L)):=by
 have hw:∀x∈xs,LotW x:=fun x h=>(hx x h).w;refine Tri.bd ?_;repeat first|refine aa ?_|intro _|refine dA ?_
 refine GO.cr (ka ad xs.length c xs rfl hb hx) ?_;repeat first|refine aa ?_|intro _|refine dA ?_
 refine GO.cr (nq ad xs.length c xs rfl hb hx) ?_;by_cases hs:lsum xs<n
 ·repeat first|refine aa ?_|intro _|refine dA ?_
  exact KX.d7 an (Ent.refl _) (.inl ⟨hs,rfl,rfl⟩)
 have a6:xs≠[]:=by
  rintro rfl;simp[lsum] at hs;omega
 repeat first|refine aa ?_|intro _|refine dA ?_
 rename_i bl bn;refine GO.ent Ent.drop (GO.ent Ent.drop ?_);refine GO.ef (Ef.makeSlice (encZ .i64) 0 rfl rfl rfl ab ab ab) ah ?_;rintro _ _⟨bw,rfl,rfl⟩;rw[ay,←jQ xs.length (fun k=>xs[k]!.2.2)];repeat first|((fail_if_success (with_reducible refine G.e7 8 ?_));(with_reducible apply G.seq))|refine bA ?_|intro _|refine GO.ci (f:=299) ?_|refine GPW.ci (f:=299) ?_|refine GO.cf (f:=299) rfl ?_|refine GPW.cf (f:=299) rfl ?_|refine KX.inA ?_
 refine G.d9 (α:=Unit) (fun _=>True) (fun _=>[(0,.slice ad xs.length c),(1,ac n),(10,.slice (some ⟨bw,0,none⟩) xs.length xs.length)]) (fun _=>isl (encZ .i64) 1 (some ⟨bw,0,none⟩) (wts xs)::isl ao 3 ad xs::L) ?_ ?_
 ·repeat first|refine aa ?_|intro _|refine dA ?_
  refine G.loop (α:=Nat) (fun i=>i≤xs.length) (fun i=>[(0,.slice ad xs.length c),(1,ac n),(10,.slice (some ⟨bw,0,none⟩) xs.length xs.length),(43,.slice ad xs.length c),(44,ac xs.length),(45,ac (i:Int))])
   (fun i=>osl (encZ .i64) 1 tInt (some ⟨bw,0,none⟩) xs.length (fQ xs.length i (fun k=>xs[k]!.2.2))::isl ao 3 ad xs::L) (fun i=>xs.length - i) 0 (aj _) ai ae ?_
  intro i hi;have a8:=jK xs.length i (fun k=>xs[k]!.2.2);by_cases a4:i<xs.length
  case neg =>
   have a2:i=xs.length:=ab;subst a2
   have e:fQ xs.length xs.length (fun k=>xs[k]!.2.2)=wts xs:=by
    rw[kH];apply du
    ·simp[wts]
    ·intro k h1 h2;have hk:k<xs.length:=by simpa using h1
     simp[wts,hk]
   rw[e];repeat first|refine aa ?_|intro _|refine dA ?_
   exact⟨(),trivial,ai,(Ent.frz (some ⟨bw,0,none⟩))⟩
  have a5:(i:Int).toNat=i:=ab;have h3:(fQ xs.length i (fun k=>xs[k]!.2.2)).set i xs[i]!.2.2=fQ xs.length (i+1) (fun k=>xs[k]!.2.2):=kG _ a4;repeat first|refine aa ?_|intro _|refine dA ?_
  rw[a5,h3];refine⟨i+1,ab,ab,?_,by exact ae⟩;rw[aK i];exact ai
 rintro _ _;repeat first|refine aa ?_|intro _|refine dA ?_
 refine GO.ca (AN (some ⟨bw,0,none⟩) xs.length xs n hb hx a6 ab ab a3) ?_;rintro _ _⟨a0,c3,rfl,rfl⟩;repeat first|refine aa ?_|intro _|refine dA ?_
 rename_i bv;refine GO.ent (L':=cM [obj bv 22 [.slice a0 xs.length c3],isl (encZ .i64) 1 a0 ((List.range xs.length).map (shC xs n))]::isl ao 3 ad xs::isl ao 3 ad xs::L) ?_ ?_
 ·refine(Ent.frz a0).trans ?_;refine Ent.trans ?_ Ent.l6;simp only[ax,ap];refine(Ent.at (A:=isl ao 3 ad xs) (Ent.dup (lg _ _ _ _))).trans ?_;exact ae
 (first|refine GO.ef (Ef.call (nx _ _ ad c xs (shC xs n) (fun _=>cM [obj bv 22 [.slice a0 xs.length c3],isl (encZ .i64) 1 a0 ((List.range xs.length).map (shC xs n))]) ab hw (CU hx ab ab) (vI bv a0 c3 xs (shC xs n) ab)) rfl (by repeat (first|exact Ent.refl _|apply Ent.take))) ah ?_);rintro _ _⟨_,⟨a1,c1,ad2,c2,rfl,rfl⟩,hL⟩;simp only[ax,ap] at hL;subst hL;repeat first|refine aa ?_|intro _|refine dA ?_
 exact KX.d7 an (Ent.refl _) (.inr ⟨ab,a1,c1,ad2,c2,rfl,rfl⟩)
def AH(mixed:Bool):TakeC mixed:=by
 cases mixed with
 | false=>exact xI
 | true =>
  refine⟨fun l n hl h0 h1 k hk=>nA true l n hl h0 h1 k hk,?_⟩;intro L ad c xs n h1 h2 h3 h4;rcases Int.lt_or_eq_of_le h3 with h5|h5
  ·have e:tkC true xs n=shC xs n:=if_pos ⟨rfl,h5⟩;unfold gV eM;rw[e];exact AJ ad c xs n h1 h2 h5 h4
  ·subst h5;have e:tkC true xs 0=fuC xs 0:=if_neg (fun h=>absurd h.2 ab);unfold gV eM;rw[e];exact AI ad c xs h1 h2
def WdB(c:Int):Prop:=(97≤c∧c≤122)∨(48≤c∧c≤57)∨c=95
noncomputable def clsM(c:Int):Int:=if 97≤c∧c≤122 then 1 else if 48≤c∧c≤57 then 2 else 3
def Ap(c:Int):1≤clsM c∧clsM c≤3:=by
 unfold clsM;split
 ·omega
 ·split<;>omega
def EX:∀c,c<128→(kindsL[c]! = 3→97≤c∧c≤122)∧(kindsL[c]! = 4→48≤c∧c≤57)∧(kindsL[c]! = 5→c=95):=by decide +kernel
def rk{s:ByteArray}{i:Nat}(hi:i<s.size)(h:fY s i=3∨fY s i=4∨fY s i=5):WdB (eh s)[i]!∧(fY s i=3→clsM (eh s)[i]! = 1):=by
 have hb:=ug s _ (aG (show i<(eh s).length by rw[oy];omega));unfold fY at h ⊢;rw[ay] at h ⊢;by_cases h1:(eh s)[i]! < 128
 case neg =>
  rw[if_neg (fun h=>h1 h.2)] at h;omega
 rw[if_pos ⟨ab,h1⟩] at h ⊢;have hk:=EX ((eh s)[i]!).toNat ab;refine⟨?_,?_⟩
 ·unfold WdB;rcases h with h|h|h
  ·have:=hk.1 h;omega
  ·have:=hk.2.1 h;omega
  ·have:=hk.2.2 h;omega
 ·intro h3;have:=hk.1 h3
  unfold clsM;rw[if_pos ab]
def jS{L:LH}(c:Int)(h:WdB c):Tri ag 220 #[.int .u8 c] L (fun v L'=>v=ac (clsM c)∧L' = L):=by
 refine Tri.bd ?_;by_cases h1:97≤c∧c≤122
 ·have e:clsM c=1:=if_pos h1;rw[e];obtain⟨h2,h3⟩:=h1;refine Hz ?_;intros;exact KX.en ⟨rfl,rfl⟩
 by_cases h4:48≤c∧c≤57
 ·have e:clsM c=2:=by unfold clsM;rw[if_neg h1,if_pos h4]
  rw[e];obtain⟨h2,h3⟩:=h4;refine Hz ?_;intros;exact KX.en ⟨rfl,rfl⟩
 have h5:c=95:=by unfold WdB at h;omega
 have e:clsM c=3:=by unfold clsM;rw[if_neg h1,if_neg h4]
 rw[e];refine Hz ?_;intros;exact KX.en ⟨rfl,rfl⟩
def sa{L:LH}(s:ByteArray)(i:Nat)(hs:s.size≤1000)(hk:i<s.size→WdB (eh s)[i]!) :
  Tri ag 218 #[.string s,ac (i:Int)] L (fun v L'=>v=ac (i:Int)∧L' = L):=by
 refine Tri.bd ?_;refine Hz ?_;intros;refine G.e9 1 (GR.step ?_);by_cases h1:i<s.size
 case neg =>
  refine Hz ?_;intros;exact KX.en ⟨rfl,rfl⟩
 have hw:=hk h1;have hb:=hw;unfold WdB at hb;obtain⟨c,hc⟩:∃c,(eh s)[i]! = c:=⟨_,rfl⟩;rw[hc] at hw hb;have a0:=Ap c;refine Hz ?_;intros;rw[ay,hc];refine Hz ?_;intros;rw[ay,hc];refine Hz ?_;intros;rw[ay,hc];refine GO.cr (jS c hw) ?_;refine Hz ?_;intros;exact KX.en ⟨rfl,rfl⟩
def AD{s:ByteArray}(hw:IsWord s){i:Nat}(hi:i<s.size):WdB (eh s)[i]!:=(rk hi (hw.rest i hi)).1
def Eg{L:LH}(s:ByteArray)(hw:IsWord s):Tri ag 219 #[.string s,ac 0] L (fun v L'=>v=ac (s.size:Int)∧L' = L):=by
 have a6:=hw.size;have a2:clsM (eh s)[0]! = 1:=(rk (i:=0) ab (hw.rest 0 ab)).2 hw.first;have a4:=AD hw (i:=0) ab;refine Tri.bd ?_;refine Hz ?_;intros;rw[Int.toNat_zero];refine GO.ca (jS _ a4) ?_;rintro _ L ⟨rfl,rfl⟩;rw[a2];refine Hz ?_;intros
 refine G.loop (α:=Nat) (fun e=>1≤e∧e≤s.size) (fun e=>[(0,.string s),(1,ac 0),(5,ac (e:Int))])
  (fun _=>L) (fun e=>s.size - e) 1 ⟨ab,ab⟩ ai (Ent.refl _) ?_
 rintro e ⟨a7,a8⟩;by_cases a3:e<s.size
 case neg =>
  have a1:e=s.size:=ab;subst a1;refine Hz ?_;intros;exact KX.en ⟨rfl,rfl⟩
 have a0:=AD hw a3;obtain⟨c,hc⟩:∃c,(eh s)[e]! = c:=⟨_,rfl⟩;rw[hc] at a0;have a5:=Ap c;refine Hz ?_;intros;rw[ay,hc];refine GO.ca (jS c a0) ?_;rintro _ L ⟨rfl,rfl⟩;refine Hz ?_;intros;rw[ay,hc];refine GO.ca (jS c a0) ?_;rintro _ L ⟨rfl,rfl⟩;refine Hz ?_;intros;refine⟨e+1,⟨ab,ab⟩,ab,?_,Ent.refl _⟩;rw[aK e];exact ai
abbrev Fv:Nat:=214
def vG{L:LH}(s:ByteArray)(hw:IsWord s):Tri ag 130 #[.string s] L (fun v L'=>∃ad c,v=.tuple #[.slice ad 1 c,ac 0,ac 0]∧L' = osl encT 4 Fv ad c [iF s]::L):=by
 have a2:=hw.size;have a1:clsM (eh s)[0]! = 1:=(rk (i:=0) ab (hw.rest 0 ab)).2 hw.first;have a0:=AD hw (i:=0) ab;refine Tri.bd ?_;refine Hz ?_;intros;refine GO.ca (sa s 0 ab (fun _=>a0)) ?_;rintro _ L ⟨rfl,rfl⟩;refine Hz ?_;intros;refine G.e9 2 (GR.step ?_);rw[Int.natCast_zero];refine Hz ?_;intros;refine GO.ca (Eg s hw) ?_;rintro _ L ⟨rfl,rfl⟩;refine Hz ?_;intros;rw[Int.toNat_zero,ay,qM];rename_i b8;refine GO.cr (jS _ a0) ?_;rw[a1];refine Hz ?_;intros;rw[Int.toNat_zero];refine GO.cr (jS _ a0) ?_;rw[a1];refine Hz ?_;intros;refine GO.ent (Ent.d9 encT 4 Fv) ?_;refine GO.ef (Ef.d7 (enc:=encT) (xs:=[]) (e:=iF s) rfl rfl rfl rfl rfl (by rfl) (rx _) ah ah) ah ?_;rintro _ _⟨ad2,cap2,rfl,rfl⟩;simp only[ap];refine Hz ?_;intros;refine GO.cr (sa s s.size ab (fun h=>by omega)) ?_;refine Hz ?_;intros;refine GR.step ?_;refine Hz ?_;intros;exact KX.en ⟨ad2,cap2,rfl,rfl⟩
def AA{L:LH}(s:ByteArray)(hw:IsWord s):Tri ag 84 #[.string s] L (fun v L'=>v=.bool true∧L' = L):=by
 refine Tri.bd ?_;refine Hz ?_;intros;refine GO.ca (vG s hw) ?_;rintro _ _⟨ad,c,rfl,rfl⟩;have a1:([iF s][Int.toNat 0]!).kind=0:=rfl;have a0:([iF s][Int.toNat 0]!).text=s:=rfl;refine Hz ?_;intros;rw[a0];refine Hz ?_;intros;exact KX.d7 an ae ⟨by rw[aT rfl];rfl,rfl⟩
def dZ(s:ByteArray):LV:=[.string s]
def lZ(s:ByteArray):∀u∈dZ s,u.oneCell' = true:=by simp[dZ,Value.oneCell']
def EZ{L:LH}(ad:OA)(n c:Nat)(xs:List ByteArray)[hrd:Rds L ad ByteArray dZ 1 xs](hn:n=xs.length)(hl:xs.length≤1000)(s:ByteArray)(h:s∉xs) :
  Tri ag 85 #[.slice ad n c,.string s] L (fun v L'=>v=.bool false∧L' = L):=by
 subst hn;refine Tri.bd ?_;refine Hz ?_;intros;refine G.loop (α:=Nat) (fun i=>i≤xs.length) (fun i=>[(0,.slice ad xs.length c),(1,.string s),(5,ac (i:Int))]) (fun _=>L) (fun i=>xs.length - i) 0 (aj _) ai (Ent.refl _) ?_;intro i hi;by_cases a0:i<xs.length
 case neg =>
  refine Hz ?_;intros;exact KX.en ⟨rfl,rfl⟩
 have a1:xs[i]!≠s:=fun e=>h (e▸aG a0);refine Hz ?_;intros;rw[ay];refine Hz ?_;intros;refine⟨i+1,ab,ab,?_,Ent.refl _⟩;rw[aK i];exact ai
def qr{L:LH}(m:Nat)(ad:OA)(n c:Nat)(l:List (Int×Int))[hrd:Rds L ad (Int×Int) bM 2 l](hn:n=l.length)(hl:l.length≤64)(h:jq m l)(x:Int) :
  Tri ag 131 #[.slice ad n c,ac x] L (fun v L'=>v=ac (gg l x)∧L' = L):=by
 subst hn;refine Tri.bd ?_;refine Hz ?_;intros;refine G.loop (α:=Nat) (fun i=>i≤l.length) (fun i=>[(0,.slice ad l.length c),(1,ac x),(5,ac (gg (l.take i) x)),(6,ac (i:Int))]) (fun _=>L) (fun i=>l.length - i) 0 (aj _) ai (Ent.refl _) ?_;intro i hi;by_cases a0:i<l.length
 case neg =>
  rw[aF ab];refine Hz ?_;intros;exact KX.en ⟨rfl,rfl⟩
 have a1:(i:Int).toNat=i:=ab;have a2:=rF h.1 x i hi;have a3:=h.1 _ (aG a0)
 have e:gg (l.take (i+1)) x=if l[i]!.1=x then gg (l.take i) x+l[i]!.2 else gg (l.take i) x:=by
  rw[aC a0,oO,getElem!_of a0]
 by_cases h1:l[i]!.1=x
 ·rw[if_pos h1] at e;refine Hz ?_;intros;rw[a1];refine Hz ?_;intros;rw[a1];refine Hz ?_;intros;refine⟨i+1,ab,ab,?_,Ent.refl _⟩;rw[aK i,e];exact ai
 ·rw[if_neg h1] at e;refine Hz ?_;intros;rw[a1];refine Hz ?_;intros;refine⟨i+1,ab,ab,?_,Ent.refl _⟩;rw[aK i,e];exact ai
def tD{L:LH}(x:ItG)(h:ItGood x):Tri ag 86 #[.agg (bU x).toArray] L (fun v L'=>v=ac 0∧L' = L):=by
 obtain⟨hw,hf,a1,a3,a2⟩:=h;refine Tri.bd ?_;simp only[bU];by_cases ho:x.obj=true
 ·rw[if_pos ho] at hf;obtain⟨f1,f2,f3,f4⟩:=hf;obtain⟨n1,n2⟩:=a1 ho;rw[ho,f1,f2];refine Hz ?_;intros;exact KX.en ⟨rfl,rfl⟩
 ·rw[if_neg ho] at hf;obtain⟨f1,f2,f3⟩:=hf;have a0 : x.obj=false:=by simpa using ho
  rw[a0];refine Hz ?_;intros;exact KX.en ⟨rfl,rfl⟩
abbrev Cc(a b c:Bool):Value:=.tuple #[.bool a,.bool b,.bool c]
abbrev Di:List Stp:=[.ev 0,.ev 1,.ev 2,.ev 3,.ev 4,.ev 5,.ev 6,.ev 7,.ev 8,.ev 9,.ev 10,.ev 11]
def Nb{φ ψ:Prop}(k:ψ)(h:Hid ψ→φ:=by intro k;(repeat (first|refine aa ?_|intro zzz|((with_reducible apply G.d8);first|refine G.d7 (N:=42) (id:=6) Di mixed aw ?_)));(repeat revert zzz);exact Hid.out k):φ:=h ⟨k⟩
def qS{L:LH}(n:Nat)(t:TbV)(h:TbGood n t.m):Tri ag 88 #[.agg (cw t).toArray] (isl eN 2 t.ad t.rows::L) (fun v L'=>v=Cc false false false∧L' = isl eN 2 t.ad t.rows::L):=by
 obtain⟨⟨r1,r2⟩,r3⟩:=mQ h;refine Tri.bd ?_;simp only[cw];refine Nb ?_;intros;rename_i b1;refine G.loop (α:=Nat) (fun i=>i≤t.rows.length) (fun i=>[(1,av b1),(5,.bool false),(6,ac (i:Int))]) (fun _=>obj b1 153 [.string t.name,.slice t.ad t.rows.length t.cap]::isl eN 2 t.ad t.rows::L) (fun i=>t.rows.length - i) 0 (aj _) ai (Ent.refl _) ?_;intro i hi;by_cases a1:i<t.rows.length
 case neg =>
  refine Nb ?_;intros;rw[aH (show ¬((64:Int)<t.rows.length) by omega),aH (show ¬((t.rows.length:Int)=0) by omega)];exact KX.en ⟨rfl,rfl⟩
 have a0:(i:Int).toNat=i:=ab;have hw:=(r3 _ (aG a1)).num;change 1≤t.rows[i]!.weight∧t.rows[i]!.weight≤1099511627776 at hw;refine Nb ?_;intros;rw[a0];refine Nb ?_;intros;rw[a0];refine Nb ?_;intros;refine⟨i+1,ab,ab,?_,Ent.refl _⟩;rw[aK i,aH (show ¬(1099511627776<t.rows[i]!.weight) by omega)];exact ai
abbrev Dh:List Stp:=[.ev 0,.ev 1,.ev 2,.ev 3,.ev 4,.ev 5,.ev 6,.ev 7,.ev 8,.ev 9,.ev 10,.ev 11,.ev 12,.ev 13,.ev 14,.ev 15,.ev 16,.ev 17,.ev 18,.ev 19,.ev 20,.ev 21,.ev 22,.ev 23,.ev 24,.ev 25,.ev 26]
def fZ{φ ψ:Prop}(k:ψ)(h:Hid ψ→φ:=by intro k;(with_reducible apply G.d8);first|refine G.d7 (N:=78) (id:=7) Dh mixed aw (Hid.out k)):φ:=h ⟨k⟩
def Nh{φ ψ:Prop}(k:ψ)(h:Hid ψ→φ:=by intro k;(repeat (first|refine aa ?_|intro zzz|((with_reducible apply G.d8);first|refine G.d7 (N:=78) (id:=7) Dh mixed aw ?_)));(repeat revert zzz);exact Hid.out k):φ:=h ⟨k⟩
def ta{L:LH}(t:TxV)(h:TxGood t.m):Tri ag 89 #[.agg (cv t).toArray] (isl bM 2 t.ad t.brs::L) (fun v L'=>v=Cc false false false∧L' = isl bM 2 t.ad t.brs::L):=by
 obtain⟨b1,b2⟩:=h.brs;change 0<t.brs.length at b1;change t.brs.length≤16 at b2;have a1:t.brs[0]!.1=0:=h.first;have a2:∀i,i+1<t.brs.length→t.brs[i]!.1<t.brs[i+1]!.1:=h.srt;refine Tri.bd ?_;simp only[cv];refine Nh ?_;intros;rename_i bb;rw[aH (show ¬((t.brs.length:Int)=0) by omega)];refine G.loop (α:=Nat) (fun i=>i≤t.brs.length) (fun i=>[(1,av bb),(5,.bool false),(6,.bool false),(7,ac (i:Int))]) (fun _=>obj bb 160 [.string t.name,.slice t.ad t.brs.length t.cap]::isl bM 2 t.ad t.brs::L) (fun i=>t.brs.length - i) 0 (aj _) ai (Ent.refl _) ?_;intro i hi;by_cases a4:i<t.brs.length
 case neg =>
  refine Nh ?_;intros;rw[aH (show ¬((16:Int)<t.brs.length) by omega)];exact KX.en ⟨rfl,rfl⟩
 have a6:(i:Int).toNat=i:=ab;have a0:=h.num _ (aG a4);change (0≤t.brs[i]!.1∧t.brs[i]!.1≤1099511627776)∧0≤t.brs[i]!.2∧t.brs[i]!.2≤10000 at a0;repeat first|((fail_if_success (with_reducible refine G.atS 6 ?_));(with_reducible apply G.seq))|refine bA ?_|intro _|refine fZ ?_
 repeat first|((fail_if_success (with_reducible refine G.atS 7 ?_));(with_reducible apply G.seq))|refine bA ?_|intro _|refine fZ ?_
 rw[a6];simp only[bM];obtain⟨x,hx⟩:∃x,t.brs[i]! = x:=⟨_,rfl⟩;rw[hx] at a0 ⊢;obtain⟨⟨m1,m2⟩,m3,m4⟩:=a0;rcases Nat.eq_zero_or_pos i with h0|h0
 ·have a7:x.1=0:=by rw[←hx,h0];exact a1
  refine Nh ?_;intros;refine⟨i+1,ab,ab,?_,by exact ae⟩;rw[aK i,aH (show ¬(10000<x.2) by omega)];exact ai
 ·have a5:((i:Int) - 1).toNat=i - 1:=ab;have a3:=a2 (i - 1) ab;rw[show i - 1+1=i by omega,hx] at a3;refine Nh ?_;intros;rw[a5];refine Nh ?_;intros;refine⟨i+1,ab,ab,?_,by exact ae⟩;rw[aK i,aH (show ¬(10000<x.2) by omega),aH (show ¬(x.1≤t.brs[i - 1]!.1) by omega)];exact ai
abbrev Dj:List Stp:=[.ev 0,.ev 1,.ev 2,.ev 3,.ev 4,.ev 5,.ev 6,.ev 7,.ev 8,.ev 9,.ev 11,.ev 12,.ev 13,.ev 14,.ev 15,.ev 16,.ev 17,.ev 18,.ef 10,.ef 19,.ev 20,.ev 21,.ev 22]
def dp{φ ψ:Prop}(k:ψ)(h:Hid ψ→φ:=by intro k;(with_reducible apply G.d8);first|refine G.d7 (N:=151) (id:=9) Dj mixed aw (Hid.out k)):φ:=h ⟨k⟩
def Nm{φ ψ:Prop}(k:ψ)(h:Hid ψ→φ:=by intro k;(repeat (first|refine aa ?_|intro zzz|((with_reducible apply G.d8);first|refine G.d7 (N:=151) (id:=9) Dj mixed aw ?_)));(repeat revert zzz);exact Hid.out k):φ:=h ⟨k⟩
def se{L:LH}(n:Nat)(r:RuV)(h:RuGood n r.m):Tri ag 87 #[.agg (bR r).toArray] (isl bM 2 r.take.ad r.take.l::isl bM 2 r.give.ad r.give.l::isl bM 2 r.back.ad r.back.l::L) (fun v L'=>v=Cc false false false∧L' = isl bM 2 r.take.ad r.take.l::isl bM 2 r.give.ad r.give.l::isl bM 2 r.back.ad r.back.l::L):=by
 obtain⟨hw,⟨a8,a7⟩,a2,a9,a3,⟨a6,a1⟩,a0,⟨⟨n1,n2⟩,⟨n3,n4⟩,⟨n5,n6⟩,n7,n8⟩⟩:=h;change r.take.l.length+r.give.l.length≤64 at a8;change r.take.l.length+r.back.l.length≤64 at a7;change jq n r.take.l at a2;change jq n r.back.l at a3;change r.back.l.length=0∨r.chance≠r.of_ at a6;change ∀a∈r.back.l,gg r.back.l a.1≤gg r.take.l a.1 at a0;change (if r.spawn=true then r.take.l.length=0∧r.back.l.length=0∧r.level=0∧r.time=0∧r.chance=r.of_ else 0<r.take.l.length∨r.time≠0) at a1;change 0≤r.level at n1;change r.level≤100 at n2;change 0≤r.time at n3;change r.time≤1000000 at n4;change 1≤r.of_ at n5;change r.of_≤1000000 at n6;change 1≤r.chance at n7;change r.chance≤r.of_ at n8;refine Tri.bd ?_;simp only[bR];repeat first|((fail_if_success (with_reducible refine G.atS 1 ?_));(with_reducible apply G.seq))|refine bA ?_|intro _|refine dp ?_
 rename_i bb;repeat first|((fail_if_success (with_reducible refine G.atS 2 ?_));(with_reducible apply G.seq))|refine bA ?_|intro _|refine dp ?_
 rw[aH (show ¬((64:Int)<(r.take.l.length:Int)+r.back.l.length) by omega)];refine G.d9 (α:=Unit) (fun _=>True) (fun _=>[(1,av bb),(5,.bool false),(6,.bool (dB (r.take.l.length=0∧r.time=0)))]) (fun _=>obj bb 79 [.string r.name,.bool r.spawn,ac r.level,ac r.time,ac r.chance,ac r.of_,.slice r.take.ad r.take.l.length r.take.cap,.slice r.give.ad r.give.l.length r.give.cap,.slice r.back.ad r.back.l.length r.back.cap]::isl bM 2 r.take.ad r.take.l::isl bM 2 r.give.ad r.give.l::isl bM 2 r.back.ad r.back.l::L) ?_ ?_
 ·by_cases q:r.take.l.length=0
  ·refine Nm ?_;intros;rw[show dB (r.time=0)=dB (r.take.l.length=0∧r.time=0) by congr 1;simp[q]];exact⟨(),trivial,ai,Ent.refl _⟩
  ·refine Nm ?_;intros;rw[aH (show ¬(r.take.l.length=0∧r.time=0) from fun h=>q h.1)];exact⟨(),trivial,ai,Ent.refl _⟩
 rintro _ _;repeat first|((fail_if_success (with_reducible refine G.e7 3 ?_));(with_reducible apply G.seq))|refine bA ?_|intro _|refine dp ?_
 refine G.d9 (α:=Unit) (fun _=>True) (fun _=>[(1,av bb),(5,.bool false),(6,.bool false)]) (fun _=>obj bb 79 [.string r.name,.bool r.spawn,ac r.level,ac r.time,ac r.chance,ac r.of_,.slice r.take.ad r.take.l.length r.take.cap,.slice r.give.ad r.give.l.length r.give.cap,.slice r.back.ad r.back.l.length r.back.cap]::isl bM 2 r.take.ad r.take.l::isl bM 2 r.give.ad r.give.l::isl bM 2 r.back.ad r.back.l::L) ?_ ?_
 ·by_cases q:r.spawn=true
  ·rw[if_pos q] at a1;obtain⟨q1,q2,q3,q4,q5⟩:=a1;rw[q];refine Nm ?_;intros;rw[aH (show ¬(¬r.chance=r.of_) by omega)];exact⟨(),trivial,ai,Ent.refl _⟩
  ·rw[if_neg q] at a1;have q' : r.spawn=false:=by simpa using q
   rw[q'];refine Nm ?_;intros;rw[aH (show ¬(r.take.l.length=0∧r.time=0) by omega)];exact⟨(),trivial,ai,Ent.refl _⟩
 rintro _ _;repeat first|((fail_if_success (with_reducible refine G.atS 5 ?_));(with_reducible apply G.seq))|refine bA ?_|intro _|refine dp ?_
 refine G.d9 (α:=Unit) (fun _=>True) (fun _=>[(1,av bb),(5,.bool false),(6,.bool false)]) (fun _=>obj bb 79 [.string r.name,.bool r.spawn,ac r.level,ac r.time,ac r.chance,ac r.of_,.slice r.take.ad r.take.l.length r.take.cap,.slice r.give.ad r.give.l.length r.give.cap,.slice r.back.ad r.back.l.length r.back.cap]::isl bM 2 r.take.ad r.take.l::isl bM 2 r.give.ad r.give.l::isl bM 2 r.back.ad r.back.l::L) ?_ ?_
 ·by_cases q:r.back.l.length=0
  ·refine Nm ?_;intros;exact⟨(),trivial,ai,Ent.refl _⟩
  ·have q2:¬r.chance=r.of_:=ab;refine Nm ?_;intros;rw[aH q2];exact⟨(),trivial,ai,Ent.refl _⟩
 rintro _ _;refine Nm ?_;intros;refine G.loop (α:=Nat) (fun i=>i≤r.back.l.length) (fun i=>[(1,av bb),(5,.bool false),(6,.bool false),(7,ac (i:Int))]) (fun _=>obj bb 79 [.string r.name,.bool r.spawn,ac r.level,ac r.time,ac r.chance,ac r.of_,.slice r.take.ad r.take.l.length r.take.cap,.slice r.give.ad r.give.l.length r.give.cap,.slice r.back.ad r.back.l.length r.back.cap]::isl bM 2 r.take.ad r.take.l::isl bM 2 r.give.ad r.give.l::isl bM 2 r.back.ad r.back.l::L) (fun i=>r.back.l.length - i) 0 (aj _) ai (Ent.refl _) ?_;intro i hi;by_cases a4:i<r.back.l.length
 case neg =>
  refine Nm ?_;intros;rw[aH (show ¬(r.of_<r.chance) by omega)];exact KX.en ⟨rfl,rfl⟩
 have a5:(i:Int).toNat=i:=ab;have b0:=a0 _ (aG a4);refine Nm ?_;intros;refine GPW.cr (qr n r.back.ad r.back.l.length r.back.cap r.back.l rfl ab a3 r.back.l[(i:Int).toNat]!.1) ?_;refine Nm ?_;intros;refine GPW.cr (qr n r.take.ad r.take.l.length r.take.cap r.take.l rfl ab a2 r.back.l[(i:Int).toNat]!.1) ?_;rw[a5];refine Nm ?_;intros;rw[aH (show ¬(gg r.take.l r.back.l[i]!.1<gg r.back.l r.back.l[i]!.1) by omega)];refine⟨i+1,ab,ab,?_,by exact ae⟩;rw[aK i];exact ai
abbrev tStr:Nat:=9
structure StrS where
 l:List ByteArray
 ad:OA
 cap:Nat
 deriving Inhabited
def mm(a:StrS):LV:=[.slice a.ad a.l.length a.cap]
def strP(a:StrS):HP:=isl dZ 1 a.ad a.l
def rU(a:StrS):PersM (strP a):=bQ _ _ _ _
def iE(a:AmS):LV:=[.slice a.ad a.l.length a.cap]
def sP(a:AmS):∀u∈iE a,u.oneCell' = true:=by simp[iE,Value.oneCell']
def kh{α β:Type}[Inhabited α](f:α→β){xs:List α}{i:Nat}(h:i<xs.length):(xs.take i).map f++[f xs[i]!]=(xs.take (i+1)).map f:=by
 rw[aC h,aZ,getElem!_of h];rfl
def gW{α β:Type}(f:α→β){xs:List α}{i:Nat}(h:i≤xs.length):((xs.take i).map f).length=i:=by rw[aA,bh];omega
def zv{L:LH}(c:CatV)(hB:c.B):Tri ag 83 #[.agg c.cells.toArray] (catS c L) (fun v L'=>∃bn NN,v=.slice (some ⟨bn,0,none⟩) 4 4∧(NN.map StrS.l=[c.items.map (·.name),c.rules.map (·.name),c.tables.map (·.name),c.taxes.map (·.name)]∧∀x∈NN,x.l.length≤x.cap)∧L' = isl mm 1 (some ⟨bn,0,none⟩) NN::allP strP NN::catS c L):=by
 have b9:=hB.items;have c4:=hB.rules;have b8:=hB.tables;have b7:=hB.taxes;refine Tri.bd ?_;simp only[CatV.cells,catS];repeat first|((fail_if_success (with_reducible refine G.atS 1 ?_));(with_reducible apply G.seq))|refine bA ?_|intro
 rename_i b1;repeat first|((fail_if_success (with_reducible refine G.e7 2 ?_));(with_reducible apply G.seq))|refine bA ?_|intro
 refine G.d9 (α:=OA×Nat) (fun z=>c.items.length≤z.2) (fun z=>[(1,av b1),(3,.slice z.1 c.items.length z.2),(4,.slice none 0 0),(5,.slice none 0 0),(6,.slice none 0 0)]) (fun z=>isl dZ 1 z.1 (c.items.map (·.name))::obj b1 tCat [.slice c.iad c.items.length c.icap,.slice c.rad c.rules.length c.rcap,.slice c.tad c.tables.length c.tcap,.slice c.xad c.taxes.length c.xcap]::isl bU 7 c.iad c.items::isl bR 9 c.rad c.rules::allP ruP c.rules::isl cw 2 c.tad c.tables::allP tbP c.tables::isl cv 2 c.xad c.taxes::allP txP c.taxes::L) ?_ ?_
 ·refine Hz ?_;intros;refine G.loop (α:=Nat×OA×Nat) (fun z=>z.1≤c.items.length) (fun z=>[(1,av b1),(3,.slice z.2.1 z.1 z.2.2),(4,.slice none 0 0),(5,.slice none 0 0),(6,.slice none 0 0),(7,ac (z.1:Int))]) (fun z=>osl dZ 1 tStr z.2.1 z.2.2 ((c.items.take z.1).map (·.name))::obj b1 tCat [.slice c.iad c.items.length c.icap,.slice c.rad c.rules.length c.rcap,.slice c.tad c.tables.length c.tcap,.slice c.xad c.taxes.length c.xcap]::isl bU 7 c.iad c.items::isl bR 9 c.rad c.rules::allP ruP c.rules::isl cw 2 c.tad c.tables::allP tbP c.tables::isl cv 2 c.xad c.taxes::allP txP c.taxes::L) (fun z=>c.items.length - z.1) (0,none,0) (aj _) ai (Ent.d9 dZ 1 tStr) ?_;rintro⟨i,a4,a5⟩ hi;dsimp only at hi ⊢;have a8:=gW (fun x:ItG=>x.name) hi;by_cases a9:i<c.items.length
  case neg =>
   have a7:i=c.items.length:=ab;refine G.e8 (fX (ad:=a4)) ?_;rintro⟨a6,_⟩;rw[a8,a7] at a6;rw[aF ab,a7];refine Hz ?_;intros;exact⟨(a4,a5),a6,ai,Ent.frz a4⟩
  have b0:(i:Int).toNat=i:=ab;have e:=kh (fun x:ItG=>x.name) a9;refine Hz ?_;intros;rw[b0];refine Hz ?_;intros;refine GO.ef (Ef.d7 (enc:=dZ) (e:=c.items[i]!.name) rfl rfl rfl a8.symm rfl (by rfl) (lZ _) ab ab) ah ?_;rintro _ _⟨ad2,cap2,rfl,rfl⟩;rw[e];refine Hz ?_;intros;refine⟨(i+1,ad2,cap2),by dsimp only;omega,by dsimp only;omega,?_,by exact ae⟩;dsimp only;rw[aK i];rw[gW (fun x:ItG=>x.name) (show i+1≤c.items.length by omega)];exact ai
 rintro⟨a0,c0⟩ b3;dsimp only at b3 ⊢;repeat first|((fail_if_success (with_reducible refine G.e7 6 ?_));(with_reducible apply G.seq))|refine bA ?_|intro
 refine G.d9 (α:=OA×Nat) (fun z=>c.rules.length≤z.2) (fun z=>[(1,av b1),(3,.slice a0 c.items.length c0),(4,.slice z.1 c.rules.length z.2),(5,.slice none 0 0),(6,.slice none 0 0)]) (fun z=>isl dZ 1 z.1 (c.rules.map (·.name))::isl dZ 1 a0 (c.items.map (·.name))::obj b1 tCat [.slice c.iad c.items.length c.icap,.slice c.rad c.rules.length c.rcap,.slice c.tad c.tables.length c.tcap,.slice c.xad c.taxes.length c.xcap]::isl bU 7 c.iad c.items::isl bR 9 c.rad c.rules::allP ruP c.rules::isl cw 2 c.tad c.tables::allP tbP c.tables::isl cv 2 c.xad c.taxes::allP txP c.taxes::L) ?_ ?_
 ·refine Hz ?_;intros;refine G.loop (α:=Nat×OA×Nat) (fun z=>z.1≤c.rules.length) (fun z=>[(1,av b1),(3,.slice a0 c.items.length c0),(4,.slice z.2.1 z.1 z.2.2),(5,.slice none 0 0),(6,.slice none 0 0),(8,ac (z.1:Int))]) (fun z=>osl dZ 1 tStr z.2.1 z.2.2 ((c.rules.take z.1).map (·.name))::isl dZ 1 a0 (c.items.map (·.name))::obj b1 tCat [.slice c.iad c.items.length c.icap,.slice c.rad c.rules.length c.rcap,.slice c.tad c.tables.length c.tcap,.slice c.xad c.taxes.length c.xcap]::isl bU 7 c.iad c.items::isl bR 9 c.rad c.rules::allP ruP c.rules::isl cw 2 c.tad c.tables::allP tbP c.tables::isl cv 2 c.xad c.taxes::allP txP c.taxes::L) (fun z=>c.rules.length - z.1) (0,none,0) (aj _) ai (Ent.d9 dZ 1 tStr) ?_;rintro⟨i,a4,a5⟩ hi;dsimp only at hi ⊢;have a8:=gW (fun x:RuV=>x.name) hi;by_cases a9:i<c.rules.length
  case neg =>
   have a7:i=c.rules.length:=ab;refine G.e8 (fX (ad:=a4)) ?_;rintro⟨a6,_⟩;rw[a8,a7] at a6;rw[aF ab,a7];refine Hz ?_;intros;exact⟨(a4,a5),a6,ai,Ent.frz a4⟩
  have b0:(i:Int).toNat=i:=ab;have e:=kh (fun x:RuV=>x.name) a9;refine Hz ?_;intros;rw[b0];refine Hz ?_;intros;refine GO.ef (Ef.d7 (enc:=dZ) (e:=c.rules[i]!.name) rfl rfl rfl a8.symm rfl (by rfl) (lZ _) ab ab) ah ?_;rintro _ _⟨ad2,cap2,rfl,rfl⟩;rw[e];refine Hz ?_;intros;refine⟨(i+1,ad2,cap2),by dsimp only;omega,by dsimp only;omega,?_,by exact ae⟩;dsimp only;rw[aK i];rw[gW (fun x:RuV=>x.name) (show i+1≤c.rules.length by omega)];exact ai
 rintro⟨a1,c1⟩ b5;dsimp only at b5 ⊢;repeat first|((fail_if_success (with_reducible refine G.e7 10 ?_));(with_reducible apply G.seq))|refine bA ?_|intro
 refine G.d9 (α:=OA×Nat) (fun z=>c.tables.length≤z.2) (fun z=>[(1,av b1),(3,.slice a0 c.items.length c0),(4,.slice a1 c.rules.length c1),(5,.slice z.1 c.tables.length z.2),(6,.slice none 0 0)]) (fun z=>isl dZ 1 z.1 (c.tables.map (·.name))::isl dZ 1 a1 (c.rules.map (·.name))::isl dZ 1 a0 (c.items.map (·.name))::obj b1 tCat [.slice c.iad c.items.length c.icap,.slice c.rad c.rules.length c.rcap,.slice c.tad c.tables.length c.tcap,.slice c.xad c.taxes.length c.xcap]::isl bU 7 c.iad c.items::isl bR 9 c.rad c.rules::allP ruP c.rules::isl cw 2 c.tad c.tables::allP tbP c.tables::isl cv 2 c.xad c.taxes::allP txP c.taxes::L) ?_ ?_
 ·refine Hz ?_;intros;refine G.loop (α:=Nat×OA×Nat) (fun z=>z.1≤c.tables.length) (fun z=>[(1,av b1),(3,.slice a0 c.items.length c0),(4,.slice a1 c.rules.length c1),(5,.slice z.2.1 z.1 z.2.2),(6,.slice none 0 0),(9,ac (z.1:Int))]) (fun z=>osl dZ 1 tStr z.2.1 z.2.2 ((c.tables.take z.1).map (·.name))::isl dZ 1 a1 (c.rules.map (·.name))::isl dZ 1 a0 (c.items.map (·.name))::obj b1 tCat [.slice c.iad c.items.length c.icap,.slice c.rad c.rules.length c.rcap,.slice c.tad c.tables.length c.tcap,.slice c.xad c.taxes.length c.xcap]::isl bU 7 c.iad c.items::isl bR 9 c.rad c.rules::allP ruP c.rules::isl cw 2 c.tad c.tables::allP tbP c.tables::isl cv 2 c.xad c.taxes::allP txP c.taxes::L) (fun z=>c.tables.length - z.1) (0,none,0) (aj _) ai (Ent.d9 dZ 1 tStr) ?_;rintro⟨i,a4,a5⟩ hi;dsimp only at hi ⊢;have a8:=gW (fun x:TbV=>x.name) hi;by_cases a9:i<c.tables.length
  case neg =>
   have a7:i=c.tables.length:=ab;refine G.e8 (fX (ad:=a4)) ?_;rintro⟨a6,_⟩;rw[a8,a7] at a6;rw[aF ab,a7];refine Hz ?_;intros;exact⟨(a4,a5),a6,ai,Ent.frz a4⟩
  have b0:(i:Int).toNat=i:=ab;have e:=kh (fun x:TbV=>x.name) a9;refine Hz ?_;intros;rw[b0];refine Hz ?_;intros;refine GO.ef (Ef.d7 (enc:=dZ) (e:=c.tables[i]!.name) rfl rfl rfl a8.symm rfl (by rfl) (lZ _) ab ab) ah ?_;rintro _ _⟨ad2,cap2,rfl,rfl⟩;rw[e];refine Hz ?_;intros;refine⟨(i+1,ad2,cap2),by dsimp only;omega,by dsimp only;omega,?_,by exact ae⟩;dsimp only;rw[aK i];rw[gW (fun x:TbV=>x.name) (show i+1≤c.tables.length by omega)];exact ai
 rintro⟨a2,c2⟩ b4;dsimp only at b4 ⊢;repeat first|((fail_if_success (with_reducible refine G.e7 14 ?_));(with_reducible apply G.seq))|refine bA ?_|intro
 refine G.d9 (α:=OA×Nat) (fun z=>c.taxes.length≤z.2) (fun z=>[(1,av b1),(3,.slice a0 c.items.length c0),(4,.slice a1 c.rules.length c1),(5,.slice a2 c.tables.length c2),(6,.slice z.1 c.taxes.length z.2)]) (fun z=>isl dZ 1 z.1 (c.taxes.map (·.name))::isl dZ 1 a2 (c.tables.map (·.name))::isl dZ 1 a1 (c.rules.map (·.name))::isl dZ 1 a0 (c.items.map (·.name))::obj b1 tCat [.slice c.iad c.items.length c.icap,.slice c.rad c.rules.length c.rcap,.slice c.tad c.tables.length c.tcap,.slice c.xad c.taxes.length c.xcap]::isl bU 7 c.iad c.items::isl bR 9 c.rad c.rules::allP ruP c.rules::isl cw 2 c.tad c.tables::allP tbP c.tables::isl cv 2 c.xad c.taxes::allP txP c.taxes::L) ?_ ?_
 ·refine Hz ?_;intros;refine G.loop (α:=Nat×OA×Nat) (fun z=>z.1≤c.taxes.length) (fun z=>[(1,av b1),(3,.slice a0 c.items.length c0),(4,.slice a1 c.rules.length c1),(5,.slice a2 c.tables.length c2),(6,.slice z.2.1 z.1 z.2.2),(10,ac (z.1:Int))]) (fun z=>osl dZ 1 tStr z.2.1 z.2.2 ((c.taxes.take z.1).map (·.name))::isl dZ 1 a2 (c.tables.map (·.name))::isl dZ 1 a1 (c.rules.map (·.name))::isl dZ 1 a0 (c.items.map (·.name))::obj b1 tCat [.slice c.iad c.items.length c.icap,.slice c.rad c.rules.length c.rcap,.slice c.tad c.tables.length c.tcap,.slice c.xad c.taxes.length c.xcap]::isl bU 7 c.iad c.items::isl bR 9 c.rad c.rules::allP ruP c.rules::isl cw 2 c.tad c.tables::allP tbP c.tables::isl cv 2 c.xad c.taxes::allP txP c.taxes::L) (fun z=>c.taxes.length - z.1) (0,none,0) (aj _) ai (Ent.d9 dZ 1 tStr) ?_;rintro⟨i,a4,a5⟩ hi;dsimp only at hi ⊢;have a8:=gW (fun x:TxV=>x.name) hi;by_cases a9:i<c.taxes.length
  case neg =>
   have a7:i=c.taxes.length:=ab;refine G.e8 (fX (ad:=a4)) ?_;rintro⟨a6,_⟩;rw[a8,a7] at a6;rw[aF ab,a7];refine Hz ?_;intros;exact⟨(a4,a5),a6,ai,Ent.frz a4⟩
  have b0:(i:Int).toNat=i:=ab;have e:=kh (fun x:TxV=>x.name) a9;refine Hz ?_;intros;rw[b0];refine Hz ?_;intros;refine GO.ef (Ef.d7 (enc:=dZ) (e:=c.taxes[i]!.name) rfl rfl rfl a8.symm rfl (by rfl) (lZ _) ab ab) ah ?_;rintro _ _⟨ad2,cap2,rfl,rfl⟩;rw[e];refine Hz ?_;intros;refine⟨(i+1,ad2,cap2),by dsimp only;omega,by dsimp only;omega,?_,by exact ae⟩;dsimp only;rw[aK i];rw[gW (fun x:TxV=>x.name) (show i+1≤c.taxes.length by omega)];exact ai
 rintro⟨a3,c3⟩ b6;dsimp only at b6 ⊢;refine Hz ?_;intros;rename_i bn;obtain⟨NN,b2⟩:∃NN:List StrS,NN=[⟨c.items.map (·.name),a0,c0⟩,⟨c.rules.map (·.name),a1,c1⟩,⟨c.tables.map (·.name),a2,c2⟩,⟨c.taxes.map (·.name),a3,c3⟩]:=⟨_,rfl⟩;refine KX.d7 an ?_ ⟨bn,NN,rfl,⟨by rw[b2];rfl,?_⟩,rfl⟩
 ·refine(Ent.g8 (enc:=mm) (sz:=1) (b:=bn) NN (by rw[b2];simp[mm]) (fun x _=>rfl) (by rw[b2];exact az rfl)).trans ?_;refine Ent.trans (B:=strP ⟨c.items.map (·.name),a0,c0⟩::strP ⟨c.rules.map (·.name),a1,c1⟩::strP ⟨c.tables.map (·.name),a2,c2⟩::strP ⟨c.taxes.map (·.name),a3,c3⟩::allP strP []::isl mm 1 (some ⟨bn,0,none⟩) NN::catS c L) ?_ ?_
  ·refine(Ent.e7 strP).trans ?_;simp only[strP,catS];exact ae
  ·refine(Ent.d7 (Ent.d7 (Ent.d7 (Ent.e9 rU)))).trans ((Ent.d7 (Ent.d7 (Ent.e9 rU))).trans ((Ent.d7 (Ent.e9 rU)).trans ((Ent.e9 rU).trans ?_)));rw[←b2];exact Ent.perm (List.Perm.swap _ _ _)
 ·rw[b2];intro x hx;simp only[bz,aV,or_false] at hx;rcases hx with rfl|rfl|rfl|rfl<;>(dsimp only;rw[aA];assumption)
def lsR(rs:List RuV):List AmS:=rs.flatMap fun r=>[r.take,r.give,r.back]
def lsW(t:TbV):List AmS:=t.rows.map (·.give)
def lsT(ts:List TbV):List AmS:=ts.flatMap lsW
def ES{rs:List RuV}{i:Nat}(h:i<rs.length):lsR (rs.take i)++[rs[i]!.take,rs[i]!.give,rs[i]!.back]=lsR (rs.take (i+1)):=by
 unfold lsR;rw[aC h,cN,getElem!_of h];simp
def ER{ts:List TbV}{i:Nat}(h:i<ts.length):lsT (ts.take i)++lsW ts[i]! = lsT (ts.take (i+1)):=by
 unfold lsT;rw[aC h,cN,getElem!_of h];simp
def tz(rs:List RuV):(lsR rs).length=3*rs.length:=by
 unfold lsR;induction rs with
 | nil=>rfl
 | cons r rs ih=>rw[bP,aD,ih];simp only[bu,cx];omega
def Ab{ts:List TbV}(h:∀t∈ts,t.rows.length≤64):(lsT ts).length≤64*ts.length:=by
 unfold lsT;induction ts with
 | nil=>exact aB _
 | cons t ts ih =>
  have h1:=ih (fun t ht=>h t (aq _ ht));have h2:=h t (au);rw[bP,aD];simp only[lsW,aA,bu];omega
abbrev rP:Nat:=77
abbrev Dg:List Stp:=[.ev 0,.ev 1,.ev 2,.ev 3,.ev 4,.ev 5,.ev 6,.ev 7,.ev 8,.ev 9,.ev 10,.ev 11,.ev 12,.ev 13,.ev 14,.ev 15,.ev 16,.ev 17,.ev 18,.ef 19,.ef 20,.ev 21]
def da{φ ψ:Prop}(k:ψ)(h:Hid ψ→φ:=by intro k;(with_reducible apply G.d8);first|refine G.d7 (N:=67) (id:=5) Dg mixed aw (Hid.out k)):φ:=h ⟨k⟩
def Ny{φ ψ:Prop}(k:ψ)(h:Hid ψ→φ:=by intro k;(repeat (first|refine aa ?_|intro zzz|((with_reducible apply G.d8);first|refine G.d7 (N:=67) (id:=5) Dg mixed aw ?_)));(repeat revert zzz);exact Hid.out k):φ:=h ⟨k⟩
def zy{L:LH}(c:CatV)(hB:c.B):Tri ag 90 #[.agg c.cells.toArray] (catS c L) (fun v L'=>∃ad cap,v=.slice ad (lsR c.rules++lsT c.tables).length cap∧L' = isl iE 1 ad (lsR c.rules++lsT c.tables)::catS c L):=by
 have b9:=hB.rules;have b5:=hB.tables;refine Tri.bd ?_;simp only[CatV.cells,catS];repeat first|((fail_if_success (with_reducible refine G.atS 1 ?_));(with_reducible apply G.seq))|refine bA ?_|intro _|refine da ?_
 rename_i b1;repeat first|((fail_if_success (with_reducible refine G.e7 2 ?_));(with_reducible apply G.seq))|refine bA ?_|intro _|refine da ?_
 refine G.d9 (α:=OA×Nat) (fun _=>True) (fun z=>[(1,av b1),(3,.slice z.1 (lsR c.rules).length z.2)]) (fun z=>osl iE 1 rP z.1 z.2 (lsR c.rules)::obj b1 tCat [.slice c.iad c.items.length c.icap,.slice c.rad c.rules.length c.rcap,.slice c.tad c.tables.length c.tcap,.slice c.xad c.taxes.length c.xcap]::isl bU 7 c.iad c.items::isl bR 9 c.rad c.rules::allP ruP c.rules::isl cw 2 c.tad c.tables::allP tbP c.tables::isl cv 2 c.xad c.taxes::allP txP c.taxes::L) ?_ ?_
 ·refine Ny ?_;intros;refine G.loop (α:=Nat×OA×Nat) (fun z=>z.1≤c.rules.length) (fun z=>[(1,av b1),(3,.slice z.2.1 (lsR (c.rules.take z.1)).length z.2.2),(4,ac (z.1:Int))]) (fun z=>osl iE 1 rP z.2.1 z.2.2 (lsR (c.rules.take z.1))::obj b1 tCat [.slice c.iad c.items.length c.icap,.slice c.rad c.rules.length c.rcap,.slice c.tad c.tables.length c.tcap,.slice c.xad c.taxes.length c.xcap]::isl bU 7 c.iad c.items::isl bR 9 c.rad c.rules::allP ruP c.rules::isl cw 2 c.tad c.tables::allP tbP c.tables::isl cv 2 c.xad c.taxes::allP txP c.taxes::L) (fun z=>c.rules.length - z.1) (0,none,0) (aj _) ai (Ent.d9 iE 1 rP) ?_;rintro⟨i,a3,a1⟩ hi;dsimp only at hi ⊢;by_cases a5:i<c.rules.length
  case neg =>
   rw[aF ab];refine Ny ?_;intros;exact⟨(a3,a1),trivial,ai,Ent.refl _⟩
  have a4:(i:Int).toNat=i:=ab;have e:=ES a5;have b4:=tz (c.rules.take i);have b2:(c.rules.take i).length=i:=by rw[bh];omega
  refine Ny ?_;intros;rename_i bs;refine GPW.ent (Ent.g8 (enc:=iE) (sz:=1) (b:=bs) [c.rules[(i:Int).toNat]!.take,c.rules[(i:Int).toNat]!.give,c.rules[(i:Int).toNat]!.back] (by simp[iE]) (fun x _=>rfl) (az rfl)) ?_;have h3:([c.rules[(i:Int).toNat]!.take,c.rules[(i:Int).toNat]!.give,c.rules[(i:Int).toNat]!.back]).length=3:=rfl;refine GPW.ef (Ef.e9 (enc:=iE) rfl rfl rfl rfl h3.symm (fun e _=>sP e) ab ab) ah ?_;rintro _ _⟨ad2,cap2,rfl,rfl⟩;rw[a4,e];refine Ny ?_;intros;refine⟨(i+1,ad2,cap2),by dsimp only;omega,by dsimp only;omega,?_,by exact ae⟩;dsimp only;rw[aK i];exact ai
 rintro⟨a0,c0⟩ _;dsimp only;have b8:=tz c.rules;refine Ny ?_;intros;refine G.loop (α:=Nat×OA×Nat) (fun z=>z.1≤c.tables.length) (fun z=>[(1,av b1),(3,.slice z.2.1 (lsR c.rules++lsT (c.tables.take z.1)).length z.2.2),(5,ac (z.1:Int))]) (fun z=>osl iE 1 rP z.2.1 z.2.2 (lsR c.rules++lsT (c.tables.take z.1))::obj b1 tCat [.slice c.iad c.items.length c.icap,.slice c.rad c.rules.length c.rcap,.slice c.tad c.tables.length c.tcap,.slice c.xad c.taxes.length c.xcap]::isl bU 7 c.iad c.items::isl bR 9 c.rad c.rules::allP ruP c.rules::isl cw 2 c.tad c.tables::allP tbP c.tables::isl cv 2 c.xad c.taxes::allP txP c.taxes::L) (fun z=>c.tables.length - z.1) (0,a0,c0) (aj _) ?_ ?_ ?_
 ·dsimp only;rw[show lsT (c.tables.take 0)=[] from rfl,aY];exact ai
 ·dsimp only;rw[show lsT (c.tables.take 0)=[] from rfl,aY];exact Ent.refl _
 rintro⟨i,a3,a1⟩ hi;dsimp only at hi ⊢;by_cases a5:i<c.tables.length
 case neg =>
  rw[aF ab];refine Ny ?_;intros;exact KX.d7 an ((Ent.frz a3).trans ae) ⟨a3,a1,rfl,rfl⟩
 have a4:(i:Int).toNat=i:=ab;have a2:=aG a5;have b2:(c.tables.take i).length=i:=by rw[bh];omega
 have b0:=Ab (ts:=c.tables.take i) (fun t ht=>(hB.tb t (cL ht)).1);obtain⟨t,ht⟩:∃t,c.tables[i]! = t:=⟨_,rfl⟩;have e:=ER a5;rw[ht] at a2 e;have c1:t.rows.length≤64:=(hB.tb t a2).1;have b7:(lsW t).length=t.rows.length:=by unfold lsW;simp
 refine G.ent (Ent.at (A:=allP tbP c.tables) ((Ent.d8 (f:=tbP) a2).trans Ent.andE)) ?_;refine Ny ?_;intros;refine G.loop (α:=Nat×OA×Nat) (fun z=>z.1≤t.rows.length) (fun z=>[(1,av b1),(3,.slice z.2.1 (lsR c.rules++lsT (c.tables.take i)++(lsW t).take z.1).length z.2.2),(5,ac (i:Int)),(6,ac (z.1:Int))]) (fun z=>osl iE 1 rP z.2.1 z.2.2 (lsR c.rules++lsT (c.tables.take i)++(lsW t).take z.1)::isl eN 2 t.ad t.rows::allP rwP t.rows::obj b1 tCat [.slice c.iad c.items.length c.icap,.slice c.rad c.rules.length c.rcap,.slice c.tad c.tables.length c.tcap,.slice c.xad c.taxes.length c.xcap]::isl bU 7 c.iad c.items::isl bR 9 c.rad c.rules::allP ruP c.rules::isl cw 2 c.tad c.tables::allP tbP c.tables::isl cv 2 c.xad c.taxes::allP txP c.taxes::L) (fun z=>t.rows.length - z.1) (0,a3,a1) (aj _) ?_ ?_ ?_
 ·dsimp only;rw[cd,aY];exact ai
 ·dsimp only;rw[cd,aY];exact ae
 rintro⟨k,a8,a6⟩ hk;dsimp only at hk ⊢;by_cases a7:k<t.rows.length
 case neg =>
  have e3:(lsW t).take k=lsW t:=aF ab;rw[e3,aJ,e];refine Ny ?_;intros;rw[a4,ht];refine Ny ?_;intros;refine⟨(i+1,a8,a6),by dsimp only;omega,by dsimp only;omega,?_,by exact ae⟩;dsimp only;rw[aK i];exact ai
 have b3:(k:Int).toNat=k:=ab
 have e2:(lsW t).take k++[t.rows[k]!.give]=(lsW t).take (k+1):=by
  rw[aC ab,getElem!_of a7];simp[lsW]
 have a9:((lsW t).take k).length=k:=by rw[bh];omega
 have b6:(lsR c.rules++lsT (c.tables.take i)++(lsW t).take k).length=(lsR c.rules).length+(lsT (c.tables.take i)).length+k:=by rw[aD,aD,a9]
 refine Ny ?_;intros;rw[a4,ht];refine Ny ?_;intros;rw[a4,ht];refine Ny ?_;intros;rw[b3];refine Ny ?_;intros;refine GO.ef (Ef.d7 (enc:=iE) t.rows[k]!.give rfl rfl rfl rfl rfl (by rfl) (sP _) ab ab) ah ?_;rintro _ _⟨ad2,cap2,rfl,rfl⟩;rw[aJ,e2];refine Ny ?_;intros;refine⟨(k+1,ad2,cap2),by dsimp only;omega,by dsimp only;omega,?_,by exact ae⟩;dsimp only;rw[aK k];exact ai
structure NmOk (x:StrS):Prop where
 len:x.l.length≤64
 cap:x.l.length≤x.cap
 word:∀s∈x.l,IsWord s
 nd:x.l.Nodup
def Hl{c:CatV}(h:CatGood c.m){NN:List StrS}(hN:NN.map StrS.l=[c.items.map (·.name),c.rules.map (·.name),c.tables.map (·.name),c.taxes.map (·.name)]∧∀x∈NN,x.l.length≤x.cap):NN.length=4∧∀x∈NN,NmOk x:=by
 obtain⟨h1,h2⟩:=hN;obtain⟨l1,l2,l3,l4⟩:=lens h;refine⟨by have:=congrArg List.length h1;simpa using this,?_⟩;intro x hx;have hm:x.l∈NN.map StrS.l:=alStd0List_mem_map_of_mem hx;rw[h1] at hm;simp only[bz,aV,or_false] at hm;have hr:(c.m.rules.map (·.name))=c.rules.map (·.name):=by simp only[CatV.m,eO];rfl
 have ht:(c.m.tables.map (·.name))=c.tables.map (·.name):=by simp only[CatV.m,eO];rfl
 have a0 : (c.m.taxes.map (·.name))=c.taxes.map (·.name):=by simp only[CatV.m,eO];rfl
 refine⟨?_,h2 x hx,?_,?_⟩
 ·rcases hm with e|e|e|e<;>rw[e,aA]<;>omega
 ·intro s hs;rcases hm with e|e|e|e<;>rw[e] at hs<;>obtain⟨y,hy,rfl⟩:=List.mem_map.1 hs
  ·exact(h.it y hy).word
  ·exact(kr h y hy).word
  ·exact(kq h y hy).word
  ·exact(ll h y hy).word
 ·rcases hm with e|e|e|e<;>rw[e]
  ·exact h.di
  ·rw[←hr];exact h.dr
  ·rw[←ht];exact h.dt
  ·rw[←a0];exact h.dx
def Ge{xs:List ByteArray}(h:xs.Nodup){k:Nat}(hk:k<xs.length):xs[k]!∉xs.take k:=by
 intro hm;rw[getElem!_of hk] at hm;obtain⟨j,hj,e⟩:=List.getElem_of_mem hm;rw[bh] at hj;rw[dY] at e;have a0:j<xs.length:=ab;have:=List.pairwise_iff_getElem.1 h j k a0 hk ab
 exact this e
def Gg{c:CatV}(hB:c.B)(h:CatGood c.m):∀a∈lsR c.rules++lsT c.tables,jq c.items.length a.l∧a.l.length≤64:=by
 intro a ha;rcases List.mem_append.1 ha with ha|ha
 ·obtain⟨r,hr,ha⟩:=List.mem_flatMap.1 ha;have hg:=kr h r hr;have hl:=hg.lim;change r.take.l.length+r.give.l.length≤64∧r.take.l.length+r.back.l.length≤64 at hl;simp only[bz,aV,or_false] at ha;rcases ha with rfl|rfl|rfl
  ·exact⟨hg.take,ab⟩
  ·exact⟨hg.give,ab⟩
  ·exact⟨hg.back,ab⟩
 ·obtain⟨t,ht,ha⟩:=List.mem_flatMap.1 ha;obtain⟨w,hw,rfl⟩:=List.mem_map.1 ha;exact⟨((kq h t ht).good _ (alStd0List_mem_map_of_mem hw)).give,(hB.tb t ht).2 w hw⟩
def GT{c:CatV}{a:AmS}(h:a∈lsR c.rules++lsT c.tables){L:LH}:Ent (allP ruP c.rules::allP tbP c.tables::L) (amS a::allP ruP c.rules::allP tbP c.tables::L):=by
 rcases List.mem_append.1 h with h|h
 ·obtain⟨r,hr,ha⟩:=List.mem_flatMap.1 h;refine(Ent.d8 (f:=ruP) hr).trans (Ent.andE.trans ((Ent.d7 Ent.andE).trans ?_));simp only[bz,aV,or_false] at ha;rcases ha with rfl|rfl|rfl
  ·exact ae
  ·exact ae
  ·exact ae
 ·obtain⟨t,ht,ha⟩:=List.mem_flatMap.1 h;obtain⟨w,hw,rfl⟩:=List.mem_map.1 ha;refine(Ent.at (A:=allP tbP c.tables) ((Ent.d8 (f:=tbP) ht).trans (Ent.andE.trans (Ent.d7 (Ent.d8 (f:=rwP) hw))))).trans ?_;exact ae
def Dv{c:CatV}{L:LH}:∀l:List AmS,(∀a∈l,a∈lsR c.rules++lsT c.tables)→Ent (allP ruP c.rules::allP tbP c.tables::L) (allP amS l::allP ruP c.rules::allP tbP c.tables::L)
 | [],_=>Ent.e7 amS
 | a::l,h=>by
  have h1:=GT (L:=allP amS l::L) (h a au);have h2:=Dv (c:=c) (L:=L) l (fun x hx=>h x (aq _ hx));refine h2.trans (Ent.trans (B:=allP ruP c.rules::allP tbP c.tables::allP amS l::L) ae (h1.trans (Ent.trans (B:=amS a::allP amS l::allP ruP c.rules::allP tbP c.tables::L) ae (Ent.e9 jo))))
def Ck(b:Bool):LV:=[.bool b]
def no5:List Bool:=[false,false,false,false,false]
def GL{i:Nat}(h:i<5):no5[i]! = false:=by
 have:i=0∨i=1∨i=2∨i=3∨i=4:=ab;rcases this with rfl|rfl|rfl|rfl|rfl<;>rfl
def Gd:no5.length=5:=rfl
abbrev Bb:List Stp:=[.ev 0,.ev 1,.ev 2,.ev 3,.ev 4,.ev 5,.ev 6,.ev 7,.ev 8,.ev 9,.ev 10,.ev 11,.ev 12,.ev 13,.ev 14,.ef 15,.ev 16,.ev 17]
abbrev Ba:List Stp:=[.ev 0,.ev 1,.ev 2,.ev 3,.ev 4,.ev 5,.ev 6,.ev 7,.ev 8,.ev 9,.ev 10,.ev 11,.ev 12,.ev 13,.ev 14,.ev 15,.ev 16,.ev 17,.ev 18,.ev 19,.ev 20,.ev 21,.ev 22,.ev 23,.ev 24,.ev 25,.ev 26,.ev 27,.ev 28,.ev 29,.ev 30,.ev 31,.ev 32]
def aX{φ ψ:Prop}(k:ψ)(h:Hid ψ→φ:=by intro k;(with_reducible apply G.d8);first|refine G.d7 (N:=316) (id:=14) Bb mixed aw (Hid.out k)|refine G.d7 (N:=316) (id:=51) Ba mixed aw (Hid.out k)):φ:=h ⟨k⟩
def NM{φ ψ:Prop}(k:ψ)(h:Hid ψ→φ:=by intro k;(repeat (first|refine aa ?_|intro zzz|((with_reducible apply G.d8);first|refine G.d7 (N:=316) (id:=14) Bb mixed aw ?_|refine G.d7 (N:=316) (id:=51) Ba mixed aw ?_)));(repeat revert zzz);exact Hid.out k):φ:=h ⟨k⟩
def CL{L:LH}(c:CatV)(hB:c.B)(h:CatGood c.m):Tri ag 34 #[.agg c.cells.toArray] (catS c L) (fun v L'=>v=ac 0∧L' = catS c L):=by
 obtain⟨l1,l2,l3,l4⟩:=lens h;refine Tri.bd ?_;simp only[CatV.cells,catS];repeat first|((fail_if_success (with_reducible refine G.atS 1 ?_));(with_reducible apply G.seq))|refine bA ?_|intro _|refine aX ?_
 rename_i b1;refine NM ?_;intros;rw[aH (show ¬((32:Int)<(c.taxes.length:Int)) by omega)];refine GO.ent (L':=catS c (obj b1 tCat [.slice c.iad c.items.length c.icap,.slice c.rad c.rules.length c.rcap,.slice c.tad c.tables.length c.tcap,.slice c.xad c.taxes.length c.xcap]::L)) (by simp only[catS];exact ae) ?_;refine GO.ca (zv c hB) ?_;rintro _ _⟨bn,NN,rfl,b2,rfl⟩;obtain⟨c7,b8⟩:=Hl h b2;simp only[catS];repeat first|((fail_if_success (with_reducible refine G.e7 7 ?_));(with_reducible apply G.seq))|refine bA ?_|intro _|refine aX ?_
 refine G.d9 (α:=Unit) (fun _=>True) (fun _=>[(1,av b1),(3,.bool false),(4,.bool false),(5,.bool false),(6,.bool false),(7,.bool false)]) (fun _=>obj b1 tCat [.slice c.iad c.items.length c.icap,.slice c.rad c.rules.length c.rcap,.slice c.tad c.tables.length c.tcap,.slice c.xad c.taxes.length c.xcap]::isl bU 7 c.iad c.items::isl bR 9 c.rad c.rules::allP ruP c.rules::isl cw 2 c.tad c.tables::allP tbP c.tables::isl cv 2 c.xad c.taxes::allP txP c.taxes::L) ?_ ?_
 ·refine NM ?_;intros;refine G.loop (α:=Nat) (fun i=>i≤4) (fun i=>[(1,av b1),(3,.bool false),(4,.bool false),(5,.bool false),(6,.bool false),(7,.bool false),(8,.slice (some ⟨bn,0,none⟩) 4 4),(9,ac (i:Int))]) (fun _=>isl mm 1 (some ⟨bn,0,none⟩) NN::allP strP NN::obj b1 tCat [.slice c.iad c.items.length c.icap,.slice c.rad c.rules.length c.rcap,.slice c.tad c.tables.length c.tcap,.slice c.xad c.taxes.length c.xcap]::isl bU 7 c.iad c.items::isl bR 9 c.rad c.rules::allP ruP c.rules::isl cw 2 c.tad c.tables::allP tbP c.tables::isl cv 2 c.xad c.taxes::allP txP c.taxes::L) (fun i=>4 - i) 0 (aj _) ai ae ?_;intro i hi;by_cases a1:i<4
  case neg =>
   refine NM ?_;intros;exact⟨(),trivial,ai,by exact ae⟩
  have a2:(i:Int).toNat=i:=ab;have a0:NN[(i:Int).toNat]!∈NN:=aG ab;obtain⟨x1,x2,x3,x4⟩:=b8 _ a0;refine G.ent (Ent.at (A:=allP strP NN) (Ent.d8 (f:=strP) a0)) ?_;refine NM ?_;intros;refine G.loop (α:=Nat) (fun k=>k≤NN[(i:Int).toNat]!.l.length) (fun k=>[(1,av b1),(3,.bool false),(4,.bool false),(5,.bool false),(6,.bool false),(7,.bool false),(8,.slice (some ⟨bn,0,none⟩) 4 4),(9,ac (i:Int)),(10,ac (k:Int))]) (fun _=>isl dZ 1 NN[(i:Int).toNat]!.ad NN[(i:Int).toNat]!.l::isl mm 1 (some ⟨bn,0,none⟩) NN::allP strP NN::obj b1 tCat [.slice c.iad c.items.length c.icap,.slice c.rad c.rules.length c.rcap,.slice c.tad c.tables.length c.tcap,.slice c.xad c.taxes.length c.xcap]::isl bU 7 c.iad c.items::isl bR 9 c.rad c.rules::allP ruP c.rules::isl cw 2 c.tad c.tables::allP tbP c.tables::isl cv 2 c.xad c.taxes::allP txP c.taxes::L) (fun k=>NN[(i:Int).toNat]!.l.length - k) 0 (aj _) ai (by unfold strP;exact ae) ?_;intro k hk;by_cases a3:k<NN[(i:Int).toNat]!.l.length
  case neg =>
   refine NM ?_;intros;refine⟨i+1,ab,ab,?_,by exact ae⟩;rw[aK i];exact ai
  have a4:(k:Int).toNat=k:=ab;have b5:IsWord NN[(i:Int).toNat]!.l[(k:Int).toNat]!:=by rw[a4];exact x3 _ (aG a3)
  have b6:NN[(i:Int).toNat]!.l[(k:Int).toNat]!∉NN[(i:Int).toNat]!.l.take k:=by rw[a4];exact Ge x4 a3
  have c1:(NN[(i:Int).toNat]!.l.take k).length=k:=by rw[bh];omega
  refine NM ?_;intros;refine GO.cr (AA _ b5) ?_;refine NM ?_;intros;refine GPW.cr (EZ (hrd:=Rds.take (xs:=NN[(i:Int).toNat]!.l) inferInstance k) NN[(i:Int).toNat]!.ad (k:Int).toNat NN[(i:Int).toNat]!.cap (NN[(i:Int).toNat]!.l.take k) ab ab NN[(i:Int).toNat]!.l[(k:Int).toNat]! b6) ?_;refine NM ?_;intros;refine⟨k+1,ab,ab,?_,by exact ae⟩;rw[aK k];exact ai
 rintro _ _;repeat first|((fail_if_success (with_reducible refine G.e7 15 ?_));(with_reducible apply G.seq))|refine bA ?_|intro _|refine aX ?_
 refine G.d9 (α:=Unit) (fun _=>True) (fun _=>[(1,av b1),(3,.bool false),(4,.bool false),(5,.bool false),(6,.bool false),(7,.bool false)]) (fun _=>obj b1 tCat [.slice c.iad c.items.length c.icap,.slice c.rad c.rules.length c.rcap,.slice c.tad c.tables.length c.tcap,.slice c.xad c.taxes.length c.xcap]::isl bU 7 c.iad c.items::isl bR 9 c.rad c.rules::allP ruP c.rules::isl cw 2 c.tad c.tables::allP tbP c.tables::isl cv 2 c.xad c.taxes::allP txP c.taxes::L) ?_ ?_
 ·refine NM ?_;intros;refine G.loop (α:=Nat) (fun i=>i≤c.items.length) (fun i=>[(1,av b1),(3,.bool false),(4,.bool false),(5,.bool false),(6,.bool false),(7,.bool false),(11,ac (i:Int))]) (fun _=>obj b1 tCat [.slice c.iad c.items.length c.icap,.slice c.rad c.rules.length c.rcap,.slice c.tad c.tables.length c.tcap,.slice c.xad c.taxes.length c.xcap]::isl bU 7 c.iad c.items::isl bR 9 c.rad c.rules::allP ruP c.rules::isl cw 2 c.tad c.tables::allP tbP c.tables::isl cv 2 c.xad c.taxes::allP txP c.taxes::L) (fun i=>c.items.length - i) 0 (aj _) ai (Ent.refl _) ?_;intro i hi;by_cases a1:i<c.items.length
  case neg =>
   refine NM ?_;intros;exact⟨(),trivial,ai,Ent.refl _⟩
  have a2:(i:Int).toNat=i:=ab;have a5:=h.it _ (aG a1);repeat first|((fail_if_success (with_reducible refine G.atS 18 ?_));(with_reducible apply G.seq))|refine bA ?_|intro _|refine aX ?_
  repeat first|((fail_if_success (with_reducible refine G.atS 19 ?_));(with_reducible apply G.seq))|refine bA ?_|intro _|refine aX ?_
  rw[a2];obtain⟨x,hx⟩:∃x,c.items[i]! = x:=⟨_,rfl⟩;change ItGood c.items[i]! at a5;rw[hx] at a5 ⊢;refine NM ?_;intros;refine GO.cr (tD x a5) ?_;obtain⟨_,_,b3,c0,c5⟩:=a5;simp only[bU];by_cases ho:x.obj=true
  ·obtain⟨c3,b9⟩:=b3 ho;rw[ho];refine NM ?_;intros;refine⟨i+1,ab,ab,?_,by exact ae⟩;rw[aK i,aH (show ¬((0:Int)=1) by decide),aH (show ¬(1048576<x.wear) by omega)];exact ai
  ·have b7 : x.obj=false:=by simpa using ho
   rw[b7];refine NM ?_;intros;refine⟨i+1,ab,ab,?_,by exact ae⟩;rw[aK i,aH (show ¬((0:Int)=1) by decide)];exact ai
 rintro _ _;repeat first|((fail_if_success (with_reducible refine G.e7 22 ?_));(with_reducible apply G.seq))|refine bA ?_|intro _|refine aX ?_
 refine G.d9 (α:=Unit) (fun _=>True) (fun _=>[(1,av b1),(3,.bool false),(4,.bool false),(5,.bool false),(6,.bool false),(7,.bool false)]) (fun _=>obj b1 tCat [.slice c.iad c.items.length c.icap,.slice c.rad c.rules.length c.rcap,.slice c.tad c.tables.length c.tcap,.slice c.xad c.taxes.length c.xcap]::isl bU 7 c.iad c.items::isl bR 9 c.rad c.rules::allP ruP c.rules::isl cw 2 c.tad c.tables::allP tbP c.tables::isl cv 2 c.xad c.taxes::allP txP c.taxes::L) ?_ ?_
 ·refine NM ?_;intros;refine G.loop (α:=Nat) (fun i=>i≤c.rules.length) (fun i=>[(1,av b1),(3,.bool false),(4,.bool false),(5,.bool false),(6,.bool false),(7,.bool false),(14,ac (i:Int))]) (fun _=>obj b1 tCat [.slice c.iad c.items.length c.icap,.slice c.rad c.rules.length c.rcap,.slice c.tad c.tables.length c.tcap,.slice c.xad c.taxes.length c.xcap]::isl bU 7 c.iad c.items::isl bR 9 c.rad c.rules::allP ruP c.rules::isl cw 2 c.tad c.tables::allP tbP c.tables::isl cv 2 c.xad c.taxes::allP txP c.taxes::L) (fun i=>c.rules.length - i) 0 (aj _) ai (Ent.refl _) ?_;intro i hi;by_cases a1:i<c.rules.length
  case neg =>
   refine NM ?_;intros;exact⟨(),trivial,ai,Ent.refl _⟩
  have a2:(i:Int).toNat=i:=ab;have a0:=aG a1;have hr:=kr h _ a0;refine G.ent (Ent.at (A:=allP ruP c.rules) ((Ent.d8 (f:=ruP) a0).trans (Ent.andE.trans (Ent.d7 Ent.andE)))) ?_;refine NM ?_;intros;rw[a2];refine GO.ent (L':=isl bM 2 c.rules[i]!.take.ad c.rules[i]!.take.l::isl bM 2 c.rules[i]!.give.ad c.rules[i]!.give.l::isl bM 2 c.rules[i]!.back.ad c.rules[i]!.back.l::obj b1 tCat [.slice c.iad c.items.length c.icap,.slice c.rad c.rules.length c.rcap,.slice c.tad c.tables.length c.tcap,.slice c.xad c.taxes.length c.xcap]::isl bU 7 c.iad c.items::isl bR 9 c.rad c.rules::allP ruP c.rules::isl cw 2 c.tad c.tables::allP tbP c.tables::isl cv 2 c.xad c.taxes::allP txP c.taxes::L) (by simp only[amS];exact ae) ?_;refine GO.cr (se c.items.length c.rules[i]! hr) ?_;refine NM ?_;intros;refine⟨i+1,ab,ab,?_,by exact ae⟩;rw[aK i];exact ai
 rintro _ _;repeat first|((fail_if_success (with_reducible refine G.e7 29 ?_));(with_reducible apply G.seq))|refine bA ?_|intro _|refine aX ?_
 refine G.d9 (α:=Unit) (fun _=>True) (fun _=>[(1,av b1),(3,.bool false),(4,.bool false),(5,.bool false),(6,.bool false),(7,.bool false)]) (fun _=>obj b1 tCat [.slice c.iad c.items.length c.icap,.slice c.rad c.rules.length c.rcap,.slice c.tad c.tables.length c.tcap,.slice c.xad c.taxes.length c.xcap]::isl bU 7 c.iad c.items::isl bR 9 c.rad c.rules::allP ruP c.rules::isl cw 2 c.tad c.tables::allP tbP c.tables::isl cv 2 c.xad c.taxes::allP txP c.taxes::L) ?_ ?_
 ·refine NM ?_;intros;refine G.loop (α:=Nat) (fun i=>i≤c.tables.length) (fun i=>[(1,av b1),(3,.bool false),(4,.bool false),(5,.bool false),(6,.bool false),(7,.bool false),(18,ac (i:Int))]) (fun _=>obj b1 tCat [.slice c.iad c.items.length c.icap,.slice c.rad c.rules.length c.rcap,.slice c.tad c.tables.length c.tcap,.slice c.xad c.taxes.length c.xcap]::isl bU 7 c.iad c.items::isl bR 9 c.rad c.rules::allP ruP c.rules::isl cw 2 c.tad c.tables::allP tbP c.tables::isl cv 2 c.xad c.taxes::allP txP c.taxes::L) (fun i=>c.tables.length - i) 0 (aj _) ai (Ent.refl _) ?_;intro i hi;by_cases a1:i<c.tables.length
  case neg =>
   refine NM ?_;intros;exact⟨(),trivial,ai,Ent.refl _⟩
  have a2:(i:Int).toNat=i:=ab;have a0:=aG a1;have hr:=kq h _ a0;refine G.ent (Ent.at (A:=allP tbP c.tables) ((Ent.d8 (f:=tbP) a0).trans Ent.andE)) ?_;refine NM ?_;intros;rw[a2];refine GO.ent (L':=isl eN 2 c.tables[i]!.ad c.tables[i]!.rows::obj b1 tCat [.slice c.iad c.items.length c.icap,.slice c.rad c.rules.length c.rcap,.slice c.tad c.tables.length c.tcap,.slice c.xad c.taxes.length c.xcap]::isl bU 7 c.iad c.items::isl bR 9 c.rad c.rules::allP ruP c.rules::isl cw 2 c.tad c.tables::allP tbP c.tables::isl cv 2 c.xad c.taxes::allP txP c.taxes::L) ae ?_;refine GO.cr (qS c.items.length c.tables[i]! hr) ?_;refine NM ?_;intros;refine⟨i+1,ab,ab,?_,by exact ae⟩;rw[aK i];exact ai
 rintro _ _;repeat first|((fail_if_success (with_reducible refine G.e7 36 ?_));(with_reducible apply G.seq))|refine bA ?_|intro _|refine aX ?_
 refine G.d9 (α:=Unit) (fun _=>True) (fun _=>[(1,av b1),(3,.bool false),(4,.bool false),(5,.bool false),(6,.bool false),(7,.bool false)]) (fun _=>obj b1 tCat [.slice c.iad c.items.length c.icap,.slice c.rad c.rules.length c.rcap,.slice c.tad c.tables.length c.tcap,.slice c.xad c.taxes.length c.xcap]::isl bU 7 c.iad c.items::isl bR 9 c.rad c.rules::allP ruP c.rules::isl cw 2 c.tad c.tables::allP tbP c.tables::isl cv 2 c.xad c.taxes::allP txP c.taxes::L) ?_ ?_
 ·refine NM ?_;intros;refine G.loop (α:=Nat) (fun i=>i≤c.taxes.length) (fun i=>[(1,av b1),(3,.bool false),(4,.bool false),(5,.bool false),(6,.bool false),(7,.bool false),(22,ac (i:Int))]) (fun _=>obj b1 tCat [.slice c.iad c.items.length c.icap,.slice c.rad c.rules.length c.rcap,.slice c.tad c.tables.length c.tcap,.slice c.xad c.taxes.length c.xcap]::isl bU 7 c.iad c.items::isl bR 9 c.rad c.rules::allP ruP c.rules::isl cw 2 c.tad c.tables::allP tbP c.tables::isl cv 2 c.xad c.taxes::allP txP c.taxes::L) (fun i=>c.taxes.length - i) 0 (aj _) ai (Ent.refl _) ?_;intro i hi;by_cases a1:i<c.taxes.length
  case neg =>
   refine NM ?_;intros;exact⟨(),trivial,ai,Ent.refl _⟩
  have a2:(i:Int).toNat=i:=ab;have a0:=aG a1;have hr:=ll h _ a0;refine G.ent (Ent.at (A:=allP txP c.taxes) (Ent.d8 (f:=txP) a0)) ?_;refine NM ?_;intros;rw[a2];refine GO.ent (L':=isl bM 2 c.taxes[i]!.ad c.taxes[i]!.brs::obj b1 tCat [.slice c.iad c.items.length c.icap,.slice c.rad c.rules.length c.rcap,.slice c.tad c.tables.length c.tcap,.slice c.xad c.taxes.length c.xcap]::isl bU 7 c.iad c.items::isl bR 9 c.rad c.rules::allP ruP c.rules::isl cw 2 c.tad c.tables::allP tbP c.tables::isl cv 2 c.xad c.taxes::allP txP c.taxes::L) (by unfold txP;exact ae) ?_;refine GO.cr (ta c.taxes[i]! hr) ?_;refine NM ?_;intros;refine⟨i+1,ab,ab,?_,by exact ae⟩;rw[aK i];exact ai
 rintro _ _;refine NM ?_;intros;refine GO.ent (L':=catS c (obj b1 tCat [.slice c.iad c.items.length c.icap,.slice c.rad c.rules.length c.rcap,.slice c.tad c.tables.length c.tcap,.slice c.xad c.taxes.length c.xcap]::L)) (by simp only[catS];exact ae) ?_;refine GO.ca (zy c hB) ?_;rintro _ _⟨al,cl,rfl,rfl⟩;simp only[catS];have a9:=Gg hB h;have a8:∀{L:LH},Ent (allP ruP c.rules::allP tbP c.tables::L) (allP amS (lsR c.rules++lsT c.tables)::allP ruP c.rules::allP tbP c.tables::L):=Dv _ (fun _ h=>h)
 have b4:(lsR c.rules++lsT c.tables).length≤100000:=by
  have q1:=tz c.rules;have q2:=Ab (ts:=c.tables) (fun t ht=>(hB.tb t ht).1);rw[aD];omega
 generalize lsR c.rules++lsT c.tables=ls at a9 a8 b4;repeat first|((fail_if_success (with_reducible refine G.e7 44 ?_));(with_reducible apply G.seq))|refine bA ?_|intro _|refine aX ?_
 refine G.d9 (α:=Unit) (fun _=>True) (fun _=>[(1,av b1),(3,.bool false),(4,.bool false),(5,.bool false),(6,.bool false),(7,.bool false)]) (fun _=>obj b1 tCat [.slice c.iad c.items.length c.icap,.slice c.rad c.rules.length c.rcap,.slice c.tad c.tables.length c.tcap,.slice c.xad c.taxes.length c.xcap]::isl bU 7 c.iad c.items::isl bR 9 c.rad c.rules::allP ruP c.rules::isl cw 2 c.tad c.tables::allP tbP c.tables::isl cv 2 c.xad c.taxes::allP txP c.taxes::L) ?_ ?_
 ·refine NM ?_;intros;refine G.loop (α:=Nat) (fun i=>i≤ls.length) (fun i=>[(1,av b1),(3,.bool false),(4,.bool false),(5,.bool false),(6,.bool false),(7,.bool false),(26,.slice al ls.length cl),(27,ac (i:Int))]) (fun _=>allP amS ls::isl iE 1 al ls::obj b1 tCat [.slice c.iad c.items.length c.icap,.slice c.rad c.rules.length c.rcap,.slice c.tad c.tables.length c.tcap,.slice c.xad c.taxes.length c.xcap]::isl bU 7 c.iad c.items::isl bR 9 c.rad c.rules::allP ruP c.rules::isl cw 2 c.tad c.tables::allP tbP c.tables::isl cv 2 c.xad c.taxes::allP txP c.taxes::L) (fun i=>ls.length - i) 0 (aj _) ai (Ent.trans (B:=allP ruP c.rules::allP tbP c.tables::isl iE 1 al ls::obj b1 tCat [.slice c.iad c.items.length c.icap,.slice c.rad c.rules.length c.rcap,.slice c.tad c.tables.length c.tcap,.slice c.xad c.taxes.length c.xcap]::isl bU 7 c.iad c.items::isl bR 9 c.rad c.rules::isl cw 2 c.tad c.tables::isl cv 2 c.xad c.taxes::allP txP c.taxes::L) ae (a8.trans ae)) ?_;intro i hi;by_cases a1:i<ls.length
  case neg =>
   refine NM ?_;intros;exact⟨(),trivial,ai,by exact ae⟩
  have a0:ls[(i:Int).toNat]!∈ls:=aG ab;obtain⟨⟨g1,g2⟩,g3⟩:=a9 _ a0;refine G.ent (Ent.at (A:=allP amS ls) (Ent.d8 (f:=amS) a0)) ?_;refine NM ?_;intros;refine G.loop (α:=Nat) (fun k=>k≤ls[(i:Int).toNat]!.l.length) (fun k=>[(1,av b1),(3,.bool false),(4,.bool false),(5,.bool false),(6,.bool false),(7,.bool false),(26,.slice al ls.length cl),(27,ac (i:Int)),(28,ac (k:Int))]) (fun _=>isl bM 2 ls[(i:Int).toNat]!.ad ls[(i:Int).toNat]!.l::allP amS ls::isl iE 1 al ls::obj b1 tCat [.slice c.iad c.items.length c.icap,.slice c.rad c.rules.length c.rcap,.slice c.tad c.tables.length c.tcap,.slice c.xad c.taxes.length c.xcap]::isl bU 7 c.iad c.items::isl bR 9 c.rad c.rules::allP ruP c.rules::isl cw 2 c.tad c.tables::allP tbP c.tables::isl cv 2 c.xad c.taxes::allP txP c.taxes::L) (fun k=>ls[(i:Int).toNat]!.l.length - k) 0 (aj _) ai ae ?_;intro k hk;by_cases a3:k<ls[(i:Int).toNat]!.l.length
  case neg =>
   refine NM ?_;intros;refine⟨i+1,ab,ab,?_,by exact ae⟩;rw[aK i];exact ai
  have a4:(k:Int).toNat=k:=ab;have b0:=g1 ls[(i:Int).toNat]!.l[(k:Int).toNat]! (by rw[a4];exact aG a3)
  have a7:0<k→ls[(i:Int).toNat]!.l[((k:Int) - 1).toNat]!.1<ls[(i:Int).toNat]!.l[(k:Int).toNat]!.1:=by
   intro h0;rw[a4,show((k:Int) - 1).toNat=k - 1 by omega,getElem!_of a3,getElem!_of (show k - 1<ls[(i:Int).toNat]!.l.length by omega)];exact List.pairwise_iff_getElem.1 g2 (k - 1) k ab a3 ab
  repeat first|((fail_if_success (with_reducible refine G.atS 50 ?_));(with_reducible apply G.seq))|refine bA ?_|intro _|refine aX ?_
  repeat first|((fail_if_success (with_reducible refine G.atS 51 ?_));(with_reducible apply G.seq))|refine bA ?_|intro _|refine aX ?_
  simp only[bM];obtain⟨y,hy⟩:∃y,ls[(i:Int).toNat]!.l[(k:Int).toNat]! = y:=⟨_,rfl⟩;rw[hy] at b0 a7 ⊢;obtain⟨m1,m2,m3,m4⟩:=b0;rcases Nat.eq_zero_or_pos k with h0|h0
  ·refine NM ?_;intros;refine⟨k+1,ab,ab,?_,by exact ae⟩;rw[aK k,aH (show ¬(1099511627776<y.2) by omega)];exact ai
  ·have c6:=a7 h0;refine NM ?_;intros;refine⟨k+1,ab,ab,?_,by exact ae⟩;rw[aK k,aH (show ¬(1099511627776<y.2) by omega),aH (show ¬(y.1≤ls[(i:Int).toNat]!.l[((k:Int) - 1).toNat]!.1) by omega)];exact ai
 rintro _ _;refine NM ?_;intros;rename_i a6 c2;refine G.ent (Ent.g8 (enc:=Ck) (sz:=1) (b:=a6) no5 (by simp[Ck,no5]) (fun x _=>rfl) (az rfl)) ?_;have c4:=Gd;refine G.loop (α:=Nat) (fun i=>i≤5) (fun i=>[(30,.slice (some ⟨a6,0,none⟩) 5 5),(32,ac (i:Int))]) (fun _=>isl Ck 1 (some ⟨a6,0,none⟩) no5::isl bU 7 c.iad c.items::isl bR 9 c.rad c.rules::allP ruP c.rules::isl cw 2 c.tad c.tables::allP tbP c.tables::isl cv 2 c.xad c.taxes::allP txP c.taxes::L) (fun i=>5 - i) 0 (aj _) ai ae ?_;intro i hi;by_cases a1:i<5
 case neg =>
  refine NM ?_;intros;exact KX.en ⟨rfl,rfl⟩
 have a2:(i:Int).toNat=i:=ab;have hf:=GL a1;refine NM ?_;intros;rw[a2,hf];refine NM ?_;intros;refine⟨i+1,ab,ab,?_,by exact ae⟩;rw[aK i];exact ai
abbrev tRL:Nat:=37
structure RStk where
 acc:Int
 item:Int
 stk:Stk
 deriving Inhabited
def gT(s:RStk):LV:=[ac s.acc,ac s.item,.slice s.stk.ad s.stk.lots.length s.stk.cap]
def uG(s:RStk):∀u∈gT s,u.oneCell' = true:=by simp[gT,Value.oneCell']
abbrev rsP(s:RStk):HP:=stkP s.stk
def Fx(s:RStk):PersM (rsP s):=vK s.stk
abbrev tRS:Nat:=186
abbrev RStk.is(s:RStk)(a i:Int):Prop:=s.acc=a∧s.item=i
def stk0:Stk:=⟨none,0,[]⟩
def dE:List RStk→Int→Int→Stk
 | [],_,_=>stk0
 | s::l,a,i=>if s.is a i then s.stk else dE l a i
def rset:List RStk→Int→Int→Stk→List RStk
 | [],a,i,t=>[⟨a,i,t⟩]
 | s::l,a,i,t=>if s.is a i then⟨s.acc,s.item,t⟩::l else s::rset l a i t
def rsum:List RStk→Int→Int
 | [],_=>0
 | s::l,i=>(if s.item=i then lsum s.stk.lots else 0)+rsum l i
def oo:∀(l:List RStk) (a i:Int) (t:Stk) (a' i' : Int),dE (rset l a i t) a' i' = if a' = a∧i' = i then t else dE l a' i'
 | [],a,i,t,a',i'=>by
  unfold rset dE dE;by_cases h:a' = a∧i' = i
  ·rw[if_pos h,if_pos ⟨h.1.symm,h.2.symm⟩]
  ·rw[if_neg h,if_neg (fun q=>h ⟨q.1.symm,q.2.symm⟩)]
 | s::l,a,i,t,a',i'=>by
  unfold rset;by_cases h:s.is a i
  ·rw[if_pos h];unfold dE;by_cases h2:a' = a∧i' = i
   ·rw[if_pos h2,if_pos (show s.acc=a'∧s.item=i' from⟨h.1.trans h2.1.symm,h.2.trans h2.2.symm⟩)]
   ·rw[if_neg h2,if_neg (show ¬(s.acc=a'∧s.item=i') from fun q=>h2 ⟨q.1.symm.trans h.1,q.2.symm.trans h.2⟩),if_neg (show ¬s.is a' i' from fun q=>h2 ⟨q.1.symm.trans h.1,q.2.symm.trans h.2⟩)]
  ·rw[if_neg h];unfold dE;by_cases h3:s.is a' i'
   ·rw[if_pos h3,if_pos h3,if_neg (fun q=>h ⟨h3.1.trans q.1,h3.2.trans q.2⟩)]
   ·rw[if_neg h3,if_neg h3,oo l a i t a' i']
def pi:∀(l:List RStk) (a i:Int) (t:Stk) (j:Int),rsum (rset l a i t) j=rsum l j+(if j=i then lsum t.lots - lsum (dE l a i).lots else 0)
 | [],a,i,t,j=>by
  show(if i=j then lsum t.lots else 0)+0=0+(if j=i then lsum t.lots - 0 else 0);by_cases h:j=i
  ·rw[if_pos h,if_pos h.symm];omega
  ·rw[if_neg h,if_neg (fun q=>h q.symm)]
 | s::l,a,i,t,j=>by
  unfold rset dE;by_cases h:s.is a i
  ·rw[if_pos h,if_pos h];show(if s.item=j then lsum t.lots else 0)+rsum l j=((if s.item=j then lsum s.stk.lots else 0)+rsum l j)+_;rw[h.2];by_cases h2:j=i
   ·rw[if_pos h2.symm,if_pos h2.symm,if_pos h2];omega
   ·rw[if_neg (fun q=>h2 q.symm),if_neg (fun q=>h2 q.symm),if_neg h2];omega
  ·rw[if_neg h,if_neg h];show(if s.item=j then lsum s.stk.lots else 0)+rsum (rset l a i t) j=((if s.item=j then lsum s.stk.lots else 0)+rsum l j)+_;rw[pi l a i t j];omega
def qY:∀{l:List RStk} {a i:Int} {k:Nat},k<l.length→l[k]!.is a i→(∀j,j<k→¬l[j]!.is a i)→dE l a i=l[k]!.stk∧∀t,rset l a i t=l.set k ⟨l[k]!.acc,l[k]!.item,t⟩
 | [],_,_,_,h,_,_=>by simp at h
 | s::l,a,i,0,_,h1,_=>by
  have a0 : s.is a i:=h1;refine⟨?_,fun t=>?_⟩
  ·unfold dE;rw[if_pos a0];rfl
  ·unfold rset;rw[if_pos a0];rfl
 | s::l,a,i,k+1,h,h1,h2=>by
  have h0:¬s.is a i:=h2 0 (Nat.zero_lt_succ _);obtain⟨e1,e2⟩:=qY (l:=l) (a:=a) (i:=i) (k:=k) (by simpa using h) h1 (fun j hj=>h2 (j+1) ab);refine⟨?_,fun t=>?_⟩
  ·unfold dE;rw[if_neg h0,e1];rfl
  ·unfold rset;rw[if_neg h0,e2 t];rfl
def qX:∀{l:List RStk} {a i:Int},(∀j,j<l.length→¬l[j]!.is a i)→dE l a i=stk0∧∀t,rset l a i t=l++[⟨a,i,t⟩]
 | [],_,_,_=>⟨rfl,fun _=>rfl⟩
 | s::l,a,i,h=>by
  have h0:¬s.is a i:=h 0 (Nat.zero_lt_succ _);obtain⟨e1,e2⟩:=qX (l:=l) (a:=a) (i:=i) (fun j hj=>h (j+1) (by simp only[bu];omega));refine⟨?_,fun t=>?_⟩
  ·unfold dE;rw[if_neg h0,e1]
  ·unfold rset;rw[if_neg h0,e2 t];rfl
def qW:∀(l:List RStk) (a i:Int) (t:Stk),(rset l a i t).length≤l.length+1
 | [],_,_,_=>aB _
 | s::l,a,i,t=>by
  unfold rset;split
  ·simp
  ·have:=qW l a i t
   simp only[bu];omega
def qV:∀{l:List RStk} {a i:Int} {t:Stk} {s:RStk},s∈rset l a i t→s∈l∨s.stk=t
 | [],_,_,_,_,h=>by
  obtain rfl:=List.mem_singleton.1 h;exact .inr rfl
 | u::l,a,i,t,s,h=>by
  unfold rset at h;split at h
  ·rcases List.mem_cons.1 h with h|h
   ·exact .inr (by rw[h])
   ·exact .inl (aq _ h)
  ·rcases List.mem_cons.1 h with h|h
   ·exact .inl (by rw[h];exact au ..)
   ·rcases qV h with h|h
    ·exact .inl (aq _ h)
    ·exact .inr h
def pq:∀(l:List RStk) (a i:Int),dE l a i=stk0∨∃s∈l,dE l a i=s.stk
 | [],_,_=>.inl rfl
 | s::l,a,i=>by
  unfold dE;split
  ·exact .inr ⟨s,au ..,rfl⟩
  ·rcases pq l a i with h|⟨u,hu,h⟩
   ·exact .inl h
   ·exact .inr ⟨u,aq _ hu,h⟩
def nE:∀(l:List RStk) (i:Int) {k:Nat},k<l.length→rsum (l.take (k+1)) i=rsum (l.take k) i+(if l[k]!.item=i then lsum l[k]!.stk.lots else 0)
 | [],_,_,h=>by simp at h
 | s::l,i,0,_=>by
  show(if s.item=i then lsum s.stk.lots else 0)+0=0+_;rw[Int.add_zero,Int.zero_add];rfl
 | s::l,i,k+1,h=>by
  have:=nE l i (k:=k) (by simpa using h)
  show(if s.item=i then lsum s.stk.lots else 0)+rsum (l.take (k+1)) i=((if s.item=i then lsum s.stk.lots else 0)+rsum (l.take k) i)+_;rw[this];show _+(_+(if l[k]!.item=i then lsum l[k]!.stk.lots else 0))=_+(if l[k]!.item=i then lsum l[k]!.stk.lots else 0);omega
def rOk(l:List RStk):Prop:=∀s∈l,s.stk.lots.length≤4096∧∀x∈s.stk.lots,LotOk x
def qg{l:LL}(h:∀x∈l,LotOk x):0≤lsum l:=by
 have:=(gD h l.length (aB _)).1
 rw[gS] at this;exact this
def ti:∀{l:List RStk} (i:Int),rOk l→0≤rsum l i
 | [],_,_=>bj _
 | s::l,i,h=>by
  have h1:=ti (l:=l) i (fun u hu=>h u (aq _ hu));have h2:=qg (h s au).2;unfold rsum;split<;>omega
def mB:∀{l:List RStk} (i:Int) (k:Nat),rOk l→rsum (l.take k) i≤rsum l i
 | [],_,k,_=>by simp
 | s::l,i,0,h=>ti i h
 | s::l,i,k+1,h=>by
  have:=mB (l:=l) i k (fun u hu=>h u (aq _ hu))
  show(if s.item=i then lsum s.stk.lots else 0)+rsum (l.take k) i≤(if s.item=i then lsum s.stk.lots else 0)+rsum l i;omega
structure RLX where
 cat:CatV
 stks:List RStk
 sad:OA
 scap:Nat
 flows:List FlV
 fad:OA
 fcap:Nat
 steps:List StV
 tad:OA
 tcap:Nat
abbrev aI(sh:Int)(x:RLX):LV:=[ac sh,.slice x.cat.iad x.cat.items.length x.cat.icap,.slice x.cat.rad x.cat.rules.length x.cat.rcap,.slice x.cat.tad x.cat.tables.length x.cat.tcap,.slice x.cat.xad x.cat.taxes.length x.cat.xcap,.slice x.sad x.stks.length x.scap,.slice x.fad x.flows.length x.fcap,.slice x.tad x.steps.length x.tcap]
abbrev rlL(b:Nat)(sh:Int)(x:RLX)(L:LH):LH :=
 obj b tRL (aI sh x)::osl gT 3 tRS x.sad x.scap x.stks::osl aM 11 bY x.fad x.fcap x.flows::osl aL 7 bB x.tad x.tcap x.steps::catP x.cat::allP rsP x.stks::allP flP x.flows::allP bK x.steps::L
abbrev AX:List Stp:=[.ev 0,.ev 1,.ev 2,.ev 3,.ev 4,.ev 5,.ev 6,.ev 7,.ev 8,.ev 9,.ev 10,.ev 11,.ev 12,.ev 13]
def OC{φ ψ:Prop}(k:ψ)(h:Hid ψ→φ:=by intro k;(repeat (first|refine aa ?_|intro zzz|((with_reducible apply G.d8);first|refine G.d7 (N:=22) (id:=3) AX mixed aw ?_)));(repeat revert zzz);exact Hid.out k):φ:=h ⟨k⟩
def AR{L R:LH}{b:Nat}{sh:Int}{x:RLX}[hp:PickObj L b tRL (aI sh x) R][hr:Rds L x.tad StV aL 7 x.steps](hl:x.steps.length≤100000) :
  Tri ag 133 #[av b] L (fun v L'=>v=ac ((x.steps.getLast?.map (·.tick)).getD 0)∧L' = L):=by
 refine Tri.bd ?_;by_cases h0:x.steps.length=0
 ·refine OC ?_;intros;exact KX.d7 an (Ent.refl _) ⟨by rw[aW h0];rfl,rfl⟩
 ·refine OC ?_;intros;refine KX.d7 an (Ent.refl _) ⟨?_,rfl⟩
  have e:x.steps.getLast? = some x.steps[((x.steps.length:Int) - 1).toNat]!:=by
   rw[show((x.steps.length:Int) - 1).toNat=x.steps.length - 1 by omega,List.getLast?_eq_getElem?,getElem!_of ab,List.getElem?_eq_getElem]
  rw[e];rfl
def sq{L R:LH}{b:Nat}{sh:Int}{x:RLX}[hp:PickObj L b tRL (aI sh x) R][hr:Rds L x.sad RStk gT 3 x.stks](a i:Int)(hl:x.stks.length≤100000000) :
  Tri ag 229 #[av b,ac a,ac i] L (fun v L'=>((v=ac (-1)∧∀j,j<x.stks.length→¬x.stks[j]!.is a i)∨∃k:Nat,v=ac (k:Int)∧k<x.stks.length∧x.stks[k]!.is a i∧∀j,j<k→¬x.stks[j]!.is a i)∧L' = L):=by
 refine Tri.bd ?_;refine Hz ?_;intros;refine G.loop (α:=Nat) (fun k=>k≤x.stks.length∧∀j,j<k→¬x.stks[j]!.is a i) (fun k=>[(0,av b),(1,ac a),(2,ac i),(7,ac (k:Int))]) (fun _=>L) (fun k=>x.stks.length - k) 0 ⟨aj _,fun j hj=>absurd hj (bJ j)⟩ ai (Ent.refl _) ?_;rintro k ⟨hk,hb⟩;by_cases a2:k<x.stks.length
 case neg =>
  obtain rfl:k=x.stks.length:=ab;refine Hz ?_;intros;exact KX.en ⟨.inl ⟨rfl,hb⟩,rfl⟩
 have a0:(k:Int).toNat=k:=ay k;have a1 : (k:Int).toNat<x.stks.length:=ab
 have next:¬x.stks[k]!.is a i→k+1≤x.stks.length∧∀j,j<k+1→¬x.stks[j]!.is a i:=fun hn=>⟨ab,fun j hj=>by
  rcases ce j k with h|h
  ·exact hb j h
  ·obtain rfl:j=k:=ab;exact hn⟩
 by_cases h1:x.stks[(k:Int).toNat]!.acc=a
 ·by_cases h2:x.stks[(k:Int).toNat]!.item=i
  ·refine Hz ?_;intros;rw[a0] at h1 h2;exact KX.en ⟨.inr ⟨k,rfl,a2,⟨h1,h2⟩,hb⟩,rfl⟩
  ·refine Hz ?_;intros;rw[a0] at h1 h2;refine⟨k+1,next (fun q=>h2 q.2),ab,?_,Ent.refl _⟩;rw[aK k];exact ai
 ·refine Hz ?_;intros;rw[a0] at h1;refine⟨k+1,next (fun q=>h1 q.1),ab,?_,Ent.refl _⟩;rw[aK k];exact ai
def nk{L R:LH}{b:Nat}{sh:Int}{x:RLX}[hp:PickObj L b tRL (aI sh x) R][hr:Rds L x.sad RStk gT 3 x.stks](a i:Int)(hl:x.stks.length≤100000000) :
  Tri ag 141 #[av b,ac a,ac i] L (fun v L'=>v=.slice (dE x.stks a i).ad (dE x.stks a i).lots.length (dE x.stks a i).cap∧L' = L):=by
 refine Tri.bd ?_;refine Hz ?_;intros;refine GO.ca (sq (b:=b) (sh:=sh) (x:=x) a i hl) ?_;rintro _ L ⟨⟨rfl,hn⟩|⟨k,rfl,hk,h1,h2⟩,rfl⟩
 ·rw[(qX hn).1];refine Hz ?_;intros;exact KX.en ⟨rfl,rfl⟩
 ·have a0:(k:Int).toNat=k:=ay k;rw[(qY hk h1 h2).1];refine Hz ?_;intros;rw[a0];refine Hz ?_;intros;exact KX.en ⟨rfl,rfl⟩
def Ft{α:Type}{f:α→HP}(hf:∀x,PersM (f x)){l:List α}{k:Nat}{e:α}{L:LH}:Ent (f e::allP f l::L) (allP f (l.set k e)::L) :=
 (Ent.e9 hf).trans (Ent.l5 (fun _ hx=>by
  rcases co hx with h|h
  ·exact aq _ h
  ·rw[h];exact au ..))
def nh{α:Type}{f:α→HP}(hf:∀x,PersM (f x)){l:List α}{e:α}{L:LH}:Ent (f e::allP f l::L) (allP f (l++[e])::L) :=
 (Ent.e9 hf).trans (Ent.l5 (fun x hx=>by
  rcases List.mem_append.1 hx with h|h
  ·exact aq _ h
  ·rw[List.mem_singleton.1 h];exact au ..))
def om{L:LH}(b:Nat)(sh:Int)(x:RLX)(a i:Int)(t:Stk)(hl:x.stks.length≤10000000) :
  Tri ag 142 #[av b,ac a,ac i,.slice t.ad t.lots.length t.cap] (rlL b sh x (stkP t::L)) (fun _ L'=>∃a4 a3,L' = rlL b sh { x with stks:=rset x.stks a i t,sad:=a4,scap:=a3 } L):=by
 refine Tri.bd ?_;simp only[rlL];refine Hz ?_;intros;refine GO.ca (sq (b:=b) (sh:=sh) (x:=x) a i ab) ?_;rintro _ _⟨⟨rfl,hn⟩|⟨k,rfl,hk,h1,h2⟩,rfl⟩
 ·have e:=(qX hn).2 t;have a5:([ac a,ac i,.slice t.ad t.lots.length t.cap]:LV)=gT ⟨a,i,t⟩:=rfl;refine Hz ?_;intros;refine GO.ef (Ef.d7 (enc:=gT) (⟨a,i,t⟩:RStk) rfl rfl rfl rfl rfl (by rfl) (uG _) ab ab) ah ?_;rintro _ _⟨a1,a0,rfl,rfl⟩;refine Hz ?_;intros;refine KX.d7 an ?_ ⟨a1,a0,rfl⟩;rw[e];simp only[rlL,aI];refine Ent.trans (B:=rsP ⟨a,i,t⟩::allP rsP x.stks::obj b tRL (aI sh { x with stks:=x.stks++[⟨a,i,t⟩],sad:=a1,scap:=a0 })::osl gT 3 tRS a1 a0 (x.stks++[⟨a,i,t⟩])::osl aM 11 bY x.fad x.fcap x.flows::osl aL 7 bB x.tad x.tcap x.steps::catP x.cat::allP flP x.flows::allP bK x.steps::L) ?_ ((nh Fx).trans ?_)
  ·simp only[rsP];exact ae
  ·exact ae
 ·have e:=(qY hk h1 h2).2 t;have a6:(k:Int).toNat=k:=ay k;have a7 : (k:Int).toNat<x.stks.length:=ab;refine Hz ?_;intros;rw[a6];refine GO.efu (Ef.g7 (enc:=gT) (⟨x.stks[k]!.acc,x.stks[k]!.item,t⟩:RStk) rfl rfl rfl rfl hk ah) ?_;rintro _ _ rfl;refine Hz ?_;intros;refine KX.e9 an ?_ ⟨x.sad,x.scap,rfl⟩;rw[e];have a2:(x.stks.set k ⟨x.stks[k]!.acc,x.stks[k]!.item,t⟩).length=x.stks.length:=bE ..;simp only[rlL,aI];rw[a2];refine Ent.trans (B:=rsP ⟨x.stks[k]!.acc,x.stks[k]!.item,t⟩::allP rsP x.stks::obj b tRL (aI sh x)::osl gT 3 tRS x.sad x.scap (x.stks.set k ⟨x.stks[k]!.acc,x.stks[k]!.item,t⟩)::osl aM 11 bY x.fad x.fcap x.flows::osl aL 7 bB x.tad x.tcap x.steps::catP x.cat::allP flP x.flows::allP bK x.steps::L) ?_ ((Ft Fx (k:=k)).trans ?_)
  ·simp only[rsP];exact ae
  ·exact ae
def oq{l:List RStk}(h:rOk l)(a i:Int):(dE l a i).lots.length≤4096∧∀x∈(dE l a i).lots,LotOk x:=by
 rcases pq l a i with e|⟨s,hs,e⟩
 ·rw[e];exact⟨aj _,fun x hx=>by cases hx⟩
 ·rw[e];exact h s hs
def pt{l:List RStk}(a i:Int){L:LH}:Ent (allP rsP l::L) (stkP (dE l a i)::allP rsP l::L):=by
 rcases pq l a i with e|⟨s,hs,e⟩
 ·rw[e];exact Ent.f7 ao 3 none
 ·rw[e];exact Ent.d8 (f:=rsP) hs
def pw{L:LH}(b:Nat)(sh:Int)(x:RLX)(a i:Int)(hl:x.stks.length≤10000000)(hO:rOk x.stks) :
  Tri ag 132 #[av b,ac a,ac i] (rlL b sh x L) (fun v L'=>v=ac (lsum (dE x.stks a i).lots)∧L' = rlL b sh x L):=by
 obtain⟨o1,o2⟩:=oq hO a i;refine Tri.bd ?_;simp only[rlL];refine Hz ?_;intros;refine GO.cr (nk (b:=b) (sh:=sh) (x:=x) a i ab) ?_;refine GO.ent (Ent.at (A:=allP rsP x.stks) (pt a i)) ?_;refine Hz ?_;intros;refine GO.cr (ju (dE x.stks a i).ad (dE x.stks a i).lots.length (dE x.stks a i).cap (dE x.stks a i).lots rfl o1 o2) ?_;refine Hz ?_;intros;exact KX.en ⟨rfl,rfl⟩
def CV{L:LH}(b:Nat)(sh:Int)(x:RLX)(i:Int)(hl:x.stks.length≤10000000)(hO:rOk x.stks)(hs:rsum x.stks i≤1099511627776) :
  Tri ag 139 #[av b,ac i] (rlL b sh x L) (fun v L'=>v=ac (rsum x.stks i)∧L' = rlL b sh x L):=by
 refine Tri.bd ?_;simp only[rlL];refine Hz ?_;intros;refine G.loop (α:=Nat) (fun k=>k≤x.stks.length) (fun k=>[(0,av b),(1,ac i),(5,ac (rsum (x.stks.take k) i)),(6,ac (k:Int))]) (fun _=>rlL b sh x L) (fun k=>x.stks.length - k) 0 (aj _) ai (Ent.refl _) ?_;intro k hk;simp only[rlL];by_cases a4:k<x.stks.length
 case neg =>
  obtain rfl:k=x.stks.length:=ab;rw[bD];refine Hz ?_;intros;exact KX.en ⟨rfl,rfl⟩
 have a3:(k:Int).toNat=k:=ay k;have a5 : (k:Int).toNat<x.stks.length:=ab;have a1:=nE x.stks i a4;have a9:=mB i k hO;have a8:=mB i (k+1) hO;have a6:0≤rsum (x.stks.take k) i:=ti i (fun u hu=>hO u (cL hu));have a0:=aG a4;obtain⟨o1,o2⟩:=hO _ a0;have a7:=qg o2;by_cases h1:x.stks[(k:Int).toNat]!.item=i
 ·have a2 : x.stks[k]!.item=i:=by rw[←a3];exact h1
  rw[if_pos a2] at a1;refine Hz ?_;intros;rw[a3];refine GO.ent (Ent.at (A:=allP rsP x.stks) (Ent.d8 (f:=rsP) a0)) ?_;refine GO.cr (ju x.stks[k]!.stk.ad x.stks[k]!.stk.lots.length x.stks[k]!.stk.cap x.stks[k]!.stk.lots rfl o1 o2) ?_;refine Hz ?_;intros;refine⟨k+1,ab,ab,?_,by exact ae⟩;rw[aK k,a1];exact ai
 ·have a2 : ¬x.stks[k]!.item=i:=by rw[←a3];exact h1
  rw[if_neg a2,Int.add_zero] at a1;refine Hz ?_;intros;refine⟨k+1,ab,ab,?_,by exact ae⟩;rw[aK k,a1];exact ai
abbrev Df:List Stp:=[.ev 0,.ev 1,.ev 2,.ev 3,.ev 4,.ev 5,.ev 6,.ev 7,.ev 8,.ef 9,.ev 10]
abbrev De:List Stp:=[.ev 0,.ev 1,.ev 2,.ev 3,.ev 4,.ev 5,.ev 6,.ev 7,.ev 8,.ef 9,.ev 10,.ev 11,.ef 12]
abbrev Dd:List Stp:=[.ev 0,.ev 1,.ev 2,.ev 3,.ev 4,.ev 5,.ev 6,.ev 7,.ev 8,.ef 9,.ev 10,.ev 11,.ef 12]
abbrev Dc:List Stp:=[.ev 0,.ev 1,.ev 2,.ev 3,.ev 4,.ev 5,.ev 6,.ev 7,.ev 8,.ef 9,.ev 10,.ev 11,.ef 12]
def OE{φ ψ:Prop}(k:ψ)(h:Hid ψ→φ:=by intro k;(repeat (first|refine aa ?_|intro zzz|((with_reducible apply G.d8);first|refine G.d7 (N:=51) (id:=1) Df mixed aw ?_|refine G.d7 (N:=51) (id:=2) De mixed aw ?_|refine G.d7 (N:=51) (id:=3) Dd mixed aw ?_|refine G.d7 (N:=51) (id:=4) Dc mixed aw ?_)));(repeat revert zzz);exact Hid.out k):φ:=h ⟨k⟩
def xU{L:LH}(b:Nat)(sh:Int)(x:RLX)(h1:x.stks.length≤10000000)(h2:x.flows.length≤10000000)(h3:x.steps.length≤10000000) :
  Tri ag 93 #[av b] (rlL b sh x L) (fun v L'=>∃b' x',v=.pointer (some ⟨b',0,none⟩)∧(x'.cat=x.cat∧x'.stks=x.stks∧x'.flows=x.flows∧x'.steps=x.steps)∧L' = obj b' tRL (aI sh x')::osl gT 3 tRS x'.sad x'.scap x'.stks::osl aM 11 bY x'.fad x'.fcap x'.flows::rlL b sh x L):=by
 refine Tri.bd ?_;simp only[rlL];refine OE ?_;intros;rename_i b3;refine GPW.ent (Ent.d9 gT 3 tRS) ?_;refine GPW.ef (Ef.e9 (xs:=[]) rfl rfl rfl rfl rfl (fun e _=>uG e) (by simp;omega) (by simp;omega)) ah ?_;rintro _ _⟨a1,c1,rfl,rfl⟩;simp only[ap];refine OE ?_;intros;refine GPW.ent (Ent.d9 aM 11 bY) ?_;refine GPW.ef (Ef.e9 (xs:=[]) rfl rfl rfl rfl rfl (fun e _=>jf e) (by simp;omega) (by simp;omega)) ah ?_;rintro _ _⟨a2,c2,rfl,rfl⟩;simp only[ap];refine OE ?_;intros;refine GPW.ent (Ent.d9 aL 7 bB) ?_;refine GPW.ef (Ef.e9 (xs:=[]) rfl rfl rfl rfl rfl (fun e _=>jm e) (by simp;omega) (by simp;omega)) ah ?_;rintro _ _⟨a3,c3,rfl,rfl⟩;simp only[ap];refine OE ?_;intros;refine KX.d7 an ?_ ⟨b3,⟨x.cat,x.stks,a1,c1,x.flows,a2,c2,x.steps,a3,c3⟩,rfl,⟨rfl,rfl,rfl,rfl⟩,rfl⟩;simp only[rlL,aI];exact ae
