/- Lemmas. -/
import Derived.Test.YtommnllbflbdmaaGreatDoorLay
import Derived.Test.YtommnllbflbdmaaGreatDoorLau
set_option linter.all false
set_option maxHeartbeats 4000000
namespace Go.Proofs.YtommnllbflbdmaaGreatDoor
section
open Go.V
attribute [local irreducible] G GO GP GPW GPK Ev Ef EfR Ent CB GB V.Enters
theorem vm(bv:Nat)(ad:OA)(c:Nat)(l:LL)(cs:Nat→Int)(hm:l.length≤1000000) :
  sC 301 [au bv] l.length cs (fun _=>cL [obj bv 22 [.slice ad l.length c],isl (encZ .i64) 1 ad ((List.range l.length).map cs)]):=by
 intro k hk L;have hii:(k:Int).toNat=k:=ac;have hl:((List.range l.length).map cs).length=l.length:=by simp
 refine Tri.body (args:=[ab (k:Int),au bv]) 8 Hl Tryz.func301 rfl rfl rfl (by simp) ?_;refine G.ent Ent.openS ?_;simp only[ax,aq];repeat first|refine aa ?_|intro
 rw[hii,gE hk];exact KX.d7 ai (Ent.j0 (A:=[_,_]) (L:=L)) ⟨rfl,rfl⟩
theorem dE{φ ψ:Prop}(k:ψ)(h:Hid ψ→φ:=by intro k;first|((with_reducible apply GO.d7);refine GO.e7 jU Tryz.func299 rfl rfl rfl rfl (by simp) ae (Hid.out k))|((with_reducible apply GPW.d7);refine GPW.e7 jU Tryz.func299 rfl rfl rfl rfl (by simp) ae (Hid.out k))|((with_reducible apply GO.d7);refine GO.d8 rfl jU Tryz.func299 rfl rfl rfl rfl (by simp) ae (Hid.out k))|((with_reducible apply GPW.d7);refine GPW.d8 rfl jU Tryz.func299 rfl rfl rfl rfl (by simp) ae (Hid.out k))|((with_reducible apply KX.f7);first|refine KX.in0 (.inl rfl) (Hid.out k)|refine KX.in0 (.inr rfl) (Hid.out k)|refine KX.in1 (.inl rfl) rfl (Hid.out k)|refine KX.in2 (.inl rfl) rfl rfl (Hid.out k)|refine KX.in3 (.inl rfl) rfl rfl rfl (Hid.out k)|refine KX.inC (.inl rfl) rfl (by rfl) (Hid.out k)|refine KX.e9 (.inl rfl) rfl (by rfl) rfl (Hid.out k))):φ:=h ⟨k⟩
theorem Ah{L:LH}(ad:OA)(c:Nat)(xs:LL)(hb:xs.length≤4096)(hx:∀l∈xs,LotOk l) :
  Tri ah 284 #[.slice ad xs.length c,ab 0,.bool true] (isl an 3 ad xs::L) (fun v L' =>
   (lsum xs<0∧v=.tuple #[.slice none 0 0,.slice none 0 0,ab 10]∧L' = isl an 3 ad xs::L) ∨
   (0≤lsum xs∧∃ad1 c1 ad2 c2,v=.tuple #[.slice ad1 (divF xs (fuC xs 0) xs.length).length c1,.slice ad2 (divR xs (fuC xs 0) xs.length).length c2,ab 0]∧L' = osl an 3 tLot ad1 c1 (divF xs (fuC xs 0) xs.length)::osl an 3 tLot ad2 c2 (divR xs (fuC xs 0) xs.length)::isl an 3 ad xs::L)):=by
 have hw:∀x∈xs,LotW x:=fun x h=>(hx x h).w;have hs0:=gx hx xs.length (aB _);rw[gM] at hs0;refine Tri.body (args:=[.slice ad xs.length c,ab 0,.bool true]) 74 BJ Tryz.func284 rfl rfl rfl (by simp) ?_;repeat first|refine aa ?_|intro _|refine dE ?_
 refine GO.ef (Ef.d7 (jO ad xs.length c xs rfl hb hx) rfl) ae ?_;rintro _ _⟨rfl,rfl⟩;repeat first|refine aa ?_|intro _|refine dE ?_
 refine GO.ef (Ef.d7 (mR ad xs.length c xs rfl hb hx) rfl) ae ?_;rintro _ _⟨rfl,rfl⟩;repeat first|refine aa ?_|intro _|refine dE ?_
 rename_i bl bn;refine GO.ent (L':=cL (fuA bn bl ad c xs 0 0)::isl an 3 ad xs::isl an 3 ad xs::L) ?_ ?_
 ·refine Ent.trans ?_ Ent.j0;simp only[fuA,fuR,ax,aq];refine(Ent.at (A:=isl an 3 ad xs) (Ent.dup (iw _ _ _ _))).trans ?_;refine(Ent.dup (iw _ _ _ _)).trans ?_;exact ag
 (first|refine GO.ef (Ef.call (mX _ _ ad c xs (fuC xs 0) (fun k=>cL (fuA bn bl ad c xs 0 k)) ac hw (nr (bu _) hw) (ua bn bl ad c xs 0 ac (bu _) ae hw)) rfl (by repeat (first|exact Ent.refl _|apply Ent.take))) ae ?_);rintro _ _⟨_,⟨ad1,c1,ad2,c2,rfl,rfl⟩,hL⟩;simp only[ax,aq] at hL;subst hL;repeat first|refine aa ?_|intro _|refine dE ?_
 exact KX.d7 ai (Ent.refl _) (.inr ⟨ac,ad1,c1,ad2,c2,rfl,rfl⟩)
theorem Ai{L:LH}(ad:OA)(c:Nat)(xs:LL)(n:Int)(hb:xs.length≤4096)(hx:∀l∈xs,LotOk l)(hn0:0<n)(hn1:n≤1099511627776) :
  Tri ah 284 #[.slice ad xs.length c,ab n,.bool true] (isl an 3 ad xs::L) (fun v L' =>
   (lsum xs<n∧v=.tuple #[.slice none 0 0,.slice none 0 0,ab 10]∧L' = isl an 3 ad xs::L) ∨
   (n≤lsum xs∧∃ad1 c1 ad2 c2,v=.tuple #[.slice ad1 (divF xs (shC xs n) xs.length).length c1,.slice ad2 (divR xs (shC xs n) xs.length).length c2,ab 0]∧L' = osl an 3 tLot ad1 c1 (divF xs (shC xs n) xs.length)::osl an 3 tLot ad2 c2 (divR xs (shC xs n) xs.length)::isl an 3 ad xs::L)):=by
 have hw:∀x∈xs,LotW x:=fun x h=>(hx x h).w;refine Tri.body (args:=[.slice ad xs.length c,ab n,.bool true]) 74 BJ Tryz.func284 rfl rfl rfl (by simp) ?_;repeat first|refine aa ?_|intro _|refine dE ?_
 refine GO.ef (Ef.d7 (jO ad xs.length c xs rfl hb hx) rfl) ae ?_;rintro _ _⟨rfl,rfl⟩;repeat first|refine aa ?_|intro _|refine dE ?_
 refine GO.ef (Ef.d7 (mR ad xs.length c xs rfl hb hx) rfl) ae ?_;rintro _ _⟨rfl,rfl⟩;by_cases hs:lsum xs<n
 ·repeat first|refine aa ?_|intro _|refine dE ?_
  exact KX.d7 ai (Ent.refl _) (.inl ⟨hs,rfl,rfl⟩)
 have hne:xs≠[]:=by
  rintro rfl;simp[lsum] at hs;omega
 repeat first|refine aa ?_|intro _|refine dE ?_
 rename_i bl bn;refine GO.ent Ent.drop (GO.ent Ent.drop ?_);refine GO.ef (Ef.makeSlice (encZ .i64) 0 rfl rfl rfl ac ac ac) ae ?_;rintro _ _⟨bw,rfl,rfl⟩;rw[aA,←jE xs.length (fun k=>xs[k]!.2.2)];repeat first|((fail_if_success (with_reducible refine G.e7 8 ?_));(with_reducible apply G.seq))|refine bB ?_|intro _|((with_reducible apply GO.d7);refine GO.e7 jU Tryz.func299 rfl rfl rfl rfl (by simp) ae ?_)|((with_reducible apply GPW.d7);refine GPW.e7 jU Tryz.func299 rfl rfl rfl rfl (by simp) ae ?_)|((with_reducible apply GO.d7);refine GO.d8 rfl jU Tryz.func299 rfl rfl rfl rfl (by simp) ae ?_)|((with_reducible apply GPW.d7);refine GPW.d8 rfl jU Tryz.func299 rfl rfl rfl rfl (by simp) ae ?_)|((with_reducible apply KX.f7);first|refine KX.in0 (.inl rfl) ?_|refine KX.in0 (.inr rfl) ?_|refine KX.in1 (.inl rfl) rfl ?_|refine KX.in2 (.inl rfl) rfl rfl ?_|refine KX.in3 (.inl rfl) rfl rfl rfl ?_|refine KX.inC (.inl rfl) rfl (by rfl) ?_|refine KX.e9 (.inl rfl) rfl (by rfl) rfl ?_)
 refine G.d9 (α:=Unit) (fun _=>True) (fun _=>[(0,.slice ad xs.length c),(1,ab n),(10,.slice (some ⟨bw,0,none⟩) xs.length xs.length)]) (fun _=>isl (encZ .i64) 1 (some ⟨bw,0,none⟩) (wts xs)::isl an 3 ad xs::L) ?_ ?_
 ·repeat first|refine aa ?_|intro _|refine dE ?_
  refine G.loop (α:=Nat) (fun i=>i≤xs.length) (fun i=>[(0,.slice ad xs.length c),(1,ab n),(10,.slice (some ⟨bw,0,none⟩) xs.length xs.length),(43,.slice ad xs.length c),(44,ab xs.length),(45,ab (i:Int))])
   (fun i=>osl (encZ .i64) 1 tInt (some ⟨bw,0,none⟩) xs.length (fM xs.length i (fun k=>xs[k]!.2.2))::isl an 3 ad xs::L) (fun i=>xs.length - i) 0 (ao _) aj ag ?_
  intro i hi;have hf1:=jy xs.length i (fun k=>xs[k]!.2.2);by_cases hlt:i<xs.length
  case neg =>
   have hin:i=xs.length:=ac;subst hin
   have e:fM xs.length xs.length (fun k=>xs[k]!.2.2)=wts xs:=by
    rw[ko];apply dv
    ·simp[wts]
    ·intro k h1 h2;have hk:k<xs.length:=by simpa using h1
     simp[wts,hk]
   rw[e];repeat first|refine aa ?_|intro _|refine dE ?_
   exact⟨(),trivial,aj,(Ent.frz (some ⟨bw,0,none⟩))⟩
  have hii:(i:Int).toNat=i:=ac;have h3:(fM xs.length i (fun k=>xs[k]!.2.2)).set i xs[i]!.2.2=fM xs.length (i+1) (fun k=>xs[k]!.2.2):=kn _ hlt;repeat first|refine aa ?_|intro _|refine dE ?_
  rw[hii,h3];refine⟨i+1,ac,ac,?_,by exact ag⟩;rw[aP i];exact aj
 rintro _ _;repeat first|refine aa ?_|intro _|refine dE ?_
 refine GO.ef (Ef.d7 (Am (some ⟨bw,0,none⟩) xs.length xs n hb hx hne ac ac hn1) rfl) ae ?_;rintro _ _⟨ad3,c3,rfl,rfl⟩;repeat first|refine aa ?_|intro _|refine dE ?_
 rename_i bv;refine GO.ent (L':=cL [obj bv 22 [.slice ad3 xs.length c3],isl (encZ .i64) 1 ad3 ((List.range xs.length).map (shC xs n))]::isl an 3 ad xs::isl an 3 ad xs::L) ?_ ?_
 ·refine(Ent.frz ad3).trans ?_;refine Ent.trans ?_ Ent.j0;simp only[ax,aq];refine(Ent.at (A:=isl an 3 ad xs) (Ent.dup (iw _ _ _ _))).trans ?_;exact ag
 (first|refine GO.ef (Ef.call (mX _ _ ad c xs (shC xs n) (fun _=>cL [obj bv 22 [.slice ad3 xs.length c3],isl (encZ .i64) 1 ad3 ((List.range xs.length).map (shC xs n))]) ac hw (Cr hx ac ac) (vm bv ad3 c3 xs (shC xs n) ac)) rfl (by repeat (first|exact Ent.refl _|apply Ent.take))) ae ?_);rintro _ _⟨_,⟨ad1,c1,ad2,c2,rfl,rfl⟩,hL⟩;simp only[ax,aq] at hL;subst hL;repeat first|refine aa ?_|intro _|refine dE ?_
 exact KX.d7 ai (Ent.refl _) (.inr ⟨ac,ad1,c1,ad2,c2,rfl,rfl⟩)
theorem Ag(mixed:Bool):TakeC mixed:=by
 cases mixed with
 | false=>exact xg
 | true =>
  refine⟨fun l n hl h0 h1 k hk=>mZ true l n hl h0 h1 k hk,?_⟩;intro L ad c xs n h1 h2 h3 h4;rcases Int.lt_or_eq_of_le h3 with h5|h5
  ·have e:tkC true xs n=shC xs n:=if_pos ⟨rfl,h5⟩;unfold gN eJ;rw[e];exact Ai ad c xs n h1 h2 h5 h4
  ·subst h5;have e:tkC true xs 0=fuC xs 0:=if_neg (fun h=>absurd h.2 ac);unfold gN eJ;rw[e];exact Ah ad c xs h1 h2
def WdB(c:Int):Prop:=(97≤c∧c≤122)∨(48≤c∧c≤57)∨c=95
noncomputable def clsM(c:Int):Int:=if 97≤c∧c≤122 then 1 else if 48≤c∧c≤57 then 2 else 3
theorem zO(c:Int):1≤clsM c∧clsM c≤3:=by
 unfold clsM;split
 ·omega
 ·split<;>omega
theorem Ex:∀c,c<128→(kindsL[c]! = 3→97≤c∧c≤122)∧(kindsL[c]! = 4→48≤c∧c≤57)∧(kindsL[c]! = 5→c=95):=by decide +kernel
theorem qR{s:ByteArray}{i:Nat}(hi:i<s.size)(h:fV s i=3∨fV s i=4∨fV s i=5):WdB (ed s)[i]!∧(fV s i=3→clsM (ed s)[i]! = 1):=by
 have hb:=tO s _ (aI (show i<(ed s).length by rw[nM];omega));unfold fV at h ⊢;rw[aA] at h ⊢;by_cases h1:(ed s)[i]! < 128
 case neg =>
  rw[if_neg (fun h=>h1 h.2)] at h;omega
 rw[if_pos ⟨ac,h1⟩] at h ⊢;have hk:=Ex ((ed s)[i]!).toNat ac;refine⟨?_,?_⟩
 ·unfold WdB;rcases h with h|h|h
  ·have:=hk.1 h;omega
  ·have:=hk.2.1 h;omega
  ·have:=hk.2.2 h;omega
 ·intro h3;have:=hk.1 h3
  unfold clsM;rw[if_pos ac]
theorem jG{L:LH}(c:Int)(h:WdB c):Tri ah 220 #[.int .u8 c] L (fun v L'=>v=ab (clsM c)∧L' = L):=by
 refine Tri.body (args:=[.int .u8 c]) 39 Ip Tryz.func220 rfl rfl rfl (by simp) ?_;by_cases h1:97≤c∧c≤122
 ·have e:clsM c=1:=if_pos h1;rw[e];obtain⟨h2,h3⟩:=h1;repeat first|refine aa ?_|intro
  exact KX.d7 ai (Ent.refl _) ⟨rfl,rfl⟩
 by_cases h4:48≤c∧c≤57
 ·have e:clsM c=2:=by unfold clsM;rw[if_neg h1,if_pos h4]
  rw[e];obtain⟨h2,h3⟩:=h4;repeat first|refine aa ?_|intro
  exact KX.d7 ai (Ent.refl _) ⟨rfl,rfl⟩
 have h5:c=95:=by unfold WdB at h;omega
 have e:clsM c=3:=by unfold clsM;rw[if_neg h1,if_neg h4]
 rw[e];repeat first|refine aa ?_|intro
 exact KX.d7 ai (Ent.refl _) ⟨rfl,rfl⟩
theorem rJ{L:LH}(s:ByteArray)(i:Nat)(hs:s.size≤1000)(hk:i<s.size→WdB (ed s)[i]!) :
  Tri ah 218 #[.string s,ab (i:Int)] L (fun v L'=>v=ab (i:Int)∧L' = L):=by
 refine Tri.body (args:=[.string s,ab (i:Int)]) 31 Ir Tryz.func218 rfl rfl rfl (by simp) ?_;repeat first|refine aa ?_|intro
 refine G.e8 1 (GR.step ?_);by_cases h1:i<s.size
 case neg =>
  repeat first|refine aa ?_|intro
  exact KX.d7 ai (Ent.refl _) ⟨rfl,rfl⟩
 have hw:=hk h1;have hb:=hw;unfold WdB at hb;obtain⟨c,hc⟩:∃c,(ed s)[i]! = c:=⟨_,rfl⟩;rw[hc] at hw hb;have hcb:=zO c;repeat first|refine aa ?_|intro
 rw[aA,hc];repeat first|refine aa ?_|intro
 rw[aA,hc];repeat first|refine aa ?_|intro
 rw[aA,hc];refine GO.ef (Ef.d7 (jG c hw) rfl) ae ?_;rintro _ _⟨rfl,rfl⟩;repeat first|refine aa ?_|intro
 exact KX.d7 ai (Ent.refl _) ⟨rfl,rfl⟩
theorem Ab{s:ByteArray}(hw:IsWord s){i:Nat}(hi:i<s.size):WdB (ed s)[i]!:=(qR hi (hw.rest i hi)).1
theorem DF{L:LH}(s:ByteArray)(hw:IsWord s):Tri ah 219 #[.string s,ab 0] L (fun v L'=>v=ab (s.size:Int)∧L' = L):=by
 have hsz:=hw.size;have hc1:clsM (ed s)[0]! = 1:=(qR (i:=0) ac (hw.rest 0 ac)).2 hw.first;have hc2:=Ab hw (i:=0) ac;refine Tri.body (args:=[.string s,ab 0]) 69 Iq Tryz.func219 rfl rfl rfl (by simp) ?_;repeat first|refine aa ?_|intro
 rw[Int.toNat_zero];refine GO.ef (Ef.d7 (jG _ hc2) rfl) ae ?_;rintro _ L ⟨rfl,rfl⟩;rw[hc1];repeat first|refine aa ?_|intro
 refine G.loop (α:=Nat) (fun e=>1≤e∧e≤s.size) (fun e=>[(0,.string s),(1,ab 0),(5,ab (e:Int))])
  (fun _=>L) (fun e=>s.size - e) 1 ⟨ac,ac⟩ aj (Ent.refl _) ?_
 rintro e ⟨he1,he2⟩;by_cases hlt:e<s.size
 case neg =>
  have hes:e=s.size:=ac;subst hes;repeat first|refine aa ?_|intro
  exact KX.d7 ai (Ent.refl _) ⟨rfl,rfl⟩
 have hwd:=Ab hw hlt;obtain⟨c,hc⟩:∃c,(ed s)[e]! = c:=⟨_,rfl⟩;rw[hc] at hwd;have hcb:=zO c;repeat first|refine aa ?_|intro
 rw[aA,hc];refine GO.ef (Ef.d7 (jG c hwd) rfl) ae ?_;rintro _ L ⟨rfl,rfl⟩;repeat first|refine aa ?_|intro
 rw[aA,hc];refine GO.ef (Ef.d7 (jG c hwd) rfl) ae ?_;rintro _ L ⟨rfl,rfl⟩;repeat first|refine aa ?_|intro
 refine⟨e+1,⟨ac,ac⟩,ac,?_,Ent.refl _⟩;rw[aP e];exact aj
abbrev ES:Nat:=214
theorem vk{L:LH}(s:ByteArray)(hw:IsWord s):Tri ah 130 #[.string s] L (fun v L'=>∃ad c,v=.tuple #[.slice ad 1 c,ab 0,ab 0]∧L' = osl encT 4 ES ad c [iy s]::L):=by
 have hsz:=hw.size;have hc1:clsM (ed s)[0]! = 1:=(qR (i:=0) ac (hw.rest 0 ac)).2 hw.first;have hc2:=Ab hw (i:=0) ac;refine Tri.body (args:=[.string s]) 70 JQ Tryz.func130 rfl rfl rfl (by simp) ?_;repeat first|refine aa ?_|intro
 refine GO.ef (Ef.d7 (rJ s 0 ac (fun _=>hc2)) rfl) ae ?_;rintro _ L ⟨rfl,rfl⟩;repeat first|refine aa ?_|intro
 refine G.e8 2 (GR.step ?_);rw[Int.natCast_zero];repeat first|refine aa ?_|intro
 refine GO.ef (Ef.d7 (DF s hw) rfl) ae ?_;rintro _ L ⟨rfl,rfl⟩;repeat first|refine aa ?_|intro
 rw[Int.toNat_zero,aA,qw];rename_i b8;refine GO.ef (Ef.d7 (jG _ hc2) rfl) ae ?_;rintro _ _⟨rfl,rfl⟩;rw[hc1];repeat first|refine aa ?_|intro
 rw[Int.toNat_zero];refine GO.ef (Ef.d7 (jG _ hc2) rfl) ae ?_;rintro _ _⟨rfl,rfl⟩;rw[hc1];repeat first|refine aa ?_|intro
 refine GO.ent (Ent.d8 encT 4 ES) ?_;refine GO.ef (Ef.d8 (enc:=encT) (xs:=[]) (e:=iy s) rfl rfl rfl rfl rfl (by rfl) (rb _) ae ae) ae ?_;rintro _ _⟨ad2,cap2,rfl,rfl⟩;simp only[aq];repeat first|refine aa ?_|intro
 refine GO.ef (Ef.d7 (rJ s s.size ac (fun h=>by omega)) rfl) ae ?_;rintro _ _⟨rfl,rfl⟩;repeat first|refine aa ?_|intro
 refine GR.step ?_;repeat first|refine aa ?_|intro
 exact KX.d7 ai ag ⟨ad2,cap2,rfl,rfl⟩
theorem zY{L:LH}(s:ByteArray)(hw:IsWord s):Tri ah 84 #[.string s] L (fun v L'=>v=.bool true∧L' = L):=by
 refine Tri.body (args:=[.string s]) 34 en84 Tryz.func84 rfl rfl rfl (by simp) ?_;repeat first|refine aa ?_|intro
 refine GO.ef (Ef.d7 (vk s hw) rfl) ae ?_;rintro _ _⟨ad,c,rfl,rfl⟩;have hk0:([iy s][Int.toNat 0]!).kind=0:=rfl;have hk1:([iy s][Int.toNat 0]!).text=s:=rfl;repeat first|refine aa ?_|intro
 rw[hk1];repeat first|refine aa ?_|intro
 exact KX.d7 ai ag ⟨by rw[aU rfl];rfl,rfl⟩
def dX(s:ByteArray):LV:=[.string s]
theorem lL(s:ByteArray):∀u∈dX s,u.oneCell' = true:=by simp[dX,Value.oneCell']
theorem Ez{L:LH}(ad:OA)(n c:Nat)(xs:List ByteArray)[hrd:Rds L ad ByteArray dX 1 xs](hn:n=xs.length)(hl:xs.length≤1000)(s:ByteArray)(h:s∉xs) :
  Tri ah 85 #[.slice ad n c,.string s] L (fun v L'=>v=.bool false∧L' = L):=by
 subst hn;refine Tri.body (args:=[.slice ad xs.length c,.string s]) 18 en85 Tryz.func85 rfl rfl rfl (by simp) ?_;repeat first|refine aa ?_|intro
 refine G.loop (α:=Nat) (fun i=>i≤xs.length) (fun i=>[(0,.slice ad xs.length c),(1,.string s),(5,ab (i:Int))]) (fun _=>L) (fun i=>xs.length - i) 0 (ao _) aj (Ent.refl _) ?_;intro i hi;by_cases hlt:i<xs.length
 case neg =>
  repeat first|refine aa ?_|intro
  exact KX.d7 ai (Ent.refl _) ⟨rfl,rfl⟩
 have hne:xs[i]!≠s:=fun e=>h (e▸aI hlt);repeat first|refine aa ?_|intro
 rw[aA];repeat first|refine aa ?_|intro
 refine⟨i+1,ac,ac,?_,Ent.refl _⟩;rw[aP i];exact aj
theorem pY{L:LH}(m:Nat)(ad:OA)(n c:Nat)(l:List (Int×Int))[hrd:Rds L ad (Int×Int) bL 2 l](hn:n=l.length)(hl:l.length≤64)(h:jg m l)(x:Int) :
  Tri ah 131 #[.slice ad n c,ab x] L (fun v L'=>v=ab (fZ l x)∧L' = L):=by
 subst hn;refine Tri.body (args:=[.slice ad l.length c,ab x]) 28 JP Tryz.func131 rfl rfl rfl (by simp) ?_;repeat first|refine aa ?_|intro
 refine G.loop (α:=Nat) (fun i=>i≤l.length) (fun i=>[(0,.slice ad l.length c),(1,ab x),(5,ab (fZ (l.take i) x)),(6,ab (i:Int))]) (fun _=>L) (fun i=>l.length - i) 0 (ao _) aj (Ent.refl _) ?_;intro i hi;by_cases hlt:i<l.length
 case neg =>
  rw[aD ac];repeat first|refine aa ?_|intro
  exact KX.d7 ai (Ent.refl _) ⟨rfl,rfl⟩
 have hii:(i:Int).toNat=i:=ac;have hcb:=rm h.1 x i hi;have hab:=h.1 _ (aI hlt)
 have e:fZ (l.take (i+1)) x=if l[i]!.1=x then fZ (l.take i) x+l[i]!.2 else fZ (l.take i) x:=by
  rw[aC hlt,oh,getElem!_of hlt]
 by_cases h1:l[i]!.1=x
 ·rw[if_pos h1] at e;repeat first|refine aa ?_|intro
  rw[hii];repeat first|refine aa ?_|intro
  rw[hii];repeat first|refine aa ?_|intro
  refine⟨i+1,ac,ac,?_,Ent.refl _⟩;rw[aP i,e];exact aj
 ·rw[if_neg h1] at e;repeat first|refine aa ?_|intro
  rw[hii];repeat first|refine aa ?_|intro
  refine⟨i+1,ac,ac,?_,Ent.refl _⟩;rw[aP i,e];exact aj
theorem ta{L:LH}(x:ItG)(h:ItGood x):Tri ah 86 #[.agg (bS x).toArray] L (fun v L'=>v=ab 0∧L' = L):=by
 obtain⟨hw,hf,hn1,hn2,hn3⟩:=h;refine Tri.body (args:=[.agg (bS x).toArray]) 68 en86 Tryz.func86 rfl rfl rfl (by simp) ?_;simp only[bS];by_cases ho:x.obj=true
 ·rw[if_pos ho] at hf;obtain⟨f1,f2,f3,f4⟩:=hf;obtain⟨n1,n2⟩:=hn1 ho;rw[ho,f1,f2];repeat first|refine aa ?_|intro
  exact KX.d7 ai ag ⟨rfl,rfl⟩
 ·rw[if_neg ho] at hf;obtain⟨f1,f2,f3⟩:=hf;have ho' : x.obj=false:=by simpa using ho
  rw[ho'];repeat first|refine aa ?_|intro
  exact KX.d7 ai ag ⟨rfl,rfl⟩
abbrev BA(a b c:Bool):Value:=.tuple #[.bool a,.bool b,.bool c]
abbrev CG:List Stp:=[.ev 0,.ev 1,.ev 2,.ev 3,.ev 4,.ev 5,.ev 6,.ev 7,.ev 8,.ev 9,.ev 10,.ev 11]
theorem gV{φ ψ:Prop}(k:ψ)(h:Hid ψ→φ:=by intro k;(with_reducible apply G.d8);first|refine G.d7 (N:=42) (id:=6) CG mixed ap (Hid.out k)):φ:=h ⟨k⟩
theorem qC{L:LH}(n:Nat)(t:TbV)(h:TbGood n t.m):Tri ah 88 #[.agg (cj t).toArray] (isl eK 2 t.ad t.rows::L) (fun v L'=>v=BA false false false∧L' = isl eK 2 t.ad t.rows::L):=by
 obtain⟨⟨r1,r2⟩,r3⟩:=my h;refine Tri.body (args:=[.agg (cj t).toArray]) 42 en88 Tryz.func88 rfl rfl rfl (by simp) ?_;simp only[cj];repeat first|refine aa ?_|intro _|refine gV ?_
 rename_i b1;refine G.loop (α:=Nat) (fun i=>i≤t.rows.length) (fun i=>[(1,au b1),(5,.bool false),(6,ab (i:Int))]) (fun _=>obj b1 153 [.string t.name,.slice t.ad t.rows.length t.cap]::isl eK 2 t.ad t.rows::L) (fun i=>t.rows.length - i) 0 (ao _) aj (Ent.refl _) ?_;intro i hi;by_cases hlt:i<t.rows.length
 case neg =>
  repeat first|refine aa ?_|intro _|refine gV ?_
  rw[aF (show ¬((64:Int)<t.rows.length) by omega),aF (show ¬((t.rows.length:Int)=0) by omega)];exact KX.d7 ai ag ⟨rfl,rfl⟩
 have hii:(i:Int).toNat=i:=ac;have hw:=(r3 _ (aI hlt)).num;change 1≤t.rows[i]!.weight∧t.rows[i]!.weight≤1099511627776 at hw;repeat first|refine aa ?_|intro _|refine gV ?_
 rw[hii];repeat first|refine aa ?_|intro _|refine gV ?_
 rw[hii];repeat first|refine aa ?_|intro _|refine gV ?_
 refine⟨i+1,ac,ac,?_,Ent.refl _⟩;rw[aP i,aF (show ¬(1099511627776<t.rows[i]!.weight) by omega)];exact aj
abbrev CF:List Stp:=[.ev 0,.ev 1,.ev 2,.ev 3,.ev 4,.ev 5,.ev 6,.ev 7,.ev 8,.ev 9,.ev 10,.ev 11,.ev 12,.ev 13,.ev 14,.ev 15,.ev 16,.ev 17,.ev 18,.ev 19,.ev 20,.ev 21,.ev 22,.ev 23,.ev 24,.ev 25,.ev 26]
theorem fW{φ ψ:Prop}(k:ψ)(h:Hid ψ→φ:=by intro k;(with_reducible apply G.d8);first|refine G.d7 (N:=78) (id:=7) CF mixed ap (Hid.out k)):φ:=h ⟨k⟩
theorem sG{L:LH}(t:TxV)(h:TxGood t.m):Tri ah 89 #[.agg (cq t).toArray] (isl bL 2 t.ad t.brs::L) (fun v L'=>v=BA false false false∧L' = isl bL 2 t.ad t.brs::L):=by
 obtain⟨b1,b2⟩:=h.brs;change 0<t.brs.length at b1;change t.brs.length≤16 at b2;have hfirst:t.brs[0]!.1=0:=h.first;have hsrt:∀i,i+1<t.brs.length→t.brs[i]!.1<t.brs[i+1]!.1:=h.srt;refine Tri.body (args:=[.agg (cq t).toArray]) 78 en89 Tryz.func89 rfl rfl rfl (by simp) ?_;simp only[cq];repeat first|refine aa ?_|intro _|refine fW ?_
 rename_i bb;rw[aF (show ¬((t.brs.length:Int)=0) by omega)];refine G.loop (α:=Nat) (fun i=>i≤t.brs.length) (fun i=>[(1,au bb),(5,.bool false),(6,.bool false),(7,ab (i:Int))]) (fun _=>obj bb 160 [.string t.name,.slice t.ad t.brs.length t.cap]::isl bL 2 t.ad t.brs::L) (fun i=>t.brs.length - i) 0 (ao _) aj (Ent.refl _) ?_;intro i hi;by_cases hlt:i<t.brs.length
 case neg =>
  repeat first|refine aa ?_|intro _|refine fW ?_
  rw[aF (show ¬((16:Int)<t.brs.length) by omega)];exact KX.d7 ai ag ⟨rfl,rfl⟩
 have hii:(i:Int).toNat=i:=ac;have hnum:=h.num _ (aI hlt);change (0≤t.brs[i]!.1∧t.brs[i]!.1≤1099511627776)∧0≤t.brs[i]!.2∧t.brs[i]!.2≤10000 at hnum;repeat first|((fail_if_success (with_reducible refine G.atS 6 ?_));(with_reducible apply G.seq))|refine bB ?_|intro _|refine fW ?_
 repeat first|((fail_if_success (with_reducible refine G.atS 7 ?_));(with_reducible apply G.seq))|refine bB ?_|intro _|refine fW ?_
 rw[hii];simp only[bL];obtain⟨x,hx⟩:∃x,t.brs[i]! = x:=⟨_,rfl⟩;rw[hx] at hnum ⊢;obtain⟨⟨m1,m2⟩,m3,m4⟩:=hnum;rcases Nat.eq_zero_or_pos i with h0|h0
 ·have hx0:x.1=0:=by rw[←hx,h0];exact hfirst
  repeat first|refine aa ?_|intro _|refine fW ?_
  refine⟨i+1,ac,ac,?_,by exact ag⟩;rw[aP i,aF (show ¬(10000<x.2) by omega)];exact aj
 ·have hpi:((i:Int) - 1).toNat=i - 1:=ac;have hx1:=hsrt (i - 1) ac;rw[show i - 1+1=i by omega,hx] at hx1;repeat first|refine aa ?_|intro _|refine fW ?_
  rw[hpi];repeat first|refine aa ?_|intro _|refine fW ?_
  refine⟨i+1,ac,ac,?_,by exact ag⟩;rw[aP i,aF (show ¬(10000<x.2) by omega),aF (show ¬(x.1≤t.brs[i - 1]!.1) by omega)];exact aj
abbrev CH:List Stp:=[.ev 0,.ev 1,.ev 2,.ev 3,.ev 4,.ev 5,.ev 6,.ev 7,.ev 8,.ev 9,.ev 11,.ev 12,.ev 13,.ev 14,.ev 15,.ev 16,.ev 17,.ev 18,.ef 10,.ef 19,.ev 20,.ev 21,.ev 22]
theorem dm{φ ψ:Prop}(k:ψ)(h:Hid ψ→φ:=by intro k;(with_reducible apply G.d8);first|refine G.d7 (N:=151) (id:=9) CH mixed ap (Hid.out k)):φ:=h ⟨k⟩
theorem rM{L:LH}(n:Nat)(r:RuV)(h:RuGood n r.m):Tri ah 87 #[.agg (bQ r).toArray] (isl bL 2 r.take.ad r.take.l::isl bL 2 r.give.ad r.give.l::isl bL 2 r.back.ad r.back.l::L) (fun v L'=>v=BA false false false∧L' = isl bL 2 r.take.ad r.take.l::isl bL 2 r.give.ad r.give.l::isl bL 2 r.back.ad r.back.l::L):=by
 obtain⟨hw,⟨hl1,hl2⟩,hgt,hgg,hgb,⟨hf1,hf2⟩,hcont,⟨⟨n1,n2⟩,⟨n3,n4⟩,⟨n5,n6⟩,n7,n8⟩⟩:=h;change r.take.l.length+r.give.l.length≤64 at hl1;change r.take.l.length+r.back.l.length≤64 at hl2;change jg n r.take.l at hgt;change jg n r.back.l at hgb;change r.back.l.length=0∨r.chance≠r.of_ at hf1;change ∀a∈r.back.l,fZ r.back.l a.1≤fZ r.take.l a.1 at hcont;change (if r.spawn=true then r.take.l.length=0∧r.back.l.length=0∧r.level=0∧r.time=0∧r.chance=r.of_ else 0<r.take.l.length∨r.time≠0) at hf2;change 0≤r.level at n1;change r.level≤100 at n2;change 0≤r.time at n3;change r.time≤1000000 at n4;change 1≤r.of_ at n5;change r.of_≤1000000 at n6;change 1≤r.chance at n7;change r.chance≤r.of_ at n8;refine Tri.body (args:=[.agg (bQ r).toArray]) 151 en87 Tryz.func87 rfl rfl rfl (by simp) ?_;simp only[bQ];repeat first|((fail_if_success (with_reducible refine G.atS 1 ?_));(with_reducible apply G.seq))|refine bB ?_|intro _|refine dm ?_
 rename_i bb;repeat first|((fail_if_success (with_reducible refine G.atS 2 ?_));(with_reducible apply G.seq))|refine bB ?_|intro _|refine dm ?_
 rw[aF (show ¬((64:Int)<(r.take.l.length:Int)+r.back.l.length) by omega)];refine G.d9 (α:=Unit) (fun _=>True) (fun _=>[(1,au bb),(5,.bool false),(6,.bool (dB (r.take.l.length=0∧r.time=0)))]) (fun _=>obj bb 79 [.string r.name,.bool r.spawn,ab r.level,ab r.time,ab r.chance,ab r.of_,.slice r.take.ad r.take.l.length r.take.cap,.slice r.give.ad r.give.l.length r.give.cap,.slice r.back.ad r.back.l.length r.back.cap]::isl bL 2 r.take.ad r.take.l::isl bL 2 r.give.ad r.give.l::isl bL 2 r.back.ad r.back.l::L) ?_ ?_
 ·by_cases q:r.take.l.length=0
  ·repeat first|refine aa ?_|intro _|refine dm ?_
   rw[show dB (r.time=0)=dB (r.take.l.length=0∧r.time=0) by congr 1;simp[q]];exact⟨(),trivial,aj,Ent.refl _⟩
  ·repeat first|refine aa ?_|intro _|refine dm ?_
   rw[aF (show ¬(r.take.l.length=0∧r.time=0) from fun h=>q h.1)];exact⟨(),trivial,aj,Ent.refl _⟩
 rintro _ _;repeat first|((fail_if_success (with_reducible refine G.e7 3 ?_));(with_reducible apply G.seq))|refine bB ?_|intro _|refine dm ?_
 refine G.d9 (α:=Unit) (fun _=>True) (fun _=>[(1,au bb),(5,.bool false),(6,.bool false)]) (fun _=>obj bb 79 [.string r.name,.bool r.spawn,ab r.level,ab r.time,ab r.chance,ab r.of_,.slice r.take.ad r.take.l.length r.take.cap,.slice r.give.ad r.give.l.length r.give.cap,.slice r.back.ad r.back.l.length r.back.cap]::isl bL 2 r.take.ad r.take.l::isl bL 2 r.give.ad r.give.l::isl bL 2 r.back.ad r.back.l::L) ?_ ?_
 ·by_cases q:r.spawn=true
  ·rw[if_pos q] at hf2;obtain⟨q1,q2,q3,q4,q5⟩:=hf2;rw[q];repeat first|refine aa ?_|intro _|refine dm ?_
   rw[aF (show ¬(¬r.chance=r.of_) by omega)];exact⟨(),trivial,aj,Ent.refl _⟩
  ·rw[if_neg q] at hf2;have q' : r.spawn=false:=by simpa using q
   rw[q'];repeat first|refine aa ?_|intro _|refine dm ?_
   rw[aF (show ¬(r.take.l.length=0∧r.time=0) by omega)];exact⟨(),trivial,aj,Ent.refl _⟩
 rintro _ _;repeat first|((fail_if_success (with_reducible refine G.atS 5 ?_));(with_reducible apply G.seq))|refine bB ?_|intro _|refine dm ?_
 refine G.d9 (α:=Unit) (fun _=>True) (fun _=>[(1,au bb),(5,.bool false),(6,.bool false)]) (fun _=>obj bb 79 [.string r.name,.bool r.spawn,ab r.level,ab r.time,ab r.chance,ab r.of_,.slice r.take.ad r.take.l.length r.take.cap,.slice r.give.ad r.give.l.length r.give.cap,.slice r.back.ad r.back.l.length r.back.cap]::isl bL 2 r.take.ad r.take.l::isl bL 2 r.give.ad r.give.l::isl bL 2 r.back.ad r.back.l::L) ?_ ?_
 ·by_cases q:r.back.l.length=0
  ·repeat first|refine aa ?_|intro _|refine dm ?_
   exact⟨(),trivial,aj,Ent.refl _⟩
  ·have q2:¬r.chance=r.of_:=ac;repeat first|refine aa ?_|intro _|refine dm ?_
   rw[aF q2];exact⟨(),trivial,aj,Ent.refl _⟩
 rintro _ _;repeat first|refine aa ?_|intro _|refine dm ?_
 refine G.loop (α:=Nat) (fun i=>i≤r.back.l.length) (fun i=>[(1,au bb),(5,.bool false),(6,.bool false),(7,ab (i:Int))]) (fun _=>obj bb 79 [.string r.name,.bool r.spawn,ab r.level,ab r.time,ab r.chance,ab r.of_,.slice r.take.ad r.take.l.length r.take.cap,.slice r.give.ad r.give.l.length r.give.cap,.slice r.back.ad r.back.l.length r.back.cap]::isl bL 2 r.take.ad r.take.l::isl bL 2 r.give.ad r.give.l::isl bL 2 r.back.ad r.back.l::L) (fun i=>r.back.l.length - i) 0 (ao _) aj (Ent.refl _) ?_;intro i hi;by_cases hlt:i<r.back.l.length
 case neg =>
  repeat first|refine aa ?_|intro _|refine dm ?_
  rw[aF (show ¬(r.of_<r.chance) by omega)];exact KX.d7 ai ag ⟨rfl,rfl⟩
 have hii:(i:Int).toNat=i:=ac;have hle:=hcont _ (aI hlt);repeat first|refine aa ?_|intro _|refine dm ?_
 refine GPW.ef (Ef.d7 (pY n r.back.ad r.back.l.length r.back.cap r.back.l rfl ac hgb r.back.l[(i:Int).toNat]!.1) rfl) ae ?_;rintro _ _⟨rfl,rfl⟩;repeat first|refine aa ?_|intro _|refine dm ?_
 refine GPW.ef (Ef.d7 (pY n r.take.ad r.take.l.length r.take.cap r.take.l rfl ac hgt r.back.l[(i:Int).toNat]!.1) rfl) ae ?_;rintro _ _⟨rfl,rfl⟩;rw[hii];repeat first|refine aa ?_|intro _|refine dm ?_
 rw[aF (show ¬(fZ r.take.l r.back.l[i]!.1<fZ r.back.l r.back.l[i]!.1) by omega)];refine⟨i+1,ac,ac,?_,by exact ag⟩;rw[aP i];exact aj
abbrev tStr:Nat:=9
structure StrS where
 l:List ByteArray
 ad:OA
 cap:Nat
 deriving Inhabited
def lW(a:StrS):LV:=[.slice a.ad a.l.length a.cap]
def strP(a:StrS):HP:=isl dX 1 a.ad a.l
theorem rE(a:StrS):PersM (strP a):=bT _ _ _ _
def ix(a:AmS):LV:=[.slice a.ad a.l.length a.cap]
theorem sv(a:AmS):∀u∈ix a,u.oneCell' = true:=by simp[ix,Value.oneCell']
theorem jT{α β:Type}[Inhabited α](f:α→β){xs:List α}{i:Nat}(h:i<xs.length):(xs.take i).map f++[f xs[i]!]=(xs.take (i+1)).map f:=by
 rw[aC h,aZ,getElem!_of h];rfl
theorem gO{α β:Type}(f:α→β){xs:List α}{i:Nat}(h:i≤xs.length):((xs.take i).map f).length=i:=by rw[aG,aY];omega
theorem yX{L:LH}(c:CatV)(hB:c.B):Tri ah 83 #[.agg c.cells.toArray] (catS c L) (fun v L'=>∃bn NN,v=.slice (some ⟨bn,0,none⟩) 4 4∧(NN.map StrS.l=[c.items.map (·.name),c.rules.map (·.name),c.tables.map (·.name),c.taxes.map (·.name)]∧∀x∈NN,x.l.length≤x.cap)∧L' = isl lW 1 (some ⟨bn,0,none⟩) NN::allP strP NN::catS c L):=by
 have hb0:=hB.items;have hb1:=hB.rules;have hb2:=hB.tables;have hb3:=hB.taxes;refine Tri.body (args:=[.agg c.cells.toArray]) 80 en83 Tryz.func83 rfl rfl rfl (by simp) ?_;simp only[CatV.cells,catS];repeat first|((fail_if_success (with_reducible refine G.atS 1 ?_));(with_reducible apply G.seq))|refine bB ?_|intro
 rename_i b1;repeat first|((fail_if_success (with_reducible refine G.e7 2 ?_));(with_reducible apply G.seq))|refine bB ?_|intro
 refine G.d9 (α:=OA×Nat) (fun z=>c.items.length≤z.2) (fun z=>[(1,au b1),(3,.slice z.1 c.items.length z.2),(4,.slice none 0 0),(5,.slice none 0 0),(6,.slice none 0 0)]) (fun z=>isl dX 1 z.1 (c.items.map (·.name))::obj b1 tCat [.slice c.iad c.items.length c.icap,.slice c.rad c.rules.length c.rcap,.slice c.tad c.tables.length c.tcap,.slice c.xad c.taxes.length c.xcap]::isl bS 7 c.iad c.items::isl bQ 9 c.rad c.rules::allP ruP c.rules::isl cj 2 c.tad c.tables::allP tbP c.tables::isl cq 2 c.xad c.taxes::allP txP c.taxes::L) ?_ ?_
 ·repeat first|refine aa ?_|intro
  refine G.loop (α:=Nat×OA×Nat) (fun z=>z.1≤c.items.length) (fun z=>[(1,au b1),(3,.slice z.2.1 z.1 z.2.2),(4,.slice none 0 0),(5,.slice none 0 0),(6,.slice none 0 0),(7,ab (z.1:Int))]) (fun z=>osl dX 1 tStr z.2.1 z.2.2 ((c.items.take z.1).map (·.name))::obj b1 tCat [.slice c.iad c.items.length c.icap,.slice c.rad c.rules.length c.rcap,.slice c.tad c.tables.length c.tcap,.slice c.xad c.taxes.length c.xcap]::isl bS 7 c.iad c.items::isl bQ 9 c.rad c.rules::allP ruP c.rules::isl cj 2 c.tad c.tables::allP tbP c.tables::isl cq 2 c.xad c.taxes::allP txP c.taxes::L) (fun z=>c.items.length - z.1) (0,none,0) (ao _) aj (Ent.d8 dX 1 tStr) ?_;rintro⟨i,ad',cap'⟩ hi;dsimp only at hi ⊢;have hml:=gO (fun x:ItG=>x.name) hi;by_cases hlt:i<c.items.length
  case neg =>
   have hin:i=c.items.length:=ac;refine G.f7 (fI (ad:=ad')) ?_;rintro⟨hcp,_⟩;rw[hml,hin] at hcp;rw[aD ac,hin];repeat first|refine aa ?_|intro
   exact⟨(ad',cap'),hcp,aj,Ent.frz ad'⟩
  have hii:(i:Int).toNat=i:=ac;have e:=jT (fun x:ItG=>x.name) hlt;repeat first|refine aa ?_|intro
  rw[hii];repeat first|refine aa ?_|intro
  refine GO.ef (Ef.d8 (enc:=dX) (e:=c.items[i]!.name) rfl rfl rfl hml.symm rfl (by rfl) (lL _) ac ac) ae ?_;rintro _ _⟨ad2,cap2,rfl,rfl⟩;rw[e];repeat first|refine aa ?_|intro
  refine⟨(i+1,ad2,cap2),by dsimp only;omega,by dsimp only;omega,?_,by exact ag⟩;dsimp only;rw[aP i];rw[gO (fun x:ItG=>x.name) (show i+1≤c.items.length by omega)];exact aj
 rintro⟨a0,c0⟩ hq0;dsimp only at hq0 ⊢;repeat first|((fail_if_success (with_reducible refine G.e7 6 ?_));(with_reducible apply G.seq))|refine bB ?_|intro
 refine G.d9 (α:=OA×Nat) (fun z=>c.rules.length≤z.2) (fun z=>[(1,au b1),(3,.slice a0 c.items.length c0),(4,.slice z.1 c.rules.length z.2),(5,.slice none 0 0),(6,.slice none 0 0)]) (fun z=>isl dX 1 z.1 (c.rules.map (·.name))::isl dX 1 a0 (c.items.map (·.name))::obj b1 tCat [.slice c.iad c.items.length c.icap,.slice c.rad c.rules.length c.rcap,.slice c.tad c.tables.length c.tcap,.slice c.xad c.taxes.length c.xcap]::isl bS 7 c.iad c.items::isl bQ 9 c.rad c.rules::allP ruP c.rules::isl cj 2 c.tad c.tables::allP tbP c.tables::isl cq 2 c.xad c.taxes::allP txP c.taxes::L) ?_ ?_
 ·repeat first|refine aa ?_|intro
  refine G.loop (α:=Nat×OA×Nat) (fun z=>z.1≤c.rules.length) (fun z=>[(1,au b1),(3,.slice a0 c.items.length c0),(4,.slice z.2.1 z.1 z.2.2),(5,.slice none 0 0),(6,.slice none 0 0),(8,ab (z.1:Int))]) (fun z=>osl dX 1 tStr z.2.1 z.2.2 ((c.rules.take z.1).map (·.name))::isl dX 1 a0 (c.items.map (·.name))::obj b1 tCat [.slice c.iad c.items.length c.icap,.slice c.rad c.rules.length c.rcap,.slice c.tad c.tables.length c.tcap,.slice c.xad c.taxes.length c.xcap]::isl bS 7 c.iad c.items::isl bQ 9 c.rad c.rules::allP ruP c.rules::isl cj 2 c.tad c.tables::allP tbP c.tables::isl cq 2 c.xad c.taxes::allP txP c.taxes::L) (fun z=>c.rules.length - z.1) (0,none,0) (ao _) aj (Ent.d8 dX 1 tStr) ?_;rintro⟨i,ad',cap'⟩ hi;dsimp only at hi ⊢;have hml:=gO (fun x:RuV=>x.name) hi;by_cases hlt:i<c.rules.length
  case neg =>
   have hin:i=c.rules.length:=ac;refine G.f7 (fI (ad:=ad')) ?_;rintro⟨hcp,_⟩;rw[hml,hin] at hcp;rw[aD ac,hin];repeat first|refine aa ?_|intro
   exact⟨(ad',cap'),hcp,aj,Ent.frz ad'⟩
  have hii:(i:Int).toNat=i:=ac;have e:=jT (fun x:RuV=>x.name) hlt;repeat first|refine aa ?_|intro
  rw[hii];repeat first|refine aa ?_|intro
  refine GO.ef (Ef.d8 (enc:=dX) (e:=c.rules[i]!.name) rfl rfl rfl hml.symm rfl (by rfl) (lL _) ac ac) ae ?_;rintro _ _⟨ad2,cap2,rfl,rfl⟩;rw[e];repeat first|refine aa ?_|intro
  refine⟨(i+1,ad2,cap2),by dsimp only;omega,by dsimp only;omega,?_,by exact ag⟩;dsimp only;rw[aP i];rw[gO (fun x:RuV=>x.name) (show i+1≤c.rules.length by omega)];exact aj
 rintro⟨a1,c1⟩ hq1;dsimp only at hq1 ⊢;repeat first|((fail_if_success (with_reducible refine G.e7 10 ?_));(with_reducible apply G.seq))|refine bB ?_|intro
 refine G.d9 (α:=OA×Nat) (fun z=>c.tables.length≤z.2) (fun z=>[(1,au b1),(3,.slice a0 c.items.length c0),(4,.slice a1 c.rules.length c1),(5,.slice z.1 c.tables.length z.2),(6,.slice none 0 0)]) (fun z=>isl dX 1 z.1 (c.tables.map (·.name))::isl dX 1 a1 (c.rules.map (·.name))::isl dX 1 a0 (c.items.map (·.name))::obj b1 tCat [.slice c.iad c.items.length c.icap,.slice c.rad c.rules.length c.rcap,.slice c.tad c.tables.length c.tcap,.slice c.xad c.taxes.length c.xcap]::isl bS 7 c.iad c.items::isl bQ 9 c.rad c.rules::allP ruP c.rules::isl cj 2 c.tad c.tables::allP tbP c.tables::isl cq 2 c.xad c.taxes::allP txP c.taxes::L) ?_ ?_
 ·repeat first|refine aa ?_|intro
  refine G.loop (α:=Nat×OA×Nat) (fun z=>z.1≤c.tables.length) (fun z=>[(1,au b1),(3,.slice a0 c.items.length c0),(4,.slice a1 c.rules.length c1),(5,.slice z.2.1 z.1 z.2.2),(6,.slice none 0 0),(9,ab (z.1:Int))]) (fun z=>osl dX 1 tStr z.2.1 z.2.2 ((c.tables.take z.1).map (·.name))::isl dX 1 a1 (c.rules.map (·.name))::isl dX 1 a0 (c.items.map (·.name))::obj b1 tCat [.slice c.iad c.items.length c.icap,.slice c.rad c.rules.length c.rcap,.slice c.tad c.tables.length c.tcap,.slice c.xad c.taxes.length c.xcap]::isl bS 7 c.iad c.items::isl bQ 9 c.rad c.rules::allP ruP c.rules::isl cj 2 c.tad c.tables::allP tbP c.tables::isl cq 2 c.xad c.taxes::allP txP c.taxes::L) (fun z=>c.tables.length - z.1) (0,none,0) (ao _) aj (Ent.d8 dX 1 tStr) ?_;rintro⟨i,ad',cap'⟩ hi;dsimp only at hi ⊢;have hml:=gO (fun x:TbV=>x.name) hi;by_cases hlt:i<c.tables.length
  case neg =>
   have hin:i=c.tables.length:=ac;refine G.f7 (fI (ad:=ad')) ?_;rintro⟨hcp,_⟩;rw[hml,hin] at hcp;rw[aD ac,hin];repeat first|refine aa ?_|intro
   exact⟨(ad',cap'),hcp,aj,Ent.frz ad'⟩
  have hii:(i:Int).toNat=i:=ac;have e:=jT (fun x:TbV=>x.name) hlt;repeat first|refine aa ?_|intro
  rw[hii];repeat first|refine aa ?_|intro
  refine GO.ef (Ef.d8 (enc:=dX) (e:=c.tables[i]!.name) rfl rfl rfl hml.symm rfl (by rfl) (lL _) ac ac) ae ?_;rintro _ _⟨ad2,cap2,rfl,rfl⟩;rw[e];repeat first|refine aa ?_|intro
  refine⟨(i+1,ad2,cap2),by dsimp only;omega,by dsimp only;omega,?_,by exact ag⟩;dsimp only;rw[aP i];rw[gO (fun x:TbV=>x.name) (show i+1≤c.tables.length by omega)];exact aj
 rintro⟨a2,c2⟩ hq2;dsimp only at hq2 ⊢;repeat first|((fail_if_success (with_reducible refine G.e7 14 ?_));(with_reducible apply G.seq))|refine bB ?_|intro
 refine G.d9 (α:=OA×Nat) (fun z=>c.taxes.length≤z.2) (fun z=>[(1,au b1),(3,.slice a0 c.items.length c0),(4,.slice a1 c.rules.length c1),(5,.slice a2 c.tables.length c2),(6,.slice z.1 c.taxes.length z.2)]) (fun z=>isl dX 1 z.1 (c.taxes.map (·.name))::isl dX 1 a2 (c.tables.map (·.name))::isl dX 1 a1 (c.rules.map (·.name))::isl dX 1 a0 (c.items.map (·.name))::obj b1 tCat [.slice c.iad c.items.length c.icap,.slice c.rad c.rules.length c.rcap,.slice c.tad c.tables.length c.tcap,.slice c.xad c.taxes.length c.xcap]::isl bS 7 c.iad c.items::isl bQ 9 c.rad c.rules::allP ruP c.rules::isl cj 2 c.tad c.tables::allP tbP c.tables::isl cq 2 c.xad c.taxes::allP txP c.taxes::L) ?_ ?_
 ·repeat first|refine aa ?_|intro
  refine G.loop (α:=Nat×OA×Nat) (fun z=>z.1≤c.taxes.length) (fun z=>[(1,au b1),(3,.slice a0 c.items.length c0),(4,.slice a1 c.rules.length c1),(5,.slice a2 c.tables.length c2),(6,.slice z.2.1 z.1 z.2.2),(10,ab (z.1:Int))]) (fun z=>osl dX 1 tStr z.2.1 z.2.2 ((c.taxes.take z.1).map (·.name))::isl dX 1 a2 (c.tables.map (·.name))::isl dX 1 a1 (c.rules.map (·.name))::isl dX 1 a0 (c.items.map (·.name))::obj b1 tCat [.slice c.iad c.items.length c.icap,.slice c.rad c.rules.length c.rcap,.slice c.tad c.tables.length c.tcap,.slice c.xad c.taxes.length c.xcap]::isl bS 7 c.iad c.items::isl bQ 9 c.rad c.rules::allP ruP c.rules::isl cj 2 c.tad c.tables::allP tbP c.tables::isl cq 2 c.xad c.taxes::allP txP c.taxes::L) (fun z=>c.taxes.length - z.1) (0,none,0) (ao _) aj (Ent.d8 dX 1 tStr) ?_;rintro⟨i,ad',cap'⟩ hi;dsimp only at hi ⊢;have hml:=gO (fun x:TxV=>x.name) hi;by_cases hlt:i<c.taxes.length
  case neg =>
   have hin:i=c.taxes.length:=ac;refine G.f7 (fI (ad:=ad')) ?_;rintro⟨hcp,_⟩;rw[hml,hin] at hcp;rw[aD ac,hin];repeat first|refine aa ?_|intro
   exact⟨(ad',cap'),hcp,aj,Ent.frz ad'⟩
  have hii:(i:Int).toNat=i:=ac;have e:=jT (fun x:TxV=>x.name) hlt;repeat first|refine aa ?_|intro
  rw[hii];repeat first|refine aa ?_|intro
  refine GO.ef (Ef.d8 (enc:=dX) (e:=c.taxes[i]!.name) rfl rfl rfl hml.symm rfl (by rfl) (lL _) ac ac) ae ?_;rintro _ _⟨ad2,cap2,rfl,rfl⟩;rw[e];repeat first|refine aa ?_|intro
  refine⟨(i+1,ad2,cap2),by dsimp only;omega,by dsimp only;omega,?_,by exact ag⟩;dsimp only;rw[aP i];rw[gO (fun x:TxV=>x.name) (show i+1≤c.taxes.length by omega)];exact aj
 rintro⟨a3,c3⟩ hq3;dsimp only at hq3 ⊢;repeat first|refine aa ?_|intro
 rename_i bn;obtain⟨NN,hNN⟩:∃NN:List StrS,NN=[⟨c.items.map (·.name),a0,c0⟩,⟨c.rules.map (·.name),a1,c1⟩,⟨c.tables.map (·.name),a2,c2⟩,⟨c.taxes.map (·.name),a3,c3⟩]:=⟨_,rfl⟩;refine KX.d7 ai ?_ ⟨bn,NN,rfl,⟨by rw[hNN];rfl,?_⟩,rfl⟩
 ·refine(Ent.f9 (enc:=lW) (sz:=1) (b:=bn) NN (by rw[hNN];simp[lW]) (fun x _=>rfl) (by rw[hNN];exact ay rfl)).trans ?_;refine Ent.trans (B:=strP ⟨c.items.map (·.name),a0,c0⟩::strP ⟨c.rules.map (·.name),a1,c1⟩::strP ⟨c.tables.map (·.name),a2,c2⟩::strP ⟨c.taxes.map (·.name),a3,c3⟩::allP strP []::isl lW 1 (some ⟨bn,0,none⟩) NN::catS c L) ?_ ?_
  ·refine(Ent.e7 strP).trans ?_;simp only[strP,catS];exact ag
  ·refine(Ent.d7 (Ent.d7 (Ent.d7 (Ent.f8 rE)))).trans ((Ent.d7 (Ent.d7 (Ent.f8 rE))).trans ((Ent.d7 (Ent.f8 rE)).trans ((Ent.f8 rE).trans ?_)));rw[←hNN];exact Ent.perm (List.Perm.swap _ _ _)
 ·rw[hNN];intro x hx;simp only[bj,aT,or_false] at hx;rcases hx with rfl|rfl|rfl|rfl<;>(dsimp only;rw[aG];assumption)
def lsR(rs:List RuV):List AmS:=rs.flatMap fun r=>[r.take,r.give,r.back]
def lsW(t:TbV):List AmS:=t.rows.map (·.give)
def lsT(ts:List TbV):List AmS:=ts.flatMap lsW
theorem Er{rs:List RuV}{i:Nat}(h:i<rs.length):lsR (rs.take i)++[rs[i]!.take,rs[i]!.give,rs[i]!.back]=lsR (rs.take (i+1)):=by
 unfold lsR;rw[aC h,cM,getElem!_of h];simp
theorem Eq{ts:List TbV}{i:Nat}(h:i<ts.length):lsT (ts.take i)++lsW ts[i]! = lsT (ts.take (i+1)):=by
 unfold lsT;rw[aC h,cM,getElem!_of h];simp
theorem sW(rs:List RuV):(lsR rs).length=3*rs.length:=by
 unfold lsR;induction rs with
 | nil=>rfl
 | cons r rs ih=>rw[bY,az,ih];simp only[bD,cH];omega
theorem zA{ts:List TbV}(h:∀t∈ts,t.rows.length≤64):(lsT ts).length≤64*ts.length:=by
 unfold lsT;induction ts with
 | nil=>exact aB _
 | cons t ts ih =>
  have h1:=ih (fun t ht=>h t (av _ ht));have h2:=h t (aw);rw[bY,az];simp only[lsW,aG,bD];omega
abbrev rz:Nat:=77
abbrev CE:List Stp:=[.ev 0,.ev 1,.ev 2,.ev 3,.ev 4,.ev 5,.ev 6,.ev 7,.ev 8,.ev 9,.ev 10,.ev 11,.ev 12,.ev 13,.ev 14,.ev 15,.ev 16,.ev 17,.ev 18,.ef 19,.ef 20,.ev 21]
theorem cY{φ ψ:Prop}(k:ψ)(h:Hid ψ→φ:=by intro k;(with_reducible apply G.d8);first|refine G.d7 (N:=67) (id:=5) CE mixed ap (Hid.out k)):φ:=h ⟨k⟩
theorem za{L:LH}(c:CatV)(hB:c.B):Tri ah 90 #[.agg c.cells.toArray] (catS c L) (fun v L'=>∃ad cap,v=.slice ad (lsR c.rules++lsT c.tables).length cap∧L' = isl ix 1 ad (lsR c.rules++lsT c.tables)::catS c L):=by
 have hb1:=hB.rules;have hb2:=hB.tables;refine Tri.body (args:=[.agg c.cells.toArray]) 67 en90 Tryz.func90 rfl rfl rfl (by simp) ?_;simp only[CatV.cells,catS];repeat first|((fail_if_success (with_reducible refine G.atS 1 ?_));(with_reducible apply G.seq))|refine bB ?_|intro _|refine cY ?_
 rename_i b1;repeat first|((fail_if_success (with_reducible refine G.e7 2 ?_));(with_reducible apply G.seq))|refine bB ?_|intro _|refine cY ?_
 refine G.d9 (α:=OA×Nat) (fun _=>True) (fun z=>[(1,au b1),(3,.slice z.1 (lsR c.rules).length z.2)]) (fun z=>osl ix 1 rz z.1 z.2 (lsR c.rules)::obj b1 tCat [.slice c.iad c.items.length c.icap,.slice c.rad c.rules.length c.rcap,.slice c.tad c.tables.length c.tcap,.slice c.xad c.taxes.length c.xcap]::isl bS 7 c.iad c.items::isl bQ 9 c.rad c.rules::allP ruP c.rules::isl cj 2 c.tad c.tables::allP tbP c.tables::isl cq 2 c.xad c.taxes::allP txP c.taxes::L) ?_ ?_
 ·repeat first|refine aa ?_|intro _|refine cY ?_
  refine G.loop (α:=Nat×OA×Nat) (fun z=>z.1≤c.rules.length) (fun z=>[(1,au b1),(3,.slice z.2.1 (lsR (c.rules.take z.1)).length z.2.2),(4,ab (z.1:Int))]) (fun z=>osl ix 1 rz z.2.1 z.2.2 (lsR (c.rules.take z.1))::obj b1 tCat [.slice c.iad c.items.length c.icap,.slice c.rad c.rules.length c.rcap,.slice c.tad c.tables.length c.tcap,.slice c.xad c.taxes.length c.xcap]::isl bS 7 c.iad c.items::isl bQ 9 c.rad c.rules::allP ruP c.rules::isl cj 2 c.tad c.tables::allP tbP c.tables::isl cq 2 c.xad c.taxes::allP txP c.taxes::L) (fun z=>c.rules.length - z.1) (0,none,0) (ao _) aj (Ent.d8 ix 1 rz) ?_;rintro⟨i,ad',cap'⟩ hi;dsimp only at hi ⊢;by_cases hlt:i<c.rules.length
  case neg =>
   rw[aD ac];repeat first|refine aa ?_|intro _|refine cY ?_
   exact⟨(ad',cap'),trivial,aj,Ent.refl _⟩
  have hii:(i:Int).toNat=i:=ac;have e:=Er hlt;have hll:=sW (c.rules.take i);have htl:(c.rules.take i).length=i:=by rw[aY];omega
  repeat first|refine aa ?_|intro _|refine cY ?_
  rename_i bs;refine GPW.ent (Ent.f9 (enc:=ix) (sz:=1) (b:=bs) [c.rules[(i:Int).toNat]!.take,c.rules[(i:Int).toNat]!.give,c.rules[(i:Int).toNat]!.back] (by simp[ix]) (fun x _=>rfl) (ay rfl)) ?_;have h3:([c.rules[(i:Int).toNat]!.take,c.rules[(i:Int).toNat]!.give,c.rules[(i:Int).toNat]!.back]).length=3:=rfl;refine GPW.ef (Ef.e7 (enc:=ix) rfl rfl rfl rfl h3.symm (fun e _=>sv e) ac ac) ae ?_;rintro _ _⟨ad2,cap2,rfl,rfl⟩;rw[hii,e];repeat first|refine aa ?_|intro _|refine cY ?_
  refine⟨(i+1,ad2,cap2),by dsimp only;omega,by dsimp only;omega,?_,by exact ag⟩;dsimp only;rw[aP i];exact aj
 rintro⟨a0,c0⟩ _;dsimp only;have hlr:=sW c.rules;repeat first|refine aa ?_|intro _|refine cY ?_
 refine G.loop (α:=Nat×OA×Nat) (fun z=>z.1≤c.tables.length) (fun z=>[(1,au b1),(3,.slice z.2.1 (lsR c.rules++lsT (c.tables.take z.1)).length z.2.2),(5,ab (z.1:Int))]) (fun z=>osl ix 1 rz z.2.1 z.2.2 (lsR c.rules++lsT (c.tables.take z.1))::obj b1 tCat [.slice c.iad c.items.length c.icap,.slice c.rad c.rules.length c.rcap,.slice c.tad c.tables.length c.tcap,.slice c.xad c.taxes.length c.xcap]::isl bS 7 c.iad c.items::isl bQ 9 c.rad c.rules::allP ruP c.rules::isl cj 2 c.tad c.tables::allP tbP c.tables::isl cq 2 c.xad c.taxes::allP txP c.taxes::L) (fun z=>c.tables.length - z.1) (0,a0,c0) (ao _) ?_ ?_ ?_
 ·dsimp only;rw[show lsT (c.tables.take 0)=[] from rfl,ba];exact aj
 ·dsimp only;rw[show lsT (c.tables.take 0)=[] from rfl,ba];exact Ent.refl _
 rintro⟨i,ad',cap'⟩ hi;dsimp only at hi ⊢;by_cases hlt:i<c.tables.length
 case neg =>
  rw[aD ac];repeat first|refine aa ?_|intro _|refine cY ?_
  exact KX.d7 ai ((Ent.frz ad').trans ag) ⟨ad',cap',rfl,rfl⟩
 have hii:(i:Int).toNat=i:=ac;have hmem:=aI hlt;have htl:(c.tables.take i).length=i:=by rw[aY];omega
 have hlt2:=zA (ts:=c.tables.take i) (fun t ht=>(hB.tb t (cz ht)).1);obtain⟨t,ht⟩:∃t,c.tables[i]! = t:=⟨_,rfl⟩;have e:=Eq hlt;rw[ht] at hmem e;have htB:t.rows.length≤64:=(hB.tb t hmem).1;have hwl:(lsW t).length=t.rows.length:=by unfold lsW;simp
 refine G.ent (Ent.at (A:=allP tbP c.tables) ((Ent.d9 (f:=tbP) hmem).trans Ent.andE)) ?_;repeat first|refine aa ?_|intro _|refine cY ?_
 refine G.loop (α:=Nat×OA×Nat) (fun z=>z.1≤t.rows.length) (fun z=>[(1,au b1),(3,.slice z.2.1 (lsR c.rules++lsT (c.tables.take i)++(lsW t).take z.1).length z.2.2),(5,ab (i:Int)),(6,ab (z.1:Int))]) (fun z=>osl ix 1 rz z.2.1 z.2.2 (lsR c.rules++lsT (c.tables.take i)++(lsW t).take z.1)::isl eK 2 t.ad t.rows::allP rwP t.rows::obj b1 tCat [.slice c.iad c.items.length c.icap,.slice c.rad c.rules.length c.rcap,.slice c.tad c.tables.length c.tcap,.slice c.xad c.taxes.length c.xcap]::isl bS 7 c.iad c.items::isl bQ 9 c.rad c.rules::allP ruP c.rules::isl cj 2 c.tad c.tables::allP tbP c.tables::isl cq 2 c.xad c.taxes::allP txP c.taxes::L) (fun z=>t.rows.length - z.1) (0,ad',cap') (ao _) ?_ ?_ ?_
 ·dsimp only;rw[ce,ba];exact aj
 ·dsimp only;rw[ce,ba];exact ag
 rintro⟨k,ad1,cap1⟩ hk;dsimp only at hk ⊢;by_cases hlk:k<t.rows.length
 case neg =>
  have e3:(lsW t).take k=lsW t:=aD ac;rw[e3,aH,e];repeat first|refine aa ?_|intro _|refine cY ?_
  rw[hii,ht];repeat first|refine aa ?_|intro _|refine cY ?_
  refine⟨(i+1,ad1,cap1),by dsimp only;omega,by dsimp only;omega,?_,by exact ag⟩;dsimp only;rw[aP i];exact aj
 have hkk:(k:Int).toNat=k:=ac
 have e2:(lsW t).take k++[t.rows[k]!.give]=(lsW t).take (k+1):=by
  rw[aC ac,getElem!_of hlk];simp[lsW]
 have hkl:((lsW t).take k).length=k:=by rw[aY];omega
 have hal:(lsR c.rules++lsT (c.tables.take i)++(lsW t).take k).length=(lsR c.rules).length+(lsT (c.tables.take i)).length+k:=by rw[az,az,hkl]
 repeat first|refine aa ?_|intro _|refine cY ?_
 rw[hii,ht];repeat first|refine aa ?_|intro _|refine cY ?_
 rw[hii,ht];repeat first|refine aa ?_|intro _|refine cY ?_
 rw[hkk];repeat first|refine aa ?_|intro _|refine cY ?_
 refine GO.ef (Ef.d8 (enc:=ix) t.rows[k]!.give rfl rfl rfl rfl rfl (by rfl) (sv _) ac ac) ae ?_;rintro _ _⟨ad2,cap2,rfl,rfl⟩;rw[aH,e2];repeat first|refine aa ?_|intro _|refine cY ?_
 refine⟨(k+1,ad2,cap2),by dsimp only;omega,by dsimp only;omega,?_,by exact ag⟩;dsimp only;rw[aP k];exact aj
structure NmOk (x:StrS):Prop where
 len:x.l.length≤64
 cap:x.l.length≤x.cap
 word:∀s∈x.l,IsWord s
 nd:x.l.Nodup
theorem GT{c:CatV}(h:CatGood c.m){NN:List StrS}(hN:NN.map StrS.l=[c.items.map (·.name),c.rules.map (·.name),c.tables.map (·.name),c.taxes.map (·.name)]∧∀x∈NN,x.l.length≤x.cap):NN.length=4∧∀x∈NN,NmOk x:=by
 obtain⟨h1,h2⟩:=hN;obtain⟨l1,l2,l3,l4⟩:=lens h;refine⟨by have:=congrArg List.length h1;simpa using this,?_⟩;intro x hx;have hm:x.l∈NN.map StrS.l:=alStd0List_mem_map_of_mem hx;rw[h1] at hm;simp only[bj,aT,or_false] at hm;have hr:(c.m.rules.map (·.name))=c.rules.map (·.name):=by simp only[CatV.m,eM];rfl
 have ht:(c.m.tables.map (·.name))=c.tables.map (·.name):=by simp only[CatV.m,eM];rfl
 have hx' : (c.m.taxes.map (·.name))=c.taxes.map (·.name):=by simp only[CatV.m,eM];rfl
 refine⟨?_,h2 x hx,?_,?_⟩
 ·rcases hm with e|e|e|e<;>rw[e,aG]<;>omega
 ·intro s hs;rcases hm with e|e|e|e<;>rw[e] at hs<;>obtain⟨y,hy,rfl⟩:=List.mem_map.1 hs
  ·exact(h.it y hy).word
  ·exact(kc h y hy).word
  ·exact(ka h y hy).word
  ·exact(kS h y hy).word
 ·rcases hm with e|e|e|e<;>rw[e]
  ·exact h.di
  ·rw[←hr];exact h.dr
  ·rw[←ht];exact h.dt
  ·rw[←hx'];exact h.dx
theorem FL{xs:List ByteArray}(h:xs.Nodup){k:Nat}(hk:k<xs.length):xs[k]!∉xs.take k:=by
 intro hm;rw[getElem!_of hk] at hm;obtain⟨j,hj,e⟩:=List.getElem_of_mem hm;rw[aY] at hj;rw[dW] at e;have hj2:j<xs.length:=ac;have:=List.pairwise_iff_getElem.1 h j k hj2 hk ac
 exact this e
theorem FN{c:CatV}(hB:c.B)(h:CatGood c.m):∀a∈lsR c.rules++lsT c.tables,jg c.items.length a.l∧a.l.length≤64:=by
 intro a ha;rcases List.mem_append.1 ha with ha|ha
 ·obtain⟨r,hr,ha⟩:=List.mem_flatMap.1 ha;have hg:=kc h r hr;have hl:=hg.lim;change r.take.l.length+r.give.l.length≤64∧r.take.l.length+r.back.l.length≤64 at hl;simp only[bj,aT,or_false] at ha;rcases ha with rfl|rfl|rfl
  ·exact⟨hg.take,ac⟩
  ·exact⟨hg.give,ac⟩
  ·exact⟨hg.back,ac⟩
 ·obtain⟨t,ht,ha⟩:=List.mem_flatMap.1 ha;obtain⟨w,hw,rfl⟩:=List.mem_map.1 ha;exact⟨((ka h t ht).good _ (alStd0List_mem_map_of_mem hw)).give,(hB.tb t ht).2 w hw⟩
theorem Gx{c:CatV}{a:AmS}(h:a∈lsR c.rules++lsT c.tables){L:LH}:Ent (allP ruP c.rules::allP tbP c.tables::L) (amS a::allP ruP c.rules::allP tbP c.tables::L):=by
 rcases List.mem_append.1 h with h|h
 ·obtain⟨r,hr,ha⟩:=List.mem_flatMap.1 h;refine(Ent.d9 (f:=ruP) hr).trans (Ent.andE.trans ((Ent.d7 Ent.andE).trans ?_));simp only[bj,aT,or_false] at ha;rcases ha with rfl|rfl|rfl
  ·exact ag
  ·exact ag
  ·exact ag
 ·obtain⟨t,ht,ha⟩:=List.mem_flatMap.1 h;obtain⟨w,hw,rfl⟩:=List.mem_map.1 ha;refine(Ent.at (A:=allP tbP c.tables) ((Ent.d9 (f:=tbP) ht).trans (Ent.andE.trans (Ent.d7 (Ent.d9 (f:=rwP) hw))))).trans ?_;exact ag
theorem CW{c:CatV}{L:LH}:∀l:List AmS,(∀a∈l,a∈lsR c.rules++lsT c.tables)→Ent (allP ruP c.rules::allP tbP c.tables::L) (allP amS l::allP ruP c.rules::allP tbP c.tables::L)
 | [],_=>Ent.e7 amS
 | a::l,h=>by
  have h1:=Gx (L:=allP amS l::L) (h a aw);have h2:=CW (c:=c) (L:=L) l (fun x hx=>h x (av _ hx));refine h2.trans (Ent.trans (B:=allP ruP c.rules::allP tbP c.tables::allP amS l::L) ag (h1.trans (Ent.trans (B:=amS a::allP amS l::allP ruP c.rules::allP tbP c.tables::L) ag (Ent.f8 jf))))
def BI(b:Bool):LV:=[.bool b]
def no5:List Bool:=[false,false,false,false,false]
theorem Gs{i:Nat}(h:i<5):no5[i]! = false:=by
 have:i=0∨i=1∨i=2∨i=3∨i=4:=ac;rcases this with rfl|rfl|rfl|rfl|rfl<;>rfl
theorem FK:no5.length=5:=rfl
abbrev AD:List Stp:=[.ev 0,.ev 1,.ev 2,.ev 3,.ev 4,.ev 5,.ev 6,.ev 7,.ev 8,.ev 9,.ev 10,.ev 11,.ev 12,.ev 13,.ev 14,.ef 15,.ev 16,.ev 17]
abbrev AC:List Stp:=[.ev 0,.ev 1,.ev 2,.ev 3,.ev 4,.ev 5,.ev 6,.ev 7,.ev 8,.ev 9,.ev 10,.ev 11,.ev 12,.ev 13,.ev 14,.ev 15,.ev 16,.ev 17,.ev 18,.ev 19,.ev 20,.ev 21,.ev 22,.ev 23,.ev 24,.ev 25,.ev 26,.ev 27,.ev 28,.ev 29,.ev 30,.ev 31,.ev 32]
theorem aX{φ ψ:Prop}(k:ψ)(h:Hid ψ→φ:=by intro k;(with_reducible apply G.d8);first|refine G.d7 (N:=316) (id:=14) AD mixed ap (Hid.out k)|refine G.d7 (N:=316) (id:=51) AC mixed ap (Hid.out k)):φ:=h ⟨k⟩
theorem Ci{L:LH}(c:CatV)(hB:c.B)(h:CatGood c.m):Tri ah 34 #[.agg c.cells.toArray] (catS c L) (fun v L'=>v=ab 0∧L' = catS c L):=by
 obtain⟨l1,l2,l3,l4⟩:=lens h;refine Tri.body (args:=[.agg c.cells.toArray]) 316 en34 Tryz.func34 rfl rfl rfl (by simp) ?_;simp only[CatV.cells,catS];repeat first|((fail_if_success (with_reducible refine G.atS 1 ?_));(with_reducible apply G.seq))|refine bB ?_|intro _|refine aX ?_
 rename_i b1;repeat first|refine aa ?_|intro _|refine aX ?_
 rw[aF (show ¬((32:Int)<(c.taxes.length:Int)) by omega)];refine GO.ent (L':=catS c (obj b1 tCat [.slice c.iad c.items.length c.icap,.slice c.rad c.rules.length c.rcap,.slice c.tad c.tables.length c.tcap,.slice c.xad c.taxes.length c.xcap]::L)) (by simp only[catS];exact ag) ?_;refine GO.ef (Ef.d7 (yX c hB) rfl) ae ?_;rintro _ _⟨bn,NN,rfl,hNN,rfl⟩;obtain⟨hnl,hnm⟩:=GT h hNN;simp only[catS];repeat first|((fail_if_success (with_reducible refine G.e7 7 ?_));(with_reducible apply G.seq))|refine bB ?_|intro _|refine aX ?_
 refine G.d9 (α:=Unit) (fun _=>True) (fun _=>[(1,au b1),(3,.bool false),(4,.bool false),(5,.bool false),(6,.bool false),(7,.bool false)]) (fun _=>obj b1 tCat [.slice c.iad c.items.length c.icap,.slice c.rad c.rules.length c.rcap,.slice c.tad c.tables.length c.tcap,.slice c.xad c.taxes.length c.xcap]::isl bS 7 c.iad c.items::isl bQ 9 c.rad c.rules::allP ruP c.rules::isl cj 2 c.tad c.tables::allP tbP c.tables::isl cq 2 c.xad c.taxes::allP txP c.taxes::L) ?_ ?_
 ·repeat first|refine aa ?_|intro _|refine aX ?_
  refine G.loop (α:=Nat) (fun i=>i≤4) (fun i=>[(1,au b1),(3,.bool false),(4,.bool false),(5,.bool false),(6,.bool false),(7,.bool false),(8,.slice (some ⟨bn,0,none⟩) 4 4),(9,ab (i:Int))]) (fun _=>isl lW 1 (some ⟨bn,0,none⟩) NN::allP strP NN::obj b1 tCat [.slice c.iad c.items.length c.icap,.slice c.rad c.rules.length c.rcap,.slice c.tad c.tables.length c.tcap,.slice c.xad c.taxes.length c.xcap]::isl bS 7 c.iad c.items::isl bQ 9 c.rad c.rules::allP ruP c.rules::isl cj 2 c.tad c.tables::allP tbP c.tables::isl cq 2 c.xad c.taxes::allP txP c.taxes::L) (fun i=>4 - i) 0 (ao _) aj ag ?_;intro i hi;by_cases hlt:i<4
  case neg =>
   repeat first|refine aa ?_|intro _|refine aX ?_
   exact⟨(),trivial,aj,by exact ag⟩
  have hii:(i:Int).toNat=i:=ac;have hmem:NN[(i:Int).toNat]!∈NN:=aI ac;obtain⟨x1,x2,x3,x4⟩:=hnm _ hmem;refine G.ent (Ent.at (A:=allP strP NN) (Ent.d9 (f:=strP) hmem)) ?_;repeat first|refine aa ?_|intro _|refine aX ?_
  refine G.loop (α:=Nat) (fun k=>k≤NN[(i:Int).toNat]!.l.length) (fun k=>[(1,au b1),(3,.bool false),(4,.bool false),(5,.bool false),(6,.bool false),(7,.bool false),(8,.slice (some ⟨bn,0,none⟩) 4 4),(9,ab (i:Int)),(10,ab (k:Int))]) (fun _=>isl dX 1 NN[(i:Int).toNat]!.ad NN[(i:Int).toNat]!.l::isl lW 1 (some ⟨bn,0,none⟩) NN::allP strP NN::obj b1 tCat [.slice c.iad c.items.length c.icap,.slice c.rad c.rules.length c.rcap,.slice c.tad c.tables.length c.tcap,.slice c.xad c.taxes.length c.xcap]::isl bS 7 c.iad c.items::isl bQ 9 c.rad c.rules::allP ruP c.rules::isl cj 2 c.tad c.tables::allP tbP c.tables::isl cq 2 c.xad c.taxes::allP txP c.taxes::L) (fun k=>NN[(i:Int).toNat]!.l.length - k) 0 (ao _) aj (by unfold strP;exact ag) ?_;intro k hk;by_cases hlk:k<NN[(i:Int).toNat]!.l.length
  case neg =>
   repeat first|refine aa ?_|intro _|refine aX ?_
   refine⟨i+1,ac,ac,?_,by exact ag⟩;rw[aP i];exact aj
  have hkk:(k:Int).toNat=k:=ac;have hwd:IsWord NN[(i:Int).toNat]!.l[(k:Int).toNat]!:=by rw[hkk];exact x3 _ (aI hlk)
  have hni:NN[(i:Int).toNat]!.l[(k:Int).toNat]!∉NN[(i:Int).toNat]!.l.take k:=by rw[hkk];exact FL x4 hlk
  have htk:(NN[(i:Int).toNat]!.l.take k).length=k:=by rw[aY];omega
  repeat first|refine aa ?_|intro _|refine aX ?_
  refine GO.ef (Ef.d7 (zY _ hwd) rfl) ae ?_;rintro _ _⟨rfl,rfl⟩;repeat first|refine aa ?_|intro _|refine aX ?_
  refine GPW.ef (Ef.d7 (Ez (hrd:=Rds.take (xs:=NN[(i:Int).toNat]!.l) inferInstance k) NN[(i:Int).toNat]!.ad (k:Int).toNat NN[(i:Int).toNat]!.cap (NN[(i:Int).toNat]!.l.take k) ac ac NN[(i:Int).toNat]!.l[(k:Int).toNat]! hni) rfl) ae ?_;rintro _ _⟨rfl,rfl⟩;repeat first|refine aa ?_|intro _|refine aX ?_
  refine⟨k+1,ac,ac,?_,by exact ag⟩;rw[aP k];exact aj
 rintro _ _;repeat first|((fail_if_success (with_reducible refine G.e7 15 ?_));(with_reducible apply G.seq))|refine bB ?_|intro _|refine aX ?_
 refine G.d9 (α:=Unit) (fun _=>True) (fun _=>[(1,au b1),(3,.bool false),(4,.bool false),(5,.bool false),(6,.bool false),(7,.bool false)]) (fun _=>obj b1 tCat [.slice c.iad c.items.length c.icap,.slice c.rad c.rules.length c.rcap,.slice c.tad c.tables.length c.tcap,.slice c.xad c.taxes.length c.xcap]::isl bS 7 c.iad c.items::isl bQ 9 c.rad c.rules::allP ruP c.rules::isl cj 2 c.tad c.tables::allP tbP c.tables::isl cq 2 c.xad c.taxes::allP txP c.taxes::L) ?_ ?_
 ·repeat first|refine aa ?_|intro _|refine aX ?_
  refine G.loop (α:=Nat) (fun i=>i≤c.items.length) (fun i=>[(1,au b1),(3,.bool false),(4,.bool false),(5,.bool false),(6,.bool false),(7,.bool false),(11,ab (i:Int))]) (fun _=>obj b1 tCat [.slice c.iad c.items.length c.icap,.slice c.rad c.rules.length c.rcap,.slice c.tad c.tables.length c.tcap,.slice c.xad c.taxes.length c.xcap]::isl bS 7 c.iad c.items::isl bQ 9 c.rad c.rules::allP ruP c.rules::isl cj 2 c.tad c.tables::allP tbP c.tables::isl cq 2 c.xad c.taxes::allP txP c.taxes::L) (fun i=>c.items.length - i) 0 (ao _) aj (Ent.refl _) ?_;intro i hi;by_cases hlt:i<c.items.length
  case neg =>
   repeat first|refine aa ?_|intro _|refine aX ?_
   exact⟨(),trivial,aj,Ent.refl _⟩
  have hii:(i:Int).toNat=i:=ac;have hit:=h.it _ (aI hlt);repeat first|((fail_if_success (with_reducible refine G.atS 18 ?_));(with_reducible apply G.seq))|refine bB ?_|intro _|refine aX ?_
  repeat first|((fail_if_success (with_reducible refine G.atS 19 ?_));(with_reducible apply G.seq))|refine bB ?_|intro _|refine aX ?_
  rw[hii];obtain⟨x,hx⟩:∃x,c.items[i]! = x:=⟨_,rfl⟩;change ItGood c.items[i]! at hit;rw[hx] at hit ⊢;repeat first|refine aa ?_|intro _|refine aX ?_
  refine GO.ef (Ef.d7 (ta x hit) rfl) ae ?_;rintro _ _⟨rfl,rfl⟩;obtain⟨_,_,hn1,hn2,hn3⟩:=hit;simp only[bS];by_cases ho:x.obj=true
  ·obtain⟨hw1,hw2⟩:=hn1 ho;rw[ho];repeat first|refine aa ?_|intro _|refine aX ?_
   refine⟨i+1,ac,ac,?_,by exact ag⟩;rw[aP i,aF (show ¬((0:Int)=1) by decide),aF (show ¬(1048576<x.wear) by omega)];exact aj
  ·have ho' : x.obj=false:=by simpa using ho
   rw[ho'];repeat first|refine aa ?_|intro _|refine aX ?_
   refine⟨i+1,ac,ac,?_,by exact ag⟩;rw[aP i,aF (show ¬((0:Int)=1) by decide)];exact aj
 rintro _ _;repeat first|((fail_if_success (with_reducible refine G.e7 22 ?_));(with_reducible apply G.seq))|refine bB ?_|intro _|refine aX ?_
 refine G.d9 (α:=Unit) (fun _=>True) (fun _=>[(1,au b1),(3,.bool false),(4,.bool false),(5,.bool false),(6,.bool false),(7,.bool false)]) (fun _=>obj b1 tCat [.slice c.iad c.items.length c.icap,.slice c.rad c.rules.length c.rcap,.slice c.tad c.tables.length c.tcap,.slice c.xad c.taxes.length c.xcap]::isl bS 7 c.iad c.items::isl bQ 9 c.rad c.rules::allP ruP c.rules::isl cj 2 c.tad c.tables::allP tbP c.tables::isl cq 2 c.xad c.taxes::allP txP c.taxes::L) ?_ ?_
 ·repeat first|refine aa ?_|intro _|refine aX ?_
  refine G.loop (α:=Nat) (fun i=>i≤c.rules.length) (fun i=>[(1,au b1),(3,.bool false),(4,.bool false),(5,.bool false),(6,.bool false),(7,.bool false),(14,ab (i:Int))]) (fun _=>obj b1 tCat [.slice c.iad c.items.length c.icap,.slice c.rad c.rules.length c.rcap,.slice c.tad c.tables.length c.tcap,.slice c.xad c.taxes.length c.xcap]::isl bS 7 c.iad c.items::isl bQ 9 c.rad c.rules::allP ruP c.rules::isl cj 2 c.tad c.tables::allP tbP c.tables::isl cq 2 c.xad c.taxes::allP txP c.taxes::L) (fun i=>c.rules.length - i) 0 (ao _) aj (Ent.refl _) ?_;intro i hi;by_cases hlt:i<c.rules.length
  case neg =>
   repeat first|refine aa ?_|intro _|refine aX ?_
   exact⟨(),trivial,aj,Ent.refl _⟩
  have hii:(i:Int).toNat=i:=ac;have hmem:=aI hlt;have hr:=kc h _ hmem;refine G.ent (Ent.at (A:=allP ruP c.rules) ((Ent.d9 (f:=ruP) hmem).trans (Ent.andE.trans (Ent.d7 Ent.andE)))) ?_;repeat first|refine aa ?_|intro _|refine aX ?_
  rw[hii];refine GO.ent (L':=isl bL 2 c.rules[i]!.take.ad c.rules[i]!.take.l::isl bL 2 c.rules[i]!.give.ad c.rules[i]!.give.l::isl bL 2 c.rules[i]!.back.ad c.rules[i]!.back.l::obj b1 tCat [.slice c.iad c.items.length c.icap,.slice c.rad c.rules.length c.rcap,.slice c.tad c.tables.length c.tcap,.slice c.xad c.taxes.length c.xcap]::isl bS 7 c.iad c.items::isl bQ 9 c.rad c.rules::allP ruP c.rules::isl cj 2 c.tad c.tables::allP tbP c.tables::isl cq 2 c.xad c.taxes::allP txP c.taxes::L) (by simp only[amS];exact ag) ?_;refine GO.ef (Ef.d7 (rM c.items.length c.rules[i]! hr) rfl) ae ?_;rintro _ _⟨rfl,rfl⟩;repeat first|refine aa ?_|intro _|refine aX ?_
  refine⟨i+1,ac,ac,?_,by exact ag⟩;rw[aP i];exact aj
 rintro _ _;repeat first|((fail_if_success (with_reducible refine G.e7 29 ?_));(with_reducible apply G.seq))|refine bB ?_|intro _|refine aX ?_
 refine G.d9 (α:=Unit) (fun _=>True) (fun _=>[(1,au b1),(3,.bool false),(4,.bool false),(5,.bool false),(6,.bool false),(7,.bool false)]) (fun _=>obj b1 tCat [.slice c.iad c.items.length c.icap,.slice c.rad c.rules.length c.rcap,.slice c.tad c.tables.length c.tcap,.slice c.xad c.taxes.length c.xcap]::isl bS 7 c.iad c.items::isl bQ 9 c.rad c.rules::allP ruP c.rules::isl cj 2 c.tad c.tables::allP tbP c.tables::isl cq 2 c.xad c.taxes::allP txP c.taxes::L) ?_ ?_
 ·repeat first|refine aa ?_|intro _|refine aX ?_
  refine G.loop (α:=Nat) (fun i=>i≤c.tables.length) (fun i=>[(1,au b1),(3,.bool false),(4,.bool false),(5,.bool false),(6,.bool false),(7,.bool false),(18,ab (i:Int))]) (fun _=>obj b1 tCat [.slice c.iad c.items.length c.icap,.slice c.rad c.rules.length c.rcap,.slice c.tad c.tables.length c.tcap,.slice c.xad c.taxes.length c.xcap]::isl bS 7 c.iad c.items::isl bQ 9 c.rad c.rules::allP ruP c.rules::isl cj 2 c.tad c.tables::allP tbP c.tables::isl cq 2 c.xad c.taxes::allP txP c.taxes::L) (fun i=>c.tables.length - i) 0 (ao _) aj (Ent.refl _) ?_;intro i hi;by_cases hlt:i<c.tables.length
  case neg =>
   repeat first|refine aa ?_|intro _|refine aX ?_
   exact⟨(),trivial,aj,Ent.refl _⟩
  have hii:(i:Int).toNat=i:=ac;have hmem:=aI hlt;have hr:=ka h _ hmem;refine G.ent (Ent.at (A:=allP tbP c.tables) ((Ent.d9 (f:=tbP) hmem).trans Ent.andE)) ?_;repeat first|refine aa ?_|intro _|refine aX ?_
  rw[hii];refine GO.ent (L':=isl eK 2 c.tables[i]!.ad c.tables[i]!.rows::obj b1 tCat [.slice c.iad c.items.length c.icap,.slice c.rad c.rules.length c.rcap,.slice c.tad c.tables.length c.tcap,.slice c.xad c.taxes.length c.xcap]::isl bS 7 c.iad c.items::isl bQ 9 c.rad c.rules::allP ruP c.rules::isl cj 2 c.tad c.tables::allP tbP c.tables::isl cq 2 c.xad c.taxes::allP txP c.taxes::L) ag ?_;refine GO.ef (Ef.d7 (qC c.items.length c.tables[i]! hr) rfl) ae ?_;rintro _ _⟨rfl,rfl⟩;repeat first|refine aa ?_|intro _|refine aX ?_
  refine⟨i+1,ac,ac,?_,by exact ag⟩;rw[aP i];exact aj
 rintro _ _;repeat first|((fail_if_success (with_reducible refine G.e7 36 ?_));(with_reducible apply G.seq))|refine bB ?_|intro _|refine aX ?_
 refine G.d9 (α:=Unit) (fun _=>True) (fun _=>[(1,au b1),(3,.bool false),(4,.bool false),(5,.bool false),(6,.bool false),(7,.bool false)]) (fun _=>obj b1 tCat [.slice c.iad c.items.length c.icap,.slice c.rad c.rules.length c.rcap,.slice c.tad c.tables.length c.tcap,.slice c.xad c.taxes.length c.xcap]::isl bS 7 c.iad c.items::isl bQ 9 c.rad c.rules::allP ruP c.rules::isl cj 2 c.tad c.tables::allP tbP c.tables::isl cq 2 c.xad c.taxes::allP txP c.taxes::L) ?_ ?_
 ·repeat first|refine aa ?_|intro _|refine aX ?_
  refine G.loop (α:=Nat) (fun i=>i≤c.taxes.length) (fun i=>[(1,au b1),(3,.bool false),(4,.bool false),(5,.bool false),(6,.bool false),(7,.bool false),(22,ab (i:Int))]) (fun _=>obj b1 tCat [.slice c.iad c.items.length c.icap,.slice c.rad c.rules.length c.rcap,.slice c.tad c.tables.length c.tcap,.slice c.xad c.taxes.length c.xcap]::isl bS 7 c.iad c.items::isl bQ 9 c.rad c.rules::allP ruP c.rules::isl cj 2 c.tad c.tables::allP tbP c.tables::isl cq 2 c.xad c.taxes::allP txP c.taxes::L) (fun i=>c.taxes.length - i) 0 (ao _) aj (Ent.refl _) ?_;intro i hi;by_cases hlt:i<c.taxes.length
  case neg =>
   repeat first|refine aa ?_|intro _|refine aX ?_
   exact⟨(),trivial,aj,Ent.refl _⟩
  have hii:(i:Int).toNat=i:=ac;have hmem:=aI hlt;have hr:=kS h _ hmem;refine G.ent (Ent.at (A:=allP txP c.taxes) (Ent.d9 (f:=txP) hmem)) ?_;repeat first|refine aa ?_|intro _|refine aX ?_
  rw[hii];refine GO.ent (L':=isl bL 2 c.taxes[i]!.ad c.taxes[i]!.brs::obj b1 tCat [.slice c.iad c.items.length c.icap,.slice c.rad c.rules.length c.rcap,.slice c.tad c.tables.length c.tcap,.slice c.xad c.taxes.length c.xcap]::isl bS 7 c.iad c.items::isl bQ 9 c.rad c.rules::allP ruP c.rules::isl cj 2 c.tad c.tables::allP tbP c.tables::isl cq 2 c.xad c.taxes::allP txP c.taxes::L) (by unfold txP;exact ag) ?_;refine GO.ef (Ef.d7 (sG c.taxes[i]! hr) rfl) ae ?_;rintro _ _⟨rfl,rfl⟩;repeat first|refine aa ?_|intro _|refine aX ?_
  refine⟨i+1,ac,ac,?_,by exact ag⟩;rw[aP i];exact aj
 rintro _ _;repeat first|refine aa ?_|intro _|refine aX ?_
 refine GO.ent (L':=catS c (obj b1 tCat [.slice c.iad c.items.length c.icap,.slice c.rad c.rules.length c.rcap,.slice c.tad c.tables.length c.tcap,.slice c.xad c.taxes.length c.xcap]::L)) (by simp only[catS];exact ag) ?_;refine GO.ef (Ef.d7 (za c hB) rfl) ae ?_;rintro _ _⟨al,cl,rfl,rfl⟩;simp only[catS];have hlg:=FN hB h;have hle:∀{L:LH},Ent (allP ruP c.rules::allP tbP c.tables::L) (allP amS (lsR c.rules++lsT c.tables)::allP ruP c.rules::allP tbP c.tables::L):=CW _ (fun _ h=>h)
 have hll:(lsR c.rules++lsT c.tables).length≤100000:=by
  have q1:=sW c.rules;have q2:=zA (ts:=c.tables) (fun t ht=>(hB.tb t ht).1);rw[az];omega
 generalize lsR c.rules++lsT c.tables=ls at hlg hle hll;repeat first|((fail_if_success (with_reducible refine G.e7 44 ?_));(with_reducible apply G.seq))|refine bB ?_|intro _|refine aX ?_
 refine G.d9 (α:=Unit) (fun _=>True) (fun _=>[(1,au b1),(3,.bool false),(4,.bool false),(5,.bool false),(6,.bool false),(7,.bool false)]) (fun _=>obj b1 tCat [.slice c.iad c.items.length c.icap,.slice c.rad c.rules.length c.rcap,.slice c.tad c.tables.length c.tcap,.slice c.xad c.taxes.length c.xcap]::isl bS 7 c.iad c.items::isl bQ 9 c.rad c.rules::allP ruP c.rules::isl cj 2 c.tad c.tables::allP tbP c.tables::isl cq 2 c.xad c.taxes::allP txP c.taxes::L) ?_ ?_
 ·repeat first|refine aa ?_|intro _|refine aX ?_
  refine G.loop (α:=Nat) (fun i=>i≤ls.length) (fun i=>[(1,au b1),(3,.bool false),(4,.bool false),(5,.bool false),(6,.bool false),(7,.bool false),(26,.slice al ls.length cl),(27,ab (i:Int))]) (fun _=>allP amS ls::isl ix 1 al ls::obj b1 tCat [.slice c.iad c.items.length c.icap,.slice c.rad c.rules.length c.rcap,.slice c.tad c.tables.length c.tcap,.slice c.xad c.taxes.length c.xcap]::isl bS 7 c.iad c.items::isl bQ 9 c.rad c.rules::allP ruP c.rules::isl cj 2 c.tad c.tables::allP tbP c.tables::isl cq 2 c.xad c.taxes::allP txP c.taxes::L) (fun i=>ls.length - i) 0 (ao _) aj (Ent.trans (B:=allP ruP c.rules::allP tbP c.tables::isl ix 1 al ls::obj b1 tCat [.slice c.iad c.items.length c.icap,.slice c.rad c.rules.length c.rcap,.slice c.tad c.tables.length c.tcap,.slice c.xad c.taxes.length c.xcap]::isl bS 7 c.iad c.items::isl bQ 9 c.rad c.rules::isl cj 2 c.tad c.tables::isl cq 2 c.xad c.taxes::allP txP c.taxes::L) ag (hle.trans ag)) ?_;intro i hi;by_cases hlt:i<ls.length
  case neg =>
   repeat first|refine aa ?_|intro _|refine aX ?_
   exact⟨(),trivial,aj,by exact ag⟩
  have hmem:ls[(i:Int).toNat]!∈ls:=aI ac;obtain⟨⟨g1,g2⟩,g3⟩:=hlg _ hmem;refine G.ent (Ent.at (A:=allP amS ls) (Ent.d9 (f:=amS) hmem)) ?_;repeat first|refine aa ?_|intro _|refine aX ?_
  refine G.loop (α:=Nat) (fun k=>k≤ls[(i:Int).toNat]!.l.length) (fun k=>[(1,au b1),(3,.bool false),(4,.bool false),(5,.bool false),(6,.bool false),(7,.bool false),(26,.slice al ls.length cl),(27,ab (i:Int)),(28,ab (k:Int))]) (fun _=>isl bL 2 ls[(i:Int).toNat]!.ad ls[(i:Int).toNat]!.l::allP amS ls::isl ix 1 al ls::obj b1 tCat [.slice c.iad c.items.length c.icap,.slice c.rad c.rules.length c.rcap,.slice c.tad c.tables.length c.tcap,.slice c.xad c.taxes.length c.xcap]::isl bS 7 c.iad c.items::isl bQ 9 c.rad c.rules::allP ruP c.rules::isl cj 2 c.tad c.tables::allP tbP c.tables::isl cq 2 c.xad c.taxes::allP txP c.taxes::L) (fun k=>ls[(i:Int).toNat]!.l.length - k) 0 (ao _) aj ag ?_;intro k hk;by_cases hlk:k<ls[(i:Int).toNat]!.l.length
  case neg =>
   repeat first|refine aa ?_|intro _|refine aX ?_
   refine⟨i+1,ac,ac,?_,by exact ag⟩;rw[aP i];exact aj
  have hkk:(k:Int).toNat=k:=ac;have hab:=g1 ls[(i:Int).toNat]!.l[(k:Int).toNat]! (by rw[hkk];exact aI hlk)
  have hsr:0<k→ls[(i:Int).toNat]!.l[((k:Int) - 1).toNat]!.1<ls[(i:Int).toNat]!.l[(k:Int).toNat]!.1:=by
   intro h0;rw[hkk,show((k:Int) - 1).toNat=k - 1 by omega,getElem!_of hlk,getElem!_of (show k - 1<ls[(i:Int).toNat]!.l.length by omega)];exact List.pairwise_iff_getElem.1 g2 (k - 1) k ac hlk ac
  repeat first|((fail_if_success (with_reducible refine G.atS 50 ?_));(with_reducible apply G.seq))|refine bB ?_|intro _|refine aX ?_
  repeat first|((fail_if_success (with_reducible refine G.atS 51 ?_));(with_reducible apply G.seq))|refine bB ?_|intro _|refine aX ?_
  simp only[bL];obtain⟨y,hy⟩:∃y,ls[(i:Int).toNat]!.l[(k:Int).toNat]! = y:=⟨_,rfl⟩;rw[hy] at hab hsr ⊢;obtain⟨m1,m2,m3,m4⟩:=hab;rcases Nat.eq_zero_or_pos k with h0|h0
  ·repeat first|refine aa ?_|intro _|refine aX ?_
   refine⟨k+1,ac,ac,?_,by exact ag⟩;rw[aP k,aF (show ¬(1099511627776<y.2) by omega)];exact aj
  ·have hs1:=hsr h0;repeat first|refine aa ?_|intro _|refine aX ?_
   refine⟨k+1,ac,ac,?_,by exact ag⟩;rw[aP k,aF (show ¬(1099511627776<y.2) by omega),aF (show ¬(y.1≤ls[(i:Int).toNat]!.l[((k:Int) - 1).toNat]!.1) by omega)];exact aj
 rintro _ _;repeat first|refine aa ?_|intro _|refine aX ?_
 rename_i b30 b31;refine G.ent (Ent.f9 (enc:=BI) (sz:=1) (b:=b30) no5 (by simp[BI,no5]) (fun x _=>rfl) (ay rfl)) ?_;have hn5:=FK;refine G.loop (α:=Nat) (fun i=>i≤5) (fun i=>[(30,.slice (some ⟨b30,0,none⟩) 5 5),(32,ab (i:Int))]) (fun _=>isl BI 1 (some ⟨b30,0,none⟩) no5::isl bS 7 c.iad c.items::isl bQ 9 c.rad c.rules::allP ruP c.rules::isl cj 2 c.tad c.tables::allP tbP c.tables::isl cq 2 c.xad c.taxes::allP txP c.taxes::L) (fun i=>5 - i) 0 (ao _) aj ag ?_;intro i hi;by_cases hlt:i<5
 case neg =>
  repeat first|refine aa ?_|intro _|refine aX ?_
  exact KX.d7 ai ag ⟨rfl,rfl⟩
 have hii:(i:Int).toNat=i:=ac;have hf:=Gs hlt;repeat first|refine aa ?_|intro _|refine aX ?_
 rw[hii,hf];repeat first|refine aa ?_|intro _|refine aX ?_
 refine⟨i+1,ac,ac,?_,by exact ag⟩;rw[aP i];exact aj
abbrev tRL:Nat:=37
structure RStk where
 acc:Int
 item:Int
 stk:Stk
 deriving Inhabited
def gg(s:RStk):LV:=[ab s.acc,ab s.item,.slice s.stk.ad s.stk.lots.length s.stk.cap]
theorem pi(s:RStk):∀u∈gg s,u.oneCell' = true:=by simp[gg,Value.oneCell']
instance:EncC gg:=⟨pi⟩
abbrev rsP(s:RStk):HP:=stkP s.stk
theorem EU(s:RStk):PersM (rsP s):=vp s.stk
abbrev tRS:Nat:=186
abbrev RStk.is(s:RStk)(a i:Int):Prop:=s.acc=a∧s.item=i
def stk0:Stk:=⟨none,0,[]⟩
def dG:List RStk→Int→Int→Stk
 | [],_,_=>stk0
 | s::l,a,i=>if s.is a i then s.stk else dG l a i
def rset:List RStk→Int→Int→Stk→List RStk
 | [],a,i,t=>[⟨a,i,t⟩]
 | s::l,a,i,t=>if s.is a i then⟨s.acc,s.item,t⟩::l else s::rset l a i t
def rsum:List RStk→Int→Int
 | [],_=>0
 | s::l,i=>(if s.item=i then lsum s.stk.lots else 0)+rsum l i
theorem nG:∀(l:List RStk) (a i:Int) (t:Stk) (a' i' : Int),dG (rset l a i t) a' i' = if a' = a∧i' = i then t else dG l a' i'
 | [],a,i,t,a',i'=>by
  unfold rset dG dG;by_cases h:a' = a∧i' = i
  ·rw[if_pos h,if_pos ⟨h.1.symm,h.2.symm⟩]
  ·rw[if_neg h,if_neg (fun q=>h ⟨q.1.symm,q.2.symm⟩)]
 | s::l,a,i,t,a',i'=>by
  unfold rset;by_cases h:s.is a i
  ·rw[if_pos h];unfold dG;by_cases h2:a' = a∧i' = i
   ·rw[if_pos h2,if_pos (show s.acc=a'∧s.item=i' from⟨h.1.trans h2.1.symm,h.2.trans h2.2.symm⟩)]
   ·rw[if_neg h2,if_neg (show ¬(s.acc=a'∧s.item=i') from fun q=>h2 ⟨q.1.symm.trans h.1,q.2.symm.trans h.2⟩),if_neg (show ¬s.is a' i' from fun q=>h2 ⟨q.1.symm.trans h.1,q.2.symm.trans h.2⟩)]
  ·rw[if_neg h];unfold dG;by_cases h3:s.is a' i'
   ·rw[if_pos h3,if_pos h3,if_neg (fun q=>h ⟨h3.1.trans q.1,h3.2.trans q.2⟩)]
   ·rw[if_neg h3,if_neg h3,nG l a i t a' i']
theorem oJ:∀(l:List RStk) (a i:Int) (t:Stk) (j:Int),rsum (rset l a i t) j=rsum l j+(if j=i then lsum t.lots - lsum (dG l a i).lots else 0)
 | [],a,i,t,j=>by
  show(if i=j then lsum t.lots else 0)+0=0+(if j=i then lsum t.lots - 0 else 0);by_cases h:j=i
  ·rw[if_pos h,if_pos h.symm];omega
  ·rw[if_neg h,if_neg (fun q=>h q.symm)]
 | s::l,a,i,t,j=>by
  unfold rset dG;by_cases h:s.is a i
  ·rw[if_pos h,if_pos h];show(if s.item=j then lsum t.lots else 0)+rsum l j=((if s.item=j then lsum s.stk.lots else 0)+rsum l j)+_;rw[h.2];by_cases h2:j=i
   ·rw[if_pos h2.symm,if_pos h2.symm,if_pos h2];omega
   ·rw[if_neg (fun q=>h2 q.symm),if_neg (fun q=>h2 q.symm),if_neg h2];omega
  ·rw[if_neg h,if_neg h];show(if s.item=j then lsum s.stk.lots else 0)+rsum (rset l a i t) j=((if s.item=j then lsum s.stk.lots else 0)+rsum l j)+_;rw[oJ l a i t j];omega
theorem qI:∀{l:List RStk} {a i:Int} {k:Nat},k<l.length→l[k]!.is a i→(∀j,j<k→¬l[j]!.is a i)→dG l a i=l[k]!.stk∧∀t,rset l a i t=l.set k ⟨l[k]!.acc,l[k]!.item,t⟩
 | [],_,_,_,h,_,_=>by simp at h
 | s::l,a,i,0,_,h1,_=>by
  have h1' : s.is a i:=h1;refine⟨?_,fun t=>?_⟩
  ·unfold dG;rw[if_pos h1'];rfl
  ·unfold rset;rw[if_pos h1'];rfl
 | s::l,a,i,k+1,h,h1,h2=>by
  have h0:¬s.is a i:=h2 0 (Nat.zero_lt_succ _);obtain⟨e1,e2⟩:=qI (l:=l) (a:=a) (i:=i) (k:=k) (by simpa using h) h1 (fun j hj=>h2 (j+1) ac);refine⟨?_,fun t=>?_⟩
  ·unfold dG;rw[if_neg h0,e1];rfl
  ·unfold rset;rw[if_neg h0,e2 t];rfl
theorem qH:∀{l:List RStk} {a i:Int},(∀j,j<l.length→¬l[j]!.is a i)→dG l a i=stk0∧∀t,rset l a i t=l++[⟨a,i,t⟩]
 | [],_,_,_=>⟨rfl,fun _=>rfl⟩
 | s::l,a,i,h=>by
  have h0:¬s.is a i:=h 0 (Nat.zero_lt_succ _);obtain⟨e1,e2⟩:=qH (l:=l) (a:=a) (i:=i) (fun j hj=>h (j+1) (by simp only[bD];omega));refine⟨?_,fun t=>?_⟩
  ·unfold dG;rw[if_neg h0,e1]
  ·unfold rset;rw[if_neg h0,e2 t];rfl
theorem qG:∀(l:List RStk) (a i:Int) (t:Stk),(rset l a i t).length≤l.length+1
 | [],_,_,_=>aB _
 | s::l,a,i,t=>by
  unfold rset;split
  ·simp
  ·have:=qG l a i t
   simp only[bD];omega
theorem qF:∀{l:List RStk} {a i:Int} {t:Stk} {s:RStk},s∈rset l a i t→s∈l∨s.stk=t
 | [],_,_,_,_,h=>by
  obtain rfl:=List.mem_singleton.1 h;exact .inr rfl
 | u::l,a,i,t,s,h=>by
  unfold rset at h;split at h
  ·rcases List.mem_cons.1 h with h|h
   ·exact .inr (by rw[h])
   ·exact .inl (av _ h)
  ·rcases List.mem_cons.1 h with h|h
   ·exact .inl (by rw[h];exact aw ..)
   ·rcases qF h with h|h
    ·exact .inl (av _ h)
    ·exact .inr h
theorem oL:∀(l:List RStk) (a i:Int),dG l a i=stk0∨∃s∈l,dG l a i=s.stk
 | [],_,_=>.inl rfl
 | s::l,a,i=>by
  unfold dG;split
  ·exact .inr ⟨s,aw ..,rfl⟩
  ·rcases oL l a i with h|⟨u,hu,h⟩
   ·exact .inl h
   ·exact .inr ⟨u,av _ hu,h⟩
theorem ng:∀(l:List RStk) (i:Int) {k:Nat},k<l.length→rsum (l.take (k+1)) i=rsum (l.take k) i+(if l[k]!.item=i then lsum l[k]!.stk.lots else 0)
 | [],_,_,h=>by simp at h
 | s::l,i,0,_=>by
  show(if s.item=i then lsum s.stk.lots else 0)+0=0+_;rw[Int.add_zero,Int.zero_add];rfl
 | s::l,i,k+1,h=>by
  have:=ng l i (k:=k) (by simpa using h)
  show(if s.item=i then lsum s.stk.lots else 0)+rsum (l.take (k+1)) i=((if s.item=i then lsum s.stk.lots else 0)+rsum (l.take k) i)+_;rw[this];show _+(_+(if l[k]!.item=i then lsum l[k]!.stk.lots else 0))=_+(if l[k]!.item=i then lsum l[k]!.stk.lots else 0);omega
def rOk(l:List RStk):Prop:=∀s∈l,s.stk.lots.length≤4096∧∀x∈s.stk.lots,LotOk x
theorem pM{l:LL}(h:∀x∈l,LotOk x):0≤lsum l:=by
 have:=(gx h l.length (aB _)).1
 rw[gM] at this;exact this
theorem sO:∀{l:List RStk} (i:Int),rOk l→0≤rsum l i
 | [],_,_=>bu _
 | s::l,i,h=>by
  have h1:=sO (l:=l) i (fun u hu=>h u (av _ hu));have h2:=pM (h s aw).2;unfold rsum;split<;>omega
theorem mc:∀{l:List RStk} (i:Int) (k:Nat),rOk l→rsum (l.take k) i≤rsum l i
 | [],_,k,_=>by simp
 | s::l,i,0,h=>sO i h
 | s::l,i,k+1,h=>by
  have:=mc (l:=l) i k (fun u hu=>h u (av _ hu))
  show(if s.item=i then lsum s.stk.lots else 0)+rsum (l.take k) i≤(if s.item=i then lsum s.stk.lots else 0)+rsum l i;omega
structure RLX where
 cat:CatV
 stks:List RStk
 sad:OA
 scap:Nat
 flows:List FlV
 fad:OA
 fcap:Nat
 steps:List StV
 tad:OA
 tcap:Nat
abbrev aK(sh:Int)(x:RLX):LV:=[ab sh,.slice x.cat.iad x.cat.items.length x.cat.icap,.slice x.cat.rad x.cat.rules.length x.cat.rcap,.slice x.cat.tad x.cat.tables.length x.cat.tcap,.slice x.cat.xad x.cat.taxes.length x.cat.xcap,.slice x.sad x.stks.length x.scap,.slice x.fad x.flows.length x.fcap,.slice x.tad x.steps.length x.tcap]
abbrev rlL(b:Nat)(sh:Int)(x:RLX)(L:LH):LH :=
 obj b tRL (aK sh x)::osl gg 3 tRS x.sad x.scap x.stks::osl aL 11 bz x.fad x.fcap x.flows::osl aJ 7 bh x.tad x.tcap x.steps::catP x.cat::allP rsP x.stks::allP flP x.flows::allP bA x.steps::L
abbrev Az:List Stp:=[.ev 0,.ev 1,.ev 2,.ev 3,.ev 4,.ev 5,.ev 6,.ev 7,.ev 8,.ev 9,.ev 10,.ev 11,.ev 12,.ev 13]
theorem lA{φ ψ:Prop}(k:ψ)(h:Hid ψ→φ:=by intro k;(with_reducible apply G.d8);first|refine G.d7 (N:=22) (id:=3) Az mixed ap (Hid.out k)):φ:=h ⟨k⟩
theorem Ar{L R:LH}{b:Nat}{sh:Int}{x:RLX}[hp:PickObj L b tRL (aK sh x) R][hr:Rds L x.tad StV aJ 7 x.steps](hl:x.steps.length≤100000) :
  Tri ah 133 #[au b] L (fun v L'=>v=ab ((x.steps.getLast?.map (·.tick)).getD 0)∧L' = L):=by
 refine Tri.body (args:=[au b]) 22 JN Tryz.func133 rfl rfl rfl (by simp) ?_;by_cases h0:x.steps.length=0
 ·repeat first|refine aa ?_|intro _|refine lA ?_
  exact KX.d7 ai (Ent.refl _) ⟨by rw[aW h0];rfl,rfl⟩
 ·repeat first|refine aa ?_|intro _|refine lA ?_
  refine KX.d7 ai (Ent.refl _) ⟨?_,rfl⟩
  have e:x.steps.getLast? = some x.steps[((x.steps.length:Int) - 1).toNat]!:=by
   rw[show((x.steps.length:Int) - 1).toNat=x.steps.length - 1 by omega,List.getLast?_eq_getElem?,getElem!_of ac,List.getElem?_eq_getElem]
  rw[e];rfl
theorem rV{L R:LH}{b:Nat}{sh:Int}{x:RLX}[hp:PickObj L b tRL (aK sh x) R][hr:Rds L x.sad RStk gg 3 x.stks](a i:Int)(hl:x.stks.length≤100000000) :
  Tri ah 229 #[au b,ab a,ab i] L (fun v L'=>((v=ab (-1)∧∀j,j<x.stks.length→¬x.stks[j]!.is a i)∨∃k:Nat,v=ab (k:Int)∧k<x.stks.length∧x.stks[k]!.is a i∧∀j,j<k→¬x.stks[j]!.is a i)∧L' = L):=by
 refine Tri.body (args:=[au b,ab a,ab i]) 40 Ih Tryz.func229 rfl rfl rfl (by simp) ?_;repeat first|refine aa ?_|intro
 refine G.loop (α:=Nat) (fun k=>k≤x.stks.length∧∀j,j<k→¬x.stks[j]!.is a i) (fun k=>[(0,au b),(1,ab a),(2,ab i),(7,ab (k:Int))]) (fun _=>L) (fun k=>x.stks.length - k) 0 ⟨ao _,fun j hj=>absurd hj (cd j)⟩ aj (Ent.refl _) ?_;rintro k ⟨hk,hb⟩;by_cases hlt:k<x.stks.length
 case neg =>
  obtain rfl:k=x.stks.length:=ac;repeat first|refine aa ?_|intro
  exact KX.d7 ai (Ent.refl _) ⟨.inl ⟨rfl,hb⟩,rfl⟩
 have hkk:(k:Int).toNat=k:=aA k;have hlt' : (k:Int).toNat<x.stks.length:=ac
 have next:¬x.stks[k]!.is a i→k+1≤x.stks.length∧∀j,j<k+1→¬x.stks[j]!.is a i:=fun hn=>⟨ac,fun j hj=>by
  rcases cg j k with h|h
  ·exact hb j h
  ·obtain rfl:j=k:=ac;exact hn⟩
 by_cases h1:x.stks[(k:Int).toNat]!.acc=a
 ·by_cases h2:x.stks[(k:Int).toNat]!.item=i
  ·repeat first|refine aa ?_|intro
   rw[hkk] at h1 h2;exact KX.d7 ai (Ent.refl _) ⟨.inr ⟨k,rfl,hlt,⟨h1,h2⟩,hb⟩,rfl⟩
  ·repeat first|refine aa ?_|intro
   rw[hkk] at h1 h2;refine⟨k+1,next (fun q=>h2 q.2),ac,?_,Ent.refl _⟩;rw[aP k];exact aj
 ·repeat first|refine aa ?_|intro
  rw[hkk] at h1;refine⟨k+1,next (fun q=>h1 q.1),ac,?_,Ent.refl _⟩;rw[aP k];exact aj
theorem mN{L R:LH}{b:Nat}{sh:Int}{x:RLX}[hp:PickObj L b tRL (aK sh x) R][hr:Rds L x.sad RStk gg 3 x.stks](a i:Int)(hl:x.stks.length≤100000000) :
  Tri ah 141 #[au b,ab a,ab i] L (fun v L'=>v=.slice (dG x.stks a i).ad (dG x.stks a i).lots.length (dG x.stks a i).cap∧L' = L):=by
 refine Tri.body (args:=[au b,ab a,ab i]) 22 JG Tryz.func141 rfl rfl rfl (by simp) ?_;repeat first|refine aa ?_|intro
 refine GO.ef (Ef.d7 (rV (b:=b) (sh:=sh) (x:=x) a i hl) rfl) ae ?_;rintro _ L ⟨⟨rfl,hn⟩|⟨k,rfl,hk,h1,h2⟩,rfl⟩
 ·rw[(qH hn).1];repeat first|refine aa ?_|intro
  exact KX.d7 ai (Ent.refl _) ⟨rfl,rfl⟩
 ·have hkk:(k:Int).toNat=k:=aA k;rw[(qI hk h1 h2).1];repeat first|refine aa ?_|intro
  rw[hkk];repeat first|refine aa ?_|intro
  exact KX.d7 ai (Ent.refl _) ⟨rfl,rfl⟩
theorem EQ{α:Type}{f:α→HP}(hf:∀x,PersM (f x)){l:List α}{k:Nat}{e:α}{L:LH}:Ent (f e::allP f l::L) (allP f (l.set k e)::L) :=
 (Ent.f8 hf).trans (Ent.g9 (fun _ hx=>by
  rcases cK hx with h|h
  ·exact av _ h
  ·rw[h];exact aw ..))
theorem mL{α:Type}{f:α→HP}(hf:∀x,PersM (f x)){l:List α}{e:α}{L:LH}:Ent (f e::allP f l::L) (allP f (l++[e])::L) :=
 (Ent.f8 hf).trans (Ent.g9 (fun x hx=>by
  rcases List.mem_append.1 hx with h|h
  ·exact av _ h
  ·rw[List.mem_singleton.1 h];exact aw ..))
theorem nF{L:LH}(b:Nat)(sh:Int)(x:RLX)(a i:Int)(t:Stk)(hl:x.stks.length≤10000000) :
  Tri ah 142 #[au b,ab a,ab i,.slice t.ad t.lots.length t.cap] (rlL b sh x (stkP t::L)) (fun _ L'=>∃ad' cap',L' = rlL b sh { x with stks:=rset x.stks a i t,sad:=ad',scap:=cap' } L):=by
 refine Tri.body (args:=[au b,ab a,ab i,.slice t.ad t.lots.length t.cap]) 36 JF Tryz.func142 rfl rfl rfl (by simp) ?_;simp only[rlL];repeat first|refine aa ?_|intro
 refine GO.ef (Ef.d7 (rV (b:=b) (sh:=sh) (x:=x) a i ac) rfl) ae ?_;rintro _ _⟨⟨rfl,hn⟩|⟨k,rfl,hk,h1,h2⟩,rfl⟩
 ·have e:=(qH hn).2 t;have henc:([ab a,ab i,.slice t.ad t.lots.length t.cap]:LV)=gg ⟨a,i,t⟩:=rfl;repeat first|refine aa ?_|intro
  refine GO.ef (Ef.d8 (enc:=gg) (⟨a,i,t⟩:RStk) rfl rfl rfl rfl rfl (by rfl) (pi _) ac ac) ae ?_;rintro _ _⟨ad3,cap3,rfl,rfl⟩;repeat first|refine aa ?_|intro
  refine KX.d7 ai ?_ ⟨ad3,cap3,rfl⟩;rw[e];simp only[rlL,aK];refine Ent.trans (B:=rsP ⟨a,i,t⟩::allP rsP x.stks::obj b tRL (aK sh { x with stks:=x.stks++[⟨a,i,t⟩],sad:=ad3,scap:=cap3 })::osl gg 3 tRS ad3 cap3 (x.stks++[⟨a,i,t⟩])::osl aL 11 bz x.fad x.fcap x.flows::osl aJ 7 bh x.tad x.tcap x.steps::catP x.cat::allP flP x.flows::allP bA x.steps::L) ?_ ((mL EU).trans ?_)
  ·simp only[rsP];exact ag
  ·exact ag
 ·have e:=(qI hk h1 h2).2 t;have hkk:(k:Int).toNat=k:=aA k;have hk' : (k:Int).toNat<x.stks.length:=ac;repeat first|refine aa ?_|intro
  rw[hkk];refine GO.efu (Ef.e8 (enc:=gg) (⟨x.stks[k]!.acc,x.stks[k]!.item,t⟩:RStk) rfl rfl rfl rfl hk ae) ?_;rintro _ _ rfl;repeat first|refine aa ?_|intro
  refine KX.e8 ai ?_ ⟨x.sad,x.scap,rfl⟩;rw[e];have hlen:(x.stks.set k ⟨x.stks[k]!.acc,x.stks[k]!.item,t⟩).length=x.stks.length:=bg ..;simp only[rlL,aK];rw[hlen];refine Ent.trans (B:=rsP ⟨x.stks[k]!.acc,x.stks[k]!.item,t⟩::allP rsP x.stks::obj b tRL (aK sh x)::osl gg 3 tRS x.sad x.scap (x.stks.set k ⟨x.stks[k]!.acc,x.stks[k]!.item,t⟩)::osl aL 11 bz x.fad x.fcap x.flows::osl aJ 7 bh x.tad x.tcap x.steps::catP x.cat::allP flP x.flows::allP bA x.steps::L) ?_ ((EQ EU (k:=k)).trans ?_)
  ·simp only[rsP];exact ag
  ·exact ag
theorem nH{l:List RStk}(h:rOk l)(a i:Int):(dG l a i).lots.length≤4096∧∀x∈(dG l a i).lots,LotOk x:=by
 rcases oL l a i with e|⟨s,hs,e⟩
 ·rw[e];exact⟨ao _,fun x hx=>by cases hx⟩
 ·rw[e];exact h s hs
theorem oM{l:List RStk}(a i:Int){L:LH}:Ent (allP rsP l::L) (stkP (dG l a i)::allP rsP l::L):=by
 rcases oL l a i with e|⟨s,hs,e⟩
 ·rw[e];exact Ent.e9 an 3 none
 ·rw[e];exact Ent.d9 (f:=rsP) hs
theorem oO{L:LH}(b:Nat)(sh:Int)(x:RLX)(a i:Int)(hl:x.stks.length≤10000000)(hO:rOk x.stks) :
  Tri ah 132 #[au b,ab a,ab i] (rlL b sh x L) (fun v L'=>v=ab (lsum (dG x.stks a i).lots)∧L' = rlL b sh x L):=by
 obtain⟨o1,o2⟩:=nH hO a i;refine Tri.body (args:=[au b,ab a,ab i]) 12 JO Tryz.func132 rfl rfl rfl (by simp) ?_;simp only[rlL];repeat first|refine aa ?_|intro
 refine GO.ef (Ef.d7 (mN (b:=b) (sh:=sh) (x:=x) a i ac) rfl) ae ?_;rintro _ _⟨rfl,rfl⟩;refine GO.ent (Ent.at (A:=allP rsP x.stks) (oM a i)) ?_;repeat first|refine aa ?_|intro
 refine GO.ef (Ef.d7 (jj (dG x.stks a i).ad (dG x.stks a i).lots.length (dG x.stks a i).cap (dG x.stks a i).lots rfl o1 o2) rfl) ae ?_;rintro _ _⟨rfl,rfl⟩;repeat first|refine aa ?_|intro
 exact KX.d7 ai ag ⟨rfl,rfl⟩
theorem Cs{L:LH}(b:Nat)(sh:Int)(x:RLX)(i:Int)(hl:x.stks.length≤10000000)(hO:rOk x.stks)(hs:rsum x.stks i≤1099511627776) :
  Tri ah 139 #[au b,ab i] (rlL b sh x L) (fun v L'=>v=ab (rsum x.stks i)∧L' = rlL b sh x L):=by
 refine Tri.body (args:=[au b,ab i]) 38 JI Tryz.func139 rfl rfl rfl (by simp) ?_;simp only[rlL];repeat first|refine aa ?_|intro
 refine G.loop (α:=Nat) (fun k=>k≤x.stks.length) (fun k=>[(0,au b),(1,ab i),(5,ab (rsum (x.stks.take k) i)),(6,ab (k:Int))]) (fun _=>rlL b sh x L) (fun k=>x.stks.length - k) 0 (ao _) aj (Ent.refl _) ?_;intro k hk;simp only[rlL];by_cases hlt:k<x.stks.length
 case neg =>
  obtain rfl:k=x.stks.length:=ac;rw[bG];repeat first|refine aa ?_|intro
  exact KX.d7 ai ag ⟨rfl,rfl⟩
 have hkk:(k:Int).toNat=k:=aA k;have hlt' : (k:Int).toNat<x.stks.length:=ac;have hst:=ng x.stks i hlt;have hb1:=mc i k hO;have hb2:=mc i (k+1) hO;have hb3:0≤rsum (x.stks.take k) i:=sO i (fun u hu=>hO u (cz hu));have hmem:=aI hlt;obtain⟨o1,o2⟩:=hO _ hmem;have hnn:=pM o2;by_cases h1:x.stks[(k:Int).toNat]!.item=i
 ·have h1' : x.stks[k]!.item=i:=by rw[←hkk];exact h1
  rw[if_pos h1'] at hst;repeat first|refine aa ?_|intro
  rw[hkk];refine GO.ent (Ent.at (A:=allP rsP x.stks) (Ent.d9 (f:=rsP) hmem)) ?_;refine GO.ef (Ef.d7 (jj x.stks[k]!.stk.ad x.stks[k]!.stk.lots.length x.stks[k]!.stk.cap x.stks[k]!.stk.lots rfl o1 o2) rfl) ae ?_;rintro _ _⟨rfl,rfl⟩;repeat first|refine aa ?_|intro
  refine⟨k+1,ac,ac,?_,by exact ag⟩;rw[aP k,hst];exact aj
 ·have h1' : ¬x.stks[k]!.item=i:=by rw[←hkk];exact h1
  rw[if_neg h1',Int.add_zero] at hst;repeat first|refine aa ?_|intro
  refine⟨k+1,ac,ac,?_,by exact ag⟩;rw[aP k,hst];exact aj
abbrev CD:List Stp:=[.ev 0,.ev 1,.ev 2,.ev 3,.ev 4,.ev 5,.ev 6,.ev 7,.ev 8,.ef 9,.ev 10]
abbrev CC:List Stp:=[.ev 0,.ev 1,.ev 2,.ev 3,.ev 4,.ev 5,.ev 6,.ev 7,.ev 8,.ef 9,.ev 10,.ev 11,.ef 12]
abbrev CA:List Stp:=[.ev 0,.ev 1,.ev 2,.ev 3,.ev 4,.ev 5,.ev 6,.ev 7,.ev 8,.ef 9,.ev 10,.ev 11,.ef 12]
abbrev Cz:List Stp:=[.ev 0,.ev 1,.ev 2,.ev 3,.ev 4,.ev 5,.ev 6,.ev 7,.ev 8,.ef 9,.ev 10,.ev 11,.ef 12]
theorem iN{φ ψ:Prop}(k:ψ)(h:Hid ψ→φ:=by intro k;(with_reducible apply G.d8);first|refine G.d7 (N:=51) (id:=1) CD mixed ap (Hid.out k)|refine G.d7 (N:=51) (id:=2) CC mixed ap (Hid.out k)|refine G.d7 (N:=51) (id:=3) CA mixed ap (Hid.out k)|refine G.d7 (N:=51) (id:=4) Cz mixed ap (Hid.out k)):φ:=h ⟨k⟩
theorem xu{L:LH}(b:Nat)(sh:Int)(x:RLX)(h1:x.stks.length≤10000000)(h2:x.flows.length≤10000000)(h3:x.steps.length≤10000000) :
  Tri ah 93 #[au b] (rlL b sh x L) (fun v L'=>∃b' x',v=.pointer (some ⟨b',0,none⟩)∧(x'.cat=x.cat∧x'.stks=x.stks∧x'.flows=x.flows∧x'.steps=x.steps)∧L' = obj b' tRL (aK sh x')::osl gg 3 tRS x'.sad x'.scap x'.stks::osl aL 11 bz x'.fad x'.fcap x'.flows::rlL b sh x L):=by
 refine Tri.body (args:=[au b]) 51 en93 Tryz.func93 rfl rfl rfl (by simp) ?_;simp only[rlL];repeat first|refine aa ?_|intro _|refine iN ?_
 rename_i b3;refine GPW.ent (Ent.d8 gg 3 tRS) ?_;refine GPW.ef (Ef.e7 (xs:=[]) rfl rfl rfl rfl rfl (fun e _=>pi e) (by simp;omega) (by simp;omega)) ae ?_;rintro _ _⟨a1,c1,rfl,rfl⟩;simp only[aq];repeat first|refine aa ?_|intro _|refine iN ?_
 refine GPW.ent (Ent.d8 aL 11 bz) ?_;refine GPW.ef (Ef.e7 (xs:=[]) rfl rfl rfl rfl rfl (fun e _=>fP e) (by simp;omega) (by simp;omega)) ae ?_;rintro _ _⟨a2,c2,rfl,rfl⟩;simp only[aq];repeat first|refine aa ?_|intro _|refine iN ?_
 refine GPW.ent (Ent.d8 aJ 7 bh) ?_;refine GPW.ef (Ef.e7 (xs:=[]) rfl rfl rfl rfl rfl (fun e _=>jd e) (by simp;omega) (by simp;omega)) ae ?_;rintro _ _⟨a3,c3,rfl,rfl⟩;simp only[aq];repeat first|refine aa ?_|intro _|refine iN ?_
 refine KX.d7 ai ?_ ⟨b3,⟨x.cat,x.stks,a1,c1,x.flows,a2,c2,x.steps,a3,c3⟩,rfl,⟨rfl,rfl,rfl,rfl⟩,rfl⟩;simp only[rlL,aK];exact ag
