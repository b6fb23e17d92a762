/- Lemmas. -/
import Derived.Test.YtlgpgjdggilkgaaGreatDoorEcar
set_option linter.all false
set_option maxHeartbeats 1000000
namespace Go.V
def Ent.n8{L R:LH}{α:Type}{enc:α→LV}{sz b T:Nat}{cs:LV}[h:PickObj L b T cs R](xs:List α)(hc:cs=xs.flatMap enc)(hs:∀x∈xs,(enc x).length=sz)(hm:xs.length≤9223372036854775807):Ent L (isl enc sz (some ⟨b,0,none⟩) xs::R) :=
 (Ent.perm h.perm).trans ((Ent.f7 hc rfl hs hm).trans Ent.freezeSl)
end Go.V
namespace Go.Proofs.YtlgpgjdggilkgaaGreatDoor
section
open Go.V
attribute [local irreducible] G GO GP GPW GPK Ev Ef EfR Ent CB GB V.Enters
def wB(bv:Nat)(ad:OA)(c:Nat)(l:LL)(cs:Nat→Int)(hm:l.length≤1000000) :
  ud 313 [ax bv] l.length cs (fun _=>cm [obj bv 22 [ag ad l.length c],isl (encZ .i64) 1 ad ((List.range l.length).map cs)]):=by
 intro k hk L;have a0:(k:Int).toNat=k:=ab;have hl:((List.range l.length).map cs).length=l.length:=by simp
 refine Tri.bd (args:=[ac (k:Int),ax bv]) ?_;refine G.ent Ent.openS ?_;simp only[al,ak];refine Ks ?_;intros;rw[a0,km hk];exact KX.a8 aA (Ent.f9 (A:=[_,_]) (L:=L)) ⟨rfl,rfl⟩
def da{φ ψ:Prop}(k:ψ)(h:Hid ψ→φ:=by intro k;first|refine GO.ci (f:=311) (Hid.out k)|refine GPW.ci (f:=311) (Hid.out k)|refine GO.cf (f:=311) rfl (Hid.out k)|refine GPW.cf (f:=311) rfl (Hid.out k)|refine KX.inA (Hid.out k)):φ:=h ⟨k⟩
def Xw{φ ψ:Prop}(k:ψ)(h:Hid ψ→φ:=by intro k;(repeat (first|refine aa ?_|intro zzz|refine da ?_));(repeat revert zzz);exact Hid.out k):φ:=h ⟨k⟩
def Ck{L:LH}(ad:OA)(c:Nat)(xs:LL)(hb:xs.length≤4096)(hx:∀l∈xs,LotOk l) :
  Tri Tryz.prog 300 #[ag ad xs.length c,ac 0,.bool true] (isl aG 3 ad xs::L) (fun v L' =>
   (lsum xs<0∧v=.tuple #[ag none 0 0,ag none 0 0,ac 10]∧L' = isl aG 3 ad xs::L) ∨
   (0≤lsum xs∧∃a0 c1 a1 c2,v=.tuple #[ag a0 (divF xs (fuC xs 0) xs.length).length c1,ag a1 (divR xs (fuC xs 0) xs.length).length c2,ac 0]∧L' = osl aG 3 tLot a0 c1 (divF xs (fuC xs 0) xs.length)::osl aG 3 tLot a1 c2 (divR xs (fuC xs 0) xs.length)::isl aG 3 ad xs::L)):=by
 have hw:∀x∈xs,LotW x:=fun x h=>(hx x h).w;have a2:=mJ hx xs.length (aq _);rw[lv] at a2;refine Tri.bd ?_;refine Xw ?_;intros;refine GO.cr (gF ad xs.length c xs rfl hb hx) ?_;refine Xw ?_;intros;refine GO.cr (jy ad xs.length c xs rfl hb hx) ?_;refine Xw ?_;intros;rename_i bl bn;refine GO.ent (L':=cm (fuA bn bl ad c xs 0 0)::isl aG 3 ad xs::isl aG 3 ad xs::L) ?_ ?_
 ·refine Ent.trans ?_ Ent.f9;simp only[fuA,fuR,al,ak];refine(Ent.at (A:=isl aG 3 ad xs) (Ent.dup (lw _ _ _ _))).trans ?_;refine(Ent.dup (lw _ _ _ _)).trans ?_;exact ah
 (first|refine GO.ef (Ef.call (nY _ _ ad c xs (fuC xs 0) (fun k=>cm (fuA bn bl ad c xs 0 k)) ab hw (qx (bq _) hw) (vz bn bl ad c xs 0 ab (bq _) ae hw)) rfl dd) ae ?_);rintro _ _⟨_,⟨a0,c1,a1,c2,rfl,rfl⟩,hL⟩;simp only[al,ak] at hL;subst hL;refine Xw ?_;intros;exact KX.a8 aA (Ent.refl _) (.inr ⟨ab,a0,c1,a1,c2,rfl,rfl⟩)
def Cl{L:LH}(ad:OA)(c:Nat)(xs:LL)(n:Int)(hb:xs.length≤4096)(hx:∀l∈xs,LotOk l)(a9:0<n)(a5:n≤1099511627776) :
  Tri Tryz.prog 300 #[ag ad xs.length c,ac n,.bool true] (isl aG 3 ad xs::L) (fun v L' =>
   (lsum xs<n∧v=.tuple #[ag none 0 0,ag none 0 0,ac 10]∧L' = isl aG 3 ad xs::L) ∨
   (n≤lsum xs∧∃a1 c1 a2 c2,v=.tuple #[ag a1 (divF xs (shC xs n) xs.length).length c1,ag a2 (divR xs (shC xs n) xs.length).length c2,ac 0]∧L' = osl aG 3 tLot a1 c1 (divF xs (shC xs n) xs.length)::osl aG 3 tLot a2 c2 (divR xs (shC xs n) xs.length)::isl aG 3 ad xs::L)):=by
 have hw:∀x∈xs,LotW x:=fun x h=>(hx x h).w;refine Tri.bd ?_;refine Xw ?_;intros;refine GO.cr (gF ad xs.length c xs rfl hb hx) ?_;refine Xw ?_;intros;refine GO.cr (jy ad xs.length c xs rfl hb hx) ?_;by_cases hs:lsum xs<n
 ·refine Xw ?_;intros;exact KX.a8 aA (Ent.refl _) (.inl ⟨hs,rfl,rfl⟩)
 have a6:xs≠[]:=by
  rintro rfl;simp[lsum] at hs;omega
 refine Xw ?_;intros;rename_i bl bn;refine GO.ent Ent.drop (GO.ent Ent.drop ?_);refine GO.ef (Ef.makeSlice (encZ .i64) 0 rfl rfl rfl ab ab ab) ae ?_;rintro _ _⟨bw,rfl,rfl⟩;rw[aY,←my xs.length (fun k=>xs[k]!.2.2)];repeat first|refine G.sm 8 ?_|refine dq ?_|intro _|refine GO.ci (f:=311) ?_|refine GPW.ci (f:=311) ?_|refine GO.cf (f:=311) rfl ?_|refine GPW.cf (f:=311) rfl ?_|refine KX.inA ?_
 refine G.c7 (α:=Unit) (fun _=>True) (fun _=>[(0,ag ad xs.length c),(1,ac n),(10,ag (some ⟨bw,0,none⟩) xs.length xs.length)]) (fun _=>isl (encZ .i64) 1 (some ⟨bw,0,none⟩) (wts xs)::isl aG 3 ad xs::L) ?_ ?_
 ·refine Xw ?_;intros
  refine G.loop (α:=Nat) (fun i=>i≤xs.length) (fun i=>[(0,ag ad xs.length c),(1,ac n),(10,ag (some ⟨bw,0,none⟩) xs.length xs.length),(43,ag ad xs.length c),(44,ac xs.length),(45,ac (i:Int))])
   (fun i=>osl (encZ .i64) 1 tInt (some ⟨bw,0,none⟩) xs.length (iy xs.length i (fun k=>xs[k]!.2.2))::isl aG 3 ad xs::L) (fun i=>xs.length - i) 0 (aw _) aC ah ?_
  intro i hi;have a7:=nF xs.length i (fun k=>xs[k]!.2.2);by_cases a4:i<xs.length
  case neg =>
   have hin:i=xs.length:=ab;subst hin
   have e:iy xs.length xs.length (fun k=>xs[k]!.2.2)=wts xs:=by
    rw[nG];apply fH
    ·simp[wts]
    ·intro k h1 h2;have hk:k<xs.length:=by simpa using h1
     simp[wts,hk]
   rw[e];refine Xw ?_;intros;exact⟨(),trivial,aC,(Ent.frz (some ⟨bw,0,none⟩))⟩
  have a3:(i:Int).toNat=i:=ab;have h3:(iy xs.length i (fun k=>xs[k]!.2.2)).set i xs[i]!.2.2=iy xs.length (i+1) (fun k=>xs[k]!.2.2):=nE _ a4;refine Xw ?_;intros;rw[a3,h3];refine⟨i+1,ab,ab,?_,by exact ah⟩;rw[bh i];exact aC
 rintro _ _;refine Xw ?_;intros;refine GO.ca (Cr (some ⟨bw,0,none⟩) xs.length xs n hb hx a6 ab ab a5) ?_;rintro _ _⟨a0,c3,rfl,rfl⟩;refine Xw ?_;intros;rename_i bv;refine GO.ent (L':=cm [obj bv 22 [ag a0 xs.length c3],isl (encZ .i64) 1 a0 ((List.range xs.length).map (shC xs n))]::isl aG 3 ad xs::isl aG 3 ad xs::L) ?_ ?_
 ·refine(Ent.frz a0).trans ?_;refine Ent.trans ?_ Ent.f9;simp only[al,ak];refine(Ent.at (A:=isl aG 3 ad xs) (Ent.dup (lw _ _ _ _))).trans ?_;exact ah
 (first|refine GO.ef (Ef.call (nY _ _ ad c xs (shC xs n) (fun _=>cm [obj bv 22 [ag a0 xs.length c3],isl (encZ .i64) 1 a0 ((List.range xs.length).map (shC xs n))]) ab hw (EC hx ab ab) (wB bv a0 c3 xs (shC xs n) ab)) rfl dd) ae ?_);rintro _ _⟨_,⟨a1,c1,a2,c2,rfl,rfl⟩,hL⟩;simp only[al,ak] at hL;subst hL;refine Xw ?_;intros;exact KX.a8 aA (Ent.refl _) (.inr ⟨ab,a1,c1,a2,c2,rfl,rfl⟩)
def sY(mixed:Bool):TakeC mixed:=by
 cases mixed with
 | false=>exact zo
 | true =>
  refine⟨fun l n hl h0 h1 k hk=>wz true l n hl h0 h1 k hk,?_⟩;intro L ad c xs n h1 h2 h3 h4;rcases Int.lt_or_eq_of_le h3 with h5|h5
  ·have e:tkC true xs n=shC xs n:=if_pos ⟨rfl,h5⟩;unfold mP kZ;rw[e];exact Cl ad c xs n h1 h2 h5 h4
  ·subst h5;have e:tkC true xs 0=fuC xs 0:=if_neg (fun h=>absurd h.2 ab);unfold mP kZ;rw[e];exact Ck ad c xs h1 h2
structure RStk where
 acc:Int
 item:Int
 stk:Stk
 deriving Inhabited
abbrev RStk.is(s:RStk)(a i:Int):Prop:=s.acc=a∧s.item=i
structure RLX where
 cat:CatV
 stks:List RStk
 sad:OA
 scap:Nat
 flows:List FlV
 fad:OA
 fcap:Nat
 steps:List StV
 tad:OA
 tcap:Nat
def kR(ps:LL)(n:Int):Prop:=eQ ps∧lsum ps=n∧lsum (setL ps)=n
instance (ps:LL)(n:Int):Decidable (kR ps n):=by unfold kR;infer_instance
def rh(k:Nat)(m:MvM):Prop:=(0≤m.item∧m.item<k)∧(1≤m.n∧m.n≤1099511627776)∧m.frm≠m.to∧(0≤m.frm∧0≤m.to∧m.frm≤1073741824∧m.to≤1073741824)
def Dx(k:Nat)(st:Bool)(m:MvM):Prop:=rh k m∧(if st=true then kR m.parts m.n else m.parts.length=0)
def iJ(k:Int):Bool:=dB (k=5∨k=7∨k=9)
def jk(k:Int)(m:MvM):Prop:=if k=0∨k=5 then m.frm=0 else if k=1∨k=6 then m.to=0 else if k=7 then 0<m.frm else if k=9 then 0<m.to else 0<m.frm∧0<m.to
instance (k:Int)(m:MvM):Decidable (jk k m):=by unfold jk;infer_instance
def ka(s:StM):Prop:=s.rule = -1∧(1≤s.times∧s.times≤1048576)∧s.moves.length=2∧s.moves[0]!.to=0∧s.moves[1]!.frm=0∧s.moves[1]!.to=s.moves[0]!.frm∧s.moves[0]!.n % s.times=0∧s.moves[1]!.n % s.times=0
def pJ(rules:List RuM)(s:StM):Prop:=if s.kind=4 then jv rules s.rule s.times s.moves else if s.kind=10 then ka s else(∀m∈s.moves,jk s.kind m)∧s.rule = -1∧s.times=0
def gY(c:CatM)(now:Int)(s:StM):Prop :=
 (0≤s.kind∧s.kind≤10)∧accP s.actor∧(now≤s.tick∧s.tick≤1099511627776)∧(1≤s.moves.length∧s.moves.length≤64)∧(∀m∈s.moves,Dx c.items.length (iJ s.kind) m)∧pJ c.rules s
noncomputable instance (a b c):Decidable (gY a b c):=Classical.propDecidable _
def Il{s:StV}{i:Nat}(h:i<s.moves.length){L:LH}:Ent (stP s::L) (isl aG 3 s.moves[i]!.pad s.moves[i]!.m.parts::stP s::L):=Ent.c9 (f:=mvP) (aV h)
def DC{l:LL}{f n:Int}(h:∀x∈l,LotOk x)(hn:1≤n):bN l (f,0,n)=l++[(f,0,n)]:=by
 unfold bN;rw[if_neg kg,if_neg];rintro⟨h1,h2⟩;rw[lcont_iff] at h2;have:=h _ (aV (ab:l.length - 1<l.length))
 unfold LotOk at this;dsimp only at h2;omega
def po(fl:List FlM)(p:Lot):Prop:=∃f∈fl,f.kind=5∧ny f.parts [p]≠[]
instance (fl:List FlM)(p:Lot):Decidable (po fl p):=by unfold po;infer_instance
def arr1(sh:Int)(fl:List FlM)(p:Lot):Int:=if p.1 / 4294967296=sh∨11<p.1 / 4294967296 then 1 else if po fl p then 8 else 0
def arrG(sh:Int)(fl:List FlM):LL→Int
 | []=>0
 | p::ps=>if arr1 sh fl p=0 then arrG sh fl ps else arr1 sh fl p
def px(fl:List FlM)(item:Int)(p:Lot):Prop:=(¬ ∃f∈fl,f.kind=9∧f.frm=0∧ny f.parts [p]≠[])∧∃f∈fl,f.kind≠6∧f.to=0∧f.item=item∧ic [p] [(f.id,0,f.n)]
instance (fl:List FlM)(item:Int)(p:Lot):Decidable (px fl item p):=by unfold px;infer_instance
def revG(fl:List FlM)(item:Int)(ps:LL):Int:=if ∀p∈ps,px fl item p then 0 else 10
def Er{p:Lot}(h:LotOk p):eQ [p]:=⟨fun x hx=>by rw[List.mem_singleton.1 hx];exact h,by show 1≤4096;omega⟩
end
section
open Go.V
def gr(x:Lot)(l:LL):lsum (x::l)=x.2.2+lsum l:=by
 have:=gG [x] l
 rw[fI] at this;exact this
def iM:lsum ([]:LL)=0:=rfl
def ov(x y:Lot):Int:=if x.1=y.1 then max 0 (min (x.2.1+x.2.2) (y.2.1+y.2.2) - max x.2.1 y.2.1) else 0
def qX(x y:Lot):ov x y=ov y x:=by
 unfold ov;by_cases h:x.1=y.1
 ·rw[if_pos h,if_pos h.symm];omega
 ·rw[if_neg h,if_neg (fun q=>h q.symm)]
def Dt(x y:Lot):0≤ov x y:=by
 unfold ov;split<;>omega
def qW{x y:Lot}(hx:LotOk x)(hy:LotOk y):ov x y=0↔apart x y:=by
 unfold LotOk at hx hy;unfold ov apart;split<;>omega
def OV:LL→Lot→Int
 | [],_=>0
 | x::l,y=>ov x y+OV l y
def wj:∀(l:LL) (y:Lot),0≤OV l y
 | [],_=>bq _
 | x::l,y=>by
  have:=wj l y
  have:=Dt x y
  show 0≤ov x y+OV l y;omega
def gt:∀(a b:LL) (y:Lot),OV (a++b) y=OV a y+OV b y
 | [],b,y=>by show OV b y=0+OV b y;omega
 | x::a,b,y=>by
  have:=gt a b y
  show ov x y+OV (a++b) y=ov x y+OV a y+OV b y;omega
def iN(x y:Lot):OV [x] y=ov x y:=by show ov x y+0=ov x y;omega
def uQ:∀{l:LL} {y:Lot},OV l y=0→∀x∈l,ov x y=0
 | x::l,y,h,z,hz=>by
  have h1:=wj l y;have h2:=Dt x y;have h3:ov x y+OV l y=0:=h;rcases List.mem_cons.1 hz with rfl|hz
  ·omega
  ·exact uQ ab z hz
def OO(l:LL):LL→Int
 | []=>0
 | x::s=>OV l x+OO l s
def uR(y:Lot)(l:LL):∀s,OO (y::l) s=OO [y] s+OO l s
 | []=>rfl
 | x::s=>by
  have:=uR y l s
  have e:=iN y x;show(ov y x+OV l x)+OO (y::l) s=(OV [y] x+OO [y] s)+(OV l x+OO l s);omega
def zj:∀s,OO [] s=0
 | []=>rfl
 | x::s=>by
  have:=zj s
  show 0+OO [] s=0;omega
def Go(y:Lot):∀s,OO [y] s=OV s y
 | []=>rfl
 | x::s=>by
  have:=Go y s
  have e:=iN y x;have c:=qX x y;show OV [y] x+OO [y] s=ov x y+OV s y;omega
def Ca:∀l s,OO l s=OO s l
 | [],s=>zj s
 | y::l,s=>by
  rw[uR,Go,Ca l s];rfl
def Gy{x y:Lot}(hx:LotOk x)(hy:LotOk y):lsum (subS x y)=y.2.2 - ov y x:=by
 unfold LotOk at hx hy;unfold subS ov;by_cases hc:y.1≠x.1∨x.2.1+x.2.2≤y.2.1∨y.2.1+y.2.2≤x.2.1
 ·rw[if_pos hc,fI];by_cases hf:y.1=x.1
  ·rw[if_pos hf];omega
  ·rw[if_neg hf];omega
 ·have hf:y.1=x.1:=ab;rw[if_neg hc,if_pos hf,gG];by_cases g1:y.2.1<x.2.1
  ·rw[if_pos g1,fI];by_cases g2:x.2.1+x.2.2<y.2.1+y.2.2
   ·rw[if_pos g2,fI];dsimp only;omega
   ·rw[if_neg g2,iM];dsimp only;omega
  ·rw[if_neg g1,iM];by_cases g2:x.2.1+x.2.2<y.2.1+y.2.2
   ·rw[if_pos g2,fI];dsimp only;omega
   ·rw[if_neg g2,iM];omega
def Ik{x y t:Lot}(hx:LotOk x)(hy:LotOk y)(ht:LotOk t)(h:apart x t):OV (subS x y) t=ov y t:=by
 unfold LotOk at hx hy ht;unfold apart at h;unfold subS;split
 ·exact iN y t
 ·rename_i hn;rw[gt];by_cases hf:x.1=t.1
  ·have a0:y.1=t.1:=ab;split<;>split<;>simp only[iN,OV,ov,if_pos hf,if_pos a0]<;>omega
  ·have a0:¬y.1=t.1:=ab;split<;>split<;>simp only[iN,OV,ov,if_neg hf,if_neg a0]<;>omega
def rO{x:Lot}(hx:LotOk x):∀{l:LL},(∀y∈l,LotOk y)→lsum (subL l x)=lsum l - OV l x
 | [],_=>rfl
 | y::l,h=>by
  have e:subL (y::l) x=subS x y++subL l x:=aO;have ih:=rO hx (l:=l) (fun z hz=>h z (au _ hz));have h1:=Gy hx (h y av);rw[e,gG,gr,ih,h1];show _=y.2.2+lsum l - (ov y x+OV l x);omega
def Bj{x t:Lot}(hx:LotOk x)(ht:LotOk t)(ha:apart x t):∀{l:LL},(∀y∈l,LotOk y)→OV (subL l x) t=OV l t
 | [],_=>rfl
 | y::l,h=>by
  have e:subL (y::l) x=subS x y++subL l x:=aO;have ih:=Bj hx ht ha (l:=l) (fun z hz=>h z (au _ hz));rw[e,gt,ih,Ik hx (h y av) ht ha];rfl
def uL:∀{set l:LL},(∀x∈set,LotOk x)→(∀y∈l,LotOk y)→Apart set→lsum (set.foldl subL l)=lsum l - OO l set
 | [],l,_,_,_=>by show lsum l=lsum l - 0;omega
 | x::set,l,hs,hl,ha=>by
  obtain⟨a1,a2⟩:=List.pairwise_cons.1 ha;have hx:=hs x av;have a0:∀z∈set,LotOk z:=fun z hz=>hs z (au _ hz);have ih:=uL (set:=set) (l:=subL l x) a0 (qO hx hl) a2
  have a3:∀{s:LL},(∀z∈s,LotOk z)→(∀z∈s,apart x z)→OO (subL l x) s=OO l s:=fun {s}=>by
   induction s with
   | nil=>intro _ _;rfl
   | cons z s ih2 =>
    intro g1 g2;have h1:=Bj hx (g1 z av) (g2 z av) hl;have h2:=ih2 (fun q hq=>g1 q (au _ hq)) (fun q hq=>g2 q (au _ hq));show OV (subL l x) z+OO (subL l x) s=OV l z+OO l s;omega
  have h3:=rO hx hl;have h4:=a3 a0 a1;show lsum (set.foldl subL (subL l x))=lsum l - (OV l x+OO l set);omega
def vk:∀(r out:LL),lsum (r.foldl bN out)=lsum out+lsum r
 | [],out=>by show lsum out=lsum out+0;omega
 | x::r,out=>by
  have:=vk r (bN out x)
  rw[DA] at this;rw[gr];show lsum (r.foldl bN (bN out x))=_;omega
def wt{set:LL}(hs:∀x∈set,LotOk x)(ha:Apart set):∀{s out:LL},(∀y∈s,LotOk y)→lsum (s.foldl (fun out y=>(gm set y).foldl bN out) out)=lsum out+lsum s - OO s set
 | [],out,_=>by rw[zj];show lsum out=lsum out+0 - 0;omega
 | y::s,out,h=>by
  have hy:=h y av;have ih:=wt hs ha (s:=s) (out:=(gm set y).foldl bN out) (fun z hz=>h z (au _ hz));have h1:lsum (gm set y)=lsum [y] - OO [y] set:=uL hs (fun z hz=>by rw[List.mem_singleton.1 hz];exact hy) ha;rw[fI] at h1;rw[vk,h1] at ih;rw[gr,uR];show lsum (s.foldl _ ((gm set y).foldl bN out))=_;omega
def uV{s set:LL}(h:∀y∈s,LotOk y)(hs:∀x∈set,LotOk x)(ha:Apart set):lsum (gX s set)=lsum s - OO s set:=by
 have:=wt hs ha (s:=s) (out:=[]) h
 rw[iM] at this;unfold gX;omega
def sl(x y:Lot):Prop:=x.1<y.1∨(x.1=y.1∧x.2.1+x.2.2<y.2.1)
structure MrgI (l:Lot) (z:LL×LL×Int×Int) (r:LL):Prop where
 lo:0≤z.2.2.1∧z.2.2.1≤l.2.1
 hi:l.2.1+l.2.2≤z.2.2.2
 hiC:z.2.2.2=l.2.1+l.2.2∨∀x∈r,x.1=l.1→z.2.2.2<x.2.1
 loC:z.2.2.1=l.2.1∨∀x∈r,x.1=l.1→l.2.1<x.2.1
 s1:(z.1++r).Pairwise sl
 s2:(z.2.1++r).Pairwise sl
 s3:∀y∈z.1,y.1<l.1∨(y.1=l.1∧y.2.1+y.2.2<z.2.2.1)
 s4:∀y∈z.2.1,(l.1<y.1∨(y.1=l.1∧z.2.2.2<y.2.1))∧1≤y.2.2
def zsum(z:LL×LL×Int×Int):Int:=lsum z.1+lsum z.2.1+(z.2.2.2 - z.2.2.1)
def zov(f:Int)(z:LL×LL×Int×Int)(t:Lot):Int:=OV z.1 t+OV z.2.1 t+ov (f,z.2.2.1,z.2.2.2 - z.2.2.1) t
def GY{l:Lot}{z:LL×LL×Int×Int}{x:Lot}{r:LL}(hl:LotOk l)(hx:LotOk x)(h:MrgI l z (x::r)):MrgI l (insS l.1 z x) r∧zsum (insS l.1 z x)=zsum z+x.2.2 - ov x l∧(ov x l=0→∀t,LotOk t→zov l.1 (insS l.1 z x) t=zov l.1 z t+ov x t):=by
 obtain⟨⟨b0,b1⟩,b2,b3,b4,s1,s2,s3,s4⟩:=h;have a2:x∈x::r:=av;have hr:∀{y},y∈r→y∈x::r:=fun hy=>au _ hy;have a4:∀y∈r,sl x y:=(List.pairwise_cons.1 (List.pairwise_append.1 s1).2.1).1;have a5:∀y∈z.1,sl y x:=fun y hy=>(List.pairwise_append.1 s1).2.2 y hy x a2;have a6:∀y∈z.2.1,sl y x:=fun y hy=>(List.pairwise_append.1 s2).2.2 y hy x a2;have a7:=hl;have a9:=hx;unfold LotOk at a7 a9;have a0:(z.1++r).Pairwise sl:=s1.sublist (List.Sublist.append_left (List.sublist_cons_self x r) _);have a1:(z.2.1++r).Pairwise sl:=s2.sublist (List.Sublist.append_left (List.sublist_cons_self x r) _);unfold insS;by_cases c1:x.1<l.1∨(x.1=l.1∧x.2.1+x.2.2<z.2.2.1)
 ·rw[if_pos c1];have e0:ov x l=0:=by unfold ov;split<;>omega
  refine⟨⟨⟨b0,b1⟩,b2,b3.imp id (fun q y hy=>q y (hr hy)),b4.imp id (fun q y hy=>q y (hr hy)),?_,a1,?_,s4⟩,?_,fun _ t _=>?_⟩
  ·rw[aB];exact s1
  ·intro y hy;rcases List.mem_append.1 hy with hy|hy
   ·exact s3 y hy
   ·rw[List.mem_singleton.1 hy];exact c1
  ·rw[e0];unfold zsum;dsimp only;rw[gG,fI];omega
  ·unfold zov;dsimp only;rw[gt,iN];omega
 rw[if_neg c1];by_cases c2:l.1<x.1∨z.2.2.2<x.2.1
 ·rw[if_pos c2];have e0:ov x l=0:=by unfold ov;split<;>omega
  refine⟨⟨⟨b0,b1⟩,b2,b3.imp id (fun q y hy=>q y (hr hy)),b4.imp id (fun q y hy=>q y (hr hy)),a0,?_,s3,?_⟩,?_,fun _ t _=>?_⟩
  ·rw[aB];exact s2
  ·intro y hy;rcases List.mem_append.1 hy with hy|hy
   ·exact s4 y hy
   ·rw[List.mem_singleton.1 hy];dsimp only;omega
  ·rw[e0];unfold zsum;dsimp only;rw[gG,fI];omega
  ·unfold zov;dsimp only;rw[gt,iN];omega
 rw[if_neg c2];have hf:x.1=l.1:=ab
 have b5:z.2.2.2=l.2.1+l.2.2:=by
  rcases b3 with q|q
  ·exact q
  ·have:=q x a2 hf
   omega
 have b6:z.2.2.1=l.2.1∨l.2.1<x.2.1:=b4.imp id (fun q=>q x a2 hf);refine⟨⟨⟨by dsimp only;omega,by dsimp only;omega⟩,by dsimp only;omega,?_,?_,a0,a1,?_,?_⟩,?_,fun e0 t ht=>?_⟩
 ·dsimp only;by_cases q:x.2.1+x.2.2≤l.2.1+l.2.2
  ·left;omega
  ·right;intro y hy a3;have:=a4 y hy
   unfold sl at this;omega
 ·dsimp only;by_cases q:z.2.2.1≤x.2.1
  ·rcases b4 with g|g
   ·left;omega
   ·right;intro y hy a3;exact g y (hr hy) a3
  ·right;intro y hy a3;have:=a4 y hy
   unfold sl at this;omega
 ·intro y hy;have g1:=s3 y hy;have g2:=a5 y hy;unfold sl at g2;dsimp only;omega
 ·intro y hy;exfalso;have g1:=s4 y hy;have g2:=a6 y hy;unfold sl at g2;omega
 ·unfold zsum ov;rw[if_pos hf];dsimp only;omega
 ·unfold ov at e0;rw[if_pos hf] at e0;unfold zov;dsimp only
  have key:ov (l.1,min z.2.2.1 x.2.1,max z.2.2.2 (x.2.1+x.2.2) - min z.2.2.1 x.2.1) t=ov (l.1,z.2.2.1,z.2.2.2 - z.2.2.1) t+ov x t:=by
   unfold LotOk at ht;unfold ov;dsimp only;by_cases g:l.1=t.1
   ·rw[if_pos g,if_pos g,if_pos (hf.trans g)];omega
   ·rw[if_neg g,if_neg g,if_neg (fun q=>g (hf▸q))];omega
  omega
def ux{l:Lot}(hl:LotOk l):∀{r:LL} {z:LL×LL×Int×Int},(∀x∈r,LotOk x)→MrgI l z r→MrgI l (r.foldl (insS l.1) z) []∧zsum (r.foldl (insS l.1) z)=zsum z+lsum r - OV r l∧(OV r l=0→∀t,LotOk t→zov l.1 (r.foldl (insS l.1) z) t=zov l.1 z t+OV r t)
 | [],z,_,h=>⟨h,by show zsum z=zsum z+0 - 0;omega,fun _ t _=>by show zov l.1 z t=zov l.1 z t+0;omega⟩
 | x::r,z,hr,h=>by
  obtain⟨h1,h2,h3⟩:=GY hl (hr x av) h;obtain⟨i1,i2,i3⟩:=ux hl (r:=r) (z:=insS l.1 z x) (fun y hy=>hr y (au _ hy)) h1;have e:OV (x::r) l=ov x l+OV r l:=rfl;have n1:=Dt x l;have n2:=wj r l;refine⟨i1,?_,fun q t ht=>?_⟩
  ·show zsum (r.foldl (insS l.1) (insS l.1 z x))=_;rw[gr];omega
  ·have g1:=h3 ab t ht;have g2:=i3 ab t ht;show zov l.1 (r.foldl (insS l.1) (insS l.1 z x)) t=zov l.1 z t+(ov x t+OV r t);omega
def Hj{l:Lot}{s:LL}(hl:LotOk l)(hs:∀x∈s,LotOk x)(hp:s.Pairwise sl):(insL s l).Pairwise sl∧lsum (insL s l)=lsum s+l.2.2 - OV s l∧(OV s l=0→∀t,LotOk t→OV (insL s l) t=OV s t+ov l t):=by
 have a0:=hl;unfold LotOk at a0;obtain⟨⟨_,_,_,_,_,_,s3,s4⟩,h2,h3⟩:=ux hl (r:=s) (z:=([],[],l.2.1,l.2.1+l.2.2)) hs ⟨⟨a0.2.1,bq _⟩,bq _,.inl rfl,.inl rfl,hp,hp,(fun _ h=>by cases h),(fun _ h=>by cases h)⟩;have hm:=ux hl (r:=s) (z:=([],[],l.2.1,l.2.1+l.2.2)) hs ⟨⟨a0.2.1,bq _⟩,bq _,.inl rfl,.inl rfl,hp,hp,(fun _ h=>by cases h),(fun _ h=>by cases h)⟩;have p1:=hm.1.s1;have p2:=hm.1.s2;have q1:=hm.1.lo;have q2:=hm.1.hi;rw[aH] at p1 p2;have e:s.foldl (insS l.1) ([],[],l.2.1,l.2.1+l.2.2)=insG s l:=rfl;rw[e] at s3 s4 h2 h3 p1 p2 q1 q2;clear hm;have z0:zsum ([],[],l.2.1,l.2.1+l.2.2)=l.2.2:=by unfold zsum;dsimp only;rw[iM];omega
 unfold insL;generalize insG s l=z at *;refine⟨?_,?_,fun q t ht=>?_⟩
 ·refine List.pairwise_append.2 ⟨List.pairwise_append.2 ⟨p1,bB _ _,fun y hy w hw=>?_⟩,p2,fun y hy w hw=>?_⟩
  ·rw[List.mem_singleton.1 hw];have:=s3 y hy
   unfold sl;dsimp only;omega
  ·have g2:=s4 w hw;rcases List.mem_append.1 hy with hy|hy
   ·have g1:=s3 y hy;unfold sl;omega
   ·rw[List.mem_singleton.1 hy];unfold sl;dsimp only;omega
 ·rw[gG,gG,fI];rw[z0] at h2;unfold zsum at h2;dsimp only;omega
 ·have g:=h3 q t ht
  have e0:zov l.1 ([],[],l.2.1,l.2.1+l.2.2) t=ov l t:=by
   unfold zov;dsimp only;have:l.2.1+l.2.2 - l.2.1=l.2.2:=ab;rw[this];show 0+0+ov (l.1,l.2.1,l.2.2) t=ov l t;rw[show(l.1,l.2.1,l.2.2)=l from rfl];omega
  rw[e0] at g;unfold zov at g;rw[gt,gt,iN];omega
def mR{ps:LL}(h:∀x∈ps,LotOk x):∀i,i≤ps.length→(setL (ps.take i)).Pairwise sl∧lsum (setL (ps.take i))≤lsum (ps.take i)∧(lsum (setL (ps.take i))=lsum (ps.take i)→Apart (ps.take i)∧∀t,LotOk t→OV (setL (ps.take i)) t=OV (ps.take i) t)∧(Apart (ps.take i)→lsum (setL (ps.take i))=lsum (ps.take i))
 | 0,_=>⟨List.Pairwise.nil,bq _,fun _=>⟨List.Pairwise.nil,fun _ _=>rfl⟩,fun _=>rfl⟩
 | i+1,hi=>by
  obtain⟨h1,h2,h3,h4⟩:=mR h i ab;have a0:i<ps.length:=ab;have hx:=h _ (aV a0);have a5:=(pP h i ab).2;have e:setL (ps.take (i+1))=insL (setL (ps.take i)) ps[i]!:=jX insL [] a0;have et:ps.take (i+1)=ps.take i++[ps[i]!]:=by rw[az a0,getElem!_of a0]
  have a4:lsum (ps.take (i+1))=lsum (ps.take i)+ps[i]!.2.2:=ig ps a0;have a3:∀x∈ps.take i,LotOk x:=fun x hq=>h x (bF hq);obtain⟨g1,g2,g3⟩:=Hj hx a5 h1;have nn:=wj (setL (ps.take i)) ps[i]!;rw[e,a4];refine⟨g1,ab,fun q=>?_,fun q=>?_⟩
  ·obtain⟨a1,a2⟩:=h3 ab;have z:OV (setL (ps.take i)) ps[i]! = 0:=ab;rw[et];refine⟨List.pairwise_append.2 ⟨a1,bB _ _,fun y hy w hw=>?_⟩,fun t ht=>?_⟩
   ·rw[List.mem_singleton.1 hw];rw[a2 _ hx] at z;exact(qW (a3 y hy) hx).1 (uQ z y hy)
   ·rw[g3 z t ht,a2 t ht,gt,iN]
  ·rw[et] at q;obtain⟨q1,_,q3⟩:=List.pairwise_append.1 q;have h5:=h4 q1;have h6:=(h3 h5).2 _ hx
   have z:∀{l:LL},(∀y∈l,LotOk y)→(∀y∈l,apart y ps[i]!)→OV l ps[i]! = 0:=fun {l}=>by
    induction l with
    | nil=>intro _ _;rfl
    | cons y l ih =>
     intro w1 w2;have e1:=(qW (w1 y av) hx).2 (w2 y av);have e2:=ih (fun q hq=>w1 q (au _ hq)) (fun q hq=>w2 q (au _ hq));show ov y ps[i]! + OV l ps[i]! = 0;omega
   have h7:=z a3 (fun y hy=>q3 y hy _ (cT _));omega
def oE{ps:LL}(h:∀x∈ps,LotOk x):lsum (setL ps)=lsum ps↔Apart ps:=by
 obtain⟨_,_,h3,h4⟩:=mR h ps.length (aq _);rw[cC] at h3 h4;exact⟨fun q=>(h3 q).1,h4⟩
def wI{s:LL}(h:s.Pairwise sl):Apart s:=h.imp (fun {a b} q=>by unfold sl at q;unfold apart;omega)
def HU{a b:LL}:∀{s:LL},(∀t∈s,OV a t=OV b t)→OO a s=OO b s
 | [],_=>rfl
 | x::s,h=>by
  have h1:=h x av;have h2:=HU (s:=s) (fun t ht=>h t (au _ ht));show OV a x+OO a s=OV b x+OO b s;omega
