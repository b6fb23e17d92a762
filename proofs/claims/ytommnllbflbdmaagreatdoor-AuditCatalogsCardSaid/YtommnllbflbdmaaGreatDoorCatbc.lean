/- Lemmas. -/
import Derived.Test.YtommnllbflbdmaaGreatDoorCatba
set_option linter.all false
set_option maxHeartbeats 1000000
namespace Go.Proofs.YtommnllbflbdmaaGreatDoor
section
open Go.V
attribute [local irreducible] G GO GP GPW GPK Ev Ef EfR Ent CB GB V.Enters
def oM(fl:List FlM)(p:Lot):Prop:=∃f∈fl,f.kind=5∧nj f.parts [p]≠[]
instance (fl:List FlM)(p:Lot):Decidable (oM fl p):=by unfold oM;infer_instance
def arr1(sh:Int)(fl:List FlM)(p:Lot):Int:=if p.1 / 4294967296=sh∨11<p.1 / 4294967296 then 1 else if oM fl p then 8 else 0
def arrG(sh:Int)(fl:List FlM):LL1→Int
 | []=>0
 | p::ps=>if arr1 sh fl p=0 then arrG sh fl ps else arr1 sh fl p
def oP(fl:List FlM)(item:Int)(p:Lot):Prop:=(¬ ∃f∈fl,f.kind=9∧f.frm=0∧nj f.parts [p]≠[])∧∃f∈fl,f.kind≠6∧f.to=0∧f.item=item∧iy [p] [(f.id,0,f.n)]
instance (fl:List FlM)(item:Int)(p:Lot):Decidable (oP fl item p):=by unfold oP;infer_instance
def revG(fl:List FlM)(item:Int)(ps:LL1):Int:=if ∀p∈ps,oP fl item p then 0 else 10
def DS{p:Lot}(h:LotOk p):gm [p]:=⟨fun x hx=>by rw[List.mem_singleton.1 hx];exact h,by show 1≤4096;omega⟩
end
section
open Go.V
def gy(x:Lot)(l:LL1):lsum (x::l)=x.2.2+lsum l:=by
 have:=gQ [x] l
 rw[ga] at this;exact this
def iC:lsum ([]:LL1)=0:=rfl
def ov(x y:Lot):Int:=if x.1=y.1 then max 0 (min (x.2.1+x.2.2) (y.2.1+y.2.2) - max x.2.1 y.2.1) else 0
def tD(x y:Lot):ov x y=ov y x:=by
 unfold ov;by_cases h:x.1=y.1
 ·rw[if_pos h,if_pos h.symm];omega
 ·rw[if_neg h,if_neg (fun q=>h q.symm)]
def CF(x y:Lot):0≤ov x y:=by
 unfold ov;split<;>omega
def qw{x y:Lot}(hx:LotOk x)(hy:LotOk y):ov x y=0↔apart x y:=by
 unfold LotOk at hx hy;unfold ov apart;split<;>omega
def OV:LL1→Lot→Int
 | [],_=>0
 | x::l,y=>ov x y+OV l y
def vu:∀(l:LL1) (y:Lot),0≤OV l y
 | [],_=>bG _
 | x::l,y=>by
  have:=vu l y
  have:=CF x y
  show 0≤ov x y+OV l y;omega
def gz:∀(a b:LL1) (y:Lot),OV (a++b) y=OV a y+OV b y
 | [],b,y=>by show OV b y=0+OV b y;omega
 | x::a,b,y=>by
  have:=gz a b y
  show ov x y+OV (a++b) y=ov x y+OV a y+OV b y;omega
def jh(x y:Lot):OV [x] y=ov x y:=by show ov x y+0=ov x y;omega
def tX:∀{l:LL1} {y:Lot},OV l y=0→∀x∈l,ov x y=0
 | x::l,y,h,z,hz=>by
  have h1:=vu l y;have h2:=CF x y;have h3:ov x y+OV l y=0:=h;rcases List.mem_cons.1 hz with rfl|hz
  ·omega
  ·exact tX ab z hz
def OO(l:LL1):LL1→Int
 | []=>0
 | x::s=>OV l x+OO l s
def Bk(y:Lot)(l:LL1):∀s,OO (y::l) s=OO [y] s+OO l s
 | []=>rfl
 | x::s=>by
  have:=Bk y l s
  have e:=jh y x;show(ov y x+OV l x)+OO (y::l) s=(OV [y] x+OO [y] s)+(OV l x+OO l s);omega
def Fw:∀s,OO [] s=0
 | []=>rfl
 | x::s=>by
  have:=Fw s
  show 0+OO [] s=0;omega
def FG{x y:Lot}(hx:LotOk x)(hy:LotOk y):lsum (subS x y)=y.2.2 - ov y x:=by
 unfold LotOk at hx hy;unfold subS ov;by_cases hc:y.1≠x.1∨x.2.1+x.2.2≤y.2.1∨y.2.1+y.2.2≤x.2.1
 ·rw[if_pos hc,ga];by_cases hf:y.1=x.1
  ·rw[if_pos hf];omega
  ·rw[if_neg hf];omega
 ·have hf:y.1=x.1:=ab;rw[if_neg hc,if_pos hf,gQ];by_cases g1:y.2.1<x.2.1
  ·rw[if_pos g1,ga];by_cases g2:x.2.1+x.2.2<y.2.1+y.2.2
   ·rw[if_pos g2,ga];dsimp only;omega
   ·rw[if_neg g2,iC];dsimp only;omega
  ·rw[if_neg g1,iC];by_cases g2:x.2.1+x.2.2<y.2.1+y.2.2
   ·rw[if_pos g2,ga];dsimp only;omega
   ·rw[if_neg g2,iC];omega
def Hf{x y t:Lot}(hx:LotOk x)(hy:LotOk y)(ht:LotOk t)(h:apart x t):OV (subS x y) t=ov y t:=by
 unfold LotOk at hx hy ht;unfold apart at h;unfold subS;split
 ·exact jh y t
 ·rename_i hn;rw[gz];by_cases hf:x.1=t.1
  ·have a0:y.1=t.1:=ab;split<;>split<;>simp only[jh,OV,ov,if_pos hf,if_pos a0]<;>omega
  ·have a0:¬y.1=t.1:=ab;split<;>split<;>simp only[jh,OV,ov,if_neg hf,if_neg a0]<;>omega
def rk{x:Lot}(hx:LotOk x):∀{l:LL1},(∀y∈l,LotOk y)→lsum (subL l x)=lsum l - OV l x
 | [],_=>rfl
 | y::l,h=>by
  have e:subL (y::l) x=subS x y++subL l x:=bB;have ih:=rk hx (l:=l) (fun z hz=>h z (aw _ hz));have h1:=FG hx (h y au);rw[e,gQ,gy,ih,h1];show _=y.2.2+lsum l - (ov y x+OV l x);omega
def AF{x t:Lot}(hx:LotOk x)(ht:LotOk t)(ha:apart x t):∀{l:LL1},(∀y∈l,LotOk y)→OV (subL l x) t=OV l t
 | [],_=>rfl
 | y::l,h=>by
  have e:subL (y::l) x=subS x y++subL l x:=bB;have ih:=AF hx ht ha (l:=l) (fun z hz=>h z (aw _ hz));rw[e,gz,ih,Hf hx (h y au) ht ha];rfl
def tR:∀{set l:LL1},(∀x∈set,LotOk x)→(∀y∈l,LotOk y)→Apart set→lsum (set.foldl subL l)=lsum l - OO l set
 | [],l,_,_,_=>by show lsum l=lsum l - 0;omega
 | x::set,l,hs,hl,ha=>by
  obtain⟨a1,a2⟩:=List.pairwise_cons.1 ha;have hx:=hs x au;have a0:∀z∈set,LotOk z:=fun z hz=>hs z (aw _ hz);have ih:=tR (set:=set) (l:=subL l x) a0 (nK hx hl) a2
  have a3:∀{s:LL1},(∀z∈s,LotOk z)→(∀z∈s,apart x z)→OO (subL l x) s=OO l s:=fun {s}=>by
   induction s with
   | nil=>intro _ _;rfl
   | cons z s ih2 =>
    intro g1 g2;have h1:=AF hx (g1 z au) (g2 z au) hl;have h2:=ih2 (fun q hq=>g1 q (aw _ hq)) (fun q hq=>g2 q (aw _ hq));show OV (subL l x) z+OO (subL l x) s=OV l z+OO l s;omega
  have h3:=rk hx hl;have h4:=a3 a0 a1;show lsum (set.foldl subL (subL l x))=lsum l - (OV l x+OO l set);omega
def ur:∀(r out:LL1),lsum (r.foldl ba out)=lsum out+lsum r
 | [],out=>by show lsum out=lsum out+0;omega
 | x::r,out=>by
  have:=ur r (ba out x)
  rw[CL] at this;rw[gy];show lsum (r.foldl ba (ba out x))=_;omega
def vA{set:LL1}(hs:∀x∈set,LotOk x)(ha:Apart set):∀{s out:LL1},(∀y∈s,LotOk y)→lsum (s.foldl (fun out y=>(fP set y).foldl ba out) out)=lsum out+lsum s - OO s set
 | [],out,_=>by rw[Fw];show lsum out=lsum out+0 - 0;omega
 | y::s,out,h=>by
  have hy:=h y au;have ih:=vA hs ha (s:=s) (out:=(fP set y).foldl ba out) (fun z hz=>h z (aw _ hz));have h1:lsum (fP set y)=lsum [y] - OO [y] set:=tR hs (fun z hz=>by rw[List.mem_singleton.1 hz];exact hy) ha;rw[ga] at h1;rw[ur,h1] at ih;rw[gy,Bk];show lsum (s.foldl _ ((fP set y).foldl ba out))=_;omega
def tZ{s set:LL1}(h:∀y∈s,LotOk y)(hs:∀x∈set,LotOk x)(ha:Apart set):lsum (fq s set)=lsum s - OO s set:=by
 have:=vA hs ha (s:=s) (out:=[]) h
 rw[iC] at this;unfold fq;omega
def sl(x y:Lot):Prop:=x.1<y.1∨(x.1=y.1∧x.2.1+x.2.2<y.2.1)
structure MrgI (l:Lot) (z:LL1×LL1×Int×Int) (r:LL1):Prop where
 lo:0≤z.2.2.1∧z.2.2.1≤l.2.1
 hi:l.2.1+l.2.2≤z.2.2.2
 hiC:z.2.2.2=l.2.1+l.2.2∨∀x∈r,x.1=l.1→z.2.2.2<x.2.1
 loC:z.2.2.1=l.2.1∨∀x∈r,x.1=l.1→l.2.1<x.2.1
 s1:(z.1++r).Pairwise sl
 s2:(z.2.1++r).Pairwise sl
 s3:∀y∈z.1,y.1<l.1∨(y.1=l.1∧y.2.1+y.2.2<z.2.2.1)
 s4:∀y∈z.2.1,(l.1<y.1∨(y.1=l.1∧z.2.2.2<y.2.1))∧1≤y.2.2
def zsum(z:LL1×LL1×Int×Int):Int:=lsum z.1+lsum z.2.1+(z.2.2.2 - z.2.2.1)
def zov(f:Int)(z:LL1×LL1×Int×Int)(t:Lot):Int:=OV z.1 t+OV z.2.1 t+ov (f,z.2.2.1,z.2.2.2 - z.2.2.1) t
def Ga{l:Lot}{z:LL1×LL1×Int×Int}{x:Lot}{r:LL1}(hl:LotOk l)(hx:LotOk x)(h:MrgI l z (x::r)):MrgI l (insS l.1 z x) r∧zsum (insS l.1 z x)=zsum z+x.2.2 - ov x l∧(ov x l=0→∀t,LotOk t→zov l.1 (insS l.1 z x) t=zov l.1 z t+ov x t):=by
 obtain⟨⟨b0,b1⟩,b2,b3,b4,s1,s2,s3,s4⟩:=h;have a2:x∈x::r:=au;have hr:∀{y},y∈r→y∈x::r:=fun hy=>aw _ hy;have a4:∀y∈r,sl x y:=(List.pairwise_cons.1 (List.pairwise_append.1 s1).2.1).1;have a5:∀y∈z.1,sl y x:=fun y hy=>(List.pairwise_append.1 s1).2.2 y hy x a2;have a6:∀y∈z.2.1,sl y x:=fun y hy=>(List.pairwise_append.1 s2).2.2 y hy x a2;have a7:=hl;have a8:=hx;unfold LotOk at a7 a8;have a0:(z.1++r).Pairwise sl:=s1.sublist (List.Sublist.append_left (List.sublist_cons_self x r) _);have a1:(z.2.1++r).Pairwise sl:=s2.sublist (List.Sublist.append_left (List.sublist_cons_self x r) _);unfold insS;by_cases c1:x.1<l.1∨(x.1=l.1∧x.2.1+x.2.2<z.2.2.1)
 ·rw[if_pos c1];have e0:ov x l=0:=by unfold ov;split<;>omega
  refine⟨⟨⟨b0,b1⟩,b2,b3.imp id (fun q y hy=>q y (hr hy)),b4.imp id (fun q y hy=>q y (hr hy)),?_,a1,?_,s4⟩,?_,fun _ t _=>?_⟩
  ·rw[aF];exact s1
  ·intro y hy;rcases List.mem_append.1 hy with hy|hy
   ·exact s3 y hy
   ·rw[List.mem_singleton.1 hy];exact c1
  ·rw[e0];unfold zsum;dsimp only;rw[gQ,ga];omega
  ·unfold zov;dsimp only;rw[gz,jh];omega
 rw[if_neg c1];by_cases c2:l.1<x.1∨z.2.2.2<x.2.1
 ·rw[if_pos c2];have e0:ov x l=0:=by unfold ov;split<;>omega
  refine⟨⟨⟨b0,b1⟩,b2,b3.imp id (fun q y hy=>q y (hr hy)),b4.imp id (fun q y hy=>q y (hr hy)),a0,?_,s3,?_⟩,?_,fun _ t _=>?_⟩
  ·rw[aF];exact s2
  ·intro y hy;rcases List.mem_append.1 hy with hy|hy
   ·exact s4 y hy
   ·rw[List.mem_singleton.1 hy];dsimp only;omega
  ·rw[e0];unfold zsum;dsimp only;rw[gQ,ga];omega
  ·unfold zov;dsimp only;rw[gz,jh];omega
 rw[if_neg c2];have hf:x.1=l.1:=ab
 have a9:z.2.2.2=l.2.1+l.2.2:=by
  rcases b3 with q|q
  ·exact q
  ·have:=q x a2 hf
   omega
 have b5:z.2.2.1=l.2.1∨l.2.1<x.2.1:=b4.imp id (fun q=>q x a2 hf);refine⟨⟨⟨by dsimp only;omega,by dsimp only;omega⟩,by dsimp only;omega,?_,?_,a0,a1,?_,?_⟩,?_,fun e0 t ht=>?_⟩
 ·dsimp only;by_cases q:x.2.1+x.2.2≤l.2.1+l.2.2
  ·left;omega
  ·right;intro y hy a3;have:=a4 y hy
   unfold sl at this;omega
 ·dsimp only;by_cases q:z.2.2.1≤x.2.1
  ·rcases b4 with g|g
   ·left;omega
   ·right;intro y hy a3;exact g y (hr hy) a3
  ·right;intro y hy a3;have:=a4 y hy
   unfold sl at this;omega
 ·intro y hy;have g1:=s3 y hy;have g2:=a5 y hy;unfold sl at g2;dsimp only;omega
 ·intro y hy;exfalso;have g1:=s4 y hy;have g2:=a6 y hy;unfold sl at g2;omega
 ·unfold zsum ov;rw[if_pos hf];dsimp only;omega
 ·unfold ov at e0;rw[if_pos hf] at e0;unfold zov;dsimp only
  have key:ov (l.1,min z.2.2.1 x.2.1,max z.2.2.2 (x.2.1+x.2.2) - min z.2.2.1 x.2.1) t=ov (l.1,z.2.2.1,z.2.2.2 - z.2.2.1) t+ov x t:=by
   unfold LotOk at ht;unfold ov;dsimp only;by_cases g:l.1=t.1
   ·rw[if_pos g,if_pos g,if_pos (hf.trans g)];omega
   ·rw[if_neg g,if_neg g,if_neg (fun q=>g (hf▸q))];omega
  omega
def tF{l:Lot}(hl:LotOk l):∀{r:LL1} {z:LL1×LL1×Int×Int},(∀x∈r,LotOk x)→MrgI l z r→MrgI l (r.foldl (insS l.1) z) []∧zsum (r.foldl (insS l.1) z)=zsum z+lsum r - OV r l∧(OV r l=0→∀t,LotOk t→zov l.1 (r.foldl (insS l.1) z) t=zov l.1 z t+OV r t)
 | [],z,_,h=>⟨h,by show zsum z=zsum z+0 - 0;omega,fun _ t _=>by show zov l.1 z t=zov l.1 z t+0;omega⟩
 | x::r,z,hr,h=>by
  obtain⟨h1,h2,h3⟩:=Ga hl (hr x au) h;obtain⟨i1,i2,i3⟩:=tF hl (r:=r) (z:=insS l.1 z x) (fun y hy=>hr y (aw _ hy)) h1;have e:OV (x::r) l=ov x l+OV r l:=rfl;have n1:=CF x l;have n2:=vu r l;refine⟨i1,?_,fun q t ht=>?_⟩
  ·show zsum (r.foldl (insS l.1) (insS l.1 z x))=_;rw[gy];omega
  ·have g1:=h3 ab t ht;have g2:=i3 ab t ht;show zov l.1 (r.foldl (insS l.1) (insS l.1 z x)) t=zov l.1 z t+(ov x t+OV r t);omega
def Gj{l:Lot}{s:LL1}(hl:LotOk l)(hs:∀x∈s,LotOk x)(hp:s.Pairwise sl):(insL s l).Pairwise sl∧lsum (insL s l)=lsum s+l.2.2 - OV s l∧(OV s l=0→∀t,LotOk t→OV (insL s l) t=OV s t+ov l t):=by
 have a0:=hl;unfold LotOk at a0;obtain⟨⟨_,_,_,_,_,_,s3,s4⟩,h2,h3⟩:=tF hl (r:=s) (z:=([],[],l.2.1,l.2.1+l.2.2)) hs ⟨⟨a0.2.1,bG _⟩,bG _,.inl rfl,.inl rfl,hp,hp,(fun _ h=>by cases h),(fun _ h=>by cases h)⟩;have hm:=tF hl (r:=s) (z:=([],[],l.2.1,l.2.1+l.2.2)) hs ⟨⟨a0.2.1,bG _⟩,bG _,.inl rfl,.inl rfl,hp,hp,(fun _ h=>by cases h),(fun _ h=>by cases h)⟩;have p1:=hm.1.s1;have p2:=hm.1.s2;have q1:=hm.1.lo;have q2:=hm.1.hi;rw[aO] at p1 p2;have e:s.foldl (insS l.1) ([],[],l.2.1,l.2.1+l.2.2)=insG s l:=rfl;rw[e] at s3 s4 h2 h3 p1 p2 q1 q2;clear hm;have z0:zsum ([],[],l.2.1,l.2.1+l.2.2)=l.2.2:=by unfold zsum;dsimp only;rw[iC];omega
 unfold insL;generalize insG s l=z at *;refine⟨?_,?_,fun q t ht=>?_⟩
 ·refine List.pairwise_append.2 ⟨List.pairwise_append.2 ⟨p1,bq _ _,fun y hy w hw=>?_⟩,p2,fun y hy w hw=>?_⟩
  ·rw[List.mem_singleton.1 hw];have:=s3 y hy
   unfold sl;dsimp only;omega
  ·have g2:=s4 w hw;rcases List.mem_append.1 hy with hy|hy
   ·have g1:=s3 y hy;unfold sl;omega
   ·rw[List.mem_singleton.1 hy];unfold sl;dsimp only;omega
 ·rw[gQ,gQ,ga];rw[z0] at h2;unfold zsum at h2;dsimp only;omega
 ·have g:=h3 q t ht
  have e0:zov l.1 ([],[],l.2.1,l.2.1+l.2.2) t=ov l t:=by
   unfold zov;dsimp only;have:l.2.1+l.2.2 - l.2.1=l.2.2:=ab;rw[this];show 0+0+ov (l.1,l.2.1,l.2.2) t=ov l t;rw[show(l.1,l.2.1,l.2.2)=l from rfl];omega
  rw[e0] at g;unfold zov at g;rw[gz,gz,jh];omega
def mM{ps:LL1}(h:∀x∈ps,LotOk x):∀i,i≤ps.length→(setL (ps.take i)).Pairwise sl∧lsum (setL (ps.take i))≤lsum (ps.take i)∧(lsum (setL (ps.take i))=lsum (ps.take i)→Apart (ps.take i)∧∀t,LotOk t→OV (setL (ps.take i)) t=OV (ps.take i) t)∧(Apart (ps.take i)→lsum (setL (ps.take i))=lsum (ps.take i))
 | 0,_=>⟨List.Pairwise.nil,bG _,fun _=>⟨List.Pairwise.nil,fun _ _=>rfl⟩,fun _=>rfl⟩
 | i+1,hi=>by
  obtain⟨h1,h2,h3,h4⟩:=mM h i ab;have a0:i<ps.length:=ab;have hx:=h _ (aL a0);have a5:=(pw h i ab).2;have e:setL (ps.take (i+1))=insL (setL (ps.take i)) ps[i]!:=kh insL [] a0;have et:ps.take (i+1)=ps.take i++[ps[i]!]:=by rw[aC a0,getElem!_of a0]
  have a4:lsum (ps.take (i+1))=lsum (ps.take i)+ps[i]!.2.2:=fC ps a0;have a3:∀x∈ps.take i,LotOk x:=fun x hq=>h x (cz hq);obtain⟨g1,g2,g3⟩:=Gj hx a5 h1;have nn:=vu (setL (ps.take i)) ps[i]!;rw[e,a4];refine⟨g1,ab,fun q=>?_,fun q=>?_⟩
  ·obtain⟨a1,a2⟩:=h3 ab;have z:OV (setL (ps.take i)) ps[i]! = 0:=ab;rw[et];refine⟨List.pairwise_append.2 ⟨a1,bq _ _,fun y hy w hw=>?_⟩,fun t ht=>?_⟩
   ·rw[List.mem_singleton.1 hw];rw[a2 _ hx] at z;exact(qw (a3 y hy) hx).1 (tX z y hy)
   ·rw[g3 z t ht,a2 t ht,gz,jh]
  ·rw[et] at q;obtain⟨q1,_,q3⟩:=List.pairwise_append.1 q;have h5:=h4 q1;have h6:=(h3 h5).2 _ hx
   have z:∀{l:LL1},(∀y∈l,LotOk y)→(∀y∈l,apart y ps[i]!)→OV l ps[i]! = 0:=fun {l}=>by
    induction l with
    | nil=>intro _ _;rfl
    | cons y l ih =>
     intro w1 w2;have e1:=(qw (w1 y au) hx).2 (w2 y au);have e2:=ih (fun q hq=>w1 q (aw _ hq)) (fun q hq=>w2 q (aw _ hq));show ov y ps[i]! + OV l ps[i]! = 0;omega
   have h7:=z a3 (fun y hy=>q3 y hy _ (da _));omega
def og{ps:LL1}(h:∀x∈ps,LotOk x):lsum (setL ps)=lsum ps↔Apart ps:=by
 obtain⟨_,_,h3,h4⟩:=mM h ps.length (aI _);rw[cd] at h3 h4;exact⟨fun q=>(h3 q).1,h4⟩
def vV{s:LL1}(h:s.Pairwise sl):Apart s:=h.imp (fun {a b} q=>by unfold sl at q;unfold apart;omega)
def DC{a b:LL1}:∀{s:LL1},(∀t∈s,OV a t=OV b t)→OO a s=OO b s
 | [],_=>rfl
 | x::s,h=>by
  have h1:=h x au;have h2:=DC (s:=s) (fun t ht=>h t (aw _ ht));show OV a x+OO a s=OV b x+OO b s;omega
def pB:∀{r out:LL1},∀z∈r.foldl ba out,∃y∈out++r,z.1=y.1
 | [],out,z,hz=>⟨z,bQ _ hz,rfl⟩
 | x::r,out,z,hz=>by
  obtain⟨y,hy,e⟩:=pB (r:=r) (out:=ba out x) z hz;rcases List.mem_append.1 hy with hy|hy
  ·have h:∀w∈ba out x,∃v∈out++x::r,w.1=v.1:=by
    intro w hw;unfold ba at hw;split at hw
    ·exact⟨w,bQ _ hw,rfl⟩
    ·split at hw
     ·rename_i hc;rcases bX hw with hw|rfl
      ·exact⟨w,bQ _ hw,rfl⟩
      ·exact⟨_,bQ _ (aL (ab:out.length - 1<out.length)),rfl⟩
     ·rcases List.mem_append.1 hw with hw|hw
      ·exact⟨w,bQ _ hw,rfl⟩
      ·exact⟨w,bD _ (by rw[List.mem_singleton.1 hw];exact au),rfl⟩
   obtain⟨v,hv,e2⟩:=h y hy;exact⟨v,hv,e.trans e2⟩
  ·exact⟨y,bD _ (aw _ hy),e⟩
def nz:∀(r out:LL1),r.foldl ba out=(r.filter (fun x=>decide (x.2.2≠0))).foldl ba out
 | [],_=>rfl
 | x::r,out=>by
  by_cases h:x.2.2=0
  ·rw[cP (by simpa using h)];have e:ba out x=out:=if_pos h;show r.foldl ba (ba out x)=_;rw[e];exact nz r out
  ·rw[cO (by simpa using h)];exact nz r (ba out x)
def lj:∀{r out:LL1},Apart (out++r)→(∀z∈out++r,1≤z.2.2)→Apart (r.foldl ba out)
 | [],out,h,_=>by rwa [aO] at h
 | x::r,out,h,hn=>by
  have hx:=hn x (bD _ au);have a8:out++x::r=(out++[x])++r:=by rw[aF];rfl
  by_cases hc:out.length≠0∧lm x out[out.length - 1]!
  case neg =>
   have e:ba out x=out++[x]:=by unfold ba;rw[if_neg ab,if_neg hc]
   show Apart (r.foldl ba (ba out x));rw[e];rw[a8] at h hn;exact lj h hn
  obtain⟨hl,hk⟩:=hc;have e:ba out x=out.set (out.length - 1) (out[out.length - 1]!.1,out[out.length - 1]!.2.1,out[out.length - 1]!.2.2+x.2.2):=by unfold ba;rw[if_neg ab,if_pos ⟨hl,hk⟩]
  rcases List.eq_nil_or_concat out with rfl|⟨a0,b,rfl⟩
  ·exact absurd rfl hl
  rw[List.concat_eq_append] at *
  have eb:(a0++[b])[(a0++[b]).length - 1]! = b:=by
   rw[getElem!_of bH];simp
  rw[eb] at e hk
  have es:(a0++[b]).set ((a0++[b]).length - 1) (b.1,b.2.1,b.2.2+x.2.2)=a0++[(b.1,b.2.1,b.2.2+x.2.2)]:=by
   rw[ax,aG,Nat.add_sub_cancel,List.set_append_right _ _ (aI _)];simp
  rw[es] at e;show Apart (r.foldl ba (ba (a0++[b]) x));rw[e];have a9:=lcont_iff.1 hk;have hb:=hn b (bQ _ (bD _ (da _)));have e3:(a0++[b])++x::r=a0++(b::x::r):=by rw[aF];rfl
  rw[e3] at h hn;obtain⟨a1,a2,a3⟩:=List.pairwise_append.1 h;obtain⟨a4,a5⟩:=List.pairwise_cons.1 a2;obtain⟨a6,a7⟩:=List.pairwise_cons.1 a5;refine lj ?_ ?_
  ·rw[show(a0++[(b.1,b.2.1,b.2.2+x.2.2)])++r=a0++((b.1,b.2.1,b.2.2+x.2.2)::r) by rw[aF];rfl];refine List.pairwise_append.2 ⟨a1,List.pairwise_cons.2 ⟨fun z hz=>?_,a7⟩,fun z hz w hw=>?_⟩
   ·have g1:=a4 z (aw _ hz);have g2:=a6 z hz;have g3:=hn z (bD _ (aw _ (aw _ hz)));unfold apart at g1 g2 ⊢;dsimp only;omega
   ·rcases List.mem_cons.1 hw with rfl|hw
    ·have g1:=a3 z hz b au;have g2:=a3 z hz x (aw _ au);have g3:=hn z (bQ _ hz);unfold apart at g1 g2 ⊢;dsimp only;omega
    ·exact a3 z hz w (aw _ (aw _ hw))
  ·intro z hz;rcases List.mem_append.1 hz with hz|hz
   ·rcases List.mem_append.1 hz with hz|hz
    ·exact hn z (bQ _ hz)
    ·rw[List.mem_singleton.1 hz];dsimp only;omega
   ·exact hn z (bD _ (aw _ (aw _ hz)))
def oI{α β γ:Type}(f:γ→β→γ)(g:α→List β):∀(s:List α) (out:γ),(s.flatMap g).foldl f out=s.foldl (fun o y=>(g y).foldl f o) out
 | [],_=>rfl
 | y::s,out=>by
  rw[bB,cB];exact oI f g s _
def lL:∀(set l:LL1),set.foldl subL l=l.flatMap (fun y=>set.foldl subL [y])
 | [],l=>by
  show l=l.flatMap (fun y=>[y]);induction l with
  | nil=>rfl
  | cons y l ih=>rw[bB,←ih];rfl
 | x::set,l=>by
  have e1:∀l,(x::set).foldl subL l=(subL l x).flatMap (fun y=>set.foldl subL [y]):=fun l=>lL set (subL l x);rw[e1];induction l with
  | nil=>rfl
  | cons y l ih =>
   have e2:subL (y::l) x=subL [y] x++subL l x:=by
    unfold subL;rw[bB,bB];simp
   rw[e2,cZ,ih,bB];congr 1;exact(e1 [y]).symm
def nW(s set:LL1):fq s set=(set.foldl subL s).foldl ba []:=by
 rw[lL,oI];rfl
def Fj:∀{set l:LL1},(∀x∈set,LotOk x)→(∀y∈l,LotOk y)→Apart l→(∀y∈set.foldl subL l,LotOk y∧∃w∈l,y.1=w.1)∧Apart (set.foldl subL l)∧(set.foldl subL l).length≤l.length+set.length
 | [],l,_,hl,ha=>⟨fun y hy=>⟨hl y hy,y,hy,rfl⟩,ha,aI _⟩
 | x::set,l,hs,hl,ha=>by
  have hx:=hs x au;obtain⟨h1,h2⟩:=mq hx hl ha;obtain⟨i1,i2,i3⟩:=Fj (set:=set) (l:=subL l x) (fun z hz=>hs z (aw _ hz)) (nK hx hl) h1;refine⟨fun y hy=>?_,i2,?_⟩
  ·obtain⟨g1,w,hw,e⟩:=i1 y hy;obtain⟨v,hv,_,e2,_⟩:=mG hx hl hw;exact⟨g1,v,hv,e.trans e2⟩
  ·rw[bE];show(set.foldl subL (subL l x)).length≤_;omega
structure StkG (k:Nat) (id:Int) (l:LL1):Prop where
 len:l.length≤k
 ok:∀x∈l,LotOk x∧x.1<id
 apt:Apart l
def StkG.lots{k:Nat}{id:Int}{l:LL1}(h:StkG k id l):∀x∈l,LotOk x:=fun x hx=>(h.ok x hx).1
def StkG.mono{k k' : Nat}{id a0 : Int}{l:LL1}(h:StkG k id l)(hk:k≤k')(hi:id≤a0):StkG k' a0 l:=⟨cN h.len hk,fun x hx=>⟨(h.ok x hx).1,by have:=(h.ok x hx).2;omega⟩,h.apt⟩
def AA{k:Nat}{id:Int}{l ps:LL1}(h:StkG k id l)(hp:∀x∈ps,LotOk x):StkG (k+ps.length) id (fq l ps):=by
 obtain⟨c1,c2,c3⟩:=Fj hp h.lots h.apt;have hl:=h.len;rw[nW];refine⟨?_,fun x hx=>?_,lj c2 (fun z hz=>(c1 z hz).1.2.2.2.1)⟩
 ·have:=iR (ps.foldl subL l) []
  simp only[cU] at this;omega
 ·obtain⟨y,hy,e⟩:=pB (r:=ps.foldl subL l) (out:=[]) x hx;rw[aj] at hy;obtain⟨_,w,hw,e2⟩:=c1 y hy;have:=(h.ok w hw).2
  refine⟨lI bH (fun z hz=>(c1 z hz).1.w) x hx,?_⟩;rw[e,e2];exact this
def Hu{mixed:Bool}{k:Nat}{id n:Int}{l:LL1}(h:StkG k id l)(hk:l.length≤4096)(h0:0≤n)(h1:n≤lsum l):StkG k id (fV mixed l n):=by
 have hb:=pi mixed l n h.lots h0 h1;have a1:=(sT h.lots hb).2;refine⟨cN (ld _ _ _).2 h.len,fun x hx=>⟨a1 x hx,?_⟩,?_⟩
 ·obtain⟨y,hy,e⟩:=pB (r:=(List.range l.length).map (pcR l (tkC mixed l n))) (out:=[]) x hx;rw[aj] at hy;obtain⟨j,hj,rfl⟩:=List.mem_map.1 hy;have hj:=List.mem_range.1 hj;have:=(h.ok _ (aL hj)).2
  rw[e];exact this
 ·show Apart (((List.range l.length).map (pcR l (tkC mixed l n))).foldl ba []);rw[nz]
  have a2:Apart ((List.range l.length).map (pcR l (tkC mixed l n))):=by
   unfold Apart;rw[List.pairwise_map];refine List.Pairwise.imp_of_mem ?_ List.pairwise_lt_range;intro i j hi hj a0;have hi:=List.mem_range.1 hi;have hj:=List.mem_range.1 hj;have ha:=List.pairwise_iff_getElem.1 h.apt i j hi hj a0;rw[←getElem!_of hi,←getElem!_of hj] at ha;have b1:=hb i hi;have b2:=hb j hj;unfold apart at ha ⊢;simp only[pcR,pc1,pc2];omega
  refine lj ?_ ?_
  ·rw[aj];exact a2.filter _
  ·intro z hz;rw[aj] at hz;obtain⟨g1,g2⟩:=List.mem_filter.1 hz;obtain⟨j,hj,rfl⟩:=List.mem_map.1 g1;have hj:=List.mem_range.1 hj;have b1:=hb j hj;have g3:(pcR l (tkC mixed l n) j).2.2≠0:=by simpa using g2
   simp only[pcR,pc1,pc2] at g3 ⊢;omega
def Io{k:Nat}{id n:Int}{l:LL1}(h:StkG k id l)(a0:0≤id)(hn:1≤n∧n≤1099511627776):StkG (k+1) (id+1) (ba l (id,0,n)):=by
 rw[sF h.lots hn.1];have hl:=h.len;refine⟨by rw[ax,aG];omega,fun x hx=>?_,List.pairwise_append.2 ⟨h.apt,bq _ _,fun y hy w hw=>?_⟩⟩
 ·rcases List.mem_append.1 hx with hx|hx
  ·have:=h.ok x hx
   exact⟨this.1,ab⟩
  ·rw[List.mem_singleton.1 hx];refine⟨⟨a0,bG _,by dsimp only;omega,hn.1,by dsimp only;omega⟩,by dsimp only;omega⟩
 ·rw[List.mem_singleton.1 hw];have:=(h.ok y hy).2
  unfold apart;dsimp only;omega
def gPts(mix:Int→Bool)(s:StM)(W:Wk)(m:MvM):LL1:=if m.frm=0 then(if s.kind=5∨s.kind=9 then m.parts else[]) else if m.parts=[] then iO (mix m.item) (W.stk m.frm m.item) m.n else m.parts
def sO(mix:Int→Bool)(W:Wk)(m:MvM):LL1:=if m.parts=[] then fV (mix m.item) (W.stk m.frm m.item) m.n else fq (W.stk m.frm m.item) m.parts
def gStk(mix:Int→Bool)(W:Wk)(m:MvM):Int→Int→LL1:=if m.frm=0 then W.stk else upd2 W.stk m.frm m.item (sO mix W m)
def gErr(sh:Int)(fl:List FlM)(s:StM)(W:Wk)(m:MvM):Int :=
 if m.frm=0 then(if s.kind=5 then arrG sh fl m.parts else if s.kind=9 then revG fl m.item m.parts else 0)
 else if m.parts=[] then(if lsum (W.stk m.frm m.item)<m.n then 10 else 0) else if iy m.parts (W.stk m.frm m.item) then 0 else 10
def fW(sh:Int)(nf:Nat)(mix:Int→Bool)(s:StM)(W:Wk)(m:MvM):FlM:=⟨db sh nf W,s.id,s.kind,s.tick,s.actor,m.frm,m.to,m.item,m.n,gPts mix s W m,eW s W m⟩
def dA(sh:Int)(fl:List FlM)(mix:Int→Bool)(s:StM)(W:Wk)(m:MvM):Int×Wk :=
 if gErr sh (fl++W.flows) s W m≠0 then(gErr sh (fl++W.flows) s W m,W)
 else if cX W m>1099511627776 then(4,W)
 else if m.to=0 then(0,⟨gStk mix W m,upd W.tot m.item (cX W m),W.flows++[fW sh fl.length mix s W m],W.sunk++[db sh fl.length W]⟩)
 else if 4096≤(gStk mix W m m.to m.item).length then(4,W)
 else(0,⟨upd2 (gStk mix W m) m.to m.item (ba (gStk mix W m m.to m.item) (db sh fl.length W,0,m.n)),upd W.tot m.item (cX W m),W.flows++[fW sh fl.length mix s W m],W.sunk⟩)
def FlG(fl:List FlM):Prop:=∀f∈fl,(∀x∈f.parts,LotOk x)∧f.parts.length≤2047
structure WkG (sh:Int) (fl:List FlM) (k:Nat) (W:Wk):Prop where
 stk:∀a i,StkG k (db sh fl.length W) (W.stk a i)
 tot:∀i,-(((fl.length:Int)+W.flows.length)*1099511627776)≤W.tot i∧W.tot i≤1099511627776
 sunk:W.sunk.length≤W.flows.length
 flows:FlG W.flows
structure MvG (m:MvM):Prop where
 n:1≤m.n∧m.n≤1099511627776
 ne:m.frm≠m.to
 parts:m.parts=[]∨wS m.parts m.n
def MvG.lots{m:MvM}(h:MvG m):∀x∈m.parts,LotOk x:=fun x hx=>by
 rcases h.parts with q|q
 ·rw[q] at hx;cases hx
 ·exact q.1.1 x hx
def xw{sh:Int}{fl:List FlM}{mix:Int→Bool}{s:StM}{W:Wk}{k:Nat}{m:MvM}(h:WkG sh fl k W)(hm:MvG m)(hk:k≤2000)(he:gErr sh (fl++W.flows) s W m=0)(a i:Int):StkG (k+m.parts.length) (db sh fl.length W) (gStk mix W m a i):=by
 unfold gStk;unfold gErr at he;by_cases h0:m.frm=0
 ·rw[if_pos h0];exact(h.stk a i).mono (dX _ _) (bG _)
 rw[if_neg h0] at he ⊢;unfold upd2;by_cases ha:a=m.frm∧i=m.item
 case neg =>
  rw[if_neg ha];exact(h.stk a i).mono (dX _ _) (bG _)
 rw[if_pos ha];have hs:=h.stk m.frm m.item;have hl:=hs.len;have hn:=hm.n;unfold sO;by_cases hp:m.parts=[]
 ·rw[if_pos hp] at he ⊢;by_cases hq:lsum (W.stk m.frm m.item)<m.n
  ·rw[if_pos hq] at he;exact absurd he ag
  ·exact(Hu hs ab ab ab).mono (dX _ _) (bG _)
 ·rw[if_neg hp];exact AA hs hm.lots
def EP{sh:Int}{fl:List FlM}{mix:Int→Bool}{s:StM}{W:Wk}{k:Nat}{m:MvM}(h:WkG sh fl k W)(hm:MvG m)(hk:k+m.parts.length≤2000)(he:gErr sh (fl++W.flows) s W m=0):(∀x∈gPts mix s W m,LotOk x)∧(gPts mix s W m).length≤2047:=by
 have hs:=h.stk m.frm m.item;have hl:=hs.len;have hn:=hm.n;unfold gErr at he;unfold gPts;by_cases h0:m.frm=0
 ·rw[if_pos h0];split
  ·exact⟨hm.lots,ab⟩
  ·exact⟨(fun x hx=>by cases hx),az _⟩
 rw[if_neg h0] at he ⊢;by_cases hp:m.parts=[]
 ·rw[if_pos hp] at he ⊢;by_cases hq:lsum (W.stk m.frm m.item)<m.n
  ·rw[if_pos hq] at he;exact absurd he ag
  ·exact⟨(sT hs.lots (pi _ _ _ hs.lots ab ab)).1,cN (ld _ _ _).1 ab⟩
 ·rw[if_neg hp];exact⟨hm.lots,ab⟩
def rD{sh:Int}{fl:List FlM}{mix:Int→Bool}{s:StM}{W:Wk}{k:Nat}{m:MvM}(a5:0≤sh)(h:WkG sh fl k W)(hm:MvG m)(hk:k+m.parts.length≤2000)(he:(dA sh fl mix s W m).1=0):WkG sh fl (k+m.parts.length+1) (dA sh fl mix s W m).2∧(dA sh fl mix s W m).2.flows=W.flows++[fW sh fl.length mix s W m]:=by
 unfold dA at he ⊢;by_cases h1:gErr sh (fl++W.flows) s W m≠0
 ·rw[if_pos h1] at he;exact absurd he h1
 rw[if_neg h1] at he ⊢;have a2 : gErr sh (fl++W.flows) s W m=0:=Classical.not_not.1 h1;by_cases h2:cX W m>1099511627776
 ·rw[if_pos h2] at he;exact absurd (show(4:Int)=0 from he) ag
 rw[if_neg h2] at he ⊢;have hS:=fun a i=>xw (mix:=mix) h hm ab a2 a i;have hP:=EP (mix:=mix) h hm hk a2;have hn:=hm.n
 have a3:FlG (W.flows++[fW sh fl.length mix s W m]):=fun f hf=>by
  rcases List.mem_append.1 hf with hf|hf
  ·exact h.flows f hf
  ·rw[List.mem_singleton.1 hf];exact hP
 have a4:∀{W2:Wk},W2.flows=W.flows++[fW sh fl.length mix s W m]→db sh fl.length W2=db sh fl.length W+1:=fun {W2} e=>by
  unfold db;rw[e,ax,aG];omega
 have a1:0≤db sh fl.length W:=by unfold db;omega
 have a0:∀i,-(((fl.length:Int)+(W.flows++[fW sh fl.length mix s W m]).length)*1099511627776)≤upd W.tot m.item (cX W m) i∧upd W.tot m.item (cX W m) i≤1099511627776:=fun i=>by
  rw[ax,aG];unfold upd;have t1:=h.tot i;have t2:=h.tot m.item;split
  ·refine⟨?_,ab⟩;unfold cX;split<;>split<;>omega
  ·omega
 by_cases h3:m.to=0
 ·rw[if_pos h3];refine⟨⟨fun a i=>?_,a0,?_,a3⟩,rfl⟩
  ·rw[a4 rfl];exact(hS a i).mono ab ab
  ·have:=h.sunk
   simp only[ax,aG];omega
 rw[if_neg h3] at he ⊢;by_cases h4:4096≤(gStk mix W m m.to m.item).length
 ·rw[if_pos h4] at he;exact absurd (show(4:Int)=0 from he) ag
 rw[if_neg h4];refine⟨⟨fun a i=>?_,a0,?_,a3⟩,rfl⟩
 ·rw[a4 rfl];dsimp only;unfold upd2;split
  ·exact Io (hS m.to m.item) a1 hn
  ·exact(hS a i).mono ab ab
 ·have:=h.sunk
  simp only[ax,aG];omega
def kK{x y:Lot}(h:y.1≠x.1∨x.2.1+x.2.2≤y.2.1∨y.2.1+y.2.2≤x.2.1):subS x y=[y]:=if_pos h
def jJ{x y:Lot}(h:¬(y.1≠x.1∨x.2.1+x.2.2≤y.2.1∨y.2.1+y.2.2≤x.2.1)):subS x y=(if y.2.1<x.2.1 then[(x.1,y.2.1,x.2.1 - y.2.1)] else[])++(if x.2.1+x.2.2<y.2.1+y.2.2 then[(x.1,x.2.1+x.2.2,y.2.1+y.2.2 - x.2.1 - x.2.2)] else[]):=if_neg h
def qD{α β:Type}(c:Prop)[Decidable c](a:α)(g:α→List β):(if c then[a] else[]).flatMap g=if c then g a else[]:=by
 split
 ·simp
 ·rfl
def nx{x:Lot}{l:LL1}(h:∀z∈l,apart z x):l.flatMap (subS x)=l:=kL h
def kG{α β:Type}(a:α)(g:α→List β):[a].flatMap g=g a:=by simp
def se{x y z:Lot}(hx:LotOk x)(hy:LotOk y)(hz:LotOk z)(a0:x.1=z.1)(a1:y.1=z.1)(h:x.2.1+x.2.2≤y.2.1):(subS x z).flatMap (subS y)=(subS y z).flatMap (subS x):=by
 by_cases c1:x.2.1+x.2.2≤z.2.1∨z.2.1+z.2.2≤x.2.1
 ·rw[kK (x:=x) (y:=z) (.inr c1),kG,nx];intro w hw;obtain⟨_,_,h2,h3⟩:=lB hy hz hw;unfold apart;omega
 by_cases c2:y.2.1+y.2.2≤z.2.1∨z.2.1+z.2.2≤y.2.1
 ·rw[kK (x:=y) (y:=z) (.inr c2),kG,nx];intro w hw;obtain⟨_,_,h2,h3⟩:=lB hx hz hw;unfold apart;omega
 obtain⟨f,a,n⟩:=x;obtain⟨g,c,m⟩:=y;obtain⟨q,s,k⟩:=z;unfold LotOk at hx hy hz;dsimp only at *;obtain rfl:=a0;obtain rfl:=a1;rw[jJ gn,jJ gn];dsimp only;rw[cZ,cZ,qD,qD,qD,qD];rw[if_pos (ab:a+n<s+k),if_pos (ab:s<c)];rw[jJ (x:=(g,c,m)) (y:=(g,a+n,s+k - a - n)) gn,jJ (x:=(g,a,n)) (y:=(g,s,c - s)) gn];rw[kK (x:=(g,a,n)) (y:=(g,c+m,s+k - c - m)) gn,kK (x:=(g,c,m)) (y:=(g,s,a - s)) gn];dsimp only;rw[aF];congr 1;congr 1
 ·by_cases e:a+n<c
  ·rw[if_pos e,if_pos ab,show s+(c - s) - a - n=c - (a+n) by omega]
  ·rw[if_neg e,if_neg ab]
 ·by_cases e:c+m<s+k
  ·rw[if_pos e,if_pos ab,show a+n+(s+k - a - n) - c - m=s+k - c - m by omega]
  ·rw[if_neg e,if_neg ab]
def DX{x y z:Lot}(hx:LotOk x)(hy:LotOk y)(hz:LotOk z)(h:apart x y):(subS x z).flatMap (subS y)=(subS y z).flatMap (subS x):=by
 by_cases f1:x.1=z.1
 case neg =>
  rw[kK (x:=x) (y:=z) (.inl (fun e=>f1 e.symm)),kG,nx];intro w hw;obtain⟨_,e,_⟩:=lB hy hz hw;exact .inl (fun q=>f1 (q.symm.trans e))
 by_cases f2:y.1=z.1
 case neg =>
  rw[kK (x:=y) (y:=z) (.inl (fun e=>f2 e.symm)),kG,nx];intro w hw;obtain⟨_,e,_⟩:=lB hx hz hw;exact .inl (fun q=>f2 (q.symm.trans e))
 rcases h with h|h|h
 ·exact absurd (f1.trans f2.symm) h
 ·exact se hx hy hz f1 f2 h
 ·exact(se hy hx hz f2 f1 h).symm
def qi(x y:Lot):∀l:LL1,subL (subL l x) y=l.flatMap (fun z=>(subS x z).flatMap (subS y))
 | []=>rfl
 | z::l=>by
  have ih:=qi x y l;unfold subL at ih ⊢;rw[bB,cZ,ih,bB]
def uP{α β:Type}{g h:α→List β}:∀{l:List α},(∀z∈l,g z=h z)→l.flatMap g=l.flatMap h
 | [],_=>rfl
 | z::l,e=>by
  rw[bB,bB,e z au,uP (fun y hy=>e y (aw _ hy))]
def DY{x y:Lot}{l:LL1}(hx:LotOk x)(hy:LotOk y)(hl:∀z∈l,LotOk z)(h:apart x y):subL (subL l x) y=subL (subL l y) x:=by
 rw[qi,qi];exact uP (fun z hz=>DX hx hy (hl z hz) h)
def Gu{ps qs:LL1}(p:ps.Perm qs):∀{l:LL1},(∀x∈ps,LotOk x)→Apart ps→(∀y∈l,LotOk y)→ps.foldl subL l=qs.foldl subL l:=by
 induction p with
 | nil=>intro l _ _ _;rfl
 | cons x p ih =>
  intro l h1 h2 h3;have hx:=h1 x au;exact ih (fun y hy=>h1 y (aw _ hy)) (List.pairwise_cons.1 h2).2 (nK hx h3)
 | swap x y l' =>
  intro l h1 h2 h3;have hy:=h1 y au;have hx:=h1 x (aw _ au);have ha:=(List.pairwise_cons.1 h2).1 x au;show l'.foldl subL (subL (subL l y) x)=l'.foldl subL (subL (subL l x) y);rw[DY hy hx h3 ha]
 | trans p1 p2 ih1 ih2 =>
  intro l h1 h2 h3;rw[ih1 h1 h2 h3];refine ih2 (fun x hx=>h1 x (p1.mem_iff.2 hx)) ?_ h3;exact(p1.pairwise_iff (fun {a b} q=>by unfold apart at *;omega)).1 h2
end
section
open Go.V
attribute [local irreducible] G GO GP GPW GPK Ev Ef EfR Ent CB GB V.Enters
abbrev Hd:=Int×Int×Int
def hU(h:Int×Int×Int):LV:=[ac h.1,ac h.2.1,ac h.2.2]
def uJ(t:Hd):∀u∈hU t,u.oneCell' = true:=by simp[hU,Value.oneCell']
abbrev tHd:Nat:=112
def hdC(x y:Hd):Int:=orI (cmpI x.1 y.1) (cmpI x.2.1 y.2.1)
def klt(x y:Hd):Prop:=x.1<y.1∨(x.1=y.1∧x.2.1<y.2.1)
def mS(x y:Hd):hdC x y<0↔klt x y:=by
 unfold hdC orI cmpI klt;(repeat' split)<;>omega
def tN:Go.Sort.SWO (ltOf hdC) where
 irrefl x:=by simp only[ltOf,decide_eq_false_iff_not];rw[mS];unfold klt;omega
 trans x y z h1 h2:=by simp only[ltOf,decide_eq_true_eq] at *;rw[mS] at *;unfold klt at *;omega
 ntrans x y z h1 h2:=by simp only[ltOf,decide_eq_false_iff_not] at *;rw[mS] at *;unfold klt at *;omega
structure HoldL (f:Int→Int→Int) (hs:List Hd):Prop where
 srt:hs.Pairwise klt
 mem:∀h,h∈hs↔h.2.2=f h.1 h.2.1∧h.2.2≠0
def sH{x:Hd}:¬klt x x:=by unfold klt;omega
def ED{x y:Hd}(h:klt x y):¬klt y x:=by unfold klt at *;omega
def oU:∀{l m:List Hd},l.Pairwise klt→m.Pairwise klt→(∀x,x∈l↔x∈m)→l=m
 | [],[],_,_,_=>rfl
 | [],y::m,_,_,h=>absurd ((h y).2 au) bH
 | x::l,[],_,_,h=>absurd ((h x).1 au) bH
 | x::l,y::m,h1,h2,h=>by
  obtain⟨a1,a2⟩:=List.pairwise_cons.1 h1;obtain⟨b1,b2⟩:=List.pairwise_cons.1 h2
  have e:x=y:=by
   rcases List.mem_cons.1 ((h x).1 au) with e|hx
   ·exact e
   ·rcases List.mem_cons.1 ((h y).2 au) with e|hy
    ·exact e.symm
    ·exact absurd (a1 y hy) (ED (b1 x hx))
  subst e;rw[oU a2 b2 (fun z=>?_)];constructor
  ·intro hz;rcases List.mem_cons.1 ((h z).1 (aw _ hz)) with e|q
   ·exact absurd (e▸a1 z hz) sH
   ·exact q
  ·intro hz;rcases List.mem_cons.1 ((h z).2 (aw _ hz)) with e|q
   ·exact absurd (e▸b1 z hz) sH
   ·exact q
def HoldL.unique{f g:Int→Int→Int}{l m:List Hd}(h1:HoldL f l)(h2:HoldL g m)(e:∀a i,f a i=g a i):l=m :=
 oU h1.srt h2.srt (fun x=>by rw[h1.mem,h2.mem,e])
end
section
open Go.V
def gw(x:Lot)(s:LL1×Int×Int)(p:Lot):LL1×Int×Int :=
 if max p.2.1 s.2.1 ≥ min (p.2.1+p.2.2) (x.2.1+x.2.2) then s
 else(ba s.1 (x.1,s.2.1,max p.2.1 s.2.1 - s.2.1),min (p.2.1+p.2.2) (x.2.1+x.2.2),s.2.2 - (min (p.2.1+p.2.2) (x.2.1+x.2.2) - max p.2.1 s.2.1))
def wLot(x:Lot)(ps:LL1)(s:LL1×Int):LL1×Int :=
 (ba (ps.foldl (gw x) (s.1,x.2.1,s.2)).1 (x.1,(ps.foldl (gw x) (s.1,x.2.1,s.2)).2.1,x.2.1+x.2.2 - (ps.foldl (gw x) (s.1,x.2.1,s.2)).2.1),(ps.foldl (gw x) (s.1,x.2.1,s.2)).2.2)
def ofF(ys:LL1)(f:Int):LL1:=ys.filter (fun p=>decide (p.1=f))
def wAll(ys:LL1)(a0:LL1)(s:LL1×Int):LL1×Int:=a0.foldl (fun s x=>wLot x (ofF ys x.1) s) s
def curL(x:Lot)(at_:Int):LL1:=if at_<x.2.1+x.2.2 then[(x.1,at_,x.2.1+x.2.2 - at_)] else[]
def Ord(ys:LL1):Prop:=ys.Pairwise (fun a b=>a.2.1+a.2.2≤b.2.1)
def Ba(a b:LL1):∀ps:LL1,ps.foldl subL (a++b)=ps.foldl subL a++ps.foldl subL b:=fun ps=>by
 rw[lL ps (a++b),lL ps a,lL ps b,cZ]
def nS:∀{ps l:LL1},(∀p∈ps,∀z∈l,apart z p)→ps.foldl subL l=l
 | [],_,_=>rfl
 | p::ps,l,h=>by
  show ps.foldl subL (subL l p)=l;rw[kL (h p au)];exact nS (fun q hq=>h q (aw _ hq))
def ri{x:Lot}(hx:LotOk x):∀(ys:LL1) (out:LL1) (at_ a0:Int),Ord ys→(∀p∈ys,LotOk p∧p.1=x.1)→x.2.1≤at_→at_≤x.2.1+x.2.2 →
  ba (ys.foldl (gw x) (out,at_,a0)).1 (x.1,(ys.foldl (gw x) (out,at_,a0)).2.1,x.2.1+x.2.2 - (ys.foldl (gw x) (out,at_,a0)).2.1)=(ys.foldl subL (curL x at_)).foldl ba out ∧
  (ys.foldl (gw x) (out,at_,a0)).2.2=a0 - OV ys (x.1,at_,x.2.1+x.2.2 - at_)
 | [],out,at_,a0,_,_,h1,h2=>by
  refine⟨?_,by show a0=a0 - 0;omega⟩;show ba out (x.1,at_,x.2.1+x.2.2 - at_)=(curL x at_).foldl ba out;unfold curL;by_cases c:at_<x.2.1+x.2.2
  ·rw[if_pos c];rfl
  ·rw[if_neg c];show _=out;exact if_pos gn
 | p::ys,out,at_,a0,ho,hp,h1,h2=>by
  obtain⟨o1,o2⟩:=List.pairwise_cons.1 ho;obtain⟨a4,a2⟩:=hp p au;have a1:∀q∈ys,LotOk q∧q.1=x.1:=fun q hq=>hp q (aw _ hq);have a3:=a4;unfold LotOk at a3 hx;by_cases c:max p.2.1 at_ ≥ min (p.2.1+p.2.2) (x.2.1+x.2.2)
  ·have es:gw x (out,at_,a0) p=(out,at_,a0):=if_pos c
   have ec:subL (curL x at_) p=curL x at_:=by
    unfold curL;split
    ·refine kL (fun z hz=>?_);rw[List.mem_singleton.1 hz];unfold apart;dsimp only;omega
    ·rfl
   obtain⟨i1,i2⟩:=ri (by unfold LotOk;omega) ys out at_ a0 o2 a1 h1 h2
   have e0:ov p (x.1,at_,x.2.1+x.2.2 - at_)=0:=by
    unfold ov;rw[if_pos a2];dsimp only;omega
   show ba (ys.foldl (gw x) (gw x (out,at_,a0) p)).1 _=(ys.foldl subL (subL (curL x at_) p)).foldl ba out∧(ys.foldl (gw x) (gw x (out,at_,a0) p)).2.2=a0 - (ov p _+OV ys _);rw[es,ec,e0];refine⟨?_,by rw[i2];omega⟩;have a5:=i1;rw[show List.foldl (gw x) (out,at_,a0) (p::ys)=List.foldl (gw x) (gw x (out,at_,a0) p) ys from rfl,es];exact a5
  ·have es:gw x (out,at_,a0) p=(ba out (x.1,at_,max p.2.1 at_ - at_),min (p.2.1+p.2.2) (x.2.1+x.2.2),a0 - (min (p.2.1+p.2.2) (x.2.1+x.2.2) - max p.2.1 at_)):=if_neg c;obtain⟨i1,i2⟩:=ri (by unfold LotOk;omega) ys (ba out (x.1,at_,max p.2.1 at_ - at_)) (min (p.2.1+p.2.2) (x.2.1+x.2.2)) (a0 - (min (p.2.1+p.2.2) (x.2.1+x.2.2) - max p.2.1 at_)) o2 a1 ab ab
   have ec:subL (curL x at_) p=(if at_<p.2.1 then[(x.1,at_,p.2.1 - at_)] else[])++curL x (min (p.2.1+p.2.2) (x.2.1+x.2.2)):=by
    unfold curL;rw[if_pos (ab:at_<x.2.1+x.2.2)];show subL [_] p=_;unfold subL;rw[kG,jJ gn];dsimp only;rw[a2];congr 1;by_cases e:p.2.1+p.2.2<x.2.1+x.2.2
    ·rw[if_pos ab,if_pos ab,show min (p.2.1+p.2.2) (x.2.1+x.2.2)=p.2.1+p.2.2 by omega,show at_+(x.2.1+x.2.2 - at_) - p.2.1 - p.2.2=x.2.1+x.2.2 - (p.2.1+p.2.2) by omega]
    ·rw[if_neg ab,if_neg ab]
   have e0:ov p (x.1,at_,x.2.1+x.2.2 - at_)=min (p.2.1+p.2.2) (x.2.1+x.2.2) - max p.2.1 at_:=by
    unfold ov;rw[if_pos a2];dsimp only;omega
   have e1:OV ys (x.1,at_,x.2.1+x.2.2 - at_)=OV ys (x.1,min (p.2.1+p.2.2) (x.2.1+x.2.2),x.2.1+x.2.2 - min (p.2.1+p.2.2) (x.2.1+x.2.2)):=by
    clear i1 i2 ho o2 hp es ec e0;revert o1 a1;induction ys with
    | nil=>intro _ _;rfl
    | cons q ys ih =>
     intro o1 a1;have h5:=ih (fun z hz=>o1 z (aw _ hz)) (fun z hz=>a1 z (aw _ hz));have h6:=o1 q au;obtain⟨h7,h8⟩:=a1 q au;unfold LotOk at h7;show ov q _+OV ys _=ov q _+OV ys _;rw[h5];congr 1;unfold ov;rw[if_pos h8,if_pos h8];dsimp only;omega
   have ei:ys.foldl subL (if at_<p.2.1 then[(x.1,at_,p.2.1 - at_)] else[])=(if at_<p.2.1 then[(x.1,at_,p.2.1 - at_)] else[]):=by
    refine nS (fun q hq z hz=>?_);split at hz
    ·rw[List.mem_singleton.1 hz];have:=o1 q hq
     unfold apart;dsimp only;omega
    ·cases hz
   have ep:∀r:LL1,((if at_<p.2.1 then[((x.1,at_,p.2.1 - at_):Lot)] else[])++r).foldl ba out=r.foldl ba (ba out (x.1,at_,max p.2.1 at_ - at_)):=fun r=>by
    rw[cB];by_cases e:at_<p.2.1
    ·rw[if_pos e,show max p.2.1 at_=p.2.1 by omega];rfl
    ·rw[if_neg e];show r.foldl ba out=_;rw[show ba out (x.1,at_,max p.2.1 at_ - at_)=out from if_pos gn]
   rw[show List.foldl (gw x) (out,at_,a0) (p::ys)=List.foldl (gw x) (gw x (out,at_,a0) p) ys from rfl,es];show ba _ _=(ys.foldl subL (subL (curL x at_) p)).foldl ba out∧_=a0 - (ov p _+OV ys _);rw[ec,Ba,ei,ep,e0,e1];exact⟨i1,by rw[i2];omega⟩
end
section
open Go.V
attribute [local irreducible] G GO GP GPW GPK Ev Ef EfR Ent CB GB V.Enters
def jg{L:LH}(x:Lot)(hx:LotW x):Tri ai 232 #[aN (ay x)] L (rtQ (ac (x.2.1+x.2.2)) L):=by
 unfold LotW at hx;refine Tri.bd ?_;refine IF ?_;intros;exact KX.en ⟨rfl,rfl⟩
def mF{L:LH}(ad:OA)(cap n c:Nat)(xs:LL1)(x:Lot)(hn:n=xs.length)(a6:c=cap)(hl:xs.length≤100000000)(a7:∀y∈xs,LotW y)(hx:LotW x) :
  Tri ai 240 #[ae ad n c,ac x.1,ac x.2.1,ac x.2.2] (osl ay 3 tLot ad cap xs::L) (fun v L'=>∃a5 a2,v=ae a5 (ba xs x).length a2∧L' = osl ay 3 tLot a5 a2 (ba xs x)::L):=by
 subst hn a6;refine Tri.bd (args:=[ae ad xs.length c,ac x.1,ac x.2.1,ac x.2.2]) ?_;by_cases h0:x.2.2=0
 ·have e:ba xs x=xs:=by unfold ba;rw[if_pos h0]
  rw[e];refine IF ?_;intros;exact KX.en ⟨ad,c,rfl,rfl⟩
 by_cases h1:xs.length=0
 ·have e:ba xs x=xs++[x]:=by unfold ba;rw[if_neg h0,if_neg (fun h=>h.1 h1)]
  rw[e];refine IF ?_;intros;refine GO.ef (Ef.d7 (enc:=ay) (e:=x) rfl rfl rfl rfl rfl aJ (dH _) ab ab) ag ?_;rintro _ _⟨a1,a0,rfl,rfl⟩;refine IF ?_;intros;exact KX.en ⟨a1,a0,rfl,rfl⟩
 have a3:((xs.length:Int) - 1).toNat=xs.length - 1:=ab;have a4:=a7 _ (aL (ab:xs.length - 1<xs.length));have a9:((xs.length:Int) - 1).toNat<xs.length:=ab;rw[←a3] at a4;by_cases hf:xs[((xs.length:Int) - 1).toNat]!.1=x.1
 case neg =>
  have e:ba xs x=xs++[x]:=by
   unfold ba;rw[a3] at hf;rw[if_neg h0,if_neg (fun h=>hf (lcont_iff.1 h.2).1.symm)]
  rw[e];refine IF ?_;intros;refine GO.ef (Ef.d7 (enc:=ay) (e:=x) rfl rfl rfl rfl rfl aJ (dH _) ab ab) ag ?_;rintro _ _⟨a1,a0,rfl,rfl⟩;refine IF ?_;intros;exact KX.en ⟨a1,a0,rfl,rfl⟩
 refine IF ?_;intros;refine GO.cr (jg xs[((xs.length:Int) - 1).toNat]! a4) ?_;by_cases hc:lm x xs[((xs.length:Int) - 1).toNat]!
 ·have a8:=lcont_iff.1 hc;unfold LotW at a4 hx;refine IF ?_;intros;refine GO.efu (Ef.l7 (e:=((xs[((xs.length:Int) - 1).toNat]!.1,xs[((xs.length:Int) - 1).toNat]!.2.1,xs[((xs.length:Int) - 1).toNat]!.2.2+x.2.2):Lot)) rfl rfl aJ rfl ab ag) ?_;rintro _ _ rfl
  have e:ba xs x=xs.set ((xs.length:Int) - 1).toNat (xs[((xs.length:Int) - 1).toNat]!.1,xs[((xs.length:Int) - 1).toNat]!.2.1,xs[((xs.length:Int) - 1).toNat]!.2.2+x.2.2):=by
   unfold ba;rw[a3] at hc ⊢;rw[if_neg h0,if_pos ⟨h1,hc⟩]
  rw[e];refine IF ?_;intros;exact KX.d7 av ah ⟨ad,c,by rw[bJ];rfl,rfl⟩
 ·have b0:¬xs[((xs.length:Int) - 1).toNat]!.2.1+xs[((xs.length:Int) - 1).toNat]!.2.2=x.2.1:=fun q=>hc (lcont_iff.2 ⟨hf.symm,q.symm⟩)
  have e:ba xs x=xs++[x]:=by
   unfold ba;rw[a3] at hc;rw[if_neg h0,if_neg (fun h=>hc h.2)]
  rw[e];refine IF ?_;intros;refine GO.ef (Ef.d7 (enc:=ay) (e:=x) rfl rfl rfl rfl rfl aJ (dH _) ab ab) ag ?_;rintro _ _⟨a1,a0,rfl,rfl⟩;refine IF ?_;intros;exact KX.en ⟨a1,a0,rfl,rfl⟩
abbrev zQ:=ar5 [.ev 8,.ef 9,.ev 10]
abbrev zP:=ar8 [.ef 17,.ev 18]
def Ni{φ ψ:Prop}(k:ψ)(h:Hid ψ→φ:=by intro k;(repeat (first|refine aa ?_|intro zzz|refine G.dr 46 4 zQ ?_|refine G.dr 46 5 zP ?_));(repeat revert zzz);exact Hid.out k):φ:=h ⟨k⟩
def uR{L:LH}(ad:OA)(n c:Nat)(l:LL1)(a2:OA)(n2 c2:Nat)(cs:List Int)[hr:Rds L ad Lot ay 3 l][c8:Rds L a2 Int (encZ .i64) 1 cs](hn:n=l.length)(b6:n2=cs.length)(c7:l.length≤4096)(c1:cs.length=l.length)(hl:∀x∈l,LotW x)(hc:∀k,k<l.length→0≤cs[k]!∧cs[k]!≤l[k]!.2.2) :
  Tri ai 156 #[ae ad n c,ae a2 n2 c2] L (fun v L'=>∃a8 c3 a9 c4,v=.tuple #[ae a8 (divF l (fun k=>cs[k]!) l.length).length c3,ae a9 (divR l (fun k=>cs[k]!) l.length).length c4]∧L' = osl ay 3 tLot a8 c3 (divF l (fun k=>cs[k]!) l.length)::osl ay 3 tLot a9 c4 (divR l (fun k=>cs[k]!) l.length)::L):=by
 subst hn b6;generalize hf:(fun k=>cs[k]! : Nat→Int)=f;have a0:∀k,cs[k]! = f k:=fun k=>by rw[←hf]
 refine Tri.bd ?_;refine Ni ?_;intros;refine G.loop (α:=Nat×OA×Nat×OA×Nat) (fun g=>g.1≤l.length) (fun g=>[(1,ae a2 cs.length c2),(4,ae g.2.1 (divF l f g.1).length g.2.2.1),(5,ae g.2.2.2.1 (divR l f g.1).length g.2.2.2.2),(8,ae ad l.length c),(9,ac l.length),(10,ac (g.1:Int))]) (fun g=>osl ay 3 tLot g.2.1 g.2.2.1 (divF l f g.1)::osl ay 3 tLot g.2.2.2.1 g.2.2.2.2 (divR l f g.1)::L) (fun g=>l.length - g.1) (0,none,0,none,0) (az _) an ((Ent.d8 ay 3 tLot).trans (Ent.d8 ay 3 tLot)) ?_;rintro⟨i,a3,c3,a4,c4⟩ hi;dsimp only at hi ⊢;by_cases a7:i<l.length
 case neg =>
  obtain rfl:i=l.length:=ab;refine Ni ?_;intros;exact KX.en ⟨a3,c3,a4,c4,rfl,rfl⟩
 have a1:(i:Int).toNat=i:=aD i;have b4 : (i:Int).toNat<l.length:=ab;have b5:(i:Int).toNat<cs.length:=ab;obtain⟨b1,b2⟩:=hc i a7;rw[a0] at b1 b2;have b0:=hl _ (aL a7);have hx:=b0;unfold LotW at hx;refine Ni ?_;intros;have b3:=ld l f i;have b7:∀y∈divF l f i,LotW y:=(Di hl (fun k hk=>by have:=hc k hk;rw[a0] at this;exact this) i hi).1;have b8:∀y∈divR l f i,LotW y:=(Di hl (fun k hk=>by have:=hc k hk;rw[a0] at this;exact this) i hi).2
 have eF:ba (divF l f i) (l[(i:Int).toNat]!.1,l[(i:Int).toNat]!.2.1,cs[(i:Int).toNat]!)=divF l f (i+1):=by
  rw[uM,a1,a0];rfl
 have eR:ba (divR l f i) (l[(i:Int).toNat]!.1,l[(i:Int).toNat]!.2.1+cs[(i:Int).toNat]!,l[(i:Int).toNat]!.2.2 - cs[(i:Int).toNat]!)=divR l f (i+1):=by
  rw[uL,a1,a0];rfl
 have b9 : LotW l[(i:Int).toNat]!:=by rw[a1];exact b0
 have c0 : 0≤cs[(i:Int).toNat]!∧cs[(i:Int).toNat]!≤l[(i:Int).toNat]!.2.2:=by rw[a1];exact hc i a7
 unfold LotW at b9;(first|refine GPW.ef (Ef.call (mF (L:=[]) a3 c3 _ _ (divF l f i) (l[(i:Int).toNat]!.1,l[(i:Int).toNat]!.2.1,cs[(i:Int).toNat]!) rfl rfl ab b7 (by unfold LotW;dsimp only;omega)) rfl cT) ag ?_);rintro _ _⟨_,⟨a5,c5,rfl,rfl⟩,hL⟩;simp only[ak,aj] at hL;subst hL;rw[eF];refine Ni ?_;intros;(first|refine GPW.ef (Ef.call (mF (L:=[]) a4 c4 _ _ (divR l f i) (l[(i:Int).toNat]!.1,l[(i:Int).toNat]!.2.1+cs[(i:Int).toNat]!,l[(i:Int).toNat]!.2.2 - cs[(i:Int).toNat]!) rfl rfl ab b8 (by unfold LotW;dsimp only;omega)) rfl cT) ag ?_);rintro _ _⟨_,⟨a6,c6,rfl,rfl⟩,hL⟩;simp only[ak,aj] at hL;subst hL;rw[eR];refine Ni ?_;intros;refine⟨(i+1,a5,c5,a6,c6),by dsimp only;omega,by dsimp only;omega,?_,by exact ah⟩;dsimp only;rw[aU i];exact an
def Af{L:LH}(ad:OA)(n c:Nat)(l:LL1)(m:Int)[hr:Rds L ad Lot ay 3 l](hn:n=l.length)(a8:l.length≤4096)(hl:∀x∈l,LotW x)(h0:0≤m)(h1:m≤1099511627776) :
  Tri ai 154 #[ae ad n c,ac m] L (fun v L'=>∃a3 a0,v=ae a3 l.length a0∧L' = osl (encZ .i64) 1 tInt a3 a0 ((List.range l.length).map (fuC l m))::L):=by
 subst hn;refine Tri.bd ?_;refine IF ?_;intros;refine GO.ef (Ef.makeSlice (encZ .i64) 0 rfl rfl rfl ab ab ab) ag ?_;rintro _ _⟨bp,rfl,rfl⟩;rw[aD,←kj l.length (fuC l m)];refine IF ?_;intros;refine G.loop (α:=Nat) (fun i=>i≤l.length) (fun i=>[(1,ac (fuR l m i)),(5,ae (some ⟨bp,0,none⟩) l.length l.length),(11,ae ad l.length c),(12,ac l.length),(13,ac (i:Int))]) (fun i=>osl (encZ .i64) 1 tInt (some ⟨bp,0,none⟩) l.length (gj l.length i (fuC l m))::L) (fun i=>l.length - i) 0 (az _) an (Ent.refl _) ?_;intro i hi;have a4:=jR l.length i (fuC l m);by_cases a2:i<l.length
 case neg =>
  obtain rfl:i=l.length:=ab;rw[kV];refine IF ?_;intros;exact KX.en ⟨some ⟨bp,0,none⟩,l.length,rfl,rfl⟩
 have a1:(i:Int).toNat=i:=aD i;have a7 : (i:Int).toNat<l.length:=ab;have hx:=hl _ (aL a2);unfold LotW at hx;obtain⟨b1,b2⟩:=pR h0 hl i hi;obtain⟨b3,b4⟩:=pR h0 hl (i+1) a2;have e1:fuR l m (i+1)=fuR l m i - fuC l m i:=rfl;have e2:(gj l.length i (fuC l m)).set i (fuC l m i)=gj l.length (i+1) (fuC l m):=kU (fuC l m) a2
 have e3:(gj l.length (i+1) (fuC l m))[i]! = fuC l m i:=by
  rw[←e2,getElem!_of (by rw[bJ];omega),List.getElem_set_self]
 have a5:=jR l.length (i+1) (fuC l m);have hq:min (fuR l m i) l[(i:Int).toNat]!.2.2=fuC l m i:=by rw[a1];rfl
 have a6:((gj l.length i (fuC l m)).set (i:Int).toNat (min (fuR l m i) l[(i:Int).toNat]!.2.2)).length=l.length:=by rw[bJ];exact a4
 have e4:(gj l.length i (fuC l m)).set (i:Int).toNat (min (fuR l m i) l[(i:Int).toNat]!.2.2)=gj l.length (i+1) (fuC l m):=by rw[hq,a1,e2]
 have e5:((gj l.length i (fuC l m)).set (i:Int).toNat (min (fuR l m i) l[(i:Int).toNat]!.2.2))[(i:Int).toNat]! = fuC l m i:=by rw[e4,a1,e3]
 refine IF ?_;intros;refine⟨i+1,ab,ab,?_,by rw[e4];exact ah⟩;rw[e1,aU i,←e5];exact an
