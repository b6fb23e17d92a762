/- Lemmas and contracts of functions. -/
import Derived.Test.YtommnllbflbdmaaGreatDoorGAuditTotalsat
import Derived.Test.YtommnllbflbdmaaGreatDoorGAuditTotalsay
import Derived.Test.YtommnllbflbdmaaGreatDoorGAuditTotalsap
import Derived.Test.YtommnllbflbdmaaGreatDoorGAuditTotalsau
set_option linter.all false
set_option maxHeartbeats 1000000
namespace Go.Proofs.YtommnllbflbdmaaGreatDoor
section
open Go.V
attribute [local irreducible] G GO GP GPW GPK Ev Ef EfR Ent CB GB V.Enters
theorem uv (bv:Nat) (ad:Option Addr) (c:Nat) (l:List Lot) (cs:Nat→Int) (hm:l.length≤1000000) :
  rJ 301 [.pointer (some ⟨bv,0,none⟩)] l.length cs (fun _=>cv [obj bv 22 [.slice ad l.length c],isl (encZ .i64) 1 ad ((List.range l.length).map cs)]):=by
 intro k hk L
 have hii:(k:Int).toNat=k:=ab
 have hl:((List.range l.length).map cs).length=l.length:=by simp
 refine Tri.body (args:=[.int .i64 (k:Int),.pointer (some ⟨bv,0,none⟩)]) 8 FL Tryz.func301 rfl rfl rfl (by simp) ?_
 refine G.ent Ent.openS ?_
 simp only [aq,aj]
 repeat first|refine aa ?_|intro
 rw [hii,fZ hk]
 exact KX.d7 ag (Ent.g9 (A:=[_,_]) (L:=L)) ⟨rfl,rfl⟩
theorem dm {φ ψ:Prop} (k:ψ) (h:Hid ψ→φ:=by intro k;first|((with_reducible apply GO.d7);refine GO.e7 jz Tryz.func299 rfl rfl rfl rfl (by simp) ac (Hid.out k))|((with_reducible apply GPW.d7);refine GPW.e7 jz Tryz.func299 rfl rfl rfl rfl (by simp) ac (Hid.out k))|((with_reducible apply GO.d7);refine GO.d8 rfl jz Tryz.func299 rfl rfl rfl rfl (by simp) ac (Hid.out k))|((with_reducible apply GPW.d7);refine GPW.d8 rfl jz Tryz.func299 rfl rfl rfl rfl (by simp) ac (Hid.out k))|((with_reducible apply KX.f7);first|refine KX.in0 (.inl rfl) (Hid.out k)|refine KX.in0 (.inr rfl) (Hid.out k)|refine KX.in1 (.inl rfl) rfl (Hid.out k)|refine KX.in2 (.inl rfl) rfl rfl (Hid.out k)|refine KX.in3 (.inl rfl) rfl rfl rfl (Hid.out k)|refine KX.inC (.inl rfl) rfl (by rfl) (Hid.out k)|refine KX.e9 (.inl rfl) rfl (by rfl) rfl (Hid.out k))):φ:=h ⟨k⟩
theorem zi {L:List HP} (ad:Option Addr) (c:Nat) (xs:List Lot) (hb:xs.length≤4096) (hx:∀ l∈xs,LotOk l) :
  Tri Tryz.prog 284 #[.slice ad xs.length c,.int .i64 0,.bool true] (isl ah 3 ad xs::L) (fun v L' =>
   (lsum xs<0∧v=.tuple #[.slice none 0 0,.slice none 0 0,.int .i64 10]∧L' = isl ah 3 ad xs::L) ∨
   (0≤lsum xs∧∃ ad1 c1 ad2 c2,v=.tuple #[.slice ad1 (divF xs (fuC xs 0) xs.length).length c1,.slice ad2 (divR xs (fuC xs 0) xs.length).length c2,.int .i64 0]∧L' = osl ah 3 tLot ad1 c1 (divF xs (fuC xs 0) xs.length)::osl ah 3 tLot ad2 c2 (divR xs (fuC xs 0) xs.length)::isl ah 3 ad xs::L)):=by
 have hw:∀ x∈xs,LotW x:=fun x h=>(hx x h).w
 have hs0:=fX hx xs.length (aw _)
 rw [gi] at hs0
 refine Tri.body (args:=[.slice ad xs.length c,.int .i64 0,.bool true]) 74 AJ Tryz.func284 rfl rfl rfl (by simp) ?_
 repeat first|refine aa ?_|intro _|refine dm ?_
 refine GO.ef (Ef.d7 (jv ad xs.length c xs rfl hb hx) rfl) ac ?_
 rintro _ _ ⟨rfl,rfl⟩
 repeat first|refine aa ?_|intro _|refine dm ?_
 refine GO.ef (Ef.d7 (mq ad xs.length c xs rfl hb hx) rfl) ac ?_
 rintro _ _ ⟨rfl,rfl⟩
 repeat first|refine aa ?_|intro _|refine dm ?_
 rename_i bl bn
 refine GO.ent (L':=cv (fuA bn bl ad c xs 0 0)::isl ah 3 ad xs::isl ah 3 ad xs::L) ?_ ?_
 ·refine Ent.trans ?_ Ent.g9
  simp only [fuA,fuR,aq,aj]
  refine (Ent.at (A:=isl ah 3 ad xs) (Ent.dup (jg _ _ _ _))).trans ?_
  refine (Ent.dup (jg _ _ _ _)).trans ?_
  exact ae
 (first|refine GO.ef (Ef.call (mA _ _ ad c xs (fuC xs 0) (fun k=>cv (fuA bn bl ad c xs 0 k)) ab hw (mO (aW _) hw) (te bn bl ad c xs 0 ab (aW _) ac hw)) rfl (by repeat (first|exact Ent.refl _|apply Ent.take))) ac ?_)
 rintro _ _ ⟨_,⟨ad1,c1,ad2,c2,rfl,rfl⟩,hL⟩
 simp only [aq,aj] at hL;subst hL
 repeat first|refine aa ?_|intro _|refine dm ?_
 exact KX.d7 ag (Ent.refl _) (.inr ⟨ab,ad1,c1,ad2,c2,rfl,rfl⟩)
theorem zj {L:List HP} (ad:Option Addr) (c:Nat) (xs:List Lot) (n:Int) (hb:xs.length≤4096) (hx:∀ l∈xs,LotOk l) (hn0:0<n) (hn1:n≤1099511627776) :
  Tri Tryz.prog 284 #[.slice ad xs.length c,.int .i64 n,.bool true] (isl ah 3 ad xs::L) (fun v L' =>
   (lsum xs<n∧v=.tuple #[.slice none 0 0,.slice none 0 0,.int .i64 10]∧L' = isl ah 3 ad xs::L) ∨
   (n≤lsum xs∧∃ ad1 c1 ad2 c2,v=.tuple #[.slice ad1 (divF xs (shC xs n) xs.length).length c1,.slice ad2 (divR xs (shC xs n) xs.length).length c2,.int .i64 0]∧L' = osl ah 3 tLot ad1 c1 (divF xs (shC xs n) xs.length)::osl ah 3 tLot ad2 c2 (divR xs (shC xs n) xs.length)::isl ah 3 ad xs::L)):=by
 have hw:∀ x∈xs,LotW x:=fun x h=>(hx x h).w
 refine Tri.body (args:=[.slice ad xs.length c,.int .i64 n,.bool true]) 74 AJ Tryz.func284 rfl rfl rfl (by simp) ?_
 repeat first|refine aa ?_|intro _|refine dm ?_
 refine GO.ef (Ef.d7 (jv ad xs.length c xs rfl hb hx) rfl) ac ?_
 rintro _ _ ⟨rfl,rfl⟩
 repeat first|refine aa ?_|intro _|refine dm ?_
 refine GO.ef (Ef.d7 (mq ad xs.length c xs rfl hb hx) rfl) ac ?_
 rintro _ _ ⟨rfl,rfl⟩
 by_cases hs:lsum xs<n
 ·repeat first|refine aa ?_|intro _|refine dm ?_
  exact KX.d7 ag (Ent.refl _) (.inl ⟨hs,rfl,rfl⟩)
 have hne:xs≠[]:=by
  rintro rfl
  simp [lsum] at hs
  omega
 repeat first|refine aa ?_|intro _|refine dm ?_
 rename_i bl bn
 refine GO.ent Ent.drop (GO.ent Ent.drop ?_)
 refine GO.ef (Ef.makeSlice (encZ .i64) 0 rfl rfl rfl ab ab ab) ac ?_
 rintro _ _ ⟨bw,rfl,rfl⟩
 rw [av,← jp xs.length (fun k=>xs[k]!.2.2)]
 repeat first|((fail_if_success (with_reducible refine G.e7 8 ?_));(with_reducible apply G.seq))|refine bU ?_|intro _|((with_reducible apply GO.d7);refine GO.e7 jz Tryz.func299 rfl rfl rfl rfl (by simp) ac ?_)|((with_reducible apply GPW.d7);refine GPW.e7 jz Tryz.func299 rfl rfl rfl rfl (by simp) ac ?_)|((with_reducible apply GO.d7);refine GO.d8 rfl jz Tryz.func299 rfl rfl rfl rfl (by simp) ac ?_)|((with_reducible apply GPW.d7);refine GPW.d8 rfl jz Tryz.func299 rfl rfl rfl rfl (by simp) ac ?_)|((with_reducible apply KX.f7);first|refine KX.in0 (.inl rfl) ?_|refine KX.in0 (.inr rfl) ?_|refine KX.in1 (.inl rfl) rfl ?_|refine KX.in2 (.inl rfl) rfl rfl ?_|refine KX.in3 (.inl rfl) rfl rfl rfl ?_|refine KX.inC (.inl rfl) rfl (by rfl) ?_|refine KX.e9 (.inl rfl) rfl (by rfl) rfl ?_)
 refine G.d9 (α:=Unit) (fun _=>True) (fun _=>[(0,.slice ad xs.length c),(1,.int .i64 n),(10,.slice (some ⟨bw,0,none⟩) xs.length xs.length)]) (fun _=>isl (encZ .i64) 1 (some ⟨bw,0,none⟩) (wts xs)::isl ah 3 ad xs::L) ?_ ?_
 ·repeat first|refine aa ?_|intro _|refine dm ?_
  refine G.loop (α:=Nat) (fun i=>i≤xs.length) (fun i=>[(0,.slice ad xs.length c),(1,.int .i64 n),(10,.slice (some ⟨bw,0,none⟩) xs.length xs.length),(43,.slice ad xs.length c),(44,.int .i64 xs.length),(45,.int .i64 (i:Int))])
   (fun i=>osl (encZ .i64) 1 tInt (some ⟨bw,0,none⟩) xs.length (fq xs.length i (fun k=>xs[k]!.2.2))::isl ah 3 ad xs::L) (fun i=>xs.length - i) 0 (al _) ai ae ?_
  intro i hi
  have hf1:=ji xs.length i (fun k=>xs[k]!.2.2)
  by_cases hlt:i<xs.length
  case neg =>
   have hin:i=xs.length:=ab
   subst hin
   have e:fq xs.length xs.length (fun k=>xs[k]!.2.2)=wts xs:=by
    rw [jR]
    apply dh
    ·simp [wts]
    ·intro k h1 h2
     have hk:k<xs.length:=by simpa using h1
     simp [wts,hk]
   rw [e]
   repeat first|refine aa ?_|intro _|refine dm ?_
   exact ⟨(),trivial,ai,(Ent.frz (some ⟨bw,0,none⟩))⟩
  have hii:(i:Int).toNat=i:=ab
  have h3:(fq xs.length i (fun k=>xs[k]!.2.2)).set i xs[i]!.2.2=fq xs.length (i+1) (fun k=>xs[k]!.2.2):=jQ _ hlt
  repeat first|refine aa ?_|intro _|refine dm ?_
  rw [hii,h3]
  refine ⟨i+1,ab,ab,?_,by exact ae⟩
  rw [aM i]
  exact ai
 rintro _ _
 repeat first|refine aa ?_|intro _|refine dm ?_
 refine GO.ef (Ef.d7 (zn (some ⟨bw,0,none⟩) xs.length xs n hb hx hne ab ab hn1) rfl) ac ?_
 rintro _ _ ⟨ad3,c3,rfl,rfl⟩
 repeat first|refine aa ?_|intro _|refine dm ?_
 rename_i bv
 refine GO.ent (L':=cv [obj bv 22 [.slice ad3 xs.length c3],isl (encZ .i64) 1 ad3 ((List.range xs.length).map (shC xs n))]::isl ah 3 ad xs::isl ah 3 ad xs::L) ?_ ?_
 ·refine (Ent.frz ad3).trans ?_
  refine Ent.trans ?_ Ent.g9
  simp only [aq,aj]
  refine (Ent.at (A:=isl ah 3 ad xs) (Ent.dup (jg _ _ _ _))).trans ?_
  exact ae
 (first|refine GO.ef (Ef.call (mA _ _ ad c xs (shC xs n) (fun _=>cv [obj bv 22 [.slice ad3 xs.length c3],isl (encZ .i64) 1 ad3 ((List.range xs.length).map (shC xs n))]) ab hw (Bo hx ab ab) (uv bv ad3 c3 xs (shC xs n) ab)) rfl (by repeat (first|exact Ent.refl _|apply Ent.take))) ac ?_)
 rintro _ _ ⟨_,⟨ad1,c1,ad2,c2,rfl,rfl⟩,hL⟩
 simp only [aq,aj] at hL;subst hL
 repeat first|refine aa ?_|intro _|refine dm ?_
 exact KX.d7 ag (Ent.refl _) (.inr ⟨ab,ad1,c1,ad2,c2,rfl,rfl⟩)
theorem zh (mixed:Bool):TakeC mixed:=by
 cases mixed with
 | false=>exact wq
 | true =>
  refine ⟨fun l n hl h0 h1 k hk=>mC true l n hl h0 h1 k hk,?_⟩
  intro L ad c xs n h1 h2 h3 h4
  rcases Int.lt_or_eq_of_le h3 with h5|h5
  ·have e:tkC true xs n=shC xs n:=if_pos ⟨rfl,h5⟩
   unfold gt dW
   rw [e]
   exact zj ad c xs n h1 h2 h5 h4
  ·subst h5
   have e:tkC true xs 0=fuC xs 0:=if_neg (fun h=>absurd h.2 ab)
   unfold gt dW
   rw [e]
   exact zi ad c xs h1 h2
end
section
open Go.V
attribute [local irreducible] G GO GP GPW GPK Ev Ef EfR Ent CB GB V.Enters
end
section
open Go.V
attribute [local irreducible] G GO GP GPW GPK Ev Ef EfR Ent CB GB V.Enters
end
section
open Go.V
attribute [local irreducible] G GO GP GPW GPK Ev Ef EfR Ent CB GB V.Enters
structure StrS where
 l:List ByteArray
 ad:Option Addr
 cap:Nat
 deriving Inhabited
end
section
open Go.V
attribute [local irreducible] G GO GP GPW GPK Ev Ef EfR Ent CB GB V.Enters
structure NmOk (x:StrS):Prop where
 len:x.l.length≤64
 cap:x.l.length≤x.cap
 word:∀ s∈x.l,IsWord s
 nd:x.l.Nodup
abbrev tRL:Nat:=37
end
section
open Go.V
attribute [local irreducible] G GO GP GPW GPK Ev Ef EfR Ent CB GB V.Enters
structure RStk where
 acc:Int
 item:Int
 stk:Stk
 deriving Inhabited
def fS (s:RStk):List Value:=[.int .i64 s.acc,.int .i64 s.item,.slice s.stk.ad s.stk.lots.length s.stk.cap]
theorem oH (s:RStk):∀ u∈fS s,u.oneCell' = true:=by simp [fS,Value.oneCell']
instance:EncC fS:=⟨oH⟩
abbrev rsP (s:RStk):HP:=stkP s.stk
theorem DH (s:RStk):PersM (rsP s):=uy s.stk
abbrev tRS:Nat:=186
abbrev RStk.is (s:RStk) (a i:Int):Prop:=s.acc=a∧s.item=i
def stk0:Stk:=⟨none,0,[]⟩
def df:List RStk→Int→Int→Stk
 | [],_,_=>stk0
 | s::l,a,i=>if s.is a i then s.stk else df l a i
def rset:List RStk→Int→Int→Stk→List RStk
 | [],a,i,t=>[⟨a,i,t⟩]
 | s::l,a,i,t=>if s.is a i then ⟨s.acc,s.item,t⟩::l else s::rset l a i t
def rsum:List RStk→Int→Int
 | [],_=>0
 | s::l,i=>(if s.item=i then lsum s.stk.lots else 0)+rsum l i
theorem nb:∀ (l:List RStk) (a i:Int) (t:Stk) (a' i' : Int),df (rset l a i t) a' i' = if a' = a∧i' = i then t else df l a' i'
 | [],a,i,t,a',i'=>by
  unfold rset df df
  by_cases h:a' = a∧i' = i
  ·rw [if_pos h,if_pos ⟨h.1.symm,h.2.symm⟩]
  ·rw [if_neg h,if_neg (fun q=>h ⟨q.1.symm,q.2.symm⟩)]
 | s::l,a,i,t,a',i'=>by
  unfold rset
  by_cases h:s.is a i
  ·rw [if_pos h]
   unfold df
   by_cases h2:a' = a∧i' = i
   ·rw [if_pos h2,if_pos (show s.acc=a'∧s.item=i' from ⟨h.1.trans h2.1.symm,h.2.trans h2.2.symm⟩)]
   ·rw [if_neg h2,if_neg (show ¬(s.acc=a'∧s.item=i') from fun q=>h2 ⟨q.1.symm.trans h.1,q.2.symm.trans h.2⟩),if_neg (show ¬s.is a' i' from fun q=>h2 ⟨q.1.symm.trans h.1,q.2.symm.trans h.2⟩)]
  ·rw [if_neg h]
   unfold df
   by_cases h3:s.is a' i'
   ·rw [if_pos h3,if_pos h3,if_neg (fun q=>h ⟨h3.1.trans q.1,h3.2.trans q.2⟩)]
   ·rw [if_neg h3,if_neg h3,nb l a i t a' i']
theorem og:∀ (l:List RStk) (a i:Int) (t:Stk) (j:Int),rsum (rset l a i t) j=rsum l j+(if j=i then lsum t.lots - lsum (df l a i).lots else 0)
 | [],a,i,t,j=>by
  show (if i=j then lsum t.lots else 0)+0=0+(if j=i then lsum t.lots - 0 else 0)
  by_cases h:j=i
  ·rw [if_pos h,if_pos h.symm];omega
  ·rw [if_neg h,if_neg (fun q=>h q.symm)]
 | s::l,a,i,t,j=>by
  unfold rset df
  by_cases h:s.is a i
  ·rw [if_pos h,if_pos h]
   show (if s.item=j then lsum t.lots else 0)+rsum l j=((if s.item=j then lsum s.stk.lots else 0)+rsum l j)+_
   rw [h.2]
   by_cases h2:j=i
   ·rw [if_pos h2.symm,if_pos h2.symm,if_pos h2];omega
   ·rw [if_neg (fun q=>h2 q.symm),if_neg (fun q=>h2 q.symm),if_neg h2];omega
  ·rw [if_neg h,if_neg h]
   show (if s.item=j then lsum s.stk.lots else 0)+rsum (rset l a i t) j=((if s.item=j then lsum s.stk.lots else 0)+rsum l j)+_
   rw [og l a i t j]
   omega
theorem qd:∀ {l:List RStk} {a i:Int} {k:Nat},k<l.length→l[k]!.is a i→(∀ j,j<k→¬l[j]!.is a i)→df l a i=l[k]!.stk∧∀ t,rset l a i t=l.set k ⟨l[k]!.acc,l[k]!.item,t⟩
 | [],_,_,_,h,_,_=>by simp at h
 | s::l,a,i,0,_,h1,_=>by
  have h1' : s.is a i:=h1
  refine ⟨?_,fun t=>?_⟩
  ·unfold df;rw [if_pos h1'];rfl
  ·unfold rset;rw [if_pos h1'];rfl
 | s::l,a,i,k+1,h,h1,h2=>by
  have h0:¬s.is a i:=h2 0 (Nat.zero_lt_succ _)
  obtain ⟨e1,e2⟩:=qd (l:=l) (a:=a) (i:=i) (k:=k) (by simpa using h) h1 (fun j hj=>h2 (j+1) ab)
  refine ⟨?_,fun t=>?_⟩
  ·unfold df;rw [if_neg h0,e1];rfl
  ·unfold rset;rw [if_neg h0,e2 t];rfl
theorem qb:∀ {l:List RStk} {a i:Int},(∀ j,j<l.length→¬l[j]!.is a i)→df l a i=stk0∧∀ t,rset l a i t=l++[⟨a,i,t⟩]
 | [],_,_,_=>⟨rfl,fun _=>rfl⟩
 | s::l,a,i,h=>by
  have h0:¬s.is a i:=h 0 (Nat.zero_lt_succ _)
  obtain ⟨e1,e2⟩:=qb (l:=l) (a:=a) (i:=i) (fun j hj=>h (j+1) (by simp only [bj];omega))
  refine ⟨?_,fun t=>?_⟩
  ·unfold df;rw [if_neg h0,e1]
  ·unfold rset;rw [if_neg h0,e2 t];rfl
theorem pZ:∀ (l:List RStk) (a i:Int) (t:Stk),(rset l a i t).length≤l.length+1
 | [],_,_,_=>aw _
 | s::l,a,i,t=>by
  unfold rset
  split
  ·simp
  ·have:=pZ l a i t
   simp only [bj]
   omega
theorem pY:∀ {l:List RStk} {a i:Int} {t:Stk} {s:RStk},s∈rset l a i t→s∈l∨s.stk=t
 | [],_,_,_,_,h=>by
  obtain rfl:=List.mem_singleton.1 h
  exact .inr rfl
 | u::l,a,i,t,s,h=>by
  unfold rset at h
  split at h
  ·rcases List.mem_cons.1 h with h|h
   ·exact .inr (by rw [h])
   ·exact .inl (ao _ h)
  ·rcases List.mem_cons.1 h with h|h
   ·exact .inl (by rw [h];exact ap ..)
   ·rcases pY h with h|h
    ·exact .inl (ao _ h)
    ·exact .inr h
theorem om:∀ (l:List RStk) (a i:Int),df l a i=stk0∨∃ s∈l,df l a i=s.stk
 | [],_,_=>.inl rfl
 | s::l,a,i=>by
  unfold df
  split
  ·exact .inr ⟨s,ap ..,rfl⟩
  ·rcases om l a i with h|⟨u,hu,h⟩
   ·exact .inl h
   ·exact .inr ⟨u,ao _ hu,h⟩
theorem mF:∀ (l:List RStk) (i:Int) {k:Nat},k<l.length→rsum (l.take (k+1)) i=rsum (l.take k) i+(if l[k]!.item=i then lsum l[k]!.stk.lots else 0)
 | [],_,_,h=>by simp at h
 | s::l,i,0,_=>by
  show (if s.item=i then lsum s.stk.lots else 0)+0=0+_
  rw [Int.add_zero,Int.zero_add]
  rfl
 | s::l,i,k+1,h=>by
  have:=mF l i (k:=k) (by simpa using h)
  show (if s.item=i then lsum s.stk.lots else 0)+rsum (l.take (k+1)) i=((if s.item=i then lsum s.stk.lots else 0)+rsum (l.take k) i)+_
  rw [this]
  show _+(_+(if l[k]!.item=i then lsum l[k]!.stk.lots else 0))=_+(if l[k]!.item=i then lsum l[k]!.stk.lots else 0)
  omega
def rOk (l:List RStk):Prop:=∀ s∈l,s.stk.lots.length≤4096∧∀ x∈s.stk.lots,LotOk x
theorem pf {l:List Lot} (h:∀ x∈l,LotOk x):0≤lsum l:=by
 have:=(fX h l.length (aw _)).1
 rw [gi] at this
 exact this
theorem rV:∀ {l:List RStk} (i:Int),rOk l→0≤rsum l i
 | [],_,_=>aW _
 | s::l,i,h=>by
  have h1:=rV (l:=l) i (fun u hu=>h u (ao _ hu))
  have h2:=pf (h s ap).2
  unfold rsum
  split<;>omega
theorem lA:∀ {l:List RStk} (i:Int) (k:Nat),rOk l→rsum (l.take k) i≤rsum l i
 | [],_,k,_=>by simp
 | s::l,i,0,h=>rV i h
 | s::l,i,k+1,h=>by
  have:=lA (l:=l) i k (fun u hu=>h u (ao _ hu))
  show (if s.item=i then lsum s.stk.lots else 0)+rsum (l.take k) i≤(if s.item=i then lsum s.stk.lots else 0)+rsum l i
  omega
structure RLX where
 cat:CatV
 stks:List RStk
 sad:Option Addr
 scap:Nat
 flows:List FlV
 fad:Option Addr
 fcap:Nat
 steps:List StV
 tad:Option Addr
 tcap:Nat
abbrev aJ (sh:Int) (x:RLX):List Value:=[.int .i64 sh,.slice x.cat.iad x.cat.items.length x.cat.icap,.slice x.cat.rad x.cat.rules.length x.cat.rcap,.slice x.cat.tad x.cat.tables.length x.cat.tcap,.slice x.cat.xad x.cat.taxes.length x.cat.xcap,.slice x.sad x.stks.length x.scap,.slice x.fad x.flows.length x.fcap,.slice x.tad x.steps.length x.tcap]
abbrev rlL (b:Nat) (sh:Int) (x:RLX) (L:List HP):List HP :=
 obj b tRL (aJ sh x)::osl fS 3 tRS x.sad x.scap x.stks::osl bF 11 cq x.fad x.fcap x.flows::osl aB 7 aU x.tad x.tcap x.steps::catP x.cat::allP rsP x.stks::allP flP x.flows::allP aX x.steps::L
abbrev zA:List Stp:=[.ev 0,.ev 1,.ev 2,.ev 3,.ev 4,.ev 5,.ev 6,.ev 7,.ev 8,.ev 9,.ev 10,.ev 11,.ev 12,.ev 13]
theorem lG {φ ψ:Prop} (k:ψ) (h:Hid ψ→φ:=by intro k;(with_reducible apply G.d8);first|refine G.d7 (N:=22) (id:=3) zA mixed an (Hid.out k)):φ:=h ⟨k⟩
theorem zr {L R:List HP} {b:Nat} {sh:Int} {x:RLX} [hp:PickObj L b tRL (aJ sh x) R] [hr:Rds L x.tad StV aB 7 x.steps] (hl:x.steps.length≤100000) :
  Tri Tryz.prog 133 #[.pointer (some ⟨b,0,none⟩)] L (fun v L'=>v=.int .i64 ((x.steps.getLast?.map (·.tick)).getD 0)∧L' = L):=by
 refine Tri.body (args:=[.pointer (some ⟨b,0,none⟩)]) 22 Ir Tryz.func133 rfl rfl rfl (by simp) ?_
 by_cases h0:x.steps.length=0
 ·repeat first|refine aa ?_|intro _|refine lG ?_
  exact KX.d7 ag (Ent.refl _) ⟨by rw [aQ h0];rfl,rfl⟩
 ·repeat first|refine aa ?_|intro _|refine lG ?_
  refine KX.d7 ag (Ent.refl _) ⟨?_,rfl⟩
  have e:x.steps.getLast? = some x.steps[((x.steps.length:Int) - 1).toNat]!:=by
   rw [show ((x.steps.length:Int) - 1).toNat=x.steps.length - 1 by omega,List.getLast?_eq_getElem?,getElem!_of ab,List.getElem?_eq_getElem]
  rw [e]
  rfl
theorem rh {L R:List HP} {b:Nat} {sh:Int} {x:RLX} [hp:PickObj L b tRL (aJ sh x) R] [hr:Rds L x.sad RStk fS 3 x.stks] (a i:Int) (hl:x.stks.length≤100000000) :
  Tri Tryz.prog 229 #[.pointer (some ⟨b,0,none⟩),.int .i64 a,.int .i64 i] L (fun v L'=>((v=.int .i64 (-1)∧∀ j,j<x.stks.length→¬x.stks[j]!.is a i)∨∃ k:Nat,v=.int .i64 (k:Int)∧k<x.stks.length∧x.stks[k]!.is a i∧∀ j,j<k→¬x.stks[j]!.is a i)∧L' = L):=by
 refine Tri.body (args:=[.pointer (some ⟨b,0,none⟩),.int .i64 a,.int .i64 i]) 40 GJ Tryz.func229 rfl rfl rfl (by simp) ?_
 repeat first|refine aa ?_|intro
 refine G.loop (α:=Nat) (fun k=>k≤x.stks.length∧∀ j,j<k→¬x.stks[j]!.is a i) (fun k=>[(0,.pointer (some ⟨b,0,none⟩)),(1,.int .i64 a),(2,.int .i64 i),(7,.int .i64 (k:Int))]) (fun _=>L) (fun k=>x.stks.length - k) 0 ⟨al _,fun j hj=>absurd hj (bI j)⟩ ai (Ent.refl _) ?_
 rintro k ⟨hk,hb⟩
 by_cases hlt:k<x.stks.length
 case neg =>
  obtain rfl:k=x.stks.length:=ab
  repeat first|refine aa ?_|intro
  exact KX.d7 ag (Ent.refl _) ⟨.inl ⟨rfl,hb⟩,rfl⟩
 have hkk:(k:Int).toNat=k:=av k
 have hlt' : (k:Int).toNat<x.stks.length:=ab
 have next:¬x.stks[k]!.is a i→k+1≤x.stks.length∧∀ j,j<k+1→¬x.stks[j]!.is a i:=fun hn=>⟨ab,fun j hj=>by
  rcases bG j k with h|h
  ·exact hb j h
  ·obtain rfl:j=k:=ab
   exact hn⟩
 by_cases h1:x.stks[(k:Int).toNat]!.acc=a
 ·by_cases h2:x.stks[(k:Int).toNat]!.item=i
  ·repeat first|refine aa ?_|intro
   rw [hkk] at h1 h2
   exact KX.d7 ag (Ent.refl _) ⟨.inr ⟨k,rfl,hlt,⟨h1,h2⟩,hb⟩,rfl⟩
  ·repeat first|refine aa ?_|intro
   rw [hkk] at h1 h2
   refine ⟨k+1,next (fun q=>h2 q.2),ab,?_,Ent.refl _⟩
   rw [aM k]
   exact ai
 ·repeat first|refine aa ?_|intro
  rw [hkk] at h1
  refine ⟨k+1,next (fun q=>h1 q.1),ab,?_,Ent.refl _⟩
  rw [aM k]
  exact ai
theorem mj {L R:List HP} {b:Nat} {sh:Int} {x:RLX} [hp:PickObj L b tRL (aJ sh x) R] [hr:Rds L x.sad RStk fS 3 x.stks] (a i:Int) (hl:x.stks.length≤100000000) :
  Tri Tryz.prog 141 #[.pointer (some ⟨b,0,none⟩),.int .i64 a,.int .i64 i] L (fun v L'=>v=.slice (df x.stks a i).ad (df x.stks a i).lots.length (df x.stks a i).cap∧L' = L):=by
 refine Tri.body (args:=[.pointer (some ⟨b,0,none⟩),.int .i64 a,.int .i64 i]) 22 Ik Tryz.func141 rfl rfl rfl (by simp) ?_
 repeat first|refine aa ?_|intro
 refine GO.ef (Ef.d7 (rh (b:=b) (sh:=sh) (x:=x) a i hl) rfl) ac ?_
 rintro _ L ⟨⟨rfl,hn⟩|⟨k,rfl,hk,h1,h2⟩,rfl⟩
 ·rw [(qb hn).1]
  repeat first|refine aa ?_|intro
  exact KX.d7 ag (Ent.refl _) ⟨rfl,rfl⟩
 ·have hkk:(k:Int).toNat=k:=av k
  rw [(qd hk h1 h2).1]
  repeat first|refine aa ?_|intro
  rw [hkk]
  repeat first|refine aa ?_|intro
  exact KX.d7 ag (Ent.refl _) ⟨rfl,rfl⟩
end
section
open Go.V
attribute [local irreducible] G GO GP GPW GPK Ev Ef EfR Ent CB GB V.Enters
theorem DE {α:Type} {f:α→HP} (hf:∀ x,PersM (f x)) {l:List α} {k:Nat} {e:α} {L:List HP}:Ent (f e::allP f l::L) (allP f (l.set k e)::L) :=
 (Ent.g7 hf).trans (Ent.l0 (fun _ hx=>by
  rcases cj hx with h|h
  ·exact ao _ h
  ·rw [h];exact ap ..))
theorem mg {α:Type} {f:α→HP} (hf:∀ x,PersM (f x)) {l:List α} {e:α} {L:List HP}:Ent (f e::allP f l::L) (allP f (l++[e])::L) :=
 (Ent.g7 hf).trans (Ent.l0 (fun x hx=>by
  rcases List.mem_append.1 hx with h|h
  ·exact ao _ h
  ·rw [List.mem_singleton.1 h];exact ap ..))
theorem na {L:List HP} (b:Nat) (sh:Int) (x:RLX) (a i:Int) (t:Stk) (hl:x.stks.length≤10000000) :
  Tri Tryz.prog 142 #[.pointer (some ⟨b,0,none⟩),.int .i64 a,.int .i64 i,.slice t.ad t.lots.length t.cap] (rlL b sh x (stkP t::L)) (fun _ L'=>∃ ad' cap',L' = rlL b sh { x with stks:=rset x.stks a i t,sad:=ad',scap:=cap' } L):=by
 refine Tri.body (args:=[.pointer (some ⟨b,0,none⟩),.int .i64 a,.int .i64 i,.slice t.ad t.lots.length t.cap]) 36 Ij Tryz.func142 rfl rfl rfl (by simp) ?_
 simp only [rlL]
 repeat first|refine aa ?_|intro
 refine GO.ef (Ef.d7 (rh (b:=b) (sh:=sh) (x:=x) a i ab) rfl) ac ?_
 rintro _ _ ⟨⟨rfl,hn⟩|⟨k,rfl,hk,h1,h2⟩,rfl⟩
 ·have e:=(qb hn).2 t
  have henc:([.int .i64 a,.int .i64 i,.slice t.ad t.lots.length t.cap]:List Value)=fS ⟨a,i,t⟩:=rfl
  repeat first|refine aa ?_|intro
  refine GO.ef (Ef.d8 (enc:=fS) (⟨a,i,t⟩:RStk) rfl rfl rfl rfl rfl (by rfl) (oH _) ab ab) ac ?_
  rintro _ _ ⟨ad3,cap3,rfl,rfl⟩
  repeat first|refine aa ?_|intro
  refine KX.d7 ag ?_ ⟨ad3,cap3,rfl⟩
  rw [e]
  simp only [rlL,aJ]
  refine Ent.trans (B:=rsP ⟨a,i,t⟩::allP rsP x.stks::obj b tRL (aJ sh { x with stks:=x.stks++[⟨a,i,t⟩],sad:=ad3,scap:=cap3 })::osl fS 3 tRS ad3 cap3 (x.stks++[⟨a,i,t⟩])::osl bF 11 cq x.fad x.fcap x.flows::osl aB 7 aU x.tad x.tcap x.steps::catP x.cat::allP flP x.flows::allP aX x.steps::L) ?_ ((mg DH).trans ?_)
  ·simp only [rsP]
   exact ae
  ·exact ae
 ·have e:=(qd hk h1 h2).2 t
  have hkk:(k:Int).toNat=k:=av k
  have hk' : (k:Int).toNat<x.stks.length:=ab
  repeat first|refine aa ?_|intro
  rw [hkk]
  refine GO.efu (Ef.f9 (enc:=fS) (⟨x.stks[k]!.acc,x.stks[k]!.item,t⟩:RStk) rfl rfl rfl rfl hk ac) ?_
  rintro _ _ rfl
  repeat first|refine aa ?_|intro
  refine KX.e8 ag ?_ ⟨x.sad,x.scap,rfl⟩
  rw [e]
  have hlen:(x.stks.set k ⟨x.stks[k]!.acc,x.stks[k]!.item,t⟩).length=x.stks.length:=bg ..
  simp only [rlL,aJ]
  rw [hlen]
  refine Ent.trans (B:=rsP ⟨x.stks[k]!.acc,x.stks[k]!.item,t⟩::allP rsP x.stks::obj b tRL (aJ sh x)::osl fS 3 tRS x.sad x.scap (x.stks.set k ⟨x.stks[k]!.acc,x.stks[k]!.item,t⟩)::osl bF 11 cq x.fad x.fcap x.flows::osl aB 7 aU x.tad x.tcap x.steps::catP x.cat::allP flP x.flows::allP aX x.steps::L) ?_ ((DE DH (k:=k)).trans ?_)
  ·simp only [rsP]
   exact ae
  ·exact ae
theorem ng {l:List RStk} (h:rOk l) (a i:Int):(df l a i).lots.length≤4096∧∀ x∈(df l a i).lots,LotOk x:=by
 rcases om l a i with e|⟨s,hs,e⟩
 ·rw [e]
  exact ⟨al _,fun x hx=>by cases hx⟩
 ·rw [e]
  exact h s hs
theorem oo {l:List RStk} (a i:Int) {L:List HP}:Ent (allP rsP l::L) (stkP (df l a i)::allP rsP l::L):=by
 rcases om l a i with e|⟨s,hs,e⟩
 ·rw [e]
  exact Ent.e8 ah 3 none
 ·rw [e]
  exact Ent.e7 (f:=rsP) hs
theorem ot {L:List HP} (b:Nat) (sh:Int) (x:RLX) (a i:Int) (hl:x.stks.length≤10000000) (hO:rOk x.stks) :
  Tri Tryz.prog 132 #[.pointer (some ⟨b,0,none⟩),.int .i64 a,.int .i64 i] (rlL b sh x L) (fun v L'=>v=.int .i64 (lsum (df x.stks a i).lots)∧L' = rlL b sh x L):=by
 obtain ⟨o1,o2⟩:=ng hO a i
 refine Tri.body (args:=[.pointer (some ⟨b,0,none⟩),.int .i64 a,.int .i64 i]) 12 Is Tryz.func132 rfl rfl rfl (by simp) ?_
 simp only [rlL]
 repeat first|refine aa ?_|intro
 refine GO.ef (Ef.d7 (mj (b:=b) (sh:=sh) (x:=x) a i ab) rfl) ac ?_
 rintro _ _ ⟨rfl,rfl⟩
 refine GO.ent (Ent.at (A:=allP rsP x.stks) (oo a i)) ?_
 repeat first|refine aa ?_|intro
 refine GO.ef (Ef.d7 (iN (df x.stks a i).ad (df x.stks a i).lots.length (df x.stks a i).cap (df x.stks a i).lots rfl o1 o2) rfl) ac ?_
 rintro _ _ ⟨rfl,rfl⟩
 repeat first|refine aa ?_|intro
 exact KX.d7 ag ae ⟨rfl,rfl⟩
theorem Bp {L:List HP} (b:Nat) (sh:Int) (x:RLX) (i:Int) (hl:x.stks.length≤10000000) (hO:rOk x.stks) (hs:rsum x.stks i≤1099511627776) :
  Tri Tryz.prog 139 #[.pointer (some ⟨b,0,none⟩),.int .i64 i] (rlL b sh x L) (fun v L'=>v=.int .i64 (rsum x.stks i)∧L' = rlL b sh x L):=by
 refine Tri.body (args:=[.pointer (some ⟨b,0,none⟩),.int .i64 i]) 38 Im Tryz.func139 rfl rfl rfl (by simp) ?_
 simp only [rlL]
 repeat first|refine aa ?_|intro
 refine G.loop (α:=Nat) (fun k=>k≤x.stks.length) (fun k=>[(0,.pointer (some ⟨b,0,none⟩)),(1,.int .i64 i),(5,.int .i64 (rsum (x.stks.take k) i)),(6,.int .i64 (k:Int))]) (fun _=>rlL b sh x L) (fun k=>x.stks.length - k) 0 (al _) ai (Ent.refl _) ?_
 intro k hk
 simp only [rlL]
 by_cases hlt:k<x.stks.length
 case neg =>
  obtain rfl:k=x.stks.length:=ab
  rw [aZ]
  repeat first|refine aa ?_|intro
  exact KX.d7 ag ae ⟨rfl,rfl⟩
 have hkk:(k:Int).toNat=k:=av k
 have hlt' : (k:Int).toNat<x.stks.length:=ab
 have hst:=mF x.stks i hlt
 have hb1:=lA i k hO
 have hb2:=lA i (k+1) hO
 have hb3:0≤rsum (x.stks.take k) i:=rV i (fun u hu=>hO u (dJ hu))
 have hmem:=aG hlt
 obtain ⟨o1,o2⟩:=hO _ hmem
 have hnn:=pf o2
 by_cases h1:x.stks[(k:Int).toNat]!.item=i
 ·have h1' : x.stks[k]!.item=i:=by rw [← hkk];exact h1
  rw [if_pos h1'] at hst
  repeat first|refine aa ?_|intro
  rw [hkk]
  refine GO.ent (Ent.at (A:=allP rsP x.stks) (Ent.e7 (f:=rsP) hmem)) ?_
  refine GO.ef (Ef.d7 (iN x.stks[k]!.stk.ad x.stks[k]!.stk.lots.length x.stks[k]!.stk.cap x.stks[k]!.stk.lots rfl o1 o2) rfl) ac ?_
  rintro _ _ ⟨rfl,rfl⟩
  repeat first|refine aa ?_|intro
  refine ⟨k+1,ab,ab,?_,by exact ae⟩
  rw [aM k,hst]
  exact ai
 ·have h1' : ¬x.stks[k]!.item=i:=by rw [← hkk];exact h1
  rw [if_neg h1',Int.add_zero] at hst
  repeat first|refine aa ?_|intro
  refine ⟨k+1,ab,ab,?_,by exact ae⟩
  rw [aM k,hst]
  exact ai
abbrev Bz:List Stp:=[.ev 0,.ev 1,.ev 2,.ev 3,.ev 4,.ev 5,.ev 6,.ev 7,.ev 8,.ef 9,.ev 10]
abbrev By:List Stp:=[.ev 0,.ev 1,.ev 2,.ev 3,.ev 4,.ev 5,.ev 6,.ev 7,.ev 8,.ef 9,.ev 10,.ev 11,.ef 12]
abbrev Bx:List Stp:=[.ev 0,.ev 1,.ev 2,.ev 3,.ev 4,.ev 5,.ev 6,.ev 7,.ev 8,.ef 9,.ev 10,.ev 11,.ef 12]
abbrev Bw:List Stp:=[.ev 0,.ev 1,.ev 2,.ev 3,.ev 4,.ev 5,.ev 6,.ev 7,.ev 8,.ef 9,.ev 10,.ev 11,.ef 12]
theorem iF {φ ψ:Prop} (k:ψ) (h:Hid ψ→φ:=by intro k;(with_reducible apply G.d8);first|refine G.d7 (N:=51) (id:=1) Bz mixed an (Hid.out k)|refine G.d7 (N:=51) (id:=2) By mixed an (Hid.out k)|refine G.d7 (N:=51) (id:=3) Bx mixed an (Hid.out k)|refine G.d7 (N:=51) (id:=4) Bw mixed an (Hid.out k)):φ:=h ⟨k⟩
theorem wF {L:List HP} (b:Nat) (sh:Int) (x:RLX) (h1:x.stks.length≤10000000) (h2:x.flows.length≤10000000) (h3:x.steps.length≤10000000) :
  Tri Tryz.prog 93 #[.pointer (some ⟨b,0,none⟩)] (rlL b sh x L) (fun v L'=>∃ b' x',v=.pointer (some ⟨b',0,none⟩)∧(x'.cat=x.cat∧x'.stks=x.stks∧x'.flows=x.flows∧x'.steps=x.steps)∧L' = obj b' tRL (aJ sh x')::osl fS 3 tRS x'.sad x'.scap x'.stks::osl bF 11 cq x'.fad x'.fcap x'.flows::rlL b sh x L):=by
 refine Tri.body (args:=[.pointer (some ⟨b,0,none⟩)]) 51 en93 Tryz.func93 rfl rfl rfl (by simp) ?_
 simp only [rlL]
 repeat first|refine aa ?_|intro _|refine iF ?_
 rename_i b3
 refine GPW.ent (Ent.d8 fS 3 tRS) ?_
 refine GPW.ef (Ef.e7 (xs:=[]) rfl rfl rfl rfl rfl (fun e _=>oH e) (by simp;omega) (by simp;omega)) ac ?_
 rintro _ _ ⟨a1,c1,rfl,rfl⟩
 simp only [aj]
 repeat first|refine aa ?_|intro _|refine iF ?_
 refine GPW.ent (Ent.d8 bF 11 cq) ?_
 refine GPW.ef (Ef.e7 (xs:=[]) rfl rfl rfl rfl rfl (fun e _=>jj e) (by simp;omega) (by simp;omega)) ac ?_
 rintro _ _ ⟨a2,c2,rfl,rfl⟩
 simp only [aj]
 repeat first|refine aa ?_|intro _|refine iF ?_
 refine GPW.ent (Ent.d8 aB 7 aU) ?_
 refine GPW.ef (Ef.e7 (xs:=[]) rfl rfl rfl rfl rfl (fun e _=>iB e) (by simp;omega) (by simp;omega)) ac ?_
 rintro _ _ ⟨a3,c3,rfl,rfl⟩
 simp only [aj]
 repeat first|refine aa ?_|intro _|refine iF ?_
 refine KX.d7 ag ?_ ⟨b3,⟨x.cat,x.stks,a1,c1,x.flows,a2,c2,x.steps,a3,c3⟩,rfl,⟨rfl,rfl,rfl,rfl⟩,rfl⟩
 simp only [rlL,aJ]
 exact ae
end
end Go.Proofs.YtommnllbflbdmaaGreatDoor
