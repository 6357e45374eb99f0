/- Execute: a part of what is shown of the program's Execute and the reference's. -/
import Derived.Test.YtlgojeodceiglaaGreatDoorA2
import Derived.Lib.SplitLaws
namespace Go.Proofs.YtlgojeodceiglaaGreatDoor.PFnExactExecute
open Go.RowKit Go.Proofs.YtlgojeodceiglaaGreatDoorW.PrintWords Go.Proofs.YtlgojeodceiglaaGreatDoorW.PrintLast Go.Proofs.YtlgojeodceiglaaGreatDoorW.PrintMore
attribute [local go_sem] WO WQ WS WT WM WN WP WR
set_option linter.unusedVariables false
set_option linter.unusedSimpArgs false
set_option maxRecDepth 100000
set_option maxHeartbeats 0
namespace U
theorem At {n:Nat} (h:n<4611686018427387904):wrap64 ((n:Int)+1)=((n+1:Nat):Int):=by unfold wrap64;omega
theorem B9 {l:List Int} {i:Nat} (h:i<l.length):rd l (i:Int)=l[i]:=by
 unfold rd;rw [Rr,WI,WH h];rfl
theorem G9 (a:Nat) (ha:a<4611686018427387904):Go.bits .and .i64 (a:Int) 1=((a % 2:Nat):Int):=by
 have h1:(BitVec.ofInt 64 (a:Int)).toNat=a:=by
  rw [BitVec.ofInt_natCast,BitVec.toNat_ofNat];exact Nat.mod_eq_of_lt (by omega)
 have h2:(BitVec.ofInt 64 (1:Int)).toNat=1:=by decide
 show IntKind.i64.wrap ((BitVec.ofInt 64 (a:Int)&&& BitVec.ofInt 64 (1:Int)).toNat:Int)=_;rw [BitVec.toNat_and,h1,h2,Nat.and_one_is_mod];have:a % 2<2:=Nat.mod_lt _ (by omega);generalize a % 2=c at this;simp [IntKind.wrap,IntKind.bits,IntKind.signed];omega
end U
namespace U
def Ag (l:List Int):Prop:=(∀ x∈l,1<=x/\x<=60)/\1<=l.length/\l.length<=9
instance (l:List Int):Decidable (Ag l):=by unfold Ag;infer_instance

end U
namespace U
theorem Dv (a b c:Int):Cu.f a b c=some (decide (b<=a/\a<=c)):=by
 unfold Cu.f;by_cases h:a>=b
 ·rw [if_pos h];congr 1;exact decide_eq_decide.mpr ⟨λx=>⟨h,x⟩,λx=>x.2⟩
 ·rw [if_neg h,Wp (λx=>h x.1)]

end U
namespace U
theorem LQ (l:List Int) (hl:l.length<=1048576):∀ (d k i:Nat),i+d=l.length->d+1<=k->
  Am.l0 k l l (l.length:Int) (i:Int)=some (decide ((∀ x∈l.drop i,1<=x/\x<=60)/\1<=l.length/\l.length<=9)):=by
 intro d
 induction d with
 | zero=>
  intro k i hi hk
  obtain ⟨m,rfl⟩:∃ m,k=m+1:=⟨k-1,by omega⟩
  rw [Am.l0,if_neg (by omega),Wm (by omega)];simp only [List.not_mem_nil,false_implies,implies_true,true_and];split
  ·congr 1;exact decide_eq_decide.mpr ⟨λx=>by omega,λx=>by omega⟩
  ·rw [Wp (by omega)]
 | succ d ih=>
  intro k i hi hk
  obtain ⟨m,rfl⟩:∃ m,k=m+1:=⟨k-1,by omega⟩
  have hil:i<l.length:=by omega
  rw [Am.l0,if_pos (by omega),if_pos (by omega),if_pos (by omega),B9 hil,At (by omega),ih m (i+1) (by omega) (by omega),Wl hil];simp only [Wy,forall_eq_or_imp];split
  ·next h=>rw [Wp (λx=>by omega)]
  ·next h=>
   split
   ·next h=>rw [Wp (λx=>by omega)]
   ·next h1=>congr 1;exact decide_eq_decide.mpr ⟨λx=>⟨⟨⟨by omega,by omega⟩,x.1⟩,x.2⟩,λx=>⟨x.1.2,x.2⟩⟩
theorem EG (l:List Int) (hl:l.length<=1048576) (k:Nat) (hk:l.length+1<=k):Am.f k l=some (decide (Ag l)):=
 LQ l hl l.length k 0 (by omega) (by omega)

end U
namespace U
theorem Mb (l:List Int) (hl:l.length<=1048576):∀ (d k i:Nat),i+d=l.length->d+1<=k->
  Bj.l0 k l (i:Int)=some (decide ((∀ x∈l.drop i,1<=x/\x<=60)/\1<=l.length/\l.length<=9)):=by
 intro d
 induction d with
 | zero=>
  intro k i hi hk
  obtain ⟨m,rfl⟩:∃ m,k=m+1:=⟨k-1,by omega⟩
  rw [Bj.l0,if_neg (by omega),Dv,Wm (by omega)];simp only [AI,List.not_mem_nil,false_implies,implies_true,true_and];congr 1
  exact decide_eq_decide.mpr ⟨λx=>by omega,λx=>by omega⟩
 | succ d ih=>
  intro k i hi hk
  obtain ⟨m,rfl⟩:∃ m,k=m+1:=⟨k-1,by omega⟩
  have hil:i<l.length:=by omega
  rw [Bj.l0,if_pos (by omega),if_pos (by omega),B9 hil,Dv,At (by omega),ih m (i+1) (by omega) (by omega),Wl hil];simp only [AI,Wq,Wy,forall_eq_or_imp];split
  ·next h=>congr 1;exact decide_eq_decide.mpr ⟨λx=>⟨⟨h,x.1⟩,x.2⟩,λx=>⟨x.1.2,x.2⟩⟩
  ·next h=>rw [Wp (λx=>h x.1.1)]
theorem Gx (l:List Int) (hl:l.length<=1048576) (k:Nat) (hk:l.length+1<=k):Bj.f k l=some (decide (Ag l)):=
 Mb l hl l.length k 0 (by omega) (by omega)

end U
namespace U
def asc (l:List Int):Prop:=∀ j:Nat,j<l.length->0<j->rd l ((j-1:Nat):Int)<=rd l (j:Int)
instance (l:List Int):Decidable (asc l):=by unfold asc;infer_instance
def AM (l:List Int):Prop:=Ag l/\asc l
instance (l:List Int):Decidable (AM l):=by unfold AM;infer_instance
theorem T3 (l:List Int) (p:Int->Prop):(∀ x∈l,p x)↔∀ j:Nat,j<l.length->p (rd l (j:Int)):=by
 constructor
 ·intro h j hj;rw [B9 hj];exact h _ (Wk hj)
 ·intro h x hx;obtain ⟨j,hj,rfl⟩:=List.mem_iff_getElem.mp hx;rw [<- B9 hj];exact h j hj
theorem Eu {n:Nat} (h0:0<n) (h:n<4611686018427387904):wrap64 ((n:Int)-1)=((n-1:Nat):Int):=by unfold wrap64;omega

end U
namespace U
theorem NT (a b:Int):CL.f a b=some (decide (a<b)):=by
 unfold CL.f BJ.f;simp
theorem Rx (l:List Int) (hl:l.length<=1048576):∀ (i k:Nat),i+1<=k->i<l.length->Af.l0 k l (i:Int)=some (decide (∀ j:Nat,j<i+1->0<j->rd l ((j-1:Nat):Int)<=rd l (j:Int))):=by
 intro i
 induction i with
 | zero=>
  intro k hk hi
  obtain ⟨m,rfl⟩:∃ m,k=m+1:=⟨k-1,by omega⟩
  rw [Af.l0,if_neg (by omega),Wo (λj hj h0=>by omega)]
 | succ i ih=>
  intro k hk hi
  obtain ⟨m,rfl⟩:∃ m,k=m+1:=⟨k-1,by omega⟩
  rw [Af.l0,if_pos (by omega),if_pos (by omega),if_pos (by omega),Eu (by omega) (by omega),if_pos (by omega),if_pos (by omega),NT,show i+1-1=i from rfl,ih m (by omega) (by omega)];simp only [AI,Wq];by_cases h:rd l ((i+1:Nat):Int)<rd l (i:Int)
  ·rw [if_pos h,Wp (λx=>by have:=x (i+1) (by omega) (by omega);rw [show i+1-1=i from rfl] at this;omega)]
  ·rw [if_neg h];congr 1;refine decide_eq_decide.mpr ⟨λx j hj h0=>?_,λx j hj h0=>x j (by omega) h0⟩;rcases Nat.lt_or_ge j (i+1) with h' | h'
   ·exact x j h' h0
   ·obtain rfl:j=i+1:=by omega
    rw [show i+1-1=i from rfl];omega
theorem DZ (l:List Int) (hl:l.length<=1048576) (k:Nat) (hk:l.length+1<=k):AA.f k l=some (decide (AM l)):=by
 unfold AA.f;rw [EG l hl k hk];simp only [AI,Wq];by_cases h:Ag l
 ·have h1:=h.2.1;rw [if_pos h];unfold Af.f;rw [Eu (by omega) (by omega),Rx l hl (l.length-1) k (by omega) (by omega)];simp only [AI];congr 1;refine decide_eq_decide.mpr ?_;rw [show l.length-1+1=l.length by omega];exact ⟨λx=>⟨h,x⟩,λx=>x.2⟩
 ·rw [if_neg h,Wp (λx=>h x.1)]

end U
namespace U
def H0 (l:List Int) (i:Nat):Prop:=(∀ j:Nat,j<l.length->i<=j->(1<=rd l (j:Int)/\rd l (j:Int)<=60)/\(0<j->rd l ((j-1:Nat):Int)<=rd l (j:Int)))/\1<=l.length/\l.length<=9
instance (l:List Int) (i:Nat):Decidable (H0 l i):=by unfold H0;infer_instance
theorem MQ {l:List Int} {i:Nat} (h:i<l.length):H0 l i↔((1<=rd l (i:Int)/\rd l (i:Int)<=60)/\(0<i->rd l ((i-1:Nat):Int)<=rd l (i:Int)))/\H0 l (i+1):=by
 unfold H0;constructor
 ·rintro ⟨h1,h2⟩;exact ⟨h1 i h (Wn _),λj hj hij=>h1 j hj (by omega),h2⟩
 ·rintro ⟨h1,h2,h3⟩;refine ⟨λj hj hij=>?_,h3⟩;rcases Nat.lt_or_ge i j with h' | h'
  ·exact h2 j hj h'
  ·obtain rfl:i=j:=by omega
   exact h1
theorem KR (l:List Int) (hl:l.length<=1048576):∀ (d k i:Nat),i+d=l.length->d+1<=k->Ar.l0 k l (i:Int)=some (decide (H0 l i)):=by
 intro d
 induction d with
 | zero=>
  intro k i hi hk
  obtain ⟨m,rfl⟩:∃ m,k=m+1:=⟨k-1,by omega⟩
  rw [Ar.l0,if_neg (by omega),Dv];simp only [AI];congr 1
  exact decide_eq_decide.mpr ⟨λx=>⟨λj hj hij=>by omega,by omega⟩,λx=>by have:=x.2;omega⟩
 | succ d ih=>
  intro k i hi hk
  obtain ⟨m,rfl⟩:∃ m,k=m+1:=⟨k-1,by omega⟩
  have hil:i<l.length:=by omega
  have st:=MQ hil;have ih:=ih m (i+1) (by omega) (by omega);rw [Ar.l0,if_pos (by omega),if_pos (by omega),Dv,At (by omega),ih];simp only [AI,Wq];by_cases h1:1<=rd l (i:Int)/\rd l (i:Int)<=60
  ·rw [if_pos h1];by_cases h2:0<i
   ·rw [if_pos (by omega),Eu h2 (by omega),if_pos (by omega),if_pos (by omega)];by_cases h3:rd l (i:Int)<rd l ((i-1:Nat):Int)
    ·rw [if_pos h3,Wp (λx=>by have:=(st.mp x).1.2 h2;omega)]
    ·rw [if_neg h3];congr 1;exact decide_eq_decide.mpr ⟨λx=>st.mpr ⟨⟨h1,λ_=>by omega⟩,x⟩,λx=>(st.mp x).2⟩
   ·rw [if_neg (by omega)];congr 1;exact decide_eq_decide.mpr ⟨λx=>st.mpr ⟨⟨h1,λh=>absurd h h2⟩,x⟩,λx=>(st.mp x).2⟩
  ·rw [if_neg h1,Wp (λx=>h1 (st.mp x).1.1)]
theorem Ew (l:List Int) (hl:l.length<=1048576) (k:Nat) (hk:l.length+1<=k):Ar.f k l=some (decide (AM l)):=by
 unfold Ar.f;have:=KR l hl l.length k 0 (by omega) hk;rw [show ((0:Nat):Int)=0 from rfl] at this;rw [this];congr 1;refine decide_eq_decide.mpr ?_;unfold AM Ag asc H0;rw [T3 l (λx=>1<=x/\x<=60)];exact ⟨λx=>⟨⟨λj hj=>(x.1 j hj (by omega)).1,x.2⟩,λj hj h0=>(x.1 j hj (by omega)).2 h0⟩,λx=>⟨λj hj _=>⟨x.1.1 j hj,x.2 j hj⟩,x.1.2⟩⟩

end U
namespace U
theorem VS (l:List Int) (hl:l.length<=100) (hx:∀ x∈l,1<=x/\x<=60):∀ (d k i:Nat) (s:Int),i+d=l.length->d+1<=k->0<=s->s<=60*i->
  B8.l0 k s l (l.length:Int) (i:Int)=some (s+(l.drop i).sum):=by
 intro d
 induction d with
 | zero=>
  intro k i s hi hk h0 h1
  obtain ⟨m,rfl⟩:∃ m,k=m+1:=⟨k-1,by omega⟩
  rw [B8.l0,if_neg (by omega),Wm (by omega)]
  simp
 | succ d ih=>
  intro k i s hi hk h0 h1
  obtain ⟨m,rfl⟩:∃ m,k=m+1:=⟨k-1,by omega⟩
  have hil:i<l.length:=by omega
  have hx:=hx l[i] (Wk hil);have w:wrap64 (s+l[i])=s+l[i]:=by unfold wrap64;omega
  rw [B8.l0,if_pos (by omega),if_pos (by omega),if_pos (by omega),B9 hil,w,At (by omega),ih m (i+1) _ (by omega) (by omega) (by omega) (by omega),Wl hil,List.sum_cons];congr 1;omega
theorem Gj (l:List Int) (hl:l.length<=100) (hx:∀ x∈l,1<=x/\x<=60) (k:Nat) (hk:l.length+1<=k):B8.f k l=some l.sum:=by
 have:=VS l hl hx l.length k 0 0 (by omega) hk (by omega) (by omega);unfold B8.f;rw [show ((0:Nat):Int)=0 from rfl] at this;rw [this];simp

end U
namespace U
theorem UK (l:List Int) (hl:l.length<=100) (hx:∀ x∈l,1<=x/\x<=60):∀ (d k i:Nat) (s:Int),i+d=l.length->d+1<=k->0<=s->s<=60*i->
  B4.l0 k l s (i:Int)=some (s+(l.drop i).sum):=by
 intro d
 induction d with
 | zero=>
  intro k i s hi hk h0 h1
  obtain ⟨m,rfl⟩:∃ m,k=m+1:=⟨k-1,by omega⟩
  rw [B4.l0,if_neg (by omega),Wm (by omega)]
  simp
 | succ d ih=>
  intro k i s hi hk h0 h1
  obtain ⟨m,rfl⟩:∃ m,k=m+1:=⟨k-1,by omega⟩
  have hil:i<l.length:=by omega
  have hx:=hx l[i] (Wk hil);have w:wrap64 (s+l[i])=s+l[i]:=by unfold wrap64;omega
  rw [B4.l0,if_pos (by omega),if_pos (by omega),B9 hil,w,At (by omega),ih m (i+1) _ (by omega) (by omega) (by omega) (by omega),Wl hil,List.sum_cons];congr 1;omega
theorem Gz (l:List Int) (hl:l.length<=100) (hx:∀ x∈l,1<=x/\x<=60) (k:Nat) (hk:l.length+1<=k):B4.f k l=some l.sum:=by
 have:=UK l hl hx l.length k 0 0 (by omega) hk (by omega) (by omega);unfold B4.f;rw [show ((0:Nat):Int)=0 from rfl] at this;rw [this];simp

end U
namespace U
def CS (c:UInt8):List UInt8->List (List UInt8)
 | []=>[[]]
 | b::r=>if b=c then []::CS c r else (match CS c r with
  | []=>[[b]]
  | q::qs=>(b::q)::qs)
theorem Hj (c:UInt8):∀ s,CS c s≠[]
 | []=>by simp [CS]
 | b::r=>by
  unfold CS;split
  ·simp
  ·split<;>simp
theorem Gt (c:UInt8) (r:List UInt8):CS c (c::r)=[]::CS c r:=by
 rw [CS,if_pos rfl]
theorem Fx {b c:UInt8} (r:List UInt8) (hb:b≠c):∃ q qs,CS c r=q::qs/\CS c (b::r)=(b::q)::qs:=by
 cases h:CS c r with
 | nil=>exact absurd h (Hj c r)
 | cons q qs=>exact ⟨q,qs,rfl,by rw [CS,if_neg hb,h]⟩
theorem Na {b c:UInt8} (hb:b≠c) (r:List UInt8):∀ k,∃ q qs,Lib.splitK [c] 0 k r=q::qs/\Lib.splitK [c] 0 k (b::r)=(b::q)::qs
 | 0=>⟨r,[],rfl,rfl⟩
 | k+1=>by
  have hi:Lib.index (b::r) [c]=if Lib.index r [c]==-1 then -1 else Lib.index r [c]+1:=by
   rw [Lib.index,if_neg (by simp [List.isPrefixOf];exact λh=>hb h.symm)]
  unfold Lib.splitK;by_cases h:Lib.index r [c] = -1
  ·rw [hi,h];exact ⟨r,[],by simp,by simp⟩
  ·have hge:-1<=Lib.index r [c]:=by
    rw [Lib.index_one];exact Lib.indexByte_ge _ _
   obtain ⟨i,e⟩:∃ i:Nat,Lib.index r [c]=(i:Int):=⟨(Lib.index r [c]).toNat,by omega⟩
   have h1:(Lib.index r [c]==-1)=false:=beq_eq_false_iff_ne.mpr h
   have h2:(Lib.index (b::r) [c]==-1)=false:=by
    rw [hi,h1,e];exact beq_eq_false_iff_ne.mpr (by simp;omega)
   have h3:Lib.index (b::r) [c]=((i+1:Nat):Int):=by rw [hi,h1,e];simp
   rw [h1,h2,h3,e];refine ⟨_,_,rfl,?_⟩;simp only [Rr,Nat.add_zero];rfl
theorem Gy (c:UInt8):∀ s:List UInt8,Lib.splitK [c] 0 (s.count c) s=CS c s
 | []=>rfl
 | b::r=>by
  by_cases hb:b=c
  ·subst hb;rw [Gt,<- Gy b r,List.count_cons_self];have h0:Lib.index (b::r) [b]=0:=by rw [Lib.index,if_pos (by simp [List.isPrefixOf])]
   conv=>lhs;unfold Lib.splitK
   rw [h0];rfl
  ·rw [List.count_cons_of_ne hb];obtain ⟨q,qs,h1,h2⟩:=Na hb r (r.count c);obtain ⟨q',qs',h3,h4⟩:=Fx r hb;rw [Gy c r,h3] at h1;injection h1 with e1 e2;rw [h2,h4,e1,e2]
theorem H7 (c:UInt8):∀ (x:List UInt8),(∀ b∈x,b≠c)->∀ t,CS c (x++c::t)=x::CS c t
 | [],_,t=>Gt c t
 | b::x,h,t=>by
  obtain ⟨q,qs,h1,h2⟩:=Fx (x++c::t) (h b (TO ..));rw [H7 c x (λd hd=>h d (S2 _ hd)) t] at h1;injection h1 with e1 e2;rw [List.cons_append,h2,e1,e2]
theorem H8 (c:UInt8):∀ (x:List UInt8),(∀ b∈x,b≠c)->CS c x=[x]
 | [],_=>rfl
 | b::x,h=>by
  obtain ⟨q,qs,h1,h2⟩:=Fx x (h b (TO ..));rw [H8 c x (λd hd=>h d (S2 _ hd))] at h1;injection h1 with e1 e2;rw [h2,<- e1,<- e2]
theorem Gs (c:UInt8):∀ s:List UInt8,(CS c s).length<=s.length+1
 | []=>by simp [CS]
 | b::r=>by
  have ih:=Gs c r;by_cases hb:b=c
  ·subst hb;rw [Gt,It,It];omega
  ·obtain ⟨q,qs,h1,h2⟩:=Fx r hb;rw [h2];rw [h1] at ih;simp only [It] at ih ⊢;omega
theorem FI (c:UInt8):∀ s:List UInt8,∀ p∈CS c s,p.length<=s.length
 | [],p,hp=>by
  obtain rfl:p=[]:=by simpa [CS] using hp
  simp
 | b::r,p,hp=>by
  by_cases hb:b=c
  ·subst hb;rw [Gt] at hp;rcases Wy.mp hp with rfl | hp
   ·simp
   ·have:=FI b r p hp;rw [It];omega
  ·obtain ⟨q,qs,h1,h2⟩:=Fx r hb;rw [h2] at hp;rcases Wy.mp hp with rfl | hp
   ·have:=FI c r q (by rw [h1];exact TO);simp only [It];omega
   ·have:=FI c r p (by rw [h1];exact S2 _ hp);rw [It];omega
def bytes (l:List UInt8):ByteArray:=⟨l.toArray⟩
theorem Eg (s:ByteArray):bytes s.data.toList=s:=by
 cases s;rfl
theorem A6 (l:List UInt8):(bytes l).size=l.length:=by
 show l.toArray.size=l.length;simp
theorem Dy (s:ByteArray):s.data.toList.length=s.size:=Array.length_toList
theorem Di (a b:List UInt8):bytes a++bytes b=bytes (a++b):=by
 rw [<- Eg (bytes a++bytes b),ByteArray.data_append,Array.toList_append];rfl
theorem JF (c:UInt8) (s:ByteArray) (hs:s.size<=1048577):CR.f s (⟨#[c]⟩:ByteArray)=some ((CS c s.data.toList).map bytes):=by
 unfold CR.f;rw [if_pos ⟨rfl,by omega⟩];congr 1
 have h:(Lib.splitB ⟨#[c]⟩ 0 (Lib.countB s ⟨#[c]⟩) s).map (·.data.toList)=CS c s.data.toList:=by
  rw [Lib.splitB_data];show Lib.splitK [c] 0 (Lib.count s.data.toList [c]) s.data.toList=_;rw [Lib.count_one];exact Gy c _
 rw [<- h,List.map_map]
 conv=>lhs;rw [<- List.map_id (Lib.splitB ⟨#[c]⟩ 0 (Lib.countB s ⟨#[c]⟩) s)]
 apply List.map_congr_left;intro p _;exact (Eg p).symm
end U
namespace U
def Ev {α:Type} (f:Nat->Option α) (v:α):Prop:=∃ K,∀ k,K<=k->f k=some v
theorem Ev.c {α:Type} {o:Option α} {v:α} (h:o=some v):Ev (λ_=>o) v:=⟨0,λ_ _=>h⟩
theorem Ev.of {α:Type} {f:Nat->Option α} {v:α} (K:Nat) (h:∀ k,K<=k->f k=some v):Ev f v:=⟨K,h⟩
theorem Ev.b {α β:Type} {f:Nat->Option α} {g:Nat->α->Option β} {v:α} {w:β} (h:Ev f v) (h2:Ev (λk=>g k v) w):Ev (λk=>(f k).bind (g k)) w:=by
 obtain ⟨K,h⟩:=h;obtain ⟨K2,h2⟩:=h2;exact ⟨max K K2,λk hk=>by show (f k).bind (g k)=some w;rw [h k (by omega)];exact h2 k (by omega)⟩
theorem Ev.s {α:Type} {f:Nat->Option α} {v:α} (h:Ev (λk=>f (k+1)) v):Ev f v:=by
 obtain ⟨K,h⟩:=h;refine ⟨K+1,λk hk=>?_⟩
 obtain ⟨m,rfl⟩:∃ m,k=m+1:=⟨k-1,by omega⟩
 exact h m (by omega)
theorem Ev.t {α:Type} {f g:Nat->Option α} {v:α} {c:Prop} [Decidable c] (hc:c) (h:Ev f v):Ev (λk=>if c then f k else g k) v:=by simp only [if_pos hc];exact h
theorem Ev.f {α:Type} {f g:Nat->Option α} {v:α} {c:Prop} [Decidable c] (hc:¬ c) (h:Ev g v):Ev (λk=>if c then f k else g k) v:=by simp only [if_neg hc];exact h
theorem Ev.d {α:Type} {f g:Nat->Option α} {v:α} {c:Prop} [Decidable c] (h1:c->Ev f v) (h2:¬ c->Ev g v):Ev (λk=>if c then f k else g k) v:=by
 by_cases h:c
 ·exact .t h (h1 h)
 ·exact .f h (h2 h)
theorem Ev.i {α:Type} {f g:Nat->Option α} {v w:α} {c:Prop} [Decidable c] (h1:c->Ev f v) (h2:¬ c->Ev g w):Ev (λk=>if c then f k else g k) (if c then v else w):=by
 by_cases h:c
 ·rw [if_pos h];exact .t h (h1 h)
 ·rw [if_neg h];exact .f h (h2 h)
theorem Ev.one {α:Type} {f:Nat->Option α} {v w:α} (h:Ev f v) (h2:Ev f w):v=w:=by
 obtain ⟨K,h⟩:=h;obtain ⟨K2,h2⟩:=h2;exact AS ((h (max K K2) (by omega)).symm.trans (h2 (max K K2) (by omega)))
theorem Ev.at {α:Type} {f:Nat->Option α} {v:α} (h:Ev f v):∃ k,f k=some v:=⟨_,h.choose_spec _ (Wn _)⟩
theorem Ev.r {α:Type} {f:Nat->Option α} {v w:α} (h:Ev f v) (e:v=w):Ev f w:=e▸h
theorem Ev.o {α:Type} {f g:Nat->Option α} {v:α} {c:Prop} [Decidable c] (h:Ev f v) (hc:c:=by omega):Ev (λk=>if c then f k else g k) v:=.t hc h
theorem Ev.n {α:Type} {f g:Nat->Option α} {v:α} {c:Prop} [Decidable c] (h:Ev g v) (hc:¬ c:=by omega):Ev (λk=>if c then f k else g k) v:=.f hc h

end U
namespace U
theorem I4:∀ d:Nat,d<10->strOfNums [wrap64 (48+(d:Int)) % 256]=bytes [UInt8.ofNat (48+d)]:=by decide +kernel
theorem J3 (u:Nat) (h:u<10):Lib.decDigits u=[UInt8.ofNat (48+u)]:=by rw [Lib.decDigits,dif_pos h]
theorem Mz (u:Nat) (h:¬ u<10):Lib.decDigits u=Lib.decDigits (u / 10)++[UInt8.ofNat (48+u % 10)]:=by rw [Lib.decDigits,dif_neg h]
theorem Iv:∀ (j k u:Nat),u<10 ^ (j+1)->u<=9223372036854775807->j<100->j<k->AE.f k (u:Int)=some (bytes (Lib.decDigits u))/\(Lib.decDigits u).length<=j+1:=by
 intro j
 induction j with
 | zero=>
  intro k u h1 h2 h3 h4
  obtain ⟨k,rfl⟩:∃ m,k=m+1:=⟨k-1,by omega⟩
  have hu:u<10:=by simpa using h1
  rw [AE.f,if_neg (by omega),if_neg (by omega),if_pos (by omega),I4 u hu,J3 u hu]
  exact ⟨rfl,by simp⟩
 | succ j ih=>
  intro k u h1 h2 h3 h4
  obtain ⟨k,rfl⟩:∃ m,k=m+1:=⟨k-1,by omega⟩
  rw [AE.f,if_neg (by omega),if_neg (by omega)];by_cases hu:u<10
  ·rw [if_pos (by omega),I4 u hu,J3 u hu];exact ⟨rfl,by simp⟩
  ·have e1:wrap64 (Int.tdiv (u:Int) 10)=((u / 10:Nat):Int):=by
    rw [Int.tdiv_eq_ediv_of_nonneg (by omega)];unfold wrap64;omega
   have e2:Int.tmod (u:Int) 10=((u % 10:Nat):Int):=by
    rw [Int.tmod_eq_emod_of_nonneg (by omega)];omega
   obtain ⟨i1,i2⟩:=ih k (u / 10) (by rw [Nat.pow_succ] at h1;omega) (by omega) (by omega) (by omega);rw [if_neg (by omega),e1,e2,i1];simp only [AI];rw [I4 (u % 10) (by omega),if_pos (by rw [A6,A6];simp only [It,IS];omega),Di,Mz u hu];exact ⟨rfl,by simp only [IN,It,IS];omega⟩
theorem Sv:some (⟨#[45,57,50,50,51,51,55,50,48,51,54,56,53,52,55,55,53,56,48,56]⟩:ByteArray)=some (bytes (45::Lib.decDigits (-9223372036854775808:Int).natAbs))/\(45::Lib.decDigits (-9223372036854775808:Int).natAbs).length<=20:=by decide +kernel
theorem Oy (n:Int) (h:-9223372036854775808<=n/\n<=9223372036854775807) (k:Nat) (hk:20<=k):AE.f k n=some (bytes (Lib.itoa n))/\(Lib.itoa n).length<=20:=by
 obtain ⟨k,rfl⟩:∃ m,k=m+1:=⟨k-1,by omega⟩
 unfold Lib.itoa;by_cases hn:n<0
 ·by_cases hm:n < -9223372036854775807
  ·obtain rfl:n = -9223372036854775808:=by omega
   rw [if_pos hn];rw [AE.f,if_pos hm];exact Sv
  obtain ⟨i1,i2⟩:=Iv 18 k n.natAbs (by omega) (by omega) (by omega) (by omega);rw [AE.f,if_neg hm,if_pos hn,if_pos hn,show wrap64 (-n)=(n.natAbs:Int) by unfold wrap64;omega,i1];simp only [AI];rw [if_pos (by rw [A6];omega),show (⟨#[45]⟩:ByteArray)=bytes [45] from rfl,Di];exact ⟨rfl,by simp only [It];omega⟩
 ·obtain ⟨i1,i2⟩:=Iv 18 (k+1) n.toNat (by omega) (by omega) (by omega) (by omega);rw [Int.toNat_of_nonneg (by omega)] at i1;rw [if_neg hn];exact ⟨i1,by omega⟩
theorem AE.mono_l:∀ k,(∀ y0,LeO (AE.f k y0) (AE.f (k+1) y0))
 | 0=>λ_ r h=>by simp [AE.f] at h
 | k+1=>by
  have ih0:=AE.mono_l k
  ·intro y0;unfold AE.f
   repeat' first
   | (with_reducible exact ih0 _)
   | (with_reducible exact LeO.refl _)
   | (with_reducible exact LeO.none _)
   | (with_reducible refine LeO.ite ?_ ?_)
   | (with_reducible refine LeO.bind ?_ (λ_=>?_))
   | exact ih0 _
   | exact LeO.none _
   | refine LeO.ite ?_ ?_
   | refine LeO.bind ?_ (λ_=>?_)
theorem AE.mono:∀ a0 k,LeO (AE.f k a0) (AE.f (k+1) a0):=by
 intro a0 k;have ih0:=AE.mono_l k;exact ih0 a0
def AE.T7:Bool×List (List Nat×List Nat):=(true,[([],[]),([0],[0]),([1],[1]),([],[]),([3],[3]),([4],[4]),([5],[5]),([6],[6]),([7],[7]),([2,8],[2,8]),([9,2,0,1,2,3,4,5,6,7,8,9],[9])])
def AE.B7:List Nat:=[0,1,3,0,8,24,56,120,248,511,1023]
theorem AE.tab7:rtab .any (opsOf Tryz.f24 7)=AE.T7:=by kernel_rfl
theorem AE.bits7:F3 AE.T7.2 AE.B7=true:=by kernel_rfl
theorem AE.calls (k:Nat):∀ (a0:Int) (r:ByteArray) (w:World) (h:AE.f k a0=some r),
  Calls Tryz.prog 24 #[.int .i64 a0] w λe w'=>e=.returned (.string r)/\Below w.heap.size w w':=by
 induction k using Nat.strongRecOn with
 | _ k ih=>
 intro a0 r w h
 cases k with
 | zero=>exact absurd h (by simp [AE.f])
 | succ k=>
 simp only [AE.f] at h;have HB:=Aa.mk (WG w.heap.size w);have H:(if a0<(-9223372036854775807) then (some (⟨#[45,57,50,50,51,51,55,50,48,51,54,56,53,52,55,55,53,56,48,56]⟩:ByteArray)) else (if a0<0 then ((AE.f k (wrap64 (-a0))).bind λt534=>(if 1+t534.size<=9223372036854775807 then (some ((⟨#[45]⟩:ByteArray)++t534)) else (none))) else (if a0<10 then (some (strOfNums (([(wrap64 (48+a0)) % 256]:List Int)))) else ((AE.f k (wrap64 (Int.tdiv a0 10))).bind λt538=>((some (([(wrap64 (48+(Int.tmod a0 10))) % 256]:List Int):List Int)).bind λy539=>(if t538.size+(strOfNums y539).size<=9223372036854775807 then (some (t538++(strOfNums y539))) else (none)))))))=some r:=h;clear h;by_cases c2:a0<(-9223372036854775807)
 ·rw [if_pos c2] at H;have c2b0:decide (a0<(-9223372036854775807))=true:=Wo c2;clear c2;obtain rfl:=AS H;go_enter Tryz.func24,Tryz.ntmps24;go_wp2;go_ret;exact ⟨by first | rfl | (simp [Fc,Fd]<;>rfl) | (simp [*,Fc,Fd]<;>rfl) | (exfalso;simp_all;done),by repeat (first | (with_reducible first | exact HB.out | apply Ad | apply Ac | apply Ae) | exact HB.out)⟩
 ·rw [if_neg c2] at H;have c2b0:decide (a0<(-9223372036854775807))=false:=Wp c2;clear c2;by_cases c3:a0<0
  ·rw [if_pos c3] at H;have c3b0:decide (a0<0)=true:=Wo c3;clear c3;replace H:=By.mp H;obtain ⟨t534,A40,H⟩:=H;replace H:(if 1+t534.size<=9223372036854775807 then (some ((⟨#[45]⟩:ByteArray)++t534)) else (none))=some r:=H;have A4:=Aa.mk A40;clear A40;by_cases c5:1+t534.size<=9223372036854775807
   ·rw [if_pos c5] at H;have c5b0:=eq_true c5;have c5b1:decide (1+t534.size<=9223372036854775807)=true:=Wo c5
    try have c5b2:(9223372036854775807<1+t534.size)=False:=eq_false (Nat.not_lt.2 c5)
    try (have c5b9:=c5;simp only [ByteArray.size_append] at c5b9;have c5b8:=eq_false (Nat.not_lt.2 c5b9))
    obtain rfl:=AS H;go_enter Tryz.func24,Tryz.ntmps24
    go_wp2_with (first | ((with_reducible refine Dz (f:=24) rfl ?_);refine FA (some 9) rfl rfl Tryz.func24 (by kernel_rfl) rfl #[.int .i64 (wrap64 (-a0))] rfl (by (try simp only [List.map_toArray,Wz,List.map_nil]);first | done | rfl | (simp only [No,IT];rfl)) ?_;(with_reducible refine (ih k (by omega) (wrap64 (-a0)) t534 _ A4.out).mono ?_);rintro e w6 ⟨rfl,hb⟩;refine ⟨_,rfl,?_⟩;have n0_:=Aa.mk (Bt (by repeat (first | (with_reducible first | exact HB.out | apply Ad | apply Ac | apply Ae) | exact HB.out)) hb);clear HB;have HB:=n0_;clear n0_;(try clear hb);(try clear hb2);(try clear hk);(try clear hi)))
    go_ret;exact ⟨by first | rfl | (simp [Fc,Fd]<;>rfl) | (simp [*,Fc,Fd]<;>rfl) | (exfalso;simp_all;done),by repeat (first | (with_reducible first | exact HB.out | apply Ad | apply Ac | apply Ae) | exact HB.out)⟩
   ·rw [if_neg c5] at H;exact absurd H (by simp)
  ·rw [if_neg c3] at H;have c3b0:decide (a0<0)=false:=Wp c3;clear c3;by_cases c7:a0<10
   ·rw [if_pos c7] at H;have c7b0:decide (a0<10)=true:=Wo c7;clear c7
    obtain ⟨y535,hy535⟩:∃ y_:List Int,y_=(([(wrap64 (48+a0)) % 256]:List Int)):=⟨_,rfl⟩
    replace H:(some (strOfNums y535))=some r:=by first | (rw [hy535];with_reducible exact H) | (have H2_:=(AI _ _).symm.trans H;rw [hy535];with_reducible exact H2_) | (have H2_:=(AI _ _).symm.trans H;with_reducible exact H2_) | with_reducible exact H | (rw [hy535];exact H) | exact H
    have Ny535:=Aa.mk hy535;clear hy535;obtain rfl:=AS H;go_enter Tryz.func24,Tryz.ntmps24
    go_wp2_with (first | ((with_reducible refine Er (N:=16) rfl ?_);refine Kd.R_lit (Kd.int .u8) _ 5 ?hg (N:=16) ?hd (xs:=([(wrap64 (48+a0)) % 256]:List Int)) (inner:=[.int .u8 ((wrap64 (48+a0)) % 256)]) (ok:=λ_=>True) (okp:=λ_=>True) ?hr ?hp (λ_ hk=>hk) trivial (WG _ _) (Wn _) (by simp) ?_;(case hd=>rfl);(case hg=>rfl);(case hr=>first | (go_simp;done) | (go_simp;rfl));(case hp=>exact (Reps.one (show Kd.M (Kd.int .u8) _ _ _ ((wrap64 (48+a0)) % 256) [.int .u8 ((wrap64 (48+a0)) % 256)] from rfl) (Reps.none _ _)));intro v536 w8 ho9 hb hg_ hnew_;clear hg_ hnew_;(first | rw [<- Ny535.out] at ho9 | (simp only [Int.reduceToNat] at ho9;rw [<- Ny535.out] at ho9));have n0_:=Aa.mk (Kd.R_lower ho9 (CO (by repeat (first | (with_reducible first | exact HB.out | apply Ad | apply Ac | apply Ae) | exact HB.out))));have n1_:=Aa.mk (Bt (by repeat (first | (with_reducible first | exact HB.out | apply Ad | apply Ac | apply Ae) | exact HB.out)) hb);clear HB;have HO537:=n0_;have HB:=n1_;clear n0_ n1_;clear hb ho9;have hcv10:=FU (P:=Tryz.prog) Tryz.underlying22 Tryz.underlying5 Tryz.underlying9 (Kd.own_of_R HO537.out)))
    go_ret;exact ⟨by first | rfl | (simp [Fc,Fd]<;>rfl) | (simp [*,Fc,Fd]<;>rfl) | (exfalso;simp_all;done),by repeat (first | (with_reducible first | exact HB.out | apply Ad | apply Ac | apply Ae) | exact HB.out)⟩
   ·rw [if_neg c7] at H;have c7b0:decide (a0<10)=false:=Wp c7;clear c7;replace H:=By.mp H;obtain ⟨t538,A110,H⟩:=H;replace H:((some (([(wrap64 (48+(Int.tmod a0 10))) % 256]:List Int):List Int)).bind λy539=>(if t538.size+(strOfNums y539).size<=9223372036854775807 then (some (t538++(strOfNums y539))) else (none)))=some r:=H;have A11:=Aa.mk A110;clear A110
    obtain ⟨y539,hy539⟩:∃ y_:List Int,y_=(([(wrap64 (48+(Int.tmod a0 10))) % 256]:List Int)):=⟨_,rfl⟩
    replace H:(if t538.size+(strOfNums y539).size<=9223372036854775807 then (some (t538++(strOfNums y539))) else (none))=some r:=by first | (rw [hy539];with_reducible exact H) | (have H2_:=(AI _ _).symm.trans H;rw [hy539];with_reducible exact H2_) | (have H2_:=(AI _ _).symm.trans H;with_reducible exact H2_) | with_reducible exact H | (rw [hy539];exact H) | exact H
    have Ny539:=Aa.mk hy539;clear hy539;by_cases c12:t538.size+(strOfNums y539).size<=9223372036854775807
    ·rw [if_pos c12] at H;have c12b0:=eq_true c12;have c12b1:decide (t538.size+(strOfNums y539).size<=9223372036854775807)=true:=Wo c12
     try have c12b2:(9223372036854775807<t538.size+(strOfNums y539).size)=False:=eq_false (Nat.not_lt.2 c12)
     try (have c12b9:=c12;simp only [ByteArray.size_append] at c12b9;have c12b8:=eq_false (Nat.not_lt.2 c12b9))
     obtain rfl:=AS H;go_enter Tryz.func24,Tryz.ntmps24
     try go_wp2
     have n0_:=Aa.mk (Ae HB.out);clear HB;have HB:=n0_;clear n0_;refine UL (n:=11) (S:=λw'=>True) (ds:=[]) #[false,false,false,false,false,false,false,false,false,false,false] (by kernel_rfl) rfl rfl trivial (λhHeld=>?_);refine P7 AE.tab7 AE.bits7 (λHT_ HW_=>?_);generalize w.drew=w13 at HB hHeld ⊢;refine JB (i:=0) (N:=some 18) (v:=?_) (a':=?_) #[true,false,false,false,false,false,false,false,false,false,false] rfl rfl (GG HT_.out (by kernel_rfl)) (λ_ _ _ h=>h) (Or.inl ⟨by rfl,?_⟩) ?_ ?_
     rotate_left
     ·intro w';go_simp
      with_reducible rfl
     rotate_left
     ·simp only [Act.put,List.setIfInBounds_toArray,List.set_cons_zero,List.set_cons_succ,C9,FD];rfl
     refine JB (i:=1) (N:=some 19) (v:=?_) (a':=?_) #[true,true,false,false,false,false,false,false,false,false,false] rfl rfl (GG HT_.out (by kernel_rfl)) (λ_ _ _ h=>h) (Or.inl ⟨by rfl,?_⟩) ?_ ?_
     rotate_left
     ·intro w';go_simp
      with_reducible rfl
     rotate_left
     ·simp only [Act.put,List.setIfInBounds_toArray,List.set_cons_zero,List.set_cons_succ,C9,FD];rfl
     refine JB (i:=3) (N:=some 21) (v:=?_) (a':=?_) #[true,true,false,true,false,false,false,false,false,false,false] rfl rfl (GG HT_.out (by kernel_rfl)) (λ_ _ _ h=>h) (Or.inl ⟨by rfl,?_⟩) ?_ ?_
     rotate_left
     ·intro w';go_simp
      with_reducible rfl
     rotate_left
     ·simp only [Act.put,List.setIfInBounds_toArray,List.set_cons_zero,List.set_cons_succ,C9,FD];rfl
     refine JB (i:=4) (N:=some 22) (v:=?_) (a':=?_) #[true,true,false,true,true,false,false,false,false,false,false] rfl rfl (GG HT_.out (by kernel_rfl)) (λ_ _ _ h=>h) (Or.inl ⟨by rfl,?_⟩) ?_ ?_
     rotate_left
     ·intro w';go_simp
      with_reducible rfl
     rotate_left
     ·simp only [Act.put,List.setIfInBounds_toArray,List.set_cons_zero,List.set_cons_succ,C9,FD];rfl
     refine JB (i:=5) (N:=some 23) (v:=?_) (a':=?_) #[true,true,false,true,true,true,false,false,false,false,false] rfl rfl (GG HT_.out (by kernel_rfl)) (λ_ _ _ h=>h) (Or.inl ⟨by rfl,?_⟩) ?_ ?_
     rotate_left
     ·intro w';go_simp
      with_reducible rfl
     rotate_left
     ·simp only [Act.put,List.setIfInBounds_toArray,List.set_cons_zero,List.set_cons_succ,C9,FD];rfl
     refine JB (i:=6) (N:=some 24) (v:=?_) (a':=?_) #[true,true,false,true,true,true,true,false,false,false,false] rfl rfl (GG HT_.out (by kernel_rfl)) (λ_ _ _ h=>h) (Or.inl ⟨by rfl,?_⟩) ?_ ?_
     rotate_left
     ·intro w';go_simp
      with_reducible rfl
     rotate_left
     ·simp only [Act.put,List.setIfInBounds_toArray,List.set_cons_zero,List.set_cons_succ,C9,FD];rfl
     refine Vu (σ:=Value) 2 #[true,true,true,true,true,true,true,true,true,false,false] (λs_=>[(20,.string t538),(25,s_),(26,.string (strOfNums y539))]) (λs_ w'=>(Kd.R (Kd.int .u8) 5 w' w.heap.size (λ_=>True) s_ y539)/\(Below w.heap.size w w')) ?_ ?_
     rotate_left
     ·intro hCont;refine VV (i:=2) (j:=7) (Ni:=some 20) (Nj:=some 25) #[true,true,true,true,true,true,true,false,false,false,false] #[true,true,false,true,true,true,true,true,false,false,false] rfl rfl rfl rfl (RE HT_.out (by kernel_rfl)) (by decide) (by decide) (λK hK=>?_) (λK hK=>?_)
      ·skip
       refine QT Tryz.func24 (by kernel_rfl) rfl #[.int .i64 (wrap64 (Int.tdiv a0 10))] (by rfl) rfl rfl (by (try simp only [List.map_toArray,Wz,List.map_nil]);first | done | rfl | (simp only [No,IT];rfl)) ?_
       with_reducible refine (ih k (by omega) (wrap64 (Int.tdiv a0 10)) t538 _ A11.out).mono ?_
       rintro e w14 ⟨rfl,hb⟩;refine ⟨_,rfl,?_⟩;have n0_:=Aa.mk (Bt (by repeat (first | (with_reducible first | exact HB.out | apply Ad | apply Ac | apply Ae) | exact HB.out)) hb);clear HB;have HB:=n0_;clear n0_
       (try clear hb)
       (try clear hb2)
       (try clear hk)
       (try clear hi)
       refine hK.out _ _ trivial (λhHeld=>?_);clear hK K;refine GD (a':=?_) ?_ ?_
       rotate_left
       ·show Act.put _ (some 20) _=_;simp only [Act.put,List.setIfInBounds_toArray,List.set_cons_zero,List.set_cons_succ,C9,FD];rfl
       refine Tc (i:=7) (N:=some 25) #[true,true,true,true,true,true,true,true,false,false,false] rfl rfl (LW HT_.out (by kernel_rfl)) (by decide) (λK hK=>?_);refine Kd.R_lit_step (Kd.int .u8) _ 5 ?hg (N:=25) ?hd (xs:=([(wrap64 (48+(Int.tmod a0 10))) % 256]:List Int)) (inner:=[.int .u8 ((wrap64 (48+(Int.tmod a0 10))) % 256)]) (ok:=λ_=>True) (okp:=λ_=>True) ?hr ?hp (λ_ hk=>hk) trivial (WG _ _) (Wn _) (by simp) ?_;(case hd=>rfl);(case hg=>rfl);(case hr=>first | (go_simp;done) | (go_simp;rfl));(case hp=>exact (Reps.one (show Kd.M (Kd.int .u8) _ _ _ ((wrap64 (48+(Int.tmod a0 10))) % 256) [.int .u8 ((wrap64 (48+(Int.tmod a0 10))) % 256)] from rfl) (Reps.none _ _)));intro v540 w15 ho16 hb hg_ hnew_;clear hg_ hnew_
       (first | rw [<- Ny539.out] at ho16 | (simp only [Int.reduceToNat] at ho16;rw [<- Ny539.out] at ho16))
       have n0_:=Aa.mk (Kd.R_lower ho16 (CO (by repeat (first | (with_reducible first | exact HB.out | apply Ad | apply Ac | apply Ae) | exact HB.out))));have n1_:=Aa.mk (Bt (by repeat (first | (with_reducible first | exact HB.out | apply Ad | apply Ac | apply Ae) | exact HB.out)) hb);clear HB;have HO541:=n0_;have HB:=n1_;clear n0_ n1_;clear hb ho16;refine hK.out _ _ trivial (λhHeld=>?_);clear hK K;refine GD (a':=?_) ?_ ?_
       rotate_left
       ·show Act.put _ (some 25) _=_;simp only [Act.put,List.setIfInBounds_toArray,List.set_cons_zero,List.set_cons_succ,C9,FD];rfl
       refine Tc (i:=8) (N:=some 26) #[true,true,true,true,true,true,true,true,true,false,false] rfl rfl (LW HT_.out (by kernel_rfl)) (by decide) (λK hK=>?_);have hcv17:=FU (P:=Tryz.prog) Tryz.underlying22 Tryz.underlying5 Tryz.underlying9 (Kd.own_of_R HO541.out);refine On (w1:=?_) (v:=?_) (by rfl) rfl ?_ ?_
       rotate_left 2
       ·go_simp;constructor
        ·rfl
        ·rfl
       clear hcv17;refine hK.out _ _ trivial (λhHeld=>?_);clear hK K;refine GD (a':=?_) ?_ ?_
       rotate_left
       ·show Act.put _ (some 26) _=_;simp only [Act.put,List.setIfInBounds_toArray,List.set_cons_zero,List.set_cons_succ,C9,FD];rfl
       exact GD (by simp only [H9,Act.put,List.setIfInBounds_toArray,List.set_cons_zero,List.set_cons_succ]) (hCont (v540) _ ⟨(by (with_reducible repeat (first | apply Kd.R_alloc | apply Kd.R_drewN | apply Kd.R_drew));exact HO541.out),(by repeat (first | (with_reducible first | exact HB.out | apply Ad | apply Ac | apply Ae) | exact HB.out))⟩)
      ·skip
       refine Kd.R_lit_step (Kd.int .u8) _ 5 ?hg (N:=25) ?hd (xs:=([(wrap64 (48+(Int.tmod a0 10))) % 256]:List Int)) (inner:=[.int .u8 ((wrap64 (48+(Int.tmod a0 10))) % 256)]) (ok:=λ_=>True) (okp:=λ_=>True) ?hr ?hp (λ_ hk=>hk) trivial (WG _ _) (Wn _) (by simp) ?_;(case hd=>rfl);(case hg=>rfl);(case hr=>first | (go_simp;done) | (go_simp;rfl));(case hp=>exact (Reps.one (show Kd.M (Kd.int .u8) _ _ _ ((wrap64 (48+(Int.tmod a0 10))) % 256) [.int .u8 ((wrap64 (48+(Int.tmod a0 10))) % 256)] from rfl) (Reps.none _ _)));intro v540 w14 ho15 hb hg_ hnew_;clear hg_ hnew_
       (first | rw [<- Ny539.out] at ho15 | (simp only [Int.reduceToNat] at ho15;rw [<- Ny539.out] at ho15))
       have n0_:=Aa.mk (Kd.R_lower ho15 (CO (by repeat (first | (with_reducible first | exact HB.out | apply Ad | apply Ac | apply Ae) | exact HB.out))));have n1_:=Aa.mk (Bt (by repeat (first | (with_reducible first | exact HB.out | apply Ad | apply Ac | apply Ae) | exact HB.out)) hb);clear HB;have HO541:=n0_;have HB:=n1_;clear n0_ n1_;clear hb ho15;refine hK.out _ _ trivial (λhHeld=>?_);clear hK K;refine GD (a':=?_) ?_ ?_
       rotate_left
       ·show Act.put _ (some 25) _=_;simp only [Act.put,List.setIfInBounds_toArray,List.set_cons_zero,List.set_cons_succ,C9,FD];rfl
       refine VV (i:=2) (j:=8) (Ni:=some 20) (Nj:=some 26) #[true,true,true,true,true,true,true,true,false,false,false] #[true,true,false,true,true,true,true,true,true,false,false] rfl rfl rfl rfl (RE HT_.out (by kernel_rfl)) (by decide) (by decide) (λK hK=>?_) (λK hK=>?_)
       ·skip
        refine QT Tryz.func24 (by kernel_rfl) rfl #[.int .i64 (wrap64 (Int.tdiv a0 10))] (by rfl) rfl rfl (by (try simp only [List.map_toArray,Wz,List.map_nil]);first | done | rfl | (simp only [No,IT];rfl)) ?_
        with_reducible refine (ih k (by omega) (wrap64 (Int.tdiv a0 10)) t538 _ A11.out).mono ?_
        rintro e w16 ⟨rfl,hb⟩;refine ⟨_,rfl,?_⟩;have n0_:=Aa.mk (Kd.R_below (by (with_reducible repeat (first | apply Kd.R_alloc | apply Kd.R_drewN | apply Kd.R_drew));exact HO541.out) hb);have n1_:=Aa.mk (Bt (by repeat (first | (with_reducible first | exact HB.out | apply Ad | apply Ac | apply Ae) | exact HB.out)) hb);clear HO541;clear HB;have HO541:=n0_;have HB:=n1_;clear n0_ n1_
        (try clear hb)
        (try clear hb2)
        (try clear hk)
        (try clear hi)
        refine hK.out _ _ trivial (λhHeld=>?_);clear hK K;refine GD (a':=?_) ?_ ?_
        rotate_left
        ·show Act.put _ (some 20) _=_;simp only [Act.put,List.setIfInBounds_toArray,List.set_cons_zero,List.set_cons_succ,C9,FD];rfl
        refine Tc (i:=8) (N:=some 26) #[true,true,true,true,true,true,true,true,true,false,false] rfl rfl (LW HT_.out (by kernel_rfl)) (by decide) (λK hK=>?_);have hcv17:=FU (P:=Tryz.prog) Tryz.underlying22 Tryz.underlying5 Tryz.underlying9 (Kd.own_of_R HO541.out);refine On (w1:=?_) (v:=?_) (by rfl) rfl ?_ ?_
        rotate_left 2
        ·go_simp;constructor
         ·rfl
         ·rfl
        clear hcv17;refine hK.out _ _ trivial (λhHeld=>?_);clear hK K;refine GD (a':=?_) ?_ ?_
        rotate_left
        ·show Act.put _ (some 26) _=_;simp only [Act.put,List.setIfInBounds_toArray,List.set_cons_zero,List.set_cons_succ,C9,FD];rfl
        exact GD (by simp only [H9,Act.put,List.setIfInBounds_toArray,List.set_cons_zero,List.set_cons_succ]) (hCont (v540) _ ⟨(by (with_reducible repeat (first | apply Kd.R_alloc | apply Kd.R_drewN | apply Kd.R_drew));exact HO541.out),(by repeat (first | (with_reducible first | exact HB.out | apply Ad | apply Ac | apply Ae) | exact HB.out))⟩)
       ·skip
        have hcv16:=FU (P:=Tryz.prog) Tryz.underlying22 Tryz.underlying5 Tryz.underlying9 (Kd.own_of_R HO541.out);refine On (w1:=?_) (v:=?_) (by rfl) rfl ?_ ?_
        rotate_left 2
        ·go_simp;constructor
         ·rfl
         ·rfl
        clear hcv16;refine hK.out _ _ trivial (λhHeld=>?_);clear hK K;refine GD (a':=?_) ?_ ?_
        rotate_left
        ·show Act.put _ (some 26) _=_;simp only [Act.put,List.setIfInBounds_toArray,List.set_cons_zero,List.set_cons_succ,C9,FD];rfl
        refine Tc (i:=2) (N:=some 20) #[true,true,true,true,true,true,true,true,true,false,false] rfl rfl (LW HT_.out (by kernel_rfl)) (by decide) (λK hK=>?_);refine QT Tryz.func24 (by kernel_rfl) rfl #[.int .i64 (wrap64 (Int.tdiv a0 10))] (by rfl) rfl rfl (by (try simp only [List.map_toArray,Wz,List.map_nil]);first | done | rfl | (simp only [No,IT];rfl)) ?_
        with_reducible refine (ih k (by omega) (wrap64 (Int.tdiv a0 10)) t538 _ A11.out).mono ?_
        rintro e w17 ⟨rfl,hb⟩;refine ⟨_,rfl,?_⟩;have n0_:=Aa.mk (Kd.R_below (by (with_reducible repeat (first | apply Kd.R_alloc | apply Kd.R_drewN | apply Kd.R_drew));exact HO541.out) hb);have n1_:=Aa.mk (Bt (by repeat (first | (with_reducible first | exact HB.out | apply Ad | apply Ac | apply Ae) | exact HB.out)) hb);clear HO541;clear HB;have HO541:=n0_;have HB:=n1_;clear n0_ n1_
        (try clear hb)
        (try clear hb2)
        (try clear hk)
        (try clear hi)
        refine hK.out _ _ trivial (λhHeld=>?_);clear hK K;refine GD (a':=?_) ?_ ?_
        rotate_left
        ·show Act.put _ (some 20) _=_;simp only [Act.put,List.setIfInBounds_toArray,List.set_cons_zero,List.set_cons_succ,C9,FD];rfl
        exact GD (by simp only [H9,Act.put,List.setIfInBounds_toArray,List.set_cons_zero,List.set_cons_succ]) (hCont (v540) _ ⟨(by (with_reducible repeat (first | apply Kd.R_alloc | apply Kd.R_drewN | apply Kd.R_drew));exact HO541.out),(by repeat (first | (with_reducible first | exact HB.out | apply Ad | apply Ac | apply Ae) | exact HB.out))⟩)
     rintro v540 w18 ⟨h0_,h1_⟩
     have n0_:Aa (Kd.R (Kd.int .u8) 5 w18 w.heap.size (λ_=>True) v540 y539):=⟨h0_⟩
     have n1_:Aa (Below w.heap.size w w18):=⟨h1_⟩
     clear HB;clear h0_ h1_;have HO541:=n0_;have HB:=n1_;clear n0_ n1_;have hHeld:=trivial;refine GD (a':=?_) ?_ ?_
     rotate_left
     ·simp only [H9,Act.put,List.setIfInBounds_toArray,List.set_cons_zero,List.set_cons_succ];rfl
     refine JB (i:=9) (N:=some 27) (v:=?_) (a':=?_) #[true,true,true,true,true,true,true,true,true,true,false] rfl rfl (GG HT_.out (by kernel_rfl)) (λ_ _ _ h=>h) (Or.inl ⟨by rfl,?_⟩) ?_ ?_
     rotate_left
     ·intro w';go_simp
      with_reducible rfl
     rotate_left
     ·simp only [Act.put,List.setIfInBounds_toArray,List.set_cons_zero,List.set_cons_succ,C9,FD];rfl
     refine JB (i:=10) (N:=some 2) (v:=?_) (a':=?_) #[true,true,true,true,true,true,true,true,true,true,true] rfl rfl (GG HT_.out (by kernel_rfl)) (λ_ _ _ h=>h) (Or.inl ⟨by rfl,?_⟩) ?_ ?_
     rotate_left
     ·intro w';go_simp
      with_reducible rfl
     rotate_left
     ·simp only [Act.put,List.setIfInBounds_toArray,List.set_cons_zero,List.set_cons_succ,C9,FD];rfl
     refine Vq (Sw HT_.out (by kernel_rfl)) ?_
     try go_wp2
     go_ret;exact ⟨by first | rfl | (simp [Fc,Fd]<;>rfl) | (simp [*,Fc,Fd]<;>rfl) | (exfalso;simp_all;done),by repeat (first | (with_reducible first | exact HB.out | apply Ad | apply Ac | apply Ae) | exact HB.out)⟩
    ·rw [if_neg c12] at H;exact absurd H (by simp)

end U
namespace U
inductive T where
 | leaf (c:Nat)
 | one (c:Nat) (t:T)
 | two (a b:T)
def Bv (c:Nat):Prop:=c=101\/c=110\/c=119\/c=115
instance (c:Nat):Decidable (Bv c):=by unfold Bv;infer_instance
def Dh (c:Nat):Prop:=c=45\/c=64\/(50<=c/\c<=57)
instance (c:Nat):Decidable (Dh c):=by unfold Dh;infer_instance
theorem MS {c:Nat} (h:Bv c):¬ Dh c:=by unfold Bv at h;unfold Dh;omega
def T.ok:T->Prop
 | .leaf c=>Bv c
 | .one c t=>Dh c/\t.ok
 | .two a b=>a.ok/\b.ok
def T.text:T->List Nat
 | .leaf c=>[c]
 | .one c t=>c::t.text
 | .two a b=>40::(a.text++43::(b.text++[41]))
def rdT:Nat->List Nat->Option (T×List Nat)
 | 0,_=>none
 | _+1,[]=>none
 | k+1,c::l=>
  if Bv c then some (.leaf c,l)
  else if Dh c then (rdT k l).bind λp=>some (.one c p.1,p.2)
  else if c=40 then
   (rdT k l).bind λp=>
    if p.2.head?=some 43 then
     (rdT k p.2.tail).bind λq=>if q.2.head?=some 41 then some (.two p.1 q.1,q.2.tail) else none
    else none
  else none
theorem T.text_pos (t:T):0<t.text.length:=by cases t<;>simp [T.text]
theorem T.text_two (a b:T):(T.two a b).text.length=a.text.length+b.text.length+3:=by simp [T.text];omega
theorem I7 {l:List Nat} {c:Nat} (h:l.head?=some c):l=c::l.tail:=by
 cases l with
 | nil=>simp at h
 | cons x r=>simp at h;rw [h];rfl
theorem M1:∀ (k:Nat) (l:List Nat) (t:T) (r:List Nat),rdT k l=some (t,r)->t.ok/\l=t.text++r:=by
 intro k
 induction k with
 | zero=>intro l t r h;simp [rdT] at h
 | succ k ih=>
  intro l t r h
  cases l with
  | nil=>simp [rdT] at h
  | cons c l=>
   simp only [rdT] at h;split at h
   ·next hc=>simp only [AT,If] at h;obtain ⟨rfl,rfl⟩:=h;exact ⟨hc,rfl⟩
   ·split at h
    ·next hc=>
     obtain ⟨⟨t1,r1⟩,h1,h2⟩:=By.mp h;simp only [AT,If] at h2;obtain ⟨rfl,rfl⟩:=h2;have:=ih _ _ _ h1;exact ⟨⟨hc,this.1⟩,by rw [this.2];rfl⟩
    ·split at h
     ·next hc=>
      obtain ⟨⟨t1,r1⟩,h1,h2⟩:=By.mp h;split at h2
      ·next hp=>
       obtain ⟨⟨t2,r2⟩,h3,h4⟩:=By.mp h2;split at h4
       ·next hq=>
        simp only [AT,If] at h4;obtain ⟨rfl,rfl⟩:=h4;have i1:=ih _ _ _ h1;have i2:=ih _ _ _ h3;have e1:=I7 hp;have e2:=I7 hq;refine ⟨⟨i1.1,i2.1⟩,?_⟩;simp only at e1 e2 i1 i2;rw [hc,i1.2,e1,i2.2,e2];simp [T.text]
       ·simp at h4
      ·simp at h2
     ·simp at h
theorem Tf:∀ (t:T) (k:Nat) (r:List Nat),t.ok->t.text.length<k->rdT k (t.text++r)=some (t,r):=by
 intro t
 induction t with
 | leaf c=>
  intro k r ho hk
  obtain ⟨k,rfl⟩:∃ m,k=m+1:=⟨k-1,by omega⟩
  simp only [T.text,List.cons_append,Ws,rdT]
  rw [if_pos (show Bv c from ho)]
 | one c t ih=>
  intro k r ho hk
  obtain ⟨k,rfl⟩:∃ m,k=m+1:=⟨k-1,by omega⟩
  simp only [T.text,It] at hk;simp only [T.text,List.cons_append,rdT];rw [if_neg (λh=>MS h ho.1),if_pos ho.1,ih k r ho.2 (by omega)]
  rfl
 | two a b iha ihb=>
  intro k r ho hk
  obtain ⟨k,rfl⟩:∃ m,k=m+1:=⟨k-1,by omega⟩
  simp only [T.text,It,IN,IS] at hk;simp only [T.text,List.cons_append,Wr,Ws,rdT];rw [if_neg (show ¬ Bv 40 by decide),if_neg (show ¬ Dh 40 by decide)];simp only [if_true];rw [iha k _ ho.1 (by omega)];simp only [AI,List.head?_cons,if_true,List.tail_cons];rw [ihb k _ ho.2 (by omega)];simp
theorem UB {k:Nat} {l:List Nat} {t:T} {r:List Nat} (h:rdT k l=some (t,r)):r.length<l.length:=by
 have:=M1 k l t r h;have hp:=t.text_pos;rw [this.2];simp;omega
def E8 (l:List Nat):Option T:=(rdT (l.length+1) l).bind λp=>if p.2=[] then some p.1 else none
theorem MM {t:T} (h:t.ok):E8 t.text=some t:=by
 unfold E8;have:=Tf t (t.text.length+1) [] h (by omega);rw [List.append_nil] at this;rw [this];rfl
theorem F0 {l:List Nat} {t:T}:E8 l=some t↔t.ok/\l=t.text:=by
 constructor
 ·intro h;unfold E8 at h;obtain ⟨⟨t1,r1⟩,h1,h2⟩:=By.mp h;split at h2
  ·next hr=>
   injection h2 with h2;simp only at hr h2;subst hr h2;have:=M1 _ _ _ _ h1
   rwa [List.append_nil] at this
  ·simp at h2
 ·rintro ⟨h,rfl⟩;exact MM h
def nats (s:ByteArray):List Nat:=s.data.toList.map UInt8.toNat
theorem BU (s:ByteArray):(nats s).length=s.size:=by simp [nats]
theorem Ha (s:ByteArray) (i:Nat) (h:i<s.size):(nats s)[i]?=some (bt s (i:Int)).toNat:=by
 unfold nats bt;rw [dif_pos (by simpa using h)];simp only [List.getElem?_map,Rr];have hl:i<s.data.toList.length:=by simpa using h
 rw [WH hl];rfl
theorem ID (s:ByteArray):nats (s.extract 1 s.size)=(nats s).tail:=by
 unfold nats;rw [Lib.extract_data]
 have:(s.data.toList.drop 1).take (s.size-1)=s.data.toList.drop 1:=by
  apply List.take_of_length_le;simp
 rw [this];simp

end U
namespace U
theorem Ee (a b:ByteArray):nats (a++b)=nats a++nats b:=by
 unfold nats;rw [ByteArray.data_append,Array.toList_append,List.map_append]

end U
namespace U
def toS:T->S150
 | .leaf c=>⟨c,[]⟩
 | .one c t=>⟨c,[toS t]⟩
 | .two a b=>⟨43,[toS a,toS b]⟩
def toI:T->S96
 | .leaf c=>⟨c,[]⟩
 | .one c t=>⟨c,[toI t]⟩
 | .two a b=>⟨40,[toI a,toI b]⟩
theorem etaS (x:S150):(⟨x.f0,x.f1⟩:S150)=x:=by cases x;rfl
theorem etaI (x:S96):(⟨x.f0,x.f1⟩:S96)=x:=by cases x;rfl
theorem Fp (s:ByteArray) (i:Int):0<=bt s i:=(Mu s i).1
def An.g (s:ByteArray):Nat->Int->Int×List S150×Int
 | 0,_=>(110,[],0)
 | k+1,p=>
  if p<(s.size:Int) then
   if bt s p=110\/bt s p=101\/bt s p=115\/bt s p=119 then (bt s p,[],p+1)
   else if bt s p=45\/bt s p=64\/(50<=bt s p/\bt s p<=57) then
    (bt s p,[⟨(An.g s k (p+1)).1,(An.g s k (p+1)).2.1⟩],(An.g s k (p+1)).2.2)
   else if bt s p≠40 then (110,[],0)
   else if (An.g s k (p+1)).2.2=0\/(s.size:Int)<=(An.g s k (p+1)).2.2\/bt s (An.g s k (p+1)).2.2≠43 then (110,[],0)
   else if (An.g s k ((An.g s k (p+1)).2.2+1)).2.2=0\/(s.size:Int)<=(An.g s k ((An.g s k (p+1)).2.2+1)).2.2\/bt s (An.g s k ((An.g s k (p+1)).2.2+1)).2.2≠41 then (110,[],0)
   else (43,[⟨(An.g s k (p+1)).1,(An.g s k (p+1)).2.1⟩,⟨(An.g s k ((An.g s k (p+1)).2.2+1)).1,(An.g s k ((An.g s k (p+1)).2.2+1)).2.1⟩],(An.g s k ((An.g s k (p+1)).2.2+1)).2.2+1)
  else (110,[],0)
theorem An.g_succ (s:ByteArray) (k:Nat) (p:Int):An.g s (k+1) p=if p<(s.size:Int) then
   if bt s p=110\/bt s p=101\/bt s p=115\/bt s p=119 then (bt s p,[],p+1)
   else if bt s p=45\/bt s p=64\/(50<=bt s p/\bt s p<=57) then
    (bt s p,[⟨(An.g s k (p+1)).1,(An.g s k (p+1)).2.1⟩],(An.g s k (p+1)).2.2)
   else if bt s p≠40 then (110,[],0)
   else if (An.g s k (p+1)).2.2=0\/(s.size:Int)<=(An.g s k (p+1)).2.2\/bt s (An.g s k (p+1)).2.2≠43 then (110,[],0)
   else if (An.g s k ((An.g s k (p+1)).2.2+1)).2.2=0\/(s.size:Int)<=(An.g s k ((An.g s k (p+1)).2.2+1)).2.2\/bt s (An.g s k ((An.g s k (p+1)).2.2+1)).2.2≠41 then (110,[],0)
   else (43,[⟨(An.g s k (p+1)).1,(An.g s k (p+1)).2.1⟩,⟨(An.g s k ((An.g s k (p+1)).2.2+1)).1,(An.g s k ((An.g s k (p+1)).2.2+1)).2.1⟩],(An.g s k ((An.g s k (p+1)).2.2+1)).2.2+1)
  else (110,[],0):=rfl
theorem Ab.g_succ (k:Nat) (s:ByteArray):Ab.g (k+1) s =
  if s.size=0 then (0,[],s,false)
  else if bt s 0=101\/bt s 0=110\/bt s 0=119\/bt s 0=115 then (bt s 0,[],s.extract 1 s.size,true)
  else if bt s 0=45\/bt s 0=64\/(50<=bt s 0/\bt s 0<=57) then
   (bt s 0,[⟨(Ab.g k (s.extract 1 s.size)).1,(Ab.g k (s.extract 1 s.size)).2.1⟩],(Ab.g k (s.extract 1 s.size)).2.2.1,(Ab.g k (s.extract 1 s.size)).2.2.2)
  else if bt s 0≠40 then (bt s 0,[],s.extract 1 s.size,false)
  else if (Ab.g k (s.extract 1 s.size)).2.2.2=false\/(Ab.cut 43 (Ab.g k (s.extract 1 s.size)).2.2.1).2=false then (bt s 0,[],s.extract 1 s.size,false)
  else
   (bt s 0,[⟨(Ab.g k (s.extract 1 s.size)).1,(Ab.g k (s.extract 1 s.size)).2.1⟩,⟨(Ab.g k (Ab.cut 43 (Ab.g k (s.extract 1 s.size)).2.2.1).1).1,(Ab.g k (Ab.cut 43 (Ab.g k (s.extract 1 s.size)).2.2.1).1).2.1⟩],
    (Ab.cut 41 (Ab.g k (Ab.cut 43 (Ab.g k (s.extract 1 s.size)).2.2.1).1).2.2.1).1,
    (Ab.g k (Ab.cut 43 (Ab.g k (s.extract 1 s.size)).2.2.1).1).2.2.2&&(Ab.cut 41 (Ab.g k (Ab.cut 43 (Ab.g k (s.extract 1 s.size)).2.2.1).1).2.2.1).2):=rfl
theorem Ic (s:ByteArray):∀ (k p:Nat),p<=s.size->s.size-p<k->
  match rdT k ((nats s).drop p) with
  | none=>(An.g s k (p:Int)).2.2=0
  | some (t,r)=>r.length<s.size-p/\(nats s).drop (s.size-r.length)=r/\An.g s k (p:Int)=((toS t).f0,(toS t).f1,((s.size-r.length:Nat):Int)):=by
 intro k
 induction k with
 | zero=>intro p hp hk;omega
 | succ k ih=>
  intro p hp hk;by_cases h1:p<s.size
  ·have hd:(nats s).drop p=(bt s p).toNat::(nats s).drop (p+1):=by
    have hl:p<(nats s).length:=by rw [BU];exact h1
    rw [Wl hl];have:=Ha s p h1;rw [WH hl] at this;injection this with this;rw [this]
   have hb:=Fp s (p:Int)
   obtain ⟨c,hc⟩:∃ c:Nat,bt s (p:Int)=c:=⟨(bt s (p:Int)).toNat,by omega⟩
   have ihp:=ih (p+1) (by omega) (by omega);rw [hd,An.g_succ,if_pos (by omega),hc];have L1:Bv c↔((c:Int)=110\/(c:Int)=101\/(c:Int)=115\/(c:Int)=119):=by unfold Bv;omega
   have S1:Dh c↔((c:Int)=45\/(c:Int)=64\/(50<=(c:Int)/\(c:Int)<=57)):=by unfold Dh;omega
   simp only [Rr,rdT];have hp1:((p:Int)+1)=((p+1:Nat):Int):=by omega
   by_cases hL:Bv c
   ·rw [if_pos hL,if_pos (L1.mp hL)];simp only [No,BU];refine ⟨by omega,?_,?_⟩
    ·congr 1;omega
    ·simp only [toS,etaS,If,true_and];omega
   ·rw [if_neg hL,if_neg (λh=>hL (L1.mpr h))];by_cases hS:Dh c
    ·rw [if_pos hS,if_pos (S1.mp hS),hp1]
     cases e:rdT k ((nats s).drop (p+1)) with
     | none=>rw [e] at ihp;simpa using ihp
     | some x=>
      obtain ⟨t,r⟩:=x;rw [e] at ihp;simp only [AI];obtain ⟨i1,i2,i3⟩:=ihp;refine ⟨by omega,i2,?_⟩;rw [i3];simp only [toS,etaS]
    ·rw [if_neg hS,if_neg (λh=>hS (S1.mpr h))];by_cases h40:c=40
     ·rw [if_pos h40,if_neg (show ¬ ((c:Int)≠40) by omega),hp1]
      cases e:rdT k ((nats s).drop (p+1)) with
      | none=>rw [e] at ihp;simp only at ihp;rw [if_pos (.inl ihp)];rfl
      | some x=>
       obtain ⟨t,r⟩:=x;rw [e] at ihp;obtain ⟨i1,i2,i3⟩:=ihp;simp only [AI];rw [i3];simp only
       have hr1:r.head?=some 43↔¬ (((s.size-r.length:Nat):Int)=0\/(s.size:Int)<=((s.size-r.length:Nat):Int)\/bt s ((s.size-r.length:Nat):Int)≠43):=by
        have hrr:r.head?=(nats s)[s.size-r.length]?:=by rw [<- List.head?_drop,i2]
        rw [hrr];by_cases hz:r.length=0
        ·rw [List.getElem?_eq_none (by rw [BU];omega)];simp only [reduceCtorEq,false_iff,Decidable.not_not];exact .inr (.inl (by omega))
        ·rw [Ha s _ (by omega)];have:=Fp s ((s.size-r.length:Nat):Int);simp only [AT];omega
       by_cases hh:r.head?=some 43
       ·rw [if_pos hh,if_neg (hr1.mp hh)]
        have hz:0<r.length:=by cases r with
         | nil=>simp at hh
         | cons=>simp
        have ht:r.tail=(nats s).drop (s.size-r.length+1):=by
         rw [<- List.tail_drop,i2]
        have ihq:=ih (s.size-r.length+1) (by omega) (by omega);have hp2:(((s.size-r.length:Nat):Int)+1)=((s.size-r.length+1:Nat):Int):=by omega
        rw [hp2,ht]
        cases e2:rdT k ((nats s).drop (s.size-r.length+1)) with
        | none=>rw [e2] at ihq;simp only at ihq;rw [if_pos (.inl ihq)];rfl
        | some y=>
         obtain ⟨u,q⟩:=y;rw [e2] at ihq;obtain ⟨j1,j2,j3⟩:=ihq;simp only [AI];rw [j3];simp only
         have hr2:q.head?=some 41↔¬ (((s.size-q.length:Nat):Int)=0\/(s.size:Int)<=((s.size-q.length:Nat):Int)\/bt s ((s.size-q.length:Nat):Int)≠41):=by
          have hrr:q.head?=(nats s)[s.size-q.length]?:=by rw [<- List.head?_drop,j2]
          rw [hrr];by_cases hz:q.length=0
          ·rw [List.getElem?_eq_none (by rw [BU];omega)];simp only [reduceCtorEq,false_iff,Decidable.not_not];exact .inr (.inl (by omega))
          ·rw [Ha s _ (by omega)];have:=Fp s ((s.size-q.length:Nat):Int);simp only [AT];omega
         by_cases hg:q.head?=some 41
         ·rw [if_pos hg,if_neg (hr2.mp hg)]
          have hz2:0<q.length:=by cases q with
           | nil=>simp at hg
           | cons=>simp
          simp only [List.length_tail];refine ⟨by omega,?_,?_⟩
          ·rw [show s.size-(q.length-1)=s.size-q.length+1 by omega,<- List.tail_drop,j2]
          ·simp only [toS,etaS,If,true_and];omega
         ·rw [if_neg hg,if_pos (Decidable.not_not.mp (λh=>hg (hr2.mpr h)))]
       ·rw [if_neg hh,if_pos (Decidable.not_not.mp (λh=>hh (hr1.mpr h)))]
     ·rw [if_neg h40,if_pos (show (c:Int)≠40 by omega)]
  ·have hd:(nats s).drop p=[]:=Wm (by rw [BU];omega);rw [hd,An.g_succ,if_neg (by omega)];simp [rdT]
theorem UC (s:ByteArray) (hs:s.size<=1000000):∀ (k m p:Nat),p<=s.size->s.size-p<k->s.size-p<m->An.f k s (p:Int)=some (An.g s m (p:Int)):=by
 intro k
 induction k with
 | zero=>intro m p hp hk;omega
 | succ k ih=>
  intro m p hp hk hm
  obtain ⟨m,rfl⟩:∃ q,m=q+1:=⟨m-1,by omega⟩
  rw [An.f,An.g_succ];by_cases h1:p<s.size
  ·have hw:wrap64 ((p:Int)+1)=((p+1:Nat):Int):=by unfold wrap64;omega
   have hb:=Fp s (p:Int);have i1:=ih m (p+1) (by omega) (by omega) (by omega);have r1:=Ic s m (p+1) (by omega) (by omega);have e1:(p:Int)+1=((p+1:Nat):Int):=by omega
   rw [if_neg (by omega),if_pos (by omega),if_pos (by omega),hw,i1,if_pos (show (p:Int)<(s.size:Int) by omega),e1];generalize hx:An.g s m ((p+1:Nat):Int)=x at *;generalize bt s (p:Int)=b at *;simp only [AI]
   have hx0:x.2.2=0\/∃ q:Nat,p+1<q/\q<=s.size/\x.2.2=(q:Int):=by
    split at r1
    ·exact .inl r1
    ·next t r e=>exact .inr ⟨s.size-r.length,by omega,by omega,by rw [r1.2.2]⟩
   by_cases h40:b=40
   ·subst h40;simp only [show ¬ ((40:Int)=110) by decide,show ¬ ((40:Int)=101) by decide,show ¬ ((40:Int)=115) by decide,show ¬ ((40:Int)=119) by decide,show ¬ ((40:Int)=45) by decide,show ¬ ((40:Int)=64) by decide,show ¬ ((40:Int)>=50) by decide,show ¬ ((50:Int)<=40) by decide,false_and,or_false,if_false,if_true,ne_eq,not_true];rcases hx0 with h0 | ⟨q,q1,q2,hq⟩
    ·rw [if_pos h0,if_pos (.inl h0)]
    ·rw [hq,if_neg (by omega)];by_cases h2:(s.size:Int)<=(q:Int)
     ·rw [if_pos h2,if_pos (.inr (.inl h2))]
     ·rw [if_neg (show ¬ ((q:Int)>=(s.size:Int)) from h2),if_pos (by omega),if_pos (by omega)];by_cases h3:bt s (q:Int)=43
      ·have hw2:wrap64 ((q:Int)+1)=((q+1:Nat):Int):=by unfold wrap64;omega
       have i2:=ih m (q+1) (by omega) (by omega) (by omega);have r2:=Ic s m (q+1) (by omega) (by omega);have e2:(q:Int)+1=((q+1:Nat):Int):=by omega
       rw [if_pos h3,if_neg (by omega),hw2,i2,e2];generalize hy:An.g s m ((q+1:Nat):Int)=y at *;simp only [AI]
       have hy0:y.2.2=0\/∃ q:Nat,0<q/\q<=s.size/\y.2.2=(q:Int):=by
        split at r2
        ·exact .inl r2
        ·next t r e=>exact .inr ⟨s.size-r.length,by omega,by omega,by rw [r2.2.2]⟩
       rcases hy0 with h0 | ⟨z,z1,z2,hz⟩
       ·rw [if_pos h0,if_pos (.inl h0)]
       ·rw [hz,if_neg (by omega)];by_cases h4:(s.size:Int)<=(z:Int)
        ·rw [if_pos h4,if_pos (.inr (.inl h4))]
        ·rw [if_neg (show ¬ ((z:Int)>=(s.size:Int)) from h4),if_pos (by omega),if_pos (by omega)];by_cases h5:bt s (z:Int)=41
         ·rw [if_pos h5,if_neg (by omega),show wrap64 ((z:Int)+1)=(z:Int)+1 by unfold wrap64;omega]
         ·rw [if_neg h5,if_pos (.inr (.inr h5))]
      ·rw [if_neg h3,if_pos (.inr (.inr h3))]
   ·by_cases hl:b=110\/b=101\/b=115\/b=119
    ·rw [if_pos hl];rcases hl with rfl | rfl | rfl | rfl<;>rfl
    ·rw [if_neg hl,if_neg (by omega),if_neg (by omega),if_neg (by omega),if_neg (by omega)];by_cases hs:b=45\/b=64\/50<=b/\b<=57
     ·rw [if_pos hs];rcases hs with rfl | rfl | ⟨h5,h6⟩
      ·rfl
      ·rfl
      ·rw [if_neg (by omega),if_neg (by omega),if_pos h5,if_pos h6]
     ·rw [if_neg hs,if_neg (by omega),if_neg (by omega)];by_cases h5:b>=50
      ·rw [if_pos h5,if_neg (by omega),if_pos h40,if_pos h40]
      ·rw [if_neg h5,if_neg h40,if_pos h40]
  ·rw [if_pos (by omega),if_neg (by omega)]
theorem K6 (c:Nat) (l:ByteArray):(Ab.cut c l).2=decide ((nats l).head?=some c)/\((Ab.cut c l).2=true->nats (Ab.cut c l).1=(nats l).tail):=by
 unfold Ab.cut;by_cases h:0<l.size
 ·have h0:=Ha l 0 h;have hb:=Fp l 0;rw [List.head?_eq_getElem?,h0];by_cases hc:bt l 0=c
  ·rw [if_pos ⟨h,hc⟩];refine ⟨?_,λ_=>ID l⟩;simp [hc]
  ·rw [if_neg (λhh=>hc hh.2)];refine ⟨?_,λhh=>by simp at hh⟩;simp;have h1:bt l ((0:Nat):Int)=bt l 0:=rfl;omega
 ·rw [if_neg (λhh=>h hh.1)];have:nats l=[]:=List.eq_nil_of_length_eq_zero (by rw [BU];omega);rw [this];exact ⟨by simp,λhh=>by simp at hh⟩
theorem NN:∀ (k:Nat) (s:ByteArray),s.size<k->
  match rdT k (nats s) with
  | none=>(Ab.g k s).2.2.2=false
  | some (t,r)=>∃ l,nats l=r/\Ab.g k s=((toI t).f0,(toI t).f1,l,true):=by
 intro k
 induction k with
 | zero=>intro s hk;omega
 | succ k ih=>
  intro s hk;rw [Ab.g_succ];by_cases h0:s.size=0
  ·have hd:nats s=[]:=List.eq_nil_of_length_eq_zero (by rw [BU];exact h0);rw [hd,if_pos h0];simp [rdT]
  ·have h1:0<s.size:=by omega
   have hd:nats s=(bt s 0).toNat::nats (s.extract 1 s.size):=by
    rw [ID];have:=Ha s 0 h1;rw [<- List.head?_eq_getElem?] at this;exact I7 this
   have hx:(s.extract 1 s.size).size=s.size-1:=by simp only [ByteArray.size_extract];omega
   have hb:=Fp s 0
   obtain ⟨c,hc⟩:∃ c:Nat,bt s 0=c:=⟨(bt s 0).toNat,by omega⟩
   have ih1:=ih (s.extract 1 s.size) (by omega);rw [hd,if_neg h0,hc];generalize s.extract 1 s.size=s1 at ih1 hx;have L1:Bv c↔((c:Int)=101\/(c:Int)=110\/(c:Int)=119\/(c:Int)=115):=by unfold Bv;omega
   have S1:Dh c↔((c:Int)=45\/(c:Int)=64\/(50<=(c:Int)/\(c:Int)<=57)):=by unfold Dh;omega
   simp only [Rr,rdT];by_cases hL:Bv c
   ·rw [if_pos hL,if_pos (L1.mp hL)];exact ⟨s1,rfl,rfl⟩
   ·rw [if_neg hL,if_neg (λh=>hL (L1.mpr h))];by_cases hS:Dh c
    ·rw [if_pos hS,if_pos (S1.mp hS)]
     cases e:rdT k (nats s1) with
     | none=>rw [e] at ih1;simpa using ih1
     | some x=>
      obtain ⟨t,r⟩:=x;rw [e] at ih1;obtain ⟨l,i1,i2⟩:=ih1;simp only [AI];refine ⟨l,i1,?_⟩;rw [i2];simp only [toI,etaI]
    ·rw [if_neg hS,if_neg (λh=>hS (S1.mpr h))];by_cases h40:c=40
     ·rw [if_pos h40,if_neg (show ¬ ((c:Int)≠40) by omega)]
      cases e:rdT k (nats s1) with
      | none=>rw [e] at ih1;simp only at ih1;rw [if_pos (.inl ih1)];rfl
      | some x=>
       obtain ⟨t,r⟩:=x;rw [e] at ih1;obtain ⟨l,i1,i2⟩:=ih1;simp only [AI];rw [i2];simp only [Bool.true_eq_false,false_or];obtain ⟨c1,c2⟩:=K6 43 l;rw [i1] at c1 c2;have e43:((43:Nat):Int)=43:=rfl;rw [e43] at c1 c2;by_cases hh:r.head?=some 43
       ·have c3:(Ab.cut 43 l).2=true:=by rw [c1];exact Wo hh
        have hl:(Ab.cut 43 l).1.size<k:=by
         have hlen:=WL List.length (c2 c3);have hlt:=UB e;rw [BU,List.length_tail] at hlen;rw [BU] at hlt;omega
        have ih2:=ih (Ab.cut 43 l).1 hl;rw [if_pos hh,if_neg (by rw [c3];decide)];rw [c2 c3] at ih2
        cases e2:rdT k r.tail with
        | none=>rw [e2] at ih2;simp only at ih2;rw [ih2];rfl
        | some y=>
         obtain ⟨u,q⟩:=y;rw [e2] at ih2;obtain ⟨m,j1,j2⟩:=ih2;simp only [AI];rw [j2];simp only [Bool.true_and];obtain ⟨d1,d2⟩:=K6 41 m;rw [j1] at d1 d2;have e41:((41:Nat):Int)=41:=rfl;rw [e41] at d1 d2;by_cases hg:q.head?=some 41
         ·have d3:(Ab.cut 41 m).2=true:=by rw [d1];exact Wo hg
          rw [if_pos hg,d3];exact ⟨_,d2 d3,by rw [h40];simp only [toI,etaI];rfl⟩
         ·rw [if_neg hg];simp only;rw [d1];exact Wp hg
       ·rw [if_neg hh,if_pos (by rw [c1];exact Wp hh)]
     ·rw [if_neg h40,if_pos (show (c:Int)≠40 by omega)]
theorem OU (s:ByteArray) (k:Nat) (hk:61<=k):if s.size<=60 then
   match E8 (nats s) with
   | none=>∃ a b,Eb.f k s=some (a,b,false)
   | some t=>Eb.f k s=some ((toS t).f0,(toS t).f1,true)
  else ∃ a b,Eb.f k s=some (a,b,false):=by
 unfold Eb.f;by_cases hs:s.size<=60
 ·rw [if_pos hs,if_neg (by omega)];have h:=Ic s (s.size+1) 0 (by omega) (by omega);unfold E8;rw [BU];simp only [WF,Nat.sub_zero] at h;have hf:=UC s (by omega) k (s.size+1) 0 (by omega) (by omega) (by omega);have e0:((0:Nat):Int)=0:=rfl;rw [e0] at h hf;rw [hf];simp only [AI]
  cases e:rdT (s.size+1) (nats s) with
  | none=>
   rw [e] at h;simp only at h;rw [h]
   simp
  | some x=>
   obtain ⟨t,r⟩:=x;rw [e] at h;obtain ⟨h1,h2,h3⟩:=h;simp only [AI];rw [h3];simp only;rw [if_pos (show ((s.size-r.length:Nat):Int)>0 by omega)];by_cases hr:r=[]
   ·subst hr;simp
   ·have:0<r.length:=List.length_pos_iff.mpr hr;rw [if_neg hr];have hne:(((s.size-r.length:Nat):Int)==(s.size:Int))=false:=by simp;omega
    rw [hne];exact ⟨_,_,rfl⟩
 ·rw [if_neg hs,if_pos (by omega)];exact ⟨_,_,rfl⟩
theorem OD (s:ByteArray):if s.size<=60 then
   match E8 (nats s) with
   | none=>∃ a b,Dk.f s=some (a,b,false)
   | some t=>Dk.f s=some ((toI t).f0,(toI t).f1,true)
  else ∃ a b,Dk.f s=some (a,b,false):=by
 unfold Dk.f;by_cases hs:s.size<=60
 ·rw [if_pos hs,if_neg (by omega)];have h:=NN (s.size+1) s (by omega);unfold E8;rw [BU];unfold Ab.f;rw [if_pos hs];simp only [AI]
  cases e:rdT (s.size+1) (nats s) with
  | none=>
   rw [e] at h;simp only at h;rw [h]
   simp
  | some x=>
   obtain ⟨t,r⟩:=x;rw [e] at h;obtain ⟨l,h1,h2⟩:=h;simp only [AI];rw [h2];simp only [if_true];by_cases hr:r=[]
   ·subst hr
    have:l.toList=[]:=by
     rw [Lib.toList_data];exact List.map_eq_nil_iff.mp h1
    rw [this];simp
   ·rw [if_neg hr]
    have:decide (l.toList=ByteArray.toList ⟨#[]⟩)=false:=by
     rw [Lib.toList_data];simp;intro hh;exact hr (by rw [<- h1];unfold nats;rw [hh];rfl)
    rw [this];exact ⟨_,_,rfl⟩
 ·rw [if_neg hs,if_pos (by omega)];exact ⟨_,_,rfl⟩

end U
namespace U
def T.len:T->Nat
 | .leaf _=>1
 | .one c t=>if 50<=c/\c<=57 then (c-48)*t.len else t.len
 | .two a b=>a.len+b.len
theorem T.len_pos:∀ {t:T},t.ok->1<=t.len
 | .leaf _,_=>Wn _
 | .one c t,h=>by
  have:=T.len_pos h.2;unfold T.len;split
  ·next hc=>exact WA this (Nat.le_mul_of_pos_left _ (by omega))
  ·exact this
 | .two a b,h=>by
  have:=T.len_pos h.1;unfold T.len;omega
theorem OI (m n:Nat):mn (m:Int) (n:Int)=((min m n:Nat):Int):=by
 unfold mn;split<;>omega
def short (s:ByteArray):Option T:=if s.size<=60 then (E8 (nats s)).bind λt=>if t.len<=200 then some t else none else none
theorem Gk {s:ByteArray} {t:T} (h:E8 (nats s)=some t):t.ok/\t.text.length=s.size:=by
 obtain ⟨h1,h2⟩:=F0.mp h;exact ⟨h1,by rw [<- h2,BU]⟩
theorem EV {s:ByteArray} {t:T} (h:short s=some t):t.ok/\t.len<=200/\nats s=t.text/\s.size<=60/\t.text.length<=60:=by
 unfold short at h;split at h
 ·next hs=>
  obtain ⟨u,h1,h2⟩:=By.mp h;split at h2
  ·next hl=>
   injection h2 with h2;subst h2;have:=Gk h1;exact ⟨this.1,hl,(F0.mp h1).2,hs,by omega⟩
  ·simp at h2
 ·simp at h

end U
namespace U
theorem PT:∀ (t:T),t.ok->∀ k,2*t.text.length<=k->B6.f k (toS t).f0 (toS t).f1=some ((min 1000 t.len:Nat):Int):=by
 intro t
 induction t with
 | leaf c=>
  intro ho k hk;simp only [T.text,It,IS] at hk
  obtain ⟨m,rfl⟩:∃ m,k=m+2:=⟨k-2,by omega⟩
  have ho:Bv c:=ho;unfold Bv at ho;simp only [toS];rw [B6.f];rw [if_neg (show ¬ ((c:Int)=43) by omega),if_neg (show ¬ ((c:Int)=45) by omega)];rw [B6.j0,if_neg (by simp;omega)];split
  ·rw [if_neg (show ¬ ((c:Int)<=57) by omega)];rfl
  ·rfl
 | one c t ih=>
  intro ho k hk;simp only [T.text,It] at hk
  obtain ⟨m,rfl⟩:∃ m,k=m+2:=⟨k-2,by omega⟩
  have hc:Dh c:=ho.1;unfold Dh at hc;have hp:=T.len_pos ho.2;have hrec:=ih ho.2 m (by omega);have hrec':=ih ho.2 (m+1) (by omega);have h0:(0:Int)<(([toS t].length:Nat):Int):=by simp
  have hg:BO [toS t] 0=toS t:=rfl;simp only [toS];rw [B6.f];rw [if_neg (show ¬ ((c:Int)=43) by omega)];by_cases h45:c=45
  ·rw [if_pos (show (c:Int)=45 by omega)];rw [B6.j0,if_pos rfl,if_pos h0,hg,hrec];simp only [AI,T.len];rw [if_neg (by omega)]
  ·rw [if_neg (show ¬ ((c:Int)=45) by omega)];rw [B6.j0];by_cases h64:c=64
   ·rw [if_pos (by simp;omega),if_pos h0,hg,hrec];simp only [AI,T.len,h64];rw [if_neg (by omega)]
   ·rw [if_neg (by simp;omega),if_pos (show (c:Int)>=50 by omega),if_pos (show (c:Int)<=57 by omega),if_pos h0,hg,hrec];simp only [AI,T.len];rw [if_pos (by omega)]
    obtain ⟨d,rfl⟩:∃ d,c=d+48:=⟨c-48,by omega⟩
    have hd:(((d+48:Nat):Int)-48) % 256=(d:Int):=by omega
    rw [hd,Nat.add_sub_cancel];have hm:(d:Int)*((min 1000 t.len:Nat):Int)=((d*min 1000 t.len:Nat):Int):=by push_cast;rfl
    rw [hm];have hbd:d*min 1000 t.len<=9*1000:=Nat.mul_le_mul (by omega) (Nat.min_le_left _ _);have hw:wrap64 ((d*min 1000 t.len:Nat):Int)=((d*min 1000 t.len:Nat):Int):=by unfold wrap64;omega
    rw [hw];have:=OI 1000 (d*min 1000 t.len);have e1000:((1000:Nat):Int)=1000:=rfl;rw [e1000] at this;rw [this];refine WL (λn:Nat=>some (n:Int)) ?_;rcases Nat.le_total t.len 1000 with h | h
    ·rw [Nat.min_eq_right h]
    ·rw [Nat.min_eq_left h];have h2:2*1000<=d*1000:=Nat.mul_le_mul_right _ (by omega);have h3:d*1000<=d*t.len:=Nat.mul_le_mul_left _ h
     omega
 | two a b iha ihb=>
  intro ho k hk;rw [T.text_two] at hk
  obtain ⟨m,rfl⟩:∃ m,k=m+2:=⟨k-2,by omega⟩
  simp only [toS];rw [B6.f,if_pos rfl];have hg:BO [toS a,toS b] 0=toS a:=rfl;have hh:BO [toS a,toS b] 1=toS b:=rfl;rw [if_pos (by simp),hg,iha ho.1 (m+1) (by omega)];simp only [AI];rw [if_pos (by simp),hh,ihb ho.2 (m+1) (by omega)];simp only [AI,T.len];have hw:wrap64 (((min 1000 a.len:Nat):Int)+((min 1000 b.len:Nat):Int))=((min 1000 a.len+min 1000 b.len:Nat):Int):=by unfold wrap64;omega
  rw [hw];have:=OI 1000 (min 1000 a.len+min 1000 b.len);have e1000:((1000:Nat):Int)=1000:=rfl;rw [e1000] at this;rw [this];refine WL (λn:Nat=>some (n:Int)) ?_;omega
theorem Ie (s:ByteArray) (k:Nat) (hk:120<=k):match short s with
  | none=>∃ a b,De.f k s=some (a,b,false)
  | some t=>De.f k s=some ((toS t).f0,(toS t).f1,true):=by
 have h:=OU s k (by omega);unfold De.f short;by_cases hs:s.size<=60
 ·rw [if_pos hs] at h ⊢
  cases e:E8 (nats s) with
  | none=>
   rw [e] at h;obtain ⟨a,b,h⟩:=h;rw [h]
   simp
  | some t=>
   rw [e] at h;simp only at h;obtain ⟨ho,hl⟩:=Gk e;rw [h];simp only [AI,if_true];rw [PT t ho k (by omega)];simp only [AI];by_cases hl:t.len<=200
   ·rw [if_pos hl];simp only;rw [Wo (by omega)]
   ·rw [if_neg hl];simp only;rw [Wp (by omega)];exact ⟨_,_,rfl⟩
 ·rw [if_neg hs] at h ⊢;obtain ⟨a,b,h⟩:=h;rw [h];simp

end U
namespace U
theorem Po:∀ (t:T),t.ok->∀ k,2*t.text.length<=k->Bk.f k (toI t).f0 (toI t).f1=some ((min 201 t.len:Nat):Int):=by
 intro t
 induction t with
 | leaf c=>
  intro ho k hk;simp only [T.text,It,IS] at hk
  obtain ⟨m,rfl⟩:∃ m,k=m+2:=⟨k-2,by omega⟩
  simp only [toI];rw [Bk.f];rw [if_pos (by simp)]
  rfl
 | one c t ih=>
  intro ho k hk;simp only [T.text,It] at hk
  obtain ⟨m,rfl⟩:∃ m,k=m+2:=⟨k-2,by omega⟩
  have hc:Dh c:=ho.1;unfold Dh at hc;have hp:=T.len_pos ho.2;have hrec:=ih ho.2 m (by omega);have h0:(0:Int)<(([toI t].length:Nat):Int):=by simp
  have hg:CH [toI t] 0=toI t:=rfl;simp only [toI];rw [Bk.f];rw [if_neg (show ¬ ((([toI t].length:Nat):Int)=0) by simp),if_neg (show ¬ ((([toI t].length:Nat):Int)=2) by simp)];by_cases h64:50<=c/\c<=57
  ·rw [if_pos (show (c:Int)>=50 by omega)];rw [Bk.j0,if_pos (Wo (show (c:Int)<=57 by omega)),if_pos h0,hg,hrec];simp only [AI,T.len];rw [if_pos (by omega)]
   obtain ⟨d,rfl⟩:∃ d,c=d+48:=⟨c-48,by omega⟩
   have hd:(((d+48:Nat):Int)-48) % 256=(d:Int):=by omega
   rw [hd,Nat.add_sub_cancel];have hm:(d:Int)*((min 201 t.len:Nat):Int)=((d*min 201 t.len:Nat):Int):=by push_cast;rfl
   rw [hm];have hbd:d*min 201 t.len<=9*201:=Nat.mul_le_mul (by omega) (Nat.min_le_left _ _);have hw:wrap64 ((d*min 201 t.len:Nat):Int)=((d*min 201 t.len:Nat):Int):=by unfold wrap64;omega
   rw [hw];have:=OI 201 (d*min 201 t.len);have e201:((201:Nat):Int)=201:=rfl;rw [e201] at this;rw [this];refine WL (λn:Nat=>some (n:Int)) ?_;rcases Nat.le_total t.len 201 with h | h
   ·rw [Nat.min_eq_right h]
   ·rw [Nat.min_eq_left h];have h2:2*201<=d*201:=Nat.mul_le_mul_right _ (by omega);have h3:d*201<=d*t.len:=Nat.mul_le_mul_left _ h;omega
  ·have hlen:(T.one c t).len=t.len:=if_neg h64
   have hj:∀ b,b=false->Bk.j0 (m+1) b (c:Int) [toI t]=some ((min 201 t.len:Nat):Int):=by
    intro b hb;subst hb;rw [Bk.j0,if_neg (by decide),if_pos h0,hg,hrec];rfl
   rw [hlen];split
   ·exact hj _ (Wp (by omega))
   ·exact hj _ rfl
 | two a b iha ihb=>
  intro ho k hk;rw [T.text_two] at hk
  obtain ⟨m,rfl⟩:∃ m,k=m+2:=⟨k-2,by omega⟩
  simp only [toI];rw [Bk.f];have hg:CH [toI a,toI b] 0=toI a:=rfl;have hh:CH [toI a,toI b] 1=toI b:=rfl;rw [if_neg (by simp),if_pos (by simp),if_pos (by simp),hg,iha ho.1 (m+1) (by omega)];simp only [AI];rw [if_pos (by simp),hh,ihb ho.2 (m+1) (by omega)];simp only [AI,T.len];have hw:wrap64 (((min 201 a.len:Nat):Int)+((min 201 b.len:Nat):Int))=((min 201 a.len+min 201 b.len:Nat):Int):=by unfold wrap64;omega
  rw [hw];have:=OI 201 (min 201 a.len+min 201 b.len);have e201:((201:Nat):Int)=201:=rfl;rw [e201] at this;rw [this];refine WL (λn:Nat=>some (n:Int)) ?_;omega
theorem HV (s:ByteArray) (k:Nat) (hk:120<=k):match short s with
  | none=>∃ a b,Dd.f k s=some (a,b,false)
  | some t=>Dd.f k s=some ((toI t).f0,(toI t).f1,true):=by
 have h:=OD s;unfold Dd.f short;by_cases hs:s.size<=60
 ·rw [if_pos hs] at h ⊢
  cases e:E8 (nats s) with
  | none=>
   rw [e] at h;obtain ⟨a,b,h⟩:=h;rw [h]
   simp
  | some t=>
   rw [e] at h;simp only at h;obtain ⟨ho,hl⟩:=Gk e;rw [h];simp only [AI,if_true];rw [Po t ho k (by omega)];simp only [AI];by_cases hl:t.len<=200
   ·rw [if_pos hl];simp only;rw [Wo (by omega)]
   ·rw [if_neg hl];simp only;rw [Wp (by omega)];exact ⟨_,_,rfl⟩
 ·rw [if_neg hs] at h ⊢;obtain ⟨a,b,h⟩:=h;rw [h];simp

end U
namespace U
def T.ends:T->Int×Int×Int
 | .leaf c=>if c=101 then (1,0,0) else if c=110 then (0,1,0) else if c=119 then (-1,0,0) else (0,-1,0)
 | .one c t=>
  if c=45 then (-t.ends.1,-t.ends.2.1,-t.ends.2.2)
  else if c=64 then (-t.ends.2.1,t.ends.1,t.ends.2.2)
  else (((c:Int)-48)*t.ends.1,((c:Int)-48)*t.ends.2.1,((c:Int)-48)*t.ends.2.2)
 | .two a b=>(a.ends.1+b.ends.1,a.ends.2.1+b.ends.2.1,a.ends.2.2+b.ends.2.2+a.ends.1*b.ends.2.1-a.ends.2.1*b.ends.1)
def inB (x:Int) (n:Nat):Prop:=-(n:Int)<=x/\x<=n
theorem FF {x y:Int} {m n:Nat} (hx:inB x m) (hy:inB y n):inB (x*y) (m*n):=by
 unfold inB at *
 have h1:(x*y).natAbs<=m*n:=by
  rw [Int.natAbs_mul];exact Nat.mul_le_mul (by omega) (by omega)
 have h2:((x*y).natAbs:Int)<=((m*n:Nat):Int):=by omega
 omega
theorem T.ends_in:∀ (t:T),t.ok->inB t.ends.1 t.len/\inB t.ends.2.1 t.len/\inB t.ends.2.2 (t.len*t.len)
 | .leaf c,h=>by
  unfold T.ends T.len inB;split
  ·simp only;omega
  ·split
   ·simp only;omega
   ·split<;>(simp only;omega)
 | .one c t,h=>by
  obtain ⟨h1,h2,h3⟩:=T.ends_in t h.2;have hc:=h.1;unfold Dh at hc;unfold T.ends T.len;by_cases c1:c=45
  ·rw [if_pos c1,if_neg (by omega)];unfold inB at *;simp only;omega
  ·rw [if_neg c1];by_cases c2:c=64
   ·rw [if_pos c2,if_neg (by omega)];unfold inB at *;simp only;omega
   ·rw [if_neg c2,if_pos (by omega)];have hd:inB ((c:Int)-48) (c-48):=by unfold inB;omega
    refine ⟨FF hd h1,FF hd h2,?_⟩;have h4:=FF hd h3
    have h5:(c-48)*(t.len*t.len)<=(c-48)*t.len*((c-48)*t.len):=by
     rw [Nat.mul_assoc];refine Nat.mul_le_mul_left _ ?_;refine Nat.mul_le_mul_left t.len ?_;exact Nat.le_mul_of_pos_left _ (by omega)
    unfold inB at *;simp only at h4 ⊢
    omega
 | .two a b,h=>by
  obtain ⟨a1,a2,a3⟩:=T.ends_in a h.1;obtain ⟨b1,b2,b3⟩:=T.ends_in b h.2;have p1:=FF a1 b2;have p2:=FF a2 b1
  have e:(a.len+b.len)*(a.len+b.len)=a.len*a.len+a.len*b.len+(a.len*b.len+b.len*b.len):=by
   rw [Nat.add_mul,Nat.mul_add,Nat.mul_add,Nat.mul_comm b.len a.len]
  unfold T.ends T.len;rw [e];unfold inB at *;simp only;omega
theorem T.sub_len {c:Nat} {t:T} (h:Dh c):t.len<=(T.one c t).len:=by
 unfold Dh at h;show t.len<=if 50<=c/\c<=57 then (c-48)*t.len else t.len;split
 ·exact Nat.le_mul_of_pos_left _ (by omega)
 ·exact Wn _
theorem VR {m:Nat} (h:m<=200):m*m<=40000:=Nat.mul_le_mul h h
theorem T.ends_small {t:T} (ho:t.ok) (hl:t.len<=200):inB t.ends.1 200/\inB t.ends.2.1 200/\inB t.ends.2.2 40000:=by
 obtain ⟨h1,h2,h3⟩:=T.ends_in t ho;have:=VR hl;unfold inB at *;omega

end U
namespace U
theorem CG {x:Int} (h0:-9223372036854775808<=x) (h1:x<=9223372036854775807):wrap64 x=x:=by unfold wrap64;omega

end U
namespace U
theorem Lr:∀ (t:T),t.ok->t.len<=200->∀ k,t.text.length<=k->C4.f k (toS t).f0 (toS t).f1=some t.ends:=by
 intro t
 induction t with
 | leaf c=>
  intro ho hl k hk;simp only [T.text,It,IS] at hk
  obtain ⟨m,rfl⟩:∃ m,k=m+1:=⟨k-1,by omega⟩
  have ho:Bv c:=ho;unfold Bv at ho;simp only [toS];rw [C4.f];unfold T.ends
  rcases ho with rfl | rfl | rfl | rfl<;>rfl
 | one c t ih=>
  intro ho hl k hk;simp only [T.text,It] at hk
  obtain ⟨m,rfl⟩:∃ m,k=m+1:=⟨k-1,by omega⟩
  have hc:Dh c:=ho.1;have hs:=T.sub_len (t:=t) hc;obtain ⟨b1,b2,b3⟩:=T.ends_small ho.2 (by omega);obtain ⟨d1,d2,d3⟩:=T.ends_small (t:=T.one c t) ho hl;unfold Dh at hc;have hrec:=ih ho.2 (by omega) m (by omega);have hg:BO [toS t] 0=toS t:=rfl;unfold inB at *;simp only [toS];rw [C4.f,if_neg (show ¬ ((c:Int)=110) by omega),if_neg (show ¬ ((c:Int)=101) by omega),if_neg (show ¬ ((c:Int)=115) by omega),if_neg (show ¬ ((c:Int)=119) by omega),if_pos (show (0:Int)<(([toS t].length:Nat):Int) by simp),hg,hrec];simp only [AI];by_cases c1:c=45
  ·rw [if_pos (show (c:Int)=45 by omega),CG (by omega) (by omega),CG (by omega) (by omega),CG (by omega) (by omega)]
   conv=>rhs;unfold T.ends
   rw [if_pos c1];simp only [Int.zero_sub]
  ·rw [if_neg (show ¬ ((c:Int)=45) by omega)];by_cases c2:c=64
   ·rw [if_pos (show (c:Int)=64 by omega),CG (by omega) (by omega)]
    conv=>rhs;unfold T.ends
    rw [if_neg c1,if_pos c2];simp only [Int.zero_sub]
   ·rw [if_neg (show ¬ ((c:Int)=64) by omega),if_neg (show ¬ ((c:Int)=43) by omega)]
    have e:(T.one c t).ends=(((c:Int)-48)*t.ends.1,((c:Int)-48)*t.ends.2.1,((c:Int)-48)*t.ends.2.2):=by
     conv=>lhs;unfold T.ends
     rw [if_neg c1,if_neg c2]
    rw [e] at d1 d2 d3 ⊢;simp only at d1 d2 d3;have hm:((c:Int)-48) % 256=(c:Int)-48:=by omega
    rw [hm,CG (by omega) (by omega),CG (by omega) (by omega),CG (by omega) (by omega)]
 | two a b iha ihb=>
  intro ho hl k hk;rw [T.text_two] at hk
  obtain ⟨m,rfl⟩:∃ m,k=m+1:=⟨k-1,by omega⟩
  have hlen:a.len+b.len<=200:=hl;obtain ⟨a1,a2,a3⟩:=T.ends_small ho.1 (by omega);obtain ⟨b1,b2,b3⟩:=T.ends_small ho.2 (by omega);have p1:=FF a1 b2;have p2:=FF a2 b1;have hg:BO [toS a,toS b] 0=toS a:=rfl;have hh:BO [toS a,toS b] 1=toS b:=rfl;unfold inB at *;simp only [toS];rw [C4.f,if_neg (by decide),if_neg (by decide),if_neg (by decide),if_neg (by decide),if_pos (show (0:Int)<(([toS a,toS b].length:Nat):Int) by simp),hg,iha ho.1 (by omega) m (by omega)];simp only [AI];rw [if_neg (by decide),if_neg (by decide),if_pos trivial,if_pos (show (1:Int)<(([toS a,toS b].length:Nat):Int) by simp),hh,ihb ho.2 (by omega) m (by omega)];simp only [AI];have e:(T.two a b).ends=(a.ends.1+b.ends.1,a.ends.2.1+b.ends.2.1,a.ends.2.2+b.ends.2.2+a.ends.1*b.ends.2.1-a.ends.2.1*b.ends.1):=rfl;rw [e];generalize a.ends.1*b.ends.2.1=m1 at p1;generalize a.ends.2.1*b.ends.1=m2 at p2
  rw [CG (x:=a.ends.1+b.ends.1) (by omega) (by omega),CG (x:=a.ends.2.1+b.ends.2.1) (by omega) (by omega),CG (x:=a.ends.2.2+b.ends.2.2) (by omega) (by omega),CG (x:=m1) (by omega) (by omega),CG (x:=m2) (by omega) (by omega),
   CG (x:=a.ends.2.2+b.ends.2.2+m1) (by omega) (by omega),CG (x:=a.ends.2.2+b.ends.2.2+m1-m2) (by omega) (by omega)]

end U
namespace U
theorem La:∀ (t:T),t.ok->t.len<=200->∀ k,t.text.length<=k->BZ.f k (toI t).f0 (toI t).f1=some t.ends:=by
 intro t
 induction t with
 | leaf c=>
  intro ho hl k hk;simp only [T.text,It,IS] at hk
  obtain ⟨m,rfl⟩:∃ m,k=m+1:=⟨k-1,by omega⟩
  have ho:Bv c:=ho;unfold Bv at ho;simp only [toI];rw [BZ.f];unfold T.ends
  rcases ho with rfl | rfl | rfl | rfl<;>rfl
 | one c t ih=>
  intro ho hl k hk;simp only [T.text,It] at hk
  obtain ⟨m,rfl⟩:∃ m,k=m+1:=⟨k-1,by omega⟩
  have hc:Dh c:=ho.1;have hs:=T.sub_len (t:=t) hc;obtain ⟨b1,b2,b3⟩:=T.ends_small ho.2 (by omega);obtain ⟨d1,d2,d3⟩:=T.ends_small (t:=T.one c t) ho hl;unfold Dh at hc;have hrec:=ih ho.2 (by omega) m (by omega);have hg:CH [toI t] 0=toI t:=rfl;unfold inB at *;simp only [toI];rw [BZ.f,if_neg (show ¬ ((([toI t].length:Nat):Int)=0) by simp),if_pos (show (0:Int)<(([toI t].length:Nat):Int) by simp),hg,hrec];simp only [AI];by_cases c2:c=64
  ·rw [if_pos (show (c:Int)=64 by omega),CG (by omega) (by omega)]
   conv=>rhs;unfold T.ends
   rw [if_neg (show ¬ c=45 by omega),if_pos c2]
  ·rw [if_neg (show ¬ ((c:Int)=64) by omega)];by_cases c1:c=45
   ·rw [if_pos (show (c:Int)=45 by omega),CG (by omega) (by omega),CG (by omega) (by omega),CG (by omega) (by omega)]
    conv=>rhs;unfold T.ends
    rw [if_pos c1]
   ·rw [if_neg (show ¬ ((c:Int)=45) by omega),if_neg (show ¬ ((c:Int)=40) by omega)]
    have e:(T.one c t).ends=(((c:Int)-48)*t.ends.1,((c:Int)-48)*t.ends.2.1,((c:Int)-48)*t.ends.2.2):=by
     conv=>lhs;unfold T.ends
     rw [if_neg c1,if_neg c2]
    rw [e] at d1 d2 d3 ⊢;simp only at d1 d2 d3;have hm:((c:Int)-48) % 256=(c:Int)-48:=by omega
    rw [hm,CG (by omega) (by omega),CG (by omega) (by omega),CG (by omega) (by omega)]
 | two a b iha ihb=>
  intro ho hl k hk;rw [T.text_two] at hk
  obtain ⟨m,rfl⟩:∃ m,k=m+1:=⟨k-1,by omega⟩
  have hlen:a.len+b.len<=200:=hl;obtain ⟨a1,a2,a3⟩:=T.ends_small ho.1 (by omega);obtain ⟨b1,b2,b3⟩:=T.ends_small ho.2 (by omega);have p1:=FF a1 b2;have p2:=FF a2 b1;have hg:CH [toI a,toI b] 0=toI a:=rfl;have hh:CH [toI a,toI b] 1=toI b:=rfl;unfold inB at *;simp only [toI];rw [BZ.f,if_neg (show ¬ ((([toI a,toI b].length:Nat):Int)=0) by simp),if_pos (show (0:Int)<(([toI a,toI b].length:Nat):Int) by simp),hg,iha ho.1 (by omega) m (by omega)];simp only [AI];rw [if_neg (by decide),if_neg (by decide),if_pos trivial,if_pos (show (1:Int)<(([toI a,toI b].length:Nat):Int) by simp),hh,ihb ho.2 (by omega) m (by omega)];simp only [AI];have e:(T.two a b).ends=(a.ends.1+b.ends.1,a.ends.2.1+b.ends.2.1,a.ends.2.2+b.ends.2.2+a.ends.1*b.ends.2.1-a.ends.2.1*b.ends.1):=rfl;rw [e];generalize a.ends.1*b.ends.2.1=m1 at p1;generalize a.ends.2.1*b.ends.1=m2 at p2
  rw [CG (x:=a.ends.1+b.ends.1) (by omega) (by omega),CG (x:=a.ends.2.1+b.ends.2.1) (by omega) (by omega),CG (x:=a.ends.2.2+b.ends.2.2) (by omega) (by omega),CG (x:=m1) (by omega) (by omega),CG (x:=m2) (by omega) (by omega),
   CG (x:=a.ends.2.2+b.ends.2.2+m1) (by omega) (by omega),CG (x:=a.ends.2.2+b.ends.2.2+m1-m2) (by omega) (by omega)]

end U
namespace U
theorem Qx (s:ByteArray) (k:Nat) (hk:120<=k):DW.f k s=some (match short s with | none=>(0,0,false) | some t=>(t.ends.1,t.ends.2.1,true)):=by
 have h1:=Ie s k hk;unfold DW.f
 cases e:short s with
 | none=>
  rw [e] at h1;obtain ⟨a,b,h1⟩:=h1;rw [h1]
  rfl
 | some t=>
  rw [e] at h1;simp only at h1;obtain ⟨ho,hl,_,_,hx⟩:=EV e;rw [h1];simp only [AI,if_true];rw [Lr t ho hl k (by omega)];rfl

end U
namespace U
theorem Qw (s:ByteArray) (k:Nat) (hk:120<=k):DV.f k s=some (match short s with | none=>(0,0,false) | some t=>(t.ends.1,t.ends.2.1,true)):=by
 have h1:=HV s k hk;unfold DV.f
 cases e:short s with
 | none=>
  rw [e] at h1;obtain ⟨a,b,h1⟩:=h1;rw [h1]
  rfl
 | some t=>
  rw [e] at h1;simp only at h1;obtain ⟨ho,hl,_,_,hx⟩:=EV e;rw [h1];simp only [AI,if_true];rw [La t ho hl k (by omega)];rfl

end U
namespace U
theorem O4 (s:ByteArray) (k:Nat) (hk:120<=k):DI.f k s=some (match short s with | none=>(0,false) | some t=>(t.ends.2.2,true)):=by
 have h1:=Ie s k hk;unfold DI.f
 cases e:short s with
 | none=>
  rw [e] at h1;obtain ⟨a,b,h1⟩:=h1;rw [h1]
  rfl
 | some t=>
  rw [e] at h1;simp only at h1;obtain ⟨ho,hl,_,_,hx⟩:=EV e;rw [h1];simp only [AI,if_true];rw [Lr t ho hl k (by omega)];rfl

end U
namespace U
theorem O3 (s:ByteArray) (k:Nat) (hk:120<=k):DE.f k s=some (match short s with | none=>(0,false) | some t=>(t.ends.2.2,true)):=by
 have h1:=HV s k hk;unfold DE.f
 cases e:short s with
 | none=>
  rw [e] at h1;obtain ⟨a,b,h1⟩:=h1;rw [h1]
  rfl
 | some t=>
  rw [e] at h1;simp only at h1;obtain ⟨ho,hl,_,_,hx⟩:=EV e;rw [h1];simp only [AI,if_true];rw [La t ho hl k (by omega)];rfl

end U
namespace U
def turn (c:Nat):Nat:=if c=101 then 110 else if c=110 then 119 else if c=119 then 115 else 101
def opp (c:Nat):Nat:=turn (turn c)
theorem Ey (c:Nat):Bv (turn c):=by
 unfold turn Bv;split
 ·omega
 ·split
  ·omega
  ·split<;>omega
theorem IE {a b:ByteArray} (h:nats a=nats b):a=b:=by
 unfold nats at h
 have h2:a.data.toList=b.data.toList:=by
  refine List.map_inj_right ?_ |>.mp h;intro x y hxy;exact UInt8.toNat_inj.mp hxy
 cases a with
 | mk a=>
  cases b with
  | mk b=>congr 1;exact Array.toList_inj.mp h2
theorem Fr (l:List Nat) (h:∀ c∈l,c<256):nats (strOfNums (l.map (λc:Nat=>(c:Int))))=l:=by
 unfold nats;rw [strOfNums_data,List.map_map,List.map_map]
 conv=>rhs;rw [<- List.map_id l]
 refine List.map_congr_left λc hc=>?_;have:=h c hc;simp only [Function.comp,Rr,UInt8.toNat_ofNat',id];exact Nat.mod_eq_of_lt (by omega)
theorem EQ {c:Nat} (h:Bv c):c<256:=by unfold Bv at h;omega

end U
namespace U
theorem F6 (s:ByteArray) (i:Nat) (h:i<s.size):∃ c,bt s (i:Int)=(c:Nat)/\(nats s)[i]?=some c:=by
 have h1:=Ha s i h;have h2:=Fp s (i:Int);exact ⟨(bt s (i:Int)).toNat,by omega,h1⟩
theorem FE {l:List Nat} {i c:Nat} (h:l[i]?=some c):l.drop i=c::l.drop (i+1):=by
 obtain ⟨hi,rfl⟩:=List.getElem?_eq_some_iff.mp h;exact Wl hi
def turns:Nat->Nat->Nat
 | 0,c=>c
 | n+1,c=>turns n (turn c)

end U
namespace U
theorem IQ (n:Nat):∀ (d k c i:Nat),i+d=n->n<=3->d<k->AX.l0 k (c:Int) (n:Int) (i:Int)=some ((turns d c:Nat):Int):=by
 intro d
 induction d with
 | zero=>
  intro k c i hi hn hk
  obtain ⟨m,rfl⟩:∃ m,k=m+1:=⟨k-1,by omega⟩
  rw [AX.l0,if_neg (by omega)]
  rfl
 | succ d ih=>
  intro k c i hi hn hk
  obtain ⟨m,rfl⟩:∃ m,k=m+1:=⟨k-1,by omega⟩
  have hw:wrap64 ((i:Int)+1)=((i+1:Nat):Int):=by unfold wrap64;omega
  rw [AX.l0,if_pos (by omega),hw];have h:=λc'=>ih m c' (i+1) (by omega) hn (by omega);by_cases c1:c=101
  ·rw [if_pos (show (c:Int)=101 by omega)];have e:turn c=110:=by unfold turn;rw [if_pos c1]
   rw [turns,e];exact h 110
  ·rw [if_neg (show ¬ (c:Int)=101 by omega)];by_cases c2:c=110
   ·rw [if_pos (show (c:Int)=110 by omega)];have e:turn c=119:=by unfold turn;rw [if_neg c1,if_pos c2]
    rw [turns,e];exact h 119
   ·rw [if_neg (show ¬ (c:Int)=110 by omega)];by_cases c3:c=119
    ·rw [if_pos (show (c:Int)=119 by omega)];have e:turn c=115:=by unfold turn;rw [if_neg c1,if_neg c2,if_pos c3]
     rw [turns,e];exact h 115
    ·rw [if_neg (show ¬ (c:Int)=119 by omega)];have e:turn c=101:=by unfold turn;rw [if_neg c1,if_neg c2,if_neg c3]
     rw [turns,e];exact h 101
theorem Nf (k c:Nat) (hk:4<=k):AX.f k (c:Int) 1=some ((turn c:Nat):Int):=IQ 1 1 k c 0 rfl (by omega) (by omega)
theorem KG (k c:Nat) (hk:4<=k):AX.f k (c:Int) 2=some ((opp c:Nat):Int):=IQ 2 2 k c 0 rfl (by omega) (by omega)
theorem RC (k c:Nat) (hk:4<=k):AX.f k (c:Int) 3=some ((turn (opp c):Nat):Int):=IQ 3 3 k c 0 rfl (by omega) (by omega)

end U
namespace U
def T.tidy:T->Nat->Bool->T
 | .leaf c,q,b=>.leaf (if b=true then opp (turns q c) else turns q c)
 | .one c t,q,b=>if c=45 then t.tidy q (!b) else if c=64 then t.tidy ((q+1) % 4) b else .one c (t.tidy q b)
 | .two x y,q,b=>if b=true then .two (y.tidy q b) (x.tidy q b) else .two (x.tidy q b) (y.tidy q b)
theorem IR:∀ (n c:Nat),Bv c->Bv (turns n c)
 | 0,_,h=>h
 | n+1,c,_=>IR n (turn c) (Ey c)
theorem T.tidy_size:∀ (t:T) (q:Nat) (b:Bool),(t.tidy q b).text.length<=t.text.length
 | .leaf c,q,b=>by simp [T.tidy,T.text]
 | .one c t,q,b=>by
  unfold T.tidy;simp only [T.text,It];split
  ·have:=T.tidy_size t q (!b);omega
  ·split
   ·have:=T.tidy_size t ((q+1) % 4) b;omega
   ·have:=T.tidy_size t q b;simp only [T.text,It];omega
 | .two x y,q,b=>by
  have h1:=T.tidy_size x q b;have h2:=T.tidy_size y q b;unfold T.tidy;rw [T.text_two x y];split<;>rw [T.text_two]<;>omega
theorem Hg (c:Nat) (h:c<256):nats (strOfNums [(c:Int)])=[c]:=Fr [c] (by simpa using h)
theorem Lo (c:Int):(strOfNums [c]).size=1:=rfl
theorem IF (x y:ByteArray):nats (((((⟨#[40]⟩:ByteArray)++x)++(⟨#[43]⟩:ByteArray))++y)++(⟨#[41]⟩:ByteArray))=40::(nats x++43::(nats y++[41])):=by
 rw [Ee,Ee,Ee,Ee];have e1:nats (⟨#[40]⟩:ByteArray)=[40]:=rfl;have e2:nats (⟨#[43]⟩:ByteArray)=[43]:=rfl;have e3:nats (⟨#[41]⟩:ByteArray)=[41]:=rfl;rw [e1,e2,e3];simp
theorem Hl {s:ByteArray} {l:List Nat} {n:Nat} (h:nats s=l) (hl:l.length<=n):s.size<=n:=by rw [<- BU,h];exact hl
def Jo (s:ByteArray):Option T:=if s.size<=60 then E8 (nats s) else none
end U
namespace U
theorem PU:∀ (t:T),t.ok->t.text.length<=60->∀ (q:Nat) (b:Bool),q<4->∀ k,3*t.text.length+10<=k->∃ s,Bp.f k (toS t).f0 (toS t).f1 (q:Int) b=some s/\nats s=(t.tidy q b).text:=by
 intro t
 induction t with
 | leaf c=>
  intro ho hl q b hq k hk
  obtain ⟨m,rfl⟩:∃ m,k=m+3:=⟨k-3,by omega⟩
  have hoo:Bv c:=ho;have hc:=EQ hoo;have ho:Bv c:=ho;unfold Bv at ho;have hT:=IQ q q m c 0 (by omega) (by omega) (by omega);have e0:((0:Nat):Int)=0:=rfl;rw [e0] at hT;simp only [toS];rw [Bp.f,if_neg (by omega),if_neg (by omega),if_neg (by omega),Bp.j0,if_neg (by decide),if_neg (by omega),if_pos (by omega),if_neg (by omega),Bp.j1,AX.f];have hm:4<=m:=by simp only [T.text,It,IS] at hk;omega
  rw [hT];simp only [AI];have hl2:=IR q c hoo
  cases b with
  | true=>
   rw [if_pos rfl,KG m _ hm];simp only [AI]
   exact ⟨_,rfl,by rw [Hg (opp (turns q c)) (EQ (Ey _))];rfl⟩
  | false=>
   rw [if_neg (by decide)]
   exact ⟨_,rfl,by rw [Hg (turns q c) (EQ hl2)];rfl⟩
 | one c t ih=>
  intro ho hl q b hq k hk;simp only [T.text,It] at hk hl
  obtain ⟨m,rfl⟩:∃ m,k=m+3:=⟨k-3,by omega⟩
  have hc:Dh c:=ho.1;unfold Dh at hc;have h0:(0:Int)<(([toS t].length:Nat):Int):=by simp
  have hg:BO [toS t] 0=toS t:=rfl;simp only [toS];rw [Bp.f];by_cases c1:c=45
  ·obtain ⟨s,h1,h2⟩:=ih ho.2 (by omega) q (!b) hq (m+2) (by omega);rw [if_pos (show (c:Int)=45 by omega),if_pos h0,hg,h1];refine ⟨s,rfl,?_⟩
   conv=>rhs;unfold T.tidy
   rw [if_pos c1,h2]
  ·rw [if_neg (show ¬ (c:Int)=45 by omega)];by_cases c2:c=64
   ·obtain ⟨s,h1,h2⟩:=ih ho.2 (by omega) ((q+1) % 4) b (by omega) (m+2) (by omega)
    have hw:Int.tmod (wrap64 ((q:Int)+1)) 4=(((q+1) % 4:Nat):Int):=by
     rw [show wrap64 ((q:Int)+1)=((q+1:Nat):Int) by unfold wrap64;omega,Int.tmod_eq_emod_of_nonneg (by omega)];rfl
    rw [if_pos (show (c:Int)=64 by omega),if_pos h0,hg,hw,h1];refine ⟨s,rfl,?_⟩
    conv=>rhs;unfold T.tidy
    rw [if_neg c1,if_pos c2,h2]
   ·obtain ⟨s,h1,h2⟩:=ih ho.2 (by omega) q b hq (m+1) (by omega);have hz:=Hl h2 (T.tidy_size t q b);rw [if_neg (show ¬ (c:Int)=64 by omega),if_neg (show ¬ (c:Int)=43 by omega),Bp.j0,if_neg (by decide),if_neg (show ¬ (c:Int)=43 by omega),if_pos (show (c:Int)>=50 by omega),if_pos (show (c:Int)<=57 by omega)];simp only [AI];rw [if_pos h0,hg,h1];simp only [AI];rw [if_pos (by rw [Lo];omega)];refine ⟨_,rfl,?_⟩
    conv=>rhs;unfold T.tidy
    rw [if_neg c1,if_neg c2,Ee,Hg _ (by omega),h2]
    rfl
 | two x y ihx ihy=>
  intro ho hl q b hq k hk;rw [T.text_two] at hk hl
  obtain ⟨m,rfl⟩:∃ m,k=m+3:=⟨k-3,by omega⟩
  obtain ⟨s,h1,h2⟩:=ihx ho.1 (by omega) q b hq (m+1) (by omega);obtain ⟨u,h3,h4⟩:=ihy ho.2 (by omega) q b hq (m+1) (by omega);have hz:=Hl h2 (T.tidy_size x q b);have hz':=Hl h4 (T.tidy_size y q b);have hg:BO [toS x,toS y] 0=toS x:=rfl;have hh:BO [toS x,toS y] 1=toS y:=rfl;have hl0:(0:Int)<(([toS x,toS y].length:Nat):Int):=by simp
  have hl1:(1:Int)<(([toS x,toS y].length:Nat):Int):=by simp
  have z1:(⟨#[40]⟩:ByteArray).size=1:=rfl;have z2:(⟨#[43]⟩:ByteArray).size=1:=rfl;simp only [toS];rw [Bp.f,if_neg (by decide),if_neg (by decide),if_pos rfl,Bp.j0]
  cases b with
  | true=>
   rw [if_pos rfl,if_pos hl1,hh,h3];simp only [AI];rw [if_pos (by omega),if_pos (by simp only [ByteArray.size_append];omega),if_pos hl0,hg,h1];simp only [AI];rw [if_pos (by simp only [ByteArray.size_append];omega),if_pos (by simp only [ByteArray.size_append];omega)];refine ⟨_,rfl,?_⟩;rw [IF,h2,h4]
   rfl
  | false=>
   rw [if_neg (by decide),if_pos rfl,if_pos hl0,hg,h1];simp only [AI];rw [if_pos (by omega),if_pos (by simp only [ByteArray.size_append];omega),if_pos hl1,hh,h3];simp only [AI];rw [if_pos (by simp only [ByteArray.size_append];omega),if_pos (by simp only [ByteArray.size_append];omega)];refine ⟨_,rfl,?_⟩;rw [IF,h2,h4];rfl
theorem KC (s:ByteArray) (k:Nat) (hk:300<=k):match Jo s with
  | none=>DJ.f k s=some (⟨#[]⟩,false)
  | some t=>∃ r,DJ.f k s=some (r,true)/\nats r=(t.tidy 0 false).text:=by
 have h:=OU s k (by omega);unfold DJ.f Jo;by_cases hs:s.size<=60
 ·rw [if_pos hs] at h ⊢
  cases e:E8 (nats s) with
  | none=>
   rw [e] at h;obtain ⟨a,b,h⟩:=h;rw [h]
   rfl
  | some t=>
   rw [e] at h;simp only at h ⊢;obtain ⟨ho,hl⟩:=F0.mp e;have hz:=BU s;rw [hl] at hz;obtain ⟨r,h1,h2⟩:=PU t ho (by omega) 0 false (by omega) k (by omega);have e0:((0:Nat):Int)=0:=rfl;rw [e0] at h1;rw [h];simp only [AI,if_true];rw [h1];exact ⟨r,rfl,h2⟩
 ·rw [if_neg hs] at h ⊢;obtain ⟨a,b,h⟩:=h;rw [h];rfl

end U
namespace U
theorem Ml {c:Nat} (h:Bv c):∃ w,w<4/\c=turns w 101/\Br.f (c:Int)=some ((w:Nat):Int):=by
 unfold Bv at h;rcases h with rfl | rfl | rfl | rfl
 ·exact ⟨0,by omega,by decide,rfl⟩
 ·exact ⟨1,by omega,by decide,rfl⟩
 ·exact ⟨2,by omega,by decide,rfl⟩
 ·exact ⟨3,by omega,by decide,rfl⟩

end U
namespace U
theorem Ld (w:Nat) (hw:w<4):nats ((⟨#[101,110,119,115]⟩:ByteArray).extract ((w:Nat):Int).toNat (((w:Nat):Int)+1).toNat)=[turns w 101]:=by
 have:w=0\/w=1\/w=2\/w=3:=by omega
 rcases this with rfl | rfl | rfl | rfl<;>decide
theorem P0 (w q:Nat) (hw:w<4) (hq:q<4):turns q (turns w 101)=turns ((w+q) % 4) 101/\opp (turns q (turns w 101))=turns ((w+q+2) % 4) 101:=by
 have h1:w=0\/w=1\/w=2\/w=3:=by omega
 have h2:q=0\/q=1\/q=2\/q=3:=by omega
 rcases h1 with rfl | rfl | rfl | rfl<;>rcases h2 with rfl | rfl | rfl | rfl<;>decide
theorem Px (w q:Nat) (hw:w<4) (hq:q<4):wrap64 ((w:Int)+(q:Int))=((w+q:Nat):Int)/\wrap64 (((w+q:Nat):Int)+2)=((w+q+2:Nat):Int)/\Int.tmod ((w+q+2:Nat):Int) 4=(((w+q+2) % 4:Nat):Int)/\Int.tmod ((w+q:Nat):Int) 4=(((w+q) % 4:Nat):Int)/\(w+q+2) % 4<4/\(w+q) % 4<4:=by
 refine ⟨by unfold wrap64;omega,by unfold wrap64;omega,?_,?_,by omega,by omega⟩
 ·rw [Int.tmod_eq_emod_of_nonneg (by omega)];rfl
 ·rw [Int.tmod_eq_emod_of_nonneg (by omega)];rfl
theorem MR (x:Nat) (hx:x<4):(if 0<=(x:Int) then (if (x:Int)<=wrap64 ((x:Int)+1) then (if wrap64 ((x:Int)+1)<=4 then some ((⟨#[101,110,119,115]⟩:ByteArray).extract (x:Int).toNat (wrap64 ((x:Int)+1)).toNat) else none) else none) else none)=some ((⟨#[101,110,119,115]⟩:ByteArray).extract (x:Int).toNat ((x:Int)+1).toNat):=by
 rw [show wrap64 ((x:Int)+1)=(x:Int)+1 by unfold wrap64;omega,if_pos (by omega),if_pos (by omega),if_pos (by omega)]
theorem Pp:∀ (t:T),t.ok->t.text.length<=60->∀ (q:Nat) (b:Bool),q<4->∀ k,t.text.length+10<=k->∃ s,Cm.f k (toI t).f0 (toI t).f1 b (q:Int)=some s/\nats s=(t.tidy q b).text:=by
 intro t
 induction t with
 | leaf c=>
  intro ho hl q b hq k hk
  obtain ⟨m,rfl⟩:∃ m,k=m+1:=⟨k-1,by omega⟩
  have ho:Bv c:=ho;obtain ⟨w,hw,hc,hwf⟩:=Ml ho;obtain ⟨e1,e2,e3,e4,hx,hy⟩:=Px w q hw hq;obtain ⟨t1,t2⟩:=P0 w q hw hq;simp only [toI];rw [Cm.f,if_pos (show (([]:List S96).length:Int)=0 from rfl),hwf];simp only [AI];rw [e1,e2,e3,e4,MR _ hx,MR _ hy];have q1:=Ld _ hx;have q2:=Ld _ hy;rw [<- t2,<- hc] at q1;rw [<- t1,<- hc] at q2
  cases b with
  | true=>exact ⟨_,if_pos rfl,q1⟩
  | false=>exact ⟨_,if_neg (by decide),q2⟩
 | one c t ih=>
  intro ho hl q b hq k hk;simp only [T.text,It] at hk hl
  obtain ⟨m,rfl⟩:∃ m,k=m+1:=⟨k-1,by omega⟩
  have hc:Dh c:=ho.1;unfold Dh at hc;have h0:(0:Int)<(([toI t].length:Nat):Int):=by simp
  have hg:CH [toI t] 0=toI t:=rfl;simp only [toI];rw [Cm.f,if_neg (by simp)];by_cases c1:c=45
  ·obtain ⟨s,h1,h2⟩:=ih ho.2 (by omega) q (!b) hq m (by omega);rw [if_pos (show (c:Int)=45 by omega),if_pos h0,hg,h1];refine ⟨s,rfl,?_⟩
   conv=>rhs;unfold T.tidy
   rw [if_pos c1,h2]
  ·rw [if_neg (show ¬ (c:Int)=45 by omega)];by_cases c2:c=64
   ·obtain ⟨s,h1,h2⟩:=ih ho.2 (by omega) ((q+1) % 4) b (by omega) m (by omega)
    have hw:Int.tmod (wrap64 ((q:Int)+1)) 4=(((q+1) % 4:Nat):Int):=by
     rw [show wrap64 ((q:Int)+1)=((q+1:Nat):Int) by unfold wrap64;omega,Int.tmod_eq_emod_of_nonneg (by omega)];rfl
    rw [if_pos (show (c:Int)=64 by omega),if_pos h0,hg,hw,h1];refine ⟨s,rfl,?_⟩
    conv=>rhs;unfold T.tidy
    rw [if_neg c1,if_pos c2,h2]
   ·obtain ⟨s,h1,h2⟩:=ih ho.2 (by omega) q b hq m (by omega);have hz:=Hl h2 (T.tidy_size t q b);rw [if_neg (show ¬ (c:Int)=64 by omega),if_neg (show ¬ (c:Int)=40 by omega)];simp only [AI];rw [if_pos h0,hg,h1];simp only [AI];rw [if_pos (by rw [Lo];omega)];refine ⟨_,rfl,?_⟩
    conv=>rhs;unfold T.tidy
    rw [if_neg c1,if_neg c2,Ee,Hg _ (by omega),h2]
    rfl
 | two x y ihx ihy=>
  intro ho hl q b hq k hk;rw [T.text_two] at hk hl
  obtain ⟨m,rfl⟩:∃ m,k=m+1:=⟨k-1,by omega⟩
  obtain ⟨s,h1,h2⟩:=ihx ho.1 (by omega) q b hq m (by omega);obtain ⟨u,h3,h4⟩:=ihy ho.2 (by omega) q b hq m (by omega);have hz:=Hl h2 (T.tidy_size x q b);have hz':=Hl h4 (T.tidy_size y q b);have hg:CH [toI x,toI y] 0=toI x:=rfl;have hh:CH [toI x,toI y] 1=toI y:=rfl;have hl0:(0:Int)<(([toI x,toI y].length:Nat):Int):=by simp
  have hl1:(1:Int)<(([toI x,toI y].length:Nat):Int):=by simp
  have z1:(⟨#[40]⟩:ByteArray).size=1:=rfl;have z2:(⟨#[43]⟩:ByteArray).size=1:=rfl;simp only [toI];rw [Cm.f,if_neg (by simp),if_neg (by decide),if_neg (by decide),if_pos rfl,if_pos hl0,hg,h1];simp only [AI];rw [if_pos hl1,hh,h3];simp only [AI]
  cases b with
  | true=>
   rw [if_pos rfl,if_pos (by omega),if_pos (by simp only [ByteArray.size_append];omega),if_pos (by simp only [ByteArray.size_append];omega),if_pos (by simp only [ByteArray.size_append];omega)];refine ⟨_,rfl,?_⟩;rw [IF,h2,h4]
   rfl
  | false=>
   rw [if_neg (by decide),if_pos (by omega),if_pos (by simp only [ByteArray.size_append];omega),if_pos (by simp only [ByteArray.size_append];omega),if_pos (by simp only [ByteArray.size_append];omega)];refine ⟨_,rfl,?_⟩;rw [IF,h2,h4];rfl
theorem KB (s:ByteArray) (k:Nat) (hk:300<=k):match Jo s with
  | none=>DF.f k s=some (⟨#[]⟩,false)
  | some t=>∃ r,DF.f k s=some (r,true)/\nats r=(t.tidy 0 false).text:=by
 have h:=OD s;unfold DF.f Jo;by_cases hs:s.size<=60
 ·rw [if_pos hs] at h ⊢
  cases e:E8 (nats s) with
  | none=>
   rw [e] at h;obtain ⟨a,b,h⟩:=h;rw [h]
   rfl
  | some t=>
   rw [e] at h;simp only at h ⊢;obtain ⟨ho,hl⟩:=F0.mp e;have hz:=BU s;rw [hl] at hz;obtain ⟨r,h1,h2⟩:=Pp t ho (by omega) 0 false (by omega) k (by omega);have e0:((0:Nat):Int)=0:=rfl;rw [e0] at h1;rw [h];simp only [AI,if_true];rw [h1];exact ⟨r,rfl,h2⟩
 ·rw [if_neg hs] at h ⊢;obtain ⟨a,b,h⟩:=h;rw [h];rfl

end U
namespace U
def T.walk:T->List Nat
 | .leaf c=>[c]
 | .one c t=>if c=45 then (t.walk.map opp).reverse else if c=64 then t.walk.map turn else (List.replicate (c-48) t.walk).flatten
 | .two a b=>a.walk++b.walk
theorem QJ (n:Nat) (l:List Nat):(List.replicate n l).flatten.length=n*l.length:=by
 induction n with
 | zero=>simp
 | succ n ih=>rw [List.replicate_succ,List.flatten_cons,IN,ih,Nat.succ_mul,Nat.add_comm]
theorem T.walk_len:∀ (t:T),t.ok->t.walk.length=t.len
 | .leaf _,_=>rfl
 | .one c t,h=>by
  have:=T.walk_len t h.2;have hc:=h.1;unfold Dh at hc;unfold T.walk T.len;by_cases c1:c=45
  ·rw [if_pos c1,if_neg (by omega),List.length_reverse,NO,this]
  ·rw [if_neg c1];by_cases c2:c=64
   ·rw [if_pos c2,if_neg (by omega),NO,this]
   ·rw [if_neg c2,if_pos (by omega),QJ,this]
 | .two a b,h=>by
  unfold T.walk T.len;rw [IN,T.walk_len a h.1,T.walk_len b h.2]
theorem T.walk_letters:∀ (t:T),t.ok->∀ c∈t.walk,Bv c
 | .leaf c,h=>by intro d hd;simp [T.walk] at hd;subst hd;exact h
 | .one c t,h=>by
  have ih:=T.walk_letters t h.2;intro d hd;unfold T.walk at hd;split at hd
  ·rw [List.mem_reverse,List.mem_map] at hd;obtain ⟨e,_,rfl⟩:=hd;exact Ey _
  ·split at hd
   ·rw [List.mem_map] at hd;obtain ⟨e,_,rfl⟩:=hd;exact Ey _
   ·rw [List.mem_flatten] at hd;obtain ⟨l,hl,hd⟩:=hd;rw [(List.mem_replicate.mp hl).2] at hd
    exact ih d hd
 | .two a b,h=>by
  intro d hd;unfold T.walk at hd;rcases Ww.mp hd with hd | hd
  ·exact T.walk_letters a h.1 d hd
  ·exact T.walk_letters b h.2 d hd

end U
namespace U
def cast (l:List Nat):List Int:=l.map (λc:Nat=>(c:Int))
theorem FY (a b:List Nat):cast (a++b)=cast a++cast b:=List.map_append
theorem DG {s:ByteArray} {t:T} (ho:t.ok) (h:nats s=t.walk):s.size=t.len:=by
 rw [<- BU,h,T.walk_len t ho]

end U
namespace U
theorem Ku (s:ByteArray) (hs:s.size<=1000) (kids:List S150):∀ (d k i:Nat) (acc:List Nat),i+d=s.size->d+5<=k->acc.length=i->
  Az.l0 k s (cast acc) (i:Int) 64 kids=some (strOfNums (cast (acc++((nats s).drop i).map turn))):=by
 intro d
 induction d with
 | zero=>
  intro k i acc hi hk ha
  obtain ⟨m,rfl⟩:∃ m,k=m+1:=⟨k-1,by omega⟩
  rw [Az.l0,if_neg (by omega),Wm (by rw [BU];omega),List.map_nil,List.append_nil]
 | succ d ih=>
  intro k i acc hi hk ha
  obtain ⟨m,rfl⟩:∃ m,k=m+1:=⟨k-1,by omega⟩
  obtain ⟨c,hc,hc2⟩:=F6 s i (by omega);have hw:wrap64 ((i:Int)+1)=((i+1:Nat):Int):=by unfold wrap64;omega
  rw [Az.l0,if_pos (by omega),if_pos rfl,if_pos (by omega),hc,Nf m c (by omega),hw];simp only [AI];rw [if_pos (by simp [cast];omega)];have e:cast acc++[((turn c:Nat):Int)]=cast (acc++[turn c]):=by rw [FY];rfl
  rw [e,ih m (i+1) (acc++[turn c]) (by omega) (by omega) (by rw [IN,ha];rfl),FE hc2,Wz,Wr];rfl
theorem Ks (s:ByteArray) (hs:s.size<=1000) (kids:List S150):∀ (d k i:Nat) (acc:List Nat),i+d=s.size->d+5<=k->acc.length=i->
  Az.l0 k s (cast acc) (i:Int) 45 kids=some (strOfNums (cast (acc++(((nats s).take (s.size-i)).map opp).reverse))):=by
 intro d
 induction d with
 | zero=>
  intro k i acc hi hk ha
  obtain ⟨m,rfl⟩:∃ m,k=m+1:=⟨k-1,by omega⟩
  rw [Az.l0,if_neg (by omega),show s.size-i=0 by omega]
  simp
 | succ d ih=>
  intro k i acc hi hk ha
  obtain ⟨m,rfl⟩:∃ m,k=m+1:=⟨k-1,by omega⟩
  obtain ⟨c,hc,hc2⟩:=F6 s (s.size-1-i) (by omega);have hw:wrap64 ((i:Int)+1)=((i+1:Nat):Int):=by unfold wrap64;omega
  have hw1:wrap64 ((s.size:Int)-1)=(s.size:Int)-1:=by unfold wrap64;omega
  have hw2:wrap64 ((s.size:Int)-1-i)=((s.size-1-i:Nat):Int):=by unfold wrap64;omega
  rw [Az.l0,if_pos (by omega),if_neg (by decide),hw1,hw2,if_pos (by omega),if_pos (by omega),hc,KG m c (by omega),hw];simp only [AI];rw [if_pos (by simp [cast];omega)];have e:cast acc++[((opp c:Nat):Int)]=cast (acc++[opp c]):=by rw [FY];rfl
  rw [e,ih m (i+1) (acc++[opp c]) (by omega) (by omega) (by rw [IN,ha];rfl)]
  have e2:(nats s).take (s.size-i)=(nats s).take (s.size-(i+1))++[c]:=by
   rw [show s.size-i=(s.size-(i+1))+1 by omega,List.take_add_one,show s.size-(i+1)=s.size-1-i by omega,hc2];rfl
  rw [e2,List.map_append,List.reverse_append,Wr];rfl
theorem Kt (s:ByteArray) (hs:s.size<=1000) (c:Nat) (hc:c<=57) (kids:List S150):∀ (d k b:Nat) (acc:ByteArray),b+d=c->d+1<=k->acc.size+d*s.size<=100000->
  ∃ r,Az.l1 k s acc (b:Int) (c:Int) kids=some r/\nats r=nats acc++(List.replicate d (nats s)).flatten:=by
 intro d
 induction d with
 | zero=>
  intro k b acc hb hk ha
  obtain ⟨m,rfl⟩:∃ m,k=m+1:=⟨k-1,by omega⟩
  rw [Az.l1,if_neg (by omega)]
  exact ⟨_,rfl,by simp⟩
 | succ d ih=>
  intro k b acc hb hk ha
  obtain ⟨m,rfl⟩:∃ m,k=m+1:=⟨k-1,by omega⟩
  rw [Nat.succ_mul] at ha;rw [Az.l1,if_pos (by omega),if_pos (by omega),show ((b:Int)+1) % 256=((b+1:Nat):Int) by omega];obtain ⟨r,hr,hn⟩:=ih m (b+1) (acc++s) (by omega) (by omega) (by rw [ByteArray.size_append];omega);exact ⟨r,hr,by rw [hn,Ee,List.replicate_succ,List.flatten_cons,Wr]⟩
theorem PX:∀ (t:T),t.ok->t.len<=200->∀ k,3*t.text.length+300<=k->∃ s,Az.f k (toS t).f0 (toS t).f1=some s/\nats s=t.walk:=by
 intro t
 induction t with
 | leaf c=>
  intro ho hl k hk
  obtain ⟨m,rfl⟩:∃ m,k=m+3:=⟨k-3,by omega⟩
  have ho:Bv c:=ho;have hc:=EQ ho;unfold Bv at ho;simp only [toS];rw [Az.f,if_neg (by omega),if_neg (by omega),Az.j0,if_neg (by simp;omega)]
  have hj:∀ b,b=false->Az.j2 (m+1) b (c:Int) []=some (strOfNums [(c:Int)]):=by
   intro b hb;subst hb;rw [Az.j2,if_neg (by decide)]
  refine ⟨strOfNums [(c:Int)],?_,Fr [c] (by simpa using hc)⟩;split
  ·exact hj _ (Wp (by omega))
  ·exact hj _ rfl
 | one c t ih=>
  intro ho hl k hk;simp only [T.text,It] at hk
  obtain ⟨m,rfl⟩:∃ m,k=m+3:=⟨k-3,by omega⟩
  have hc:Dh c:=ho.1;have hs:=T.sub_len (t:=t) hc;unfold Dh at hc;obtain ⟨s,h1,h2⟩:=ih ho.2 (by omega) (m+1) (by omega);obtain ⟨s',h1',h2'⟩:=ih ho.2 (by omega) m (by omega);have hz:=DG ho.2 h2;have hz':=DG ho.2 h2';have h0:(0:Int)<(([toS t].length:Nat):Int):=by simp
  have hg:BO [toS t] 0=toS t:=rfl;have hlt:=λd=>@EQ d;have hwl:=T.walk_letters t ho.2;simp only [toS];rw [Az.f,if_neg (show ¬ ((c:Int)=43) by omega)];by_cases c1:c=45
  ·rw [if_pos (show (c:Int)=45 by omega),Az.j0,if_pos rfl,if_pos h0,hg,h1];simp only [AI];have e:=Ks s (by omega) [toS t] s.size (m+1) 0 [] (by omega) (by omega) rfl;have e0:((0:Nat):Int)=0:=rfl;rw [e0] at e;rw [show (c:Int)=45 by omega];refine ⟨_,e,?_⟩;rw [Ws,Nat.sub_zero,List.take_of_length_le (by rw [BU];exact Wn _),h2];rw [show cast (List.map opp t.walk).reverse=((List.map opp t.walk).reverse).map (λc:Nat=>(c:Int)) from rfl,Fr]
   ·unfold T.walk;rw [if_pos c1];cases t<;>rfl
   ·intro d hd;rw [List.mem_reverse,List.mem_map] at hd;obtain ⟨e,_,rfl⟩:=hd;exact EQ (Ey _)
  ·rw [if_neg (show ¬ ((c:Int)=45) by omega),Az.j0];by_cases c2:c=64
   ·rw [if_pos (by simp;omega),if_pos h0,hg,h1];simp only [AI];have e:=Ku s (by omega) [toS t] s.size (m+1) 0 [] (by omega) (by omega) rfl;have e0:((0:Nat):Int)=0:=rfl;rw [e0] at e;rw [show (c:Int)=64 by omega];refine ⟨_,e,?_⟩;rw [Ws,WF,h2];rw [show cast (List.map turn t.walk)=(List.map turn t.walk).map (λc:Nat=>(c:Int)) from rfl,Fr]
    ·conv=>rhs;unfold T.walk
     rw [if_neg c1,if_pos c2]
    ·intro d hd;rw [List.mem_map] at hd;obtain ⟨e,_,rfl⟩:=hd;exact EQ (Ey _)
   ·rw [if_neg (by simp;omega),if_pos (show (c:Int)>=50 by omega),Az.j2,if_pos (Wo (show (c:Int)<=57 by omega)),if_pos h0,hg,h1'];simp only [AI];have hz0:(⟨#[]⟩:ByteArray).size=0:=rfl;have hbd:(c-48)*s'.size<=9*200:=Nat.mul_le_mul (by omega) (by omega);obtain ⟨r,hr,hn⟩:=Kt s' (by omega) c (by omega) [toS t] (c-48) m 48 ⟨#[]⟩ (by omega) (by omega) (by omega);refine ⟨r,hr,?_⟩;rw [hn,h2']
    conv=>rhs;unfold T.walk
    rw [if_neg c1,if_neg c2]
    rfl
 | two a b iha ihb=>
  intro ho hl k hk;rw [T.text_two] at hk
  obtain ⟨m,rfl⟩:∃ m,k=m+1:=⟨k-1,by omega⟩
  have hlen:a.len+b.len<=200:=hl;obtain ⟨s,h1,h2⟩:=iha ho.1 (by omega) m (by omega);obtain ⟨u,h3,h4⟩:=ihb ho.2 (by omega) m (by omega);have hz:=DG ho.1 h2;have hz':=DG ho.2 h4;have hg:BO [toS a,toS b] 0=toS a:=rfl;have hh:BO [toS a,toS b] 1=toS b:=rfl;simp only [toS];rw [Az.f,if_pos rfl,if_pos (by simp),hg,h1];simp only [AI];rw [if_pos (by simp),hh,h3];simp only [AI];rw [if_pos (by omega)];exact ⟨_,rfl,by rw [Ee,h2,h4];rfl⟩

end U
namespace U
theorem OZ (w j:Nat) (hw:w<4) (hj:j<=2):Int.tmod (wrap64 ((w:Int)+(j:Int))) 4=(((w+j) % 4:Nat):Int):=by
 rw [show wrap64 ((w:Int)+(j:Int))=((w+j:Nat):Int) by unfold wrap64;omega,Int.tmod_eq_emod_of_nonneg (by omega)];rfl
theorem Nk (w:Nat) (hw:w<4):bt (⟨#[101,110,119,115]⟩:ByteArray) ((w:Nat):Int)=((turns w 101:Nat):Int):=by
 have:w=0\/w=1\/w=2\/w=3:=by omega
 rcases this with rfl | rfl | rfl | rfl<;>decide
theorem Om (w:Nat) (hw:w<4):turns ((w+1) % 4) 101=turn (turns w 101)/\turns ((w+2) % 4) 101=opp (turns w 101):=by
 have:w=0\/w=1\/w=2\/w=3:=by omega
 rcases this with rfl | rfl | rfl | rfl<;>decide
theorem Nm {c:Nat} (h:Bv c):∃ x:Int,Br.f (c:Int)=some x/\0<=Int.tmod (wrap64 (x+1)) 4/\Int.tmod (wrap64 (x+1)) 4<4/\0<=Int.tmod (wrap64 (x+2)) 4/\Int.tmod (wrap64 (x+2)) 4<4/\
  bt (⟨#[101,110,119,115]⟩:ByteArray) (Int.tmod (wrap64 (x+1)) 4)=((turn c:Nat):Int)/\bt (⟨#[101,110,119,115]⟩:ByteArray) (Int.tmod (wrap64 (x+2)) 4)=((opp c:Nat):Int):=by
 obtain ⟨w,hw,hc,hf⟩:=Ml h;have e1:=OZ w 1 hw (by decide);have e2:=OZ w 2 hw (by decide);obtain ⟨t1,t2⟩:=Om w hw;have l1:(w+1) % 4<4:=Nat.mod_lt _ (by decide);have l2:(w+2) % 4<4:=Nat.mod_lt _ (by decide);refine ⟨w,hf,?_,?_,?_,?_,?_,?_⟩
 ·exact e1▸Int.natCast_nonneg _
 ·exact e1▸Int.ofNat_lt.mpr l1
 ·exact e2▸Int.natCast_nonneg _
 ·exact e2▸Int.ofNat_lt.mpr l2
 ·have:=Nk _ l1;rw [<- e1,t1,<- hc] at this;exact this
 ·have:=Nk _ l2;rw [<- e2,t2,<- hc] at this;exact this
theorem LD {n:Nat} (h:n<4611686018427387904):wrap64 ((n:Int)+1)=((n+1:Nat):Int):=by unfold wrap64;omega
theorem Ot {n i:Nat} (h:n<4611686018427387904) (hi:i<n):wrap64 ((wrap64 ((n:Int)-1))-(i:Int))=((n-1-i:Nat):Int):=by
 rw [show wrap64 ((n:Int)-1)=(n:Int)-1 by unfold wrap64;omega];unfold wrap64;omega
theorem Rt {a:List Int} {x y:Int} {b:List Int} {i:Nat} (h:a.length=i):(a++x::b).set i y=a++y::b:=by
 rw [List.set_append_right _ _ (by omega),show i-a.length=0 by omega];rfl
theorem Kf (s:ByteArray) (hs:s.size<=1000) (hl:∀ c∈nats s,Bv c) (kids:List S96):∀ (d k i:Nat),i+d=s.size->d+1<=k->
  AH.l0 k s (cast (((nats s).take i).map turn)++List.replicate d 0) (s.size:Int) (i:Int) 64 kids=some (strOfNums (cast ((nats s).map turn))):=by
 intro d
 induction d with
 | zero=>
  intro k i hi hk
  obtain ⟨m,rfl⟩:∃ m,k=m+1:=⟨k-1,by omega⟩
  rw [AH.l0,if_neg (by omega),List.take_of_length_le (by rw [BU];omega)]
  simp
 | succ d ih=>
  intro k i hi hk
  obtain ⟨m,rfl⟩:∃ m,k=m+1:=⟨k-1,by omega⟩
  obtain ⟨c,hc,hc2⟩:=F6 s i (by omega);have g1:(i:Int)<(s.size:Int):=by omega
  have g2:(0:Int)<=(i:Int):=by omega
  have hlen:(cast (((nats s).take i).map turn)).length=i:=by simp only [cast,NO,IT,BU];omega
  have g3:(i:Int)<((cast (((nats s).take i).map turn)++List.replicate (d+1) (0:Int)).length:Int):=by rw [IN,hlen,OF];omega
  have g4:=LD (n:=i) (by omega);have g8:=ih m (i+1) (by omega) (by omega);obtain ⟨x,hwf,w2,w3,_,_,w1,_⟩:=Nm (hl c (List.mem_of_getElem? hc2));rw [AH.l0,if_pos g1,if_pos rfl,if_pos g2,if_pos g1,hc,hwf];simp only [AI];rw [if_pos w2,if_pos w3,if_pos g3,w1,g4,Rr,List.replicate_succ,Rt hlen]
  have e:cast (((nats s).take i).map turn)++((turn c:Nat):Int)::List.replicate d 0=cast (((nats s).take (i+1)).map turn)++List.replicate d 0:=by
   rw [List.take_add_one,hc2,List.map_append,FY,Wr];rfl
  rw [e];exact g8
theorem Ke (s:ByteArray) (hs:s.size<=1000) (hl:∀ c∈nats s,Bv c) (kids:List S96):∀ (d k i:Nat),i+d=s.size->d+1<=k->
  AH.l0 k s (List.replicate d 0++cast (((nats s).take i).map opp).reverse) (s.size:Int) (i:Int) 45 kids=some (strOfNums (cast ((nats s).map opp).reverse)):=by
 intro d
 induction d with
 | zero=>
  intro k i hi hk
  obtain ⟨m,rfl⟩:∃ m,k=m+1:=⟨k-1,by omega⟩
  rw [AH.l0,if_neg (by omega),List.take_of_length_le (by rw [BU];omega)]
  simp
 | succ d ih=>
  intro k i hi hk
  obtain ⟨m,rfl⟩:∃ m,k=m+1:=⟨k-1,by omega⟩
  obtain ⟨c,hc,hc2⟩:=F6 s i (by omega);have g1:(i:Int)<(s.size:Int):=by omega
  have g2:(0:Int)<=(i:Int):=by omega
  have g5:wrap64 ((wrap64 ((s.size:Int)-1))-(i:Int))=((s.size-1-i:Nat):Int):=Ot (by omega) (by omega);have g6:(0:Int)<=((s.size-1-i:Nat):Int):=by omega
  have g7:s.size-1-i=d:=by omega
  have hlen:(cast (((nats s).take i).map opp).reverse).length=i:=by simp only [cast,NO,List.length_reverse,IT,BU];omega
  have g3:((s.size-1-i:Nat):Int)<((List.replicate (d+1) (0:Int)++cast (((nats s).take i).map opp).reverse).length:Int):=by rw [IN,hlen,OF];omega
  have g4:=LD (n:=i) (by omega);have g8:=ih m (i+1) (by omega) (by omega);obtain ⟨x,hwf,_,_,w2,w3,_,w1⟩:=Nm (hl c (List.mem_of_getElem? hc2));rw [AH.l0,if_pos g1,if_neg (by decide),if_pos g2,if_pos g1,hc,hwf];simp only [AI];rw [if_pos w2,if_pos w3,g5,if_pos g6,if_pos g3,w1,g4,Rr]
  have e:(List.replicate (d+1) (0:Int)++cast (((nats s).take i).map opp).reverse).set (s.size-1-i) ((opp c:Nat):Int)=List.replicate d 0++cast (((nats s).take (i+1)).map opp).reverse:=by
   rw [List.replicate_succ',Wr,List.singleton_append,Rt (by rw [OF,g7]),List.take_add_one,hc2,List.map_append,List.reverse_append,FY];rfl
  rw [e];exact g8
theorem MW (s:ByteArray):∀ n,nats (⟨(Lib.repeatL s.data.toList n).toArray⟩:ByteArray)=(List.replicate n (nats s)).flatten:=by
 intro n
 induction n with
 | zero=>rfl
 | succ n ih=>
  rw [List.replicate_succ,List.flatten_cons,<- ih];unfold nats;simp [Lib.repeatL]
theorem Ps:∀ (t:T),t.ok->t.len<=200->∀ k,t.text.length+300<=k->∃ s,AH.f k (toI t).f0 (toI t).f1=some s/\nats s=t.walk:=by
 intro t
 induction t with
 | leaf c=>
  intro ho hl k hk
  obtain ⟨m,rfl⟩:∃ m,k=m+1:=⟨k-1,by omega⟩
  have ho:Bv c:=ho;simp only [toI];rw [AH.f,if_pos (by rfl)]
  exact ⟨_,rfl,Fr [c] (by simpa using EQ ho)⟩
 | one c t ih=>
  intro ho hl k hk;simp only [T.text,It] at hk
  obtain ⟨m,rfl⟩:∃ m,k=m+2:=⟨k-2,by omega⟩
  have hc:Dh c:=ho.1;have hs:=T.sub_len (t:=t) hc;unfold Dh at hc;obtain ⟨s,h1,h2⟩:=ih ho.2 (by omega) (m+1) (by omega);have hz:=DG ho.2 h2;have hlt:=T.walk_letters t ho.2;have h0:(0:Int)<(([toI t].length:Nat):Int):=by simp
  have hg:CH [toI t] 0=toI t:=rfl;have hsl:∀ c∈nats s,Bv c:=by rw [h2];exact hlt
  have hmk:∀ b,b=false->AH.j0 (m+1) s b (c:Int) [toI t]=AH.l0 m s (List.replicate s.size 0) (s.size:Int) 0 (c:Int) [toI t]:=by
   intro b hb;subst hb;rw [AH.j0,if_neg (by decide),if_pos (by omega),if_pos (by omega),Rr]
  simp only [toI];rw [AH.f,if_neg (by simp),if_neg (by simp),if_pos h0,hg,h1];simp only [AI];by_cases c1:c=45
  ·rw [if_neg (show ¬ (c:Int)>=50 by omega),hmk _ rfl];have e:=Ke s (by omega) hsl [toI t] s.size m 0 (by omega) (by omega);have e0:((0:Nat):Int)=0:=rfl;rw [e0,WE,List.map_nil] at e;have e2:List.replicate s.size (0:Int)++cast ([]:List Nat).reverse=List.replicate s.size 0:=by rw [show cast ([]:List Nat).reverse=[] from rfl,List.append_nil]
   rw [e2] at e;rw [show (c:Int)=45 by omega];refine ⟨_,e,?_⟩;rw [h2,show cast (List.map opp t.walk).reverse=((List.map opp t.walk).reverse).map (λc:Nat=>(c:Int)) from rfl,Fr]
   ·conv=>rhs;unfold T.walk
    rw [if_pos c1]
   ·intro d hd;rw [List.mem_reverse,List.mem_map] at hd;obtain ⟨e,_,rfl⟩:=hd;exact EQ (Ey _)
  ·by_cases c2:c=64
   ·rw [if_pos (show (c:Int)>=50 by omega),hmk _ (Wp (by omega))];have e:=Kf s (by omega) hsl [toI t] s.size m 0 (by omega) (by omega);have e0:((0:Nat):Int)=0:=rfl;rw [e0,WE,List.map_nil] at e;have e2:cast ([]:List Nat)++List.replicate s.size (0:Int)=List.replicate s.size 0:=rfl;rw [e2] at e;rw [show (c:Int)=64 by omega];refine ⟨_,e,?_⟩;rw [h2,show cast (List.map turn t.walk)=(List.map turn t.walk).map (λc:Nat=>(c:Int)) from rfl,Fr]
    ·conv=>rhs;unfold T.walk
     rw [if_neg c1,if_pos c2]
    ·intro d hd;rw [List.mem_map] at hd;obtain ⟨e,_,rfl⟩:=hd;exact EQ (Ey _)
   ·rw [if_pos (show (c:Int)>=50 by omega),AH.j0,if_pos (Wo (show (c:Int)<=57 by omega)),show ((c:Int)-48) % 256=((c-48:Nat):Int) by omega];unfold strings_Repeat.f;rw [if_pos ⟨by omega,by omega,by omega⟩];refine ⟨_,rfl,?_⟩;rw [Rr,MW,h2]
    conv=>rhs;unfold T.walk
    rw [if_neg c1,if_neg c2]
 | two a b iha ihb=>
  intro ho hl k hk;rw [T.text_two] at hk
  obtain ⟨m,rfl⟩:∃ m,k=m+1:=⟨k-1,by omega⟩
  have hlen:a.len+b.len<=200:=hl;obtain ⟨s,h1,h2⟩:=iha ho.1 (by omega) m (by omega);obtain ⟨u,h3,h4⟩:=ihb ho.2 (by omega) m (by omega);have hz:=DG ho.1 h2;have hz':=DG ho.2 h4;have hg:CH [toI a,toI b] 0=toI a:=rfl;have hh:CH [toI a,toI b] 1=toI b:=rfl;simp only [toI];rw [AH.f,if_neg (by simp),if_pos (by rfl),if_pos (by simp),hg,h1];simp only [AI];rw [if_pos (by simp),hh,h3];simp only [AI];rw [if_pos (by omega)];exact ⟨_,rfl,by rw [Ee,h2,h4];rfl⟩

end U
namespace U
theorem LB (s:ByteArray) (k:Nat) (hk:600<=k):match short s with
  | none=>Dm.f k s=some (⟨#[]⟩,false)
  | some t=>∃ r,Dm.f k s=some (r,true)/\nats r=t.walk:=by
 have h:=Ie s k (by omega);unfold Dm.f
 cases e:short s with
 | none=>
  rw [e] at h;obtain ⟨a,b,h⟩:=h;rw [h]
  rfl
 | some t=>
  rw [e] at h;simp only at h;obtain ⟨ho,hl,_,_,hx⟩:=EV e;obtain ⟨r,h1,h2⟩:=PX t ho hl k (by omega);rw [h];simp only [AI,if_true];rw [h1];exact ⟨r,rfl,h2⟩

end U
namespace U
theorem LA (s:ByteArray) (k:Nat) (hk:600<=k):match short s with
  | none=>CD.f k s=some (⟨#[]⟩,false)
  | some t=>∃ r,CD.f k s=some (r,true)/\nats r=t.walk:=by
 have h:=HV s k (by omega);unfold CD.f
 cases e:short s with
 | none=>
  rw [e] at h;obtain ⟨a,b,h⟩:=h;rw [h]
  rfl
 | some t=>
  rw [e] at h;simp only at h;obtain ⟨ho,hl,_,_,hx⟩:=EV e;obtain ⟨r,h1,h2⟩:=Ps t ho hl k (by omega);rw [h];simp only [AI,if_true];rw [h1];exact ⟨r,rfl,h2⟩

end U
namespace U
def EZ (f:Nat->Nat):List Nat->Nat
 | p::c::l=>(if c=f p then 1 else 0)+EZ f (c::l)
 | _=>0
theorem Hn (f:Nat->Nat):∀ l,EZ f l<=l.length
 | []=>by simp [EZ]
 | [p]=>by simp [EZ]
 | p::c::l=>by
  have:=Hn f (c::l);rw [EZ,It];split<;>omega
def rgt (p:Nat):Nat:=turn (opp p)
theorem KF {p:Nat} (h:Bv p):turn p≠opp p/\turn p≠rgt p/\opp p≠rgt p:=by
 unfold Bv at h;rcases h with rfl | rfl | rfl | rfl<;>decide
theorem RQ:∀ x:Nat,x<4->∀ y:Nat,y<4->(Int.tmod (wrap64 (wrap64 ((x:Int)-(y:Int))+4)) 4=0\/Int.tmod (wrap64 (wrap64 ((x:Int)-(y:Int))+4)) 4=1\/Int.tmod (wrap64 (wrap64 ((x:Int)-(y:Int))+4)) 4=2\/Int.tmod (wrap64 (wrap64 ((x:Int)-(y:Int))+4)) 4=3)/\
  (Int.tmod (wrap64 (wrap64 ((x:Int)-(y:Int))+4)) 4=1↔turns x 101=turn (turns y 101))/\(Int.tmod (wrap64 (wrap64 ((x:Int)-(y:Int))+4)) 4=2↔turns x 101=opp (turns y 101))/\(Int.tmod (wrap64 (wrap64 ((x:Int)-(y:Int))+4)) 4=3↔turns x 101=rgt (turns y 101)):=by decide +kernel
end U
namespace U
theorem QY (s:ByteArray) (hs:s.size<=1000) (hl:∀ c∈nats s,Bv c):∀ (d k i n0 n1 n2 n3:Nat),i+1+d=s.size->d+1<=k->n0<=i->n1<=i->n2<=i->n3<=i->
  Bi.l0 k s (n0:Int) (n1:Int) (n2:Int) (n3:Int) ((i+1:Nat):Int)=some (((n1+EZ turn ((nats s).drop i):Nat):Int),((n3+EZ rgt ((nats s).drop i):Nat):Int),((n2+EZ opp ((nats s).drop i):Nat):Int),true):=by
 intro d
 induction d with
 | zero=>
  intro k i n0 n1 n2 n3 hi hk h0 h1 h2 h3
  obtain ⟨m,rfl⟩:∃ m,k=m+1:=⟨k-1,by omega⟩
  obtain ⟨c,_,hc⟩:=F6 s i (by omega)
  have e:(nats s).drop i=[c]:=by
   rw [FE hc,Wm (by rw [BU];omega)]
  rw [Bi.l0,if_neg (by omega),e]
  rfl
 | succ d ih=>
  intro k i n0 n1 n2 n3 hi hk h0 h1 h2 h3
  obtain ⟨m,rfl⟩:∃ m,k=m+1:=⟨k-1,by omega⟩
  have z1:i<s.size:=by omega
  have z2:i+1<s.size:=by omega
  have wi:wrap64 (((i+1:Nat):Int)-1)=(i:Int):=by unfold wrap64;omega
  have wj:wrap64 (((i+1:Nat):Int)+1)=((i+1+1:Nat):Int):=by unfold wrap64;omega
  have i0:=ih m (i+1) (n0+1) n1 n2 n3 (by omega) (by omega) (by omega) (by omega) (by omega) (by omega);have i1:=ih m (i+1) n0 (n1+1) n2 n3 (by omega) (by omega) (by omega) (by omega) (by omega) (by omega);have i2:=ih m (i+1) n0 n1 (n2+1) n3 (by omega) (by omega) (by omega) (by omega) (by omega) (by omega);have i3:=ih m (i+1) n0 n1 n2 (n3+1) (by omega) (by omega) (by omega) (by omega) (by omega) (by omega);have q0:wrap64 ((n0:Int)+1)=((n0+1:Nat):Int):=by unfold wrap64;omega
  have q1:wrap64 ((n1:Int)+1)=((n1+1:Nat):Int):=by unfold wrap64;omega
  have q2:wrap64 ((n2:Int)+1)=((n2+1:Nat):Int):=by unfold wrap64;omega
  have q3:wrap64 ((n3:Int)+1)=((n3+1:Nat):Int):=by unfold wrap64;omega
  have p1:(((i+1:Nat):Int))<(s.size:Int):=by omega
  have p2:(0:Int)<=((i+1:Nat):Int):=by omega
  have p3:(0:Int)<=(i:Int):=by omega
  have p4:(i:Int)<(s.size:Int):=by omega
  clear ih;obtain ⟨p,hp,hp2⟩:=F6 s i z1;obtain ⟨c,hc,hc2⟩:=F6 s (i+1) z2;obtain ⟨x,hx,hx2,hx3⟩:=Ml (hl c (List.mem_of_getElem? hc2));obtain ⟨y,hy,hy2,hy3⟩:=Ml (hl p (List.mem_of_getElem? hp2));obtain ⟨w0,w1,w2,w3⟩:=RQ x hx y hy;rw [<- hx2,<- hy2] at w1 w2 w3;have ha:=KF (hl p (List.mem_of_getElem? hp2));rw [FE hp2,FE hc2,Bi.l0,if_pos p1,if_pos p2,wi,if_pos p3,if_pos p4,hc,hp,hx3,hy3,wj,q0,q1,q2,q3];simp only [AI,EZ];rw [<- FE hc2];rcases w0 with w | w | w | w
  ·have c1:¬ c=turn p:=λe=>by rw [w1.mpr e] at w;exact absurd w (by decide)
   have c2:¬ c=opp p:=λe=>by rw [w2.mpr e] at w;exact absurd w (by decide)
   have c3:¬ c=rgt p:=λe=>by rw [w3.mpr e] at w;exact absurd w (by decide)
   rw [if_pos w,i0,if_neg c1,if_neg c2,if_neg c3];simp
  ·have c1:c=turn p:=w1.mp w;have c2:¬ c=opp p:=λe=>ha.1 (c1.symm.trans e);have c3:¬ c=rgt p:=λe=>ha.2.1 (c1.symm.trans e);rw [if_neg (by rw [w];decide),if_pos w,i1,if_pos c1,if_neg c2,if_neg c3];simp only [Nat.zero_add,Nat.add_assoc]
  ·have c2:c=opp p:=w2.mp w;have c1:¬ c=turn p:=λe=>ha.1 (e.symm.trans c2);have c3:¬ c=rgt p:=λe=>ha.2.2 (c2.symm.trans e);rw [if_neg (by rw [w];decide),if_neg (by rw [w];decide),if_pos w,i2,if_neg c1,if_pos c2,if_neg c3];simp only [Nat.zero_add,Nat.add_assoc]
  ·have c3:c=rgt p:=w3.mp w;have c1:¬ c=turn p:=λe=>ha.2.1 (e.symm.trans c3);have c2:¬ c=opp p:=λe=>ha.2.2 (e.symm.trans c3);rw [if_neg (by rw [w];decide),if_neg (by rw [w];decide),if_neg (by rw [w];decide),if_pos w,i3,if_neg c1,if_neg c2,if_pos c3];simp only [Nat.zero_add,Nat.add_assoc]
def Ho (s:ByteArray):Int×Int×Int×Bool:=match short s with
 | none=>(0,0,0,false)
 | some t=>((EZ turn t.walk:Int),(EZ rgt t.walk:Int),(EZ opp t.walk:Int),true)
theorem Ok (s:ByteArray) (k:Nat) (hk:900<=k):Bi.f k s=some (Ho s):=by
 have h:=LA s k (by omega);unfold Bi.f Ho
 cases e:short s with
 | none=>
  rw [e] at h;simp only at h
  rw [h,AI,if_neg (by decide)]
 | some t=>
  rw [e] at h;obtain ⟨r,h1,h2⟩:=h;obtain ⟨ho,hlen,hn,hs60,hx⟩:=EV e;have hsz:=DG ho h2;have hp:=T.len_pos ho;have hlt:∀ c∈nats r,Bv c:=by rw [h2];exact T.walk_letters t ho
  rw [h1,AI,if_pos rfl];have key:=QY r (by omega) hlt (r.size-1) k 0 0 0 0 0 (by omega) (by omega) (by omega) (by omega) (by omega) (by omega);rw [WF,h2] at key;simp only [Nat.zero_add] at key;exact key

end U
namespace U
theorem Rz (s:ByteArray) (b:Bool) (hs:s.size<=1000) (hl:∀ c∈nats s,Bv c):∀ (d k i n1 n3 n2:Nat),i+1+d=s.size->d+10<=k->n1<=i->n2<=i->n3<=i->
  BD.l0 k s b (n1:Int) (n3:Int) (n2:Int) ((i+1:Nat):Int)=some (((n1+EZ turn ((nats s).drop i):Nat):Int),((n3+EZ rgt ((nats s).drop i):Nat):Int),((n2+EZ opp ((nats s).drop i):Nat):Int),b):=by
 intro d
 induction d with
 | zero=>
  intro k i n1 n3 n2 hi hk h1 h2 h3
  obtain ⟨m,rfl⟩:∃ m,k=m+1:=⟨k-1,by omega⟩
  obtain ⟨c,_,hc⟩:=F6 s i (by omega)
  have e:(nats s).drop i=[c]:=by
   rw [FE hc,Wm (by rw [BU];omega)]
  rw [BD.l0,if_neg (by omega),e]
  rfl
 | succ d ih=>
  intro k i n1 n3 n2 hi hk h1 h2 h3
  obtain ⟨m,rfl⟩:∃ m,k=m+1:=⟨k-1,by omega⟩
  have z1:i<s.size:=by omega
  have z2:i+1<s.size:=by omega
  have wi:wrap64 (((i+1:Nat):Int)-1)=(i:Int):=by unfold wrap64;omega
  have wj:wrap64 (((i+1:Nat):Int)+1)=((i+1+1:Nat):Int):=by unfold wrap64;omega
  have i0:=ih m (i+1) n1 n3 n2 (by omega) (by omega) (by omega) (by omega) (by omega);have i1:=ih m (i+1) (n1+1) n3 n2 (by omega) (by omega) (by omega) (by omega) (by omega);have i2:=ih m (i+1) n1 n3 (n2+1) (by omega) (by omega) (by omega) (by omega) (by omega);have i3:=ih m (i+1) n1 (n3+1) n2 (by omega) (by omega) (by omega) (by omega) (by omega);have q1:wrap64 ((n1:Int)+1)=((n1+1:Nat):Int):=by unfold wrap64;omega
  have q2:wrap64 ((n2:Int)+1)=((n2+1:Nat):Int):=by unfold wrap64;omega
  have q3:wrap64 ((n3:Int)+1)=((n3+1:Nat):Int):=by unfold wrap64;omega
  have p1:(((i+1:Nat):Int))<(s.size:Int):=by omega
  have p2:(0:Int)<=((i+1:Nat):Int):=by omega
  have p3:(0:Int)<=(i:Int):=by omega
  have p4:(i:Int)<(s.size:Int):=by omega
  have m4:4<=m:=by omega
  clear ih;obtain ⟨p,hp,hp2⟩:=F6 s i z1;obtain ⟨c,hc,hc2⟩:=F6 s (i+1) z2;have ha:=KF (hl p (List.mem_of_getElem? hp2));have t1:=Nf m p m4;have t2:=KG m p m4;have t3:AX.f m (p:Int) 3=some ((rgt p:Nat):Int):=RC m p m4;have nc:∀ a b:Nat,((a:Int)=(b:Int))↔a=b:=λa b=>Int.ofNat_inj;rw [FE hp2,FE hc2,BD.l0,if_pos p1,if_pos p2,wi,if_pos p3,if_pos p4,hc,hp,t1,t2,t3,wj,q1,q2,q3];simp only [AI,EZ];rw [<- FE hc2];by_cases c1:c=turn p
  ·have c2:¬ c=opp p:=λe=>ha.1 (c1.symm.trans e);have c3:¬ c=rgt p:=λe=>ha.2.1 (c1.symm.trans e);rw [if_pos ((nc _ _).mpr c1),i1];rw [if_pos c1,if_neg c2,if_neg c3];simp only [Nat.zero_add,Nat.add_assoc]
  ·rw [if_neg (λe=>c1 ((nc _ _).mp e))];by_cases c2:c=opp p
   ·have c3:¬ c=rgt p:=λe=>ha.2.2 (c2.symm.trans e);rw [if_pos ((nc _ _).mpr c2),i2];rw [if_neg c1,if_pos c2,if_neg c3];simp only [Nat.zero_add,Nat.add_assoc]
   ·rw [if_neg (λe=>c2 ((nc _ _).mp e))];by_cases c3:c=rgt p
    ·rw [if_pos ((nc _ _).mpr c3),i3];rw [if_neg c1,if_neg c2,if_pos c3];simp only [Nat.zero_add,Nat.add_assoc]
    ·rw [if_neg (λe=>c3 ((nc _ _).mp e)),i0];rw [if_neg c1,if_neg c2,if_neg c3];simp
theorem Ol (s:ByteArray) (k:Nat) (hk:900<=k):BD.f k s=some (Ho s):=by
 have h:=LB s k (by omega);unfold BD.f Ho
 cases e:short s with
 | none=>
  rw [e] at h;simp only at h
  obtain ⟨m,rfl⟩:∃ m,k=m+1:=⟨k-1,by omega⟩
  rw [h,AI,BD.l0,if_neg (by decide)]
 | some t=>
  rw [e] at h;obtain ⟨r,h1,h2⟩:=h;obtain ⟨ho,hlen,hn,hs60,hx⟩:=EV e;have hsz:=DG ho h2;have hp:=T.len_pos ho;have hlt:∀ c∈nats r,Bv c:=by rw [h2];exact T.walk_letters t ho
  rw [h1,AI];have key:=Rz r true (by omega) hlt (r.size-1) k 0 0 0 0 (by omega) (by omega) (by omega) (by omega) (by omega);rw [WF,h2] at key;simp only [Nat.zero_add] at key;exact key

end U
end Go.Proofs.YtlgojeodceiglaaGreatDoor.PFnExactExecute
